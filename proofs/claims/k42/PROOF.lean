import PyProof.Rows.All
import Wide.All
import OpenK.AllK
import Wide.FinOn
import HandS.ForMost
import HandS.Exc
import HandS.TryOnly
import HandS.ExcOwn
import HandS.WordsExc
import HandS.Wide
import HandS.TupAny
import HandS.Defaults
import HandS.CallSlots
import HandS.Style
import HandS.Walk
import HandS.Zip
import HandS.IsInst
import HandS.DictComp
import HandS.HeadHook1
import PyProof.StrOps2
import PyProof.Rows.RuleB_pow
import HandS.TupLen
import HandS.WordsDict
import HandS.Conv
import HandS.Dict
import HandS.ForExc
import HandS.Head0
import HandS.Head1
import HandS.Head2
import HandS.HeadEnd
import HandS.HeadHook2
import PySem.Challenge.RW_wholethreads_k42_whole_threads_drawn
set_option Elab.async false
set_option linter.all false
set_option maxRecDepth 100000
set_option maxHeartbeats 0
set_option exponentiation.threshold 6000
namespace F
open PySem PySem.Spec PyProof.Rows L2

/-! ## data, slots, cells, results -/
inductive Vl where
  | non | bl (b : Bool) | int (i : Int) | str (x : Str) | tup (ds : List Vl) | lst (ds : List Vl) | scr (ds : List Vl) | ktp (ds : List Vl)
/-- what an expression gives, what a name holds: data; a cell of the store; a row of a matrix in the store; a new list; a new list of new lists -/
inductive Sl where
  | d (x : Vl) | r (n : Nat) | w (n i : Nat) | n (ds : List Vl) | m (rows : List (List Vl))
inductive Ce where
  | lst (ds : List Vl) | frz (ds : List Vl) | mat (rows : List (List Vl)) | dct (kvs : List (Key × Vl)) | dtp (kvs : List (List Key × Vl)) | dead
abbrev Sto := List Ce
abbrev En := List (Option Sl)
inductive Rs (α : Type) where
  | ok (a : α) (st : Sto) | exc (c : Str) (x : Vl) (st : Sto) | bad
def Rs.bind {α β : Type} : Rs α → (α → Sto → Rs β) → Rs β
  | .ok a st, k => k a st
  | .exc c x st, _ => .exc c x st
  | .bad, _ => .bad
inductive Ot where
  | nx (ρ : En) (st : Sto) | rt (w : Sl) (st : Sto) | bk (ρ : En) (st : Sto) | ct (ρ : En) (st : Sto) | exc (c : Str) (x : Vl) (ρ : En) (st : Sto) | bad

/-! ## what represents what -/
section
variable (K : PySem.W.Frag) (B : Hp)
mutual
inductive Rep : V → Vl → Prop
  | non : Rep .non .non
  | bl (b : Bool) : Rep (.bl b) (.bl b)
  | int (i : Int) : Rep (.int i) (.int i)
  | str (x : Str) : Rep (.str x) (.str x)
  | tup {a : Addr} {xs : List V} {ds : List Vl} : B a = some (.tup xs) → RepL xs ds → Rep (.ref a) (.tup ds)
  | lst {a : Addr} {xs : List V} {ds : List Vl} : B a = some (.lst xs) → RepL xs ds → Rep (.ref a) (.lst ds)
  | scr {a : Addr} {xs : List V} {ds : List Vl} : SqL K B a xs → RepL xs ds → Rep (.ref a) (.scr ds)
  | ktp {a : Addr} {xs : List V} {ds : List Vl} : SqT K B a xs → RepL xs ds → Rep (.ref a) (.ktp ds)
inductive RepL : List V → List Vl → Prop
  | nil : RepL [] []
  | cons {v : V} {d : Vl} {vs : List V} {ds : List Vl} : Rep v d → RepL vs ds → RepL (v :: vs) (d :: ds)
end
end

abbrev Sub (B B' : Hp) : Prop := ∀ a o, B a = some o → B' a = some o
theorem Sub.rd {B B' : Hp} (e : Sub B B') {a : Addr} {u : HO} (h : Rd B a u) : Rd B' a u := by
  cases h with
  | inl h => exact .inl (e _ _ h)
  | inr h => exact .inr ⟨h.choose, e _ _ h.choose_spec⟩
theorem Sub.sqT {K : PySem.W.Frag} {B B' : Hp} (e : Sub B B') {a : Addr} {xs : List V} (h : SqT K B a xs) : SqT K B' a xs := Or.imp e.rd id h
theorem Sub.sqL {K : PySem.W.Frag} {B B' : Hp} (e : Sub B B') {a : Addr} {xs : List V} (h : SqL K B a xs) : SqL K B' a xs := Or.imp e.rd id h
section
variable {K : PySem.W.Frag} {B B' : Hp}
mutual
theorem Rep.mono (e : Sub B B') : ∀ {v : V} {d : Vl}, Rep K B v d → Rep K B' v d
  | _, _, .non => .non
  | _, _, .bl b => .bl b
  | _, _, .int i => .int i
  | _, _, .str x => .str x
  | _, _, .tup h r => .tup (e _ _ h) (RepL.mono e r)
  | _, _, .ktp h r => .ktp (e.sqT h) (RepL.mono e r)
  | _, _, .lst h r => .lst (e _ _ h) (RepL.mono e r)
  | _, _, .scr h r => .scr (e.sqL h) (RepL.mono e r)
theorem RepL.mono (e : Sub B B') : ∀ {vs : List V} {ds : List Vl}, RepL K B vs ds → RepL K B' vs ds
  | _, _, .nil => .nil
  | _, _, .cons h t => .cons (Rep.mono e h) (RepL.mono e t)
end
theorem RepL.length : ∀ {vs : List V} {ds : List Vl}, RepL K B vs ds → vs.length = ds.length
  | _, _, .nil => rfl
  | _, _, .cons _ t => congrArg (· + 1) (RepL.length t)
theorem RepL.get : ∀ {vs : List V} {ds : List Vl} {i : Nat} {d : Vl}, RepL K B vs ds → ds[i]? = some d → ∃ v, vs[i]? = some v ∧ Rep K B v d
  | _, _, _, _, .nil, e => by simp at e
  | _, _, 0, _, .cons h _, e => by
    simp at e
    subst e
    exact ⟨_, rfl, h⟩
  | _, _, i + 1, d, .cons _ t, e => by
    obtain ⟨v, h1, h2⟩ := RepL.get (i := i) (d := d) t (by simpa using e)
    exact ⟨v, by simpa using h1, h2⟩
theorem RepL.back : ∀ {vs : List V} {ds : List Vl} {i : Nat} {v : V}, RepL K B vs ds → vs[i]? = some v → ∃ d, ds[i]? = some d ∧ Rep K B v d
  | _, _, _, _, .nil, e => by simp at e
  | _, _, 0, _, .cons h _, e => by
    simp at e
    subst e
    exact ⟨_, rfl, h⟩
  | _, _, i + 1, d, .cons _ t, e => by
    obtain ⟨v, h1, h2⟩ := RepL.back (i := i) (v := d) t (by simpa using e)
    exact ⟨v, by simpa using h1, h2⟩
theorem RepL.append : ∀ {vs ws : List V} {ds es : List Vl}, RepL K B vs ds → RepL K B ws es → RepL K B (vs ++ ws) (ds ++ es)
  | _, _, _, _, .nil, s => s
  | _, _, _, _, .cons h t, s => .cons h (RepL.append t s)
theorem RepL.one {v : V} {d : Vl} (h : Rep K B v d) : RepL K B [v] [d] := .cons h .nil
theorem RepL.take : ∀ (n : Nat) {vs : List V} {ds : List Vl}, RepL K B vs ds → RepL K B (vs.take n) (ds.take n)
  | 0, _, _, _ => .nil
  | _ + 1, _, _, .nil => .nil
  | n + 1, _, _, .cons h t => .cons h (RepL.take n t)
theorem RepL.drop : ∀ (n : Nat) {vs : List V} {ds : List Vl}, RepL K B vs ds → RepL K B (vs.drop n) (ds.drop n)
  | 0, _, _, h => h
  | _ + 1, _, _, .nil => .nil
  | n + 1, _, _, .cons _ t => RepL.drop n t
theorem RepL.set : ∀ (i : Nat) {vs : List V} {ds : List Vl} {v : V} {d : Vl}, Rep K B v d → RepL K B vs ds → RepL K B (vs.set i v) (ds.set i d)
  | _, _, _, _, _, _, .nil => .nil
  | 0, _, _, _, _, r, .cons _ t => .cons r t
  | i + 1, _, _, _, _, r, .cons h t => .cons h (RepL.set i r t)
theorem RepL.eraseIdx : ∀ (i : Nat) {vs : List V} {ds : List Vl}, RepL K B vs ds → RepL K B (vs.eraseIdx i) (ds.eraseIdx i)
  | _, _, _, .nil => .nil
  | 0, _, _, .cons _ t => t
  | i + 1, _, _, .cons h t => .cons h (RepL.eraseIdx i t)
theorem RepL.reverse : ∀ {vs : List V} {ds : List Vl}, RepL K B vs ds → RepL K B vs.reverse ds.reverse
  | _, _, .nil => .nil
  | _, _, .cons h t => by
    rw [List.reverse_cons, List.reverse_cons]
    exact RepL.append (RepL.reverse t) (RepL.one h)
end

/-- the store's addresses: of each cell its own, and those of a matrix's rows -/
abbrev Ad := List (Addr × List Addr)
def own (p : Addr × List Addr) : List Addr := p.1 :: p.2
def flat (β : Ad) : List Addr := β.flatMap own
theorem mem_flat {β : Ad} {n : Nat} {p : Addr × List Addr} {a : Addr} (h : β[n]? = some p) (ha : a ∈ own p) : a ∈ flat β :=
  List.mem_flatMap.mpr ⟨p, List.mem_of_getElem? h, ha⟩
theorem mem_flat1 {β : Ad} {n : Nat} {p : Addr × List Addr} (h : β[n]? = some p) : p.1 ∈ flat β := mem_flat h (List.mem_cons_self)
theorem of_mem_flat {β : Ad} {a : Addr} (h : a ∈ flat β) : ∃ (n : Nat) (p : Addr × List Addr), β[n]? = some p ∧ a ∈ own p := by
  obtain ⟨p, hp, ha⟩ := List.mem_flatMap.mp h
  obtain ⟨n, hn⟩ := List.getElem?_of_mem hp
  exact ⟨n, p, hn, ha⟩
theorem flat_append (β γ : Ad) : flat (β ++ γ) = flat β ++ flat γ := by unfold flat; rw [List.flatMap_append]
theorem flat_apart : ∀ {β : Ad} {i j : Nat} {p q : Addr × List Addr} {a : Addr}, (flat β).Nodup → β[i]? = some p → β[j]? = some q → a ∈ own p → a ∈ own q → i = j
  | [], i, _, _, _, _, _, h, _, _, _ => by simp at h
  | b :: β, i, j, p, q, a, nd, hi, hj, hp, hq => by
    have e : flat (b :: β) = own b ++ flat β := rfl
    rw [e] at nd
    have nd2 := List.nodup_append.mp nd
    match i, j, hi, hj with
    | 0, 0, _, _ => rfl
    | 0, j + 1, hi, hj =>
      simp at hi hj
      subst hi
      exact absurd rfl (nd2.2.2 a hp a (mem_flat hj hq))
    | i + 1, 0, hi, hj =>
      simp at hi hj
      subst hj
      exact absurd rfl (nd2.2.2 a hq a (mem_flat hi hp))
    | i + 1, j + 1, hi, hj => exact congrArg (· + 1) (flat_apart nd2.2.1 (by simpa using hi) (by simpa using hj) hp hq)

def keyD : Key → Vl
  | .inl i => .int i
  | .inr x => .str x
section
variable (K : PySem.W.Frag) (B H : Hp)
def RowOk (a : Addr) (ds : List Vl) : Prop := B a = none ∧ ∃ xs, H a = some (.lst xs) ∧ RepL K B xs ds
def CellOk (p : Addr × List Addr) : Ce → Prop
  | .lst ds => RowOk K B H p.1 ds
  | .frz ds => ∃ xs, B p.1 = some (.lst xs) ∧ RepL K B xs ds
  | .mat rows => B p.1 = none ∧ H p.1 = some (.lst (p.2.map V.ref)) ∧ Paired (RowOk K B H) p.2 rows
  | .dtp kvs => B p.1 = none ∧ ∃ ks : List (List Key × V), H p.1 = some (.dT ks) ∧ Paired (fun (x : List Key × V) (y : List Key × Vl) => x.1 = y.1 ∧ Rep K B x.2 y.2) ks kvs
  | .dct kvs => B p.1 = none ∧ ∃ ks : List (Key × V), H p.1 = some (.dK ks) ∧ Paired (fun (x : Key × V) (y : Key × Vl) => x.1 = y.1 ∧ Rep K B x.2 y.2) ks kvs
  | .dead => True
/-- the store st stands at β; B: what is frozen -/
structure SR (β : Ad) (st : Sto) : Prop where
  len : β.length = st.length
  nd : (flat β).Nodup
  trk : ∀ a ∈ flat β, ∃ o, H a = some o
  sub : Sub B H
  cell : ∀ (n : Nat) (p : Addr × List Addr) (c : Ce), β[n]? = some p → st[n]? = some c → CellOk K B H p c
end
/-- from one state to a later one -/
structure Go (B H : Hp) (β : Ad) (B' H' : Hp) (β' : Ad) : Prop where
  fz : Sub B B'
  hd : ∀ (n : Nat) (p : Addr × List Addr), β[n]? = some p → β'[n]? = some p
  keep : ∀ a o, H a = some o → a ∉ flat β → H' a = some o
  tr : ∀ a o, H a = some o → ∃ o', H' a = some o'
  nb : ∀ a, a ∈ flat β' → a ∈ flat β ∨ H a = none
  nf : ∀ a o, B' a = some o → B a = some o ∨ a ∈ flat β ∨ H a = none
theorem none_back {B H B' H' : Hp} {β β' : Ad} (g : Go B H β B' H' β') {a : Addr} (h : H' a = none) : H a = none := by
  cases e : H a with
  | none => rfl
  | some o =>
    obtain ⟨o', e'⟩ := g.tr a o e
    rw [h] at e'
    cases e'
theorem Go.refl (B H : Hp) (β : Ad) : Go B H β B H β := ⟨fun _ _ h => h, fun _ _ h => h, fun _ _ h _ => h, fun _ o h => ⟨o, h⟩, fun _ h => .inl h, fun _ _ h => .inl h⟩
theorem Go.trans {B H B1 H1 B2 H2 : Hp} {β β1 β2 : Ad} (g : Go B H β B1 H1 β1) (k : Go B1 H1 β1 B2 H2 β2) : Go B H β B2 H2 β2 where
  fz := fun a o h => k.fz a o (g.fz a o h)
  hd := fun n p h => k.hd n p (g.hd n p h)
  keep := fun a o h hn => k.keep a o (g.keep a o h hn) fun hm => by
    rcases g.nb a hm with z | z
    · exact hn z
    · rw [z] at h; cases h
  tr := fun a o h => by
    obtain ⟨o1, h1⟩ := g.tr a o h
    exact k.tr a o1 h1
  nb := fun a h => by
    rcases k.nb a h with z | z
    · exact g.nb a z
    · exact .inr (none_back g z)
  nf := fun a o h => by
    rcases k.nf a o h with z | z | z
    · exact g.nf a o z
    · exact .inr (g.nb a z)
    · exact .inr (.inr (none_back g z))

section
variable (K : PySem.W.Frag)
/-- a slot's content -/
def RepS (B : Hp) (β : Ad) (v : V) : Sl → Prop
  | .d x => Rep K B v x
  | .r n => ∃ p, β[n]? = some p ∧ v = .ref p.1
  | .w n i => ∃ p a, β[n]? = some p ∧ p.2[i]? = some a ∧ v = .ref a
  | _ => False
/-- a result, H₀ the heap ahead of it -/
def RepW (H₀ B H : Hp) (β : Ad) (v : V) : Sl → Prop
  | .d x => Rep K B v x
  | .r n => ∃ p, β[n]? = some p ∧ v = .ref p.1
  | .w n i => ∃ p a, β[n]? = some p ∧ p.2[i]? = some a ∧ v = .ref a
  | .n ds => ∃ a, v = .ref a ∧ H₀ a = none ∧ a ∉ flat β ∧ RowOk K B H a ds
  | .m rows => ∃ a as, v = .ref a ∧ (∀ b ∈ a :: as, H₀ b = none ∧ b ∉ flat β ∧ B b = none) ∧ (a :: as).Nodup ∧ H a = some (.lst (as.map V.ref)) ∧ Paired (RowOk K B H) as rows
def ER (B : Hp) (β : Ad) (σ : L2.St) (ρ : En) : Prop := σ.length = ρ.length ∧ ∀ (i : Nat) (w : Sl), ρ[i]? = some (some w) → ∃ v, σ[i]? = some (some v) ∧ RepS K B β v w
end
theorem Paired.imp' {α β : Type} {P Q : α → β → Prop} (h : ∀ a b, P a b → Q a b) : ∀ {xs : List α} {ys : List β}, Paired P xs ys → Paired Q xs ys
  | _, _, .nil => .nil
  | _, _, .cons x t => .cons (h _ _ x) (Paired.imp' h t)
theorem Paired.impM {α β : Type} {P Q : α → β → Prop} : ∀ {xs : List α} {ys : List β}, (∀ a b, a ∈ xs → P a b → Q a b) → Paired P xs ys → Paired Q xs ys
  | _, _, _, .nil => .nil
  | _, _, h, .cons x t => .cons (h _ _ List.mem_cons_self x) (Paired.impM (fun a b m => h a b (List.mem_cons_of_mem _ m)) t)
section
variable {K : PySem.W.Frag} {H₀ B H B' H' : Hp} {β β' : Ad} {st : Sto} {v : V}
theorem RepS.go (g : Go B H β B' H' β') : ∀ {w : Sl}, RepS K B β v w → RepS K B' β' v w
  | .d _, h => Rep.mono g.fz h
  | .r _, ⟨p, hp, e⟩ => ⟨p, g.hd _ p hp, e⟩
  | .w _ _, ⟨p, a, hp, e⟩ => ⟨p, a, g.hd _ p hp, e⟩
  | .n _, h => h
  | .m _, h => h
theorem ER.go {σ : L2.St} {ρ : En} (g : Go B H β B' H' β') (h : ER K B β σ ρ) : ER K B' β' σ ρ := ⟨h.1, fun i w e => by
  obtain ⟨v, hv, r⟩ := h.2 i w e
  exact ⟨v, hv, r.go g⟩⟩
/-- a row outside the store stays -/
theorem RowOk.go (g : Go B H β B' H' β') {a : Addr} {ds : List Vl} (ha : a ∉ flat β) (h : RowOk K B H a ds) : RowOk K B' H' a ds := by
  obtain ⟨hB, xs, hH, r⟩ := h
  refine ⟨?_, xs, g.keep a _ hH ha, r.mono g.fz⟩
  cases e : B' a with
  | none => rfl
  | some o =>
    rcases g.nf a o e with z | z | z
    · rw [hB] at z; cases z
    · exact absurd z ha
    · rw [hH] at z; cases z
theorem notin_go (g : Go B H β B' H' β') {a : Addr} {o : HO} (ha : a ∉ flat β) (h : H a = some o) : a ∉ flat β' := fun hm => by
  rcases g.nb a hm with z | z
  · exact ha z
  · rw [h] at z; cases z
theorem RepW.go (g : Go B H β B' H' β') : ∀ {w : Sl}, RepW K H₀ B H β v w → RepW K H₀ B' H' β' v w
  | .d _, h => Rep.mono g.fz h
  | .r _, ⟨p, hp, e⟩ => ⟨p, g.hd _ p hp, e⟩
  | .w _ _, ⟨p, a, hp, e⟩ => ⟨p, a, g.hd _ p hp, e⟩
  | .n _, ⟨a, e, h0, ha, r⟩ => ⟨a, e, h0, notin_go g ha r.2.choose_spec.1, r.go g ha⟩
  | .m rows, ⟨a, as, e, h0, nd, hH, r⟩ => by
    have htr : ∀ b ∈ a :: as, ∃ o, H b = some o := by
      intro b hb
      rcases List.mem_cons.mp hb with z | z
      · exact ⟨_, by rw [z]; exact hH⟩
      · obtain ⟨i, hi⟩ := List.getElem?_of_mem z
        clear nd hH h0 hb e
        induction r generalizing i with
        | nil => simp at hi
        | cons x t ih =>
          cases i with
          | zero =>
            simp at hi
            subst hi
            exact ⟨_, x.2.choose_spec.1⟩
          | succ i =>
            rcases List.mem_cons.mp z with y | y
            · exact ⟨_, by rw [y]; exact x.2.choose_spec.1⟩
            · exact ih y i (by simpa using hi)
    refine ⟨a, as, e, fun b hb => ?_, nd, g.keep a _ hH (h0 a List.mem_cons_self).2.1, Paired.impM (fun b ds hb x => x.go g (h0 b (List.mem_cons_of_mem _ hb)).2.1) r⟩
    obtain ⟨x1, x2, x3⟩ := h0 b hb
    obtain ⟨o, ho⟩ := htr b hb
    refine ⟨x1, notin_go g x2 ho, ?_⟩
    cases q : B' b with
    | none => rfl
    | some o' =>
      rcases g.nf b o' q with z | z | z
      · rw [x3] at z; cases z
      · exact absurd z x2
      · rw [ho] at z; cases z
/-- seen from an earlier state -/
theorem RepW.early {H₁ : Hp} (hb : ∀ a, H₁ a = none → H₀ a = none) : ∀ {w : Sl}, RepW K H₁ B H β v w → RepW K H₀ B H β v w
  | .d _, h => h
  | .r _, h => h
  | .w _ _, h => h
  | .n _, ⟨a, e, h0, r⟩ => ⟨a, e, hb a h0, r⟩
  | .m rows, ⟨a, as, e, h0, r⟩ => ⟨a, as, e, fun b m => ⟨hb b (h0 b m).1, (h0 b m).2⟩, r⟩
theorem RepS.w : ∀ {w : Sl}, RepS K B β v w → RepW K H₀ B H β v w
  | .d _, h => h
  | .r _, h => h
  | .w _ _, h => h
  | .n _, h => h.elim
  | .m _, h => h.elim
end

/-! ## readings -/
/-- an exception of the class named c, whose value is x -/
def XRep (K : PySem.W.Frag) (B H : Hp) (c : Str) (x : Vl) (cls : Value) (dd : Option Addr) : Prop :=
  cls = .ref (He.ga K c) ∧ ∃ d v, dd = some d ∧ H d = some (.xd [(("value" : Str), v)]) ∧ Rep K B v x
section
variable {α γ : Type} (K : PySem.W.Frag) (wh : WX) (σ : L2.St)
abbrev Rl (α γ : Type) := Hp → Hp → Hp → Ad → γ → α → Prop
def OkG (Rel : Rl α γ) (H₀ B H : Hp) (β : Ad) (r : Rs α) (Q : γ → Hp → Prop) : Prop :=
  match r with
  | .ok a st => ∀ g B' H' β', Go B H β B' H' β' → SR K B' H' β' st → Rel H₀ B' H' β' g a → Q g H'
  | .exc c x st => ∀ cls dd B' H' β', Go B H β B' H' β' → SR K B' H' β' st → XRep K B' H' c x cls dd → wh cls dd σ H'
  | .bad => False
def rd (Rel : Rl α γ) (f : En → Sto → Rs α) : L2.St → Hp → (γ → Hp → Prop) → Prop := fun σ H Q =>
  ∃ B β st ρ, SR K B H β st ∧ ER K B β σ ρ ∧ OkG K wh σ Rel H B H β (f ρ st) Q
end
/-- the relation of later states, and of earlier beginnings -/
structure RlOk {α γ : Type} (Rel : Rl α γ) : Prop where
  go : ∀ {H₀ B H B' H' β β' g a}, Go B H β B' H' β' → Rel H₀ B H β g a → Rel H₀ B' H' β' g a
  early : ∀ {H₀ H₁ B H β g a}, (∀ a, H₁ a = none → H₀ a = none) → Rel H₁ B H β g a → Rel H₀ B H β g a
def relW (K : PySem.W.Frag) : Rl Sl V := fun H₀ B H β v w => RepW K H₀ B H β v w
def relD (K : PySem.W.Frag) : Rl Vl V := fun _ B _ _ v x => Rep K B v x
def relB : Rl Bool Bool := fun _ _ _ _ x y => x = y
def relS (K : PySem.W.Frag) : Rl (List Sl) (List V) := fun _ B _ β vs ws => Paired (RepS K B β) vs ws
def relL (K : PySem.W.Frag) : Rl (List Vl) (List V) := fun _ B _ _ vs ds => RepL K B vs ds
/-- a new list -/
def relN (K : PySem.W.Frag) : Rl (List Vl) V := fun H₀ B H β v ds => RepW K H₀ B H β v (.n ds)
variable {K : PySem.W.Frag}
theorem okW : RlOk (relW K) := ⟨fun g r => RepW.go g r, fun h r => RepW.early h r⟩
theorem okD : RlOk (relD K) := ⟨fun g r => Rep.mono g.fz r, fun _ r => r⟩
theorem okB : RlOk relB := ⟨fun _ r => r, fun _ r => r⟩
theorem okS : RlOk (relS K) := ⟨fun g r => Paired.imp' (fun _ _ x => RepS.go g x) r, fun _ r => r⟩
theorem okL : RlOk (relL K) := ⟨fun g r => RepL.mono g.fz r, fun _ r => r⟩
theorem okN : RlOk (relN K) := ⟨fun g r => RepW.go g r, fun h r => RepW.early h r⟩
section
variable {α α' γ γ' : Type} {wh : WX} {σ : L2.St} {Rel : Rl α γ} {Rel' : Rl α' γ'} {H₀ B H : Hp} {β : Ad}
/-- a result and what is done with it -/
theorem OkG.next {r : Rs α} {k : α → Sto → Rs α'} {Q : γ' → Hp → Prop} {Q1 : γ → Hp → Prop} (h : OkG K wh σ Rel' H₀ B H β (r.bind k) Q)
    (n : ∀ a st g B1 H1 β1, r = .ok a st → Go B H β B1 H1 β1 → SR K B1 H1 β1 st → Rel H₀ B1 H1 β1 g a → OkG K wh σ Rel' H₀ B1 H1 β1 (k a st) Q → Q1 g H1) : OkG K wh σ Rel H₀ B H β r Q1 := by
  cases r with
  | ok a st =>
    intro g B1 H1 β1 go sr re
    refine n a st g B1 H1 β1 rfl go sr re ?_
    have h2 : OkG K wh σ Rel' H₀ B H β (k a st) Q := h
    cases e : k a st with
    | ok a2 st2 =>
      rw [e] at h2
      exact fun g2 B2 H2 β2 go2 => h2 g2 B2 H2 β2 (go.trans go2)
    | exc c x st2 =>
      rw [e] at h2
      exact fun cls dd B2 H2 β2 go2 => h2 cls dd B2 H2 β2 (go.trans go2)
    | bad =>
      rw [e] at h2
      exact h2
  | exc c x st => exact h
  | bad => exact h
/-- the beginning seen from an earlier heap -/
theorem OkG.late {r : Rs α} {Q : γ → Hp → Prop} {H₁ : Hp} (ok : RlOk Rel) (hb : ∀ a, H₁ a = none → H₀ a = none) (h : OkG K wh σ Rel H₀ B H β r Q) : OkG K wh σ Rel H₁ B H β r Q := by
  cases r with
  | ok a st => exact fun g B' H' β' go sr re => h g B' H' β' go sr (ok.early hb re)
  | exc c x st => exact h
  | bad => exact h
theorem OkG.imp {r : Rs α} {Q Q' : γ → Hp → Prop} (h : OkG K wh σ Rel H₀ B H β r Q) (q : ∀ g H', Q g H' → Q' g H') : OkG K wh σ Rel H₀ B H β r Q' := by
  cases r with
  | ok a st => exact fun g B' H' β' go sr re => q _ _ (h g B' H' β' go sr re)
  | exc c x st => exact h
  | bad => exact h
/-- a result told at once -/
theorem OkG.pure {a : α} {st : Sto} {Q : γ → Hp → Prop} (h : OkG K wh σ Rel H₀ B H β (.ok a st) Q) {g : γ} (sr : SR K B H β st) (re : Rel H₀ B H β g a) : Q g H := h g B H β (Go.refl _ _ _) sr re
end
/-- first one reading, then another one at the same names -/
theorem rd_then {α α' γ γ' : Type} {wh : WX} {σ : L2.St} {H : Hp} {Rel : Rl α γ} {Rel' : Rl α' γ'} {f : En → Sto → Rs α} {k : α → En → Sto → Rs α'} {Q : γ' → Hp → Prop} {Q1 : γ → Hp → Prop}
    (h : rd K wh Rel' (fun ρ st => (f ρ st).bind fun a st1 => k a ρ st1) σ H Q)
    (n : ∀ (a : α) (st : Sto) (ρ : En) (g : γ) (B₀ B1 H1 : Hp) (β₀ β1 : Ad), Go B₀ H β₀ B1 H1 β1 → SR K B1 H1 β1 st → ER K B1 β1 σ ρ → Rel H B1 H1 β1 g a → OkG K wh σ Rel' H B1 H1 β1 (k a ρ st) Q → Q1 g H1) : rd K wh Rel f σ H Q1 := by
  obtain ⟨B, β, st, ρ, sr, er, ok⟩ := h
  exact ⟨B, β, st, ρ, sr, er, ok.next fun a st1 g B1 H1 β1 _ go sr1 re ok1 => n a st1 ρ g B B1 H1 β β1 go sr1 (er.go go) re ok1⟩
end F

namespace F
open PySem PySem.Spec PyProof.Rows L2
/-! ## settled results -/
abbrev Ex := En → Sto → Rs Sl
abbrev ExN := En → Sto → Rs (List Vl)
abbrev Tst := En → Sto → Rs Bool
abbrev Ar := En → Sto → Rs (List Sl)
def relO (K : PySem.W.Frag) : Rl Sl V := fun _ B _ β v w => RepS K B β v w
theorem okO {K : PySem.W.Frag} : RlOk (relO K) := ⟨fun g r => RepS.go g r, fun _ r => r⟩
def settle : Rs Sl → Rs Sl
  | .ok (.d x) st => .ok (.d x) st
  | .ok (.r n) st => .ok (.r n) st
  | .ok (.w n i) st => .ok (.w n i) st
  | .ok (.n ds) st => .ok (.d (.lst ds)) st
  | .ok (.m rows) st => .ok (.d (.lst (rows.map .lst))) st
  | .exc c x st => .exc c x st
  | .bad => .bad
def frozen : Rs (List Vl) → Rs Sl
  | .ok ds st => .ok (.d (.lst ds)) st
  | .exc c x st => .exc c x st
  | .bad => .bad
def fresh : Rs (List Vl) → Rs Sl
  | .ok ds st => .ok (.n ds) st
  | .exc c x st => .exc c x st
  | .bad => .bad
/-- B with H at L -/
def frzB (B H : Hp) (L : List Addr) : Hp := fun b => if b ∈ L then H b else B b
section
variable {K : PySem.W.Frag} {B₀ H₀ B H B' H' : Hp} {β₀ β β' : Ad} {st : Sto} {L : List Addr}
theorem frzB_in {a : Addr} (h : a ∈ L) : frzB B H L a = H a := if_pos h
theorem frzB_out {a : Addr} (h : a ∉ L) : frzB B H L a = B a := if_neg h
theorem sub_frzB (h : ∀ b ∈ L, B b = none) : Sub B (frzB B H L) := fun b u e => by
  by_cases m : b ∈ L
  · rw [h b m] at e; cases e
  · rw [frzB_out m]; exact e
theorem Go.freeze (g : Go B₀ H₀ β₀ B H β) (h0 : ∀ b ∈ L, H₀ b = none) (hB : ∀ b ∈ L, B b = none) : Go B₀ H₀ β₀ (frzB B H L) H β where
  fz := fun b u h => sub_frzB hB b u (g.fz b u h)
  hd := g.hd
  keep := g.keep
  tr := g.tr
  nb := g.nb
  nf := fun b u h => by
    by_cases m : b ∈ L
    · exact .inr (.inr (h0 b m))
    · rw [frzB_out m] at h; exact g.nf b u h
theorem RowOk.mono (s : Sub B B') (k : ∀ o, H (a : Addr) = some o → H' a = some o) {ds : List Vl} (hB : B' a = none) (h : RowOk K B H a ds) : RowOk K B' H' a ds := by
  obtain ⟨_, xs, hx, r⟩ := h
  exact ⟨hB, xs, k _ hx, r.mono s⟩
theorem mem_rows {as : List Addr} {rows : List (List Vl)} (h : Paired (RowOk K B H) as rows) : ∀ b ∈ as, ∃ ds, RowOk K B H b ds := by
  induction h with
  | nil => intro b m; simp at m
  | cons x t ih =>
    intro b m
    rcases List.mem_cons.mp m with e | e
    · rw [e]; exact ⟨_, x⟩
    · exact ih b e
/-- a cell seen from other heaps that agree at its addresses -/
theorem CellOk.move {p : Addr × List Addr} {c : Ce} (s : Sub B B') (hb : ∀ a ∈ own p, B a = none → B' a = none) (hh : ∀ a ∈ own p, ∀ o, B a = none → H a = some o → H' a = some o) (h : CellOk K B H p c) : CellOk K B' H' p c := by
  have m1 : p.1 ∈ own p := List.mem_cons_self
  cases c with
  | lst ds => exact RowOk.mono s (fun o q => hh _ m1 o h.1 q) (hb _ m1 h.1) h
  | frz ds =>
    obtain ⟨xs, e, r⟩ := h
    exact ⟨xs, s _ _ e, r.mono s⟩
  | mat rows =>
    obtain ⟨h1, h2, h3⟩ := h
    exact ⟨hb _ m1 h1, hh _ m1 _ h1 h2, Paired.impM (fun b ds m x => RowOk.mono s (fun o q => hh _ (List.mem_cons_of_mem _ m) o x.1 q) (hb _ (List.mem_cons_of_mem _ m) x.1) x) h3⟩
  | dct kvs =>
    obtain ⟨h1, ks, h2, h3⟩ := h
    exact ⟨hb _ m1 h1, ks, hh _ m1 _ h1 h2, Paired.imp' (fun _ _ x => ⟨x.1, Rep.mono s x.2⟩) h3⟩
  | dtp kvs =>
    obtain ⟨h1, ks, h2, h3⟩ := h
    exact ⟨hb _ m1 h1, ks, hh _ m1 _ h1 h2, Paired.imp' (fun _ _ x => ⟨x.1, Rep.mono s x.2⟩) h3⟩
  | dead => trivial
theorem SR.freeze (sr : SR K B H β st) (hB : ∀ b ∈ L, B b = none) (hf : ∀ b ∈ L, b ∉ flat β) : SR K (frzB B H L) H β st where
  len := sr.len
  nd := sr.nd
  trk := sr.trk
  sub := fun b u h => by
    by_cases m : b ∈ L
    · rw [frzB_in m] at h; exact h
    · rw [frzB_out m] at h; exact sr.sub b u h
  cell := fun n p c hp hc => CellOk.move (sub_frzB hB) (fun a ha q => by
    rw [frzB_out fun m => hf a m (mem_flat hp ha)]; exact q) (fun _ _ _ _ q => q) (sr.cell n p c hp hc)
/-- a new thing tracked, to be frozen at once or to stay outside -/
theorem SR.laid {p : Addr} {o : HO} (sr : SR K B H β st) (hp : H p = none) : SR K B (upd H p o) β st := by
  have ne : ∀ {b u}, H b = some u → b ≠ p := fun q z => by rw [z, hp] at q; cases q
  refine ⟨sr.len, sr.nd, fun a ha => ?_, fun a u h => ?_, fun n q c hq hc => CellOk.move (fun _ _ h => h) (fun _ _ h => h) (fun a ha u _ h => ?_) (sr.cell n q c hq hc)⟩
  · obtain ⟨u, h⟩ := sr.trk a ha
    exact ⟨u, by rw [upd_ne (ne h)]; exact h⟩
  · rw [upd_ne (ne (sr.sub a u h))]; exact sr.sub a u h
  · rw [upd_ne (ne h)]; exact h
theorem Go.laid {p : Addr} {o : HO} (hp : H p = none) : Go B H β B (upd H p o) β where
  fz := fun _ _ h => h
  hd := fun _ _ h => h
  keep := fun a u h _ => by
    rw [upd_ne (show a ≠ p from fun z => by rw [z, hp] at h; cases h)]
    exact h
  tr := fun a u h => ⟨u, by rw [upd_ne (show a ≠ p from fun z => by rw [z, hp] at h; cases h)]; exact h⟩
  nb := fun _ h => .inl h
  nf := fun _ _ h => .inl h
theorem not_flat (sr : SR K B H β st) {p : Addr} (hp : H p = none) : p ∉ flat β := fun m => by
  obtain ⟨o, h⟩ := sr.trk p m
  rw [hp] at h; cases h
theorem not_fro (sr : SR K B H β st) {p : Addr} (hp : H p = none) : B p = none := by
  cases e : B p with
  | none => rfl
  | some o =>
    have := sr.sub p o e
    rw [hp] at this; cases this
/-- a new thing, frozen -/
theorem SR.laidF {p : Addr} {o : HO} (sr : SR K B H β st) (hp : H p = none) : SR K (upd B p o) (upd H p o) β st := by
  have s1 := (sr.laid (o := o) hp).freeze (L := [p]) (fun b m => by rw [List.mem_singleton.mp m]; exact not_fro sr hp) (fun b m => by rw [List.mem_singleton.mp m]; exact not_flat sr hp)
  have e : frzB B (upd H p o) [p] = upd B p o := by
    funext b
    by_cases m : b = p
    · subst m
      rw [frzB_in (List.mem_singleton.mpr rfl), upd_same, upd_same]
    · rw [frzB_out (fun z => m (List.mem_singleton.mp z)), upd_ne m]
  rw [e] at s1
  exact s1
theorem Go.laidF {p : Addr} {o : HO} (sr : SR K B H β st) (hp : H p = none) : Go B H β (upd B p o) (upd H p o) β where
  fz := fun a u h => by
    rw [upd_ne (show a ≠ p from fun z => by rw [z, not_fro sr hp] at h; cases h)]
    exact h
  hd := fun _ _ h => h
  keep := (Go.laid (B := B) (β := β) hp).keep
  tr := (Go.laid (B := B) (β := β) hp).tr
  nb := fun _ h => .inl h
  nf := fun a u h => by
    by_cases m : a = p
    · subst m; exact .inr (.inr hp)
    · rw [upd_ne m] at h; exact .inl h
theorem sqL_new {p : Addr} {xs : List V} : SqL K (upd B p (.lst xs)) p xs := .inl (.inl upd_same)
theorem sqT_at {H : Hp} {p : Addr} {xs : List V} (h : H p = some (.tup xs)) : SqT K H p xs := .inl (.inl h)
theorem sub_new (sr : SR K B H β st) {p : Addr} {o : HO} (hp : H p = none) : Sub B (upd B p o) := (Go.laidF sr hp).fz
end
section
variable {K : PySem.W.Frag} {wh : WX} {σ : L2.St} {H B : Hp} {β : Ad}
/-- what is settled is frozen where it stands -/
theorem OkG.settle {r : Rs Sl} {Q : VK} (sr0 : Sub B H) (h : OkG K wh σ (relO K) H B H β (settle r) Q) : OkG K wh σ (relW K) H B H β r Q := by
  cases r with
  | ok w st =>
    intro v B' H' β' go sr re
    cases w with
    | d x => exact h v B' H' β' go sr re
    | r n => exact h v B' H' β' go sr re
    | w n i => exact h v B' H' β' go sr re
    | n ds =>
      obtain ⟨a, rfl, h0, ha, hB, xs, hx, rl⟩ := re
      have sB : ∀ b ∈ [a], B' b = none := fun b m => by rw [List.mem_singleton.mp m]; exact hB
      refine h (.ref a) (frzB B' H' [a]) H' β' (go.freeze (fun b m => by rw [List.mem_singleton.mp m]; exact h0) sB) (sr.freeze sB fun b m => by rw [List.mem_singleton.mp m]; exact ha) ?_
      exact Rep.lst (by rw [frzB_in (List.mem_singleton.mpr rfl)]; exact hx) (rl.mono (sub_frzB sB))
    | m rows =>
      obtain ⟨a, as, rfl, hh, nd, hx, rl⟩ := re
      have sB : ∀ b ∈ a :: as, B' b = none := fun b m => (hh b m).2.2
      refine h (.ref a) (frzB B' H' (a :: as)) H' β' (go.freeze (fun b m => (hh b m).1) sB) (sr.freeze sB fun b m => (hh b m).2.1) ?_
      refine Rep.lst (by rw [frzB_in List.mem_cons_self]; exact hx) ?_
      have key : ∀ (bs : List Addr) (rs : List (List Vl)), (∀ b ∈ bs, b ∈ a :: as) → Paired (RowOk K B' H') bs rs → RepL K (frzB B' H' (a :: as)) (bs.map V.ref) (rs.map Vl.lst) := by
        intro bs rs hm p
        induction p with
        | nil => exact .nil
        | cons x t ih =>
          obtain ⟨_, xs, hx, r⟩ := x
          exact .cons (Rep.lst (by rw [frzB_in (hm _ List.mem_cons_self)]; exact hx) (r.mono (sub_frzB sB))) (ih fun b m => hm b (List.mem_cons_of_mem _ m))
      exact key as rows (fun b m => List.mem_cons_of_mem _ m) rl
  | exc c x st => exact h
  | bad => exact h
theorem OkG.frozen {r : Rs (List Vl)} {Q : VK} (sr0 : Sub B H) (h : OkG K wh σ (relO K) H B H β (frozen r) Q) : OkG K wh σ (relN K) H B H β r Q := by
  cases r with
  | ok ds st => exact OkG.settle (r := .ok (.n ds) st) sr0 h
  | exc c x st => exact h
  | bad => exact h
theorem OkG.fresh {r : Rs (List Vl)} {Q : VK} (h : OkG K wh σ (relW K) H B H β (fresh r) Q) : OkG K wh σ (relN K) H B H β r Q := by
  cases r with
  | ok ds st => exact h
  | exc c x st => exact h
  | bad => exact h
end
/-! ## judgements -/
section
variable {X : Cx} {wh : WX} {e : Expr} {es : List Expr}
theorem PE.imp {t t' : TE} (h : PE X e t) (k : ∀ σ H Q, t' σ H Q → t σ H Q) : PE X e t' := ⟨fun pins s σ H Q I q => h.run pins s σ H Q I (k σ H Q q)⟩
theorem PT.imp {t t' : TT} (h : PT X e t) (k : ∀ σ H Q, t' σ H Q → t σ H Q) : PT X e t' := ⟨fun pins s σ H Q I q => h.run pins s σ H Q I (k σ H Q q)⟩
theorem PA.imp {t t' : TA} (h : PA X es t) (k : ∀ σ H Q, t' σ H Q → t σ H Q) : PA X es t' := ⟨fun pos pins s σ H Q I q => h.run pos pins s σ H Q I (k σ H Q q)⟩
theorem PS.imp {st : Stmt} {t t' : TS} (h : PS X st t) (k : ∀ D σ H, t' D σ H → t D σ H) : PS X st t' := ⟨fun pins s σ H D I q => h.run pins s σ H D I (k D σ H q)⟩
theorem PSs.imp {st : List Stmt} {t t' : TS} (h : PSs X st t) (k : ∀ D σ H, t' D σ H → t D σ H) : PSs X st t' := ⟨fun pins s σ H D I q => h.run pins s σ H D I (k D σ H q)⟩
variable (X wh) in
/-- e gives what f tells: settled; any; a new list; a test; arguments -/
abbrev PO (e : Expr) (f : Ex) : Prop := PE X e (rd X.K wh (relO X.K) f)
variable (X wh) in
abbrev PW (e : Expr) (f : Ex) : Prop := PE X e (rd X.K wh (relW X.K) f)
variable (X wh) in
abbrev PN (e : Expr) (f : ExN) : Prop := PE X e (rd X.K wh (relN X.K) f)
variable (X wh) in
abbrev PB (e : Expr) (f : Tst) : Prop := PT X e (rd X.K wh relB f)
variable (X wh) in
abbrev PR (es : List Expr) (f : Ar) : Prop := PA X es (rd X.K wh (relS X.K) f)
theorem po_w {f : Ex} (h : PW X wh e f) : PO X wh e (fun ρ st => settle (f ρ st)) := PE.imp h fun σ H Q ⟨B, β, st, ρ, sr, er, ok⟩ => ⟨B, β, st, ρ, sr, er, ok.settle sr.sub⟩
theorem po_n {f : ExN} (h : PN X wh e f) : PO X wh e (fun ρ st => frozen (f ρ st)) := PE.imp h fun σ H Q ⟨B, β, st, ρ, sr, er, ok⟩ => ⟨B, β, st, ρ, sr, er, ok.frozen sr.sub⟩
theorem pw_n {f : ExN} (h : PN X wh e f) : PW X wh e (fun ρ st => fresh (f ρ st)) := PE.imp h fun σ H Q ⟨B, β, st, ρ, sr, er, ok⟩ => ⟨B, β, st, ρ, sr, er, ok.fresh⟩
theorem pw_o {f : Ex} (h : PO X wh e f) : PW X wh e f := PE.imp h fun σ H Q ⟨B, β, st, ρ, sr, er, ok⟩ => ⟨B, β, st, ρ, sr, er, by
  cases e : f ρ st with
  | ok w st2 =>
    rw [e] at ok
    exact fun g B' H' β' go sr re => ok g B' H' β' go sr (RepS.w re)
  | exc c x st2 => rw [e] at ok; exact ok
  | bad => rw [e] at ok; exact ok⟩
end
/-! ## names, constants -/
def eVar (i : Nat) : Ex := fun ρ st => match ρ[i]? with
  | some (some w) => .ok w st
  | _ => .bad
def eC (x : Vl) : Ex := fun _ st => .ok (.d x) st
section
variable {X : Cx} {wh : WX}
theorem rd_var {K : PySem.W.Frag} {σ : L2.St} {H : Hp} {Q : VK} {i : Nat} (h : rd K wh (relO K) (eVar i) σ H Q) : tVar i σ H Q := by
  obtain ⟨B, β, st, ρ, sr, er, ok⟩ := h
  unfold eVar at ok
  cases e : ρ[i]? with
  | none => rw [e] at ok; exact ok.elim
  | some o =>
    cases o with
    | none => rw [e] at ok; exact ok.elim
    | some w =>
      rw [e] at ok
      obtain ⟨v, hv, r⟩ := er.2 i w e
      exact ⟨v, hv, OkG.pure ok sr r⟩
theorem f_var {i : Nat} {x : Str} {pos : Pos} (hN : X.N[i]? = some x := by rfl) (hv : Vis X.env.scope x := by first | exact Or.inl rfl | exact Or.inr (Or.inl rfl) | exact Or.inr (Or.inr rfl)) (hd : (x == ("__debug__" : Str)) = false := by decide) (hcd : (x == ("__classdict__" : Str)) = false := by decide) :
    PO X wh (.Name x pos) (eVar i) := PE.imp (pe_var hN hv hd hcd) fun _ _ _ h => rd_var h
/-- a constant whose value is told -/
theorem rd_c {K : PySem.W.Frag} {σ : L2.St} {H : Hp} {Q : VK} {v : V} {x : Vl} (r : ∀ B, Rep K B v x) (h : rd K wh (relO K) (eC x) σ H Q) : tC v σ H Q := by
  obtain ⟨B, β, st, ρ, sr, er, ok⟩ := h
  exact OkG.pure ok sr (show RepS K B β v (.d x) from r B)
theorem f_int {i : Int} {j : Nat} {pos : Pos} : PO X wh (.Constant (.int i) j pos) (eC (.int i)) := PE.imp pe_int fun _ _ _ h => rd_c (fun _ => .int i) h
theorem f_bl {b : Bool} {j : Nat} {pos : Pos} : PO X wh (.Constant (.bool b) j pos) (eC (.bl b)) := PE.imp pe_bl fun _ _ _ h => rd_c (fun _ => .bl b) h
theorem f_non {j : Nat} {pos : Pos} : PO X wh (.Constant .none j pos) (eC .non) := PE.imp pe_non fun _ _ _ h => rd_c (fun _ => .non) h
theorem f_str {x : Str} {j : Nat} {pos : Pos} : PO X wh (.Constant (.str x) j pos) (eC (.str x)) := PE.imp pe_str fun _ _ _ h => rd_c (fun _ => .str x) h
/-- a module's constant -/
theorem f_glob {x : Str} {v : V} {u : Value} {d : Vl} {pos : Pos} (hg : Gl X x) (hm : X.mg x = some u) (r : RelV v u) (q : ∀ B, Rep X.K B v d) (hd : (x == ("__debug__" : Str)) = false := by decide) : PO X wh (.Name x pos) (eC d) :=
  PE.imp (pe_glob hg hm r hd) fun _ _ _ h => rd_c q h
end
/-! ## operations on values -/
abbrev Op2 := Sl → Sl → Sto → Rs Sl
def eBin (op : Op2) (a b : Ex) : Ex := fun ρ st => (a ρ st).bind fun x st1 => (b ρ st1).bind fun y st2 => op x y st2
/-- r is what the values' operation asks -/
def Snd2 (K : PySem.W.Frag) (r : R2) (op : Op2) : Prop := ∀ (wh : WX) (σ : L2.St) (H₀ B H : Hp) (β : Ad) (st : Sto) (x y : Sl) (v u : V) (Q : VK),
  SR K B H β st → RepS K B β v x → RepS K B β u y → OkG K wh σ (relO K) H₀ B H β (op x y st) Q → r v u H Q
section
variable {X : Cx} {wh : WX} {a b : Expr} {fa fb : Ex} {pos : Pos}
theorem rd_op {K : PySem.W.Frag} {σ : L2.St} {H : Hp} {Q : VK} {r : R2} {op : Op2} (s : Snd2 K r op) (h : rd K wh (relO K) (eBin op fa fb) σ H Q) : tOp r (rd K wh (relO K) fa) (rd K wh (relO K) fb) σ H Q :=
  rd_then (k := fun x ρ st => (fb ρ st).bind fun y st2 => op x y st2) h fun x st ρ v B₀ B1 H1 β₀ β1 go sr er re ok => ⟨B1, β1, st, ρ, sr, er, OkG.late okO (fun _ q => none_back go q) <|
    (OkG.next ok fun y st2 u B2 H2 β2 _ go2 sr2 re2 ok2 => s wh σ H B2 H2 β2 st2 x y v u Q sr2 (RepS.go go2 re) re2 ok2)⟩
theorem f_bin {op : Operator} {r : R2} {o : Op2} (ho : OpR X (binaryOp op) r) (s : Snd2 X.K r o) (ha : PO X wh a fa) (hb : PO X wh b fb) : PO X wh (.BinOp a op b pos) (eBin o fa fb) :=
  PE.imp (pe_op ho ha hb) fun _ _ _ h => rd_op s h
theorem f_cmp {op : CmpOp} {r : R2} {o : Op2} (ho : OpR X (compareOp op) r) (s : Snd2 X.K r o) (ha : PO X wh a fa) (hb : PO X wh b fb) (hm : behindInMarks op b = false) : PO X wh (.Compare a [op] [b] pos) (eBin o fa fb) :=
  PE.imp (pe_cmpR ho ha hb hm) fun _ _ _ h => rd_op s h
end
end F

namespace F
open PySem PySem.Spec PyProof.Rows L2
/-! ## data as the library has it -/
mutual
def Vl.py : Vl → PyData
  | .non => .none
  | .bl b => .bool b
  | .int i => .int i
  | .str x => .str x
  | .tup ds => .tuple (Vl.pys ds)
  | .lst ds => .list (Vl.pys ds)
  | .scr ds => .list (Vl.pys ds)
  | .ktp ds => .tuple (Vl.pys ds)
def Vl.pys : List Vl → List PyData
  | [] => []
  | d :: ds => d.py :: Vl.pys ds
end
section
variable {K : PySem.W.Frag} {B : Hp}
mutual
theorem Rep.dp : ∀ {v : V} {d : Vl}, Rep K B v d → Dp K B v d.py
  | _, _, .non => .non
  | _, _, .bl b => .bl b
  | _, _, .int i => .int i
  | _, _, .str x => .str x
  | _, _, .tup h r => .tup (sqT_at h) (RepL.dp r)
  | _, _, .lst h r => .lst (.inl (.inl h)) (RepL.dp r)
  | _, _, .scr h r => .lst h (RepL.dp r)
  | _, _, .ktp h r => .tup h (RepL.dp r)
theorem RepL.dp : ∀ {vs : List V} {ds : List Vl}, RepL K B vs ds → DpAll K B vs (Vl.pys ds)
  | _, _, .nil => .nil
  | _, _, .cons h t => .cons (Rep.dp h) (RepL.dp t)
end
end
/-- a list that may be joined; the list that a result is, if it is one -/
def plainOf (w : Sl) (st : Sto) : Option (List Vl) := match w with
  | .d (.lst ds) => some ds
  | .r n => (match st[n]? with
    | some (.lst ds) => some ds
    | some (.frz ds) => some ds
    | _ => none)
  | .w n i => (match st[n]? with
    | some (.mat rows) => rows[i]?
    | _ => none)
  | _ => none
theorem row_at {K : PySem.W.Frag} {B H : Hp} : ∀ {as : List Addr} {rows : List (List Vl)} {i : Nat} {ds : List Vl}, Paired (RowOk K B H) as rows → rows[i]? = some ds → ∃ a, as[i]? = some a ∧ RowOk K B H a ds
  | _, _, _, _, .nil, e => by simp at e
  | _, _, 0, _, .cons x _, e => by
    simp at e
    subst e
    exact ⟨_, rfl, x⟩
  | _, _, i + 1, ds, .cons _ t, e => by
    obtain ⟨a, h1, h2⟩ := row_at (i := i) (ds := ds) t (by simpa using e)
    exact ⟨a, by simpa using h1, h2⟩
def listOf (w : Sl) (st : Sto) : Option (List Vl) := match w with
  | .d (.scr ds) => some ds
  | w => plainOf w st
/-- the list or tuple -/
def seqOf (w : Sl) (st : Sto) : Option (List Vl) := match w with
  | .d (.tup ds) => some ds
  | .d (.ktp ds) => some ds
  | w => listOf w st
section
variable {K : PySem.W.Frag} {B H : Hp} {β : Ad} {st : Sto}
theorem cell_of (sr : SR K B H β st) {n : Nat} {v : V} {c : Ce} (r : RepS K B β v (.r n)) (hc : st[n]? = some c) : ∃ p, β[n]? = some p ∧ v = .ref p.1 ∧ CellOk K B H p c := by
  obtain ⟨p, hp, e⟩ := r
  exact ⟨p, hp, e, sr.cell n p c hp hc⟩
theorem plain_of (sr : SR K B H β st) {w : Sl} {v : V} {ds : List Vl} (r : RepS K B β v w) (e : plainOf w st = some ds) : ∃ a xs, v = .ref a ∧ H a = some (.lst xs) ∧ RepL K B xs ds := by
  cases w with
  | d x =>
    cases x with
    | lst es =>
      cases (show some es = some ds from e)
      cases r with
      | lst h rl => exact ⟨_, _, rfl, sr.sub _ _ h, rl⟩
    | _ => cases e
  | r n =>
    unfold plainOf at e
    cases h : st[n]? with
    | none => simp only [h] at e; cases e
    | some c =>
      simp only [h] at e
      obtain ⟨p, hp, ev, co⟩ := cell_of sr r h
      cases c with
      | lst es =>
        cases (show some es = some ds from e)
        obtain ⟨_, xs, hx, rl⟩ := co
        exact ⟨p.1, xs, ev, hx, rl⟩
      | frz es =>
        cases (show some es = some ds from e)
        obtain ⟨xs, hx, rl⟩ := co
        exact ⟨p.1, xs, ev, sr.sub _ _ hx, rl⟩
      | _ => cases e
  | w n i =>
    unfold plainOf at e
    cases h : st[n]? with
    | none => simp only [h] at e; cases e
    | some c =>
      simp only [h] at e
      cases c with
      | mat rows =>
        obtain ⟨p, a, hp, ha, rfl⟩ := r
        obtain ⟨_, _, h3⟩ := sr.cell n p _ hp h
        obtain ⟨b, hb, _, xs, hx, rl⟩ := row_at h3 e
        rw [ha] at hb
        cases hb
        exact ⟨a, xs, rfl, hx, rl⟩
      | _ => cases e
  | n _ => cases e
  | m _ => cases e
theorem list_of (sr : SR K B H β st) {w : Sl} {v : V} {ds : List Vl} (r : RepS K B β v w) (e : listOf w st = some ds) : ∃ a xs, v = .ref a ∧ SqL K H a xs ∧ RepL K B xs ds := by
  cases w with
  | d x =>
    cases x with
    | lst es =>
      obtain ⟨a, xs, h1, h2, h3⟩ := plain_of sr r e
      exact ⟨a, xs, h1, .inl (.inl h2), h3⟩
    | scr es =>
      cases (show some es = some ds from e)
      cases r with
      | scr h rl => exact ⟨_, _, rfl, sr.sub.sqL h, rl⟩
    | _ => cases e
  | r n =>
    obtain ⟨a, xs, h1, h2, h3⟩ := plain_of sr r e
    exact ⟨a, xs, h1, .inl (.inl h2), h3⟩
  | w n i =>
    obtain ⟨a, xs, h1, h2, h3⟩ := plain_of sr r e
    exact ⟨a, xs, h1, .inl (.inl h2), h3⟩
  | n _ => cases e
  | m _ => cases e
theorem seq_of (sr : SR K B H β st) {w : Sl} {v : V} {ds : List Vl} (r : RepS K B β v w) (e : seqOf w st = some ds) : ∃ a xs, v = .ref a ∧ (SqL K H a xs ∨ SqT K H a xs) ∧ RepL K B xs ds := by
  cases w with
  | d x =>
    cases x with
    | tup es =>
      cases (show some es = some ds from e)
      cases r with
      | tup h rl => exact ⟨_, _, rfl, .inr (sqT_at (sr.sub _ _ h)), rl⟩
    | ktp es =>
      cases (show some es = some ds from e)
      cases r with
      | ktp h rl => exact ⟨_, _, rfl, .inr (sr.sub.sqT h), rl⟩
    | lst es =>
      obtain ⟨a, xs, h1, h2, h3⟩ := list_of sr r e
      exact ⟨a, xs, h1, .inl h2, h3⟩
    | scr es =>
      obtain ⟨a, xs, h1, h2, h3⟩ := list_of sr r e
      exact ⟨a, xs, h1, .inl h2, h3⟩
    | _ => cases e
  | r n =>
    obtain ⟨a, xs, h1, h2, h3⟩ := list_of sr r e
    exact ⟨a, xs, h1, .inl h2, h3⟩
  | w n i =>
    obtain ⟨a, xs, h1, h2, h3⟩ := list_of sr r e
    exact ⟨a, xs, h1, .inl h2, h3⟩
  | n _ => cases e
  | m _ => cases e
/-- the whole as data -/
def pyOf (w : Sl) (st : Sto) : Option PyData := match w with
  | .d x => some x.py
  | w => (listOf w st).map fun ds => .list (Vl.pys ds)
mutual
theorem dp_sub {B B' : Hp} (s : Sub B B') : ∀ {v : V} {d : PyData}, Dp K B v d → Dp K B' v d
  | _, _, .non => .non
  | _, _, .bl b => .bl b
  | _, _, .int i => .int i
  | _, _, .str x => .str x
  | _, _, .tup h r => .tup (s.sqT h) (dps_sub s r)
  | _, _, .lst h r => .lst (s.sqL h) (dps_sub s r)
theorem dps_sub {B B' : Hp} (s : Sub B B') : ∀ {v : List V} {d : List PyData}, DpAll K B v d → DpAll K B' v d
  | _, _, .nil => .nil
  | _, _, .cons h t => .cons (dp_sub s h) (dps_sub s t)
end
theorem py_of (sr : SR K B H β st) {w : Sl} {v : V} {d : PyData} (r : RepS K B β v w) (e : pyOf w st = some d) : Dp K H v d := by
  have key : (listOf w st).map (fun ds => PyData.list (Vl.pys ds)) = some d → Dp K H v d := fun e' => by
    cases h : listOf w st with
    | none => rw [h] at e'; cases e'
    | some ds =>
      rw [h] at e'
      cases e'
      obtain ⟨a, xs, rfl, h2, h3⟩ := list_of sr r h
      exact .lst h2 (dps_sub sr.sub (RepL.dp h3))
  cases w with
  | d x =>
    cases (show some x.py = some d from e)
    exact dp_sub sr.sub (Rep.dp r)
  | r n => exact key e
  | w n i => exact key e
  | n _ => cases e
  | m _ => cases e
end

/-! ## arithmetic -/
def mulOk (i j : Int) : Bool := decide (i.natAbs < 2 ^ 60) || decide (j.natAbs < 2 ^ 60) || (decide (i.natAbs < 2 ^ 5000) && decide (j.natAbs < 2 ^ 5000))
theorem mulOk_ok {i j : Int} (h : mulOk i j = true) : IntMulOk i j := by
  unfold mulOk at h
  simp only [Bool.or_eq_true, Bool.and_eq_true, decide_eq_true_eq] at h
  rcases h with (h | h) | ⟨h1, h2⟩
  · exact CMul.ok (.inl ⟨by omega, by omega⟩)
  · exact CMul.ok (.inr ⟨by omega, by omega⟩)
  · exact CMulW.ok (wide_mul h1 h2 (by omega) (by omega) (by omega))
/-- the one, or else the other -/
def alt (o o' : Op2) : Op2 := fun x y st => match o x y st with
  | .bad => o' x y st
  | r => r
theorem Snd2.alt {K : PySem.W.Frag} {r r' : R2} {o o' : Op2} (h : Snd2 K r o) (h' : Snd2 K r' o') : Snd2 K (fun x y H Q => r x y H Q ∨ r' x y H Q) (F.alt o o') := by
  intro wh σ H₀ B H β st x y v u Q sr rx ry ok
  have g := h wh σ H₀ B H β st x y v u Q sr rx ry
  unfold F.alt at ok
  cases e : o x y st with
  | ok w st2 =>
    simp only [e] at ok g
    exact .inl (g ok)
  | exc c z st2 =>
    simp only [e] at ok g
    exact .inl (g ok)
  | bad =>
    simp only [e] at ok
    exact .inr (h' wh σ H₀ B H β st x y v u Q sr rx ry ok)
/-- two ints, under a condition -/
def opI (c : Int → Int → Bool) (g : Int → Int → Vl) : Op2
  | .d (.int i), .d (.int j), st => if c i j = true then .ok (.d (g i j)) st else .bad
  | _, _, _ => .bad
def opI0 (g : Int → Int → Vl) : Op2
  | .d (.int i), .d (.int j), st => .ok (.d (g i j)) st
  | _, _, _ => .bad
theorem snd_I {K : PySem.W.Frag} {c : Int → Int → Bool} {C : Int → Int → Prop} {g : Int → Int → Vl} {g' : Int → Int → V} (hc : ∀ i j, c i j = true → C i j) (hg : ∀ B i j, Rep K B (g' i j) (g i j)) : Snd2 K (rI C g') (opI c g) := by
  intro wh σ H₀ B H β st x y v u Q sr rx ry ok
  unfold opI at ok
  split at ok
  · cases rx; cases ry
    rename_i i j
    by_cases e : c i j = true
    · rw [if_pos e] at ok
      exact ⟨i, j, rfl, rfl, hc i j e, OkG.pure ok sr (show RepS K B β (g' i j) (.d (g i j)) from hg B i j)⟩
    · rw [if_neg e] at ok
      exact ok.elim
  · exact ok.elim
theorem snd_I0 {K : PySem.W.Frag} {g : Int → Int → Vl} {g' : Int → Int → V} (hg : ∀ B i j, Rep K B (g' i j) (g i j)) : Snd2 K (rI0 g') (opI0 g) := by
  intro wh σ H₀ B H β st x y v u Q sr rx ry ok
  unfold opI0 at ok
  split at ok
  · cases rx; cases ry
    exact ⟨_, _, rfl, rfl, OkG.pure ok sr (show RepS K B β (g' _ _) (.d (g _ _)) from hg B _ _)⟩
  · exact ok.elim
section
variable {X : Cx} {K : PySem.W.Frag}
/-! ### + -/
def addT : Op2
  | .d (.str a), .d (.str b), st => if a.length + b.length ≤ sizeLine then .ok (.d (.str (a ++ b))) st else .bad
  | _, _, _ => .bad
def addU : Op2
  | .d (.tup a), .d (.tup b), st => if a.length + b.length ≤ sizeLine then .ok (.d (.tup (a ++ b))) st else .bad
  | _, _, _ => .bad
theorem snd_addT : Snd2 K (fun x y H Q => ∃ i j, x = .str i ∧ y = .str j ∧ i.length + j.length ≤ sizeLine ∧ Q (.str (i ++ j)) H) addT := by
  intro wh σ H₀ B H β st x y v u Q sr rx ry ok
  unfold addT at ok
  split at ok
  · cases rx; cases ry
    rename_i a b
    by_cases hl : a.length + b.length ≤ sizeLine
    · rw [if_pos hl] at ok
      exact ⟨a, b, rfl, rfl, hl, OkG.pure ok sr (show RepS K B β (.str (a ++ b)) (.d (.str (a ++ b))) from .str _)⟩
    · rw [if_neg hl] at ok
      exact ok.elim
  · exact ok.elim
theorem snd_addU : Snd2 K (rCatA K) addU := by
  intro wh σ H₀ B H β st x y v u Q sr rx ry ok
  unfold addU at ok
  split at ok
  · rename_i a b
    by_cases hl : a.length + b.length ≤ sizeLine
    · rw [if_pos hl] at ok
      obtain ⟨l1, xs, ha, ra, rfl⟩ : ∃ l1 xs, B l1 = some (.tup xs) ∧ RepL K B xs a ∧ v = .ref l1 := by cases rx with | tup h r => exact ⟨_, _, h, r, rfl⟩
      obtain ⟨l2, ys, hb, rb, rfl⟩ : ∃ l1 xs, B l1 = some (.tup xs) ∧ RepL K B xs b ∧ u = .ref l1 := by cases ry with | tup h r => exact ⟨_, _, h, r, rfl⟩
      refine ⟨_, _, xs, ys, rfl, rfl, sqT_at (sr.sub _ _ ha), sqT_at (sr.sub _ _ hb), by rw [ra.length, rb.length]; exact hl, fun e => ?_, fun _ e => ?_, fun _ _ p hp => ?_⟩
      · subst e
        have ea : a = [] := by cases ra; rfl
        subst ea
        exact OkG.pure ok sr (show RepS K B β _ (.d (.tup ([] ++ b))) from .tup hb rb)
      · subst e
        have eb : b = [] := by cases rb; rfl
        subst eb
        exact OkG.pure ok sr (show RepS K B β _ (.d (.tup (a ++ []))) from by rw [List.append_nil]; exact .tup ha ra)
      · have s := sub_new (o := .tup (xs ++ ys)) sr hp
        exact ok _ _ _ _ (Go.laidF sr hp) (sr.laidF hp) (Rep.tup upd_same ((ra.mono s).append (rb.mono s)))
    · rw [if_neg hl] at ok
      exact ok.elim
  · exact ok.elim
/-- list + list: a new list -/
def catS (x y : Sl) (st : Sto) : Rs (List Vl) := match plainOf x st, plainOf y st with
  | some a, some b => if a.length + b.length ≤ sizeLine then .ok (a ++ b) st else .bad
  | _, _ => .bad
def addL : Op2 := fun x y st => frozen (catS x y st)
theorem new_list (wh : WX) (σ : L2.St) {H B : Hp} {β : Ad} {st : Sto} {xs : List V} {ds : List Vl} {Q : VK} (sr : SR K B H β st) (r : RepL K B xs ds) (ok : OkG K wh σ (relN K) H B H β (.ok ds st) Q) : ∀ p, H p = none → Q (.ref p) (upd H p (.lst xs)) := fun p hp =>
  ok _ _ _ _ (Go.laid hp) (sr.laid hp) ⟨p, rfl, hp, not_flat sr hp, not_fro sr hp, xs, upd_same, r⟩
theorem new_listF (wh : WX) (σ : L2.St) {H₀ H B : Hp} {β : Ad} {st : Sto} {xs : List V} {ds : List Vl} {Q : VK} (sr : SR K B H β st) (r : RepL K B xs ds) (ok : OkG K wh σ (relO K) H₀ B H β (.ok (.d (.lst ds)) st) Q) : ∀ p, H p = none → Q (.ref p) (upd H p (.lst xs)) := fun p hp =>
  ok _ _ _ _ (Go.laidF sr hp) (sr.laidF hp) (Rep.lst upd_same (r.mono (sub_new sr hp)))
theorem snd_addL : Snd2 K rCat addL := by
  intro wh σ H₀ B H β st x y v u Q sr rx ry ok
  unfold addL catS at ok
  cases e1 : plainOf x st with
  | none => simp only [e1] at ok; exact ok.elim
  | some a =>
    cases e2 : plainOf y st with
    | none => simp only [e1, e2] at ok; exact ok.elim
    | some b =>
      simp only [e1, e2] at ok
      by_cases hl : a.length + b.length ≤ sizeLine
      · rw [if_pos hl] at ok
        obtain ⟨l1, xs, rfl, h1, r1⟩ := plain_of sr rx e1
        obtain ⟨l2, ys, rfl, h2, r2⟩ := plain_of sr ry e2
        exact ⟨l1, l2, xs, ys, rfl, rfl, h1, h2, by rw [r1.length, r2.length]; exact hl, new_listF wh σ sr (r1.append r2) ok⟩
      · rw [if_neg hl] at ok
        exact ok.elim
def addS : Op2 := alt (opI0 fun i j => .int (i + j)) (alt addT (alt addU addL))
def rAddS (K : PySem.W.Frag) : R2 := fun x y H Q => rI0 (fun i j => .int (i + j)) x y H Q ∨ (∃ i j, x = .str i ∧ y = .str j ∧ i.length + j.length ≤ sizeLine ∧ Q (.str (i ++ j)) H) ∨ rCatA K x y H Q ∨ rCat x y H Q
theorem op_addS : OpR X (binaryOp .Add) (rAddS X.K) := OpR.or op_add (OpR.or op_add_str (OpR.or op_catA op_cat))
theorem snd_addS : Snd2 K (rAddS K) addS := Snd2.alt (snd_I0 fun _ _ _ => .int _) (Snd2.alt snd_addT (Snd2.alt snd_addU snd_addL))
/-! ### - * // % ** and their kin -/
def subS : Op2 := opI0 fun i j => .int (i - j)
theorem snd_subS : Snd2 K (rI0 fun i j => .int (i - j)) subS := snd_I0 fun _ _ _ => .int _
def mulI : Op2 := opI mulOk fun i j => .int (i * j)
def rMulI : R2 := rI (fun i j => IntMulOk i j) fun i j => .int (i * j)
theorem op_mulI : OpR X (binaryOp .Mult) rMulI := L2.opI fun _ _ _ _ _ _ _ hc q => mul_int q hc
theorem snd_mulI : Snd2 K rMulI mulI := snd_I (fun _ _ h => mulOk_ok h) fun _ _ _ => .int _
/-- a list, a text so many times -/
def repS (x y : Sl) (st : Sto) : Rs (List Vl) := match plainOf x st, y with
  | some a, .d (.int k) => if (-(2 ^ 63) ≤ k ∧ k < 2 ^ 63) ∧ a.length * k.toNat ≤ sizeLine then .ok (List.replicate k.toNat a).flatten st else .bad
  | _, _ => .bad
def mulL : Op2 := fun x y st => frozen (repS x y st)
theorem RepL.rep {B : Hp} {xs : List V} {ds : List Vl} (r : RepL K B xs ds) : ∀ k : Nat, RepL K B (List.replicate k xs).flatten (List.replicate k ds).flatten
  | 0 => .nil
  | k + 1 => by
    rw [List.replicate_succ, List.replicate_succ, List.flatten_cons, List.flatten_cons]
    exact r.append (RepL.rep r k)
theorem snd_mulL : Snd2 K rRep mulL := by
  intro wh σ H₀ B H β st x y v u Q sr rx ry ok
  unfold mulL repS at ok
  split at ok
  · rename_i a k e1
    by_cases hl : (-(2 ^ 63) ≤ k ∧ k < 2 ^ 63) ∧ a.length * k.toNat ≤ sizeLine
    · rw [if_pos hl] at ok
      obtain ⟨l1, xs, rfl, h1, r1⟩ := plain_of sr rx e1
      cases ry
      exact ⟨l1, k, xs, rfl, rfl, h1, hl.1.1, hl.1.2, by rw [r1.length]; exact hl.2, new_listF wh σ sr (r1.rep _) ok⟩
    · rw [if_neg hl] at ok
      exact ok.elim
  · exact ok.elim
/-- a text, not at all or once -/
def mulT : Op2
  | .d (.str a), .d (.int k), st => if k = 1 then .ok (.d (.str a)) st else if k = 0 then .ok (.d (.str Str.empty)) st else .bad
  | _, _, _ => .bad
def rMulT : R2 := fun x y H Q => ∃ a k, x = .str a ∧ y = .int k ∧ ((k = 1 ∧ Q (.str a) H) ∨ (k = 0 ∧ Q (.str Str.empty) H))
theorem op_mulT : OpR X (binaryOp .Mult) rMulT := by
  intro pins s σ H x y v u Q I rx ry h
  obtain ⟨a, k, rfl, rfl, h⟩ := h
  obtain ⟨t, rfl⟩ := rx
  obtain ⟨t', rfl⟩ := ry
  rcases h with ⟨rfl, q⟩ | ⟨rfl, q⟩
  · refine PySem.P.mul_str (by decide) (fun _ z => by simp at z) (fun _ z => by simp at z) ?_
    rw [if_neg (by decide), if_pos (by simp)]
    exact ⟨.str a, H, I, ⟨_, rfl⟩, q⟩
  · exact PySem.P.mul_str_none (by decide) (by decide) ⟨.str _, H, I.tok _, ⟨_, rfl⟩, q⟩
theorem snd_mulT : Snd2 K rMulT mulT := by
  intro wh σ H₀ B H β st x y v u Q sr rx ry ok
  unfold mulT at ok
  split at ok
  · rename_i a k
    cases rx; cases ry
    by_cases h1 : k = 1
    · rw [if_pos h1] at ok
      exact ⟨a, k, rfl, rfl, .inl ⟨h1, OkG.pure ok sr (show RepS K B β _ (.d (.str _)) from .str _)⟩⟩
    · rw [if_neg h1] at ok
      by_cases h0 : k = 0
      · rw [if_pos h0] at ok
        exact ⟨a, k, rfl, rfl, .inr ⟨h0, OkG.pure ok sr (show RepS K B β _ (.d (.str _)) from .str _)⟩⟩
      · rw [if_neg h0] at ok
        exact ok.elim
  · exact ok.elim
def mulS : Op2 := alt mulI (alt mulL mulT)
def rMulS : R2 := fun x y H Q => rMulI x y H Q ∨ rRep x y H Q ∨ rMulT x y H Q
theorem op_mulS : OpR X (binaryOp .Mult) rMulS := OpR.or op_mulI (OpR.or op_rep op_mulT)
theorem snd_mulS : Snd2 K rMulS mulS := Snd2.alt snd_mulI (Snd2.alt snd_mulL snd_mulT)
def divS : Op2 := opI (fun _ j => decide (0 < j ∧ j.natAbs < 2 ^ 5000)) fun i j => .int (i / j)
theorem snd_divS : Snd2 K (rI CDivW fun i j => .int (i / j)) divS := snd_I (fun i j h => by
  obtain ⟨h1, h2⟩ := of_decide_eq_true h
  exact wide_div h1 h2 (by omega) (by omega)) fun _ _ _ => .int _
def modS : Op2 := opI (fun _ j => decide (0 < j)) fun i j => .int (i % j)
theorem snd_modS : Snd2 K (rI (fun _ j => 0 < j) fun i j => .int (i % j)) modS := snd_I (fun i j h => of_decide_eq_true h) fun _ _ _ => .int _
def powOk (i j : Int) : Bool := decide (0 ≤ j ∧ j ≤ 1000) && decide (i.natAbs < 2 ^ 1000)
def powS : Op2 := opI powOk fun i j => .int (i ^ j.toNat)
def rPow : R2 := rI (fun i j => 0 ≤ j ∧ (Builtin.Int.intBits i : Int) * j ≤ 2 ^ 27) fun i j => .int (i ^ j.toNat)
theorem op_powS : OpR X (binaryOp .Pow) rPow := L2.opI fun _ _ _ _ _ _ _ hc q => pow_int hc.1 hc.2 q
theorem snd_powS : Snd2 K rPow powS := snd_I (fun i j h => by
  unfold powOk at h
  simp only [Bool.and_eq_true, decide_eq_true_eq] at h
  obtain ⟨⟨h1, h2⟩, h3⟩ := h
  refine ⟨h1, ?_⟩
  have hb : Builtin.Int.intBits i ≤ 1000 := by
    have l := PySem.Flt.log2_lt_of (by omega : 0 < 1000) h3
    unfold Builtin.Int.intBits
    split <;> omega
  have e : (2 : Int) ^ 27 = 134217728 := by decide
  rw [e]
  have h5 : (Builtin.Int.intBits i : Int) * j ≤ 1000 * 1000 := Int.mul_le_mul (by omega) h2 h1 (by omega)
  omega) fun _ _ _ => .int _
/-! ### comparisons -/
def ltS : Op2 := opI0 fun i j => .bl (decide (i < j))
def leS : Op2 := opI0 fun i j => .bl (decide (i ≤ j))
def gtS : Op2 := opI0 fun i j => .bl (decide (j < i))
def geS : Op2 := opI0 fun i j => .bl (decide (j ≤ i))
theorem snd_ltS : Snd2 K (rI0 fun i j => .bl (decide (i < j))) ltS := snd_I0 fun _ _ _ => .bl _
theorem snd_leS : Snd2 K (rI0 fun i j => .bl (decide (i ≤ j))) leS := snd_I0 fun _ _ _ => .bl _
theorem snd_gtS : Snd2 K (rI0 fun i j => .bl (decide (j < i))) gtS := snd_I0 fun _ _ _ => .bl _
theorem snd_geS : Snd2 K (rI0 fun i j => .bl (decide (j ≤ i))) geS := snd_I0 fun _ _ _ => .bl _
/-- == of data -/
def eqD (neg : Bool) : Op2 := fun x y st => match pyOf x st, pyOf y st with
  | some d, some e => if (SeqAt.shaped d && SeqAt.shaped e) = true then .ok (.d (.bl (if neg then !PyData.eqv d e else PyData.eqv d e))) st else .bad
  | _, _ => .bad
theorem snd_eqD : Snd2 K (rEqD K) (eqD false) := by
  intro wh σ H₀ B H β st x y v u Q sr rx ry ok
  unfold eqD at ok
  split at ok
  · rename_i d e e1 e2
    by_cases h : (SeqAt.shaped d && SeqAt.shaped e) = true
    · rw [if_pos h] at ok
      simp only [Bool.and_eq_true] at h
      exact ⟨d, e, py_of sr rx e1, py_of sr ry e2, h.1, h.2, OkG.pure ok sr (show RepS K B β _ (.d (.bl _)) from .bl _)⟩
    · rw [if_neg h] at ok
      exact ok.elim
  · exact ok.elim
theorem snd_neD : Snd2 K (rNeD K) (eqD true) := by
  intro wh σ H₀ B H β st x y v u Q sr rx ry ok
  unfold eqD at ok
  split at ok
  · rename_i d e e1 e2
    by_cases h : (SeqAt.shaped d && SeqAt.shaped e) = true
    · rw [if_pos h] at ok
      simp only [Bool.and_eq_true] at h
      exact ⟨d, e, py_of sr rx e1, py_of sr ry e2, h.1, h.2, OkG.pure ok sr (show RepS K B β _ (.d (.bl _)) from .bl _)⟩
    · rw [if_neg h] at ok
      exact ok.elim
  · exact ok.elim
def eqS : Op2 := eqD false
def neS : Op2 := eqD true
/-- is None -/
def Vl.isNon : Vl → Bool
  | .non => true
  | _ => false
def isNone (neg : Bool) : Op2
  | .d x, .d .non, st => .ok (.d (.bl (if neg then !x.isNon else x.isNon))) st
  | .r _, .d .non, st => .ok (.d (.bl neg)) st
  | _, _, _ => .bad
theorem non_iff {B : Hp} {v : V} {x : Vl} (r : Rep K B v x) : decide (v = .non) = x.isNon := by
  cases r <;> rfl
theorem snd_isN : Snd2 K (fun x y H Q => y = .non ∧ Q (.bl (decide (x = .non))) H) (isNone false) := by
  intro wh σ H₀ B H β st x y v u Q sr rx ry ok
  unfold isNone at ok
  split at ok
  · cases ry
    refine ⟨rfl, ?_⟩
    rw [non_iff rx]
    exact OkG.pure ok sr (show RepS K B β _ (.d (.bl _)) from .bl _)
  · cases ry
    obtain ⟨p, hp, rfl⟩ := rx
    exact ⟨rfl, OkG.pure ok sr (show RepS K B β _ (.d (.bl _)) from .bl _)⟩
  · exact ok.elim
theorem snd_notN : Snd2 K (fun x y H Q => y = .non ∧ Q (.bl (!decide (x = .non))) H) (isNone true) := by
  intro wh σ H₀ B H β st x y v u Q sr rx ry ok
  unfold isNone at ok
  split at ok
  · cases ry
    refine ⟨rfl, ?_⟩
    rw [non_iff rx]
    exact OkG.pure ok sr (show RepS K B β _ (.d (.bl _)) from .bl _)
  · cases ry
    obtain ⟨p, hp, rfl⟩ := rx
    exact ⟨rfl, OkG.pure ok sr (show RepS K B β _ (.d (.bl _)) from .bl _)⟩
  · exact ok.elim
/-- is, of two truths -/
def isBl : Op2
  | .d (.bl a), .d (.bl b), st => .ok (.d (.bl (decide (a = b)))) st
  | _, _, _ => .bad
theorem snd_isBl : Snd2 K rIsB isBl := by
  intro wh σ H₀ B H β st x y v u Q sr rx ry ok
  unfold isBl at ok
  split at ok
  · cases rx; cases ry
    exact ⟨_, _, rfl, rfl, OkG.pure ok sr (show RepS K B β _ (.d (.bl _)) from .bl _)⟩
  · exact ok.elim
/-- in, not in: a list or tuple of flat things -/
def flatD : Vl → Bool
  | .non => true
  | .bl _ => true
  | .int _ => true
  | .str _ => true
  | _ => false
def eqF : Vl → Vl → Bool
  | .non, .non => true
  | .bl a, .bl b => a == b
  | .bl a, .int b => (if a then 1 else 0) == b
  | .int a, .bl b => a == (if b then 1 else 0)
  | .int a, .int b => a == b
  | .str a, .str b => a == b
  | _, _ => false
theorem flat_rep {B : Hp} {v : V} {x : Vl} (r : Rep K B v x) (h : flatD x = true) : flatV v = true := by
  cases r <;> first | rfl | cases h
theorem eqF_rep {B : Hp} {v u : V} {x y : Vl} (r : Rep K B v x) (s : Rep K B u y) : eqV v u = eqF x y := by
  cases r <;> cases s <;> rfl
theorem flats_rep {B : Hp} : ∀ {vs : List V} {ds : List Vl}, RepL K B vs ds → ds.all flatD = true → vs.all flatV = true
  | _, _, .nil, _ => rfl
  | _, _, .cons r t, h => by
    rw [List.all_cons, Bool.and_eq_true] at h ⊢
    exact ⟨flat_rep r h.1, flats_rep t h.2⟩
theorem inV_rep {B : Hp} {v : V} {x : Vl} (s : Rep K B v x) : ∀ {vs : List V} {ds : List Vl}, RepL K B vs ds → inV v vs = ds.any fun y => eqF y x
  | _, _, .nil => rfl
  | _, _, .cons r t => by
    show (eqV _ v || inV v _) = _
    rw [List.any_cons, inV_rep s t, eqF_rep r s]
def inS (neg : Bool) : Op2 := fun x y st => match x, seqOf y st with
  | .d a, some ds => if (flatD a && ds.all flatD) = true then .ok (.d (.bl (if neg then !(ds.any fun z => eqF z a) else ds.any fun z => eqF z a))) st else .bad
  | _, _ => .bad
theorem snd_inS (neg : Bool) : Snd2 K (rIn K neg) (inS neg) := by
  intro wh σ H₀ B H β st x y v u Q sr rx ry ok
  unfold inS at ok
  split at ok
  · rename_i a ds e
    by_cases h : (flatD a && ds.all flatD) = true
    · rw [if_pos h] at ok
      simp only [Bool.and_eq_true] at h
      obtain ⟨p, xs, rfl, hs, rl⟩ := seq_of sr ry e
      refine ⟨p, xs, rfl, hs, flat_rep rx h.1, flats_rep rl h.2, ?_⟩
      rw [inV_rep rx rl]
      exact OkG.pure ok sr (show RepS K B β _ (.d (.bl _)) from .bl _)
    · rw [if_neg h] at ok
      exact ok.elim
  · exact ok.elim
end
end F

namespace F
open PySem PySem.Spec PyProof.Rows L2
/-! ## tests, choices -/
def tOf (f : Ex) : Tst := fun ρ st => (f ρ st).bind fun w st1 => match w with
  | .d (.bl b) => .ok b st1
  | _ => .bad
def tAndF (a b : Tst) : Tst := fun ρ st => (a ρ st).bind fun x st1 => if x = true then b ρ st1 else .ok false st1
def tOrF (a b : Tst) : Tst := fun ρ st => (a ρ st).bind fun x st1 => if x = true then .ok true st1 else b ρ st1
def tNotF (a : Tst) : Tst := fun ρ st => (a ρ st).bind fun x st1 => .ok (!x) st1
def eIf (t : Tst) (a b : Ex) : Ex := fun ρ st => (t ρ st).bind fun x st1 => if x = true then a ρ st1 else b ρ st1
def eTst (t : Tst) : Ex := fun ρ st => (t ρ st).bind fun x st1 => .ok (.d (.bl x)) st1
def blS (w : Sl) : Option Bool := match w with
  | .d (.bl b) => some b
  | _ => none
def eAnd (a b : Ex) : Ex := fun ρ st => (a ρ st).bind fun x st1 => match x with
  | .d (.bl true) => b ρ st1
  | .d (.bl false) => .ok (.d (.bl false)) st1
  | _ => .bad
def eOr (a b : Ex) : Ex := fun ρ st => (a ρ st).bind fun x st1 => match x with
  | .d (.bl false) => b ρ st1
  | .d (.bl true) => .ok (.d (.bl true)) st1
  | _ => .bad
def kNot (x : Sl) (st : Sto) : Rs Sl := match x with
  | .d (.bl b) => .ok (.d (.bl (!b))) st
  | _ => .bad
def eNot (a : Ex) : Ex := fun ρ st => (a ρ st).bind kNot
section
variable {X : Cx} {wh : WX} {a b e : Expr} {fa fb : Ex} {ta tb : Tst} {pos : Pos} {rest : List Expr}
/-- behind a first part, the rest at the later state -/
theorem go_on {K : PySem.W.Frag} {σ : L2.St} {B₀ H B1 H1 : Hp} {β₀ β1 : Ad} {α γ : Type} {Rel : Rl α γ} {f : En → Sto → Rs α} {ρ : En} {st : Sto} {Q : γ → Hp → Prop} (ok : RlOk Rel) (go : Go B₀ H β₀ B1 H1 β1) (sr : SR K B1 H1 β1 st) (er : ER K B1 β1 σ ρ)
    (h : OkG K wh σ Rel H B1 H1 β1 (f ρ st) Q) : rd K wh Rel f σ H1 Q := by
  refine ⟨B1, β1, st, ρ, sr, er, ?_⟩
  cases e : f ρ st with
  | ok a st2 =>
    rw [e] at h
    exact fun g B' H' β' go2 sr2 re => h g B' H' β' go2 sr2 (ok.early (fun _ q => none_back go q) re)
  | exc c x st2 => rw [e] at h; exact h
  | bad => rw [e] at h; exact h
theorem rd_tOf {K : PySem.W.Frag} {σ : L2.St} {H : Hp} {Q : Bool → Hp → Prop} (h : rd K wh relB (tOf fa) σ H Q) : L2.tB (rd K wh (relO K) fa) σ H Q :=
  rd_then (k := fun w ρ st => match w with | .d (.bl b) => .ok b st | _ => .bad) h fun w st ρ v B₀ B1 H1 β₀ β1 go sr er re ok => by
    split at ok
    · cases re
      exact ⟨_, rfl, OkG.pure ok sr rfl⟩
    · exact ok.elim
theorem f_test (h : PO X wh e fa) (he : ∀ whole, isTrue e X.env whole = (do let v ← whole; standAt e.pos; holding [v] (truthy v)) := by intro _; rfl) : PB X wh e (tOf fa) := PT.imp (pt_val h he) fun _ _ _ q => rd_tOf q
theorem f_cmpT {op : CmpOp} {r : R2} {o : Op2} (ho : OpR X (compareOp op) r) (s : Snd2 X.K r o) (ha : PO X wh a fa) (hb : PO X wh b fb) (hm : behindInMarks op b = false) : PB X wh (.Compare a [op] [b] pos) (tOf (eBin o fa fb)) :=
  PT.imp (pt_cmpR ho ha hb hm) fun _ _ _ h => rd_op s (rd_tOf h)
theorem f_andT1 (h : PB X wh a ta) : L2.PW X (.BoolOp .And [a] pos) (rd X.K wh relB ta) := pw_and1 h
theorem f_orT1 (h : PB X wh a ta) : L2.PW X (.BoolOp .Or [a] pos) (rd X.K wh relB ta) := pw_or1 h
theorem PWi.imp {e : Expr} {t t' : TT} (h : L2.PW X e t) (k : ∀ σ H Q, t' σ H Q → t σ H Q) : L2.PW X e t' := ⟨fun whole pins s σ H Q I q => h.run whole pins s σ H Q I (k σ H Q q)⟩
theorem f_andT (h : PB X wh a ta) (h2 : L2.PW X (.BoolOp .And (b :: rest) pos) (rd X.K wh relB tb)) : L2.PW X (.BoolOp .And (a :: b :: rest) pos) (rd X.K wh relB (tAndF ta tb)) :=
  PWi.imp (pw_and h h2) fun σ H Q q => rd_then (k := fun x ρ st1 => if x = true then tb ρ st1 else .ok false st1) q fun x st ρ v B₀ B1 H1 β₀ β1 go sr er re ok => by
    cases (show v = x from re)
    cases x with
    | true =>
      rw [if_pos rfl] at ok ⊢
      exact go_on okB go sr er ok
    | false =>
      rw [if_neg (by decide)] at ok ⊢
      exact OkG.pure ok sr rfl
theorem f_orT (h : PB X wh a ta) (h2 : L2.PW X (.BoolOp .Or (b :: rest) pos) (rd X.K wh relB tb)) : L2.PW X (.BoolOp .Or (a :: b :: rest) pos) (rd X.K wh relB (tOrF ta tb)) :=
  PWi.imp (pw_or h h2) fun σ H Q q => rd_then (k := fun x ρ st1 => if x = true then .ok true st1 else tb ρ st1) q fun x st ρ v B₀ B1 H1 β₀ β1 go sr er re ok => by
    cases (show v = x from re)
    cases x with
    | true =>
      rw [if_pos rfl] at ok ⊢
      exact OkG.pure ok sr rfl
    | false =>
      rw [if_neg (by decide)] at ok ⊢
      exact go_on okB go sr er ok
theorem f_bool (h : L2.PW X e (rd X.K wh relB ta)) : PB X wh e ta := h.pt
theorem f_notT (h : PB X wh a ta) : PB X wh (.UnaryOp .Not a pos) (tNotF ta) :=
  PT.imp (pt_not h) fun σ H Q q => rd_then (k := fun x ρ st1 => .ok (!x) st1) q fun x st ρ v B₀ B1 H1 β₀ β1 go sr er re ok => by
    cases (show v = x from re)
    exact OkG.pure ok sr rfl
theorem f_and (ha : PO X wh a fa) (hb : PO X wh (.BoolOp .And (b :: rest) pos) fb) : PO X wh (.BoolOp .And (a :: b :: rest) pos) (eAnd fa fb) :=
  PE.imp (pe_and ha hb) fun σ H Q q => rd_then (k := fun x ρ st1 => match x with | .d (.bl true) => fb ρ st1 | .d (.bl false) => .ok (.d (.bl false)) st1 | _ => .bad) q fun x st ρ v B₀ B1 H1 β₀ β1 go sr er re ok => by
    split at ok
    · cases re
      refine ⟨true, rfl, ?_⟩
      rw [if_pos rfl]
      exact go_on okO go sr er ok
    · cases re
      refine ⟨false, rfl, ?_⟩
      rw [if_neg (by decide)]
      exact OkG.pure ok sr (show RepS X.K B1 β1 _ (.d (.bl _)) from .bl _)
    · exact ok.elim
theorem f_or (ha : PO X wh a fa) (hb : PO X wh (.BoolOp .Or (b :: rest) pos) fb) : PO X wh (.BoolOp .Or (a :: b :: rest) pos) (eOr fa fb) :=
  PE.imp (pe_or ha hb) fun σ H Q q => rd_then (k := fun x ρ st1 => match x with | .d (.bl false) => fb ρ st1 | .d (.bl true) => .ok (.d (.bl true)) st1 | _ => .bad) q fun x st ρ v B₀ B1 H1 β₀ β1 go sr er re ok => by
    split at ok
    · cases re
      refine ⟨false, rfl, ?_⟩
      rw [if_neg (by decide)]
      exact go_on okO go sr er ok
    · cases re
      refine ⟨true, rfl, ?_⟩
      rw [if_pos rfl]
      exact OkG.pure ok sr (show RepS X.K B1 β1 _ (.d (.bl _)) from .bl _)
    · exact ok.elim
theorem f_one {op : BoolOp} (ha : PO X wh a fa) : PO X wh (.BoolOp op [a] pos) fa := pe_one ha
theorem f_not (ha : PO X wh a fa) : PO X wh (.UnaryOp .Not a pos) (eNot fa) :=
  PE.imp (pe_not ha) fun σ H Q q => rd_then (k := fun x _ st1 => kNot x st1) q fun x st ρ v B₀ B1 H1 β₀ β1 go sr er re ok => by
    unfold kNot at ok
    split at ok
    · cases re
      exact ⟨_, rfl, OkG.pure ok sr (show RepS X.K B1 β1 _ (.d (.bl _)) from .bl _)⟩
    · exact ok.elim
theorem f_if (ht : PB X wh e ta) (ha : PO X wh a fa) (hb : PO X wh b fb) : PO X wh (.IfExp e a b pos) (eIf ta fa fb) :=
  PE.imp (pe_ifExp ht ha hb) fun σ H Q q => rd_then (k := fun x ρ st1 => if x = true then fa ρ st1 else fb ρ st1) q fun x st ρ v B₀ B1 H1 β₀ β1 go sr er re ok => by
    cases (show v = x from re)
    cases x with
    | true =>
      rw [if_pos rfl] at ok ⊢
      exact go_on okO go sr er ok
    | false =>
      rw [if_neg (by decide)] at ok ⊢
      exact go_on okO go sr er ok
end
/-! ## arguments, displays -/
def aNil : Ar := fun _ st => .ok [] st
def aCons (f : Ex) (g : Ar) : Ar := fun ρ st => (f ρ st).bind fun x st1 => (g ρ st1).bind fun xs st2 => .ok (x :: xs) st2
section
variable {X : Cx} {wh : WX} {e : Expr} {es : List Expr} {f : Ex} {g : Ar} {pos : Pos}
theorem r_nil : PR X wh [] aNil := PA.imp pa_nil fun σ H Q ⟨B, β, st, ρ, sr, er, ok⟩ => OkG.pure ok sr .nil
theorem r_cons (he : PO X wh e f) (hr : PR X wh es g) (hs : starEach (e :: es) X.env = (false, eval e X.env) :: starEach es X.env := by rfl) : PR X wh (e :: es) (aCons f g) :=
  PA.imp (pa_cons he hr hs) fun σ H Q q => rd_then (k := fun x ρ st1 => (g ρ st1).bind fun xs st2 => .ok (x :: xs) st2) q fun x st ρ v B₀ B1 H1 β₀ β1 go sr er re ok =>
    ⟨B1, β1, st, ρ, sr, er, OkG.next (OkG.late okS (fun _ q => none_back go q) ok) fun xs st2 vs B2 H2 β2 _ go2 sr2 re2 ok2 => OkG.pure ok2 sr2 (show Paired _ _ _ from .cons (RepS.go go2 re) re2)⟩
/-- all data: cells of the store are frozen -/
def toD (w : Sl) (st : Sto) : Rs Vl := match w with
  | .d x => .ok x st
  | .r n => (match st[n]? with
    | some (.lst ds) => .ok (.lst ds) (st.set n (.frz ds))
    | some (.frz ds) => .ok (.lst ds) st
    | _ => .bad)
  | _ => .bad
def toDs : List Sl → Sto → Rs (List Vl)
  | [], st => .ok [] st
  | w :: ws, st => (toD w st).bind fun x st1 => (toDs ws st1).bind fun xs st2 => .ok (x :: xs) st2
end
section
variable {K : PySem.W.Frag} {wh : WX} {σ : L2.St} {B₀ H₀ B H : Hp} {β₀ β : Ad} {st : Sto}
/-- a cell set anew, its rows as they were -/
theorem SR.setCell (sr : SR K B H β st) {n : Nat} {p : Addr × List Addr} {c : Ce} (hp : β[n]? = some p) {B' H' : Hp} (s : Sub B B') (hsub : Sub B' H') (hb : ∀ a, a ∉ own p → B a = none → B' a = none) (hh : ∀ a, a ∉ own p → ∀ o, H a = some o → H' a = some o)
    (ht : ∀ a ∈ own p, ∃ o, H' a = some o) (hc : CellOk K B' H' p c) : SR K B' H' β (st.set n c) where
  len := by rw [List.length_set]; exact sr.len
  nd := sr.nd
  trk := fun a ha => by
    by_cases m : a ∈ own p
    · exact ht a m
    · obtain ⟨o, e⟩ := sr.trk a ha
      exact ⟨o, hh a m o e⟩
  sub := hsub
  cell := fun k q c' hq hc' => by
    by_cases e : k = n
    · subst e
      rw [hp] at hq
      cases hq
      have hl : k < st.length := by
        have h1 := (List.getElem?_eq_some_iff.mp hp).1
        have h2 := sr.len
        omega
      rw [List.getElem?_set_self hl] at hc'
      cases hc'
      exact hc
    · rw [List.getElem?_set_ne (fun z => e z.symm)] at hc'
      have ap : ∀ a ∈ own q, a ∉ own p := fun a h1 h2 => e (flat_apart sr.nd hq hp h1 h2)
      exact CellOk.move s (fun a ha => hb a (ap a ha)) (fun a ha o _ h => hh a (ap a ha) o h) (sr.cell k q c' hq hc')
theorem frzCell (sr : SR K B H β st) {n : Nat} {p : Addr × List Addr} {ds : List Vl} (hp : β[n]? = some p) (hc : st[n]? = some (.lst ds)) :
    ∃ B', Go B H β B' H β ∧ SR K B' H β (st.set n (.frz ds)) ∧ Rep K B' (.ref p.1) (.lst ds) := by
  obtain ⟨hB, xs, hx, r⟩ := sr.cell n p _ hp hc
  have s : Sub B (frzB B H [p.1]) := sub_frzB fun b m => by rw [List.mem_singleton.mp m]; exact hB
  have e1 : frzB B H [p.1] p.1 = some (.lst xs) := by rw [frzB_in (List.mem_singleton.mpr rfl)]; exact hx
  refine ⟨frzB B H [p.1], ⟨s, fun _ _ h => h, fun _ _ h _ => h, fun _ o h => ⟨o, h⟩, fun _ h => .inl h, fun a o h => ?_⟩, sr.setCell hp s (fun a o h => ?_) (fun a m h => ?_) (fun _ _ _ h => h) (fun a m => sr.trk a (mem_flat hp m)) ⟨xs, e1, r.mono s⟩, Rep.lst e1 (r.mono s)⟩
  · by_cases m : a ∈ [p.1]
    · rw [List.mem_singleton.mp m]; exact .inr (.inl (mem_flat1 hp))
    · rw [frzB_out m] at h; exact .inl h
  · by_cases m : a ∈ [p.1]
    · rw [frzB_in m] at h; exact h
    · rw [frzB_out m] at h; exact sr.sub a o h
  · rw [frzB_out fun z => m (by rw [List.mem_singleton.mp z]; exact List.mem_cons_self)]; exact h
theorem toD_ok {w : Sl} {v : V} {x : Vl} {st' : Sto} (sr : SR K B H β st) (r : RepS K B β v w) (e : toD w st = .ok x st') : ∃ B', Go B H β B' H β ∧ SR K B' H β st' ∧ Rep K B' v x := by
  cases w with
  | d y =>
    cases e
    exact ⟨B, Go.refl _ _ _, sr, r⟩
  | r m =>
    unfold toD at e
    cases q : st[m]? with
    | none => simp only [q] at e; cases e
    | some c =>
      simp only [q] at e
      obtain ⟨p, hp, rfl⟩ := r
      cases c with
      | lst ds =>
        cases e
        exact frzCell sr hp q
      | frz ds =>
        cases e
        obtain ⟨xs, hx, rl⟩ := sr.cell m p _ hp q
        exact ⟨B, Go.refl _ _ _, sr, Rep.lst hx rl⟩
      | _ => cases e
  | w n i => cases e
  | n ds => exact r.elim
  | m rows => exact r.elim
/-- the same result, later -/
theorem OkG.go {α γ : Type} {Rel : Rl α γ} {B1 H1 : Hp} {β1 : Ad} {r : Rs α} {Q : γ → Hp → Prop} (go : Go B H β B1 H1 β1) (h : OkG K wh σ Rel H₀ B H β r Q) : OkG K wh σ Rel H₀ B1 H1 β1 r Q := by
  cases r with
  | ok a st2 => exact fun g B2 H2 β2 go2 => h g B2 H2 β2 (go.trans go2)
  | exc c z st2 => exact fun cls dd B2 H2 β2 go2 => h cls dd B2 H2 β2 (go.trans go2)
  | bad => exact h
theorem toD_nox {w : Sl} {c : Str} {x : Vl} {st' : Sto} (e : toD w st = .exc c x st') : False := by
  cases w with
  | r m =>
    unfold toD at e
    cases q : st[m]? with
    | none => simp only [q] at e; cases e
    | some c =>
      simp only [q] at e
      cases c <;> cases e
  | _ => cases e
theorem ok_toD {α γ : Type} {Rel : Rl α γ} {w : Sl} {v : V} {k : Vl → Sto → Rs α} {Q : γ → Hp → Prop} {P : Prop} (sr : SR K B H β st) (r : RepS K B β v w) (h : OkG K wh σ Rel H₀ B H β ((toD w st).bind k) Q)
    (n : ∀ x st' B', Go B H β B' H β → SR K B' H β st' → Rep K B' v x → OkG K wh σ Rel H₀ B' H β (k x st') Q → P) : P := by
  cases e : toD w st with
  | ok x st' =>
    rw [e] at h
    obtain ⟨B', go, sr', r'⟩ := toD_ok sr r e
    exact n x st' B' go sr' r' (OkG.go (r := k x st') go h)
  | exc c x st' => exact (toD_nox e).elim
  | bad => rw [e] at h; exact h.elim
theorem ok_toDs {α γ : Type} {Rel : Rl α γ} {Q : γ → Hp → Prop} {P : Prop} : ∀ {ws : List Sl} {vs : List V} {B : Hp} {st : Sto} {k : List Vl → Sto → Rs α}, SR K B H β st → Paired (RepS K B β) vs ws → OkG K wh σ Rel H₀ B H β ((toDs ws st).bind k) Q →
    (∀ xs st' B', Go B H β B' H β → SR K B' H β st' → RepL K B' vs xs → OkG K wh σ Rel H₀ B' H β (k xs st') Q → P) → P
  | [], _, B, st, k, sr, .nil, h, n => n [] st B (Go.refl _ _ _) sr .nil h
  | w :: ws, v :: vs, B, st, k, sr, .cons r t, h, n => by
    have h' : OkG K wh σ Rel H₀ B H β ((toD w st).bind fun x st1 => ((toDs ws st1).bind fun xs st2 => .ok (x :: xs) st2).bind k) Q := by
      have e : (toDs (w :: ws) st).bind k = (toD w st).bind fun x st1 => ((toDs ws st1).bind fun xs st2 => .ok (x :: xs) st2).bind k := by
        show ((toD w st).bind _).bind k = _
        cases toD w st <;> rfl
      rw [← e]; exact h
    refine ok_toD sr r h' fun x st1 B1 go1 sr1 r1 h1 => ?_
    have h1' : OkG K wh σ Rel H₀ B1 H β ((toDs ws st1).bind fun xs st2 => k (x :: xs) st2) Q := by
      have e : ((toDs ws st1).bind fun xs st2 => Rs.ok (x :: xs) st2).bind k = (toDs ws st1).bind fun xs st2 => k (x :: xs) st2 := by
        cases toDs ws st1 <;> rfl
      rw [← e]; exact h1
    refine ok_toDs (k := fun xs st2 => k (x :: xs) st2) sr1 (Paired.imp' (fun _ _ z => RepS.go go1 z) t) h1' fun xs st2 B2 go2 sr2 r2 h2 => ?_
    exact n (x :: xs) st2 B2 (go1.trans go2) sr2 (.cons (Rep.mono go2.fz r1) r2) h2
end
section
variable {X : Cx} {wh : WX} {e : Expr} {es : List Expr} {f : Ex} {g : Ar} {pos : Pos}
def eTup (g : Ar) : Ex := fun ρ st => (g ρ st).bind fun ws st1 => (toDs ws st1).bind fun ds st2 => if ds.length ≤ sizeLine then .ok (.d (.tup ds)) st2 else .bad
theorem f_tup {k : Nat} (h : PR X wh es g) : PO X wh (.Tuple es k pos) (eTup g) :=
  PE.imp (pe_tup h) fun σ H Q q => rd_then (α' := Sl) (Rel' := relO X.K) (k := fun ws ρ st1 => (toDs ws st1).bind fun ds st2 => if ds.length ≤ sizeLine then .ok (.d (.tup ds)) st2 else .bad) q fun ws st ρ vs B₀ B1 H1 β₀ β1 go sr er re ok => by
    refine ok_toDs sr re ok fun ds st2 B2 go2 sr2 rl ok2 => ?_
    by_cases hl : ds.length ≤ sizeLine
    · rw [if_pos hl] at ok2
      refine ⟨by rw [rl.length]; exact hl, fun p hp => ok2 _ _ _ _ (Go.laidF sr2 hp) (sr2.laidF hp) (Rep.tup upd_same (rl.mono (sub_new sr2 hp)))⟩
    · rw [if_neg hl] at ok2
      exact ok2.elim
def nLst (g : Ar) : ExN := fun ρ st => (g ρ st).bind fun ws st1 => (toDs ws st1).bind fun ds st2 => if ds.length ≤ sizeLine then .ok ds st2 else .bad
theorem n_lst (h : PR X wh es g) : PN X wh (.List es pos) (nLst g) :=
  PE.imp (pe_lst h) fun σ H Q q => rd_then (α' := List Vl) (Rel' := relN X.K) (k := fun ws ρ st1 => (toDs ws st1).bind fun ds st2 => if ds.length ≤ sizeLine then .ok ds st2 else .bad) q fun ws st ρ vs B₀ B1 H1 β₀ β1 go sr er re ok => by
    refine ok_toDs sr re ok fun ds st2 B2 go2 sr2 rl ok2 => ?_
    by_cases hl : ds.length ≤ sizeLine
    · rw [if_pos hl] at ok2
      have hb : ∀ a, H1 a = none → H a = none := fun _ q => none_back go q
      exact ⟨by rw [rl.length]; exact hl, new_list wh σ sr2 rl (OkG.late okN hb ok2)⟩
    · rw [if_neg hl] at ok2
      exact ok2.elim
end
end F

namespace F
open PySem PySem.Spec PyProof.Rows L2
/-! ## statements -/
abbrev Sm := En → Sto → Ot
/-- what a def gives back, H₀ the heap at its beginning: a cell of this call may be given away; w n: the rows of the cell n, backwards -/
def RepR (K : PySem.W.Frag) (H₀ B H : Hp) (β : Ad) (v : V) : Sl → Prop
  | .d x => Rep K B v x
  | .r n => ∃ p, β[n]? = some p ∧ v = .ref p.1
  | .w n _ => ∃ p a, β[n]? = some p ∧ v = .ref a ∧ H₀ a = none ∧ a ∉ flat β ∧ B a = none ∧ H a = some (.lst (p.2.map V.ref).reverse)
  | .n ds => ∃ a, v = .ref a ∧ H₀ a = none ∧ RowOk K B H a ds
  | .m rows => ∃ a as, v = .ref a ∧ (∀ b ∈ a :: as, H₀ b = none ∧ B b = none) ∧ (a :: as).Nodup ∧ H a = some (.lst (as.map V.ref)) ∧ Paired (RowOk K B H) as rows
theorem RepW.back {K : PySem.W.Frag} {H₀ B H : Hp} {β : Ad} {v : V} : ∀ {w : Sl}, (∀ n i, w ≠ .w n i) → RepW K H₀ B H β v w → RepR K H₀ B H β v w
  | .d _, _, h => h
  | .r _, _, h => h
  | .w n i, z, _ => absurd rfl (z n i)
  | .n _, _, ⟨a, e, h0, _, r⟩ => ⟨a, e, h0, r⟩
  | .m _, _, ⟨a, as, e, h0, r⟩ => ⟨a, as, e, fun b m => ⟨(h0 b m).1, (h0 b m).2.2⟩, r⟩
section
variable (K : PySem.W.Frag) (wh : WX)
def OkS (H₀ B H : Hp) (β : Ad) (o : Ot) (D : Ends) : Prop := match o with
  | .nx ρ st => ∀ σ B' H' β', Go B H β B' H' β' → SR K B' H' β' st → ER K B' β' σ ρ → D.nx σ H'
  | .bk ρ st => ∀ σ B' H' β', Go B H β B' H' β' → SR K B' H' β' st → ER K B' β' σ ρ → D.bk σ H'
  | .ct ρ st => ∀ σ B' H' β', Go B H β B' H' β' → SR K B' H' β' st → ER K B' β' σ ρ → D.ct σ H'
  | .rt w st => ∀ v B' H' β', Go B H β B' H' β' → SR K B' H' β' st → RepR K H₀ B' H' β' v w → D.rt v H'
  | .exc c x ρ st => ∀ σ cls dd B' H' β', Go B H β B' H' β' → SR K B' H' β' st → ER K B' β' σ ρ → XRep K B' H' c x cls dd → wh cls dd σ H'
  | .bad => False
def rdS (s : Sm) : TS := fun D σ H => ∃ H₀ B β st ρ, (∀ a, H a = none → H₀ a = none) ∧ SR K B H β st ∧ ER K B β σ ρ ∧ OkS K wh H₀ B H β (s ρ st) D
end
variable {K : PySem.W.Frag}
def sOf {α : Type} (r : Rs α) (ρ : En) (k : α → Sto → Ot) : Ot := match r with
  | .ok a st => k a st
  | .exc c x st => .exc c x ρ st
  | .bad => .bad
section
variable {wh : WX} {H₀ B H B1 H1 : Hp} {β β1 : Ad} {D D' : Ends} {σ : L2.St} {ρ : En} {st : Sto}
theorem OkS.go {o : Ot} (g : Go B H β B1 H1 β1) (h : OkS K wh H₀ B H β o D) : OkS K wh H₀ B1 H1 β1 o D := by
  cases o with
  | nx ρ st => exact fun σ B' H' β' k => h σ B' H' β' (g.trans k)
  | bk ρ st => exact fun σ B' H' β' k => h σ B' H' β' (g.trans k)
  | ct ρ st => exact fun σ B' H' β' k => h σ B' H' β' (g.trans k)
  | rt w st => exact fun v B' H' β' k => h v B' H' β' (g.trans k)
  | exc c x ρ st => exact fun σ cls dd B' H' β' k => h σ cls dd B' H' β' (g.trans k)
  | bad => exact h
/-- an expression, then what is done with it -/
theorem OkS.expr {α γ : Type} {Rel : Rl α γ} {r : Rs α} {k : α → Sto → Ot} {Q1 : γ → Hp → Prop} (rl : RlOk Rel) (sr : SR K B H β st) (er : ER K B β σ ρ) (h : OkS K wh H₀ B H β (sOf r ρ k) D)
    (n : ∀ a st1 g B1 H1 β1, Go B H β B1 H1 β1 → SR K B1 H1 β1 st1 → ER K B1 β1 σ ρ → Rel H B1 H1 β1 g a → OkS K wh H₀ B1 H1 β1 (k a st1) D → Q1 g H1) : OkG K wh σ Rel H B H β r Q1 := by
  cases r with
  | ok a st1 => exact fun g B1 H1 β1 go sr1 re => n a st1 g B1 H1 β1 go sr1 (er.go go) re (OkS.go go h)
  | exc c x st1 => exact fun cls dd B' H' β' go sr1 xr => h σ cls dd B' H' β' go sr1 (er.go go) xr
  | bad => exact h
theorem ER.set {i : Nat} {v : V} {w : Sl} (h : ER K B β σ ρ) (r : RepS K B β v w) : ER K B β (σ.set i (some v)) (ρ.set i (some w)) := by
  refine ⟨by rw [List.length_set, List.length_set]; exact h.1, fun j u e => ?_⟩
  by_cases q : j = i
  · subst q
    have hj : j < ρ.length := by
      have := (List.getElem?_eq_some_iff.mp e).1
      rw [List.length_set] at this
      exact this
    rw [List.getElem?_set_self hj] at e
    cases e
    exact ⟨v, by rw [List.getElem?_set_self (by rw [h.1]; exact hj)], r⟩
  · rw [List.getElem?_set_ne (Ne.symm q)] at e
    rw [List.getElem?_set_ne (Ne.symm q)]
    exact h.2 j u e
end
/-! ### targets -/
abbrev Tg := Sl → En → Option En
abbrev Tgs := List Vl → En → Option En
def gN (i : Nat) : Tg := fun w ρ => some (ρ.set i (some w))
def gT (g : Tgs) : Tg := fun w ρ => match w with
  | .d (.tup ds) => g ds ρ
  | _ => none
def gE : Tgs := fun ds ρ => match ds with
  | [] => some ρ
  | _ => none
def gC (g : Tg) (gs : Tgs) : Tgs := fun ds ρ => match ds with
  | d :: ds => (g (.d d) ρ).bind fun ρ' => gs ds ρ'
  | [] => none
/-- as it was but at some slots -/
structure Off (is : List Nat) (σ σ' : L2.St) : Prop where
  len : σ'.length = σ.length
  at_ : ∀ j, j ∉ is → σ'[j]? = σ[j]?
theorem Off.refl (is : List Nat) (σ : L2.St) : Off is σ σ := ⟨rfl, fun _ _ => rfl⟩
theorem Off.set (i : Nat) (σ : L2.St) (v : Option V) : Off [i] σ (σ.set i v) := ⟨List.length_set, fun j h => List.getElem?_set_ne fun e => h (by rw [e]; exact List.mem_singleton.mpr rfl)⟩
theorem Off.trans {is js : List Nat} {σ σ1 σ2 : L2.St} (a : Off is σ σ1) (b : Off js σ1 σ2) : Off (is ++ js) σ σ2 :=
  ⟨b.len.trans a.len, fun j h => (b.at_ j fun m => h (List.mem_append_right _ m)).trans (a.at_ j fun m => h (List.mem_append_left _ m))⟩
def rdG (K : PySem.W.Frag) (is : List Nat) (g : Tg) : TG := fun v σ H Q => ∃ B β st ρ w ρ', SR K B H β st ∧ ER K B β σ ρ ∧ RepS K B β v w ∧ g w ρ = some ρ' ∧ ∀ σ', ER K B β σ' ρ' → Off is σ σ' → Q σ' H
def rdGs (K : PySem.W.Frag) (is : List Nat) (g : Tgs) : TGs := fun vs σ H Q => ∃ B β st ρ ds ρ', SR K B H β st ∧ ER K B β σ ρ ∧ RepL K B vs ds ∧ g ds ρ = some ρ' ∧ ∀ σ', ER K B β σ' ρ' → Off is σ σ' → Q σ' H
/-- how many parts -/
structure TgsLen (g : Tgs) (n : Nat) : Prop where
  len : ∀ ds ρ ρ', g ds ρ = some ρ' → ds.length = n
theorem len_gE : TgsLen gE 0 := ⟨fun ds ρ ρ' h => by
  cases ds with
  | nil => rfl
  | cons _ _ => cases h⟩
theorem len_gC {g : Tg} {gs : Tgs} {n : Nat} (h : TgsLen gs n) : TgsLen (gC g gs) (n + 1) := ⟨fun ds ρ ρ' e => by
  cases ds with
  | nil => cases e
  | cons d ds =>
    have e' : (g (.d d) ρ).bind (fun ρ' => gs ds ρ') = some ρ' := e
    cases q : g (.d d) ρ with
    | none => rw [q] at e'; cases e'
    | some ρ1 =>
      rw [q] at e'
      exact congrArg (· + 1) (h.len ds ρ1 ρ' e')⟩
section
variable {X : Cx} {wh : WX} {pos : Pos}
theorem PGi.imp {e : Expr} {t t' : TG} (h : PG X e t) (k : ∀ v σ H Q, t' v σ H Q → t v σ H Q) : PG X e t' := ⟨fun pins s σ H v u Q I r q => h.run pins s σ H v u Q I r (k v σ H Q q)⟩
theorem PGsi.imp {e : List Expr} {t t' : TGs} (h : PGs X e t) (k : ∀ v σ H Q, t' v σ H Q → t v σ H Q) : PGs X e t' := ⟨fun pins s σ H v u Q I r q => h.run pins s σ H v u Q I r (k v σ H Q q)⟩
abbrev PT1 (X : Cx) (e : Expr) (is : List Nat) (g : Tg) : Prop := PG X e (rdG X.K is g)
abbrev PTn (X : Cx) (es : List Expr) (is : List Nat) (g : Tgs) : Prop := PGs X es (rdGs X.K is g)
theorem t_name {i : Nat} {x : Str} (hN : X.N.Nodup) (hi : X.N[i]? = some x) (hx : Loc X.env.scope x) (hf : X.fn x = true ∨ X.env.scope.names.lookup x = some .local := by first | exact .inl rfl | exact .inr rfl | assumption) : PT1 X (.Name x pos) [i] (gN i) :=
  PGi.imp (pg_name hN hi hx hf) fun v σ H Q ⟨B, β, st, ρ, w, ρ', sr, er, re, e, q⟩ => by
    cases e
    exact q _ (er.set re) (Off.set i σ _)
theorem t_nil : PTn X [] [] gE := PGsi.imp pgs_nil fun vs σ H Q ⟨B, β, st, ρ, ds, ρ', sr, er, re, e, q⟩ => by
  cases ds with
  | nil =>
    cases e
    cases re
    exact ⟨rfl, q σ er (Off.refl _ _)⟩
  | cons _ _ => cases e
theorem t_cons {e : Expr} {es : List Expr} {g : Tg} {gs : Tgs} {is js : List Nat} (h : PT1 X e is g) (hs : PTn X es js gs) (h1 : (assignEach (e :: es) X.env).map (·.2) = assign e X.env :: (assignEach es X.env).map (·.2) := by rfl) : PTn X (e :: es) (is ++ js) (gC g gs) :=
  PGsi.imp (pgs_cons h hs h1) fun vs σ H Q ⟨B, β, st, ρ, ds, ρ', sr, er, re, e, q⟩ => by
    cases ds with
    | nil => cases e
    | cons d ds =>
      cases re with
      | cons r1 r2 =>
        have e' : (g (.d d) ρ).bind (fun ρ' => gs ds ρ') = some ρ' := e
        cases z : g (.d d) ρ with
        | none => rw [z] at e'; cases e'
        | some ρ1 =>
          rw [z] at e'
          exact ⟨_, _, rfl, B, β, st, ρ, .d d, ρ1, sr, er, r1, z, fun σ1 er1 o1 => ⟨B, β, st, ρ1, ds, ρ', sr, er1, r2, e', fun σ2 er2 o2 => q σ2 er2 (o1.trans o2)⟩⟩
theorem t_tup {es : List Expr} {k : Nat} {g : Tgs} {n : Nat} {is : List Nat} (hc : X.calm = true) (h : PTn X es is g) (hl : TgsLen g n)
    (hn : (assignEach es X.env).length = n := by rfl) (hst : (assignEach es X.env).findIdx? (·.1) = none := by rfl) : PT1 X (.Tuple es k pos) is (gT g) :=
  PGi.imp (pg_tup hc h hn hst) fun v σ H Q ⟨B, β, st, ρ, w, ρ', sr, er, re, e, q⟩ => by
    cases w with
    | d x =>
      cases x with
      | tup ds =>
        cases re with
        | tup hq rl => exact ⟨_, _, rfl, sqT_at (sr.sub _ _ hq), by rw [rl.length]; exact hl.len ds ρ ρ' e, B, β, st, ρ, ds, ρ', sr, er, rl, e, q⟩
      | _ => cases e
    | _ => cases e
end
/-! ### simple statements -/
section
variable {X : Cx} {wh : WX} {e : Expr} {f : Ex} {pos : Pos} {st : Stmt} {rest : List Stmt}
variable (X wh) in
abbrev PF (st : Stmt) (s : Sm) : Prop := PS X st (rdS X.K wh s)
variable (X wh) in
abbrev PFs (st : List Stmt) (s : Sm) : Prop := PSs X st (rdS X.K wh s)
def sNil : Sm := fun ρ st => .nx ρ st
def sSeq (a b : Sm) : Sm := fun ρ st => match a ρ st with
  | .nx ρ' st' => b ρ' st'
  | o => o
theorem s_nil : PFs X wh [] sNil := PSs.imp pss_nil fun D σ H ⟨H₀, B, β, st, ρ, hb, sr, er, ok⟩ => ok σ B H β (Go.refl _ _ _) sr er
theorem s_cons {a b : Sm} (h : PF X wh st a) (h2 : PFs X wh rest b) : PFs X wh (st :: rest) (sSeq a b) :=
  PSs.imp (pss_cons h h2) fun D σ H ⟨H₀, B, β, st, ρ, hb, sr, er, ok⟩ => by
    refine ⟨H₀, B, β, st, ρ, hb, sr, er, ?_⟩
    unfold sSeq at ok
    cases e : a ρ st with
    | nx ρ1 st1 =>
      simp only [e] at ok
      exact fun σ1 B1 H1 β1 go sr1 er1 => ⟨H₀, B1, β1, st1, ρ1, fun a q => hb a (none_back go q), sr1, er1, OkS.go go ok⟩
    | rt w st1 => simp only [e] at ok; exact ok
    | bk ρ1 st1 => simp only [e] at ok; exact ok
    | ct ρ1 st1 => simp only [e] at ok; exact ok
    | exc c x ρ1 st1 => simp only [e] at ok; exact ok
    | bad => simp only [e] at ok; exact ok
/-- a statement that is never come to -/
def sBad : Sm := fun _ _ => .bad
theorem s_bad : PF X wh st sBad := ⟨fun _ _ _ _ _ _ ⟨_, _, _, _, _, _, _, _, ok⟩ => ok.elim⟩
theorem ss_bad : PFs X wh rest sBad := ⟨fun _ _ _ _ _ _ ⟨_, _, _, _, _, _, _, _, ok⟩ => ok.elim⟩
def kRet (w : Sl) (st : Sto) : Ot := match w with
  | .w _ _ => .bad
  | w => .rt w st
def sRet (f : Ex) : Sm := fun ρ st => sOf (f ρ st) ρ kRet
theorem s_ret (h : PW X wh e f) : PF X wh (.Return (some e) pos) (sRet f) :=
  PS.imp (ps_ret h) fun D σ H ⟨H₀, B, β, st, ρ, hb, sr, er, ok⟩ => ⟨B, β, st, ρ, sr, er, OkS.expr okW sr er ok fun w st1 v B1 H1 β1 go sr1 er1 re ok1 => by
    cases w with
    | w n i => exact ok1.elim
    | d x => exact ok1 v B1 H1 β1 (Go.refl _ _ _) sr1 (RepW.back (fun _ _ => nofun) (RepW.early hb re))
    | r x => exact ok1 v B1 H1 β1 (Go.refl _ _ _) sr1 (RepW.back (fun _ _ => nofun) (RepW.early hb re))
    | n x => exact ok1 v B1 H1 β1 (Go.refl _ _ _) sr1 (RepW.back (fun _ _ => nofun) (RepW.early hb re))
    | m x => exact ok1 v B1 H1 β1 (Go.refl _ _ _) sr1 (RepW.back (fun _ _ => nofun) (RepW.early hb re))⟩
def sRetN : Sm := fun _ st => .rt (.d .non) st
theorem s_retN : PF X wh (.Return none pos) sRetN := PS.imp ps_retN fun D σ H ⟨H₀, B, β, st, ρ, hb, sr, er, ok⟩ => ok .non B H β (Go.refl _ _ _) sr .non
def sExp (f : Ex) : Sm := fun ρ st => sOf (f ρ st) ρ fun _ st1 => .nx ρ st1
theorem s_exp (h : PW X wh e f) (hs : swapsWith e none pos.line X.env = pure false := by rfl) : PF X wh (.Expr e pos) (sExp f) :=
  PS.imp (ps_expr h hs) fun D σ H ⟨H₀, B, β, st, ρ, hb, sr, er, ok⟩ => ⟨B, β, st, ρ, sr, er, OkS.expr okW sr er ok fun w st1 v B1 H1 β1 go sr1 er1 re ok1 => ok1 σ B1 H1 β1 (Go.refl _ _ _) sr1 er1⟩
def sIf (t : Tst) (a b : Sm) : Sm := fun ρ st => sOf (t ρ st) ρ fun x st1 => if x = true then a ρ st1 else b ρ st1
theorem s_if {c : Expr} {as bs : List Stmt} {t : Tst} {a b : Sm} (ht : PB X wh c t) (ha : PFs X wh as a) (hb : PFs X wh bs b) : PF X wh (.If c as bs pos) (sIf t a b) :=
  PS.imp (ps_if ht ha hb) fun D σ H ⟨H₀, B, β, st, ρ, hb, sr, er, ok⟩ => ⟨B, β, st, ρ, sr, er, OkS.expr okB sr er ok fun x st1 v B1 H1 β1 go sr1 er1 re ok1 => by
    cases (show v = x from re)
    have hb1 : ∀ a, H1 a = none → H₀ a = none := fun a q => hb a (none_back go q)
    cases x with
    | true =>
      rw [if_pos rfl] at ok1 ⊢
      exact ⟨H₀, B1, β1, st1, ρ, hb1, sr1, er1, ok1⟩
    | false =>
      rw [if_neg (by decide)] at ok1 ⊢
      exact ⟨H₀, B1, β1, st1, ρ, hb1, sr1, er1, ok1⟩⟩
def sPass : Sm := fun ρ st => .nx ρ st
theorem s_pass : PF X wh (.Pass pos) sPass := PS.imp ps_pass fun D σ H ⟨H₀, B, β, st, ρ, hb, sr, er, ok⟩ => ok σ B H β (Go.refl _ _ _) sr er
def sBrk : Sm := fun ρ st => .bk ρ st
def sCnt : Sm := fun ρ st => .ct ρ st
theorem s_brk : PF X wh (.Break pos) sBrk := PS.imp ps_break fun D σ H ⟨H₀, B, β, st, ρ, hb, sr, er, ok⟩ => ok σ B H β (Go.refl _ _ _) sr er
theorem s_cnt : PF X wh (.Continue pos) sCnt := PS.imp ps_continue fun D σ H ⟨H₀, B, β, st, ρ, hb, sr, er, ok⟩ => ok σ B H β (Go.refl _ _ _) sr er
/-! ### assignments -/
def kAsg (g : Tg) (ρ : En) (w : Sl) (st : Sto) : Ot := match g w ρ with
  | some ρ' => .nx ρ' st
  | none => .bad
def sAsg (f : Ex) (g : Tg) : Sm := fun ρ st => sOf (f ρ st) ρ (kAsg g ρ)
theorem rd_asg {K : PySem.W.Frag} {D : Ends} {σ : L2.St} {H : Hp} {g : Tg} {is : List Nat} (h : rdS K wh (sAsg f g) D σ H) : tAsg (rd K wh (relO K) f) (rdG K is g) D σ H := by
  obtain ⟨H₀, B, β, st, ρ, hb, sr, er, ok⟩ := h
  refine ⟨B, β, st, ρ, sr, er, OkS.expr okO sr er ok fun w st1 v B1 H1 β1 go sr1 er1 re ok1 => ?_⟩
  unfold kAsg at ok1
  cases e : g w ρ with
  | none => simp only [e] at ok1; exact ok1.elim
  | some ρ' =>
    simp only [e] at ok1
    exact ⟨B1, β1, st1, ρ, w, ρ', sr1, er1, re, e, fun σ' er' _ => ok1 σ' B1 H1 β1 (Go.refl _ _ _) sr1 er'⟩
theorem s_asg {tg : Expr} {g : Tg} {is : List Nat} (he : PO X wh e f) (hg : PT1 X tg is g) (hs : swapsWithSole [tg] e pos.line X.env = pure false := by rfl) (hw : swappedStores [tg] e X.env = pure none := by rfl)
    (h1 : (assignEach [tg] X.env).map (·.2) = [assign tg X.env] := by rfl) : PF X wh (.Assign [tg] e pos) (sAsg f g) :=
  PS.imp (ps_asg he hg hs hw h1) fun D σ H h => rd_asg h
theorem flat_snoc (β : Ad) (p : Addr × List Addr) : flat (β ++ [p]) = flat β ++ own p := by
  rw [flat_append]
  show flat β ++ (own p ++ []) = _
  rw [List.append_nil]
/-- a new cell -/
theorem SR.alloc {B H : Hp} {β : Ad} {st : Sto} (sr : SR K B H β st) {p : Addr × List Addr} {c : Ce} (nd : (own p).Nodup) (hf : ∀ a ∈ own p, a ∉ flat β) (ht : ∀ a ∈ own p, ∃ o, H a = some o) (hc : CellOk K B H p c) : SR K B H (β ++ [p]) (st ++ [c]) where
  len := by rw [List.length_append, List.length_append, sr.len]; rfl
  nd := by
    rw [flat_snoc]
    exact List.nodup_append.mpr ⟨sr.nd, nd, fun a ha b hb e => hf b hb (e ▸ ha)⟩
  trk := fun a ha => by
    rw [flat_snoc] at ha
    rcases List.mem_append.mp ha with z | z
    · exact sr.trk a z
    · exact ht a z
  sub := sr.sub
  cell := fun n q c' hq hc' => by
    by_cases h : n < st.length
    · rw [List.getElem?_append_left h] at hc'
      rw [List.getElem?_append_left (by rw [sr.len]; exact h)] at hq
      exact sr.cell n q c' hq hc'
    · have e1 : n = st.length := by
        have := (List.getElem?_eq_some_iff.mp hc').1
        rw [List.length_append] at this
        simp at this
        omega
      subst e1
      rw [List.getElem?_append_right (Nat.le_refl _)] at hc'
      rw [List.getElem?_append_right (by rw [sr.len]; exact Nat.le_refl _), sr.len] at hq
      simp at hc' hq
      subst hc'
      subst hq
      exact hc
/-- .. of things that were not there at the beginning -/
theorem Go.alloc {B₀ H₀ B H : Hp} {β₀ β : Ad} (g : Go B₀ H₀ β₀ B H β) {p : Addr × List Addr} (h0 : ∀ a ∈ own p, H₀ a = none) : Go B₀ H₀ β₀ B H (β ++ [p]) where
  fz := g.fz
  hd := fun n q h => by
    have h1 := g.hd n q h
    rw [List.getElem?_append_left (List.getElem?_eq_some_iff.mp h1).1]
    exact h1
  keep := g.keep
  tr := g.tr
  nb := fun a h => by
    rw [flat_snoc] at h
    rcases List.mem_append.mp h with z | z
    · exact g.nb a z
    · exact .inr (h0 a z)
  nf := g.nf
theorem at_snoc {β : Ad} {st : Sto} {p : Addr × List Addr} (h : β.length = st.length) : (β ++ [p])[st.length]? = some p := by
  rw [← h, List.getElem?_append_right (Nat.le_refl _)]
  simp
/-- several names at once -/
def setAll : List Nat → List Sl → En → Option En
  | [], [], ρ => some ρ
  | i :: is, w :: ws, ρ => setAll is ws (ρ.set i (some w))
  | _, _, _ => none
def kPar (is : List Nat) (ρ : En) (ws : List Sl) (st : Sto) : Ot := match setAll is ws ρ with
  | some ρ' => .nx ρ' st
  | none => .bad
def sPar (is : List Nat) (g : Ar) : Sm := fun ρ st => sOf (g ρ st) ρ (kPar is ρ)
theorem two_of {B : Hp} {β : Ad} {i j : Nat} {vs : List V} {ws : List Sl} {ρ ρ' : En} {σ : L2.St} (er : ER K B β σ ρ) (r : Paired (RepS K B β) vs ws) (h : setAll [i, j] ws ρ = some ρ') : ∃ v w, vs = [v, w] ∧ ER K B β ((σ.set i (some v)).set j (some w)) ρ' := by
  match ws, r, h with
  | [_, _], .cons r1 (.cons r2 .nil), h =>
    cases h
    exact ⟨_, _, rfl, (er.set r1).set r2⟩
theorem three_of {B : Hp} {β : Ad} {i j k : Nat} {vs : List V} {ws : List Sl} {ρ ρ' : En} {σ : L2.St} (er : ER K B β σ ρ) (r : Paired (RepS K B β) vs ws) (h : setAll [i, j, k] ws ρ = some ρ') : ∃ u v w, vs = [u, v, w] ∧ ER K B β (((σ.set i (some u)).set j (some v)).set k (some w)) ρ' := by
  match ws, r, h with
  | [_, _, _], .cons r1 (.cons r2 (.cons r3 .nil)), h =>
    cases h
    exact ⟨_, _, _, rfl, ((er.set r1).set r2).set r3⟩
theorem ok_par {D : Ends} {is : List Nat} {H₀ B H : Hp} {β : Ad} {st : Sto} {ρ : En} {ws : List Sl} (ok : OkS K wh H₀ B H β (kPar is ρ ws st) D) : ∃ ρ', setAll is ws ρ = some ρ' ∧ OkS K wh H₀ B H β (.nx ρ' st) D := by
  unfold kPar at ok
  cases e : setAll is ws ρ with
  | none => simp only [e] at ok; exact ok.elim
  | some ρ' => simp only [e] at ok; exact ⟨ρ', rfl, ok⟩
theorem s_par {i j : Nat} {x y : Str} {a b : Expr} {g : Ar} {px py pt : Pos} {kt k2 pt2} (hc : X.calm = true) (hN : X.N.Nodup) (hi : X.N[i]? = some x) (hj : X.N[j]? = some y) (hij : i ≠ j)
    (hx : X.env.scope.names.lookup x = some .local) (hy : X.env.scope.names.lookup y = some .local) (ha : PR X wh [a, b] g)
    (hw : swappedStores [.Tuple [.Name x px, .Name y py] kt pt] (.Tuple [a, b] k2 pt2) X.env = pure (some [x, y]))
    (hs : swapsWithSole [.Tuple [.Name x px, .Name y py] kt pt] (.Tuple [a, b] k2 pt2) pos.line X.env = pure false := by rfl) :
    PF X wh (.Assign [.Tuple [.Name x px, .Name y py] kt pt] (.Tuple [a, b] k2 pt2) pos) (sPar [i, j] g) :=
  PS.imp (ps_par hc hN hi hj hij hx hy ha hw hs) fun D σ H ⟨H₀, B, β, st, ρ, hb, sr, er, ok⟩ => ⟨B, β, st, ρ, sr, er, OkS.expr okS sr er ok fun ws st1 vs B1 H1 β1 go sr1 er1 re ok1 => by
    obtain ⟨ρ', e, ok2⟩ := ok_par ok1
    obtain ⟨v, w, e2, er2⟩ := two_of er1 re e
    exact ⟨v, w, e2, ok2 _ B1 H1 β1 (Go.refl _ _ _) sr1 er2⟩⟩
theorem s_par3 {i j l : Nat} {x y z : Str} {a b c : Expr} {g : Ar} {px py pz pt : Pos} {kt k2 pt2} (hc : X.calm = true) (hN : X.N.Nodup) (hi : X.N[i]? = some x) (hj : X.N[j]? = some y) (hl : X.N[l]? = some z) (hij : i ≠ j) (hil : i ≠ l) (hjl : j ≠ l)
    (hx : X.env.scope.names.lookup x = some .local) (hy : X.env.scope.names.lookup y = some .local) (hz : X.env.scope.names.lookup z = some .local) (ha : PR X wh [a, b, c] g)
    (hw : swappedStores [.Tuple [.Name x px, .Name y py, .Name z pz] kt pt] (.Tuple [a, b, c] k2 pt2) X.env = pure (some [x, y, z]))
    (hs : swapsWithSole [.Tuple [.Name x px, .Name y py, .Name z pz] kt pt] (.Tuple [a, b, c] k2 pt2) pos.line X.env = pure false := by rfl) :
    PF X wh (.Assign [.Tuple [.Name x px, .Name y py, .Name z pz] kt pt] (.Tuple [a, b, c] k2 pt2) pos) (sPar [i, j, l] g) :=
  PS.imp (ps_par3 hc hN hi hj hl hij hil hjl hx hy hz ha hw hs) fun D σ H ⟨H₀, B, β, st, ρ, hb, sr, er, ok⟩ => ⟨B, β, st, ρ, sr, er, OkS.expr okS sr er ok fun ws st1 vs B1 H1 β1 go sr1 er1 re ok1 => by
    obtain ⟨ρ', e, ok2⟩ := ok_par ok1
    obtain ⟨u, v, w, e2, er2⟩ := three_of er1 re e
    exact ⟨u, v, w, e2, ok2 _ B1 H1 β1 (Go.refl _ _ _) sr1 er2⟩⟩
end
end F

namespace F
open PySem PySem.Spec PyProof.Rows L2
/-! ## a new list into the store -/
def allocS : Rs Sl → Rs Sl
  | .ok (.d x) st => .ok (.d x) st
  | .ok (.r n) st => .ok (.r n) st
  | .ok (.w n i) st => .ok (.w n i) st
  | .ok (.n ds) st => .ok (.r st.length) (st ++ [.lst ds])
  | .ok (.m rows) st => .ok (.r st.length) (st ++ [.mat rows])
  | .exc c x st => .exc c x st
  | .bad => .bad
section
variable {K : PySem.W.Frag} {wh : WX} {σ : L2.St} {H B : Hp} {β : Ad}
theorem OkG.alloc {r : Rs Sl} {Q : VK} (h : OkG K wh σ (relO K) H B H β (allocS r) Q) : OkG K wh σ (relW K) H B H β r Q := by
  cases r with
  | ok w st =>
    intro v B' H' β' go sr re
    cases w with
    | d x => exact h v B' H' β' go sr re
    | r n => exact h v B' H' β' go sr re
    | w n i => exact h v B' H' β' go sr re
    | n ds =>
      obtain ⟨a, rfl, h0, ha, hr⟩ := re
      have e : ∀ b ∈ own (a, ([] : List Addr)), b = a := fun b m => List.mem_singleton.mp m
      exact h (.ref a) B' H' (β' ++ [(a, [])]) (go.alloc fun b m => by rw [e b m]; exact h0)
        (sr.alloc (by show [a].Nodup; simp) (fun b m => by rw [e b m]; exact ha) (fun b m => by rw [e b m]; exact ⟨_, hr.2.choose_spec.1⟩) hr) ⟨(a, []), at_snoc sr.len, rfl⟩
    | m rows =>
      obtain ⟨a, as, rfl, hh, nd, hx, rl⟩ := re
      refine h (.ref a) B' H' (β' ++ [(a, as)]) (go.alloc fun b m => (hh b m).1) (sr.alloc nd (fun b m => (hh b m).2.1) (fun b m => ?_) ⟨(hh a List.mem_cons_self).2.2, hx, rl⟩) ⟨(a, as), at_snoc sr.len, rfl⟩
      rcases List.mem_cons.mp m with z | z
      · rw [z]; exact ⟨_, hx⟩
      · obtain ⟨ds, _, xs, q, _⟩ := mem_rows rl b z
        exact ⟨_, q⟩
  | exc c x st => exact h
  | bad => exact h
end
section
variable {X : Cx} {wh : WX} {e : Expr}
theorem po_a {f : Ex} (h : PW X wh e f) : PO X wh e (fun ρ st => allocS (f ρ st)) := PE.imp h fun σ H Q ⟨B, β, st, ρ, sr, er, ok⟩ => ⟨B, β, st, ρ, sr, er, ok.alloc⟩
end
/-! ## loops -/
/-- what is walked: n turns, the i-th gives ds[i] -/
structure ItOk (K : PySem.W.Frag) (B₀ : Hp) (J : It) (ds : List Vl) : Prop where
  ex : ∃ (G : Hp → Prop) (Y : Nat → Hp → V → Hp → Prop), Walk J ds.length G Y ∧ (∀ B H, Sub B₀ B → Sub B H → G H) ∧
    ∀ i d B H β st x H', ds[i]? = some d → Sub B₀ B → SR K B H β st → Y i H x H' → ∃ B', Go B H β B' H' β ∧ SR K B' H' β st ∧ Rep K B' x d
abbrev Itr := En → Sto → Rs (List Vl)
def rdI (K : PySem.W.Frag) (wh : WX) (f : Itr) : TI := fun σ H R => ∃ B β st ρ, SR K B H β st ∧ ER K B β σ ρ ∧ (match f ρ st with
  | .ok ds st' => ∀ J B' H' β', Go B H β B' H' β' → SR K B' H' β' st' → ItOk K B' J ds → R J H'
  | .exc c x st' => ∀ cls dd B' H' β', Go B H β B' H' β' → SR K B' H' β' st' → XRep K B' H' c x cls dd → wh cls dd σ H'
  | .bad => False)
def loopS (b : Vl → Sm) : List Vl → Sm
  | [], ρ, st => .nx ρ st
  | d :: ds, ρ, st => match b d ρ st with
    | .nx ρ' st' => loopS b ds ρ' st'
    | .ct ρ' st' => loopS b ds ρ' st'
    | .bk ρ' st' => .nx ρ' st'
    | .rt w st' => .rt w st'
    | .exc c x ρ' st' => .exc c x ρ' st'
    | .bad => .bad
def turnS (g : Tg) (b : Sm) : Vl → Sm := fun d ρ st => match g (.d d) ρ with
  | some ρ' => b ρ' st
  | none => .bad
def sFor (f : Itr) (g : Tg) (b : Sm) : Sm := fun ρ st => sOf (f ρ st) ρ fun ds st1 => loopS (turnS g b) ds ρ st1
section
variable {X : Cx} {wh : WX} {pos : Pos}
theorem PIi.imp {tg it : Expr} {t t' : TI} (h : PI X tg it t) (k : ∀ σ H Q, t' σ H Q → t σ H Q) : PI X tg it t' := ⟨fun pins s σ H R I q => h.run pins s σ H R I (k σ H R q)⟩
variable (X wh) in
abbrev PIt (tg it : Expr) (f : Itr) : Prop := PI X tg it (rdI X.K wh f)
theorem rd_for {K : PySem.W.Frag} {D : Ends} {σ : L2.St} {H : Hp} {f : Itr} {g : Tg} {b : Sm} {is : List Nat} (h : rdS K wh (sFor f g b) D σ H) : tFor (rdI K wh f) (rdG K is g) (rdS K wh b) D σ H := by
  obtain ⟨H₀, B, β, st, ρ, hb, sr, er, ok⟩ := h
  refine ⟨B, β, st, ρ, sr, er, ?_⟩
  unfold sFor sOf at ok
  cases e : f ρ st with
  | bad => simp only [e] at ok; exact ok
  | exc c x st1 =>
    simp only [e] at ok
    exact fun cls dd B' H' β' go sr1 xr => ok σ cls dd B' H' β' go sr1 (er.go go) xr
  | ok ds st1 =>
    simp only [e] at ok
    intro J B1 H1 β1 go1 sr1 it
    obtain ⟨G, Y, wk, hG, hY⟩ := it.ex
    -- behind i turns: a state from which the rest of the loop is right
    refine for_it wk (g := rdG K is g) (tb := rdS K wh b) (fun i σ H => ∃ B β st ρ, (∀ a, H a = none → H₀ a = none) ∧ Sub B1 B ∧ SR K B H β st ∧ ER K B β σ ρ ∧ OkS K wh H₀ B H β (loopS (turnS g b) (ds.drop i) ρ st) D)
      ⟨B1, β1, st1, ρ, fun a q => hb a (none_back go1 q), fun _ _ h => h, sr1, er.go go1, by rw [List.drop_zero]; exact OkS.go go1 ok⟩ (fun i σ H _ ⟨B, β, st, ρ, _, s, sr, _, _⟩ => hG B H s sr.sub) ?_ ?_
    · intro i x σ2 H2 H3 hi ⟨B2, β2, st2, ρ2, hb2, s2, sr2, er2, ok2⟩ hy
      obtain ⟨B3, go3, sr3, r3⟩ := hY i ds[i] B2 H2 β2 st2 x H3 (List.getElem?_eq_getElem hi) s2 sr2 hy
      rw [List.drop_eq_getElem_cons hi] at ok2
      unfold loopS turnS at ok2
      cases eg : g (.d ds[i]) ρ2 with
      | none => simp only [eg] at ok2; exact ok2.elim
      | some ρ3 =>
        simp only [eg] at ok2
        refine ⟨B3, β2, st2, ρ2, .d ds[i], ρ3, sr3, er2.go go3, r3, eg, fun σ' er' _ => ?_⟩
        have hb3 : ∀ a, H3 a = none → H₀ a = none := fun a q => hb2 a (none_back go3 q)
        have s3 : Sub B1 B3 := fun a o q => go3.fz a o (s2 a o q)
        refine ⟨H₀, B3, β2, st2, ρ3, hb3, sr3, er', ?_⟩
        have again : ∀ ρ' st', OkS K wh H₀ B2 H2 β2 (loopS (turnS g b) (ds.drop (i + 1)) ρ' st') D → ∀ σ'' B' H' β', Go B3 H3 β2 B' H' β' → SR K B' H' β' st' → ER K B' β' σ'' ρ' →
            ∃ B β st ρ, (∀ a, H' a = none → H₀ a = none) ∧ Sub B1 B ∧ SR K B H' β st ∧ ER K B β σ'' ρ ∧ OkS K wh H₀ B H' β (loopS (turnS g b) (ds.drop (i + 1)) ρ st) D :=
          fun ρ' st' o σ'' B' H' β' go' sr' er'' => ⟨B', β', st', ρ', fun a q => hb3 a (none_back go' q), fun a u q => go'.fz a u (s3 a u q), sr', er'', OkS.go (go3.trans go') o⟩
        cases eb : b ρ3 st2 with
        | nx ρ' st' => simp only [eb] at ok2; exact again ρ' st' ok2
        | ct ρ' st' => simp only [eb] at ok2; exact again ρ' st' ok2
        | bk ρ' st' => simp only [eb] at ok2; exact OkS.go (o := .nx ρ' st') go3 ok2
        | rt w st' => simp only [eb] at ok2; exact OkS.go (o := .rt w st') go3 ok2
        | exc c z ρ' st' => simp only [eb] at ok2; exact OkS.go (o := .exc c z ρ' st') go3 ok2
        | bad => simp only [eb] at ok2; exact ok2
    · intro σ2 H2 ⟨B2, β2, st2, ρ2, hb2, s2, sr2, er2, ok2⟩
      rw [List.drop_length] at ok2
      exact ok2 σ2 B2 H2 β2 (Go.refl _ _ _) sr2 er2
theorem s_for {tg iter : Expr} {body : List Stmt} {f : Itr} {g : Tg} {b : Sm} {is : List Nat} (hp : PassesOwn (model X.prog X.w) X.A X.env X.xe) (hc : X.calm = true) (hi : PIt X wh tg iter f) (hg : PT1 X tg is g) (hb : PFs X wh body b)
    (hs : ∀ x, foldedSetIterable iter X.env x = pure x := by intro _; rfl) : PF X wh (.For tg iter body [] pos) (sFor f g b) :=
  PS.imp (ps_for hp hc hi hg hb hs) fun _ _ _ h => rd_for h
/-- a while, by so many turns at most -/
def whileS (t : Tst) (b : Sm) : Nat → Sm
  | 0, _, _ => .bad
  | n + 1, ρ, st => sOf (t ρ st) ρ fun x st1 => if x = true then (match b ρ st1 with
    | .nx ρ' st' => whileS t b n ρ' st'
    | .ct ρ' st' => whileS t b n ρ' st'
    | .bk ρ' st' => .nx ρ' st'
    | .rt w st' => .rt w st'
    | .exc c x ρ' st' => .exc c x ρ' st'
    | .bad => .bad) else .nx ρ st1
theorem s_while {c : Expr} {body : List Stmt} {t : Tst} {b : Sm} {n : Nat} (hp : PassesOwn (model X.prog X.w) X.A X.env X.xe) (ht : PB X wh c t) (hb : PFs X wh body b) : PF X wh (.While c body [] pos) (whileS t b n) :=
  PS.imp (ps_while hp ht hb) fun D σ H ⟨H₀, B, β, st, ρ, hb0, sr, er, ok⟩ => by
    refine ⟨fun m σ H => ∃ B β st ρ, (∀ a, H a = none → H₀ a = none) ∧ SR X.K B H β st ∧ ER X.K B β σ ρ ∧ OkS X.K wh H₀ B H β (whileS t b m ρ st) D, ⟨n, B, β, st, ρ, hb0, sr, er, ok⟩, ?_⟩
    intro m σ2 H2 ⟨B2, β2, st2, ρ2, hb2, sr2, er2, ok2⟩
    cases m with
    | zero => exact ok2.elim
    | succ m =>
      unfold whileS at ok2
      refine ⟨B2, β2, st2, ρ2, sr2, er2, OkS.expr okB sr2 er2 ok2 fun x st3 v B3 H3 β3 go3 sr3 er3 re ok3 => ?_⟩
      cases (show v = x from re)
      have hb3 : ∀ a, H3 a = none → H₀ a = none := fun a q => hb2 a (none_back go3 q)
      cases x with
      | false =>
        rw [if_neg (by decide)] at ok3 ⊢
        exact ok3 σ2 B3 H3 β3 (Go.refl _ _ _) sr3 er3
      | true =>
        rw [if_pos rfl] at ok3 ⊢
        refine ⟨fun σ' H' => ∃ B β st ρ, (∀ a, H' a = none → H₀ a = none) ∧ SR X.K B H' β st ∧ ER X.K B β σ' ρ ∧ OkS X.K wh H₀ B H' β (whileS t b m ρ st) D, fun σ' H' q => ⟨m, Nat.lt_succ_self m, q⟩, H₀, B3, β3, st3, ρ2, hb3, sr3, er3, ?_⟩
        have again : ∀ ρ' st', OkS X.K wh H₀ B3 H3 β3 (whileS t b m ρ' st') D → ∀ σ'' B' H' β', Go B3 H3 β3 B' H' β' → SR X.K B' H' β' st' → ER X.K B' β' σ'' ρ' →
            ∃ B β st ρ, (∀ a, H' a = none → H₀ a = none) ∧ SR X.K B H' β st ∧ ER X.K B β σ'' ρ ∧ OkS X.K wh H₀ B H' β (whileS t b m ρ st) D :=
          fun ρ' st' o σ'' B' H' β' go' sr' er'' => ⟨B', β', st', ρ', fun a q => hb3 a (none_back go' q), sr', er'', OkS.go go' o⟩
        cases eb : b ρ2 st3 with
        | nx ρ' st' => simp only [eb] at ok3; exact again ρ' st' ok3
        | ct ρ' st' => simp only [eb] at ok3; exact again ρ' st' ok3
        | bk ρ' st' => simp only [eb] at ok3; exact ok3
        | rt w st' => simp only [eb] at ok3; exact ok3
        | exc c z ρ' st' => simp only [eb] at ok3; exact ok3
        | bad => simp only [eb] at ok3; exact ok3
end
/-! ## comprehensions -/
def wipeE : List Nat → En → En
  | [], ρ => ρ
  | v :: vs, ρ => (wipeE vs ρ).set v none
theorem ER.unset {K : PySem.W.Frag} {B : Hp} {β : Ad} {σ : L2.St} {ρ : En} {i : Nat} (h : ER K B β σ ρ) : ER K B β (σ.set i none) (ρ.set i none) := by
  refine ⟨by rw [List.length_set, List.length_set]; exact h.1, fun j u e => ?_⟩
  by_cases q : j = i
  · subst q
    have hj : j < ρ.length := by
      have := (List.getElem?_eq_some_iff.mp e).1
      rw [List.length_set] at this
      exact this
    rw [List.getElem?_set_self hj] at e
    cases e
  · rw [List.getElem?_set_ne (Ne.symm q)] at e
    rw [List.getElem?_set_ne (Ne.symm q)]
    exact h.2 j u e
theorem ER.wipe {K : PySem.W.Frag} {B : Hp} {β : Ad} {σ : L2.St} {ρ : En} (h : ER K B β σ ρ) : ∀ vs : List Nat, ER K B β (L2.wipe σ vs) (wipeE vs ρ)
  | [] => h
  | v :: vs => ER.unset (ER.wipe h vs)
/-- the block's turns: a target, tests, the element -/
def lcLoop (g : Tg) (t : Tst) (f : Ex) (ρ : En) : List Vl → List Vl → Sto → Rs (List Vl)
  | [], acc, st => .ok acc st
  | d :: ds, acc, st => match g (.d d) ρ with
    | none => .bad
    | some ρ' => match t ρ' st with
      | .ok true st1 => (match f ρ' st1 with
        | .ok w st2 => (match toD w st2 with
          | .ok x st3 => if acc.length < sizeLine then lcLoop g t f ρ ds (acc ++ [x]) st3 else .bad
          | _ => .bad)
        | _ => .bad)
      | .ok false st1 => lcLoop g t f ρ ds acc st1
      | _ => .bad
def nLc (it : Itr) (g : Tg) (t : Tst) (f : Ex) (own : List Nat) : ExN := fun ρ st => (it ρ st).bind fun ds st1 => lcLoop g t f (wipeE own ρ) ds [] st1
/-- no exception leaves a comprehension's block -/
abbrev W0 : WX := fun _ _ _ _ => False
def tYesF : Tst := fun _ st => .ok true st
theorem wipe_at : ∀ (vs : List Nat) (σ : L2.St) (j : Nat), (L2.wipe σ vs)[j]? = if j ∈ vs then (σ[j]?.map fun _ => none) else σ[j]?
  | [], σ, j => by simp [L2.wipe]
  | v :: vs, σ, j => by
    unfold L2.wipe
    by_cases h : j = v
    · subst h
      rw [if_pos List.mem_cons_self, List.getElem?_set]
      simp only [if_pos]
      rw [L2.wipe_length]
      by_cases hl : j < σ.length
      · simp [hl]
      · simp [hl]
    · rw [List.getElem?_set_ne (Ne.symm h), wipe_at vs σ j]
      simp [h]
theorem wipe_off {is vs : List Nat} {σ σ' : L2.St} (h : Off is σ σ') (s : ∀ i ∈ is, i ∈ vs) : L2.wipe σ' vs = L2.wipe σ vs := by
  apply List.ext_getElem?
  intro j
  rw [wipe_at, wipe_at]
  by_cases m : j ∈ vs
  · rw [if_pos m, if_pos m]
    by_cases hl : j < σ.length
    · rw [List.getElem?_eq_getElem hl, List.getElem?_eq_getElem (by rw [h.len]; exact hl)]
      rfl
    · have hl2 : ¬ j < σ'.length := by rw [h.len]; exact hl
      rw [List.getElem?_eq_none (Nat.le_of_not_lt hl), List.getElem?_eq_none (Nat.le_of_not_lt hl2)]
  · rw [if_neg m, if_neg m]
    exact h.at_ j fun z => m (s j z)
section
variable {K : PySem.W.Frag}
theorem wipe_wipe (σ : L2.St) (vs : List Nat) : L2.wipe (L2.wipe σ vs) vs = L2.wipe σ vs := by
  apply List.ext_getElem?
  intro j
  rw [wipe_at, wipe_at]
  by_cases m : j ∈ vs
  · rw [if_pos m, if_pos m]
    cases σ[j]? <;> rfl
  · rw [if_neg m, if_neg m]
theorem Go.wrote {B H B' H' : Hp} {β β' : Ad} {D : Addr} {o : HO} (g : Go B H β B' H' β') (h0 : H D = none) : Go B H β B' (upd H' D o) β' where
  fz := g.fz
  hd := g.hd
  keep := fun a u h hn => by
    rw [upd_ne (show a ≠ D from fun e => by rw [e, h0] at h; cases h)]
    exact g.keep a u h hn
  tr := fun a u h => by
    rw [upd_ne (show a ≠ D from fun e => by rw [e, h0] at h; cases h)]
    exact g.tr a u h
  nb := g.nb
  nf := g.nf
theorem SR.other {B H : Hp} {β : Ad} {st : Sto} {D : Addr} {o : HO} (sr : SR K B H β st) (hD : D ∉ flat β) (bD : B D = none) : SR K B (upd H D o) β st where
  len := sr.len
  nd := sr.nd
  trk := fun a ha => by
    rw [upd_ne (show a ≠ D from fun e => hD (e ▸ ha))]
    exact sr.trk a ha
  sub := fun a u h => by
    rw [upd_ne (show a ≠ D from fun e => by rw [e, bD] at h; cases h)]
    exact sr.sub a u h
  cell := fun n p c hp hc => CellOk.move (fun _ _ h => h) (fun _ _ h => h) (fun a ha u _ h => by
    rw [upd_ne (show a ≠ D from fun e => hD (e ▸ mem_flat hp ha))]
    exact h) (sr.cell n p c hp hc)
/-- [f for g in it if t], a new list -/
theorem rd_lc {wh : WX} {σ : L2.St} {H : Hp} {Q : VK} {it : Itr} {g : Tg} {t : Tst} {f : Ex} {own is : List Nat} (hs : ∀ i ∈ is, i ∈ own) (h : rd K wh (relN K) (nLc it g t f own) σ H Q) :
    tLc (rdI K wh it) (rdG K is g) (rd K W0 relB t) (rd K W0 (relO K) f) own σ H Q := by
  obtain ⟨B, β, st, ρ, sr, er, ok⟩ := h
  refine ⟨B, β, st, ρ, sr, er, ?_⟩
  unfold nLc at ok
  cases e : it ρ st with
  | bad => rw [e] at ok; exact ok
  | exc c x st1 => rw [e] at ok; exact fun cls dd B' H' β' go sr1 xr => ok cls dd B' H' β' go sr1 xr
  | ok ds st1 =>
    rw [e] at ok
    intro J B1 H1 β1 go1 sr1 itk D hD
    obtain ⟨G, Y, wk, hG, hY⟩ := itk.ex
    have ok1 : OkG K wh σ (relN K) H B H β (lcLoop g t f (wipeE own ρ) ds [] st1) Q := ok
    -- behind i turns: the new list at D holds acc, the rest of the loop is right
    refine lc_it wk (Qd := Q (.ref D)) (fun i H' => ∃ B' β' st' acc xs, Go B H β B' H' β' ∧ Sub B1 B' ∧ SR K B' H' β' st' ∧ D ∉ flat β' ∧ B' D = none ∧ H' D = some (.lst xs) ∧ RepL K B' xs acc ∧
      OkG K wh σ (relN K) H B H β (lcLoop g t f (wipeE own ρ) (ds.drop i) acc st') Q) ?_ (fun i H' _ ⟨B', β', st', acc, xs, _, s, sr', _⟩ => hG B' H' s sr'.sub) ?_ ?_
    · exact ⟨B1, β1, st1, [], [], go1.trans (Go.laid hD), fun _ _ q => q, sr1.laid hD, not_flat sr1 hD, not_fro sr1 hD, upd_same, .nil, by rw [List.drop_zero]; exact ok1⟩
    · intro i x H2 H3 hi ⟨B2, β2, st2, acc, xs, go2, s2, sr2, nD, bD, hDl, rl, ok2⟩ hy
      obtain ⟨B3, go3, sr3, r3⟩ := hY i ds[i] B2 H2 β2 st2 x H3 (List.getElem?_eq_getElem hi) s2 sr2 hy
      rw [List.drop_eq_getElem_cons hi] at ok2
      have er3 : ER K B3 β2 (L2.wipe σ own) (wipeE own ρ) := (er.go (go2.trans go3)).wipe own
      unfold lcLoop at ok2
      cases eg : g (.d ds[i]) (wipeE own ρ) with
      | none => simp only [eg] at ok2; exact ok2.elim
      | some ρ3 =>
        simp only [eg] at ok2
        refine ⟨B3, β2, st2, wipeE own ρ, .d ds[i], ρ3, sr3, er3, r3, eg, fun σ' er' off => ⟨(wipe_off off hs).trans (wipe_wipe σ own), B3, β2, st2, ρ3, sr3, er', ?_⟩⟩
        cases et : t ρ3 st2 with
        | bad => simp only [et] at ok2; exact ok2
        | exc c z st4 => simp only [et] at ok2; exact ok2.elim
        | ok b st4 =>
          simp only [et] at ok2
          intro b' B4 H4 β4 go4 sr4 re4
          cases (show b' = b from re4)
          have go24 := go3.trans go4
          -- D stands
          have hD4 : H4 D = some (.lst xs) := go24.keep D _ hDl nD
          have nD4 : D ∉ flat β4 := notin_go go24 nD hDl
          have bD4 : B4 D = none := ((RowOk.go (K := K) (ds := acc) go24 nD ⟨bD, xs, hDl, rl⟩)).1
          have s4 : Sub B1 B4 := fun a o q => go24.fz a o (s2 a o q)
          cases b with
          | false =>
            rw [if_neg (by decide)]
            exact ⟨B4, β4, st4, acc, xs, go2.trans go24, s4, sr4, nD4, bD4, hD4, rl.mono go24.fz, ok2⟩
          | true =>
            rw [if_pos rfl]
            refine ⟨B4, β4, st4, ρ3, sr4, er'.go go4, ?_⟩
            dsimp only at ok2
            cases ef : f ρ3 st4 with
            | bad => simp only [ef] at ok2; exact ok2
            | exc c z st5 => simp only [ef] at ok2; exact ok2.elim
            | ok w st5 =>
              simp only [ef] at ok2
              intro y B5 H5 β5 go5 sr5 re5
              have hD5 : H5 D = some (.lst xs) := go5.keep D _ hD4 nD4
              have nD5 : D ∉ flat β5 := notin_go go5 nD4 hD4
              have bD5 : B5 D = none := ((RowOk.go (K := K) (ds := acc) go5 nD4 ⟨bD4, xs, hD4, rl.mono go24.fz⟩)).1
              cases ed : toD w st5 with
              | bad => simp only [ed] at ok2; exact ok2.elim
              | exc c z st6 => simp only [ed] at ok2; exact ok2.elim
              | ok x6 st6 =>
                simp only [ed] at ok2
                by_cases hl : acc.length < sizeLine
                · rw [if_pos hl] at ok2
                  obtain ⟨B7, go7, sr7, r7⟩ := toD_ok sr5 re5 ed
                  have bD7 : B7 D = none := ((RowOk.go (K := K) (ds := acc) go7 nD5 ⟨bD5, xs, hD5, (rl.mono go24.fz).mono go5.fz⟩)).1
                  have rl7 : RepL K B7 (xs ++ [y]) (acc ++ [x6]) := (((rl.mono go24.fz).mono go5.fz).mono go7.fz).append (.one r7)
                  refine ⟨xs, hD5, by rw [rl.length]; exact hl, B7, β5, st6, acc ++ [x6], xs ++ [y], ((((go2.trans go24).trans go5).trans go7).wrote (none_back go1 hD)), fun a o q => go7.fz a o (go5.fz a o (s4 a o q)), sr7.other nD5 bD7, nD5, bD7, upd_same, rl7, ok2⟩
                · rw [if_neg hl] at ok2
                  exact ok2.elim
    · intro H2 ⟨B2, β2, st2, acc, xs, go2, s2, sr2, nD, bD, hDl, rl, ok2⟩
      rw [List.drop_length] at ok2
      have h0 : H D = none := none_back go1 hD
      exact ok2 (.ref D) B2 H2 β2 go2 sr2 ⟨D, rfl, h0, nD, bD, xs, hDl, rl⟩
end
end F

namespace F
open PySem PySem.Spec PyProof.Rows L2
section
variable {X : Cx} {wh : WX}
theorem takesW0 {X : Cx} : Takes X W0 := takes0
theorem n_lc {elt tg iter : Expr} {ifs : List Expr} {scope : Scope} {own : List (Str × Nat)} {pos : Pos} {it : Itr} {g : Tg} {t : Tst} {f : Ex} {is : List Nat} (hc : X.calm = true) (hN : X.N.Nodup) (hs : ∀ i ∈ is, i ∈ own.map (·.2)) (hi : PIt X wh tg iter it) (ok : BlkOk X.N X.env.scope scope own)
    (hg : ∀ (s : Shared) (H : Hp) (C : Addr) (cl : List (Str × Addr)) (fp : List Addr), PT1 (X.blk s H scope (compEnvC scope cl C X.env) fp) tg is g)
    (ht : ∀ (s : Shared) (H : Hp) (C : Addr) (cl : List (Str × Addr)) (fp : List Addr), PTs (X.blk s H scope (compEnvC scope cl C X.env) fp) ifs (rd X.K W0 relB t))
    (he : ∀ (s : Shared) (H : Hp) (C : Addr) (cl : List (Str × Addr)) (fp : List Addr), PO (X.blk s H scope (compEnvC scope cl C X.env) fp) W0 elt f) (hf : ∀ x, foldedSetIterable iter X.env x = pure x := by intro _; rfl) :
    PN X wh (.ListComp elt [⟨tg, iter, ifs, 0⟩] scope pos) (nLc it g t f (own.map (·.2))) :=
  PE.imp (pe_lc hc hN hi ok hg ht he hf) fun _ _ _ h => rd_lc hs h
theorem rd_imp {K : PySem.W.Frag} {α γ : Type} {Rel : Rl α γ} {f : En → Sto → Rs α} {σ : L2.St} {H : Hp} {Q Q' : γ → Hp → Prop} (h : rd K wh Rel f σ H Q) (q : ∀ g H', Q g H' → Q' g H') : rd K wh Rel f σ H Q' := by
  obtain ⟨B, β, st, ρ, sr, er, ok⟩ := h
  exact ⟨B, β, st, ρ, sr, er, ok.imp q⟩
theorem gN_name {K : PySem.W.Frag} {i : Nat} {v : V} {σ : L2.St} {H : Hp} {Q : L2.St → Hp → Prop} (h : rdG K [i] (gN i) v σ H Q) : gName i v σ H Q := by
  obtain ⟨B, β, st, ρ, w, ρ', sr, er, re, e, q⟩ := h
  cases e
  exact q _ (er.set re) (Off.set i σ _)
/-- name = [..] on one line; u: frozen, or a cell of the store -/
theorem s_lc {i : Nat} {y : Str} {py : Pos} {elt tg iter : Expr} {ifs : List Expr} {scope : Scope} {own : List (Str × Nat)} {pos spos : Pos} {it : Itr} {g : Tg} {t : Tst} {f : Ex} {is : List Nat} (u : Rs (List Vl) → Rs Sl)
    (hu : ∀ (K : PySem.W.Frag) (σ : L2.St) (H : Hp) (Q : VK) (n : ExN), rd K wh (relO K) (fun ρ st => u (n ρ st)) σ H Q → rd K wh (relN K) n σ H Q)
    (hc : X.calm = true) (hN : X.N.Nodup) (hy : X.N[i]? = some y) (hyl : X.env.scope.names.lookup y = some .local)
    (hsw : swapsWith (.ListComp elt [⟨tg, iter, ifs, 0⟩] scope pos) (some (.Name y py)) spos.line X.env = pure true) (hs : ∀ i ∈ is, i ∈ own.map (·.2)) (hi : PIt X wh tg iter it) (ok : BlkOk X.N X.env.scope scope own)
    (hg : ∀ (s : Shared) (H : Hp) (C : Addr) (cl : List (Str × Addr)) (fp : List Addr), PT1 (X.blk s H scope (compEnvC scope cl C X.env) fp) tg is g)
    (ht : ∀ (s : Shared) (H : Hp) (C : Addr) (cl : List (Str × Addr)) (fp : List Addr), PTs (X.blk s H scope (compEnvC scope cl C X.env) fp) ifs (rd X.K W0 relB t))
    (he : ∀ (s : Shared) (H : Hp) (C : Addr) (cl : List (Str × Addr)) (fp : List Addr), PO (X.blk s H scope (compEnvC scope cl C X.env) fp) W0 elt f) (hf : ∀ x, foldedSetIterable iter X.env x = pure x := by intro _; rfl) :
    PF X wh (.Assign [.Name y py] (.ListComp elt [⟨tg, iter, ifs, 0⟩] scope pos) spos) (sAsg (fun ρ st => u (nLc it g t f (own.map (·.2)) ρ st)) (gN i)) :=
  PS.imp (ps_setLc hc hN hy hyl hsw hi ok hg ht he hf) fun D σ H h => rd_lc hs (hu X.K σ H _ _ (rd_imp (rd_asg h) fun x H1 q => gN_name q))
theorem u_frozen (K : PySem.W.Frag) (σ : L2.St) (H : Hp) (Q : VK) (n : ExN) (h : rd K wh (relO K) (fun ρ st => frozen (n ρ st)) σ H Q) : rd K wh (relN K) n σ H Q := by
  obtain ⟨B, β, st, ρ, sr, er, ok⟩ := h
  exact ⟨B, β, st, ρ, sr, er, ok.frozen sr.sub⟩
def stored (r : Rs (List Vl)) : Rs Sl := allocS (fresh r)
theorem u_stored (K : PySem.W.Frag) (σ : L2.St) (H : Hp) (Q : VK) (n : ExN) (h : rd K wh (relO K) (fun ρ st => stored (n ρ st)) σ H Q) : rd K wh (relN K) n σ H Q := by
  obtain ⟨B, β, st, ρ, sr, er, ok⟩ := h
  exact ⟨B, β, st, ρ, sr, er, OkG.fresh (OkG.alloc ok)⟩
theorem po_s {e : Expr} {f : ExN} (h : PN X wh e f) : PO X wh e (fun ρ st => stored (f ρ st)) := PE.imp h fun σ H Q q => u_stored X.K σ H Q f q
end
/-! ## defs -/
abbrev Fn := List Sl → Sto → Rs Sl
def retS (n : Nat) : Ot → Rs Sl
  | .nx _ st => .ok (.d .non) (st.take n)
  | .rt (.d x) st => .ok (.d x) (st.take n)
  | .rt (.n ds) st => .ok (.n ds) (st.take n)
  | .rt (.m rows) st => .ok (.m rows) (st.take n)
  | .rt (.r k) st => if k < n then .ok (.r k) (st.take n) else (match st[k]? with
    | some (.lst ds) => .ok (.n ds) (st.take n)
    | some (.frz ds) => .ok (.d (.lst ds)) (st.take n)
    | some (.mat rows) => .ok (.m rows) (st.take n)
    | _ => .bad)
  | .rt (.w k _) st => if k < n then .bad else (match st[k]? with
    | some (.mat rows) => .ok (.m rows.reverse) (st.take n)
    | _ => .bad)
  | .exc c x _ st => .exc c x (st.take n)
  | _ => .bad
def startE (n : Nat) (ws : List Sl) : En := ws.map some ++ List.replicate (n - ws.length) none
def fnS (n : Nat) (b : Sm) : Fn := fun ws st => retS st.length (b (startE n ws) st)
/-- the def with n parameters does what m tells -/
def spF (K : PySem.W.Frag) (n : Nat) (m : Fn) : Sp := fun vs H Q E => ∃ B β st ws, vs.length = n ∧ SR K B H β st ∧ Paired (RepS K B β) vs ws ∧ OkG K (fun cls dd _ H' => E cls dd H') [] (relW K) H B H β (m ws st) Q
section
variable {K : PySem.W.Frag} {B₀ H₀ B H : Hp} {β₀ β : Ad} {st : Sto}
theorem pre_take (g : Go B₀ H₀ β₀ B H β) : β.take β₀.length = β₀ := by
  apply List.ext_getElem?
  intro i
  by_cases h : i < β₀.length
  · rw [List.getElem?_take_of_lt h, List.getElem?_eq_getElem h]
    exact g.hd i _ (List.getElem?_eq_getElem h)
  · rw [List.getElem?_take_eq_none (Nat.le_of_not_lt h), List.getElem?_eq_none (Nat.le_of_not_lt h)]
/-- the cells of this call are forgotten -/
theorem SR.cut (sr : SR K B H β st) (g : Go B₀ H₀ β₀ B H β) : SR K B H β₀ (st.take β₀.length) := by
  have e := pre_take g
  have hsub : ∀ a, a ∈ flat β₀ → a ∈ flat β := fun a ha => by
    obtain ⟨n, p, hp, hm⟩ := of_mem_flat ha
    exact mem_flat (g.hd n p hp) hm
  refine ⟨?_, ?_, fun a ha => sr.trk a (hsub a ha), sr.sub, fun n p c hp hc => ?_⟩
  · have h1 := congrArg List.length e
    rw [List.length_take] at h1
    rw [List.length_take, ← sr.len, h1]
  · have h2 := sr.nd
    rw [← List.take_append_drop β₀.length β, e, flat_append] at h2
    exact (List.nodup_append.mp h2).1
  · have hn := (List.getElem?_eq_some_iff.mp hp).1
    rw [List.getElem?_take_of_lt hn] at hc
    exact sr.cell n p c (g.hd n p hp) hc
theorem Go.cut (g : Go B₀ H₀ β₀ B H β) : Go B₀ H₀ β₀ B H β₀ := ⟨g.fz, fun _ _ h => h, g.keep, g.tr, fun _ h => .inl h, g.nf⟩
theorem ER.start {vs : List V} {ws : List Sl} {N : List Str} (r : Paired (RepS K B β) vs ws) : ER K B β (L2.start N vs) (startE N.length ws) := by
  have hl := Paired.length r
  unfold L2.start startE
  refine ⟨by simp [hl], fun i w e => ?_⟩
  by_cases hi : i < ws.length
  · rw [List.getElem?_append_left (by simpa using hi), List.getElem?_map] at e
    rw [List.getElem?_append_left (by rw [List.length_map, hl]; exact hi), List.getElem?_map]
    clear hl
    induction r generalizing i with
    | nil => simp at hi
    | cons x t ih =>
      cases i with
      | zero =>
        simp at e
        subst e
        exact ⟨_, rfl, x⟩
      | succ i => exact ih i (by simpa using e) (by simpa using hi)
  · rw [List.getElem?_append_right (by simpa using Nat.le_of_not_lt hi)] at e
    have := List.mem_of_getElem? e
    simp at this
theorem own_nodup : ∀ {β : Ad} {n : Nat} {p : Addr × List Addr}, (flat β).Nodup → β[n]? = some p → (own p).Nodup
  | [], n, _, _, h => by simp at h
  | b :: β, 0, p, nd, h => by
    simp at h
    subst h
    have e : flat (b :: β) = own b ++ flat β := rfl
    rw [e] at nd
    exact (List.nodup_append.mp nd).1
  | b :: β, n + 1, p, nd, h => by
    have e : flat (b :: β) = own b ++ flat β := rfl
    rw [e] at nd
    exact own_nodup (List.nodup_append.mp nd).2.1 (by simpa using h)
theorem Paired.app {α γ : Type} {R : α → γ → Prop} : ∀ {xs ys : List α} {us ws : List γ}, Paired R xs us → Paired R ys ws → Paired R (xs ++ ys) (us ++ ws)
  | _, _, _, _, .nil, q => q
  | _, _, _, _, .cons x t, q => .cons x (Paired.app t q)
theorem Paired.rev {α γ : Type} {R : α → γ → Prop} : ∀ {xs : List α} {us : List γ}, Paired R xs us → Paired R xs.reverse us.reverse
  | _, _, .nil => .nil
  | _, _, .cons x t => by
    rw [List.reverse_cons, List.reverse_cons]
    exact Paired.app (Paired.rev t) (.cons x .nil)
/-- behind a body -/
theorem ok_ret {E : XK} {o : Ot} {Q : VK} (sr0 : SR K B₀ H₀ β₀ (st : Sto)) (h : OkG K (fun cls dd _ H' => E cls dd H') [] (relW K) H₀ B₀ H₀ β₀ (retS st.length o) Q) : OkS K (fun cls dd _ H' => E cls dd H') H₀ B₀ H₀ β₀ o { nx := fun _ H' => Q .non H', rt := Q } := by
  have el : st.length = β₀.length := sr0.len.symm
  cases o with
  | nx ρ st1 =>
    intro σ B H β go sr er
    have h' : OkG K _ [] (relW K) H₀ B₀ H₀ β₀ (.ok (.d .non) (st1.take st.length)) Q := h
    exact h' .non B H β₀ go.cut (by rw [el]; exact sr.cut go) .non
  | rt w st1 =>
    intro v B H β go sr re
    cases w with
    | d x =>
      have h' : OkG K _ [] (relW K) H₀ B₀ H₀ β₀ (.ok (.d x) (st1.take st.length)) Q := h
      exact h' v B H β₀ go.cut (by rw [el]; exact sr.cut go) re
    | n ds =>
      have h' : OkG K _ [] (relW K) H₀ B₀ H₀ β₀ (.ok (.n ds) (st1.take st.length)) Q := h
      obtain ⟨a, e, h0, hr⟩ := re
      exact h' v B H β₀ go.cut (by rw [el]; exact sr.cut go) ⟨a, e, h0, not_flat sr0 h0, hr⟩
    | m rows =>
      have h' : OkG K _ [] (relW K) H₀ B₀ H₀ β₀ (.ok (.m rows) (st1.take st.length)) Q := h
      obtain ⟨a, as, e, hh, nd, hx, hr⟩ := re
      exact h' v B H β₀ go.cut (by rw [el]; exact sr.cut go) ⟨a, as, e, fun b m => ⟨(hh b m).1, not_flat sr0 (hh b m).1, (hh b m).2⟩, nd, hx, hr⟩
    | w k i =>
      unfold retS at h
      dsimp only at h
      obtain ⟨p, a, hp, rfl, ha0, haf, haB, hx⟩ := re
      by_cases hk : k < st.length
      · rw [if_pos hk] at h
        exact h.elim
      · rw [if_neg hk] at h
        have notin : ∀ a ∈ own p, a ∉ flat β₀ := fun a ha m => by
          obtain ⟨n, q, hq, hm⟩ := of_mem_flat m
          have e1 := flat_apart sr.nd (go.hd n q hq) hp hm ha
          have := (List.getElem?_eq_some_iff.mp hq).1
          omega
        have h0 : ∀ a ∈ own p, H₀ a = none := fun a ha => by
          rcases go.nb a (mem_flat hp ha) with z | z
          · exact absurd z (notin a ha)
          · exact z
        cases ec : st1[k]? with
        | none => simp only [ec] at h; exact h.elim
        | some c =>
          simp only [ec] at h
          have co := sr.cell k p c hp ec
          cases c with
          | mat rows =>
            obtain ⟨h1, h2, h3⟩ := co
            have nd : (own p).Nodup := own_nodup sr.nd hp
            have na : a ∉ p.2 := fun m => haf (mem_flat hp (List.mem_cons_of_mem _ m))
            refine h (.ref a) B H β₀ go.cut (by rw [el]; exact sr.cut go) ⟨a, p.2.reverse, rfl, fun b m => ?_, ?_, ?_, ?_⟩
            · rcases List.mem_cons.mp m with z | z
              · rw [z]; exact ⟨ha0, not_flat sr0 ha0, haB⟩
              · have z := List.mem_reverse.mp z
                have zo : b ∈ own p := List.mem_cons_of_mem _ z
                obtain ⟨ds, q, _⟩ := mem_rows h3 b z
                exact ⟨h0 b zo, notin b zo, q⟩
            · exact List.nodup_cons.mpr ⟨fun m => na (List.mem_reverse.mp m), (List.reverse_perm p.2).nodup_iff.mpr (List.nodup_cons.mp nd).2⟩
            · rw [List.map_reverse]; exact hx
            · exact Paired.rev h3
          | _ => exact h.elim
    | r k =>
      unfold retS at h
      dsimp only at h
      obtain ⟨p, hp, rfl⟩ := re
      by_cases hk : k < st.length
      · rw [if_pos hk] at h
        have hk2 : k < β₀.length := by rw [← el]; exact hk
        have e0 : β₀[k]? = some p := by
          rw [List.getElem?_eq_getElem hk2]
          have := go.hd k _ (List.getElem?_eq_getElem hk2)
          rw [hp] at this
          exact this.symm
        exact h (.ref p.1) B H β₀ go.cut (by rw [el]; exact sr.cut go) ⟨p, e0, rfl⟩
      · rw [if_neg hk] at h
        have notin : ∀ a ∈ own p, a ∉ flat β₀ := fun a ha m => by
          obtain ⟨n, q, hq, hm⟩ := of_mem_flat m
          have e1 := flat_apart sr.nd (go.hd n q hq) hp hm ha
          have := (List.getElem?_eq_some_iff.mp hq).1
          omega
        have h0 : ∀ a ∈ own p, H₀ a = none := fun a ha => by
          rcases go.nb a (mem_flat hp ha) with z | z
          · exact absurd z (notin a ha)
          · exact z
        cases ec : st1[k]? with
        | none => simp only [ec] at h; exact h.elim
        | some c =>
          simp only [ec] at h
          have co := sr.cell k p c hp ec
          have m1 : p.1 ∈ own p := List.mem_cons_self
          cases c with
          | lst ds => exact h (.ref p.1) B H β₀ go.cut (by rw [el]; exact sr.cut go) ⟨p.1, rfl, h0 _ m1, notin _ m1, co⟩
          | frz ds =>
            obtain ⟨xs, hx, rl⟩ := co
            exact h (.ref p.1) B H β₀ go.cut (by rw [el]; exact sr.cut go) (Rep.lst hx rl)
          | mat rows =>
            obtain ⟨h1, h2, h3⟩ := co
            have nd : (own p).Nodup := own_nodup sr.nd hp
            refine h (.ref p.1) B H β₀ go.cut (by rw [el]; exact sr.cut go) ⟨p.1, p.2, rfl, fun b m => ⟨h0 b m, notin b m, ?_⟩, nd, h2, h3⟩
            rcases List.mem_cons.mp m with z | z
            · rw [z]; exact h1
            · obtain ⟨ds, q, _⟩ := mem_rows h3 b z
              exact q
          | dct _ => exact h.elim
          | dtp _ => exact h.elim
          | dead => exact h.elim
  | bk ρ st1 => exact h.elim
  | ct ρ st1 => exact h.elim
  | bad => exact h.elim
  | exc c x ρ st1 =>
    have h' : OkG K (fun cls dd _ H' => E cls dd H') [] (relW K) H₀ B₀ H₀ β₀ (.exc c x (st1.take st.length)) Q := h
    exact fun σ cls dd B H β go sr er xr => h' cls dd B H β₀ go.cut (by rw [el]; exact sr.cut go) xr
end
section
variable {P : Program} {w : World} {K : PySem.W.Frag} {mg : Str → Option Value} {base : Heap}
theorem fn_ok {x qual : Str} {params : Arguments} {body : List Stmt} {scope : Scope} {dvs : List V} {kws : List (Str × V)} {f : Addr} {fd : FuncData} {N ps : List Str} {k : Nat} {b : Sm} (F : FunD K x qual params body scope dvs kws f fd) (S : FnScope N ps scope)
    (hb : ∀ (cdv : Value) (A : Around) (outer : List Env) (s : Shared) (H : Hp) (E : XK), Room k (A.deeper (envOfC qual scope s.heap.objs.size f cdv)) →
      PFs (cxOf (L2.CX P w) P w K mg base N qual scope f cdv A outer s H E) (fun cls dd _ H' => E cls dd H') body b) : FnOk P w K mg base (L2.CX P w) (k + 1) f fd ps (spF K ps.length (fnS N.length b)) := by
  refine F.ok S (fun vs H Q E ⟨_, _, _, _, h, _⟩ => h) (fun cdv A outer s H vs Q E hr ⟨B, β, st, ws, hl, sr, rp, ok⟩ => ⟨_, hb cdv A outer s H E hr, ?_⟩)
  exact ⟨H, B, β, st, startE N.length ws, fun _ q => q, sr, ER.start rp, ok_ret sr ok⟩
end
/-- a call of a def of the text -/
def eCall (m : Fn) (g : Ar) : Ex := fun ρ st => (g ρ st).bind fun ws st1 => m ws st1
section
variable {X : Cx} {wh : WX} {k n : Nat} {f : Addr} {fd : FuncData} {ps : List Str} {m : Fn} {g : Ar} {x : Str} {p pos : Pos} {e : Expr} {es : List Expr}
theorem rd_call {σ : L2.St} {H : Hp} {Q : VK} (h : rd X.K wh (relW X.K) (eCall m g) σ H Q) (hn : ∀ ρ st ws st1, g ρ st = .ok ws st1 → ws.length = n) : tCallS (spF X.K n m) (WE wh) (rd X.K wh (relS X.K) g) σ H Q := by
  obtain ⟨B, β, st, ρ, sr, er, ok⟩ := h
  refine ⟨B, β, st, ρ, sr, er, OkG.next ok fun ws st1 vs B1 H1 β1 e go sr1 re ok1 => ?_⟩
  refine ⟨B1, β1, st1, ws, by rw [Paired.length re]; exact hn ρ st ws st1 e, sr1, re, ?_⟩
  cases q : m ws st1 with
  | ok a st2 =>
    rw [q] at ok1
    exact fun v B' H' β' go' sr' r' => ok1 v B' H' β' go' sr' (RepW.early (fun _ z => none_back go z) r')
  | exc c z st2 => rw [q] at ok1; exact ok1
  | bad => rw [q] at ok1; exact ok1
theorem w_call (Fk : FnOk X.prog X.w X.K X.mg X.base (L2.CX X.prog X.w) k f fd ps (spF X.K n m)) (tk : Takes X wh) (hr : Room k X.A) (hg : Gl X x) (hm : X.mg x = some (.ref f)) (hk : PySem.W.keepIn X.K (.ref f) = true) (hb : Binds X.K fd ps [])
    (ha : PR X wh (e :: es) g) (hn : ∀ ρ st ws st1, g ρ st = .ok ws st1 → ws.length = n) (hdb : (x == ("__debug__" : Str)) = false := by decide) (he : starEach (e :: es) X.env = (false, eval e X.env) :: starEach es X.env := by rfl) (hpl : (backTo pos (starEach es X.env)).any (·.1) = false := by rfl) :
    PW X wh (.Call (.Name x p) (e :: es) [] pos) (eCall m g) :=
  PE.imp (pe_callS Fk hr hg hm hk hb (fun σ => passAt tk σ) ha hdb he hpl) fun σ H Q h => rd_call h hn
end
/-- how many arguments -/
structure ArLen (g : Ar) (n : Nat) : Prop where
  len : ∀ ρ st ws st1, g ρ st = .ok ws st1 → ws.length = n
theorem len_nil : ArLen aNil 0 := ⟨fun ρ st ws st1 e => by cases e; rfl⟩
theorem len_cons {f : Ex} {g : Ar} {n : Nat} (h : ArLen g n) : ArLen (aCons f g) (n + 1) := ⟨fun ρ st ws st1 e => by
  unfold aCons at e
  cases q : f ρ st with
  | ok w st2 =>
    rw [q] at e
    have e' : (g ρ st2).bind (fun xs st3 => Rs.ok (w :: xs) st3) = .ok ws st1 := e
    cases q2 : g ρ st2 with
    | ok xs st3 =>
      rw [q2] at e'
      cases e'
      exact congrArg (· + 1) (h.len ρ st2 xs _ q2)
    | exc c z st3 => rw [q2] at e'; cases e'
    | bad => rw [q2] at e'; cases e'
  | exc c z st3 => rw [q] at e; cases e
  | bad => rw [q] at e; cases e⟩
end F

namespace F
open PySem PySem.Spec PyProof.Rows L2
variable {K : PySem.W.Frag}
/-! ## subscripts -/
def ixL (x y : Sl) (st : Sto) : Rs Sl := match listOf x st, y with
  | some ds, .d (.int i) => (match atI ds i with
    | some d => .ok (.d d) st
    | none => .bad)
  | _, _ => .bad
def ixT : Op2
  | .d (.tup ds), .d (.int i), st => (match atI ds i with
    | some d => .ok (.d d) st
    | none => .bad)
  | _, _, _ => .bad
def ixZ : Op2
  | .d (.str z), .d (.int i), st => if z.length ≤ sizeLine then (match atI z.cps.toList i with
    | some c => .ok (.d (.str ⟨#[c]⟩)) st
    | none => .bad) else .bad
  | _, _, _ => .bad
theorem at_rep {B : Hp} {xs : List V} {ds : List Vl} {i : Int} {d : Vl} (r : RepL K B xs ds) (h : atI ds i = some d) : ∃ v, atI xs i = some v ∧ Rep K B v d := by
  unfold atI at h ⊢
  rw [r.length]
  cases e : ixN ds.length i with
  | none => rw [e] at h; cases h
  | some j =>
    rw [e] at h
    exact r.get h
theorem snd_ixL : Snd2 K (rIxL K) ixL := by
  intro wh σ H₀ B H β st x y v u Q sr rx ry ok
  unfold ixL at ok
  split at ok
  · rename_i ds i e
    obtain ⟨a, xs, rfl, h1, rl⟩ := list_of sr rx e
    cases ry
    cases q : atI ds i with
    | none => simp only [q] at ok; exact ok.elim
    | some d =>
      simp only [q] at ok
      obtain ⟨z, hz, r⟩ := at_rep rl q
      exact ⟨a, xs, i, z, rfl, rfl, h1, hz, OkG.pure ok sr (show RepS K B β z (.d d) from r)⟩
  · exact ok.elim
theorem snd_ixT : Snd2 K (rIxT K) ixT := by
  intro wh σ H₀ B H β st x y v u Q sr rx ry ok
  unfold ixT at ok
  split at ok
  · rename_i ds i
    cases rx with
    | tup h rl =>
      cases ry
      cases q : atI ds i with
      | none => simp only [q] at ok; exact ok.elim
      | some d =>
        simp only [q] at ok
        obtain ⟨z, hz, r⟩ := at_rep rl q
        exact ⟨_, _, i, z, rfl, rfl, sqT_at (sr.sub _ _ h), hz, OkG.pure ok sr (show RepS K B β z (.d d) from r)⟩
  · exact ok.elim
theorem snd_ixZ : Snd2 K rIxS ixZ := by
  intro wh σ H₀ B H β st x y v u Q sr rx ry ok
  unfold ixZ at ok
  split at ok
  · rename_i z i
    cases rx
    cases ry
    by_cases hz : z.length ≤ sizeLine
    · rw [if_pos hz] at ok
      cases q : atI z.cps.toList i with
      | none => simp only [q] at ok; exact ok.elim
      | some d =>
        simp only [q] at ok
        exact ⟨z, i, d, rfl, rfl, hz, q, OkG.pure ok sr (show RepS K B β _ (.d _) from .str _)⟩
    · rw [if_neg hz] at ok
      exact ok.elim
  · exact ok.elim
def ixS : Op2 := alt ixL (alt ixT ixZ)
theorem snd_ixS : Snd2 K (rIx K) ixS := Snd2.alt snd_ixL (Snd2.alt snd_ixT snd_ixZ)
section
variable {X : Cx} {wh : WX} {a b e : Expr} {fa fb : Ex} {pos : Pos}
theorem f_ix (ha : PO X wh a fa) (hb : PO X wh b fb) (hs : PlainIx b := by intro _ _; rfl) : PO X wh (.Subscript a b pos) (eBin ixS fa fb) :=
  PE.imp (pe_ix ix_seq ha hb hs) fun _ _ _ h => rd_op snd_ixS h
/-! ### slices -/
abbrev Pt := En → Sto → Rs (Option Int)
def relP : Rl (Option Int) (Option Int) := fun _ _ _ _ x y => x = y
theorem okP : RlOk relP := ⟨fun _ r => r, fun _ r => r⟩
def pNone : Pt := fun _ st => .ok none st
def kPt (x : Sl) (st : Sto) : Rs (Option Int) := match x with
  | .d (.int i) => .ok (some i) st
  | _ => .bad
def pSome (f : Ex) : Pt := fun ρ st => (f ρ st).bind kPt
variable (X wh) in
abbrev PPt (e : Option Expr) (f : Pt) : Prop := L2.PO X e (rd X.K wh relP f)
theorem POi.imp {e : Option Expr} {t t' : TO} (h : L2.PO X e t) (k : ∀ σ H Q, t' σ H Q → t σ H Q) : L2.PO X e t' := ⟨fun pins s σ H Q I q => h.run pins s σ H Q I (k σ H Q q)⟩
theorem p_none : PPt X wh none pNone := POi.imp L2.po_none fun σ H Q ⟨B, β, st, ρ, sr, er, ok⟩ => OkG.pure ok sr rfl
theorem p_some (h : PO X wh e fa) : PPt X wh (some e) (pSome fa) := POi.imp (L2.po_some h) fun σ H Q q =>
  rd_then (k := fun x _ st1 => kPt x st1) q fun x st ρ v B₀ B1 H1 β₀ β1 go sr er re ok => by
    unfold kPt at ok
    split at ok
    · cases re
      exact ⟨_, rfl, OkG.pure ok sr rfl⟩
    · exact ok.elim
def cutD (ds : List Vl) (lo hi : Option Int) : List Vl := (ds.drop (HT.sIx ds.length 0 lo)).take (HT.sIx ds.length ds.length hi - HT.sIx ds.length 0 lo)
theorem cut_rep {B : Hp} {xs : List V} {ds : List Vl} (r : RepL K B xs ds) (lo hi : Option Int) : RepL K B (cutV xs lo hi) (cutD ds lo hi) := by
  unfold cutV cutD
  rw [r.length]
  exact (r.drop _).take _
def slS (x : Sl) (lo hi : Option Int) (st : Sto) : Rs Sl := match listOf x st with
  | some ds => .ok (.n (cutD ds lo hi)) st
  | none => match x with
    | .d (.tup ds) => .ok (.d (.tup (cutD ds lo hi))) st
    | .d (.str z) => if z.length ≤ sizeLine then .ok (.d (.str (cutS z lo hi))) st else .bad
    | _ => .bad
def eSl (f : Ex) (lo hi : Pt) : Ex := fun ρ st => (f ρ st).bind fun x st1 => (lo ρ st1).bind fun l st2 => (hi ρ st2).bind fun u st3 => slS x l u st3
theorem w_sl {lo hi : Option Expr} {l h : Pt} {p2 : Pos} (he : PO X wh e fa) (hl : PPt X wh lo l) (hu : PPt X wh hi h) : PW X wh (.Subscript e (.Slice lo hi none p2) pos) (eSl fa l h) :=
  PE.imp (pe_slice (SlR.or sl_list (SlR.or sl_tupA sl_str)) he hl hu) fun σ H Q q =>
  rd_then (α' := Sl) (Rel' := relW X.K) (k := fun x ρ st1 => (l ρ st1).bind fun l st2 => (h ρ st2).bind fun u st3 => slS x l u st3) q fun x st ρ v B₀ B1 H1 β₀ β1 go1 sr er re ok =>
    ⟨B1, β1, st, ρ, sr, er, OkG.next (OkG.late okW (fun _ q => none_back go1 q) ok) fun lv st2 lv' B2 H2 β2 _ go2 sr2 re2 ok2 => by
      cases (show lv' = lv from re2)
      refine ⟨B2, β2, st2, ρ, sr2, er.go go2, OkG.next (OkG.late okW (fun _ q => none_back go2 q) ok2) fun uv st3 uv' B3 H3 β3 _ go3 sr3 re3 ok3 => ?_⟩
      cases (show uv' = uv from re3)
      have rx := RepS.go (go2.trans go3) re
      have ok4 := OkG.late okW (fun _ q => none_back go3 q) ok3
      unfold slS at ok4
      cases e1 : listOf x st3 with
      | some ds =>
        simp only [e1] at ok4
        obtain ⟨a, xs, rfl, h1, rl⟩ := list_of sr3 rx e1
        have ok5 : OkG X.K wh σ (relN X.K) H3 B3 H3 β3 (.ok (cutD ds lv uv) st3) Q := ok4
        exact .inl ⟨a, xs, rfl, h1, new_list wh σ sr3 (cut_rep rl lv uv) ok5⟩
      | none =>
        simp only [e1] at ok4
        split at ok4
        · rename_i ds
          cases rx with
          | tup ht rl =>
            refine .inr (.inl ⟨_, _, rfl, sqT_at (sr3.sub _ _ ht), fun hw => ?_, fun _ p hp => ?_⟩)
            · have e2 : cutD ds lv uv = ds := by
                unfold cutD
                rw [rl.length] at hw
                rw [hw.1, hw.2]
                simp
              rw [e2] at ok4
              exact OkG.pure ok4 sr3 (show RepW X.K H3 B3 H3 β3 _ (.d (.tup ds)) from .tup ht rl)
            · exact ok4 _ _ _ _ (Go.laidF sr3 hp) (sr3.laidF hp) (Rep.tup upd_same ((cut_rep rl lv uv).mono (sub_new sr3 hp)))
        · rename_i z
          cases rx
          by_cases hz : z.length ≤ sizeLine
          · rw [if_pos hz] at ok4
            exact .inr (.inr ⟨z, rfl, hz, OkG.pure ok4 sr3 (show RepW X.K H3 B3 H3 β3 _ (.d (.str _)) from .str _)⟩)
          · rw [if_neg hz] at ok4
            exact ok4.elim
        · exact ok4.elim⟩
/-- xs[::-1] of a list -/
def nRev (f : Ex) : ExN := fun ρ st => (f ρ st).bind fun x st1 => match listOf x st1 with
  | some ds => .ok ds.reverse st1
  | none => .bad
theorem n_rev {k : Nat} {p1 p2 p3 : Pos} (he : PO X wh e fa) : PN X wh (.Subscript e (.Slice none none (some (.UnaryOp .USub (.Constant (.int 1) k p1) p2)) p3) pos) (nRev fa) :=
  PE.imp (pe_revL he) fun σ H Q q => rd_then (α' := List Vl) (Rel' := relN X.K) (k := fun x _ st1 => match listOf x st1 with | some ds => .ok ds.reverse st1 | none => .bad) q fun x st ρ v B₀ B1 H1 β₀ β1 go sr er re ok => by
    cases e1 : listOf x st with
    | none => simp only [e1] at ok; exact ok.elim
    | some ds =>
      simp only [e1] at ok
      obtain ⟨a, xs, rfl, h1, rl⟩ := list_of sr re e1
      exact ⟨a, xs, rfl, h1, new_list wh σ sr rl.reverse (OkG.late okN (fun _ q => none_back go q) ok)⟩
end
/-! ## calls of built-ins -/
abbrev Bf (α : Type) := List Sl → Sto → Rs α
def SndC (K : PySem.W.Frag) {α : Type} (Rel : Rl α V) (r : List V → Hp → VK → Prop) (c : Bf α) : Prop := ∀ (wh : WX) (σ : L2.St) (B H : Hp) (β : Ad) (st : Sto) (ws : List Sl) (vs : List V) (Q : VK),
  SR K B H β st → Paired (RepS K B β) vs ws → OkG K wh σ Rel H B H β (c ws st) Q → r vs H Q
def eCB {α : Type} (c : Bf α) (g : Ar) : En → Sto → Rs α := fun ρ st => (g ρ st).bind fun ws st1 => c ws st1
section
variable {X : Cx} {wh : WX} {e : Expr} {es : List Expr} {g : Ar} {x : Str} {p pos : Pos}
theorem rd_cb {α : Type} {Rel : Rl α V} {r : List V → Hp → VK → Prop} {c : Bf α} {σ : L2.St} {H : Hp} {Q : VK} (ok : RlOk Rel) (s : SndC K Rel r c) (h : rd K wh Rel (eCB c g) σ H Q) : tCB r (rd K wh (relS K) g) σ H Q :=
  rd_then (k := fun ws _ st1 => c ws st1) h fun ws st ρ vs B₀ B1 H1 β₀ β1 go sr er re ok1 => s wh σ B1 H1 β1 st ws vs Q sr re (OkG.late ok (fun _ q => none_back go q) ok1)
theorem f_cb {α : Type} {Rel : Rl α V} {r : List V → Hp → VK → Prop} {c : Bf α} {id : String} (okr : RlOk Rel) (hc : CallR X (.builtin id) r) (s : SndC X.K Rel r c) (hg : Gl X x) (hm : X.mg x = none) (hv : bootBuiltins x = some (.builtin id)) (ha : PR X wh (e :: es) g) (hn : x ≠ "__name__" := by decide) (hdb : (x == ("__debug__" : Str)) = false := by decide)
    (he : starEach (e :: es) X.env = (false, eval e X.env) :: starEach es X.env := by rfl) (hpl : (backTo pos (starEach es X.env)).any (·.1) = false := by rfl) : PE X (.Call (.Name x p) (e :: es) [] pos) (rd X.K wh Rel (eCB c g)) :=
  PE.imp (pe_callB hc hg hm hv ha hn hdb he hpl) fun _ _ _ h => rd_cb okr s h
theorem f_ct {α : Type} {Rel : Rl α V} {r : List V → Hp → VK → Prop} {c : Bf α} {T : String} (okr : RlOk Rel) (hc : CallR X (.type T) r) (s : SndC X.K Rel r c) (hg : Gl X x) (hm : X.mg x = none) (hv : bootBuiltins x = some (.type T)) (ha : PR X wh (e :: es) g) (hn : x ≠ "__name__" := by decide) (hdb : (x == ("__debug__" : Str)) = false := by decide)
    (he : starEach (e :: es) X.env = (false, eval e X.env) :: starEach es X.env := by rfl) (hpl : (backTo pos (starEach es X.env)).any (·.1) = false := by rfl) : PE X (.Call (.Name x p) (e :: es) [] pos) (rd X.K wh Rel (eCB c g)) :=
  PE.imp (pe_callTy hc hg hm hv ha hn hdb he hpl) fun _ _ _ h => rd_cb okr s h
end
def cLen : Bf Sl := fun ws st => match ws with
  | [w] => (match seqOf w st with
    | some ds => .ok (.d (.int ds.length)) st
    | none => match w with
      | .d (.str z) => if z.length ≤ sizeLine then .ok (.d (.int z.length)) st else .bad
      | _ => .bad)
  | _ => .bad
theorem one_of {α β : Type} {P : α → β → Prop} {vs : List α} {w : β} (h : Paired P vs [w]) : ∃ v, vs = [v] ∧ P v w := by
  cases h with
  | cons x t => cases t; exact ⟨_, rfl, x⟩
theorem twos_of {α β : Type} {P : α → β → Prop} {vs : List α} {w u : β} (h : Paired P vs [w, u]) : ∃ v z, vs = [v, z] ∧ P v w ∧ P z u := by
  cases h with
  | cons x t =>
    cases t with
    | cons y s => cases s; exact ⟨_, _, rfl, x, y⟩
theorem snd_len : SndC K (relO K) (fun xs H Q => ∃ x n, xs = [x] ∧ LenV K x H n ∧ Q (.int n) H) cLen := by
  intro wh σ B H β st ws vs Q sr rp ok
  unfold cLen at ok
  split at ok
  · rename_i w
    obtain ⟨v, rfl, r⟩ := one_of rp
    cases e : seqOf w st with
    | some ds =>
      simp only [e] at ok
      obtain ⟨a, xs, rfl, h1, rl⟩ := seq_of sr r e
      have ok2 := OkG.pure ok sr (show RepS K B β (.int (ds.length : Nat)) (.d (.int ds.length)) from .int _)
      rw [← rl.length] at ok2
      rcases h1 with h1 | h1
      · exact ⟨_, xs.length, rfl, .inl ⟨xs, h1, rfl⟩, ok2⟩
      · exact ⟨_, xs.length, rfl, .inr ⟨xs, h1, rfl⟩, ok2⟩
    | none =>
      simp only [e] at ok
      split at ok
      · rename_i z
        cases r
        by_cases hz : z.length ≤ sizeLine
        · rw [if_pos hz] at ok
          exact ⟨_, z.length, rfl, ⟨hz, rfl⟩, OkG.pure ok sr (show RepS K B β _ (.d (.int _)) from .int _)⟩
        · rw [if_neg hz] at ok
          exact ok.elim
      · exact ok.elim
  · exact ok.elim
/-- one int, two ints -/
def cI1 (g : Int → Int) : Bf Sl := fun ws st => match ws with
  | [.d (.int i)] => .ok (.d (.int (g i))) st
  | _ => .bad
def cI2 (g : Int → Int → Int) : Bf Sl := fun ws st => match ws with
  | [.d (.int i), .d (.int j)] => .ok (.d (.int (g i j))) st
  | _ => .bad
theorem snd_I1 {g : Int → Int} : SndC K (relO K) (fun xs H Q => ∃ i, xs = [.int i] ∧ Q (.int (g i)) H) (cI1 g) := by
  intro wh σ B H β st ws vs Q sr rp ok
  unfold cI1 at ok
  split at ok
  · obtain ⟨v, rfl, r⟩ := one_of rp
    cases r
    exact ⟨_, rfl, OkG.pure ok sr (show RepS K B β _ (.d (.int _)) from .int _)⟩
  · exact ok.elim
theorem snd_I2 {g : Int → Int → Int} : SndC K (relO K) (fun xs H Q => ∃ i j, xs = [.int i, .int j] ∧ Q (.int (g i j)) H) (cI2 g) := by
  intro wh σ B H β st ws vs Q sr rp ok
  unfold cI2 at ok
  split at ok
  · obtain ⟨v, z, rfl, r, s⟩ := twos_of rp
    cases r
    cases s
    exact ⟨_, _, rfl, OkG.pure ok sr (show RepS K B β _ (.d (.int _)) from .int _)⟩
  · exact ok.elim
def absI (i : Int) : Int := if i < 0 then -i else i
def maxI (i j : Int) : Int := if j > i then j else i
def minI (i j : Int) : Int := if j < i then j else i
def cInt : Bf Sl := fun ws st => match ws with
  | [.d (.int i)] => .ok (.d (.int i)) st
  | [.d (.bl k)] => .ok (.d (.int (if k then 1 else 0))) st
  | _ => .bad
theorem snd_int : SndC K (relO K) (fun xs H Q => (∃ i, xs = [.int i] ∧ Q (.int i) H) ∨ ∃ k, xs = [.bl k] ∧ Q (.int (if k then 1 else 0)) H) cInt := by
  intro wh σ B H β st ws vs Q sr rp ok
  unfold cInt at ok
  split at ok
  · obtain ⟨v, rfl, r⟩ := one_of rp
    cases r
    exact .inl ⟨_, rfl, OkG.pure ok sr (show RepS K B β _ (.d (.int _)) from .int _)⟩
  · obtain ⟨v, rfl, r⟩ := one_of rp
    cases r
    exact .inr ⟨_, rfl, OkG.pure ok sr (show RepS K B β _ (.d (.int _)) from .int _)⟩
  · exact ok.elim
def cStr : Bf Sl := fun ws st => match ws with
  | [.d (.int i)] => if i.natAbs < 2 ^ 1900 then .ok (.d (.str (toString i))) st else .bad
  | _ => .bad
theorem snd_str : SndC K (relO K) (fun xs H Q => ∃ i, xs = [.int i] ∧ i.natAbs.log2 < 1920 ∧ Q (.str (toString i)) H) cStr := by
  intro wh σ B H β st ws vs Q sr rp ok
  unfold cStr at ok
  split at ok
  · rename_i i
    obtain ⟨v, rfl, r⟩ := one_of rp
    cases r
    by_cases h : i.natAbs < 2 ^ 1900
    · rw [if_pos h] at ok
      exact ⟨_, rfl, by have := PySem.Flt.log2_lt_of (by omega : 0 < 1900) h; omega, OkG.pure ok sr (show RepS K B β _ (.d (.str _)) from .str _)⟩
    · rw [if_neg h] at ok
      exact ok.elim
  · exact ok.elim
/-! ### lists of ints, of truths -/
def intsOf : List Vl → Option (List Int)
  | [] => some []
  | .int i :: ds => (intsOf ds).map (i :: ·)
  | _ => none
def blsOf : List Vl → Option (List Bool)
  | [] => some []
  | .bl i :: ds => (blsOf ds).map (i :: ·)
  | _ => none
theorem ints_rep {B : Hp} : ∀ {xs : List V} {ds : List Vl} {ns : List Int}, RepL K B xs ds → intsOf ds = some ns → xs = ns.map V.int
  | _, _, _, .nil, e => by cases e; rfl
  | _, _, _, .cons (.int i) t, e => by
    unfold intsOf at e
    rename_i ds
    cases q : intsOf ds with
    | none => rw [q] at e; cases e
    | some ms =>
      rw [q] at e
      cases e
      rw [ints_rep t q]
      rfl
  | _, _, _, .cons .non t, e => by cases e
  | _, _, _, .cons (.bl _) t, e => by cases e
  | _, _, _, .cons (.str _) t, e => by cases e
  | _, _, _, .cons (.tup _ _) t, e => by cases e
  | _, _, _, .cons (.lst _ _) t, e => by cases e
  | _, _, _, .cons (.scr _ _) t, e => by cases e
  | _, _, _, .cons (.ktp _ _) t, e => by cases e
theorem bls_rep {B : Hp} : ∀ {xs : List V} {ds : List Vl} {ns : List Bool}, RepL K B xs ds → blsOf ds = some ns → xs = ns.map V.bl
  | _, _, _, .nil, e => by cases e; rfl
  | _, _, _, .cons (.bl i) t, e => by
    unfold blsOf at e
    rename_i ds
    cases q : blsOf ds with
    | none => rw [q] at e; cases e
    | some ms =>
      rw [q] at e
      cases e
      rw [bls_rep t q]
      rfl
  | _, _, _, .cons .non t, e => by cases e
  | _, _, _, .cons (.int _) t, e => by cases e
  | _, _, _, .cons (.str _) t, e => by cases e
  | _, _, _, .cons (.tup _ _) t, e => by cases e
  | _, _, _, .cons (.lst _ _) t, e => by cases e
  | _, _, _, .cons (.scr _ _) t, e => by cases e
  | _, _, _, .cons (.ktp _ _) t, e => by cases e
def cInts (g : List Int → Option Int) : Bf Sl := fun ws st => match ws with
  | [w] => (match listOf w st with
    | some ds => (match intsOf ds with
      | some ns => (match g ns with
        | some i => .ok (.d (.int i)) st
        | none => .bad)
      | none => .bad)
    | none => .bad)
  | _ => .bad
def cBls (g : List Bool → Bool) : Bf Sl := fun ws st => match ws with
  | [w] => (match listOf w st with
    | some ds => (match blsOf ds with
      | some ns => .ok (.d (.bl (g ns))) st
      | none => .bad)
    | none => .bad)
  | _ => .bad
theorem ok_ints {g : List Int → Option Int} {wh : WX} {σ : L2.St} {H₀ B H : Hp} {β : Ad} {st : Sto} {ws : List Sl} {vs : List V} {Q : VK} (sr : SR K B H β st) (rp : Paired (RepS K B β) vs ws) (ok : OkG K wh σ (relO K) H₀ B H β (cInts g ws st) Q) :
    ∃ a ns i, vs = [.ref a] ∧ SqL K H a (ns.map V.int) ∧ g ns = some i ∧ Q (.int i) H := by
  unfold cInts at ok
  split at ok
  · rename_i w
    obtain ⟨v, rfl, r⟩ := one_of rp
    cases e : listOf w st with
    | none => simp only [e] at ok; exact ok.elim
    | some ds =>
      simp only [e] at ok
      obtain ⟨a, xs, rfl, h1, rl⟩ := list_of sr r e
      cases q : intsOf ds with
      | none => simp only [q] at ok; exact ok.elim
      | some ns =>
        simp only [q] at ok
        cases z : g ns with
        | none => simp only [z] at ok; exact ok.elim
        | some i =>
          simp only [z] at ok
          rw [ints_rep rl q] at h1
          exact ⟨a, ns, i, rfl, h1, z, OkG.pure ok sr (show RepS K B β _ (.d (.int _)) from .int _)⟩
  · exact ok.elim
theorem snd_sum : SndC K (relO K) (rSum K) (cInts fun ns => some ns.sum) := fun wh σ B H β st ws vs Q sr rp ok => by
  obtain ⟨a, ns, i, rfl, h, e, q⟩ := ok_ints sr rp ok
  cases e
  exact ⟨a, ns, rfl, h, q⟩
/-- the greatest, the least -/
def maxL : List Int → Option Int
  | [] => none
  | x :: xs => some (xs.foldl maxI x)
def minL : List Int → Option Int
  | [] => none
  | x :: xs => some (xs.foldl minI x)
theorem foldl_max : ∀ (xs : List Int) (x : Int), (∀ y, y ∈ x :: xs → y ≤ xs.foldl maxI x) ∧ xs.foldl maxI x ∈ x :: xs
  | [], x => ⟨fun y h => by simp at h; subst h; exact Int.le_refl _, by simp⟩
  | z :: xs, x => by
    obtain ⟨h1, h2⟩ := foldl_max xs (maxI x z)
    have hx : x ≤ maxI x z ∧ z ≤ maxI x z := by unfold maxI; split <;> omega
    refine ⟨fun y h => ?_, ?_⟩
    · show y ≤ xs.foldl maxI (maxI x z)
      rcases List.mem_cons.mp h with e | e
      · subst e; exact Int.le_trans hx.1 (h1 _ List.mem_cons_self)
      · rcases List.mem_cons.mp e with e | e
        · subst e; exact Int.le_trans hx.2 (h1 _ List.mem_cons_self)
        · exact h1 y (List.mem_cons_of_mem _ e)
    · show xs.foldl maxI (maxI x z) ∈ x :: z :: xs
      rcases List.mem_cons.mp h2 with e | e
      · rw [e]
        unfold maxI
        split
        · exact List.mem_cons_of_mem _ List.mem_cons_self
        · exact List.mem_cons_self
      · exact List.mem_cons_of_mem _ (List.mem_cons_of_mem _ e)
theorem foldl_min : ∀ (xs : List Int) (x : Int), (∀ y, y ∈ x :: xs → xs.foldl minI x ≤ y) ∧ xs.foldl minI x ∈ x :: xs
  | [], x => ⟨fun y h => by simp at h; subst h; exact Int.le_refl _, by simp⟩
  | z :: xs, x => by
    obtain ⟨h1, h2⟩ := foldl_min xs (minI x z)
    have hx : minI x z ≤ x ∧ minI x z ≤ z := by unfold minI; split <;> omega
    refine ⟨fun y h => ?_, ?_⟩
    · show xs.foldl minI (minI x z) ≤ y
      rcases List.mem_cons.mp h with e | e
      · subst e; exact Int.le_trans (h1 _ List.mem_cons_self) hx.1
      · rcases List.mem_cons.mp e with e | e
        · subst e; exact Int.le_trans (h1 _ List.mem_cons_self) hx.2
        · exact h1 y (List.mem_cons_of_mem _ e)
    · show xs.foldl minI (minI x z) ∈ x :: z :: xs
      rcases List.mem_cons.mp h2 with e | e
      · rw [e]
        unfold minI
        split
        · exact List.mem_cons_of_mem _ List.mem_cons_self
        · exact List.mem_cons_self
      · exact List.mem_cons_of_mem _ (List.mem_cons_of_mem _ e)
theorem snd_max : SndC K (relO K) (rMax K) (cInts maxL) := fun wh σ B H β st ws vs Q sr rp ok => by
  obtain ⟨a, ns, i, rfl, h, e, q⟩ := ok_ints sr rp ok
  cases ns with
  | nil => cases e
  | cons x xs =>
    cases e
    obtain ⟨h1, h2⟩ := foldl_max xs x
    refine ⟨a, x :: xs, rfl, h, Nat.succ_pos _, fun m hm hle => ?_⟩
    have : m = xs.foldl maxI x := Int.le_antisymm (h1 m hm) (hle _ h2)
    rw [this]; exact q
theorem snd_min : SndC K (relO K) (rMin K) (cInts minL) := fun wh σ B H β st ws vs Q sr rp ok => by
  obtain ⟨a, ns, i, rfl, h, e, q⟩ := ok_ints sr rp ok
  cases ns with
  | nil => cases e
  | cons x xs =>
    cases e
    obtain ⟨h1, h2⟩ := foldl_min xs x
    refine ⟨a, x :: xs, rfl, h, Nat.succ_pos _, fun m hm hle => ?_⟩
    have : m = xs.foldl minI x := Int.le_antisymm (hle _ h2) (h1 m hm)
    rw [this]; exact q
theorem ok_bls {g : List Bool → Bool} {wh : WX} {σ : L2.St} {H₀ B H : Hp} {β : Ad} {st : Sto} {ws : List Sl} {vs : List V} {Q : VK} (sr : SR K B H β st) (rp : Paired (RepS K B β) vs ws) (ok : OkG K wh σ (relO K) H₀ B H β (cBls g ws st) Q) :
    ∃ a bs, vs = [.ref a] ∧ SqL K H a (bs.map V.bl) ∧ Q (.bl (g bs)) H := by
  unfold cBls at ok
  split at ok
  · rename_i w
    obtain ⟨v, rfl, r⟩ := one_of rp
    cases e : listOf w st with
    | none => simp only [e] at ok; exact ok.elim
    | some ds =>
      simp only [e] at ok
      obtain ⟨a, xs, rfl, h1, rl⟩ := list_of sr r e
      cases q : blsOf ds with
      | none => simp only [q] at ok; exact ok.elim
      | some ns =>
        simp only [q] at ok
        rw [bls_rep rl q] at h1
        exact ⟨a, ns, rfl, h1, OkG.pure ok sr (show RepS K B β _ (.d (.bl _)) from .bl _)⟩
  · exact ok.elim
theorem snd_all : SndC K (relO K) (rAll K) (cBls fun bs => bs.all id) := fun wh σ B H β st ws vs Q sr rp ok => by
  obtain ⟨a, bs, rfl, h, q⟩ := ok_bls sr rp ok
  exact ⟨a, bs, rfl, h, q⟩
theorem snd_any : SndC K (relO K) (rAny K) (cBls fun bs => bs.any id) := fun wh σ B H β st ws vs Q sr rp ok => by
  obtain ⟨a, bs, rfl, h, q⟩ := ok_bls sr rp ok
  exact ⟨a, bs, rfl, h, q⟩
/-! ### tuple(..), list(..) -/
def isK : Sl → Bool
  | .d (.ktp _) => true
  | _ => false
def cTup : Bf Sl := fun ws st => match ws with
  | [w] => (match seqOf w st with
    | some ds => if isK w = true then .bad else .ok (.d (.tup ds)) st
    | none => .bad)
  | _ => .bad
theorem tup_cases {w : Sl} {st : Sto} {ds : List Vl} (e : seqOf w st = some ds) : w = .d (.tup ds) ∨ w = .d (.ktp ds) ∨ listOf w st = some ds := by
  cases w with
  | d x =>
    cases x with
    | tup es => cases e; exact .inl rfl
    | ktp es => cases e; exact .inr (.inl rfl)
    | _ => exact .inr (.inr e)
  | _ => exact .inr (.inr e)
theorem snd_tup : SndC K (relO K) (fun xs H Q => ∃ p ys, xs = [.ref p] ∧ ((SqL K H p ys ∧ ∀ l, H l = none → Q (.ref l) (upd H l (.tup ys))) ∨ (SqT K H p ys ∧ Q (.ref p) H))) cTup := by
  intro wh σ B H β st ws vs Q sr rp ok
  unfold cTup at ok
  split at ok
  · rename_i w
    obtain ⟨v, rfl, r⟩ := one_of rp
    cases e : seqOf w st with
    | none => simp only [e] at ok; exact ok.elim
    | some ds =>
      simp only [e] at ok
      by_cases hk : isK w = true
      · rw [if_pos hk] at ok
        exact ok.elim
      rw [if_neg hk] at ok
      rcases tup_cases e with rfl | rfl | e1
      · cases r with
        | tup h rl => exact ⟨_, _, rfl, .inr ⟨sqT_at (sr.sub _ _ h), OkG.pure ok sr (show RepS K B β _ (.d (.tup ds)) from .tup h rl)⟩⟩
      · exact absurd rfl hk
      · obtain ⟨a, xs, rfl, h1, rl⟩ := list_of sr r e1
        exact ⟨a, xs, rfl, .inl ⟨h1, fun l hl => ok _ _ _ _ (Go.laidF sr hl) (sr.laidF hl) (Rep.tup upd_same (rl.mono (sub_new sr hl)))⟩⟩
  · exact ok.elim
def cLst : Bf (List Vl) := fun ws st => match ws with
  | [w] => (match seqOf w st with
    | some ds => .ok ds st
    | none => .bad)
  | _ => .bad
theorem snd_lst : SndC K (relN K) (fun xs H Q => ∃ p ys, xs = [.ref p] ∧ (SqL K H p ys ∨ SqT K H p ys) ∧ ∀ l, H l = none → Q (.ref l) (upd H l (.lst ys))) cLst := by
  intro wh σ B H β st ws vs Q sr rp ok
  unfold cLst at ok
  split at ok
  · rename_i w
    obtain ⟨v, rfl, r⟩ := one_of rp
    cases e : seqOf w st with
    | none => simp only [e] at ok; exact ok.elim
    | some ds =>
      simp only [e] at ok
      obtain ⟨a, xs, rfl, h1, rl⟩ := seq_of sr r e
      exact ⟨a, xs, rfl, h1, new_list wh σ sr rl ok⟩
  · exact ok.elim
/-! ### isinstance -/
/-- the built-in class of a thing -/
def tyS (w : Sl) (st : Sto) : Option String := match w with
  | .d .non => some "NoneType"
  | .d (.bl _) => some "bool"
  | .d (.int _) => some "int"
  | .d (.str _) => some "str"
  | .d (.tup _) => some "tuple"
  | .d (.ktp _) => some "tuple"
  | w => if (listOf w st).isSome = true then some "list" else match w with
    | .r n => (match st[n]? with
      | some (.dct _) => some "dict"
      | some (.dtp _) => some "dict"
      | some (.mat _) => some "list"
      | _ => none)
    | _ => none
theorem tyx_list {B H : Hp} {a : Addr} {xs : List V} (h : SqL K H a xs) : TyX K H (.ref a) (.type "list") := by
  rcases h with (h | ⟨o, h⟩) | ⟨o, its, n, h1, h2, _⟩
  · exact .base (.lst h)
  · exact .base (.frz h)
  · exact .kList h1 h2
theorem ty_of {B H : Hp} {β : Ad} {st : Sto} {w : Sl} {v : V} {T : String} (sr : SR K B H β st) (r : RepS K B β v w) (e : tyS w st = some T) : TyX K H v (.type T) := by
  have lst : (listOf w st).isSome = true → T = "list" → TyX K H v (.type T) := fun h1 h2 => by
    cases q : listOf w st with
    | none => rw [q] at h1; cases h1
    | some ds =>
      obtain ⟨a, xs, rfl, h3, _⟩ := list_of sr r q
      rw [h2]
      exact tyx_list (B := B) h3
  cases w with
  | d x =>
    cases x with
    | non => cases e; cases r; exact .base .non
    | bl b => cases e; cases r; exact .base (.bl b)
    | int b => cases e; cases r; exact .base (.int b)
    | str b => cases e; cases r; exact .base (.str b)
    | tup b =>
      cases e
      cases r with
      | tup h _ =>
        exact .base (.tup (sr.sub _ _ h))
    | ktp b =>
      cases e
      cases r with
      | ktp h _ =>
        rcases sr.sub.sqT h with (h | ⟨o, h⟩) | ⟨o, its, n, h1, h2, _⟩
        · exact .base (.tup h)
        · exact .fTuple h
        · exact .kTuple h1 h2
    | lst b => cases e; exact lst rfl rfl
    | scr b => cases e; exact lst rfl rfl
  | r n =>
    unfold tyS at e
    dsimp only at e
    by_cases h : (listOf (.r n) st).isSome = true
    · rw [if_pos h] at e
      cases e
      exact lst h rfl
    · rw [if_neg h] at e
      cases q : st[n]? with
      | none => simp only [q] at e; cases e
      | some c =>
        simp only [q] at e
        obtain ⟨p, hp, rfl, co⟩ := cell_of sr r q
        cases c with
        | dtp kvs =>
          cases e
          obtain ⟨_, ks, h1, _⟩ := co
          exact .base (.dT h1)
        | dct kvs =>
          cases e
          obtain ⟨_, ks, h1, _⟩ := co
          exact .base (.dK h1)
        | mat rows => cases e; exact .base (.lst co.2.1)
        | _ => cases e
  | w n i =>
    unfold tyS at e
    dsimp only at e
    by_cases h : (listOf (.w n i) st).isSome = true
    · rw [if_pos h] at e
      cases e
      exact lst h rfl
    · rw [if_neg h] at e
      cases e
  | n _ => exact r.elim
  | m _ => exact r.elim
def eIsi (f : Ex) (T : String) : Ex := fun ρ st => (f ρ st).bind fun x st1 => match tyS x st1 with
  | some A => (match kitB A T with
    | some b => .ok (.d (.bl b)) st1
    | none => .bad)
  | none => .bad
section
variable {X : Cx} {wh : WX} {e : Expr} {f : Ex} {p p2 pos : Pos} {T : Str} {Ty : String}
theorem f_isi (he : PO X wh e f) (hg : Gl X "isinstance") (hm : X.mg "isinstance" = none) (hg2 : Gl X T) (hm2 : X.mg T = none) (hv2 : bootBuiltins T = some (.type Ty))
    (hn : T ≠ "__name__" := by decide) (hd : (T == ("__debug__" : Str)) = false := by decide) (hs : starEach [e, .Name T p2] X.env = (false, eval e X.env) :: starEach [.Name T p2] X.env := by rfl)
    (hpl : (backTo pos (starEach [.Name T p2] X.env)).any (·.1) = false := by rfl) (hv : bootBuiltins "isinstance" = some (.builtin "isinstance") := by decide +kernel) :
    PO X wh (.Call (.Name "isinstance" p) [e, .Name T p2] [] pos) (eIsi f Ty) :=
  PE.imp (pe_callB (x := "isinstance") call_isi hg hm hv (pa_cons he (pa_cons (pe_bltn (v := .ty Ty) hg2 hm2 hv2 rfl hn hd) pa_nil) hs) (by decide) (by decide) hs hpl) fun σ H Q q =>
    rd_then (α' := Sl) (Rel' := relO X.K) (k := fun x _ st1 => match tyS x st1 with | some A => (match kitB A Ty with | some b => .ok (.d (.bl b)) st1 | none => .bad) | none => .bad) q fun x st ρ v B₀ B1 H1 β₀ β1 go sr er re ok => by
      cases e1 : tyS x st with
      | none => simp only [e1] at ok; exact ok.elim
      | some A =>
        simp only [e1] at ok
        cases e2 : kitB A Ty with
        | none => simp only [e2] at ok; exact ok.elim
        | some b =>
          simp only [e2] at ok
          exact ⟨v, .ty Ty, .type A, .type Ty, b, rfl, .ty Ty, ty_of sr re e1, kit_ty e2, OkG.pure ok sr (show RepS X.K B1 β1 _ (.d (.bl _)) from .bl _)⟩
end
end F

namespace F
open PySem PySem.Spec PyProof.Rows L2
variable {K : PySem.W.Frag}
/-! ## lists that change -/
def lstAt (w : Sl) (st : Sto) : Option (List Vl) := match w with
  | .r n => (match st[n]? with
    | some (.lst ds) => some ds
    | _ => none)
  | .w n i => (match st[n]? with
    | some (.mat rows) => rows[i]?
    | _ => none)
  | _ => none
def putAt (w : Sl) (ds : List Vl) (st : Sto) : Sto := match w with
  | .r n => st.set n (.lst ds)
  | .w n i => (match st[n]? with
    | some (.mat rows) => st.set n (.mat (rows.set i ds))
    | _ => st)
  | _ => st
theorem Paired.set_row {B H H' : Hp} : ∀ {as : List Addr} {rows : List (List Vl)} {i : Nat} {a : Addr} {ds : List Vl}, Paired (RowOk K B H) as rows → as.Nodup → as[i]? = some a → RowOk K B H' a ds → (∀ b ∈ as, b ≠ a → ∀ o, H b = some o → H' b = some o) →
    Paired (RowOk K B H') as (rows.set i ds)
  | _, _, _, _, _, .nil, _, e, _, _ => by simp at e
  | b :: as, r :: rows, 0, a, ds, .cons x t, nd, e, h, k => by
    simp at e
    subst e
    have nd2 := List.nodup_cons.mp nd
    refine .cons h (Paired.impM (fun c es m y => RowOk.mono (fun _ _ z => z) (fun o q => k c (List.mem_cons_of_mem _ m) (fun z => nd2.1 (z ▸ m)) o q) y.1 y) t)
  | b :: as, r :: rows, i + 1, a, ds, .cons x t, nd, e, h, k => by
    have nd2 := List.nodup_cons.mp nd
    have e' : as[i]? = some a := by simpa using e
    have hb : b ≠ a := fun z => nd2.1 (z ▸ List.mem_of_getElem? e')
    exact .cons (RowOk.mono (fun _ _ z => z) (fun o q => k b List.mem_cons_self hb o q) x.1 x) (Paired.set_row t nd2.2 e' h fun c m => k c (List.mem_cons_of_mem _ m))
theorem wrote_at {B H : Hp} {β : Ad} {a : Addr} {o : HO} (ha : a ∈ flat β) : Go B H β B (upd H a o) β where
  fz := fun _ _ h => h
  hd := fun _ _ h => h
  keep := fun b u h hn => by rw [upd_ne (show b ≠ a from fun e => hn (e ▸ ha))]; exact h
  tr := fun b u h => by
    by_cases e : b = a
    · subst e; exact ⟨o, upd_same⟩
    · exact ⟨u, by rw [upd_ne e]; exact h⟩
  nb := fun _ h => .inl h
  nf := fun _ _ h => .inl h
theorem lst_at {B H : Hp} {β : Ad} {st : Sto} {w : Sl} {v : V} {ds : List Vl} (sr : SR K B H β st) (r : RepS K B β v w) (e : lstAt w st = some ds) :
    ∃ a xs, v = .ref a ∧ H a = some (.lst xs) ∧ RepL K B xs ds ∧ ∀ ys es, RepL K B ys es → SR K B (upd H a (.lst ys)) β (putAt w es st) ∧ Go B H β B (upd H a (.lst ys)) β := by
  cases w with
  | r n =>
    unfold lstAt at e
    cases q : st[n]? with
    | none => simp only [q] at e; cases e
    | some c =>
      simp only [q] at e
      cases c with
      | lst es =>
        cases e
        obtain ⟨p, hp, rfl⟩ := r
        obtain ⟨hB, xs, hx, rl⟩ := sr.cell n p _ hp q
        refine ⟨p.1, xs, rfl, hx, rl, fun ys es re => ⟨?_, wrote_at (mem_flat1 hp)⟩⟩
        refine sr.setCell hp (fun _ _ h => h) (fun a o h => ?_) (fun _ _ h => h) (fun a m o h => ?_) (fun a m => ?_) ⟨hB, ys, upd_same, re⟩
        · rw [upd_ne (fun z => by rw [z, hB] at h; cases h)]; exact sr.sub a o h
        · rw [upd_ne (show a ≠ p.1 from fun z => m (z ▸ List.mem_cons_self))]; exact h
        · by_cases z : a = p.1
          · exact ⟨_, by rw [z]; exact upd_same⟩
          · obtain ⟨o, h⟩ := sr.trk a (mem_flat hp m)
            exact ⟨o, by rw [upd_ne z]; exact h⟩
      | _ => cases e
  | w n i =>
    unfold lstAt at e
    cases q : st[n]? with
    | none => simp only [q] at e; cases e
    | some c =>
      simp only [q] at e
      cases c with
      | mat rows =>
        obtain ⟨p, a, hp, ha, rfl⟩ := r
        obtain ⟨hB, hx, hr⟩ := sr.cell n p _ hp q
        obtain ⟨b, hb, hbB, xs, hbx, rl⟩ := row_at hr e
        rw [ha] at hb
        cases hb
        have nd := own_nodup sr.nd hp
        have ma : a ∈ p.2 := List.mem_of_getElem? ha
        have mo : a ∈ own p := List.mem_cons_of_mem _ ma
        have ne1 : p.1 ≠ a := fun z => (List.nodup_cons.mp nd).1 (z ▸ ma)
        refine ⟨a, xs, rfl, hbx, rl, fun ys es re => ⟨?_, wrote_at (mem_flat hp mo)⟩⟩
        have ep : putAt (.w n i) es st = st.set n (.mat (rows.set i es)) := by unfold putAt; simp only [q]
        rw [ep]
        refine sr.setCell hp (fun _ _ h => h) (fun c o h => ?_) (fun _ _ h => h) (fun c m o h => ?_) (fun c m => ?_) ⟨hB, ?_, Paired.set_row hr (List.nodup_cons.mp nd).2 ha ⟨hbB, ys, upd_same, re⟩ fun c _ hc o h => ?_⟩
        · rw [upd_ne (fun z => by rw [z, hbB] at h; cases h)]; exact sr.sub c o h
        · rw [upd_ne (show c ≠ a from fun z => m (z ▸ mo))]; exact h
        · by_cases z : c = a
          · exact ⟨_, by rw [z]; exact upd_same⟩
          · obtain ⟨o, h⟩ := sr.trk c (mem_flat hp m)
            exact ⟨o, by rw [upd_ne z]; exact h⟩
        · rw [upd_ne ne1]; exact hx
        · rw [upd_ne hc]; exact h
      | _ => cases e
  | _ => cases e
/-- the outer list of a matrix, given away -/
def matAt (w : Sl) (st : Sto) : Option Nat := match w with
  | .r n => (match st[n]? with
    | some (.mat rows) => if rows.length < sizeLine then some n else none
    | _ => none)
  | _ => none
theorem mat_at {B H : Hp} {β : Ad} {st : Sto} {w : Sl} {v : V} {n : Nat} (sr : SR K B H β st) (r : RepS K B β v w) (e : matAt w st = some n) :
    ∃ a xs, v = .ref a ∧ H a = some (.lst xs) ∧ xs.length < sizeLine ∧ ∀ ys, SR K B (upd H a (.lst ys)) β (st.set n .dead) ∧ Go B H β B (upd H a (.lst ys)) β := by
  cases w with
  | r m =>
    unfold matAt at e
    cases q : st[m]? with
    | none => simp only [q] at e; cases e
    | some c =>
      simp only [q] at e
      cases c with
      | mat rows =>
        dsimp only at e
        by_cases hl : rows.length < sizeLine
        case neg => rw [if_neg hl] at e; cases e
        rw [if_pos hl] at e
        cases e
        obtain ⟨p, hp, rfl⟩ := r
        obtain ⟨hB, hx, hr⟩ := sr.cell n p _ hp q
        refine ⟨p.1, _, rfl, hx, by rw [List.length_map, Paired.length hr]; exact hl, fun ys => ⟨?_, wrote_at (mem_flat1 hp)⟩⟩
        refine sr.setCell hp (fun _ _ h => h) (fun a o h => ?_) (fun _ _ h => h) (fun a m o h => ?_) (fun a m => ?_) trivial
        · rw [upd_ne (fun z => by rw [z, hB] at h; cases h)]; exact sr.sub a o h
        · rw [upd_ne (show a ≠ p.1 from fun z => m (z ▸ List.mem_cons_self))]; exact h
        · by_cases z : a = p.1
          · exact ⟨_, by rw [z]; exact upd_same⟩
          · obtain ⟨o, h⟩ := sr.trk a (mem_flat hp m)
            exact ⟨o, by rw [upd_ne z]; exact h⟩
      | _ => cases e
  | _ => cases e
def isL (w : Sl) (st : Sto) : Bool := (lstAt w st).isSome || (matAt w st).isSome
theorem isL_ty {B H : Hp} {β : Ad} {st : Sto} {w : Sl} {v : V} (sr : SR K B H β st) (r : RepS K B β v w) (e : isL w st = true) : tyV K "list" v H := by
  unfold isL at e
  rw [Bool.or_eq_true] at e
  rcases e with e | e
  · cases q : lstAt w st with
    | none => rw [q] at e; cases e
    | some ds =>
      obtain ⟨a, xs, rfl, hx, _⟩ := lst_at sr r q
      exact .inl ⟨rfl, xs, .inl (.inl hx)⟩
  · cases q : matAt w st with
    | none => rw [q] at e; cases e
    | some ds =>
      obtain ⟨a, xs, rfl, hx, _⟩ := mat_at sr r q
      exact .inl ⟨rfl, xs, .inl (.inl hx)⟩
/-! ### append, pop, extend -/
def kApp (w x : Sl) (st : Sto) : Rs Sl := match matAt w st with
  | some n => .ok (.d .non) (st.set n .dead)
  | none => (toD x st).bind fun d st1 => match lstAt w st1 with
    | some ds => if ds.length < sizeLine then .ok (.d .non) (putAt w (ds ++ [d]) st1) else .bad
    | none => .bad
def kPop (w : Sl) (st : Sto) : Rs Sl := match lstAt w st with
  | some ds => (match ds[ds.length - 1]? with
    | some d => .ok (.d d) (putAt w ds.dropLast st)
    | none => .bad)
  | none => .bad
def kPopAt (w x : Sl) (st : Sto) : Rs Sl := match lstAt w st, x with
  | some ds, .d (.int i) => (match ixN ds.length i with
    | some k => (match ds[k]? with
      | some d => if -(2 ^ 63) ≤ i ∧ i < 2 ^ 63 then .ok (.d d) (putAt w (ds.eraseIdx k) st) else .bad
      | none => .bad)
    | none => .bad)
  | _, _ => .bad
def kExt (w x : Sl) (st : Sto) : Rs Sl := match lstAt w st, plainOf x st with
  | some ds, some es => if ds.length + es.length ≤ sizeLine then .ok (.d .non) (putAt w (ds ++ es) st) else .bad
  | _, _ => .bad
def eM0 (k : Sl → Sto → Rs Sl) (fo : Ex) : Ex := fun ρ st => (fo ρ st).bind fun w st1 => if isL w st1 = true then k w st1 else .bad
def eM1 (k : Sl → Sl → Sto → Rs Sl) (fo fa : Ex) : Ex := fun ρ st => (fo ρ st).bind fun w st1 => if isL w st1 = true then (fa ρ st1).bind fun x st2 => k w x st2 else .bad
section
variable {X : Cx} {wh : WX} {o e : Expr} {fo fa : Ex} {apos pos : Pos}
theorem RepL.dropLast {B : Hp} {xs : List V} {ds : List Vl} (r : RepL K B xs ds) : RepL K B xs.dropLast ds.dropLast := by
  rw [List.dropLast_eq_take, List.dropLast_eq_take, r.length]
  exact r.take _
def arg1 {α : Type} (k : Sl → Rs α) : List Sl → Rs α
  | [x] => k x
  | _ => .bad
def arg0 {α : Type} (k : Rs α) : List Sl → Rs α
  | [] => k
  | _ => .bad
/-- a method of a list, by values -/
def SndM (K : PySem.W.Frag) (r : V → List V → Hp → VK → Prop) (k : Sl → List Sl → Sto → Rs Sl) : Prop := ∀ (wh : WX) (σ : L2.St) (H₀ B H : Hp) (β : Ad) (st : Sto) (w : Sl) (ws : List Sl) (v : V) (vs : List V) (Q : VK),
  SR K B H β st → RepS K B β v w → Paired (RepS K B β) vs ws → OkG K wh σ (relO K) H₀ B H β (k w ws st) Q → r v vs H Q
theorem f_m1 {r : V → List V → Hp → VK → Prop} {k : Sl → Sl → Sto → Rs Sl} {name : Str} {id : String} (slot : Slot "list" name id) (hty : typeOf (.builtin id) = pure (.type "method_descriptor")) (hm : MtR X id r)
    (s : SndM X.K r fun w ws st => arg1 (fun x => k w x st) ws) (ho : PO X wh o fo) (ha : PO X wh e fa)
    (hbase : attributeBase o name X.env (eval o X.env) = eval o X.env := by rfl)
    (hfew : ((backTo pos (starEach (e :: []) X.env)).all (fun x => !x.1) && (backToKw pos (keywordEach [] X.env)).all (fun x => x.1.isSome)
      && decide ((e :: []).length + ([] : List Keyword).length + (if ([] : List Keyword).isEmpty then 0 else 1) < 30)) = true := by rfl)
    (hline : (apos.endLine == pos.line) = true := by rfl) (hs : starEach (e :: []) X.env = (false, eval e X.env) :: starEach [] X.env := by rfl) (hplain : (backTo pos (starEach [] X.env)).any (·.1) = false := by rfl) :
    PO X wh (.Call (.Attribute o name apos) [e] [] pos) (eM1 k fo fa) :=
  PE.imp (pe_bm PySem.F.plainAttrs_list slot hty hm ho (pa_cons ha pa_nil hs) hbase hfew hline hs hplain) fun σ H Q q =>
    rd_then (α' := Sl) (Rel' := relO X.K) (k := fun w ρ st1 => if isL w st1 = true then (fa ρ st1).bind fun x st2 => k w x st2 else .bad) q fun w st ρ v B₀ B1 H1 β₀ β1 go sr er re ok => by
      by_cases h : isL w st = true
      · rw [if_pos h] at ok
        refine ⟨isL_ty sr re h, B1, β1, st, ρ, sr, er, OkG.next (OkG.late okO (fun _ q => none_back go q) ok) fun x st2 u B2 H2 β2 _ go2 sr2 re2 ok2 => ?_⟩
        exact s wh σ _ B2 H2 β2 st2 w [x] v [u] Q sr2 (RepS.go go2 re) (.cons re2 .nil) ok2
      · rw [if_neg h] at ok
        exact ok.elim
theorem f_m0 {r : V → List V → Hp → VK → Prop} {k : Sl → Sto → Rs Sl} {name : Str} {id : String} (slot : Slot "list" name id) (hty : typeOf (.builtin id) = pure (.type "method_descriptor")) (hm : MtR X id r)
    (s : SndM X.K r fun w ws st => arg0 (k w st) ws) (ho : PO X wh o fo)
    (hbase : attributeBase o name X.env (eval o X.env) = eval o X.env := by rfl) (hline : (apos.endLine == pos.line) = true := by rfl) :
    PO X wh (.Call (.Attribute o name apos) [] [] pos) (eM0 k fo) :=
  PE.imp (pe_bm0 PySem.F.plainAttrs_list slot hty hm ho hbase hline) fun σ H Q q =>
    rd_then (α' := Sl) (Rel' := relO X.K) (k := fun w _ st1 => if isL w st1 = true then k w st1 else .bad) q fun w st ρ v B₀ B1 H1 β₀ β1 go sr er re ok => by
      by_cases h : isL w st = true
      · rw [if_pos h] at ok
        exact ⟨isL_ty sr re h, s wh σ _ B1 H1 β1 st w [] v [] Q sr re .nil ok⟩
      · rw [if_neg h] at ok
        exact ok.elim
theorem one_arg {B : Hp} {β : Ad} {vs : List V} {ws : List Sl} {α : Type} {k : Sl → Rs α} {P : Rs α → Prop} (r : Paired (RepS K B β) vs ws) (hb : ¬ P .bad) (h : P (arg1 k ws)) : ∃ u x, vs = [u] ∧ ws = [x] ∧ RepS K B β u x ∧ P (k x) := by
  cases r with
  | nil => exact absurd h hb
  | cons r1 t =>
    cases t with
    | nil => exact ⟨_, _, rfl, rfl, r1, h⟩
    | cons _ _ => exact absurd h hb
theorem snd_app : SndM K rAppend fun w ws st => arg1 (fun x => kApp w x st) ws := by
  intro wh σ H₀ B H β st w ws v vs Q sr rw' rp ok
  obtain ⟨u, x, rfl, rfl, rx, ok⟩ := one_arg (k := fun x => kApp w x st) (P := fun r => OkG K wh σ (relO K) H₀ B H β r Q) rp (fun h => h) ok
  unfold kApp at ok
  cases e0 : matAt w st with
  | some n =>
    simp only [e0] at ok
    obtain ⟨a, xs, rfl, hx, hl, k⟩ := mat_at sr rw' e0
    obtain ⟨sr2, go2⟩ := k (xs ++ [u])
    exact ⟨a, xs, u, rfl, rfl, hx, hl, ok .non _ _ _ go2 sr2 .non⟩
  | none =>
    simp only [e0] at ok
    refine ok_toD sr rx ok fun d st1 B1 go1 sr1 r1 ok1 => ?_
    cases e : lstAt w st1 with
    | none => simp only [e] at ok1; exact ok1.elim
    | some ds =>
      simp only [e] at ok1
      by_cases hl : ds.length < sizeLine
      · rw [if_pos hl] at ok1
        obtain ⟨a, xs, rfl, hx, rl, k⟩ := lst_at sr1 (RepS.go go1 rw') e
        obtain ⟨sr2, go2⟩ := k (xs ++ [u]) (ds ++ [d]) (rl.append (.one r1))
        exact ⟨a, xs, u, rfl, rfl, hx, by rw [rl.length]; exact hl, ok1 .non _ _ _ go2 sr2 .non⟩
      · rw [if_neg hl] at ok1
        exact ok1.elim
theorem snd_pop : SndM K rPop fun w ws st => arg0 (kPop w st) ws := by
  intro wh σ H₀ B H β st w ws v vs Q sr rw' rp ok
  cases rp with
  | cons _ _ => exact ok.elim
  | nil =>
    have ok : OkG K wh σ (relO K) H₀ B H β (kPop w st) Q := ok
    unfold kPop at ok
    cases e : lstAt w st with
    | none => simp only [e] at ok; exact ok.elim
    | some ds =>
      simp only [e] at ok
      cases q : ds[ds.length - 1]? with
      | none => simp only [q] at ok; exact ok.elim
      | some d =>
        simp only [q] at ok
        obtain ⟨a, xs, rfl, hx, rl, k⟩ := lst_at sr rw' e
        obtain ⟨sr2, go2⟩ := k _ _ rl.dropLast
        obtain ⟨y, hy, ry⟩ := rl.get q
        exact ⟨a, xs, y, rfl, rfl, hx, by rw [rl.length]; exact hy, ok y _ _ _ go2 sr2 (show RepS K B β y (.d d) from ry)⟩
theorem snd_popAt : SndM K rPopAt fun w ws st => arg1 (fun x => kPopAt w x st) ws := by
  intro wh σ H₀ B H β st w ws v vs Q sr rw' rp ok
  obtain ⟨u, x, rfl, rfl, rx, ok⟩ := one_arg (k := fun x => kPopAt w x st) (P := fun r => OkG K wh σ (relO K) H₀ B H β r Q) rp (fun h => h) ok
  unfold kPopAt at ok
  cases e : lstAt w st with
  | none => simp only [e] at ok; exact ok.elim
  | some ds =>
    simp only [e] at ok
    split at ok
    · rename_i ds2 i hq okx
      cases hq
      cases rx
      cases q : ixN ds.length i with
      | none => simp only [q] at ok; exact ok.elim
      | some j =>
        simp only [q] at ok
        cases z : ds[j]? with
        | none => simp only [z] at ok; exact ok.elim
        | some d =>
          simp only [z] at ok
          by_cases hi : -(2 ^ 63) ≤ i ∧ i < 2 ^ 63
          · rw [if_pos hi] at ok
            obtain ⟨a, xs, rfl, hx, rl, k⟩ := lst_at sr rw' e
            obtain ⟨sr2, go2⟩ := k _ _ (rl.eraseIdx j)
            obtain ⟨y, hy, ry⟩ := rl.get z
            exact ⟨a, xs, i, j, y, rfl, rfl, hx, hi.1, hi.2, by rw [rl.length]; exact (ixN_seq q).1, hy, ok y _ _ _ go2 sr2 (show RepS K B β y (.d d) from ry)⟩
          · rw [if_neg hi] at ok
            exact ok.elim
    · exact ok.elim
theorem snd_ext : SndM K rExtend fun w ws st => arg1 (fun x => kExt w x st) ws := by
  intro wh σ H₀ B H β st w ws v vs Q sr rw' rp ok
  obtain ⟨u, x, rfl, rfl, rx, ok⟩ := one_arg (k := fun x => kExt w x st) (P := fun r => OkG K wh σ (relO K) H₀ B H β r Q) rp (fun h => h) ok
  unfold kExt at ok
  split at ok
  · rename_i ds es e1 e2
    by_cases hl : ds.length + es.length ≤ sizeLine
    · rw [if_pos hl] at ok
      obtain ⟨a, xs, rfl, hx, rl, k⟩ := lst_at sr rw' e1
      obtain ⟨b, ys, rfl, hy, rm⟩ := plain_of sr rx e2
      obtain ⟨sr2, go2⟩ := k _ _ (rl.append rm)
      exact ⟨a, b, xs, ys, rfl, rfl, hx, hy, by rw [rl.length, rm.length]; exact hl, ok .non _ _ _ go2 sr2 .non⟩
    · rw [if_neg hl] at ok
      exact ok.elim
  · exact ok.elim
theorem f_append (ho : PO X wh o fo) (ha : PO X wh e fa) (hbase : attributeBase o "append" X.env (eval o X.env) = eval o X.env := by rfl)
    (hfew : ((backTo pos (starEach (e :: []) X.env)).all (fun x => !x.1) && (backToKw pos (keywordEach [] X.env)).all (fun x => x.1.isSome)
      && decide ((e :: []).length + ([] : List Keyword).length + (if ([] : List Keyword).isEmpty then 0 else 1) < 30)) = true := by rfl)
    (hline : (apos.endLine == pos.line) = true := by rfl) (hs : starEach (e :: []) X.env = (false, eval e X.env) :: starEach [] X.env := by rfl) (hplain : (backTo pos (starEach [] X.env)).any (·.1) = false := by rfl) :
    PO X wh (.Call (.Attribute o "append" apos) [e] [] pos) (eM1 kApp fo fa) := f_m1 PySem.F.slot_list_append PySem.F.type_list_append mt_append snd_app ho ha hbase hfew hline hs hplain
theorem f_extend (ho : PO X wh o fo) (ha : PO X wh e fa) (hbase : attributeBase o "extend" X.env (eval o X.env) = eval o X.env := by rfl)
    (hfew : ((backTo pos (starEach (e :: []) X.env)).all (fun x => !x.1) && (backToKw pos (keywordEach [] X.env)).all (fun x => x.1.isSome)
      && decide ((e :: []).length + ([] : List Keyword).length + (if ([] : List Keyword).isEmpty then 0 else 1) < 30)) = true := by rfl)
    (hline : (apos.endLine == pos.line) = true := by rfl) (hs : starEach (e :: []) X.env = (false, eval e X.env) :: starEach [] X.env := by rfl) (hplain : (backTo pos (starEach [] X.env)).any (·.1) = false := by rfl) :
    PO X wh (.Call (.Attribute o "extend" apos) [e] [] pos) (eM1 kExt fo fa) := f_m1 PySem.F.slot_list_extend PySem.F.type_list_extend mt_extend snd_ext ho ha hbase hfew hline hs hplain
theorem f_popAt (ho : PO X wh o fo) (ha : PO X wh e fa) (hbase : attributeBase o "pop" X.env (eval o X.env) = eval o X.env := by rfl)
    (hfew : ((backTo pos (starEach (e :: []) X.env)).all (fun x => !x.1) && (backToKw pos (keywordEach [] X.env)).all (fun x => x.1.isSome)
      && decide ((e :: []).length + ([] : List Keyword).length + (if ([] : List Keyword).isEmpty then 0 else 1) < 30)) = true := by rfl)
    (hline : (apos.endLine == pos.line) = true := by rfl) (hs : starEach (e :: []) X.env = (false, eval e X.env) :: starEach [] X.env := by rfl) (hplain : (backTo pos (starEach [] X.env)).any (·.1) = false := by rfl) :
    PO X wh (.Call (.Attribute o "pop" apos) [e] [] pos) (eM1 kPopAt fo fa) := f_m1 PySem.F.slot_list_pop PySem.F.type_list_pop mt_popAt snd_popAt ho ha hbase hfew hline hs hplain
theorem f_pop (ho : PO X wh o fo) (hbase : attributeBase o "pop" X.env (eval o X.env) = eval o X.env := by rfl) (hline : (apos.endLine == pos.line) = true := by rfl) :
    PO X wh (.Call (.Attribute o "pop" apos) [] [] pos) (eM0 kPop fo) := f_m0 PySem.F.slot_list_pop PySem.F.type_list_pop mt_pop snd_pop ho hbase hline
end
end F

namespace F
open PySem PySem.Spec PyProof.Rows L2
variable {K : PySem.W.Frag}
/-! ## o[i] = e, a list -/
def kSet (x w i : Sl) (st : Sto) : Rs Unit := (toD x st).bind fun d st1 => match lstAt w st1, i with
  | some ds, .d (.int k) => (match ixN ds.length k with
    | some j => .ok () (putAt w (ds.set j d) st1)
    | none => .bad)
  | _, _ => .bad
def sSetI (fe fo fi : Ex) : Sm := fun ρ st => sOf (fe ρ st) ρ fun x st1 => sOf (fo ρ st1) ρ fun w st2 => sOf (fi ρ st2) ρ fun i st3 => sOf (kSet x w i st3) ρ fun _ st4 => .nx ρ st4
section
variable {X : Cx} {wh : WX} {e o i : Expr} {fe fo fi : Ex} {pos pos' : Pos}
theorem s_setI (he : PO X wh e fe) (ho : PO X wh o fo) (hi : PO X wh i fi) (hs : swapsWithSole [.Subscript o i pos'] e pos.line X.env = pure false := by rfl) (hw : swappedStores [.Subscript o i pos'] e X.env = pure none := by rfl)
    (h1 : (assignEach [.Subscript o i pos'] X.env).map (·.2) = [assign (.Subscript o i pos') X.env] := by rfl)
    (ha : ∀ v, assign (.Subscript o i pos') X.env v = (do
      let ov ← holding [v] (eval o X.env)
      let iv ← holding [v, ov] (eval i X.env)
      standAt pos'
      holding [v, ov, iv] (setItem ov iv v)
      release [v, ov, iv] []) := by intro _; rfl) : PF X wh (.Assign [.Subscript o i pos'] e pos) (sSetI fe fo fi) :=
  PS.imp (ps_asg he (pg_sub ho hi set_list ha) hs hw h1) fun D σ H ⟨H₀, B, β, st, ρ, hb, sr, er, ok⟩ =>
    ⟨B, β, st, ρ, sr, er, OkS.expr okO sr er ok fun x st1 v B1 H1 β1 go1 sr1 er1 rx ok1 =>
      ⟨B1, β1, st1, ρ, sr1, er1, OkS.expr okO sr1 er1 ok1 fun w st2 u B2 H2 β2 go2 sr2 er2 rw' ok2 =>
        ⟨B2, β2, st2, ρ, sr2, er2, OkS.expr okO sr2 er2 ok2 fun iv st3 z B3 H3 β3 go3 sr3 er3 ri ok3 => by
          have rx3 := RepS.go (go2.trans go3) rx
          have rw3 := RepS.go go3 rw'
          unfold kSet at ok3
          cases ed : toD x st3 with
          | bad => rw [ed] at ok3; exact ok3.elim
          | exc c y st4 => exact (toD_nox ed).elim
          | ok d st4 =>
            rw [ed] at ok3
            obtain ⟨B4, go4, sr4, rd4⟩ := toD_ok sr3 rx3 ed
            cases el : lstAt w st4 with
            | none => simp only [Rs.bind, el] at ok3; exact ok3.elim
            | some ds =>
              simp only [Rs.bind, el] at ok3
              cases iv with
              | d iv =>
                cases iv with
                | int k =>
                  cases ri
                  cases ej : ixN ds.length k with
                  | none => simp only [ej] at ok3; exact ok3.elim
                  | some j =>
                    simp only [ej] at ok3
                    obtain ⟨a, xs, rfl, hx, rl, kk⟩ := lst_at sr4 (RepS.go go4 rw3) el
                    obtain ⟨sr5, go5⟩ := kk (xs.set j v) (ds.set j d) (rl.set j rd4)
                    exact ⟨a, xs, k, j, rfl, rfl, hx, by rw [rl.length]; exact ej, ok3 σ _ _ _ (go4.trans go5) sr5 ((er3.go go4).go go5)⟩
                | _ => exact ok3.elim
              | _ => exact ok3.elim⟩⟩⟩
/-! ## a choice of any result -/
theorem w_if {t : Tst} {a b : Expr} {fa fb : Ex} (ht : PB X wh e t) (ha : PW X wh a fa) (hb : PW X wh b fb) : PW X wh (.IfExp e a b pos) (eIf t fa fb) :=
  PE.imp (pe_ifExp ht ha hb) fun σ H Q q => rd_then (k := fun x ρ st1 => if x = true then fa ρ st1 else fb ρ st1) q fun x st ρ v B₀ B1 H1 β₀ β1 go sr er re ok => by
    cases (show v = x from re)
    cases x with
    | true =>
      rw [if_pos rfl] at ok ⊢
      exact go_on okW go sr er ok
    | false =>
      rw [if_neg (by decide)] at ok ⊢
      exact go_on okW go sr er ok
/-! ## calls by names of the parameters -/
def pick {α : Type} (is : List Nat) (ws : List α) : List α := is.filterMap (ws[·]?)
theorem pick_rel {α β : Type} {P : α → β → Prop} {xs : List α} {ys : List β} (r : Paired P xs ys) : ∀ is : List Nat, Paired P (pick is xs) (pick is ys)
  | [] => .nil
  | i :: is => by
    have ih := pick_rel r is
    have hi : (∃ x y, xs[i]? = some x ∧ ys[i]? = some y ∧ P x y) ∨ (xs[i]? = none ∧ ys[i]? = none) := by
      clear ih
      induction r generalizing i with
      | nil => exact .inr ⟨by simp, by simp⟩
      | cons p t ih =>
        cases i with
        | zero => exact .inl ⟨_, _, rfl, rfl, p⟩
        | succ i => simpa using ih i
    unfold pick
    rcases hi with ⟨x, y, hx, hy, p⟩ | ⟨hx, hy⟩
    · rw [List.filterMap_cons, List.filterMap_cons, hx, hy]
      exact .cons p ih
    · rw [List.filterMap_cons, List.filterMap_cons, hx, hy]
      exact ih
def eCallK (m : Fn) (is : List Nat) (g : Ar) : Ex := fun ρ st => (g ρ st).bind fun ws st1 => m (pick is ws) st1
/-- keywords' values, from the left -/
abbrev PKw (X : Cx) (wh : WX) (kws : List Keyword) (g : Ar) : Prop := PK X kws (rd X.K wh (relS X.K) g)
theorem PKi.imp {kws : List Keyword} {t t' : TA} (h : PK X kws t) (k : ∀ σ H Q, t' σ H Q → t σ H Q) : PK X kws t' := ⟨fun pos pins s σ H Q I q => h.run pos pins s σ H Q I (k σ H Q q)⟩
theorem k_nil : PKw X wh [] aNil := PKi.imp pk_nil fun σ H Q ⟨B, β, st, ρ, sr, er, ok⟩ => OkG.pure ok sr .nil
theorem k_cons {kws : List Keyword} {nm : Option Str} {kpos : Pos} {f : Ex} {g : Ar} (he : PO X wh e f) (hr : PKw X wh kws g) : PKw X wh (⟨nm, e, kpos⟩ :: kws) (aCons f g) :=
  PKi.imp (pk_cons he hr) fun σ H Q q => rd_then (k := fun x ρ st1 => (g ρ st1).bind fun xs st2 => .ok (x :: xs) st2) q fun x st ρ v B₀ B1 H1 β₀ β1 go sr er re ok =>
    ⟨B1, β1, st, ρ, sr, er, OkG.next (OkG.late okS (fun _ q => none_back go q) ok) fun xs st2 vs B2 H2 β2 _ go2 sr2 re2 ok2 => OkG.pure ok2 sr2 (show Paired _ _ _ from .cons (RepS.go go2 re) re2)⟩
theorem w_callK {k n : Nat} {f : Addr} {fd : FuncData} {ps ks : List Str} {m : Fn} {g : Ar} {x : Str} {p : Pos} {kws : List Keyword} {is : List Nat} (Fk : FnOk X.prog X.w X.K X.mg X.base (L2.CX X.prog X.w) k f fd ps (spF X.K n m)) (tk : Takes X wh) (hr : Room k X.A) (hg : Gl X x) (hm : X.mg x = some (.ref f)) (hk : PySem.W.keepIn X.K (.ref f) = true)
    (hb : ∀ (s : Shared) (us : List Value), us.length = ks.length → BindsTo s fd ⟨[], ks.zip us⟩ (ps.zip (pick is us))) (ha : PKw X wh kws g) (hn : ∀ ρ st ws st1, g ρ st = .ok ws st1 → ws.length = ks.length) (hn2 : ∀ us : List Sl, us.length = ks.length → (pick is us).length = n)
    (hall : (backToKw pos (keywordEach kws X.env)).all (·.1.isSome) = true := by rfl) (hks : (backToKw pos (keywordEach kws X.env)).filterMap (·.1) = ks := by rfl) (hdb : (x == ("__debug__" : Str)) = false := by decide)
    (hpl : ((backTo pos (starEach [] X.env)).any (·.1) || (backToKw pos (keywordEach kws X.env)).any (·.1.isNone)) = false := by rfl) : PW X wh (.Call (.Name x p) [] kws pos) (eCallK m is g) := by
  refine ⟨fun pins s σ H Q I h => ?_⟩
  refine wpAny_Call_Name_kw (ld_glob I hg hm ?_ hdb)
  obtain ⟨B, β, st, ρ, sr, er, ok⟩ := h
  have ok2 : OkG X.K wh σ (relS X.K) H B H β (g ρ st) fun vs H1 => vs.length = ks.length ∧ spF X.K n m (pick is vs) H1 Q (WE wh σ) := OkG.next ok fun ws st1 vs B1 H1 β1 e go sr1 re ok1 => by
    have rp := pick_rel re is
    have lw := hn ρ st ws st1 e
    refine ⟨(Paired.length re).trans lw, B1, β1, st1, pick is ws, by rw [Paired.length rp]; exact hn2 ws lw, sr1, rp, ?_⟩
    cases q : m (pick is ws) st1 with
    | ok a st2 =>
      rw [q] at ok1
      exact fun v B' H' β' go' sr' r' => ok1 v B' H' β' go' sr' (RepW.early (fun _ z => none_back go z) r')
    | exc c z st2 => rw [q] at ok1; exact ok1
    | bad => rw [q] at ok1; exact ok1
  have run := ha.run pos pins s σ H (fun vs H1 => vs.length = ks.length ∧ spF X.K n m (pick is vs) H1 Q (WE wh σ)) I ⟨B, β, st, ρ, sr, er, ok2⟩
  refine PySem.W.callWith_KW0 (h₀ := X.base) I.ok.mod.kin hk hall (thn run fun us s1 ⟨vs, H1, I1, rv, lv, q⟩ => ⟨I1.kIn, ?_⟩) hpl
  rw [hks]
  have rv2 : Vals (pick is vs) (pick is us) := pick_rel rv is
  have hl : us.length = ks.length := (Paired.length rv).symm.trans lv
  show wpAny _ _ (call (.ref f) ([] ++ []) (ks.zip us)) _ _ _
  refine wpAny_call (codeAny_mono (Fk.run X.A X.stack s1 H1 ⟨[], ks.zip us⟩ (pick is us) (pick is vs) Q (WE wh σ) hr I1.env0 (hb s1 us hl) rv2 q) fun r s' hq => ?_)
  cases r with
  | error e => exact passAt tk σ pins H1 s1 e s' I1 hq
  | ok fl =>
    cases fl with
    | ret u => exact I1.after hq
    | next => exact False.elim hq
    | brk => exact False.elim hq
    | cont => exact False.elim hq
/-! ## what is walked -/
variable (X) in
/-- a list, a tuple, a text -/
def iAny (te : TE) : TI := fun σ H R => te σ H fun v H1 => (∃ a, v = .ref a ∧ (∃ xs, SqL X.K H1 a xs) ∧ R (Itl X.K a) H1) ∨ (∃ a, v = .ref a ∧ (∃ xs, SqT X.K H1 a xs) ∧ R (Itt X.K a) H1) ∨ ∃ x, v = .str x ∧ R (Its x) H1
theorem pi_any {tg : Expr} {te : TE} (he : PE X e te) : PI X tg e (iAny X te) := by
  refine ⟨fun pins s σ H R I h => thn (he.run pins s σ H _ I h) fun v s1 ⟨x, H1, I1, r1, q1⟩ => ?_⟩
  have big : ∀ b ∈ [s1.heap.objs.size], FpOk X pins H1 b := fun b hb => by
    rw [List.mem_singleton.mp hb]
    exact I1.fpOk (Nat.le_refl _) I1.fresh
  rcases q1 with ⟨a, rfl, ⟨xs, hq⟩, q⟩ | ⟨a, rfl, ⟨xs, hq⟩, q⟩ | ⟨z, rfl, q⟩
  · cases r1
    obtain ⟨its, _, p, _⟩ := I1.list hq
    exact wpAny_pyIter_list p.isList ⟨_, _, _, _, H1, rfl, I1.kept (t' := s1.toks) fun b o z => Heap.get?_push_of_some _ z, turn_list a _, ⟨_, Heap.get?_push_size _ rfl, rfl, rfl⟩, big, q⟩
  · cases r1
    obtain ⟨its, _, p, _⟩ := I1.tuple hq
    exact wpAny_pyIter_tuple (show s1.heap.IsTuple a its.toArray from p) ⟨_, _, _, _, H1, rfl, I1.kept (t' := s1.toks) fun b o z => Heap.get?_push_of_some _ z, turn_tuple a _, ⟨_, Heap.get?_push_size _ rfl, rfl, rfl⟩, big, q⟩
  · obtain ⟨t, rfl⟩ := r1
    cases ha : z.cps.all (· < 128) with
    | false => exact wpAny_pyIter_wide ha (pi_one (tk := s1.toks) I1 _ (turn_str _ z t "str_iterator" (.inr rfl)) ⟨_, Heap.get?_push_size _ rfl, rfl, rfl⟩ q)
    | true => exact wpAny_pyIter_ascii ha (pi_one (tk := s1.toks) I1 _ (turn_str _ z t "str_ascii_iterator" (.inl rfl)) ⟨_, Heap.get?_push_size _ rfl, rfl, rfl⟩ q)
theorem it_list {B : Hp} {a : Addr} {xs : List V} {ds : List Vl} (h : SqL K B a xs) (rl : RepL K B xs ds) : ItOk K B (Itl K a) ds := by
  refine ⟨fun H => SqL K H a xs, YAt xs, by rw [← rl.length]; exact walk_list, fun B' H s1 s2 => s2.sqL (s1.sqL h), ?_⟩
  rintro i d B' H β st x H' hd s sr ⟨rfl, hx⟩
  obtain ⟨v, hv, r⟩ := rl.get hd
  rw [hx] at hv
  cases hv
  exact ⟨B', Go.refl _ _ _, sr, r.mono s⟩
theorem it_tup {B : Hp} {a : Addr} {xs : List V} {ds : List Vl} (h : SqT K B a xs) (rl : RepL K B xs ds) : ItOk K B (Itt K a) ds := by
  refine ⟨fun H => SqT K H a xs, YAt xs, by rw [← rl.length]; exact walk_tup, fun B' H s1 s2 => s2.sqT (s1.sqT h), ?_⟩
  rintro i d B' H β st x H' hd s sr ⟨rfl, hx⟩
  obtain ⟨v, hv, r⟩ := rl.get hd
  rw [hx] at hv
  cases hv
  exact ⟨B', Go.refl _ _ _, sr, r.mono s⟩
def chars (z : Str) : List Vl := z.cps.toList.map fun c => .str ⟨#[c]⟩
theorem it_str {B : Hp} {z : Str} : ItOk K B (Its z) (chars z) := by
  refine ⟨fun _ => True, fun i H v H' => H' = H ∧ ∃ c, z.cps[i]? = some c ∧ v = .str ⟨#[c]⟩, by unfold chars; rw [List.length_map, Array.length_toList]; exact walk_str, fun _ _ _ _ => trivial, ?_⟩
  rintro i d B' H β st x H' hd s sr ⟨rfl, c, hc, rfl⟩
  unfold chars at hd
  rw [List.getElem?_map, Array.getElem?_toList, hc] at hd
  cases hd
  exact ⟨B', Go.refl _ _ _, sr, .str _⟩
/-- how a thing is walked: a cell of the store is frozen -/
def kIter (w : Sl) (st : Sto) : Rs (List Vl) := (toD w st).bind fun x st1 => match x with
  | .tup ds => .ok ds st1
  | .ktp ds => .ok ds st1
  | .lst ds => .ok ds st1
  | .scr ds => .ok ds st1
  | .str z => .ok (chars z) st1
  | _ => .bad
def itAny (f : Ex) : Itr := fun ρ st => (f ρ st).bind kIter
theorem i_any {tg : Expr} {f : Ex} (he : PO X wh e f) : PIt X wh tg e (itAny f) :=
  PIi.imp (pi_any he) fun σ H R ⟨B, β, st, ρ, sr, er, ok⟩ => by
    refine ⟨B, β, st, ρ, sr, er, ?_⟩
    unfold itAny at ok
    cases e : f ρ st with
    | bad => rw [e] at ok; exact ok
    | exc c x st1 => rw [e] at ok; exact ok
    | ok w st1 =>
      rw [e] at ok
      intro v B1 H1 β1 go1 sr1 re
      have ok : (match kIter w st1 with
        | .ok ds st' => ∀ J B' H' β', Go B H β B' H' β' → SR X.K B' H' β' st' → ItOk X.K B' J ds → R J H'
        | .exc c x st' => ∀ cls dd B' H' β', Go B H β B' H' β' → SR X.K B' H' β' st' → XRep X.K B' H' c x cls dd → wh cls dd σ H'
        | .bad => False) := ok
      unfold kIter at ok
      cases ed : toD w st1 with
      | bad => rw [ed] at ok; exact ok.elim
      | exc c y st4 => exact (toD_nox ed).elim
      | ok x st2 =>
        rw [ed] at ok
        obtain ⟨B2, go2, sr2, r2⟩ := toD_ok sr1 re ed
        have go := go1.trans go2
        cases x with
        | tup ds =>
          cases r2 with
          | tup h rl => exact .inr (.inl ⟨_, rfl, ⟨_, sqT_at (sr2.sub _ _ h)⟩, ok _ _ _ _ go sr2 (it_tup (sqT_at h) rl)⟩)
        | ktp ds =>
          cases r2 with
          | ktp h rl => exact .inr (.inl ⟨_, rfl, ⟨_, sr2.sub.sqT h⟩, ok _ _ _ _ go sr2 (it_tup h rl)⟩)
        | lst ds =>
          cases r2 with
          | lst h rl => exact .inl ⟨_, rfl, ⟨_, .inl (.inl (sr2.sub _ _ h))⟩, ok _ _ _ _ go sr2 (it_list (.inl (.inl h)) rl)⟩
        | scr ds =>
          cases r2 with
          | scr h rl => exact .inl ⟨_, rfl, ⟨_, sr2.sub.sqL h⟩, ok _ _ _ _ go sr2 (it_list h rl)⟩
        | str z =>
          cases r2
          exact .inr (.inr ⟨z, rfl, ok _ _ _ _ go sr2 it_str⟩)
        | non => exact ok.elim
        | bl b => exact ok.elim
        | int i => exact ok.elim
/-- lo, lo + c, .. -/
def rgD (lo c : Int) (n : Nat) : List Vl := (List.range n).map fun (i : Nat) => .int (lo + (i : Int) * c)
theorem rgD_len (lo c : Int) (n : Nat) : (rgD lo c n).length = n := by unfold rgD; rw [List.length_map, List.length_range]
theorem rgD_at {lo c : Int} {n i : Nat} {d : Vl} (h : (rgD lo c n)[i]? = some d) : d = .int (lo + (i : Int) * c) := by
  unfold rgD at h
  rw [List.getElem?_map] at h
  by_cases hi : i < n
  · rw [List.getElem?_range hi] at h
    cases h
    rfl
  · rw [List.getElem?_eq_none (by rw [List.length_range]; omega)] at h
    cases h
theorem it_rg {B : Hp} {lo : Int} {n : Nat} : ItOk K B (L2.Itr lo n) (rgD lo 1 n) := by
  refine ⟨fun _ => True, YFn fun i => .int (lo + i), by rw [rgD_len]; exact walk_range, fun _ _ _ _ => trivial, ?_⟩
  rintro i d B' H β st x H' hd s sr ⟨rfl, rfl⟩
  rw [rgD_at hd, Int.mul_one]
  exact ⟨B', Go.refl _ _ _, sr, .int _⟩
theorem it_rgC {B : Hp} {lo c : Int} {n : Nat} : ItOk K B (Itc lo c n) (rgD lo c n) := by
  refine ⟨fun _ => True, YFn fun i => .int (lo + (i : Nat) * c), by rw [rgD_len]; exact walk_rangeC, fun _ _ _ _ => trivial, ?_⟩
  rintro i d B' H β st x H' hd s sr ⟨rfl, rfl⟩
  rw [rgD_at hd]
  exact ⟨B', Go.refl _ _ _, sr, .int _⟩
def rgOk (i : Int) : Bool := decide (-(2 ^ 62) ≤ i ∧ i < 2 ^ 62)
def kRg1 (ws : List Sl) (st : Sto) : Rs (List Vl) := match ws with
  | [.d (.int j)] => if rgOk j = true then .ok (rgD 0 1 j.toNat) st else .bad
  | _ => .bad
def kRg2 (ws : List Sl) (st : Sto) : Rs (List Vl) := match ws with
  | [.d (.int i), .d (.int j)] => if (rgOk i && rgOk j) = true then .ok (rgD i 1 (j - i).toNat) st else .bad
  | _ => .bad
def kRg3 (ws : List Sl) (st : Sto) : Rs (List Vl) := match ws with
  | [.d (.int i), .d (.int j), .d (.int (-1))] => if (rgOk i && rgOk j) = true then .ok (rgD i (-1) (i - j).toNat) st else .bad
  | _ => .bad
def itOf (k : List Sl → Sto → Rs (List Vl)) (g : Ar) : Itr := fun ρ st => (g ρ st).bind k
/-- from arguments to what is walked -/
theorem rd_it {g : Ar} {k : List Sl → Sto → Rs (List Vl)} {σ : L2.St} {H : Hp} {R : It → Hp → Prop} {T : List V → Hp → Prop} (h : rdI K wh (fun ρ st => (g ρ st).bind k) σ H R)
    (n : ∀ ws st vs B H β, SR K B H β st → Paired (RepS K B β) vs ws → (match k ws st with
      | .ok ds st' => ∀ J B' H' β', Go B H β B' H' β' → SR K B' H' β' st' → ItOk K B' J ds → R J H'
      | .exc c x st' => True
      | .bad => False) → T vs H) (nx : ∀ ws st c x st', k ws st ≠ .exc c x st') : rd K wh (relS K) g σ H T := by
  obtain ⟨B, β, st, ρ, sr, er, ok⟩ := h
  refine ⟨B, β, st, ρ, sr, er, ?_⟩
  cases e : g ρ st with
  | bad => simp only [e] at ok; exact ok
  | exc c x st1 => simp only [e] at ok; exact ok
  | ok ws st1 =>
    simp only [e, Rs.bind] at ok
    intro vs B1 H1 β1 go sr1 re
    refine n ws st1 vs B1 H1 β1 sr1 re ?_
    cases q : k ws st1 with
    | ok ds st2 =>
      simp only [q] at ok
      exact fun J B' H' β' go' => ok J B' H' β' (go.trans go')
    | exc c x st2 => exact absurd q (nx ws st1 c x st2)
    | bad => simp only [q] at ok
theorem kRg1_nx (ws : List Sl) (st : Sto) (c : Str) (x : Vl) (st' : Sto) : kRg1 ws st ≠ .exc c x st' := by
  intro h
  unfold kRg1 at h
  split at h
  · split at h <;> cases h
  · cases h
theorem kRg2_nx (ws : List Sl) (st : Sto) (c : Str) (x : Vl) (st' : Sto) : kRg2 ws st ≠ .exc c x st' := by
  intro h
  unfold kRg2 at h
  split at h
  · split at h <;> cases h
  · cases h
theorem kRg3_nx (ws : List Sl) (st : Sto) (c : Str) (x : Vl) (st' : Sto) : kRg3 ws st ≠ .exc c x st' := by
  intro h
  unfold kRg3 at h
  split at h
  · split at h <;> cases h
  · cases h
theorem i_rg1 {tg a : Expr} {g : Ar} {p : Pos} (hg : Gl X "range") (hm : X.mg "range" = none) (ha : PR X wh [a] g) (hs : starEach [a] X.env = [(false, eval a X.env)] := by rfl) : PIt X wh tg (.Call (.Name "range" p) [a] [] pos) (itOf kRg1 g) :=
  PIi.imp (pi_range1 hg hm ha hs) fun σ H R h => rd_it h (fun ws st vs B H β sr re ok => by
    unfold kRg1 at ok
    split at ok
    · rename_i ds st' hk
      split at hk
      · rename_i j
        obtain ⟨v, rfl, r⟩ := one_of re
        cases r
        by_cases hj : rgOk j = true
        · rw [if_pos hj] at hk
          cases hk
          obtain ⟨h1, h2⟩ := of_decide_eq_true hj
          exact ⟨j, rfl, h1, h2, ok _ _ _ _ (Go.refl _ _ _) sr it_rg⟩
        · rw [if_neg hj] at hk
          cases hk
      · cases hk
    · rename_i hk
      exact (kRg1_nx _ _ _ _ _ hk).elim
    · exact ok.elim) kRg1_nx
theorem i_rg2 {tg a b : Expr} {g : Ar} {p : Pos} (hg : Gl X "range") (hm : X.mg "range" = none) (ha : PR X wh [a, b] g) (hs : starEach [a, b] X.env = [(false, eval a X.env), (false, eval b X.env)] := by rfl) (hs2 : starEach [b] X.env = [(false, eval b X.env)] := by rfl) : PIt X wh tg (.Call (.Name "range" p) [a, b] [] pos) (itOf kRg2 g) :=
  PIi.imp (pi_range2 hg hm ha hs hs2) fun σ H R h => rd_it h (fun ws st vs B H β sr re ok => by
    unfold kRg2 at ok
    split at ok
    · rename_i ds st' hk
      split at hk
      · rename_i i j
        obtain ⟨v, z, rfl, r, r2⟩ := twos_of re
        cases r
        cases r2
        by_cases hj : (rgOk i && rgOk j) = true
        · rw [if_pos hj] at hk
          cases hk
          rw [Bool.and_eq_true] at hj
          obtain ⟨h1, h2⟩ := of_decide_eq_true hj.1
          obtain ⟨h3, h4⟩ := of_decide_eq_true hj.2
          exact ⟨i, j, rfl, ⟨h1, h2, h3, h4⟩, ok _ _ _ _ (Go.refl _ _ _) sr it_rg⟩
        · rw [if_neg hj] at hk
          cases hk
      · cases hk
    · rename_i hk
      exact (kRg2_nx _ _ _ _ _ hk).elim
    · exact ok.elim) kRg2_nx
theorem i_rg3 {tg a b c : Expr} {g : Ar} {p : Pos} (hg : Gl X "range") (hm : X.mg "range" = none) (ha : PR X wh [a, b, c] g) (hs : starEach [a, b, c] X.env = (false, eval a X.env) :: starEach [b, c] X.env := by rfl) (hpl : (backTo pos (starEach [b, c] X.env)).any (·.1) = false := by rfl) : PIt X wh tg (.Call (.Name "range" p) [a, b, c] [] pos) (itOf kRg3 g) :=
  PIi.imp (pi_range3 hg hm ha hs hpl) fun σ H R h => rd_it h (fun ws st vs B H β sr re ok => by
    unfold kRg3 at ok
    split at ok
    · rename_i ds st' hk
      split at hk
      · rename_i i j
        obtain ⟨v, z, y, rfl, r, r2, r3⟩ : ∃ v z y, vs = [v, z, y] ∧ RepS X.K B β v (.d (.int i)) ∧ RepS X.K B β z (.d (.int j)) ∧ RepS X.K B β y (.d (.int (-1))) := by
          cases re with
          | cons a t => cases t with
            | cons b t => cases t with
              | cons c t => cases t; exact ⟨_, _, _, rfl, a, b, c⟩
        cases r
        cases r2
        cases r3
        by_cases hj : (rgOk i && rgOk j) = true
        · rw [if_pos hj] at hk
          cases hk
          rw [Bool.and_eq_true] at hj
          obtain ⟨h1, h2⟩ := of_decide_eq_true hj.1
          obtain ⟨h3, h4⟩ := of_decide_eq_true hj.2
          exact ⟨i, j, -1, _, rfl, RgC.neg h1 h2 h3 h4, ok _ _ _ _ (Go.refl _ _ _) sr it_rgC⟩
        · rw [if_neg hj] at hk
          cases hk
      · cases hk
    · rename_i hk
      exact (kRg3_nx _ _ _ _ _ hk).elim
    · exact ok.elim) kRg3_nx
/-! ### enumerate, zip -/
def kEnum (ws : List Sl) (st : Sto) : Rs (List Vl) := match ws with
  | [.d (.lst ds)] => .ok (ds.mapIdx fun i d => .tup [.int (i : Nat), d]) st
  | _ => .bad
def kZip (ws : List Sl) (st : Sto) : Rs (List Vl) := match ws with
  | [.d (.lst a), .d (.lst b)] => .ok (List.zipWith (fun x y => .tup [x, y]) a b) st
  | [.d (.tup a), .d (.tup b)] => .ok (List.zipWith (fun x y => .tup [x, y]) a b) st
  | _ => .bad
theorem kEnum_nx (ws : List Sl) (st : Sto) (c : Str) (x : Vl) (st' : Sto) : kEnum ws st ≠ .exc c x st' := by
  intro h
  unfold kEnum at h
  split at h <;> cases h
theorem kZip_nx (ws : List Sl) (st : Sto) (c : Str) (x : Vl) (st' : Sto) : kZip ws st ≠ .exc c x st' := by
  intro h
  unfold kZip at h
  split at h <;> cases h
theorem pair_rep {B : Hp} {β : Ad} {st : Sto} {H : Hp} {T : Addr} {x y : V} {d e : Vl} (sr : SR K B H β st) (hT : H T = none) (r1 : Rep K B x d) (r2 : Rep K B y e) :
    ∃ B', Go B H β B' (upd H T (.tup [x, y])) β ∧ SR K B' (upd H T (.tup [x, y])) β st ∧ Rep K B' (.ref T) (.tup [d, e]) :=
  ⟨_, Go.laidF sr hT, sr.laidF hT, Rep.tup upd_same (.cons (r1.mono (sub_new sr hT)) (.cons (r2.mono (sub_new sr hT)) .nil))⟩
theorem it_enum {B : Hp} {a : Addr} {xs : List V} {ds : List Vl} (h : SqL K B a xs) (rl : RepL K B xs ds) : ItOk K B (Ite K a) (ds.mapIdx fun i d => .tup [.int (i : Nat), d]) := by
  refine ⟨fun H => SqL K H a xs, YPair (fun i => some (.int (i : Nat))) (fun i => xs[i]?), by rw [List.length_mapIdx, ← rl.length]; exact walk_enum, fun B' H s1 s2 => s2.sqL (s1.sqL h), ?_⟩
  rintro i d B' H β st x H' hd s sr ⟨T, u, v, rfl, hT, rfl, hu, hv⟩
  rw [List.getElem?_mapIdx] at hd
  cases q : ds[i]? with
  | none => rw [q] at hd; cases hd
  | some e =>
    rw [q] at hd
    cases hd
    cases hu
    obtain ⟨v', hv', r⟩ := rl.get q
    have hw : xs[i]? = some v := hv
    rw [hw] at hv'
    cases hv'
    exact pair_rep sr hT (.int _) (r.mono s)
theorem zip_ok {B : Hp} {J : It} {xs ys : List V} {a b : List Vl} {G : Hp → Prop} (w : Walk J (min xs.length ys.length) G (YPair (fun i => xs[i]?) (fun i => ys[i]?))) (hG : ∀ B' H, Sub B B' → Sub B' H → G H) (r1 : RepL K B xs a) (r2 : RepL K B ys b) :
    ItOk K B J (List.zipWith (fun x y => .tup [x, y]) a b) := by
  refine ⟨G, _, by rw [List.length_zipWith, ← r1.length, ← r2.length]; exact w, hG, ?_⟩
  rintro i d B' H β st x H' hd s sr ⟨T, u, v, rfl, hT, rfl, hu, hv⟩
  rw [List.getElem?_zipWith] at hd
  cases q : a[i]? with
  | none => rw [q] at hd; simp at hd
  | some e =>
    cases q2 : b[i]? with
    | none => rw [q, q2] at hd; simp at hd
    | some f =>
      rw [q, q2] at hd
      cases hd
      obtain ⟨u', hu', s1⟩ := r1.get q
      obtain ⟨v', hv', s2⟩ := r2.get q2
      have hu2 : xs[i]? = some u := hu
      have hv2 : ys[i]? = some v := hv
      rw [hu2] at hu'
      rw [hv2] at hv'
      cases hu'
      cases hv'
      exact pair_rep sr hT (s1.mono s) (s2.mono s)
theorem twos_walked {a b : Addr} {us ws : List V} : Walk (RZ.ItzT K a b) (min us.length ws.length) (fun H => SqT K H a us ∧ SqT K H b ws) (YPair (fun j => us[j]?) (fun j => ws[j]?)) where
  goes j H lt g := by
    obtain ⟨l1, l2⟩ := (Nat.lt_min.mp lt : j < us.length ∧ j < ws.length)
    exact ⟨us, ws, us[j], ws[j], g.1, g.2, List.getElem?_eq_getElem l1, List.getElem?_eq_getElem l2⟩
  stops H g := ⟨us, ws, g.1, g.2, by rcases Nat.le_total us.length ws.length with q | q <;> simp [q]⟩
  yields j H x H' _ g := fun ⟨T, y, z, e, n, e', p, q⟩ => ⟨T, y, z, e, n, e', p _ g.1, q _ g.2⟩
theorem i_enum {a : Expr} {g : Ar} {p tpos : Pos} {elts : List Expr} {kk : Nat} (hg : Gl X "enumerate") (hm : X.mg "enumerate" = none) (ha : PR X wh [a] g) (hs : starEach [a] X.env = [(false, eval a X.env)] := by rfl) :
    PIt X wh (.Tuple elts kk tpos) (.Call (.Name "enumerate" p) [a] [] pos) (itOf kEnum g) :=
  PIi.imp (pi_enum hg hm ha hs) fun σ H R h => rd_it h (fun ws st vs B H β sr re ok => by
    unfold kEnum at ok
    split at ok
    · rename_i ds st' hk
      split at hk
      · obtain ⟨v, rfl, r⟩ := one_of re
        cases hk
        cases r with
        | lst hl rl => exact ⟨_, _, rfl, .inl (.inl (sr.sub _ _ hl)), ok _ _ _ _ (Go.refl _ _ _) sr (it_enum (.inl (.inl hl)) rl)⟩
      · cases hk
    · rename_i hk
      exact (kEnum_nx _ _ _ _ _ hk).elim
    · exact ok.elim) kEnum_nx
theorem i_zip {a b : Expr} {g : Ar} {p tpos : Pos} {elts : List Expr} {kk : Nat} (hg : Gl X "zip") (hm : X.mg "zip" = none) (ha : PR X wh [a, b] g) (hs : starEach [a, b] X.env = (false, eval a X.env) :: starEach [b] X.env := by rfl) (hpl : (backTo pos (starEach [b] X.env)).any (·.1) = false := by rfl) :
    PIt X wh (.Tuple elts kk tpos) (.Call (.Name "zip" p) [a, b] [] pos) (itOf kZip g) :=
  PIi.imp (RZ.pi_zipA hg hm ha hs hpl) fun σ H R h => rd_it h (fun ws st vs B H β sr re ok => by
    unfold kZip at ok
    split at ok
    · rename_i ds st' hk
      split at hk
      · obtain ⟨v, z, rfl, r, r2⟩ := twos_of re
        cases hk
        cases r with
        | lst h1 rl =>
          cases r2 with
          | lst h2 rm => exact ⟨_, _, _, _, rfl, .inl ⟨.inl (.inl (sr.sub _ _ h1)), .inl (.inl (sr.sub _ _ h2)), ok _ _ _ _ (Go.refl _ _ _) sr (zip_ok (walk_zip rfl) (fun B' H s1 s2 => ⟨.inl (.inl (s2 _ _ (s1 _ _ h1))), .inl (.inl (s2 _ _ (s1 _ _ h2)))⟩) rl rm)⟩⟩
      · obtain ⟨v, z, rfl, r, r2⟩ := twos_of re
        cases hk
        cases r with
        | tup h1 rl =>
          cases r2 with
          | tup h2 rm => exact ⟨_, _, _, _, rfl, .inr ⟨sqT_at (sr.sub _ _ h1), sqT_at (sr.sub _ _ h2), ok _ _ _ _ (Go.refl _ _ _) sr (zip_ok twos_walked (fun B' H s1 s2 => ⟨sqT_at (s2 _ _ (s1 _ _ h1)), sqT_at (s2 _ _ (s1 _ _ h2))⟩) rl rm)⟩⟩
      · cases hk
    · rename_i hk
      exact (kZip_nx _ _ _ _ _ hk).elim
    · exact ok.elim) kZip_nx
end
end F

namespace F
open PySem PySem.Spec PyProof.Rows L2
variable {K : PySem.W.Frag}
/-! ## rows of a matrix -/
def matOf (w : Sl) (st : Sto) : Option (List (List Vl)) := match w with
  | .r n => (match st[n]? with
    | some (.mat rows) => some rows
    | _ => none)
  | _ => none
theorem mat_of {B H : Hp} {β : Ad} {st : Sto} {w : Sl} {v : V} {rows : List (List Vl)} (sr : SR K B H β st) (r : RepS K B β v w) (e : matOf w st = some rows) :
    ∃ n p, w = .r n ∧ β[n]? = some p ∧ v = .ref p.1 ∧ H p.1 = some (.lst (p.2.map V.ref)) ∧ Paired (RowOk K B H) p.2 rows := by
  cases w with
  | r n =>
    unfold matOf at e
    cases q : st[n]? with
    | none => simp only [q] at e; cases e
    | some c =>
      simp only [q] at e
      cases c with
      | mat rs =>
        cases e
        obtain ⟨p, hp, ev, co⟩ := cell_of sr r q
        exact ⟨n, p, rfl, hp, ev, co.2.1, co.2.2⟩
      | _ => cases e
  | _ => cases e
def rowIx (x : Sl) (j : Nat) : Sl := match x with
  | .r n => .w n j
  | w => w
def ixM (x y : Sl) (st : Sto) : Rs Sl := match matOf x st, y with
  | some rows, .d (.int i) => (match ixN rows.length i with
    | some j => .ok (rowIx x j) st
    | none => .bad)
  | _, _ => .bad
theorem ixN_lt {n : Nat} {i : Int} {j : Nat} (h : ixN n i = some j) : j < n := (ixN_seq h).2.1
theorem snd_ixM : Snd2 K (rIxL K) ixM := by
  intro wh σ H₀ B H β st x y v u Q sr rx ry ok
  unfold ixM at ok
  split at ok
  · rename_i rows i e
    obtain ⟨n, p, rfl, hp, rfl, h1, h2⟩ := mat_of sr rx e
    cases ry
    cases q : ixN rows.length i with
    | none => simp only [q] at ok; exact ok.elim
    | some j =>
      simp only [q] at ok
      have hj : j < p.2.length := by rw [Paired.length h2]; exact ixN_lt q
      refine ⟨p.1, _, i, .ref p.2[j], rfl, rfl, .inl (.inl h1), ?_, OkG.pure ok sr (show RepS K B β (.ref p.2[j]) (.w n j) from ⟨p, _, hp, List.getElem?_eq_getElem hj, rfl⟩)⟩
      unfold atI
      rw [List.length_map, Paired.length h2, q]
      show (p.2.map V.ref)[j]? = _
      rw [List.getElem?_map, List.getElem?_eq_getElem hj]
      rfl
  · exact ok.elim
theorem Snd2.same {r : R2} {o o' : Op2} (h : Snd2 K r o) (h' : Snd2 K r o') : Snd2 K r (F.alt o o') := by
  intro wh σ H₀ B H β st x y v u Q sr rx ry ok
  rcases Snd2.alt h h' wh σ H₀ B H β st x y v u Q sr rx ry ok with q | q
  · exact q
  · exact q
def ixA : Op2 := F.alt (F.alt ixL ixM) (F.alt ixT ixZ)
theorem snd_ixA : Snd2 K (rIx K) ixA := Snd2.alt (Snd2.same snd_ixL snd_ixM) (Snd2.alt snd_ixT snd_ixZ)
section
variable {X : Cx} {wh : WX} {a b e : Expr} {fa fb : Ex} {pos : Pos}
theorem f_ixA (ha : PO X wh a fa) (hb : PO X wh b fb) (hs : PlainIx b := by intro _ _; rfl) : PO X wh (.Subscript a b pos) (eBin ixA fa fb) :=
  PE.imp (pe_ix ix_seq ha hb hs) fun _ _ _ h => rd_op snd_ixA h
end
/-! ## len of a matrix, of a dict -/
theorem CallR.either {X : Cx} {f : Value} {r r' : List V → Hp → VK → Prop} (h : CallR X f r) (h' : CallR X f r') : CallR X f fun xs H Q => r xs H Q ∨ r' xs H Q := by
  intro pins s σ H xs us Q I rv q
  exact q.elim (h pins s σ H xs us Q I rv) (h' pins s σ H xs us Q I rv)
def cLenM : Bf Sl := fun ws st => match ws with
  | [w] => (match matOf w st with
    | some rows => .ok (.d (.int rows.length)) st
    | none => .bad)
  | _ => .bad
def dctOf (w : Sl) (st : Sto) : Option (List (Key × Vl)) := match w with
  | .r n => (match st[n]? with
    | some (.dct kvs) => some kvs
    | _ => none)
  | _ => none
def dtpOf (w : Sl) (st : Sto) : Option (List (List Key × Vl)) := match w with
  | .r n => (match st[n]? with
    | some (.dtp kvs) => some kvs
    | _ => none)
  | _ => none
def cLenD : Bf Sl := fun ws st => match ws with
  | [w] => (match dctOf w st with
    | some kvs => .ok (.d (.int kvs.length)) st
    | none => (match dtpOf w st with
      | some kvs => .ok (.d (.int kvs.length)) st
      | none => .bad))
  | _ => .bad
theorem dct_of {B H : Hp} {β : Ad} {st : Sto} {w : Sl} {v : V} {kvs : List (Key × Vl)} (sr : SR K B H β st) (r : RepS K B β v w) (e : dctOf w st = some kvs) :
    ∃ n p, w = .r n ∧ st[n]? = some (.dct kvs) ∧ β[n]? = some p ∧ v = .ref p.1 ∧ CellOk K B H p (.dct kvs) := by
  cases w with
  | r n =>
    unfold dctOf at e
    cases q : st[n]? with
    | none => simp only [q] at e; cases e
    | some c =>
      simp only [q] at e
      cases c with
      | dct rs =>
        cases e
        obtain ⟨p, hp, ev, co⟩ := cell_of sr r q
        exact ⟨n, p, rfl, q, hp, ev, co⟩
      | _ => cases e
  | _ => cases e
theorem dtp_of {B H : Hp} {β : Ad} {st : Sto} {w : Sl} {v : V} {kvs : List (List Key × Vl)} (sr : SR K B H β st) (r : RepS K B β v w) (e : dtpOf w st = some kvs) :
    ∃ n p, w = .r n ∧ st[n]? = some (.dtp kvs) ∧ β[n]? = some p ∧ v = .ref p.1 ∧ CellOk K B H p (.dtp kvs) := by
  cases w with
  | r n =>
    unfold dtpOf at e
    cases q : st[n]? with
    | none => simp only [q] at e; cases e
    | some c =>
      simp only [q] at e
      cases c with
      | dtp rs =>
        cases e
        obtain ⟨p, hp, ev, co⟩ := cell_of sr r q
        exact ⟨n, p, rfl, q, hp, ev, co⟩
      | _ => cases e
  | _ => cases e
def altC {α : Type} (c c' : Bf α) : Bf α := fun ws st => match c ws st with
  | .bad => c' ws st
  | r => r
theorem SndC.alt {α : Type} {Rel : Rl α V} {r r' : List V → Hp → VK → Prop} {c c' : Bf α} (h : SndC K Rel r c) (h' : SndC K Rel r' c') : SndC K Rel (fun xs H Q => r xs H Q ∨ r' xs H Q) (altC c c') := by
  intro wh σ B H β st ws vs Q sr rp ok
  have g := h wh σ B H β st ws vs Q sr rp
  unfold altC at ok
  cases e : c ws st with
  | ok w st2 => simp only [e] at ok g; exact .inl (g ok)
  | exc z x st2 => simp only [e] at ok g; exact .inl (g ok)
  | bad => simp only [e] at ok; exact .inr (h' wh σ B H β st ws vs Q sr rp ok)
abbrev rLen0 (K : PySem.W.Frag) : List V → Hp → VK → Prop := fun xs H Q => ∃ x n, xs = [x] ∧ LenV K x H n ∧ Q (.int n) H
theorem snd_lenM : SndC K (relO K) (rLen0 K) cLenM := by
  intro wh σ B H β st ws vs Q sr rp ok
  unfold cLenM at ok
  split at ok
  · rename_i w
    obtain ⟨v, rfl, r⟩ := one_of rp
    cases e : matOf w st with
    | none => simp only [e] at ok; exact ok.elim
    | some rows =>
      simp only [e] at ok
      obtain ⟨n, p, rfl, hp, rfl, h1, h2⟩ := mat_of sr r e
      have ok2 := OkG.pure ok sr (show RepS K B β (.int (rows.length : Nat)) (.d (.int rows.length)) from .int _)
      rw [← Paired.length h2] at ok2
      exact ⟨_, p.2.length, rfl, .inl ⟨_, .inl (.inl h1), by rw [List.length_map]⟩, ok2⟩
  · exact ok.elim
abbrev rLenK : List V → Hp → VK → Prop := fun xs H Q => ∃ a kvs, xs = [V.ref a] ∧ H a = some (.dK kvs) ∧ Q (.int kvs.length) H
theorem snd_lenD : SndC K (relO K) (fun xs H Q => rLenT xs H Q ∨ rLenK xs H Q) cLenD := by
  intro wh σ B H β st ws vs Q sr rp ok
  unfold cLenD at ok
  split at ok
  · rename_i w
    obtain ⟨v, rfl, r⟩ := one_of rp
    cases e : dctOf w st with
    | some kvs =>
      simp only [e] at ok
      obtain ⟨n, p, rfl, _, hp, rfl, _, ks, h1, h2⟩ := dct_of sr r e
      have ok2 := OkG.pure ok sr (show RepS K B β (.int (kvs.length : Nat)) (.d (.int kvs.length)) from .int _)
      rw [← Paired.length h2] at ok2
      exact .inr ⟨p.1, ks, rfl, h1, ok2⟩
    | none =>
      simp only [e] at ok
      cases e2 : dtpOf w st with
      | some kvs =>
        simp only [e2] at ok
        obtain ⟨n, p, rfl, _, hp, rfl, _, ks, h1, h2⟩ := dtp_of sr r e2
        have ok2 := OkG.pure ok sr (show RepS K B β (.int (kvs.length : Nat)) (.d (.int kvs.length)) from .int _)
        rw [← Paired.length h2] at ok2
        exact .inl ⟨p.1, ks, rfl, h1, ok2⟩
      | none => simp only [e2] at ok; exact ok.elim
  · exact ok.elim
def cLenA : Bf Sl := altC cLen (altC cLenM cLenD)
theorem snd_lenA : SndC K (relO K) (fun xs H Q => rLen0 K xs H Q ∨ rLen0 K xs H Q ∨ rLenT xs H Q ∨ rLenK xs H Q) cLenA := SndC.alt snd_len (SndC.alt snd_lenM snd_lenD)
theorem call_lenA {X : Cx} : CallR X (.builtin "len") (fun xs H Q => rLen0 X.K xs H Q ∨ rLen0 X.K xs H Q ∨ rLenT xs H Q ∨ rLenK xs H Q) := CallR.either call_len (CallR.either call_len (CallR.either call_len_dT call_lenD))
/-! ## a list of new lists -/
abbrev ExM := En → Sto → Rs (List (List Vl))
def relM (K : PySem.W.Frag) : Rl (List (List Vl)) V := fun H₀ B H β v rows => RepW K H₀ B H β v (.m rows)
theorem okM : RlOk (relM K) := ⟨fun g r => RepW.go g r, fun h r => RepW.early h r⟩
def freshM : Rs (List (List Vl)) → Rs Sl
  | .ok rows st => .ok (.m rows) st
  | .exc c x st => .exc c x st
  | .bad => .bad
theorem OkG.freshM {wh : WX} {σ : L2.St} {H B : Hp} {β : Ad} {r : Rs (List (List Vl))} {Q : VK} (h : OkG K wh σ (relW K) H B H β (freshM r) Q) : OkG K wh σ (relM K) H B H β r Q := by
  cases r with
  | ok ds st => exact h
  | exc c x st => exact h
  | bad => exact h
variable (X : Cx) (wh : WX) in
abbrev PM (e : Expr) (f : ExM) : Prop := PE X e (rd X.K wh (relM X.K) f)
theorem pw_m {X : Cx} {wh : WX} {e : Expr} {f : ExM} (h : PM X wh e f) : PW X wh e (fun ρ st => freshM (f ρ st)) := PE.imp h fun σ H Q ⟨B, β, st, ρ, sr, er, ok⟩ => ⟨B, β, st, ρ, sr, er, ok.freshM⟩
def lcLoopM (g : Tg) (t : Tst) (f : ExN) (ρ : En) : List Vl → List (List Vl) → Sto → Rs (List (List Vl))
  | [], acc, st => .ok acc st
  | d :: ds, acc, st => match g (.d d) ρ with
    | none => .bad
    | some ρ' => match t ρ' st with
      | .ok true st1 => (match f ρ' st1 with
        | .ok x st2 => if acc.length < sizeLine then lcLoopM g t f ρ ds (acc ++ [x]) st2 else .bad
        | _ => .bad)
      | .ok false st1 => lcLoopM g t f ρ ds acc st1
      | _ => .bad
def nLcM (it : Itr) (g : Tg) (t : Tst) (f : ExN) (own : List Nat) : ExM := fun ρ st => (it ρ st).bind fun ds st1 => lcLoopM g t f (wipeE own ρ) ds [] st1
/-- a new list more -/
theorem more_rows {H₀ B H : Hp} {β : Ad} {D a : Addr} {as : List Addr} {rows : List (List Vl)} {ds : List Vl} (nd : (D :: as).Nodup) (hh : ∀ b ∈ D :: as, H₀ b = none ∧ b ∉ flat β ∧ B b = none) (rl : Paired (RowOk K B H) as rows)
    (ha : a ∉ D :: as) (ha0 : H₀ a = none) (haf : a ∉ flat β) (hr : RowOk K B H a ds) : RepW K H₀ B (upd H D (.lst (as.map V.ref ++ [.ref a]))) β (.ref D) (.m (rows ++ [ds])) := by
  have aD : a ≠ D := fun z => ha (z ▸ List.mem_cons_self)
  have keep : ∀ b ∈ as, ∀ o, H b = some o → upd H D (.lst (as.map V.ref ++ [.ref a])) b = some o := fun b m o h => by
    rw [upd_ne (show b ≠ D from fun z => (List.nodup_cons.mp nd).1 (z ▸ m))]; exact h
  refine ⟨D, as ++ [a], rfl, fun b m => ?_, ?_, by rw [List.map_append]; exact upd_same, ?_⟩
  · rcases List.mem_cons.mp m with z | z
    · exact hh b (z ▸ List.mem_cons_self)
    · rcases List.mem_append.mp z with z | z
      · exact hh b (List.mem_cons_of_mem _ z)
      · rw [List.mem_singleton.mp z]; exact ⟨ha0, haf, hr.1⟩
  · have n2 := List.nodup_cons.mp nd
    refine List.nodup_cons.mpr ⟨fun m => ?_, List.nodup_append.mpr ⟨n2.2, by simp, fun x hx y hy e => ?_⟩⟩
    · rcases List.mem_append.mp m with z | z
      · exact n2.1 z
      · exact aD (List.mem_singleton.mp z).symm
    · rw [List.mem_singleton.mp hy] at e
      exact ha (List.mem_cons_of_mem _ (e ▸ hx))
  · refine Paired.app (Paired.impM (fun b es m x => RowOk.mono (fun _ _ z => z) (fun o q => keep b m o q) x.1 x) rl) (.cons ?_ .nil)
    exact RowOk.mono (fun _ _ z => z) (fun o q => by rw [upd_ne aD]; exact q) hr.1 hr
theorem rd_lcM {wh : WX} {σ : L2.St} {H : Hp} {Q : VK} {it : Itr} {g : Tg} {t : Tst} {f : ExN} {own is : List Nat} (hs : ∀ i ∈ is, i ∈ own) (h : rd K wh (relM K) (nLcM it g t f own) σ H Q) :
    tLc (rdI K wh it) (rdG K is g) (rd K W0 relB t) (rd K W0 (relN K) f) own σ H Q := by
  obtain ⟨B, β, st, ρ, sr, er, ok⟩ := h
  refine ⟨B, β, st, ρ, sr, er, ?_⟩
  unfold nLcM at ok
  cases e : it ρ st with
  | bad => rw [e] at ok; exact ok
  | exc c x st1 => rw [e] at ok; exact fun cls dd B' H' β' go sr1 xr => ok cls dd B' H' β' go sr1 xr
  | ok ds st1 =>
    rw [e] at ok
    intro J B1 H1 β1 go1 sr1 itk D hD
    obtain ⟨G, Y, wk, hG, hY⟩ := itk.ex
    have ok1 : OkG K wh σ (relM K) H B H β (lcLoopM g t f (wipeE own ρ) ds [] st1) Q := ok
    refine lc_it wk (Qd := Q (.ref D)) (fun i H' => ∃ B' β' st' acc, Go B H β B' H' β' ∧ Sub B1 B' ∧ SR K B' H' β' st' ∧ RepW K H B' H' β' (.ref D) (.m acc) ∧
      OkG K wh σ (relM K) H B H β (lcLoopM g t f (wipeE own ρ) (ds.drop i) acc st') Q) ?_ (fun i H' _ ⟨B', β', st', acc, _, s, sr', _⟩ => hG B' H' s sr'.sub) ?_ ?_
    · refine ⟨B1, β1, st1, [], go1.trans (Go.laid hD), fun _ _ q => q, sr1.laid hD, ⟨D, [], rfl, fun b m => ?_, by simp, upd_same, .nil⟩, by rw [List.drop_zero]; exact ok1⟩
      rw [List.mem_singleton.mp m]
      exact ⟨none_back go1 hD, not_flat sr1 hD, not_fro sr1 hD⟩
    · intro i x H2 H3 hi ⟨B2, β2, st2, acc, go2, s2, sr2, rw2, ok2⟩ hy
      obtain ⟨B3, go3, sr3, r3⟩ := hY i ds[i] B2 H2 β2 st2 x H3 (List.getElem?_eq_getElem hi) s2 sr2 hy
      rw [List.drop_eq_getElem_cons hi] at ok2
      have er3 : ER K B3 β2 (L2.wipe σ own) (wipeE own ρ) := (er.go (go2.trans go3)).wipe own
      unfold lcLoopM at ok2
      cases eg : g (.d ds[i]) (wipeE own ρ) with
      | none => simp only [eg] at ok2; exact ok2.elim
      | some ρ3 =>
        simp only [eg] at ok2
        refine ⟨B3, β2, st2, wipeE own ρ, .d ds[i], ρ3, sr3, er3, r3, eg, fun σ' er' off => ⟨(wipe_off off hs).trans (wipe_wipe σ own), B3, β2, st2, ρ3, sr3, er', ?_⟩⟩
        cases et : t ρ3 st2 with
        | bad => simp only [et] at ok2; exact ok2
        | exc c z st4 => simp only [et] at ok2; exact ok2.elim
        | ok b st4 =>
          simp only [et] at ok2
          intro b' B4 H4 β4 go4 sr4 re4
          cases (show b' = b from re4)
          have go24 := go3.trans go4
          have rw4 : RepW K H B4 H4 β4 (.ref D) (.m acc) := RepW.go go24 rw2
          have s4 : Sub B1 B4 := fun a o q => go24.fz a o (s2 a o q)
          cases b with
          | false =>
            rw [if_neg (by decide)]
            exact ⟨B4, β4, st4, acc, go2.trans go24, s4, sr4, rw4, ok2⟩
          | true =>
            rw [if_pos rfl]
            refine ⟨B4, β4, st4, ρ3, sr4, er'.go go4, ?_⟩
            dsimp only at ok2
            cases ef : f ρ3 st4 with
            | bad => simp only [ef] at ok2; exact ok2
            | exc c z st5 => simp only [ef] at ok2; exact ok2.elim
            | ok w st5 =>
              simp only [ef] at ok2
              intro y B5 H5 β5 go5 sr5 re5
              have rw5 : RepW K H B5 H5 β5 (.ref D) (.m acc) := RepW.go go5 rw4
              have he4 : ∀ b, H4 b = none → H b = none := fun b q => none_back ((go2.trans go24)) q
              obtain ⟨D', as, eD, hh, nd, hx, rl⟩ := rw5
              cases eD
              obtain ⟨a, rfl, ha0, haf, hr⟩ := re5
              by_cases hl : acc.length < sizeLine
              · rw [if_pos hl] at ok2
                have ha : a ∉ D :: as := fun m => by
                  obtain ⟨D4, as4, eD4, hh4, nd4, hx4, rl4⟩ := rw4
                  cases eD4
                  have h5D : H5 D = some (.lst (as4.map V.ref)) := go5.keep D _ hx4 (hh4 D List.mem_cons_self).2.1
                  have e2 : as4.map V.ref = as.map V.ref := HO.lst.inj (Option.some.inj (h5D.symm.trans hx))
                  have e3 : as4 = as := List.map_inj_right (fun x y e => V.ref.inj e) |>.mp e2
                  subst e3
                  rcases List.mem_cons.mp m with z | z
                  · rw [z, hx4] at ha0; cases ha0
                  · obtain ⟨es, _, ys, hy, _⟩ := mem_rows rl4 a z
                    rw [hy] at ha0; cases ha0
                have again := more_rows nd hh rl ha (he4 a ha0) haf hr
                refine ⟨_, hx, by rw [List.length_map, Paired.length rl]; exact hl, B5, β5, st5, acc ++ [w], ((go2.trans go24).trans go5).wrote (hh D List.mem_cons_self).1, fun a o q => go5.fz a o (s4 a o q), sr5.other (hh D List.mem_cons_self).2.1 (hh D List.mem_cons_self).2.2, again, ok2⟩
              · rw [if_neg hl] at ok2
                exact ok2.elim
    · intro H2 ⟨B2, β2, st2, acc, go2, s2, sr2, rw2, ok2⟩
      rw [List.drop_length] at ok2
      exact ok2 (.ref D) B2 H2 β2 go2 sr2 rw2
section
variable {X : Cx} {wh : WX}
theorem m_lc {elt tg iter : Expr} {ifs : List Expr} {scope : Scope} {own : List (Str × Nat)} {pos : Pos} {it : Itr} {g : Tg} {t : Tst} {f : ExN} {is : List Nat} (hc : X.calm = true) (hN : X.N.Nodup) (hs : ∀ i ∈ is, i ∈ own.map (·.2)) (hi : PIt X wh tg iter it) (ok : BlkOk X.N X.env.scope scope own)
    (hg : ∀ (s : Shared) (H : Hp) (C : Addr) (cl : List (Str × Addr)) (fp : List Addr), PT1 (X.blk s H scope (compEnvC scope cl C X.env) fp) tg is g)
    (ht : ∀ (s : Shared) (H : Hp) (C : Addr) (cl : List (Str × Addr)) (fp : List Addr), PTs (X.blk s H scope (compEnvC scope cl C X.env) fp) ifs (rd X.K W0 relB t))
    (he : ∀ (s : Shared) (H : Hp) (C : Addr) (cl : List (Str × Addr)) (fp : List Addr), PN (X.blk s H scope (compEnvC scope cl C X.env) fp) W0 elt f) (hf : ∀ x, foldedSetIterable iter X.env x = pure x := by intro _; rfl) :
    PM X wh (.ListComp elt [⟨tg, iter, ifs, 0⟩] scope pos) (nLcM it g t f (own.map (·.2))) :=
  PE.imp (pe_lc hc hN hi ok hg ht he hf) fun _ _ _ h => rd_lcM hs h
def storedM (r : Rs (List (List Vl))) : Rs Sl := allocS (freshM r)
theorem s_lcM {i : Nat} {y : Str} {py : Pos} {elt tg iter : Expr} {ifs : List Expr} {scope : Scope} {own : List (Str × Nat)} {pos spos : Pos} {it : Itr} {g : Tg} {t : Tst} {f : ExN} {is : List Nat}
    (hc : X.calm = true) (hN : X.N.Nodup) (hy : X.N[i]? = some y) (hyl : X.env.scope.names.lookup y = some .local)
    (hsw : swapsWith (.ListComp elt [⟨tg, iter, ifs, 0⟩] scope pos) (some (.Name y py)) spos.line X.env = pure true) (hs : ∀ i ∈ is, i ∈ own.map (·.2)) (hi : PIt X wh tg iter it) (ok : BlkOk X.N X.env.scope scope own)
    (hg : ∀ (s : Shared) (H : Hp) (C : Addr) (cl : List (Str × Addr)) (fp : List Addr), PT1 (X.blk s H scope (compEnvC scope cl C X.env) fp) tg is g)
    (ht : ∀ (s : Shared) (H : Hp) (C : Addr) (cl : List (Str × Addr)) (fp : List Addr), PTs (X.blk s H scope (compEnvC scope cl C X.env) fp) ifs (rd X.K W0 relB t))
    (he : ∀ (s : Shared) (H : Hp) (C : Addr) (cl : List (Str × Addr)) (fp : List Addr), PN (X.blk s H scope (compEnvC scope cl C X.env) fp) W0 elt f) (hf : ∀ x, foldedSetIterable iter X.env x = pure x := by intro _; rfl) :
    PF X wh (.Assign [.Name y py] (.ListComp elt [⟨tg, iter, ifs, 0⟩] scope pos) spos) (sAsg (fun ρ st => storedM (nLcM it g t f (own.map (·.2)) ρ st)) (gN i)) :=
  PS.imp (ps_setLc hc hN hy hyl hsw hi ok hg ht he hf) fun D σ H h => rd_lcM hs (by
    have h2 := rd_imp (rd_asg h) fun x H1 q => gN_name q
    obtain ⟨B, β, st, ρ, sr, er, ok⟩ := h2
    exact ⟨B, β, st, ρ, sr, er, OkG.freshM (OkG.alloc ok)⟩)
/-! ## return rows[::-1] of a matrix of this call -/
def kRev (w : Sl) (st : Sto) : Ot := match w, matOf w st with
  | .r n, some _ => .rt (.w n 0) st
  | _, _ => .bad
def sRetRev (f : Ex) : Sm := fun ρ st => sOf (f ρ st) ρ kRev
theorem s_retRev {e : Expr} {f : Ex} {k : Nat} {p1 p2 p3 pos rpos : Pos} (he : PO X wh e f) : PF X wh (.Return (some (.Subscript e (.Slice none none (some (.UnaryOp .USub (.Constant (.int 1) k p1) p2)) p3) pos)) rpos) (sRetRev f) :=
  PS.imp (ps_ret (pe_revL he)) fun D σ H ⟨H₀, B, β, st, ρ, hb, sr, er, ok⟩ => ⟨B, β, st, ρ, sr, er, OkS.expr okO sr er ok fun w st1 v B1 H1 β1 go sr1 er1 re ok1 => by
    unfold kRev at ok1
    split at ok1
    · rename_i n rows e
      obtain ⟨m, p, em, hp, rfl, h1, h2⟩ := mat_of sr1 re e
      cases em
      refine ⟨p.1, _, rfl, .inl (.inl h1), fun q hq => ok1 (.ref q) B1 _ β1 (Go.laid hq) (sr1.laid hq) ⟨p, q, hp, rfl, hb q (none_back go hq), not_flat sr1 hq, not_fro sr1 hq, upd_same⟩⟩
    · exact ok1.elim⟩
/-! ## list * int, list + list, unfrozen; list(range(..)); join -/
def nBin (op : Sl → Sl → Sto → Rs (List Vl)) (a b : Ex) : ExN := fun ρ st => (a ρ st).bind fun x st1 => (b ρ st1).bind fun y st2 => op x y st2
variable {a b e : Expr} {fa fb fo : Ex} {pos : Pos}
def Snd2N (K : PySem.W.Frag) (r : R2) (op : Sl → Sl → Sto → Rs (List Vl)) : Prop := ∀ (wh : WX) (σ : L2.St) (B H : Hp) (β : Ad) (st : Sto) (x y : Sl) (v u : V) (Q : VK),
  SR K B H β st → RepS K B β v x → RepS K B β u y → OkG K wh σ (relN K) H B H β (op x y st) Q → r v u H Q
theorem n_bin {op : Operator} {r : R2} {o : Sl → Sl → Sto → Rs (List Vl)} (ho : OpR X (binaryOp op) r) (s : Snd2N X.K r o) (ha : PO X wh a fa) (hb : PO X wh b fb) : PN X wh (.BinOp a op b pos) (nBin o fa fb) :=
  PE.imp (pe_op ho ha hb) fun σ H Q h => rd_then (α' := List Vl) (Rel' := relN X.K) (k := fun x ρ st => (fb ρ st).bind fun y st2 => o x y st2) h fun x st ρ v B₀ B1 H1 β₀ β1 go sr er re ok => ⟨B1, β1, st, ρ, sr, er, OkG.late okO (fun _ q => none_back go q) <|
    (OkG.next ok fun y st2 u B2 H2 β2 _ go2 sr2 re2 ok2 => s wh σ B2 H2 β2 st2 x y v u Q sr2 (RepS.go go2 re) re2 (OkG.late okN (fun _ q => none_back (go.trans go2) q) ok2))⟩
theorem snd_repN : Snd2N K rRep repS := by
  intro wh σ B H β st x y v u Q sr rx ry ok
  unfold repS at ok
  split at ok
  · rename_i a k e1
    by_cases hl : (-(2 ^ 63) ≤ k ∧ k < 2 ^ 63) ∧ a.length * k.toNat ≤ sizeLine
    · rw [if_pos hl] at ok
      cases ry
      obtain ⟨l1, xs, rfl, h1, r1⟩ := plain_of sr rx e1
      exact ⟨l1, k, xs, rfl, rfl, h1, hl.1.1, hl.1.2, by rw [r1.length]; exact hl.2, new_list wh σ sr (r1.rep _) ok⟩
    · rw [if_neg hl] at ok
      exact ok.elim
  · exact ok.elim
theorem snd_catN : Snd2N K rCat catS := by
  intro wh σ B H β st x y v u Q sr rx ry ok
  unfold catS at ok
  cases e1 : plainOf x st with
  | none => simp only [e1] at ok; exact ok.elim
  | some a =>
    cases e2 : plainOf y st with
    | none => simp only [e1, e2] at ok; exact ok.elim
    | some b =>
      simp only [e1, e2] at ok
      by_cases hl : a.length + b.length ≤ sizeLine
      · rw [if_pos hl] at ok
        obtain ⟨l1, xs, rfl, h1, r1⟩ := plain_of sr rx e1
        obtain ⟨l2, ys, rfl, h2, r2⟩ := plain_of sr ry e2
        exact ⟨l1, l2, xs, ys, rfl, rfl, h1, h2, by rw [r1.length, r2.length]; exact hl, new_list wh σ sr (r1.append r2) ok⟩
      · rw [if_neg hl] at ok
        exact ok.elim
def kLR1 (w : Sl) (st : Sto) : Rs (List Vl) := match w with
  | .d (.int j) => if -(2 ^ 62) ≤ j ∧ j ≤ 2 ^ 24 then .ok (rgD 0 1 j.toNat) st else .bad
  | _ => .bad
def nLR1 (f : Ex) : ExN := fun ρ st => (f ρ st).bind kLR1
theorem rg_rep {B : Hp} (lo : Int) (n : Nat) : RepL K B ((List.range n).map fun i => V.int (lo + (i : Nat))) (rgD lo 1 n) := by
  unfold rgD
  generalize List.range n = l
  induction l with
  | nil => exact .nil
  | cons i l ih =>
    refine .cons ?_ ih
    show Rep K B (.int (lo + (i : Nat))) (.int (lo + (i : Nat) * 1))
    rw [Int.mul_one]
    exact .int _
theorem n_lr1 {p p2 pos2 : Pos} (hc : X.calm = true) (hg : Gl X "list") (hm : X.mg "list" = none) (hg2 : Gl X "range") (hm2 : X.mg "range" = none) (ha : PO X wh a fa) (na : starEach [a] X.env = (false, eval a X.env) :: starEach [] X.env := by rfl)
    (na2 : starEach [.Call (.Name "range" p2) [a] [] pos] X.env = (false, eval (.Call (.Name "range" p2) [a] [] pos) X.env) :: starEach [] X.env := by rfl) : PN X wh (.Call (.Name "list" p) [.Call (.Name "range" p2) [a] [] pos] [] pos2) (nLR1 fa) :=
  PE.imp (pe_listRg hc hg hm (prg_1 hg2 hm2 ha na) na2) fun σ H Q h => rd_then (α' := List Vl) (Rel' := relN X.K) (k := fun x _ st1 => kLR1 x st1) h fun x st ρ v B₀ B1 H1 β₀ β1 go sr er re ok => by
    unfold kLR1 at ok
    split at ok
    · rename_i j
      cases re
      by_cases hj : -(2 ^ 62) ≤ j ∧ j ≤ 2 ^ 24
      · rw [if_pos hj] at ok
        refine ⟨j, rfl, ⟨by decide, by decide, hj.1, by omega, by omega⟩, new_list wh σ sr ?_ (OkG.late okN (fun _ q => none_back go q) ok)⟩
        unfold rgV
        rw [Int.sub_zero]
        exact rg_rep 0 _
      · rw [if_neg hj] at ok
        exact ok.elim
    · exact ok.elim
def strsOf : List Vl → Option (List Str)
  | [] => some []
  | .str x :: ds => (strsOf ds).map (x :: ·)
  | _ => none
theorem strs_rep {B : Hp} : ∀ {xs : List V} {ds : List Vl} {ns : List Str}, RepL K B xs ds → strsOf ds = some ns → xs = ns.map V.str
  | _, _, _, .nil, e => by cases e; rfl
  | _, _, _, .cons (.str i) t, e => by
    unfold strsOf at e
    rename_i ds
    cases q : strsOf ds with
    | none => rw [q] at e; cases e
    | some ms =>
      rw [q] at e
      cases e
      rw [strs_rep t q]
      rfl
  | _, _, _, .cons .non t, e => by cases e
  | _, _, _, .cons (.int _) t, e => by cases e
  | _, _, _, .cons (.bl _) t, e => by cases e
  | _, _, _, .cons (.tup _ _) t, e => by cases e
  | _, _, _, .cons (.lst _ _) t, e => by cases e
  | _, _, _, .cons (.scr _ _) t, e => by cases e
  | _, _, _, .cons (.ktp _ _) t, e => by cases e
def kJoin (w x : Sl) (st : Sto) : Rs Sl := match w, seqOf x st with
  | .d (.str a), some ds => (match strsOf ds with
    | some ys => if (ys.map (·.length)).sum + ys.length * a.length ≤ 16777216 then .ok (.d (.str (Txt.join a ys))) st else .bad
    | none => .bad)
  | _, _ => .bad
def isZ : Sl → Bool
  | .d (.str _) => true
  | _ => false
def eJoin (fo fa : Ex) : Ex := fun ρ st => (fo ρ st).bind fun w st1 => if isZ w = true then (fa ρ st1).bind fun x st2 => kJoin w x st2 else .bad
theorem f_join {o : Expr} {apos : Pos} (ho : PO X wh o fo) (ha : PO X wh e fa)
    (hbase : attributeBase o "join" X.env (eval o X.env) = eval o X.env := by rfl)
    (hfew : ((backTo pos (starEach (e :: []) X.env)).all (fun x => !x.1) && (backToKw pos (keywordEach [] X.env)).all (fun x => x.1.isSome)
      && decide ((e :: []).length + ([] : List Keyword).length + (if ([] : List Keyword).isEmpty then 0 else 1) < 30)) = true := by rfl)
    (hline : (apos.endLine == pos.line) = true := by rfl) (hs : starEach (e :: []) X.env = (false, eval e X.env) :: starEach [] X.env := by rfl) (hplain : (backTo pos (starEach [] X.env)).any (·.1) = false := by rfl) :
    PO X wh (.Call (.Attribute o "join" apos) [e] [] pos) (eJoin fo fa) :=
  PE.imp (pe_bm PySem.F.plainAttrs_str PySem.F.slot_str_join PySem.F.type_str_join mt_join ho (pa_cons ha pa_nil hs) hbase hfew hline hs hplain) fun σ H Q q =>
    rd_then (α' := Sl) (Rel' := relO X.K) (k := fun w ρ st1 => if isZ w = true then (fa ρ st1).bind fun x st2 => kJoin w x st2 else .bad) q fun w st ρ v B₀ B1 H1 β₀ β1 go sr er re ok => by
      by_cases hw : isZ w = true
      · rw [if_pos hw] at ok
        obtain ⟨z, rfl⟩ : ∃ z, w = .d (.str z) := by
          unfold isZ at hw
          split at hw
          · exact ⟨_, rfl⟩
          · cases hw
        cases re
        refine ⟨rfl, B1, β1, st, ρ, sr, er, OkG.next (OkG.late okO (fun _ q => none_back go q) ok) fun x st2 u B2 H2 β2 _ go2 sr2 re2 ok2 => ?_⟩
        unfold kJoin at ok2
        cases e1 : seqOf x st2 with
        | none => simp only [e1] at ok2; exact ok2.elim
        | some ds =>
          simp only [e1] at ok2
          cases e2 : strsOf ds with
          | none => simp only [e2] at ok2; exact ok2.elim
          | some ys =>
            simp only [e2] at ok2
            by_cases hl : (ys.map (·.length)).sum + ys.length * z.length ≤ 16777216
            · rw [if_pos hl] at ok2
              obtain ⟨p, xs, rfl, hp, rl⟩ := seq_of sr2 re2 e1
              rw [strs_rep rl e2] at hp
              exact ⟨z, p, ys, rfl, rfl, hp, hl, OkG.pure ok2 sr2 (show RepS X.K B2 β2 _ (.d (.str _)) from .str _)⟩
            · rw [if_neg hl] at ok2
              exact ok2.elim
      · rw [if_neg hw] at ok
        exact ok.elim
/-! ## several names at once, by way of a tuple -/
theorem s_parT {i j : Nat} {x y : Str} {g : Ar} {px py pt : Pos} {kt k2 pt2} (hc : X.calm = true) (hN : X.N.Nodup) (hi : X.N[i]? = some x) (hj : X.N[j]? = some y)
    (hx : Loc X.env.scope x) (hy : Loc X.env.scope y) (hxf : X.fn x = true ∨ X.env.scope.names.lookup x = some .local) (hyf : X.fn y = true ∨ X.env.scope.names.lookup y = some .local) (ha : PR X wh [a, b] g)
    (hs : swapsWithSole [.Tuple [.Name x px, .Name y py] kt pt] (.Tuple [a, b] k2 pt2) pos.line X.env = pure false := by rfl) (hw : swappedStores [.Tuple [.Name x px, .Name y py] kt pt] (.Tuple [a, b] k2 pt2) X.env = pure none := by rfl)
    (h1 : (assignEach [.Tuple [.Name x px, .Name y py] kt pt] X.env).map (·.2) = [assign (.Tuple [.Name x px, .Name y py] kt pt) X.env] := by rfl)
    (ht1 : (assignEach [.Name x px, .Name y py] X.env).map (·.2) = assign (.Name x px) X.env :: (assignEach [.Name y py] X.env).map (·.2) := by rfl)
    (ht2 : (assignEach [.Name y py] X.env).map (·.2) = assign (.Name y py) X.env :: (assignEach [] X.env).map (·.2) := by rfl)
    (hn : (assignEach [.Name x px, .Name y py] X.env).length = 2 := by rfl) (hst : (assignEach [.Name x px, .Name y py] X.env).findIdx? (·.1) = none := by rfl) :
    PF X wh (.Assign [.Tuple [.Name x px, .Name y py] kt pt] (.Tuple [a, b] k2 pt2) pos) (sPar [i, j] g) :=
  PS.imp (ps_asg (pe_tup ha) (pg_tup hc (pgs_cons (pg_name hN hi hx hxf) (pgs_cons (pg_name hN hj hy hyf) pgs_nil ht2) ht1) hn hst) hs hw h1) fun D σ H ⟨H₀, B, β, st, ρ, hb, sr, er, ok⟩ => ⟨B, β, st, ρ, sr, er, OkS.expr okS sr er ok fun ws st1 vs B1 H1 β1 go sr1 er1 re ok1 => by
    obtain ⟨ρ', e, ok2⟩ := ok_par ok1
    obtain ⟨v, w, e2, er2⟩ := two_of er1 re e
    subst e2
    exact ⟨by rw [sizeLine_eq]; simp, fun p hp => ⟨p, _, rfl, sqT_at upd_same, rfl, v, _, rfl, w, _, rfl, rfl, ok2 _ B1 _ β1 (Go.laid hp) (sr1.laid hp) er2⟩⟩⟩
end
end F

namespace F
open PySem PySem.Spec PyProof.Rows L2
variable {K : PySem.W.Frag}
/-! ## dicts: tables of keys -/
section
variable {κ : Type} [DecidableEq κ]
def getA (kvs : List (κ × Vl)) (k : κ) : Option Vl := (kvs.find? fun kv => decide (kv.1 = k)).map (·.2)
def putA (kvs : List (κ × Vl)) (k : κ) (d : Vl) : List (κ × Vl) :=
  if (kvs.any fun kv => decide (kv.1 = k)) = true then kvs.map (fun kv => if kv.1 = k then (kv.1, d) else kv) else kvs ++ [(k, d)]
abbrev KvOk (K : PySem.W.Frag) (B : Hp) (x : κ × V) (y : κ × Vl) : Prop := x.1 = y.1 ∧ Rep K B x.2 y.2
theorem get_rep {B : Hp} {k : κ} {ks : List (κ × V)} {kvs : List (κ × Vl)} (h : Paired (KvOk K B) ks kvs) : (getA kvs k = none → valV ks k = none) ∧ ∀ d, getA kvs k = some d → ∃ v, valV ks k = some v ∧ Rep K B v d := by
  induction h with
  | nil => exact ⟨fun _ => rfl, fun d e => by simp [getA] at e⟩
  | @cons x y xs ys r t ih =>
    obtain ⟨x1, x2⟩ := x
    obtain ⟨y1, y2⟩ := y
    obtain ⟨e1, r2⟩ := r
    cases (show x1 = y1 from e1)
    by_cases hk : x1 = k
    · subst hk
      exact ⟨fun e => by simp [getA] at e, fun d e => ⟨x2, by simp [valV], by
        have : y2 = d := by simpa [getA] using e
        subst this
        exact r2⟩⟩
    · refine ⟨fun e => ?_, fun d e => ?_⟩
      · have e' : getA ys k = none := by simpa [getA, hk] using e
        have := ih.1 e'
        simpa [valV, hk] using this
      · have e' : getA ys k = some d := by simpa [getA, hk] using e
        obtain ⟨v, hv, rv⟩ := ih.2 d e'
        exact ⟨v, by simpa [valV, hk] using hv, rv⟩
theorem any_rep {B : Hp} {k : κ} {ks : List (κ × V)} {kvs : List (κ × Vl)} (h : Paired (KvOk K B) ks kvs) : (ks.any fun kv => decide (kv.1 = k)) = kvs.any fun kv => decide (kv.1 = k) := by
  induction h with
  | nil => rfl
  | cons r t ih => rw [List.any_cons, List.any_cons, ih, r.1]
theorem put_rep {B : Hp} {k : κ} {v : V} {d : Vl} {ks : List (κ × V)} {kvs : List (κ × Vl)} (rv : Rep K B v d) (h : Paired (KvOk K B) ks kvs) : Paired (KvOk K B) (putK ks k v) (putA kvs k d) := by
  unfold putK putA
  rw [any_rep h]
  by_cases q : (kvs.any fun kv => decide (kv.1 = k)) = true
  · rw [if_pos q, if_pos q]
    clear q
    induction h with
    | nil => exact .nil
    | @cons x y xs ys r t ih =>
      rw [List.map_cons, List.map_cons]
      refine .cons ?_ ih
      by_cases hk : y.1 = k
      · rw [if_pos hk, if_pos (by rw [r.1]; exact hk)]; exact ⟨r.1, rv⟩
      · rw [if_neg hk, if_neg (by rw [r.1]; exact hk)]; exact r
  · rw [if_neg q, if_neg q]
    exact Paired.app h (.cons ⟨rfl, rv⟩ .nil)
end
def keyOf : Vl → Option Key
  | .int i => some (.inl i)
  | .str x => some (.inr x)
  | _ => none
def keysOf : List Vl → Option (List Key)
  | [] => some []
  | d :: ds => match keyOf d, keysOf ds with
    | some k, some ks => some (k :: ks)
    | _, _ => none
def tkeyOf : Vl → Option (List Key)
  | .tup ds => keysOf ds
  | _ => none
theorem key_rep {B : Hp} {v : V} {d : Vl} {k : Key} (r : Rep K B v d) (e : keyOf d = some k) : v = kV k := by
  cases r <;> first | cases e <;> rfl | cases e
theorem keys_rep {B : Hp} : ∀ {vs : List V} {ds : List Vl} {ks : List Key}, RepL K B vs ds → keysOf ds = some ks → vs = ks.map kV
  | _, _, _, .nil, e => by cases e; rfl
  | _, _, _, .cons (d := d) (ds := ds) r t, e => by
    unfold keysOf at e
    cases e1 : keyOf d with
    | none => simp only [e1] at e; cases e
    | some k =>
      cases e2 : keysOf ds with
      | none => simp only [e1, e2] at e; cases e
      | some ks =>
        simp only [e1, e2] at e
        cases e
        rw [key_rep r e1, keys_rep t e2]
        rfl
theorem tkey_rep {B : Hp} {v : V} {d : Vl} {ks : List Key} (r : Rep K B v d) (e : tkeyOf d = some ks) : ∃ b, v = .ref b ∧ B b = some (.tup (ks.map kV)) := by
  cases r with
  | tup h rl =>
    have e' : keysOf _ = some ks := e
    rw [keys_rep rl e'] at h
    exact ⟨_, rfl, h⟩
  | _ => cases e
/-! ### d[k], k in d, d[k] = v -/
def kGet (w x : Sl) (st : Sto) : Rs Sl := match x with
  | .d k => (match dctOf w st with
    | some kvs => (match keyOf k with
      | some k => (match getA kvs k with
        | some d => .ok (.d d) st
        | none => .bad)
      | none => .bad)
    | none => (match dtpOf w st with
      | some kvs => (match tkeyOf k with
        | some k => (match getA kvs k with
          | some d => .ok (.d d) st
          | none => .bad)
        | none => .bad)
      | none => .bad))
  | _ => .bad
def kHas (neg : Bool) (x w : Sl) (st : Sto) : Rs Sl := match x with
  | .d k => (match dctOf w st with
    | some kvs => (match keyOf k with
      | some k => .ok (.d (.bl (xor neg (getA kvs k).isSome))) st
      | none => .bad)
    | none => (match dtpOf w st with
      | some kvs => (match tkeyOf k with
        | some k => .ok (.d (.bl (xor neg (getA kvs k).isSome))) st
        | none => .bad)
      | none => .bad))
  | _ => .bad
def kPutD (x w i : Sl) (st : Sto) : Rs Unit := (toD x st).bind fun d st1 => match w, i with
  | .r n, .d k => (match st1[n]? with
    | some (.dct kvs) => (match keyOf k with
      | some k => if kvs.length < sizeLine then .ok () (st1.set n (.dct (putA kvs k d))) else .bad
      | none => .bad)
    | some (.dtp kvs) => (match tkeyOf k with
      | some k => if kvs.length < sizeLine then .ok () (st1.set n (.dtp (putA kvs k d))) else .bad
      | none => .bad)
    | _ => .bad)
  | _, _ => .bad
section
variable {B H : Hp} {β : Ad} {st : Sto}
theorem get_ok {w x : Sl} {v u : V} {d : Sl} {st' : Sto} (sr : SR K B H β st) (rw' : RepS K B β v w) (rx : RepS K B β u x) (e : kGet w x st = .ok d st') : st' = st ∧ ∃ a z x, v = .ref a ∧ DGet H a u (some z) ∧ d = .d x ∧ Rep K B z x := by
  unfold kGet at e
  cases x with
  | d k =>
    dsimp only at e
    cases e1 : dctOf w st with
    | some kvs =>
      simp only [e1] at e
      cases e2 : keyOf k with
      | none => simp only [e2] at e; cases e
      | some k' =>
        simp only [e2] at e
        cases e3 : getA kvs k' with
        | none => simp only [e3] at e; cases e
        | some d' =>
          simp only [e3] at e
          cases e
          obtain ⟨n, p, rfl, _, hp, rfl, _, ks, h1, h2⟩ := dct_of sr rw' e1
          obtain ⟨z, hz, rz⟩ := (get_rep h2).2 d' e3
          have := DGet.k (k := k') h1
          rw [hz, ← key_rep rx e2] at this
          exact ⟨rfl, p.1, z, _, rfl, this, rfl, rz⟩
    | none =>
      simp only [e1] at e
      cases e1 : dtpOf w st with
      | none => simp only [e1] at e; cases e
      | some kvs =>
        simp only [e1] at e
        cases e2 : tkeyOf k with
        | none => simp only [e2] at e; cases e
        | some k' =>
          simp only [e2] at e
          cases e3 : getA kvs k' with
          | none => simp only [e3] at e; cases e
          | some d' =>
            simp only [e3] at e
            cases e
            obtain ⟨n, p, rfl, _, hp, rfl, _, ks, h1, h2⟩ := dtp_of sr rw' e1
            obtain ⟨z, hz, rz⟩ := (get_rep h2).2 d' e3
            obtain ⟨b, rfl, hb⟩ := tkey_rep rx e2
            have := DGet.t (k := k') h1 (sr.sub _ _ hb)
            rw [hz] at this
            exact ⟨rfl, p.1, z, _, rfl, this, rfl, rz⟩
  | _ => cases e
theorem kGet_nx (w x : Sl) (st : Sto) (c : Str) (y : Vl) (st' : Sto) : kGet w x st ≠ .exc c y st' := by
  intro e
  unfold kGet at e
  repeat' (first | cases e | split at e)
theorem kHas_nx (neg : Bool) (w x : Sl) (st : Sto) (c : Str) (y : Vl) (st' : Sto) : kHas neg w x st ≠ .exc c y st' := by
  intro e
  unfold kHas at e
  repeat' (first | cases e | split at e)
theorem isSome_rep {κ : Type} [DecidableEq κ] {ks : List (κ × V)} {kvs : List (κ × Vl)} {k : κ} (h : Paired (KvOk K B) ks kvs) : (getA kvs k).isSome = (valV ks k).isSome := by
  cases e : getA kvs k with
  | none => rw [(get_rep h).1 e]; rfl
  | some d =>
    obtain ⟨v, hv, _⟩ := (get_rep h).2 d e
    rw [hv]; rfl
theorem has_ok {neg : Bool} {w x : Sl} {v u : V} {d : Sl} {st' : Sto} (sr : SR K B H β st) (rw' : RepS K B β v w) (rx : RepS K B β u x) (e : kHas neg x w st = .ok d st') : st' = st ∧ ∃ a o, v = .ref a ∧ DGet H a u o ∧ d = .d (.bl (xor neg o.isSome)) := by
  unfold kHas at e
  cases x with
  | d k =>
    dsimp only at e
    cases e1 : dctOf w st with
    | some kvs =>
      simp only [e1] at e
      cases e2 : keyOf k with
      | none => simp only [e2] at e; cases e
      | some k' =>
        simp only [e2] at e
        cases e
        obtain ⟨n, p, rfl, _, hp, rfl, _, ks, h1, h2⟩ := dct_of sr rw' e1
        have := DGet.k (k := k') h1
        rw [← key_rep rx e2] at this
        exact ⟨rfl, p.1, _, rfl, this, by rw [isSome_rep h2]⟩
    | none =>
      simp only [e1] at e
      cases e1 : dtpOf w st with
      | none => simp only [e1] at e; cases e
      | some kvs =>
        simp only [e1] at e
        cases e2 : tkeyOf k with
        | none => simp only [e2] at e; cases e
        | some k' =>
          simp only [e2] at e
          cases e
          obtain ⟨n, p, rfl, _, hp, rfl, _, ks, h1, h2⟩ := dtp_of sr rw' e1
          obtain ⟨b, rfl, hb⟩ := tkey_rep rx e2
          exact ⟨rfl, p.1, _, rfl, DGet.t (k := k') h1 (sr.sub _ _ hb), by rw [isSome_rep h2]⟩
  | _ => cases e
/-- one thing of the store written, which has no rows -/
theorem SR.write (sr : SR K B H β st) {n : Nat} {p : Addr × List Addr} {c : Ce} {o : HO} (hp : β[n]? = some p) (hB : B p.1 = none) (hc : CellOk K B (upd H p.1 o) p c) : SR K B (upd H p.1 o) β (st.set n c) := by
  refine sr.setCell hp (fun _ _ h => h) (fun a o h => ?_) (fun _ _ h => h) (fun a m o h => ?_) (fun a m => ?_) hc
  · rw [upd_ne (fun z => by rw [z, hB] at h; cases h)]; exact sr.sub a o h
  · rw [upd_ne (show a ≠ p.1 from fun z => m (z ▸ List.mem_cons_self))]; exact h
  · by_cases z : a = p.1
    · exact ⟨_, by rw [z]; exact upd_same⟩
    · obtain ⟨o, h⟩ := sr.trk a (mem_flat hp m)
      exact ⟨o, by rw [upd_ne z]; exact h⟩
theorem putd_ok {x w i : Sl} {z v u : V} {st' : Sto} {y : Unit} (sr : SR K B H β st) (rx : RepS K B β z x) (rw' : RepS K B β v w) (ri : RepS K B β u i) (e : kPutD x w i st = .ok y st') :
    ∃ B' H' a, v = .ref a ∧ DPut H a u z H' ∧ Go B H β B' H' β ∧ SR K B' H' β st' := by
  unfold kPutD at e
  cases ed : toD x st with
  | bad => rw [ed] at e; cases e
  | exc c z st1 => exact (toD_nox ed).elim
  | ok d st1 =>
    obtain ⟨B1, go1, sr1, r1⟩ := toD_ok sr rx ed
    simp only [ed, Rs.bind] at e
    split at e
    · rename_i n k
      have ri1 : RepS K B1 β u (.d k) := RepS.go go1 ri
      split at e
      · rename_i kvs hk
        split at e
        · rename_i k' e2
          split at e
          · rename_i hl
            cases e
            obtain ⟨p, hp, rfl, hB, ks, h1, h2⟩ := cell_of sr1 (RepS.go go1 rw') hk
            have hu := key_rep ri1 e2
            subst hu
            exact ⟨B1, _, p.1, rfl, DPut.k h1 (by rw [Paired.length h2]; exact hl), go1.trans (wrote_at (mem_flat1 hp)), sr1.write hp hB ⟨hB, _, upd_same, put_rep r1 h2⟩⟩
          · cases e
        · cases e
      · rename_i kvs hk
        split at e
        · rename_i k' e2
          split at e
          · rename_i hl
            cases e
            obtain ⟨p, hp, rfl, hB, ks, h1, h2⟩ := cell_of sr1 (RepS.go go1 rw') hk
            obtain ⟨b, rfl, hb⟩ := tkey_rep ri1 e2
            exact ⟨B1, _, p.1, rfl, DPut.t h1 (sr1.sub _ _ hb) (by rw [Paired.length h2]; exact hl), go1.trans (wrote_at (mem_flat1 hp)), sr1.write hp hB ⟨hB, _, upd_same, put_rep r1 h2⟩⟩
          · cases e
        · cases e
      · cases e
    · cases e
theorem putd_nx {x w i : Sl} {c : Str} {y : Vl} {st' : Sto} : kPutD x w i st ≠ .exc c y st' := by
  intro e
  unfold kPutD at e
  cases ed : toD x st with
  | bad => rw [ed] at e; cases e
  | exc c z st1 => exact (toD_nox ed).elim
  | ok d st1 =>
    simp only [ed, Rs.bind] at e
    repeat' (first | cases e | split at e)
end
section
variable {X : Cx} {wh : WX} {o i e : Expr} {fo fi fe : Ex} {pos pos' : Pos}
theorem f_dget (hu : X.A.units + 1 < cLine) (ho : PO X wh o fo) (hi : PO X wh i fi) (hs : NoSl i) : PO X wh (.Subscript o i pos) (eBin kGet fo fi) :=
  PE.imp (pe_dget hu ho hi hs) fun σ H Q h => rd_then (k := fun x ρ st => (fi ρ st).bind fun y st2 => kGet x y st2) h fun x st ρ v B₀ B1 H1 β₀ β1 go sr er re ok => ⟨B1, β1, st, ρ, sr, er, OkG.late okO (fun _ q => none_back go q) <|
    (OkG.next ok fun y st2 u B2 H2 β2 _ go2 sr2 re2 ok2 => by
      cases q : kGet x y st2 with
      | bad => rw [q] at ok2; exact ok2.elim
      | exc c z st3 => exact absurd q (kGet_nx _ _ _ _ _ _)
      | ok d st3 =>
        rw [q] at ok2
        obtain ⟨rfl, a, z, y', rfl, g, rfl, rz⟩ := get_ok sr2 (RepS.go go2 re) re2 q
        exact ⟨a, z, rfl, g, OkG.pure ok2 sr2 (show RepS X.K B2 β2 z (.d y') from rz)⟩)⟩
theorem PCi.imp {op : CmpOp} {a b : Expr} {t t' : TE} (h : PC X op a b t) (k : ∀ σ H Q, t' σ H Q → t σ H Q) : PC X op a b t' := ⟨fun pins s σ H Q I q => h.run pins s σ H Q I (k σ H Q q)⟩
theorem c_in (hu : X.A.units + 1 < cLine) (hi : PO X wh i fi) (ho : PO X wh o fo) : PC X .In i o (rd X.K wh (relO X.K) (eBin (kHas false) fi fo)) :=
  PCi.imp (pc_din hu hi ho) fun σ H Q h => rd_then (k := fun x ρ st => (fo ρ st).bind fun y st2 => kHas false x y st2) h fun x st ρ v B₀ B1 H1 β₀ β1 go sr er re ok => ⟨B1, β1, st, ρ, sr, er, OkG.late okO (fun _ q => none_back go q) <|
    (OkG.next ok fun y st2 u B2 H2 β2 _ go2 sr2 re2 ok2 => by
      cases q : kHas false x y st2 with
      | bad => rw [q] at ok2; exact ok2.elim
      | exc c z st3 => exact absurd q (kHas_nx _ _ _ _ _ _ _)
      | ok d st3 =>
        rw [q] at ok2
        obtain ⟨rfl, a, z, rfl, g, rfl⟩ := has_ok sr2 re2 (RepS.go go2 re) q
        exact ⟨a, z, rfl, g, by have := OkG.pure ok2 sr2 (show RepS X.K B2 β2 (.bl z.isSome) (.d (.bl (xor false z.isSome))) from by rw [Bool.false_xor]; exact .bl _); exact this⟩)⟩
theorem c_notin (hu : X.A.units + 1 < cLine) (hi : PO X wh i fi) (ho : PO X wh o fo) : PC X .NotIn i o (rd X.K wh (relO X.K) (eBin (kHas true) fi fo)) :=
  PCi.imp (pc_dnotin hu hi ho) fun σ H Q h => rd_then (k := fun x ρ st => (fo ρ st).bind fun y st2 => kHas true x y st2) h fun x st ρ v B₀ B1 H1 β₀ β1 go sr er re ok => ⟨B1, β1, st, ρ, sr, er, OkG.late okO (fun _ q => none_back go q) <|
    (OkG.next ok fun y st2 u B2 H2 β2 _ go2 sr2 re2 ok2 => by
      cases q : kHas true x y st2 with
      | bad => rw [q] at ok2; exact ok2.elim
      | exc c z st3 => exact absurd q (kHas_nx _ _ _ _ _ _ _)
      | ok d st3 =>
        rw [q] at ok2
        obtain ⟨rfl, a, z, rfl, g, rfl⟩ := has_ok sr2 re2 (RepS.go go2 re) q
        exact ⟨a, z, rfl, g, by have := OkG.pure ok2 sr2 (show RepS X.K B2 β2 (.bl (!z.isSome)) (.d (.bl (xor true z.isSome))) from by rw [Bool.true_xor]; exact .bl _); exact this⟩)⟩
def sPutD (fe fo fi : Ex) : Sm := fun ρ st => sOf (fe ρ st) ρ fun x st1 => sOf (fo ρ st1) ρ fun w st2 => sOf (fi ρ st2) ρ fun i st3 => sOf (kPutD x w i st3) ρ fun _ st4 => .nx ρ st4
theorem s_putD (hu : X.A.units + 1 < cLine) (he : PO X wh e fe) (ho : PO X wh o fo) (hi : PO X wh i fi) (hs : swapsWith e (some (.Subscript o i pos')) pos.line X.env = pure false := by rfl) : PF X wh (.Assign [.Subscript o i pos'] e pos) (sPutD fe fo fi) :=
  PS.imp (ps_dput hu ho hi he hs) fun D σ H ⟨H₀, B, β, st, ρ, hb, sr, er, ok⟩ =>
    ⟨B, β, st, ρ, sr, er, OkS.expr okO sr er ok fun x st1 v B1 H1 β1 go1 sr1 er1 rx ok1 =>
      ⟨B1, β1, st1, ρ, sr1, er1, OkS.expr okO sr1 er1 ok1 fun w st2 u B2 H2 β2 go2 sr2 er2 rw' ok2 =>
        ⟨B2, β2, st2, ρ, sr2, er2, OkS.expr okO sr2 er2 ok2 fun iv st3 z B3 H3 β3 go3 sr3 er3 ri ok3 => by
          cases q : kPutD x w iv st3 with
          | bad => rw [q] at ok3; exact ok3.elim
          | exc c z st4 => exact absurd q putd_nx
          | ok y st4 =>
            rw [q] at ok3
            obtain ⟨B', H', a, rfl, g, go', sr'⟩ := putd_ok sr3 (RepS.go (go2.trans go3) rx) (RepS.go go3 rw') ri q
            exact ⟨a, H', rfl, g, ok3 σ B' H' β3 go' sr' (er3.go go')⟩⟩⟩⟩
/-! ### {} -/
def eNewD : Ex := fun _ st => .ok (.r st.length) (st ++ [.dct []])
def eNewT : Ex := fun _ st => .ok (.r st.length) (st ++ [.dtp []])
theorem new_cell {B H : Hp} {β : Ad} {st : Sto} {a : Addr} {o : HO} {c : Ce} (sr : SR K B H β st) (ha : H a = none) (hc : B a = none → CellOk K B (upd H a o) (a, []) c) : SR K B (upd H a o) (β ++ [(a, [])]) (st ++ [c]) ∧ Go B H β B (upd H a o) (β ++ [(a, [])]) := by
  have e : ∀ b ∈ own (a, ([] : List Addr)), b = a := fun b m => List.mem_singleton.mp m
  exact ⟨(sr.laid ha).alloc (by show [a].Nodup; simp) (fun b m => by rw [e b m]; exact not_flat sr ha) (fun b m => by rw [e b m]; exact ⟨_, upd_same⟩) (hc (not_fro sr ha)), (Go.laid ha).alloc fun b m => by rw [e b m]; exact ha⟩
theorem f_newD : PO X wh (.Dict [] [] pos) eNewD := PE.imp pe_dnewK fun σ H Q ⟨B, β, st, ρ, sr, er, ok⟩ p hp => by
  obtain ⟨sr2, go2⟩ := new_cell (o := .dK []) (c := .dct []) sr hp fun hB => ⟨hB, [], upd_same, .nil⟩
  exact ok _ _ _ _ go2 sr2 ⟨(p, []), at_snoc sr.len, rfl⟩
theorem f_newT : PO X wh (.Dict [] [] pos) eNewT := PE.imp pe_dnewT fun σ H Q ⟨B, β, st, ρ, sr, er, ok⟩ p hp => by
  obtain ⟨sr2, go2⟩ := new_cell (o := .dT []) (c := .dtp []) sr hp fun hB => ⟨hB, [], upd_same, .nil⟩
  exact ok _ _ _ _ go2 sr2 ⟨(p, []), at_snoc sr.len, rfl⟩
end
end F

namespace F
open PySem PySem.Spec PyProof.Rows L2
/-! ## {k: v for ..}, keys of any kind -/
/-- a key and its value into a dict of the block -/
theorem dset_any {Y : Cx} {pins : List (Addr × Obj)} {τ : L2.St} {G G' : Hp} {s : Shared} {E : Value → Shared → Prop} {D : Addr} {y z : V} {u r : Value} {R : Unit → Shared → Prop} (hu : Y.A.units + 1 < cLine) (J : Inv Y pins τ G s) (g : DPut G D y z G') (ry : RelV y u) (rz : RelV z r)
    (done : ∀ s', Inv Y pins τ G' s' → R () s') : wpAny (model Y.prog Y.w) Y.A (dictSet D u r) R E s := by
  rcases g with ⟨kvs, k, hD, rfl, hl, rfl⟩ | ⟨kvs, k, b, hD, rfl, hb, hl, rfl⟩
  · exact d_dictSet J hD hl ry rz done
  · cases (show u = Value.ref b from ry)
    obtain ⟨hz, sm, tbl, rel, at_⟩ := dt_of J.hok hD
    have small : tbl.length ≤ sizeLine := (Paired.length rel) ▸ hz
    have small' : (putK kvs k z).length ≤ sizeLine := Nat.le_trans (length_putK kvs k z) hl
    refine wpAny_dictSet_heap (hsz := small) (show Y.A.units < cLine by omega) (key_of J.hok hb) at_ fun h' at' same => done _ ?_
    obtain ⟨ob, es, ep, w1, w2, w3, w4, _, w6⟩ := at'
    refine d_write J (by rw [hD]; exact True.intro) same ⟨ob, w1⟩ ⟨small', sm, _, (rel.put k hb rz).keeps fun c ys ec => ?_, ob, es, ep, w1, w2, w3, w4, w6⟩
    rw [upd_ne (ne_of ec hD (fun q => nomatch q))]
    exact ec
def tDcA (o₀ : HO) (wi : TI) (g : TG) (tt : TT) (tk tv : TE) (vs : List Nat) : TE := fun σ H Q => wi σ H fun J H1 => ∀ D, H1 D = none → ∃ W : Nat → Nat → Hp → Prop, (∃ m, W 0 m (upd H1 D o₀)) ∧ ∀ i m H, W i m H →
  (J.stop i H ∧ Q (.ref D) H) ∨ (J.go i H ∧ ∃ Z : Hp → Prop, (∀ H', Z H' → ∃ m', m' < m ∧ W (i + 1) m' H') ∧ ∀ x H', J.yld i H x H' → g x (wipe σ vs) H' fun σ2 H2 => wipe σ2 vs = wipe σ vs ∧ tt σ2 H2 fun b H3 =>
    if b = true then tk σ2 H3 fun y H4 => tv σ2 H4 fun z H5 => ∃ H6, DPut H5 D y z H6 ∧ Z H6 else Z H3)
section
variable {X : Cx}
theorem pe_dcA {o₀ : HO} (empty : ∀ {P : Program} {w : World} {H : Hp} (h : Heap), sysModules < h.objs.size → ObjOk P w H (h.push { cls := .type "dict", data := .dict #[] }) h.objs.size o₀)
    {kx vx tg iter : Expr} {ifs : List Expr} {scope : Scope} {own : List (Str × Nat)} {pos : Pos} {wi : TI} {g : TG} {tt : TT} {tk tv : TE} (hu : X.A.units + 1 < cLine) (hc : X.calm = true) (hN : X.N.Nodup) (hi : PI X tg iter wi) (blk : BlkOk X.N X.env.scope scope own)
    (hg : ∀ (s : Shared) (H : Hp) (C : Addr) (cl : List (Str × Addr)) (fp : List Addr), PG (X.blk s H scope (compEnvC scope cl C X.env) fp) tg g) (ht : ∀ (s : Shared) (H : Hp) (C : Addr) (cl : List (Str × Addr)) (fp : List Addr), PTs (X.blk s H scope (compEnvC scope cl C X.env) fp) ifs tt)
    (hk : ∀ (s : Shared) (H : Hp) (C : Addr) (cl : List (Str × Addr)) (fp : List Addr), PE (X.blk s H scope (compEnvC scope cl C X.env) fp) kx tk)
    (hv : ∀ (s : Shared) (H : Hp) (C : Addr) (cl : List (Str × Addr)) (fp : List Addr), PE (X.blk s H scope (compEnvC scope cl C X.env) fp) vx tv) (fold : ∀ x, foldedSetIterable iter X.env x = pure x := by intro _; rfl) :
    PE X (.DictComp kx vx [⟨tg, iter, ifs, 0⟩] scope pos) (tDcA o₀ wi g tt tk tv (own.map (·.2))) := by
  refine ⟨fun pins s σ H Q I asked => ?_⟩
  rw [arm_eval_DictComp]
  have outer : ∀ y ∈ scope.names, y.2 = .free → ∃ c, X.env.cells.lookup y.1 = some c := fun y hy e =>
    I.ok.has _ (blk.free y hy e |>.elim .inl .inr)
  refine wpAny_comprehension_free (use := none) rfl fold (closure_ok outer) blk.kind (fun y hy e => by rw [blk.uniq y hy, e])
    (thn (hi.run pins s σ H _ I asked) fun xv sA hx => thn hx fun itv sB hB => ?_)
  obtain ⟨it, fp, tn, J, HB, rfl, IB, T, stB, fB, q⟩ := hB
  refine wpAny_newObj_type (newEnv_comp ?_)
  -- the dict lies at the heap's end
  obtain ⟨D, hD⟩ : ∃ D, D = sB.heap.objs.size := ⟨_, rfl⟩
  obtain ⟨W, ⟨m₀, w₀⟩, turn⟩ := q D (IB.hok.fresh (Nat.le_of_eq hD.symm))
  obtain ⟨sC, hC⟩ : ∃ sC : Shared, sC = { sB with heap := sB.heap.push { cls := .type "dict", data := .dict #[] } } := ⟨_, rfl⟩
  have heapC : sC.heap = sB.heap.push { cls := .type "dict", data := .dict #[] } := by rw [hC]
  have IC : Inv X pins σ (upd HB D o₀) sC := by
    rw [hC, hD]
    exact IB.laid (t' := sB.toks) (fun b o e => Heap.get?_push_of_some _ e) (Nat.le_refl _) (empty sB.heap IB.big)
  have before : ∀ b ∈ fp, b < sB.heap.objs.size := fun b hb => (T.obj _ _ stB b hb).elim fun _ z => Heap.lt_size z.1
  have fC : ∀ b ∈ fp, FpOk X pins (upd HB D o₀) b ∧ b < sC.heap.objs.size := fun b hb => by
    have lt := before b hb
    have ne : b ≠ D := hD ▸ Nat.ne_of_lt lt
    exact ⟨⟨(upd_ne ne).trans (fB b hb).1, (fB b hb).2⟩, by rw [heapC, Heap.size_push]; exact Nat.lt_succ_of_lt lt⟩
  have stC : tn 0 sC.heap := T.keep _ _ _ stB fun b _ o e => by rw [heapC]; exact Heap.get?_push_of_some _ e
  have ID := block_start IC blk hN fC
  obtain ⟨C, eC⟩ : ∃ C, C = sC.heap.objs.size := ⟨_, rfl⟩
  obtain ⟨cl, ecl⟩ : ∃ cl, cl = cellsFrom (C + 1) scope.names (cloFrom X.env.cells scope.names []) := ⟨_, rfl⟩
  have pg := hg sC (upd HB D o₀) C cl fp
  have pt := ht sC (upd HB D o₀) C cl fp
  have pk := hk sC (upd HB D o₀) C cl fp
  have pv := hv sC (upd HB D o₀) C cl fp
  rw [← eC, ← ecl] at ID
  obtain ⟨sD, hsD⟩ : ∃ sD : Shared, sD = { sC with heap := pushCells (sC.heap.push { cls := .type "dict", data := .dict #[] }) scope.names } := ⟨_, rfl⟩
  rw [← hsD] at ID
  have stD : tn 0 sD.heap := T.keep _ _ _ stC fun b _ o e => by rw [hsD]; exact pushCells_keeps _ _ _ _ (Heap.get?_push_of_some _ e)
  have away : ∀ b ∈ fp, (upd HB D o₀) b = none := fun b hb => (fC b hb).1.1
  obtain ⟨ce, ece⟩ : ∃ ce, ce = compEnvC scope cl C X.env := ⟨_, rfl⟩
  rw [← ece] at ID pg pt pk pv
  have locC : ce.locals = C := by rw [ece]; rfl
  obtain ⟨HC, eHC⟩ : ∃ HC, HC = upd HB D o₀ := ⟨_, rfl⟩
  rw [← eHC] at IC ID pg pt pk pv w₀ away fC
  have foot : ∀ {τ : L2.St} {G : Hp} {r : Shared}, Inv (X.blk sC HC scope ce fp) [] τ G r → (∀ b ∈ fp, G b = none) → ∀ b ∈ fp, FpOk (X.blk sC HC scope ce fp) [] G b := fun {τ G r} K hn b hb =>
    ⟨hn b hb, (K.ok.exf b hb).1, K.ok.exfs b hb, .inl hb, fun x c e => (K.ok.exf b hb).2 x c e, fun p hp => by
      have none' : p ∈ ([] : List (Addr × Obj)) ++ [] := hp
      simp at none'⟩
  have all : codeAny (model X.prog X.w) X.A (.compLoop (.DictComp kx vx [⟨tg, iter, ifs, 0⟩] scope pos) 0 (.ref it) (.ref D) ce) (compPost (model X.prog X.w) X.A X.xe none (EP X pins σ Q) (.ref D) C) sD := by
    refine compLoop_anyD (fun n r => ∃ i G, Inv (X.blk sC HC scope ce fp) [] (wipe σ (own.map (·.2))) G r ∧ tn i r.heap ∧ (∀ b ∈ fp, G b = none) ∧ W i n G) ?_ m₀ ⟨0, HC, ID, stD, away, w₀⟩
    rintro n r ⟨i, G, K, stG, nG, wG⟩
    rcases turn i n G wG with ⟨stop, ready⟩ | ⟨more, Z, less, step⟩
    · refine thnF (T.done (X.blk sC HC scope ce fp) rfl rfl rfl hc i [] r _ G (fun _ _ => False) K (foot K nG) stG stop) fun x r2 ⟨hx, K2⟩ => ?_
      subst hx
      have back : Inv X pins σ G r2 := IC.call' (ch := fp) K2.os K2.base K2.hok K2.bare fun b hb => ⟨(fC b hb).1.2.2.2.1, (fC b hb).1.2.1, (fC b hb).1.2.2.2.2.1, (fC b hb).1.2.2.2.2.2⟩
      have freeC : G C = none := by rw [← locC]; exact K2.free
      obtain ⟨m, ns, _⟩ := K2.loc
      have ns : r2.heap.Ns ce.locals m := ns
      rw [locC] at ns
      obtain ⟨f0, f1, f2, f3, f4, f5⟩ := IC.fpOk (Nat.le_of_eq eC.symm) freeC
      exact ⟨m, ns, fun h'' same => ⟨.ref D, G, back.turned (t' := r2.toks) (fun b o hb e => (same.2 b hb).trans e) f0 f1 f3 f4 f5, rfl, ready⟩⟩
    · refine thnF (T.item (X.blk sC HC scope ce fp) rfl rfl rfl hc i [] r _ G (fun _ _ => False) K (foot K nG) stG more) fun x r2 ⟨u, hx, next⟩ => ?_
      subst hx
      refine thnF next fun _ r3 ⟨x, G3, K3, rx, y3, st3, n3⟩ => ?_
      refine thnF (pg.run _ r3 _ G3 x u _ (K3.pinned (foot K3 n3) (T.obj _ _ st3)) rx (step x G3 y3)) fun _ r4 ⟨τ, G4, K4, same4, q4⟩ => ?_
      refine thnF (pt.run _ r4 τ G4 _ K4 q4) fun b r5 ⟨G5, K5, q5⟩ => ?_
      have close : ∀ {r' : Shared} {G' : Hp}, Inv (X.blk sC HC scope ce fp) ([] ++ pinsAt fp r3.heap) τ G' r' → Z G' → ∃ m, m < n ∧ ∃ i G, Inv (X.blk sC HC scope ce fp) [] (wipe σ (own.map (·.2))) G r' ∧ tn i r'.heap ∧ (∀ b ∈ fp, G b = none) ∧ W i m G := fun {r' G'} K' z => by
        obtain ⟨m', lt, w'⟩ := less G' z
        have stays : ∀ b ∈ fp, ∀ o, r3.heap.get? b = some o → r'.heap.get? b = some o ∧ G' b = none := fun b hb o e =>
          have pin := K'.pin (b, o) (List.mem_append_right _ (List.mem_append_right _ (mem_pinsAt hb e)))
          ⟨pin.1, pin.2.1⟩
        have len : (wipe σ (own.map (·.2))).length = τ.length := by rw [← same4, wipe_length]
        refine ⟨m', lt, i + 1, G', (K'.unpinned (pins := [])).weak len (fun j v e => (wipe_some (same4.symm ▸ e)).1), T.keep _ _ _ st3 fun b hb o e => (stays b hb o e).1, fun b hb => ?_, w'⟩
        exact (T.obj _ _ st3 b hb).elim fun o z => (stays b hb o z.1).2
      cases b with
      | false =>
        rw [if_neg (by decide)] at q5 ⊢
        exact close K5 q5
      | true =>
        rw [if_pos rfl] at q5 ⊢
        refine thnF (pk.run _ r5 τ G5 _ K5 q5) fun z r6 ⟨yk, G6, K6, rk, q6⟩ => ?_
        refine thnF (pv.run _ r6 τ G6 _ K6 q6) fun z2 r7 ⟨yv, G7, K7, rv, G8, put, nx⟩ => ?_
        exact dset_any (Y := X.blk sC HC scope ce fp) hu K7 put rk rv fun r8 K8 => close K8 nx
  have start := codeAny_compStart_dict all (T.self X.A 0 _ _ _ stD all)
  rw [hsD, ece, ecl, eC, hC, hD] at start
  exact start
end
end F

namespace F
open PySem PySem.Spec PyProof.Rows L2
variable {K : PySem.W.Frag}
structure KK (κ : Type) [DecidableEq κ] where
  ho : List (κ × V) → HO
  kf : Vl → Option κ
  ce : List (κ × Vl) → Ce
  put : ∀ {K : PySem.W.Frag} {B H : Hp} {a : Addr} {y v : V} {x : Vl} {k : κ} {ks : List (κ × V)}, H a = some (ho ks) → Sub B H → Rep K B y x → kf x = some k → ks.length < sizeLine → DPut H a y v (upd H a (ho (putK ks k v)))
  ok : ∀ {K : PySem.W.Frag} {B H : Hp} {a : Addr} {ks : List (κ × V)} {kvs : List (κ × Vl)}, B a = none → H a = some (ho ks) → Paired (KvOk K B) ks kvs → CellOk K B H (a, []) (ce kvs)
  empty : ∀ {P : Program} {w : World} {H : Hp} (h : Heap), sysModules < h.objs.size → ObjOk P w H (h.push { cls := .type "dict", data := .dict #[] }) h.objs.size (ho [])
def kkT : KK (List Key) where
  ho := .dT
  kf := tkeyOf
  ce := .dtp
  put := fun hH sb r e hl => by
    obtain ⟨b, rfl, hb⟩ := tkey_rep r e
    exact DPut.t hH (sb _ _ hb) hl
  ok := fun hB hH r => ⟨hB, _, hH, r⟩
  empty := dt_empty
def kkD : KK Key where
  ho := .dK
  kf := keyOf
  ce := .dct
  put := fun hH sb r e hl => by
    rw [key_rep r e]
    exact DPut.k hH hl
  ok := fun hB hH r => ⟨hB, _, hH, r⟩
  empty := dk_empty
section
variable {κ : Type} [DecidableEq κ] (kk : KK κ)
def dcLoop (g : Tg) (t : Tst) (fk fv : Ex) (ρ : En) : List Vl → List (κ × Vl) → Sto → Rs (List (κ × Vl))
  | [], acc, st => .ok acc st
  | d :: ds, acc, st => match g (.d d) ρ with
    | none => .bad
    | some ρ' => match t ρ' st with
      | .ok true st1 => (match fk ρ' st1 with
        | .ok (.d x) st2 => (match fv ρ' st2 with
          | .ok w st3 => (match toD w st3 with
            | .ok z st4 => (match kk.kf x with
              | some k => if acc.length < sizeLine then dcLoop g t fk fv ρ ds (putA acc k z) st4 else .bad
              | none => .bad)
            | _ => .bad)
          | _ => .bad)
        | _ => .bad)
      | .ok false st1 => dcLoop g t fk fv ρ ds acc st1
      | _ => .bad
def eDc (it : Itr) (g : Tg) (t : Tst) (fk fv : Ex) (own : List Nat) : Ex := fun ρ st => (it ρ st).bind fun ds st1 => (dcLoop kk g t fk fv (wipeE own ρ) ds [] st1).bind fun acc st2 => .ok (.r st2.length) (st2 ++ [kk.ce acc])
end
/-- over what is walked -/
theorem dc_it {J : It} {n : Nat} {G : Hp → Prop} {Y : Nat → Hp → V → Hp → Prop} (w : Walk J n G Y) {o₀ : HO} {g : TG} {tt : TT} {tk tv : TE} {vs : List Nat} {σ : L2.St} {H1 : Hp} {D : Addr} {Qd : Hp → Prop} (Pv : Nat → Hp → Prop) (h0 : Pv 0 (upd H1 D o₀)) (hG : ∀ i H, i ≤ n → Pv i H → G H)
    (hs : ∀ i x H H', i < n → Pv i H → Y i H x H' → g x (wipe σ vs) H' fun σ2 H2 => wipe σ2 vs = wipe σ vs ∧ tt σ2 H2 fun b H3 =>
      if b = true then tk σ2 H3 fun y H4 => tv σ2 H4 fun z H5 => ∃ H6, DPut H5 D y z H6 ∧ Pv (i + 1) H6 else Pv (i + 1) H3) (hd : ∀ H, Pv n H → Qd H) :
    ∃ W : Nat → Nat → Hp → Prop, (∃ m, W 0 m (upd H1 D o₀)) ∧ ∀ i m H, W i m H →
      (J.stop i H ∧ Qd H) ∨ (J.go i H ∧ ∃ Z : Hp → Prop, (∀ H', Z H' → ∃ m', m' < m ∧ W (i + 1) m' H') ∧ ∀ x H', J.yld i H x H' → g x (wipe σ vs) H' fun σ2 H2 => wipe σ2 vs = wipe σ vs ∧ tt σ2 H2 fun b H3 =>
        if b = true then tk σ2 H3 fun y H4 => tv σ2 H4 fun z H5 => ∃ H6, DPut H5 D y z H6 ∧ Z H6 else Z H3) := by
  refine ⟨fun i m H => m + i = n ∧ Pv i H, ⟨n, rfl, h0⟩, fun i m H ⟨e, p⟩ => ?_⟩
  have le : i ≤ n := by omega
  have q := hG i H le p
  rcases Nat.lt_or_ge i n with lt | ge
  · exact .inr ⟨w.goes i H lt q, Pv (i + 1), fun H' p' => ⟨m - 1, by omega, by omega, p'⟩, fun x H' y => hs i x H H' lt p (w.yields i H x H' lt q y)⟩
  · obtain rfl : i = n := Nat.le_antisymm le ge
    exact .inl ⟨w.stops H q, hd H p⟩
theorem none_of {B H B' H' : Hp} {β β' : Ad} {D : Addr} {o : HO} (go : Go B H β B' H' β') (n : D ∉ flat β) (b : B D = none) (h : H D = some o) : B' D = none := by
  cases q : B' D with
  | none => rfl
  | some o =>
    rcases go.nf D o q with z | z | z
    · rw [b] at z; cases z
    · exact absurd z n
    · rw [h] at z; cases z
section
variable {κ : Type} [DecidableEq κ] {kk : KK κ}
theorem rd_dc {wh : WX} {σ : L2.St} {H : Hp} {Q : VK} {it : Itr} {g : Tg} {t : Tst} {fk fv : Ex} {own is : List Nat} (hs : ∀ i ∈ is, i ∈ own) (h : rd K wh (relO K) (eDc kk it g t fk fv own) σ H Q) :
    tDcA (kk.ho []) (rdI K wh it) (rdG K is g) (rd K W0 relB t) (rd K W0 (relO K) fk) (rd K W0 (relO K) fv) own σ H Q := by
  obtain ⟨B, β, st, ρ, sr, er, ok⟩ := h
  refine ⟨B, β, st, ρ, sr, er, ?_⟩
  unfold eDc at ok
  cases e : it ρ st with
  | bad => rw [e] at ok; exact ok
  | exc c x st1 => rw [e] at ok; exact fun cls dd B' H' β' go sr1 xr => ok cls dd B' H' β' go sr1 xr
  | ok ds st1 =>
    rw [e] at ok
    intro J B1 H1 β1 go1 sr1 itk D hD
    obtain ⟨G, Y, wk, hG, hY⟩ := itk.ex
    have ok1 : OkG K wh σ (relO K) H B H β ((dcLoop kk g t fk fv (wipeE own ρ) ds [] st1).bind fun acc st2 => .ok (.r st2.length) (st2 ++ [kk.ce acc])) Q := ok
    refine dc_it wk (Qd := Q (.ref D)) (fun i H' => ∃ B' β' st' acc ks, Go B H β B' H' β' ∧ Sub B1 B' ∧ SR K B' H' β' st' ∧ D ∉ flat β' ∧ B' D = none ∧ H' D = some (kk.ho ks) ∧ Paired (KvOk K B') ks acc ∧
      OkG K wh σ (relO K) H B H β ((dcLoop kk g t fk fv (wipeE own ρ) (ds.drop i) acc st').bind fun acc st2 => .ok (.r st2.length) (st2 ++ [kk.ce acc])) Q) ?_ (fun i H' _ ⟨B', β', st', acc, ks, _, s, sr', _⟩ => hG B' H' s sr'.sub) ?_ ?_
    · exact ⟨B1, β1, st1, [], [], go1.trans (Go.laid hD), fun _ _ q => q, sr1.laid hD, not_flat sr1 hD, not_fro sr1 hD, upd_same, .nil, by rw [List.drop_zero]; exact ok1⟩
    · intro i x H2 H3 hi ⟨B2, β2, st2, acc, ks, go2, s2, sr2, nD, bD, hDl, rl, ok2⟩ hy
      obtain ⟨B3, go3, sr3, r3⟩ := hY i ds[i] B2 H2 β2 st2 x H3 (List.getElem?_eq_getElem hi) s2 sr2 hy
      rw [List.drop_eq_getElem_cons hi] at ok2
      have er3 : ER K B3 β2 (L2.wipe σ own) (wipeE own ρ) := (er.go (go2.trans go3)).wipe own
      -- what stays at D
      have stays : ∀ {B' H' B'' H'' : Hp} {β' β'' : Ad}, Go B' H' β' B'' H'' β'' → D ∉ flat β' → B' D = none → H' D = some (kk.ho ks) → D ∉ flat β'' ∧ B'' D = none ∧ H'' D = some (kk.ho ks) := fun go n b h =>
        ⟨notin_go go n h, none_of go n b h, go.keep D _ h n⟩
      have mono : ∀ {B' B'' : Hp}, Sub B' B'' → Paired (KvOk K B') ks acc → Paired (KvOk K B'') ks acc := fun s r => Paired.imp' (fun _ _ x => ⟨x.1, x.2.mono s⟩) r
      unfold dcLoop at ok2
      cases eg : g (.d ds[i]) (wipeE own ρ) with
      | none => simp only [eg] at ok2; exact ok2.elim
      | some ρ3 =>
        simp only [eg] at ok2
        refine ⟨B3, β2, st2, wipeE own ρ, .d ds[i], ρ3, sr3, er3, r3, eg, fun σ' er' off => ⟨(wipe_off off hs).trans (wipe_wipe σ own), B3, β2, st2, ρ3, sr3, er', ?_⟩⟩
        cases et : t ρ3 st2 with
        | bad => simp only [et] at ok2; exact ok2
        | exc c z st4 => simp only [et] at ok2; exact ok2.elim
        | ok b st4 =>
          simp only [et] at ok2
          intro b' B4 H4 β4 go4 sr4 re4
          cases (show b' = b from re4)
          have go24 := go3.trans go4
          obtain ⟨nD4, bD4, hD4⟩ := stays go24 nD bD hDl
          have s4 : Sub B1 B4 := fun a o q => go24.fz a o (s2 a o q)
          cases b with
          | false =>
            rw [if_neg (by decide)]
            exact ⟨B4, β4, st4, acc, ks, go2.trans go24, s4, sr4, nD4, bD4, hD4, mono go24.fz rl, ok2⟩
          | true =>
            rw [if_pos rfl]
            refine ⟨B4, β4, st4, ρ3, sr4, er'.go go4, ?_⟩
            dsimp only at ok2
            cases ef : fk ρ3 st4 with
            | bad => simp only [ef] at ok2; exact ok2
            | exc c z st5 => simp only [ef] at ok2; exact ok2.elim
            | ok w st5 =>
              simp only [ef] at ok2
              intro y B5 H5 β5 go5 sr5 re5
              obtain ⟨nD5, bD5, hD5⟩ := stays go5 nD4 bD4 hD4
              refine ⟨B5, β5, st5, ρ3, sr5, (er'.go go4).go go5, ?_⟩
              cases w with
              | d kx =>
                dsimp only at ok2
                cases ev : fv ρ3 st5 with
                | bad => simp only [ev] at ok2; exact ok2
                | exc c z st6 => simp only [ev] at ok2; exact ok2.elim
                | ok wv st6 =>
                  simp only [ev] at ok2
                  intro z B6 H6 β6 go6 sr6 re6
                  obtain ⟨nD6, bD6, hD6⟩ := stays go6 nD5 bD5 hD5
                  cases ed : toD wv st6 with
                  | bad => simp only [ed] at ok2; exact ok2.elim
                  | exc c z st7 => simp only [ed] at ok2; exact ok2.elim
                  | ok zv st7 =>
                    simp only [ed] at ok2
                    cases ek : kk.kf kx with
                    | none => simp only [ek] at ok2; exact ok2.elim
                    | some k =>
                      simp only [ek] at ok2
                      by_cases hl : acc.length < sizeLine
                      · rw [if_pos hl] at ok2
                        obtain ⟨B7, go7, sr7, r7⟩ := toD_ok sr6 re6 ed
                        obtain ⟨nD7, bD7, hD7⟩ := stays go7 nD6 bD6 hD6
                        have rl7 := mono go7.fz (mono go6.fz (mono go5.fz (mono go24.fz rl)))
                        have rk : Rep K B7 y kx := (Rep.mono go6.fz (show Rep K B5 y kx from re5)).mono go7.fz
                        refine ⟨_, kk.put hD6 sr7.sub rk ek (by rw [Paired.length rl]; exact hl), B7, β6, st7, _, _, (((((go2.trans go24).trans go5).trans go6).trans go7).wrote (none_back go1 hD)), fun a o q => go7.fz a o (go6.fz a o (go5.fz a o (s4 a o q))), sr7.other nD7 bD7, nD7, bD7, upd_same, put_rep r7 rl7, ok2⟩
                      · rw [if_neg hl] at ok2
                        exact ok2.elim
              | _ => exact ok2.elim
    · intro H2 ⟨B2, β2, st2, acc, ks, go2, s2, sr2, nD, bD, hDl, rl, ok2⟩
      rw [List.drop_length] at ok2
      have h0 : H D = none := none_back go1 hD
      exact ok2 (.ref D) B2 H2 (β2 ++ [(D, [])]) (go2.alloc fun b m => by rw [List.mem_singleton.mp m]; exact h0)
        (sr2.alloc (by show [D].Nodup; simp) (fun b m => by rw [List.mem_singleton.mp m]; exact nD) (fun b m => by rw [List.mem_singleton.mp m]; exact ⟨_, hDl⟩) (kk.ok bD hDl rl)) ⟨(D, []), at_snoc sr2.len, rfl⟩
variable {X : Cx} {wh : WX}
theorem f_dc (kk : KK κ) {kx vx tg iter : Expr} {ifs : List Expr} {scope : Scope} {own : List (Str × Nat)} {pos : Pos} {it : Itr} {g : Tg} {t : Tst} {fk fv : Ex} {is : List Nat} (hu : X.A.units + 1 < cLine) (hc : X.calm = true) (hN : X.N.Nodup) (hs : ∀ i ∈ is, i ∈ own.map (·.2)) (hi : PIt X wh tg iter it) (ok : BlkOk X.N X.env.scope scope own)
    (hg : ∀ (s : Shared) (H : Hp) (C : Addr) (cl : List (Str × Addr)) (fp : List Addr), PT1 (X.blk s H scope (compEnvC scope cl C X.env) fp) tg is g)
    (ht : ∀ (s : Shared) (H : Hp) (C : Addr) (cl : List (Str × Addr)) (fp : List Addr), PTs (X.blk s H scope (compEnvC scope cl C X.env) fp) ifs (rd X.K W0 relB t))
    (hk : ∀ (s : Shared) (H : Hp) (C : Addr) (cl : List (Str × Addr)) (fp : List Addr), PO (X.blk s H scope (compEnvC scope cl C X.env) fp) W0 kx fk)
    (hv : ∀ (s : Shared) (H : Hp) (C : Addr) (cl : List (Str × Addr)) (fp : List Addr), PO (X.blk s H scope (compEnvC scope cl C X.env) fp) W0 vx fv) (hf : ∀ x, foldedSetIterable iter X.env x = pure x := by intro _; rfl) :
    PO X wh (.DictComp kx vx [⟨tg, iter, ifs, 0⟩] scope pos) (eDc kk it g t fk fv (own.map (·.2))) :=
  PE.imp (pe_dcA kk.empty hu hc hN hi ok hg ht hk hv hf) fun _ _ _ h => rd_dc hs h
end
end F

namespace F
open PySem PySem.Spec PyProof.Rows L2
/-! ## short names -/
def eFrz (f : ExN) : Ex := fun ρ st => frozen (f ρ st)
def eSto (f : ExN) : Ex := fun ρ st => stored (f ρ st)
def eFre (f : ExN) : Ex := fun ρ st => fresh (f ρ st)
def eFreM (f : ExM) : Ex := fun ρ st => freshM (f ρ st)
def eSet (f : Ex) : Ex := fun ρ st => settle (f ρ st)
def eAlc (f : Ex) : Ex := fun ρ st => allocS (f ρ st)
section
variable {X : Cx} {wh : WX} {e a b o : Expr} {es : List Expr} {f fa fb : Ex} {n : ExN} {m : ExM} {g : Ar} {pos p : Pos}
theorem cFrz (h : PN X wh e n) : PO X wh e (eFrz n) := po_n h
theorem cSto (h : PN X wh e n) : PO X wh e (eSto n) := po_s h
theorem cFre (h : PN X wh e n) : PW X wh e (eFre n) := pw_n h
theorem cFreM (h : PM X wh e m) : PW X wh e (eFreM m) := pw_m h
theorem cSet (h : PW X wh e f) : PO X wh e (eSet f) := po_w h
theorem cAlc (h : PW X wh e f) : PO X wh e (eAlc f) := po_a h
theorem cW (h : PO X wh e f) : PW X wh e f := pw_o h
theorem b_add (ha : PO X wh a fa) (hb : PO X wh b fb) : PO X wh (.BinOp a .Add b pos) (eBin addS fa fb) := f_bin op_addS snd_addS ha hb
theorem b_sub (ha : PO X wh a fa) (hb : PO X wh b fb) : PO X wh (.BinOp a .Sub b pos) (eBin subS fa fb) := f_bin op_sub snd_subS ha hb
theorem b_mul (ha : PO X wh a fa) (hb : PO X wh b fb) : PO X wh (.BinOp a .Mult b pos) (eBin mulS fa fb) := f_bin op_mulS snd_mulS ha hb
theorem b_div (ha : PO X wh a fa) (hb : PO X wh b fb) : PO X wh (.BinOp a .FloorDiv b pos) (eBin divS fa fb) := f_bin op_fdivW snd_divS ha hb
theorem b_mod (ha : PO X wh a fa) (hb : PO X wh b fb) : PO X wh (.BinOp a .Mod b pos) (eBin modS fa fb) := f_bin op_mod snd_modS ha hb
theorem b_pow (ha : PO X wh a fa) (hb : PO X wh b fb) : PO X wh (.BinOp a .Pow b pos) (eBin powS fa fb) := f_bin op_powS snd_powS ha hb
theorem n_cat (ha : PO X wh a fa) (hb : PO X wh b fb) : PN X wh (.BinOp a .Add b pos) (nBin catS fa fb) := n_bin op_cat snd_catN ha hb
theorem n_rep (ha : PO X wh a fa) (hb : PO X wh b fb) : PN X wh (.BinOp a .Mult b pos) (nBin repS fa fb) := n_bin op_rep snd_repN ha hb
theorem q_lt (ha : PO X wh a fa) (hb : PO X wh b fb) : PO X wh (.Compare a [.Lt] [b] pos) (eBin ltS fa fb) := f_cmp op_lt snd_ltS ha hb (nomark _)
theorem q_le (ha : PO X wh a fa) (hb : PO X wh b fb) : PO X wh (.Compare a [.LtE] [b] pos) (eBin leS fa fb) := f_cmp op_le snd_leS ha hb (nomark _)
theorem q_gt (ha : PO X wh a fa) (hb : PO X wh b fb) : PO X wh (.Compare a [.Gt] [b] pos) (eBin gtS fa fb) := f_cmp op_gt snd_gtS ha hb (nomark _)
theorem q_ge (ha : PO X wh a fa) (hb : PO X wh b fb) : PO X wh (.Compare a [.GtE] [b] pos) (eBin geS fa fb) := f_cmp op_ge snd_geS ha hb (nomark _)
theorem q_eq (hu : X.A.units + 64 < cLine) (ha : PO X wh a fa) (hb : PO X wh b fb) : PO X wh (.Compare a [.Eq] [b] pos) (eBin eqS fa fb) := f_cmp (op_eqD hu) snd_eqD ha hb (nomark _)
theorem q_ne (hu : X.A.units + 64 < cLine) (ha : PO X wh a fa) (hb : PO X wh b fb) : PO X wh (.Compare a [.NotEq] [b] pos) (eBin neS fa fb) := f_cmp (op_neD hu) snd_neD ha hb (nomark _)
theorem q_isN (ha : PO X wh a fa) (hb : PO X wh b fb) : PO X wh (.Compare a [.Is] [b] pos) (eBin (isNone false) fa fb) := f_cmp op_isN snd_isN ha hb (nomark _)
theorem q_notN (ha : PO X wh a fa) (hb : PO X wh b fb) : PO X wh (.Compare a [.IsNot] [b] pos) (eBin (isNone true) fa fb) := f_cmp op_notN snd_notN ha hb (nomark _)
theorem q_isB (ha : PO X wh a fa) (hb : PO X wh b fb) : PO X wh (.Compare a [.Is] [b] pos) (eBin isBl fa fb) := f_cmp op_isBl snd_isBl ha hb (nomark _)
theorem q_in (ha : PO X wh a fa) (hb : PO X wh b fb) (hm : behindInMarks .In b = false := by rfl) : PO X wh (.Compare a [.In] [b] pos) (eBin (inS false) fa fb) := f_cmp op_in_seq (snd_inS false) ha hb hm
theorem q_notin (ha : PO X wh a fa) (hb : PO X wh b fb) (hm : behindInMarks .NotIn b = false := by rfl) : PO X wh (.Compare a [.NotIn] [b] pos) (eBin (inS true) fa fb) := f_cmp op_notIn_seq (snd_inS true) ha hb hm
theorem q_ind (hu : X.A.units + 1 < cLine) (ha : PO X wh a fa) (hb : PO X wh b fb) (hm : behindInMarks .In b = false := by rfl) : PO X wh (.Compare a [.In] [b] pos) (eBin (kHas false) fa fb) := pe_cmp (c_in hu ha hb) hm
theorem q_notind (hu : X.A.units + 1 < cLine) (ha : PO X wh a fa) (hb : PO X wh b fb) (hm : behindInMarks .NotIn b = false := by rfl) : PO X wh (.Compare a [.NotIn] [b] pos) (eBin (kHas true) fa fb) := pe_cmp (c_notin hu ha hb) hm
/-- - e -/
def kNeg (x : Sl) (st : Sto) : Rs Sl := match x with
  | .d (.int i) => .ok (.d (.int (-i))) st
  | _ => .bad
def eNeg (f : Ex) : Ex := fun ρ st => (f ρ st).bind kNeg
theorem f_neg (ha : PO X wh a fa) : PO X wh (.UnaryOp .USub a pos) (eNeg fa) :=
  PE.imp (pe_un un_neg ha) fun σ H Q q => rd_then (k := fun x _ st1 => kNeg x st1) q fun x st ρ v B₀ B1 H1 β₀ β1 go sr er re ok => by
    unfold kNeg at ok
    split at ok
    · cases re
      exact ⟨_, rfl, OkG.pure ok sr (show RepS X.K B1 β1 _ (.d (.int _)) from .int _)⟩
    · exact ok.elim
/-! calls of built-ins -/
section
variable {x : Str}
theorem k_len (hg : Gl X "len") (hm : X.mg "len" = none) (ha : PR X wh [a] g) (he : starEach [a] X.env = (false, eval a X.env) :: starEach [] X.env := by rfl) (hpl : (backTo pos (starEach [] X.env)).any (·.1) = false := by rfl) : PO X wh (.Call (.Name "len" p) [a] [] pos) (eCB cLenA g) := f_cb okO call_lenA snd_lenA hg hm boot_len ha (by decide) (by decide) he hpl
theorem k_abs (hg : Gl X "abs") (hm : X.mg "abs" = none) (ha : PR X wh [a] g) (he : starEach [a] X.env = (false, eval a X.env) :: starEach [] X.env := by rfl) (hpl : (backTo pos (starEach [] X.env)).any (·.1) = false := by rfl) : PO X wh (.Call (.Name "abs" p) [a] [] pos) (eCB (cI1 absI) g) := f_cb okO call_abs snd_I1 hg hm (by decide +kernel) ha (by decide) (by decide) he hpl
theorem k_max2 (hc : X.calm = true) (hg : Gl X "max") (hm : X.mg "max" = none) (ha : PR X wh [a, b] g) (he : starEach [a, b] X.env = (false, eval a X.env) :: starEach [b] X.env := by rfl) (hpl : (backTo pos (starEach [b] X.env)).any (·.1) = false := by rfl) : PO X wh (.Call (.Name "max" p) [a, b] [] pos) (eCB (cI2 maxI) g) := f_cb okO (call_max2 hc) snd_I2 hg hm (by decide +kernel) ha (by decide) (by decide) he hpl
theorem k_min2 (hc : X.calm = true) (hg : Gl X "min") (hm : X.mg "min" = none) (ha : PR X wh [a, b] g) (he : starEach [a, b] X.env = (false, eval a X.env) :: starEach [b] X.env := by rfl) (hpl : (backTo pos (starEach [b] X.env)).any (·.1) = false := by rfl) : PO X wh (.Call (.Name "min" p) [a, b] [] pos) (eCB (cI2 minI) g) := f_cb okO (call_min2 hc) snd_I2 hg hm (by decide +kernel) ha (by decide) (by decide) he hpl
theorem k_max (hc : X.calm = true) (hg : Gl X "max") (hm : X.mg "max" = none) (ha : PR X wh [a] g) (he : starEach [a] X.env = (false, eval a X.env) :: starEach [] X.env := by rfl) (hpl : (backTo pos (starEach [] X.env)).any (·.1) = false := by rfl) : PO X wh (.Call (.Name "max" p) [a] [] pos) (eCB (cInts maxL) g) := f_cb okO (cr_max hc) snd_max hg hm (by decide +kernel) ha (by decide) (by decide) he hpl
theorem k_min (hc : X.calm = true) (hg : Gl X "min") (hm : X.mg "min" = none) (ha : PR X wh [a] g) (he : starEach [a] X.env = (false, eval a X.env) :: starEach [] X.env := by rfl) (hpl : (backTo pos (starEach [] X.env)).any (·.1) = false := by rfl) : PO X wh (.Call (.Name "min" p) [a] [] pos) (eCB (cInts minL) g) := f_cb okO (cr_min hc) snd_min hg hm (by decide +kernel) ha (by decide) (by decide) he hpl
theorem k_sum (hc : X.calm = true) (hg : Gl X "sum") (hm : X.mg "sum" = none) (ha : PR X wh [a] g) (he : starEach [a] X.env = (false, eval a X.env) :: starEach [] X.env := by rfl) (hpl : (backTo pos (starEach [] X.env)).any (·.1) = false := by rfl) : PO X wh (.Call (.Name "sum" p) [a] [] pos) (eCB (cInts fun ns => some ns.sum) g) := f_cb okO (cr_sum hc) snd_sum hg hm (by decide +kernel) ha (by decide) (by decide) he hpl
theorem k_all (hc : X.calm = true) (hg : Gl X "all") (hm : X.mg "all" = none) (ha : PR X wh [a] g) (he : starEach [a] X.env = (false, eval a X.env) :: starEach [] X.env := by rfl) (hpl : (backTo pos (starEach [] X.env)).any (·.1) = false := by rfl) : PO X wh (.Call (.Name "all" p) [a] [] pos) (eCB (cBls fun bs => bs.all id) g) := f_cb okO (cr_all hc) snd_all hg hm (by decide +kernel) ha (by decide) (by decide) he hpl
theorem k_any (hc : X.calm = true) (hg : Gl X "any") (hm : X.mg "any" = none) (ha : PR X wh [a] g) (he : starEach [a] X.env = (false, eval a X.env) :: starEach [] X.env := by rfl) (hpl : (backTo pos (starEach [] X.env)).any (·.1) = false := by rfl) : PO X wh (.Call (.Name "any" p) [a] [] pos) (eCB (cBls fun bs => bs.any id) g) := f_cb okO (cr_any hc) snd_any hg hm (by decide +kernel) ha (by decide) (by decide) he hpl
theorem k_int (hg : Gl X "int") (hm : X.mg "int" = none) (ha : PR X wh [a] g) (he : starEach [a] X.env = (false, eval a X.env) :: starEach [] X.env := by rfl) (hpl : (backTo pos (starEach [] X.env)).any (·.1) = false := by rfl) : PO X wh (.Call (.Name "int" p) [a] [] pos) (eCB cInt g) := f_ct okO call_int1 snd_int hg hm boot_int ha (by decide) (by decide) he hpl
theorem k_str (hg : Gl X "str") (hm : X.mg "str" = none) (ha : PR X wh [a] g) (he : starEach [a] X.env = (false, eval a X.env) :: starEach [] X.env := by rfl) (hpl : (backTo pos (starEach [] X.env)).any (·.1) = false := by rfl) : PO X wh (.Call (.Name "str" p) [a] [] pos) (eCB cStr g) := f_ct okO call_str_int snd_str hg hm (by decide +kernel) ha (by decide) (by decide) he hpl
theorem k_tup (hg : Gl X "tuple") (hm : X.mg "tuple" = none) (ha : PR X wh [a] g) (he : starEach [a] X.env = (false, eval a X.env) :: starEach [] X.env := by rfl) (hpl : (backTo pos (starEach [] X.env)).any (·.1) = false := by rfl) : PO X wh (.Call (.Name "tuple" p) [a] [] pos) (eCB cTup g) := f_ct okO call_tuple_of snd_tup hg hm (by decide +kernel) ha (by decide) (by decide) he hpl
theorem k_lst (hg : Gl X "list") (hm : X.mg "list" = none) (ha : PR X wh [a] g) (he : starEach [a] X.env = (false, eval a X.env) :: starEach [] X.env := by rfl) (hpl : (backTo pos (starEach [] X.env)).any (·.1) = false := by rfl) : PN X wh (.Call (.Name "list" p) [a] [] pos) (eCB cLst g) := f_ct okN call_list_of snd_lst hg hm (by decide +kernel) ha (by decide) (by decide) he hpl
end
/-- a text of the module -/
theorem f_gs {x z : Str} (hg : Gl X x) (hm : ∃ t, X.mg x = some (.str z t)) (hd : (x == ("__debug__" : Str)) = false := by decide) : PO X wh (.Name x pos) (eC (.str z)) := by
  obtain ⟨t, h⟩ := hm
  exact f_glob hg h (v := .str z) ⟨t, rfl⟩ (fun _ => .str z) hd
theorem f_gi {x : Str} {z : Int} (hg : Gl X x) (hm : ∃ t, X.mg x = some (.int z t)) (hd : (x == ("__debug__" : Str)) = false := by decide) : PO X wh (.Name x pos) (eC (.int z)) := by
  obtain ⟨t, h⟩ := hm
  exact f_glob hg h (v := .int z) ⟨t, rfl⟩ (fun _ => .int z) hd
/-- a tuple of the module -/
theorem f_gt {x : Str} {v : Addr} {d : List Vl} (hg : Gl X x) (hm : X.mg x = some (.ref v)) (q : ∀ B, Rep X.K B (.ref v) (.ktp d)) (hd : (x == ("__debug__" : Str)) = false := by decide) : PO X wh (.Name x pos) (eC (.ktp d)) :=
  f_glob hg hm (v := .ref v) rfl q hd
end
theorem bindsKw {K : PySem.W.Frag} {x qual : Str} {params : Arguments} {body : List Stmt} {scope : Scope} {f : Addr} {fd : FuncData} {ps ks : List Str} {is : List Nat} (F : FunD K x qual params body scope [] [] f fd)
    (h : ∀ (kV doc pm : Value) (an : Option Addr) (cdv ct : Value) (us : List Value), us.length = ks.length → bindArgs (PySem.W.fnOf x qual params body scope .none kV doc pm an cdv ct) ⟨[], ks.zip us⟩ = pure (ps.zip (pick is us))) (s : Shared) (us : List Value) (hl : us.length = ks.length) : BindsTo s fd ⟨[], ks.zip us⟩ (ps.zip (pick is us)) := by
  obtain ⟨oc, od, dV, kV, doc, pm, an, cdv, ct, osl, rfl, lk, hcd, hD, hK⟩ := F.ex
  rcases hD with ⟨_, rfl⟩ | ⟨e, _⟩
  · exact .of_eq (h kV doc pm an cdv ct us hl)
  · exact absurd rfl e
def fnKind : Scope → Bool := fun sc => match sc.kind with
  | .function => true
  | _ => false
def isFree : NameKind → Bool
  | .free => true
  | _ => false
def isOwn : NameKind → Bool
  | .local => true
  | .cell => true
  | _ => false
def blkB (N : List Str) (sc scope : Scope) (own : List (Str × Nat)) : Bool :=
  fnKind scope && (scope.names.all (fun y => decide (scope.names.lookup y.1 = some y.2)) && (own.all (fun p => decide (N[p.2]? = some p.1)) &&
    (scope.names.all (fun y => !isFree y.2 || (decide (sc.names.lookup y.1 = some .cell) || decide (sc.names.lookup y.1 = some .free))) && scope.names.all (fun y => !isOwn y.2 || (decide (y.1 ∈ own.map (·.1)) || decide (y.1 ∉ N))))))
theorem blk_ok {N : List Str} {sc scope : Scope} {own : List (Str × Nat)} (h : blkB N sc scope own = true) : BlkOk N sc scope own := by
  unfold blkB at h
  simp only [Bool.and_eq_true, List.all_eq_true, decide_eq_true_eq, Bool.or_eq_true, Bool.not_eq_true'] at h
  obtain ⟨h1, h2, h3, h4, h5⟩ := h
  refine ⟨?_, h2, h3, fun y hy e => ?_, fun y hy e => ?_⟩
  · unfold fnKind at h1
    split at h1
    · assumption
    · cases h1
  · rcases h4 y hy with z | z
    · rw [e] at z; cases z
    · exact z
  · rcases h5 y hy with z | z
    · rcases e with e | e <;> rw [e] at z <;> cases z
    · exact z
theorem ts_nil {X : Cx} : PTs X [] (rd X.K W0 relB tYesF) := ⟨fun pins s σ H Q I h => (pts_nil.run pins s σ H Q I (by
  obtain ⟨B, β, st, ρ, sr, er, ok⟩ := h
  exact OkG.pure ok sr rfl))⟩
theorem ts_one {X : Cx} {c : Expr} {t : Tst} (h : PB X W0 c t) : PTs X [c] (rd X.K W0 relB t) := pts_one h
end F

namespace F
open PySem PySem.Spec PyProof.Rows L2
/-! ## the head's hook: the facts, the defs, the module's tuples -/
abbrev Tups := List (PySem.Str × List He.Dv)
def tupsB (K : PySem.W.Frag) (tp : Tups) : Bool := tp.all fun q => He.tupB K q.1 q.2
def SaysF (fa : List He.Fa) (fn : List He.DefD) (tp : Tups) (K : PySem.W.Frag) : Prop := tupsB K tp = true ∧ He.SaysD fa fn K
def obsFG (n : Nat) (fa : List He.Fa) (fn : List He.DefD) (tp : Tups) (g : Addr → Option Obj) : Bool × He.AlD := (tupsB (He.frG g (He.asD g n)) tp, He.obsDG n fa fn g)
def hookF (n : Nat) (fa : List He.Fa) (fn : List He.DefD) (tp : Tups) : PySem.W.Hook where
  α := Bool × He.AlD
  obs := fun s => obsFG n fa fn tp s.heap.get?
  val := fun _ => (true, He.valD fn)
  says := fun _ h => ∃ K : PySem.W.Frag, K.In h ∧ SaysF fa fn tp K
  of := fun _ _ e => ⟨_, He.frG_in, congrArg Prod.fst e, congrArg Prod.snd e⟩
  keeps := fun _ _ _ z k => z.elim fun K y => ⟨K, PySem.W.Frag.In.keeps y.1 k, y.2⟩
theorem obsFG_eq {n : Nat} {fa : List He.Fa} {fn : List He.DefD} {tp : Tups} {g : Addr → Option Obj} {s : Shared} (h : ∀ a, g a = s.heap.get? a) : obsFG n fa fn tp g = (hookF n fa fn tp).obs s := by
  have e : g = s.heap.get? := funext h
  subst e
  rfl
section
variable {fa : List He.Fa} {fn : List He.DefD} {tp : Tups} {K : PySem.W.Frag}
theorem SaysF.fact (c : SaysF fa fn tp K) (i : Nat) {f : He.Fa} (h : fa[i]? = some f := by rfl) : f.ok K = true := He.SaysD.fact c.2 i h
theorem SaysF.def_ (c : SaysF fa fn tp K) (i : Nat) {d : He.DefD} (h : fn[i]? = some d := by rfl) : ∃ fd, FunD K d.name d.qual d.params d.body d.scope (d.dvs K) (d.kws K) (He.fAd K d.at_) fd := He.SaysD.def_ c.2 i h
theorem SaysF.tup (c : SaysF fa fn tp K) (i : Nat) {q : PySem.Str × List He.Dv} (h : tp[i]? = some q := by rfl) (H : Hp) : SqT K H (He.ga K q.1) (q.2.map (He.Dv.v K)) := He.tupB_ok (List.all_eq_true.mp c.1 q (List.mem_of_getElem? h)) H
/-- the law's start -/
theorem ints_scr {H : Hp} {B : Hp} : ∀ ns : List Int, RepL K B (ns.map V.int) (ns.map Vl.int)
  | [] => .nil
  | _ :: ns => .cons (.int _) (ints_scr (H := H) ns)
theorem law_sp {m : Fn} {H : Hp} {a : Addr} {ns : List Int} (hS : SqL K H a (ns.map V.int)) (h : m [.d (.scr (ns.map Vl.int))] [] = .ok (.d (.bl true)) []) : spF K 1 m [.ref a] H (fun v _ => v = .bl true) fun _ _ _ => False := by
  refine ⟨H, [], [], [.d (.scr (ns.map Vl.int))], rfl, ⟨rfl, List.nodup_nil, fun a m => absurd m (by simp [flat]), fun _ _ h => h, fun n p c h _ => by simp at h⟩, .cons (Rep.scr hS (ints_scr (H := H) ns)) .nil, ?_⟩
  rw [h]
  intro v B' H' β' go sr re
  cases re
  rfl
end
/-- what leaves a def, whatever the world -/
def CXe : CXT := fun outer H s E u s' => ∃ P w, L2.CX P w outer H s E u s'
theorem toE {P : Program} {w : World} {K : PySem.W.Frag} {mg : Str → Option Value} {base : Heap} {k : Nat} {f : Addr} {fd : FuncData} {ps : List Str} {sp : Sp} (F : FnOk P w K mg base (L2.CX P w) k f fd ps sp) : FnOk P w K mg base CXe k f fd ps sp :=
  ⟨F.len, fun A outer s H args us vs Q E hr he hb hv hs => codeAny_mono (F.run A outer s H args us vs Q E hr he hb hv hs) fun r s' q => by
    cases r with
    | ok x => cases x <;> exact q
    | error e => exact ⟨P, w, q⟩⟩
theorem cxe_no {H : Hp} {s : Shared} {e : Value} {s' : Shared} (z : CXe [] H s (fun _ _ _ => False) e s') : False := by
  obtain ⟨P, w, _, _, _, _, _, _, _, _, _, _, _, _, no⟩ := z
  exact no
end F

namespace F
open PySem PySem.Spec PyProof.Rows L2
/-! ## evaluation, one equation a form -/
section
variable {α β : Type} {a : α} {st : Sto} {ρ : En} {k : α → Sto → Rs β} {ko : α → Sto → Ot} {x y : Vl} {w : Sl} {ds : List Vl} {f fa fb : Ex} {g : Ar} {t : Tst} {sa sb : Sm}
theorem bind_ok : (Rs.ok a st).bind k = k a st := (rfl)
theorem bind_exc {c : Str} : (Rs.exc c x st : Rs α).bind k = .exc c x st := (rfl)
theorem bind_bad : (Rs.bad : Rs α).bind k = .bad := (rfl)
theorem bind_congr1 {r r' : Rs α} (h : r = r') : r.bind k = r'.bind k := by rw [h]
theorem sOf_ok : sOf (Rs.ok a st) ρ ko = ko a st := (rfl)
theorem sOf_exc {c : Str} : sOf (Rs.exc c x st : Rs α) ρ ko = .exc c x ρ st := (rfl)
theorem sOf_bad : sOf (Rs.bad : Rs α) ρ ko = .bad := (rfl)
theorem sOf_congr1 {r r' : Rs α} (h : r = r') : sOf r ρ ko = sOf r' ρ ko := by rw [h]
def seqK (o : Ot) (b : Sm) : Ot := match o with
  | .nx ρ' st' => b ρ' st'
  | o => o
theorem sSeq_ap : sSeq sa sb ρ st = seqK (sa ρ st) sb := by
  unfold sSeq seqK
  cases sa ρ st <;> rfl
theorem seqK_nx : seqK (.nx ρ st) sb = sb ρ st := (rfl)
theorem seqK_rt : seqK (.rt w st) sb = .rt w st := (rfl)
theorem seqK_bk : seqK (.bk ρ st) sb = .bk ρ st := (rfl)
theorem seqK_ct : seqK (.ct ρ st) sb = .ct ρ st := (rfl)
theorem seqK_exc {c : Str} : seqK (.exc c x ρ st) sb = .exc c x ρ st := (rfl)
theorem sNil_ap : sNil ρ st = .nx ρ st := (rfl)
theorem sPass_ap : sPass ρ st = .nx ρ st := (rfl)
theorem sBrk_ap : sBrk ρ st = .bk ρ st := (rfl)
theorem sCnt_ap : sCnt ρ st = .ct ρ st := (rfl)
theorem sRetN_ap : sRetN ρ st = .rt (.d .non) st := (rfl)
theorem sRet_ap : sRet f ρ st = sOf (f ρ st) ρ kRet := (rfl)
theorem kRet_d : kRet (.d x) st = .rt (.d x) st := (rfl)
theorem kRet_r {n : Nat} : kRet (.r n) st = .rt (.r n) st := (rfl)
theorem kRet_n : kRet (.n ds) st = .rt (.n ds) st := (rfl)
theorem kRet_m {rows : List (List Vl)} : kRet (.m rows) st = .rt (.m rows) st := (rfl)
def nxK (ρ : En) (_ : α) (st : Sto) : Ot := .nx ρ st
theorem nxK_ap : nxK ρ a st = .nx ρ st := (rfl)
theorem sExp_ap : sExp f ρ st = sOf (f ρ st) ρ (nxK ρ) := (rfl)
def ifK (a b : Sm) (ρ : En) (x : Bool) (st : Sto) : Ot := if x = true then a ρ st else b ρ st
theorem ifK_t : ifK sa sb ρ true st = sa ρ st := (rfl)
theorem ifK_f : ifK sa sb ρ false st = sb ρ st := (rfl)
theorem sIf_ap : sIf t sa sb ρ st = sOf (t ρ st) ρ (ifK sa sb ρ) := (rfl)
def asK (o : Option En) (st : Sto) : Ot := match o with
  | some ρ' => .nx ρ' st
  | none => .bad
theorem asK_some : asK (some ρ) st = .nx ρ st := (rfl)
theorem kAsg_ap {gt : Tg} : kAsg gt ρ w st = asK (gt w ρ) st := (rfl)
theorem sAsg_ap {gt : Tg} : sAsg f gt ρ st = sOf (f ρ st) ρ (kAsg gt ρ) := (rfl)
theorem gN_ap {i : Nat} : gN i w ρ = some (ρ.set i (some w)) := (rfl)
theorem gT_ap {gs : Tgs} : gT gs (.d (.tup ds)) ρ = gs ds ρ := (rfl)
theorem gE_ap : gE [] ρ = some ρ := (rfl)
theorem gC_ap {gt : Tg} {gs : Tgs} : gC gt gs (x :: ds) ρ = (gt (.d x) ρ).bind fun ρ' => gs ds ρ' := (rfl)
theorem kPar_ap {is : List Nat} {ws : List Sl} : kPar is ρ ws st = asK (setAll is ws ρ) st := (rfl)
theorem sPar_ap {is : List Nat} : sPar is g ρ st = sOf (g ρ st) ρ (kPar is ρ) := (rfl)
theorem setAll_cons {i : Nat} {is : List Nat} {ws : List Sl} : setAll (i :: is) (w :: ws) ρ = setAll is ws (ρ.set i (some w)) := (rfl)
theorem setAll_nil : setAll [] [] ρ = some ρ := (rfl)
def forK (h : Vl → Sm) (ρ : En) (ds : List Vl) (st : Sto) : Ot := loopS h ds ρ st
theorem forK_ap {h : Vl → Sm} : forK h ρ ds st = loopS h ds ρ st := (rfl)
theorem sFor_ap {i : Itr} {gt : Tg} : sFor i gt sa ρ st = sOf (i ρ st) ρ (forK (turnS gt sa) ρ) := (rfl)
def varK (o : Option (Option Sl)) (st : Sto) : Rs Sl := match o with
  | some (some w) => .ok w st
  | _ => .bad
theorem varK_some : varK (some (some w)) st = .ok w st := (rfl)
theorem eVar_ap {i : Nat} : eVar i ρ st = varK ρ[i]? st := by
  unfold eVar varK
  rfl
theorem eC_ap : eC x ρ st = .ok (.d x) st := (rfl)
theorem eBin_ap {op : Op2} : eBin op fa fb ρ st = (fa ρ st).bind fun x st1 => (fb ρ st1).bind fun y st2 => op x y st2 := (rfl)
theorem nBin_ap {op : Sl → Sl → Sto → Rs (List Vl)} : nBin op fa fb ρ st = (fa ρ st).bind fun x st1 => (fb ρ st1).bind fun y st2 => op x y st2 := (rfl)
theorem eNeg_ap : eNeg f ρ st = (f ρ st).bind kNeg := (rfl)
theorem kNeg_i {i : Int} : kNeg (.d (.int i)) st = .ok (.d (.int (-i))) st := (rfl)
theorem aNil_ap : aNil ρ st = .ok [] st := (rfl)
theorem aCons_ap : aCons f g ρ st = (f ρ st).bind fun x st1 => (g ρ st1).bind fun xs st2 => .ok (x :: xs) st2 := (rfl)
theorem toD_d : toD (.d x) st = .ok x st := (rfl)
theorem toDs_nil : toDs [] st = .ok [] st := (rfl)
theorem toDs_cons {ws : List Sl} : toDs (w :: ws) st = (toD w st).bind fun x st1 => (toDs ws st1).bind fun xs st2 => .ok (x :: xs) st2 := (rfl)
def tupK (ds : List Vl) (st : Sto) : Rs Sl := if ds.length ≤ sizeLine then .ok (.d (.tup ds)) st else .bad
def lstK (ds : List Vl) (st : Sto) : Rs (List Vl) := if ds.length ≤ sizeLine then .ok ds st else .bad
theorem tupK_ok (h : ds.length ≤ 16777216) : tupK ds st = .ok (.d (.tup ds)) st := if_pos (by rw [sizeLine_eq]; exact h)
theorem lstK_ok (h : ds.length ≤ 16777216) : lstK ds st = .ok ds st := if_pos (by rw [sizeLine_eq]; exact h)
theorem eTup_ap : eTup g ρ st = (g ρ st).bind fun ws st1 => (toDs ws st1).bind tupK := (rfl)
theorem nLst_ap : nLst g ρ st = (g ρ st).bind fun ws st1 => (toDs ws st1).bind lstK := (rfl)
theorem eCall_ap {m : Fn} : eCall m g ρ st = (g ρ st).bind m := (rfl)
theorem eCallK_ap {m : Fn} {is : List Nat} : eCallK m is g ρ st = (g ρ st).bind fun ws st1 => m (pick is ws) st1 := (rfl)
theorem eCB_ap {c : Bf α} : eCB c g ρ st = (g ρ st).bind c := (rfl)
def eIfK (a b : Ex) (ρ : En) (x : Bool) (st : Sto) : Rs Sl := if x = true then a ρ st else b ρ st
theorem eIfK_t : eIfK fa fb ρ true st = fa ρ st := (rfl)
theorem eIfK_f : eIfK fa fb ρ false st = fb ρ st := (rfl)
theorem eIf_ap : eIf t fa fb ρ st = (t ρ st).bind (eIfK fa fb ρ) := (rfl)
def tOfK (w : Sl) (st : Sto) : Rs Bool := match w with
  | .d (.bl b) => .ok b st
  | _ => .bad
theorem tOfK_b {b : Bool} : tOfK (.d (.bl b)) st = .ok b st := (rfl)
theorem tOf_ap : tOf f ρ st = (f ρ st).bind tOfK := (rfl)
def andK (b : Tst) (ρ : En) (x : Bool) (st : Sto) : Rs Bool := if x = true then b ρ st else .ok false st
def orK (b : Tst) (ρ : En) (x : Bool) (st : Sto) : Rs Bool := if x = true then .ok true st else b ρ st
variable {ta tb : Tst}
theorem andK_t : andK tb ρ true st = tb ρ st := (rfl)
theorem andK_f : andK tb ρ false st = .ok false st := (rfl)
theorem orK_t : orK tb ρ true st = .ok true st := (rfl)
theorem orK_f : orK tb ρ false st = tb ρ st := (rfl)
theorem tAndF_ap : tAndF ta tb ρ st = (ta ρ st).bind (andK tb ρ) := (rfl)
theorem tOrF_ap : tOrF ta tb ρ st = (ta ρ st).bind (orK tb ρ) := (rfl)
def notK (x : Bool) (st : Sto) : Rs Bool := .ok (!x) st
theorem notK_ap {b : Bool} : notK b st = .ok (!b) st := (rfl)
theorem tNotF_ap : tNotF ta ρ st = (ta ρ st).bind notK := (rfl)
def eAndK (b : Ex) (ρ : En) (x : Sl) (st : Sto) : Rs Sl := match x with
  | .d (.bl true) => b ρ st
  | .d (.bl false) => .ok (.d (.bl false)) st
  | _ => .bad
def eOrK (b : Ex) (ρ : En) (x : Sl) (st : Sto) : Rs Sl := match x with
  | .d (.bl false) => b ρ st
  | .d (.bl true) => .ok (.d (.bl true)) st
  | _ => .bad
theorem eAndK_t : eAndK fb ρ (.d (.bl true)) st = fb ρ st := (rfl)
theorem eAndK_f : eAndK fb ρ (.d (.bl false)) st = .ok (.d (.bl false)) st := (rfl)
theorem eOrK_t : eOrK fb ρ (.d (.bl true)) st = .ok (.d (.bl true)) st := (rfl)
theorem eOrK_f : eOrK fb ρ (.d (.bl false)) st = fb ρ st := (rfl)
theorem eAnd_ap : eAnd fa fb ρ st = (fa ρ st).bind (eAndK fb ρ) := by
  unfold eAnd
  congr 1
theorem eOr_ap : eOr fa fb ρ st = (fa ρ st).bind (eOrK fb ρ) := by
  unfold eOr
  congr 1
theorem eNot_ap : eNot f ρ st = (f ρ st).bind kNot := (rfl)
theorem kNot_b {b : Bool} : kNot (.d (.bl b)) st = .ok (.d (.bl (!b))) st := (rfl)
variable {n : ExN} {m : ExM}
theorem eFrz_ap : eFrz n ρ st = frozen (n ρ st) := (rfl)
theorem eSto_ap : eSto n ρ st = stored (n ρ st) := (rfl)
theorem eFre_ap : eFre n ρ st = fresh (n ρ st) := (rfl)
theorem eFreM_ap : eFreM m ρ st = freshM (m ρ st) := (rfl)
theorem eSet_ap : eSet f ρ st = settle (f ρ st) := (rfl)
theorem eAlc_ap : eAlc f ρ st = allocS (f ρ st) := (rfl)
theorem frozen_ok : frozen (.ok ds st) = .ok (.d (.lst ds)) st := (rfl)
theorem stored_ok : stored (.ok ds st) = .ok (.r st.length) (st ++ [.lst ds]) := (rfl)
theorem storedM_ok {rows : List (List Vl)} : storedM (.ok rows st) = .ok (.r st.length) (st ++ [.mat rows]) := (rfl)
theorem fresh_ok : fresh (.ok ds st) = .ok (.n ds) st := (rfl)
theorem freshM_ok {rows : List (List Vl)} : freshM (.ok rows st) = .ok (.m rows) st := (rfl)
theorem settle_d : settle (.ok (.d x) st) = .ok (.d x) st := (rfl)
theorem settle_r {n : Nat} : settle (.ok (.r n) st) = .ok (.r n) st := (rfl)
theorem settle_w {n i : Nat} : settle (.ok (.w n i) st) = .ok (.w n i) st := (rfl)
theorem settle_n : settle (.ok (.n ds) st) = .ok (.d (.lst ds)) st := (rfl)
theorem settle_m {rows : List (List Vl)} : settle (.ok (.m rows) st) = .ok (.d (.lst (rows.map .lst))) st := (rfl)
theorem settle_exc {c : Str} : settle (.exc c x st) = .exc c x st := (rfl)
theorem allocS_d : allocS (.ok (.d x) st) = .ok (.d x) st := (rfl)
theorem allocS_r {n : Nat} : allocS (.ok (.r n) st) = .ok (.r n) st := (rfl)
theorem allocS_n : allocS (.ok (.n ds) st) = .ok (.r st.length) (st ++ [.lst ds]) := (rfl)
theorem allocS_m {rows : List (List Vl)} : allocS (.ok (.m rows) st) = .ok (.r st.length) (st ++ [.mat rows]) := (rfl)
/-! ### operations -/
variable {i j : Int} {z z' : Str}
theorem addS_i : addS (.d (.int i)) (.d (.int j)) st = .ok (.d (.int (i + j))) st := (rfl)
theorem alt_bad {o o' : Op2} {u v : Sl} (h : o u v st = .bad) : F.alt o o' u v st = o' u v st := by
  unfold F.alt
  rw [h]
theorem alt_ok {o o' : Op2} {u v : Sl} {st' : Sto} (h : o u v st = .ok w st') : F.alt o o' u v st = .ok w st' := by
  unfold F.alt
  rw [h]
theorem addS_t (h : z.length + z'.length ≤ 16777216) : addS (.d (.str z)) (.d (.str z')) st = .ok (.d (.str (z ++ z'))) st :=
  (alt_bad rfl).trans (alt_ok (if_pos (by rw [sizeLine_eq]; exact h)))
theorem addS_u {es : List Vl} (h : ds.length + es.length ≤ 16777216) : addS (.d (.tup ds)) (.d (.tup es)) st = .ok (.d (.tup (ds ++ es))) st :=
  (alt_bad rfl).trans ((alt_bad rfl).trans (alt_ok (if_pos (by rw [sizeLine_eq]; exact h))))
theorem addS_l {es : List Vl} (h : ds.length + es.length ≤ 16777216) : addS (.d (.lst ds)) (.d (.lst es)) st = .ok (.d (.lst (ds ++ es))) st := by
  refine (alt_bad rfl).trans ((alt_bad rfl).trans ((alt_bad rfl).trans ?_))
  have e : catS (.d (.lst ds)) (.d (.lst es)) st = .ok (ds ++ es) st := if_pos (by rw [sizeLine_eq]; exact h)
  show frozen (catS _ _ _) = _
  rw [e]
  rfl
theorem mulS_i (h : mulOk i j = true) : mulS (.d (.int i)) (.d (.int j)) st = .ok (.d (.int (i * j))) st := alt_ok (if_pos h)
theorem mulOk_l (h : i.natAbs < 2 ^ 60) : mulOk i j = true := by unfold mulOk; simp [h]
theorem mulOk_r (h : j.natAbs < 2 ^ 60) : mulOk i j = true := by unfold mulOk; simp [h]
theorem mulS_l (h0 : -(2 ^ 63) ≤ i ∧ i < 2 ^ 63) (h : ds.length * i.toNat ≤ 16777216) : mulS (.d (.lst ds)) (.d (.int i)) st = .ok (.d (.lst (List.replicate i.toNat ds).flatten)) st := by
  refine (alt_bad rfl).trans (alt_ok ?_)
  have e : repS (.d (.lst ds)) (.d (.int i)) st = .ok (List.replicate i.toNat ds).flatten st := if_pos ⟨h0, by rw [sizeLine_eq]; exact h⟩
  show frozen (repS _ _ _) = _
  rw [e]
  rfl
theorem mulS_t1 : mulS (.d (.str z)) (.d (.int 1)) st = .ok (.d (.str z)) st := (rfl)
theorem mulS_t0 : mulS (.d (.str z)) (.d (.int 0)) st = .ok (.d (.str Str.empty)) st := (rfl)
theorem divS_i (h : 0 < j ∧ j.natAbs < 2 ^ 5000) : divS (.d (.int i)) (.d (.int j)) st = .ok (.d (.int (i / j))) st := if_pos (decide_eq_true h)
theorem modS_i (h : 0 < j) : modS (.d (.int i)) (.d (.int j)) st = .ok (.d (.int (i % j))) st := if_pos (decide_eq_true h)
theorem powS_i (h : powOk i j = true) : powS (.d (.int i)) (.d (.int j)) st = .ok (.d (.int (i ^ j.toNat))) st := if_pos h
theorem subS_i : subS (.d (.int i)) (.d (.int j)) st = .ok (.d (.int (i - j))) st := (rfl)
theorem ltS_i : ltS (.d (.int i)) (.d (.int j)) st = .ok (.d (.bl (decide (i < j)))) st := (rfl)
theorem leS_i : leS (.d (.int i)) (.d (.int j)) st = .ok (.d (.bl (decide (i ≤ j)))) st := (rfl)
theorem gtS_i : gtS (.d (.int i)) (.d (.int j)) st = .ok (.d (.bl (decide (j < i)))) st := (rfl)
theorem geS_i : geS (.d (.int i)) (.d (.int j)) st = .ok (.d (.bl (decide (j ≤ i)))) st := (rfl)
end
end F

namespace F
open PySem PySem.Spec PyProof.Rows L2
section
variable {α β : Type} {a : α} {st : Sto} {ρ : En} {x y : Vl} {w : Sl} {ds es : List Vl} {f fa fb fo : Ex} {g : Ar} {t : Tst} {sa sb : Sm} {i j : Int} {z z' : Str} {n : Nat} {gt : Tg}
/-! ### the store -/
theorem at_0 {c : Ce} {l : Sto} : (st ++ c :: l)[st.length]? = some c := by rw [List.getElem?_append_right (Nat.le_refl _)]; simp
theorem at_1 {c d : Ce} {l : Sto} : (st ++ c :: d :: l)[st.length + 1]? = some d := by rw [List.getElem?_append_right (Nat.le_succ _)]; simp
theorem at_2 {c d e : Ce} {l : Sto} : (st ++ c :: d :: e :: l)[st.length + 2]? = some e := by rw [List.getElem?_append_right (by omega)]; simp
theorem set_0 {c d : Ce} {l : Sto} : (st ++ c :: l).set st.length d = st ++ d :: l := by rw [List.set_append_right _ _ (Nat.le_refl _)]; simp
theorem set_1 {c d e : Ce} {l : Sto} : (st ++ c :: d :: l).set (st.length + 1) e = st ++ c :: e :: l := by rw [List.set_append_right _ _ (Nat.le_succ _)]; simp
theorem at_old {c : Ce} {l : Sto} (h : st[n]? = some c) : (st ++ l)[n]? = some c := by rw [List.getElem?_append_left (List.getElem?_eq_some_iff.mp h).1]; exact h
theorem set_old {c d : Ce} {l : Sto} (h : st[n]? = some c) : (st ++ l).set n d = st.set n d ++ l := List.set_append_left _ _ (List.getElem?_eq_some_iff.mp h).1
theorem cut_old {l : Sto} : (st ++ l).take st.length = st := List.take_left
theorem cut_all : st.take st.length = st := List.take_length
theorem len_1 {c : Ce} : (st ++ [c]).length = st.length + 1 := by simp
theorem len_2 {c d : Ce} : (st ++ [c, d]).length = st.length + 2 := by simp
theorem app_app {l m : Sto} : st ++ l ++ m = st ++ (l ++ m) := List.append_assoc _ _ _
theorem at_set {c d : Ce} (h : st[n]? = some d) : (st.set n c)[n]? = some c := List.getElem?_set_self (List.getElem?_eq_some_iff.mp h).1
theorem set_set {c d : Ce} : (st.set n c).set n d = st.set n d := List.set_set ..
theorem set_same {c : Ce} (h : st[n]? = some c) : st.set n c = st := by
  apply List.ext_getElem?
  intro k
  by_cases e : k = n
  · subst e
    rw [at_set h, h]
  · rw [List.getElem?_set_ne (Ne.symm e)]
theorem set_len {c : Ce} : (st.set n c).length = st.length := List.length_set
/-! ### ends of defs -/
theorem fnS_ap {k : Nat} {b : Sm} {ws : List Sl} : fnS k b ws st = retS st.length (b (startE k ws) st) := (rfl)
theorem retS_d : retS n (.rt (.d x) st) = .ok (.d x) (st.take n) := (rfl)
theorem retS_n : retS n (.rt (.n ds) st) = .ok (.n ds) (st.take n) := (rfl)
theorem retS_m {rows : List (List Vl)} : retS n (.rt (.m rows) st) = .ok (.m rows) (st.take n) := (rfl)
theorem retS_x : retS n (.nx ρ st) = .ok (.d .non) (st.take n) := (rfl)
theorem retS_l {k : Nat} (h : n ≤ k) (e : st[k]? = some (.lst ds)) : retS n (.rt (.r k) st) = .ok (.n ds) (st.take n) := by
  unfold retS
  dsimp only
  rw [if_neg (by omega), e]
theorem retS_mat {k : Nat} {rows : List (List Vl)} (h : n ≤ k) (e : st[k]? = some (.mat rows)) : retS n (.rt (.r k) st) = .ok (.m rows) (st.take n) := by
  unfold retS
  dsimp only
  rw [if_neg (by omega), e]
theorem retS_rev {k i : Nat} {rows : List (List Vl)} (h : n ≤ k) (e : st[k]? = some (.mat rows)) : retS n (.rt (.w k i) st) = .ok (.m rows.reverse) (st.take n) := by
  unfold retS
  dsimp only
  rw [if_neg (by omega), e]
/-! ### sequences -/
theorem list_l : listOf (.d (.lst ds)) st = some ds := (rfl)
theorem list_s : listOf (.d (.scr ds)) st = some ds := (rfl)
theorem list_r (h : st[n]? = some (.lst ds)) : listOf (.r n) st = some ds := by
  show plainOf (.r n) st = _
  unfold plainOf
  simp only [h]
theorem list_f (h : st[n]? = some (.frz ds)) : listOf (.r n) st = some ds := by
  show plainOf (.r n) st = _
  unfold plainOf
  simp only [h]
theorem list_w {k : Nat} {rows : List (List Vl)} (h : st[n]? = some (.mat rows)) (h2 : rows[k]? = some ds) : listOf (.w n k) st = some ds := by
  show plainOf (.w n k) st = _
  unfold plainOf
  simp only [h, h2]
theorem seq_t : seqOf (.d (.tup ds)) st = some ds := (rfl)
theorem seq_k : seqOf (.d (.ktp ds)) st = some ds := (rfl)
theorem seq_l (h : listOf w st = some ds) : seqOf w st = some ds := by
  unfold seqOf
  split
  · cases h
  · cases h
  · exact h
theorem mat_r {rows : List (List Vl)} (h : st[n]? = some (.mat rows)) : matOf (.r n) st = some rows := by
  unfold matOf
  simp only [h]
theorem atI_nat {α : Type} {xs : List α} {k : Nat} (h : k < xs.length) : atI xs (k : Int) = some xs[k] := by
  unfold atI ixN
  rw [if_pos (Int.natCast_nonneg k), if_pos (Int.ofNat_lt.mpr h)]
  show xs[(k : Int).toNat]? = _
  rw [Int.toNat_natCast, List.getElem?_eq_getElem h]
theorem atI_get {α : Type} {xs : List α} {k : Nat} {v : α} (h : xs[k]? = some v) : atI xs (k : Int) = some v := by
  obtain ⟨hl, e⟩ := List.getElem?_eq_some_iff.mp h
  rw [atI_nat hl, e]
theorem ixN_nat {k m : Nat} (h : k < m) : ixN m (k : Int) = some k := by
  unfold ixN
  rw [if_pos (Int.natCast_nonneg k), if_pos (Int.ofNat_lt.mpr h), Int.toNat_natCast]
theorem atI_0 {α : Type} {v : α} {xs : List α} : atI (v :: xs) 0 = some v := atI_get (k := 0) rfl
theorem atI_1 {α : Type} {u v : α} {xs : List α} : atI (u :: v :: xs) 1 = some v := atI_get (k := 1) rfl
theorem atI_2 {α : Type} {u v r : α} {xs : List α} : atI (u :: v :: r :: xs) 2 = some r := atI_get (k := 2) rfl
theorem ixA_t (h : atI ds i = some x) : ixA (.d (.tup ds)) (.d (.int i)) st = .ok (.d x) st := by
  refine (alt_bad rfl).trans (alt_ok ?_)
  show (match atI ds i with | some d => _ | none => _) = _
  rw [h]
theorem ixA_l (h0 : listOf w st = some ds) (h : atI ds i = some x) : ixA w (.d (.int i)) st = .ok (.d x) st := by
  refine alt_ok (alt_ok ?_)
  unfold ixL
  simp only [h0, h]
theorem ixA_m {rows : List (List Vl)} {k : Nat} (h0 : st[n]? = some (.mat rows)) (h : ixN rows.length i = some k) : ixA (.r n) (.d (.int i)) st = .ok (.w n k) st := by
  have e1 : listOf (.r n) st = none := by
    show plainOf (.r n) st = _
    unfold plainOf
    simp only [h0]
  refine alt_ok ((alt_bad ?_).trans ?_)
  · unfold ixL
    simp only [e1]
  · unfold ixM
    simp only [mat_r h0, h]
    rfl
theorem cLen_s (h : seqOf w st = some ds) : cLenA [w] st = .ok (.d (.int ds.length)) st := by
  have e : cLen [w] st = .ok (.d (.int ds.length)) st := by
    unfold cLen
    simp only [h]
  unfold cLenA altC
  rw [e]
theorem cLen_t : cLenA [.d (.tup ds)] st = .ok (.d (.int ds.length)) st := cLen_s rfl
theorem cLen_l : cLenA [.d (.lst ds)] st = .ok (.d (.int ds.length)) st := cLen_s rfl
theorem cLen_z : cLenA [.d (.scr ds)] st = .ok (.d (.int ds.length)) st := cLen_s rfl
theorem cLen_r (h : st[n]? = some (.lst ds)) : cLenA [.r n] st = .ok (.d (.int ds.length)) st := cLen_s (seq_l (list_r h))
theorem cLen_w {k : Nat} {rows : List (List Vl)} (h : st[n]? = some (.mat rows)) (h2 : rows[k]? = some ds) : cLenA [.w n k] st = .ok (.d (.int ds.length)) st := cLen_s (seq_l (list_w h h2))
theorem cLen_m {rows : List (List Vl)} (h : st[n]? = some (.mat rows)) : cLenA [.r n] st = .ok (.d (.int rows.length)) st := by
  have e1 : seqOf (.r n) st = none := by
    show plainOf (.r n) st = _
    unfold plainOf
    simp only [h]
  have e : cLen [.r n] st = .bad := by
    unfold cLen
    simp only [e1]
  have e2 : cLenM [.r n] st = .ok (.d (.int rows.length)) st := by
    unfold cLenM
    simp only [mat_r h]
  unfold cLenA altC
  rw [e]
  dsimp only
  rw [e2]
theorem cLen_d {kvs : List (List Key × Vl)} (h : st[n]? = some (.dtp kvs)) : cLenA [.r n] st = .ok (.d (.int kvs.length)) st := by
  have e1 : seqOf (.r n) st = none := by
    show plainOf (.r n) st = _
    unfold plainOf
    simp only [h]
  have e : cLen [.r n] st = .bad := by
    unfold cLen
    simp only [e1]
  have em : matOf (.r n) st = none := by
    unfold matOf
    simp only [h]
  have e2 : cLenM [.r n] st = .bad := by
    unfold cLenM
    simp only [em]
  have e3 : dctOf (.r n) st = none := by
    unfold dctOf
    simp only [h]
  have e4 : dtpOf (.r n) st = some kvs := by
    unfold dtpOf
    simp only [h]
  unfold cLenA altC
  rw [e]
  dsimp only
  rw [e2]
  dsimp only
  unfold cLenD
  simp only [e3, e4]
theorem cInt_i : cInt [.d (.int i)] st = .ok (.d (.int i)) st := (rfl)
theorem cInt_b {b : Bool} : cInt [.d (.bl b)] st = .ok (.d (.int (if b then 1 else 0))) st := (rfl)
theorem cI1_i {h : Int → Int} : cI1 h [.d (.int i)] st = .ok (.d (.int (h i))) st := (rfl)
theorem cI2_i {h : Int → Int → Int} : cI2 h [.d (.int i), .d (.int j)] st = .ok (.d (.int (h i j))) st := (rfl)
theorem cTup_l (h : listOf w st = some ds) : cTup [w] st = .ok (.d (.tup ds)) st := by
  unfold cTup
  simp only [seq_l h]
  rw [if_neg]
  intro e
  unfold isK at e
  split at e
  · cases h
  · cases e
theorem cLst_s (h : seqOf w st = some ds) : cLst [w] st = .ok ds st := by
  unfold cLst
  simp only [h]
theorem cInts_l {h : List Int → Option Int} {ns : List Int} {m : Int} (e : listOf w st = some ds) (e2 : intsOf ds = some ns) (e3 : h ns = some m) : cInts h [w] st = .ok (.d (.int m)) st := by
  unfold cInts
  simp only [e, e2, e3]
theorem cBls_l {h : List Bool → Bool} {ns : List Bool} (e : listOf w st = some ds) (e2 : blsOf ds = some ns) : cBls h [w] st = .ok (.d (.bl (h ns))) st := by
  unfold cBls
  simp only [e, e2]
theorem ints_map : ∀ ns : List Int, intsOf (ns.map Vl.int) = some ns
  | [] => rfl
  | i :: ns => by
    show (intsOf (ns.map Vl.int)).map _ = _
    rw [ints_map ns]
    rfl
theorem bls_map : ∀ ns : List Bool, blsOf (ns.map Vl.bl) = some ns
  | [] => rfl
  | i :: ns => by
    show (blsOf (ns.map Vl.bl)).map _ = _
    rw [bls_map ns]
    rfl
/-! ### isinstance, ==, is, in -/
def isiK (T : String) (w : Sl) (st : Sto) : Rs Sl := match tyS w st with
  | some A => (match kitB A T with
    | some b => .ok (.d (.bl b)) st
    | none => .bad)
  | none => .bad
theorem eIsi_ap {T : String} : eIsi f T ρ st = (f ρ st).bind (isiK T) := (rfl)
theorem isiK_of {T A : String} {b : Bool} (h : tyS w st = some A) (h2 : kitB A T = some b) : isiK T w st = .ok (.d (.bl b)) st := by
  unfold isiK
  simp only [h, h2]
theorem ty_r (h : st[n]? = some (.lst ds)) : tyS (.r n) st = some "list" := by
  unfold tyS
  simp only [list_r h]
  rfl
theorem ty_w {k : Nat} {rows : List (List Vl)} (h : st[n]? = some (.mat rows)) (h2 : rows[k]? = some ds) : tyS (.w n k) st = some "list" := by
  unfold tyS
  simp only [list_w h h2]
  rfl
theorem ty_m {rows : List (List Vl)} (h : st[n]? = some (.mat rows)) : tyS (.r n) st = some "list" := by
  have e1 : listOf (.r n) st = none := by
    show plainOf (.r n) st = _
    unfold plainOf
    simp only [h]
  unfold tyS
  simp only [e1, h]
  rfl
theorem shaped_i : SeqAt.shaped (.int i) = true := by unfold SeqAt.shaped; rfl
theorem eqD_of {neg : Bool} : eqD neg (.d x) (.d y) st = if (SeqAt.shaped x.py && SeqAt.shaped y.py) = true then .ok (.d (.bl (if neg then !PyData.eqv x.py y.py else PyData.eqv x.py y.py))) st else .bad := (rfl)
theorem eqD_ok {neg : Bool} (h1 : SeqAt.shaped x.py = true) (h2 : SeqAt.shaped y.py = true) : eqD neg (.d x) (.d y) st = .ok (.d (.bl (if neg then !PyData.eqv x.py y.py else PyData.eqv x.py y.py))) st := by
  rw [eqD_of, if_pos (by rw [h1, h2]; rfl)]
theorem shaped_b {b : Bool} : SeqAt.shaped (.bool b) = true := by unfold SeqAt.shaped; rfl
theorem shaped_p {i j : Int} : SeqAt.shaped (.tuple [.int i, .int j]) = true := by unfold SeqAt.shaped; rfl
theorem eqv_i : PyData.eqv (.int i) (.int j) = (i == j) := by simp [PyData.eqv]
theorem eqv_b {a b : Bool} : PyData.eqv (.bool a) (.bool b) = (a == b) := by simp [PyData.eqv]
theorem eqv_p {i j k l : Int} : PyData.eqv (.tuple [.int i, .int j]) (.tuple [.int k, .int l]) = (i == k && j == l) := by simp [PyData.eqv, PyData.eqvAll]
theorem eq_of {r : Bool} (h1 : SeqAt.shaped x.py = true) (h2 : SeqAt.shaped y.py = true) (e : PyData.eqv x.py y.py = r) : eqS (.d x) (.d y) st = .ok (.d (.bl r)) st := by
  subst e
  exact eqD_ok h1 h2
theorem ne_of {r : Bool} (h1 : SeqAt.shaped x.py = true) (h2 : SeqAt.shaped y.py = true) (e : PyData.eqv x.py y.py = r) : neS (.d x) (.d y) st = .ok (.d (.bl (!r))) st := by
  subst e
  exact eqD_ok h1 h2
theorem eqS_i : eqS (.d (.int i)) (.d (.int j)) st = .ok (.d (.bl (i == j))) st := eq_of (x := .int i) (y := .int j) shaped_i shaped_i eqv_i
theorem neS_i : neS (.d (.int i)) (.d (.int j)) st = .ok (.d (.bl (!(i == j)))) st := ne_of (x := .int i) (y := .int j) shaped_i shaped_i eqv_i
theorem eqS_b {a b : Bool} : eqS (.d (.bl a)) (.d (.bl b)) st = .ok (.d (.bl (a == b))) st := eq_of (x := .bl a) (y := .bl b) shaped_b shaped_b eqv_b
theorem neS_b {a b : Bool} : neS (.d (.bl a)) (.d (.bl b)) st = .ok (.d (.bl (!(a == b)))) st := ne_of (x := .bl a) (y := .bl b) shaped_b shaped_b eqv_b
theorem eqS_p {i j k l : Int} : eqS (.d (.tup [.int i, .int j])) (.d (.tup [.int k, .int l])) st = .ok (.d (.bl (i == k && j == l))) st := eq_of (x := .tup [.int i, .int j]) (y := .tup [.int k, .int l]) shaped_p shaped_p eqv_p
theorem eqS_t (h : SeqAt.shaped (.str z) = true) (h' : SeqAt.shaped (.str z') = true) : eqS (.d (.str z)) (.d (.str z')) st = .ok (.d (.bl (z == z'))) st := eq_of (x := .str z) (y := .str z') h h' (by simp [PyData.eqv, Vl.py])
theorem isN_d : isNone false (.d x) (.d .non) st = .ok (.d (.bl x.isNon)) st := (rfl)
theorem isBl_b {a b : Bool} : isBl (.d (.bl a)) (.d (.bl b)) st = .ok (.d (.bl (decide (a = b)))) st := (rfl)
/-! ### slices -/
theorem eSl_ap {lo hi : Pt} : eSl f lo hi ρ st = (f ρ st).bind fun x st1 => (lo ρ st1).bind fun l st2 => (hi ρ st2).bind fun u st3 => slS x l u st3 := (rfl)
theorem pNone_ap : pNone ρ st = .ok none st := (rfl)
theorem pSome_ap : pSome f ρ st = (f ρ st).bind kPt := (rfl)
theorem kPt_i : kPt (.d (.int i)) st = .ok (some i) st := (rfl)
theorem slS_l {lo hi : Option Int} (h : listOf w st = some ds) : slS w lo hi st = .ok (.n (cutD ds lo hi)) st := by
  unfold slS
  simp only [h]
theorem slS_t {lo hi : Option Int} : slS (.d (.tup ds)) lo hi st = .ok (.d (.tup (cutD ds lo hi))) st := (rfl)
def revK (w : Sl) (st : Sto) : Rs (List Vl) := match listOf w st with
  | some ds => .ok ds.reverse st
  | none => .bad
theorem nRev_ap : nRev f ρ st = (f ρ st).bind revK := (rfl)
theorem revK_l (h : listOf w st = some ds) : revK w st = .ok ds.reverse st := by
  unfold revK
  simp only [h]
/-! ### lists that change -/
def m1K (k : Sl → Sl → Sto → Rs Sl) (fa : Ex) (ρ : En) (w : Sl) (st : Sto) : Rs Sl := if isL w st = true then (fa ρ st).bind fun x st2 => k w x st2 else .bad
theorem eM1_ap {k : Sl → Sl → Sto → Rs Sl} : eM1 k fo fa ρ st = (fo ρ st).bind (m1K k fa ρ) := (rfl)
theorem lstAt_r (h : st[n]? = some (.lst ds)) : lstAt (.r n) st = some ds := by
  unfold lstAt
  simp only [h]
theorem lstAt_w {k : Nat} {rows : List (List Vl)} (h : st[n]? = some (.mat rows)) (h2 : rows[k]? = some ds) : lstAt (.w n k) st = some ds := by
  unfold lstAt
  simp only [h, h2]
theorem matAt_r (h : st[n]? = some (.lst ds)) : matAt (.r n) st = none := by
  unfold matAt
  simp only [h]
theorem matAt_m {rows : List (List Vl)} (h : st[n]? = some (.mat rows)) (hl : rows.length < 16777216) : matAt (.r n) st = some n := by
  unfold matAt
  simp only [h]
  rw [if_pos (by rw [sizeLine_eq]; exact hl)]
theorem m1K_r {k : Sl → Sl → Sto → Rs Sl} (h : lstAt w st = some ds) : m1K k fa ρ w st = (fa ρ st).bind fun x st2 => k w x st2 := by
  unfold m1K isL
  rw [h]
  rfl
theorem m1K_m {k : Sl → Sl → Sto → Rs Sl} {m : Nat} (h : matAt w st = some m) : m1K k fa ρ w st = (fa ρ st).bind fun x st2 => k w x st2 := by
  unfold m1K isL
  rw [h]
  cases lstAt w st <;> rfl
theorem kApp_r (h : st[n]? = some (.lst ds)) (hl : ds.length < 16777216) : kApp (.r n) (.d x) st = .ok (.d .non) (st.set n (.lst (ds ++ [x]))) := by
  unfold kApp
  rw [matAt_r h]
  show (Rs.ok x st).bind _ = _
  show (match lstAt (.r n) st with | some ds => _ | none => _) = _
  rw [lstAt_r h]
  exact if_pos (by rw [sizeLine_eq]; exact hl)
theorem kApp_w {k : Nat} {rows : List (List Vl)} (h : st[n]? = some (.mat rows)) (h2 : rows[k]? = some ds) (hl : ds.length < 16777216) : kApp (.w n k) (.d x) st = .ok (.d .non) (st.set n (.mat (rows.set k (ds ++ [x])))) := by
  unfold kApp
  show (match lstAt (.w n k) st with | some ds => _ | none => _) = _
  rw [lstAt_w h h2]
  show (if ds.length < sizeLine then Rs.ok (Sl.d .non) (putAt (.w n k) (ds ++ [x]) st) else .bad) = _
  rw [if_pos (by rw [sizeLine_eq]; exact hl)]
  unfold putAt
  simp only [h]
theorem kApp_m {rows : List (List Vl)} (h : st[n]? = some (.mat rows)) (hl : rows.length < 16777216) : kApp (.r n) w st = .ok (.d .non) (st.set n .dead) := by
  unfold kApp
  rw [matAt_m h hl]
theorem kExt_r (h : st[n]? = some (.lst ds)) (h2 : plainOf w st = some es) (hl : ds.length + es.length ≤ 16777216) : kExt (.r n) w st = .ok (.d .non) (st.set n (.lst (ds ++ es))) := by
  unfold kExt
  rw [lstAt_r h, h2]
  exact if_pos (by rw [sizeLine_eq]; exact hl)
theorem kPopAt_r {k : Nat} (h : st[n]? = some (.lst ds)) (h2 : ds[k]? = some x) (hl : k < 2 ^ 63) : kPopAt (.r n) (.d (.int k)) st = .ok (.d x) (st.set n (.lst (ds.eraseIdx k))) := by
  unfold kPopAt
  rw [lstAt_r h]
  show (match ixN ds.length k with | some k => _ | none => _) = _
  rw [ixN_nat (List.getElem?_eq_some_iff.mp h2).1]
  show (match ds[k]? with | some d => _ | none => _) = _
  rw [h2]
  exact if_pos ⟨by omega, by omega⟩
theorem sSetI_ap : sSetI f fo fa ρ st = sOf (f ρ st) ρ fun x st1 => sOf (fo ρ st1) ρ fun w st2 => sOf (fa ρ st2) ρ fun i st3 => sOf (kSet x w i st3) ρ (nxK ρ) := (rfl)
theorem kSet_r {k : Nat} (h : st[n]? = some (.lst ds)) (h2 : ixN ds.length i = some k) : kSet (.d x) (.r n) (.d (.int i)) st = .ok () (st.set n (.lst (ds.set k x))) := by
  show (match lstAt (.r n) st, Sl.d (.int i) with | some ds, .d (.int k) => _ | _, _ => _) = _
  rw [lstAt_r h]
  show (match ixN ds.length i with | some j => _ | none => _) = _
  rw [h2]
  rfl
theorem kSet_w {k r : Nat} {rows : List (List Vl)} (h : st[n]? = some (.mat rows)) (h1 : rows[r]? = some ds) (h2 : ixN ds.length i = some k) : kSet (.d x) (.w n r) (.d (.int i)) st = .ok () (st.set n (.mat (rows.set r (ds.set k x)))) := by
  show (match lstAt (.w n r) st, Sl.d (.int i) with | some ds, .d (.int k) => _ | _, _ => _) = _
  rw [lstAt_w h h1]
  show (match ixN ds.length i with | some j => _ | none => _) = _
  rw [h2]
  show Rs.ok () (putAt (.w n r) (ds.set k x) st) = _
  unfold putAt
  simp only [h]
/-! ### dicts -/
theorem sPutD_ap : sPutD f fo fa ρ st = sOf (f ρ st) ρ fun x st1 => sOf (fo ρ st1) ρ fun w st2 => sOf (fa ρ st2) ρ fun i st3 => sOf (kPutD x w i st3) ρ (nxK ρ) := (rfl)
theorem kPutD_t {kvs : List (List Key × Vl)} {k : List Key} (h : st[n]? = some (.dtp kvs)) (hk : tkeyOf y = some k) (hl : kvs.length < 16777216) : kPutD (.d x) (.r n) (.d y) st = .ok () (st.set n (.dtp (putA kvs k x))) := by
  show (match st[n]? with | some (.dct kvs) => _ | some (.dtp kvs) => _ | _ => _) = _
  rw [h]
  show (match tkeyOf y with | some k => _ | none => _) = _
  rw [hk]
  exact if_pos (by rw [sizeLine_eq]; exact hl)
theorem kGet_t {kvs : List (List Key × Vl)} {k : List Key} (h : st[n]? = some (.dtp kvs)) (hk : tkeyOf y = some k) (hg : getA kvs k = some x) : kGet (.r n) (.d y) st = .ok (.d x) st := by
  have e3 : dctOf (.r n) st = none := by
    unfold dctOf
    simp only [h]
  have e4 : dtpOf (.r n) st = some kvs := by
    unfold dtpOf
    simp only [h]
  unfold kGet
  simp only [e3, e4, hk, hg]
theorem eNewT_ap : eNewT ρ st = .ok (.r st.length) (st ++ [.dtp []]) := (rfl)
theorem tkey_p : tkeyOf (.tup [.int i, .int j]) = some [.inl i, .inl j] := (rfl)
/-! ### what is walked -/
theorem itOf_ap {k : List Sl → Sto → Rs (List Vl)} : itOf k g ρ st = (g ρ st).bind k := (rfl)
theorem itAny_ap : itAny f ρ st = (f ρ st).bind kIter := (rfl)
theorem kRg1_i (h : rgOk j = true) : kRg1 [.d (.int j)] st = .ok (rgD 0 1 j.toNat) st := if_pos h
theorem kRg2_i (h : rgOk i = true) (h2 : rgOk j = true) : kRg2 [.d (.int i), .d (.int j)] st = .ok (rgD i 1 (j - i).toNat) st := if_pos (by rw [h, h2]; rfl)
theorem kRg3_i (h : rgOk i = true) (h2 : rgOk j = true) : kRg3 [.d (.int i), .d (.int j), .d (.int (-1))] st = .ok (rgD i (-1) (i - j).toNat) st := if_pos (by rw [h, h2]; rfl)
theorem rgOk_of (h1 : -4611686018427387904 ≤ i) (h2 : i < 4611686018427387904) : rgOk i = true := decide_eq_true ⟨by omega, by omega⟩
theorem kIter_t : kIter (.d (.tup ds)) st = .ok ds st := (rfl)
theorem kIter_k : kIter (.d (.ktp ds)) st = .ok ds st := (rfl)
theorem kIter_l : kIter (.d (.lst ds)) st = .ok ds st := (rfl)
theorem kEnum_l : kEnum [.d (.lst ds)] st = .ok (ds.mapIdx fun i d => .tup [.int (i : Nat), d]) st := (rfl)
theorem kZip_l : kZip [.d (.lst ds), .d (.lst es)] st = .ok (List.zipWith (fun x y => .tup [x, y]) ds es) st := (rfl)
def turnK (o : Option En) (b : Sm) (st : Sto) : Ot := match o with
  | some ρ' => b ρ' st
  | none => .bad
theorem turnK_some : turnK (some ρ) sa st = sa ρ st := (rfl)
theorem turnS_ap : turnS gt sa x ρ st = turnK (gt (.d x) ρ) sa st := (rfl)
theorem loop_nil {h : Vl → Sm} : loopS h [] ρ st = .nx ρ st := (rfl)
theorem loop_nx {h : Vl → Sm} {ρ' : En} {st' : Sto} (e : h x ρ st = .nx ρ' st') : loopS h (x :: ds) ρ st = loopS h ds ρ' st' := by
  simp only [loopS, e]
theorem loop_rt {h : Vl → Sm} {st' : Sto} (e : h x ρ st = .rt w st') : loopS h (x :: ds) ρ st = .rt w st' := by
  simp only [loopS, e]
/-- a loop whose turns all go through -/
theorem loop_inv {h : Vl → Sm} (P : Nat → En → Sto → Prop) : ∀ (ds : List Vl) (m : Nat) (ρ : En) (st : Sto), P m ρ st → (∀ k d ρ st, ds[k]? = some d → P (m + k) ρ st → ∃ ρ' st', h d ρ st = .nx ρ' st' ∧ P (m + k + 1) ρ' st') →
    ∃ ρ' st', loopS h ds ρ st = .nx ρ' st' ∧ P (m + ds.length) ρ' st'
  | [], m, ρ, st, p, _ => ⟨ρ, st, rfl, p⟩
  | d :: ds, m, ρ, st, p, s => by
    obtain ⟨ρ1, st1, e1, p1⟩ := s 0 d ρ st rfl p
    obtain ⟨ρ2, st2, e2, p2⟩ := loop_inv P ds (m + 1) ρ1 st1 p1 fun k d ρ st hd p => by
      have := s (k + 1) d ρ st (by simpa using hd) (by rw [show m + (k + 1) = m + 1 + k by omega]; exact p)
      rw [show m + 1 + k + 1 = m + (k + 1) + 1 by omega]
      exact this
    exact ⟨ρ2, st2, by rw [loop_nx e1]; exact e2, by rw [List.length_cons, show m + (ds.length + 1) = m + 1 + ds.length by omega]; exact p2⟩
/-! ### comprehensions -/
theorem nLc_ap {it : Itr} {own : List Nat} : nLc it gt t f own ρ st = (it ρ st).bind fun ds st1 => lcLoop gt t f (wipeE own ρ) ds [] st1 := (rfl)
theorem nLcM_ap {it : Itr} {fn : ExN} {own : List Nat} : nLcM it gt t fn own ρ st = (it ρ st).bind fun ds st1 => lcLoopM gt t fn (wipeE own ρ) ds [] st1 := (rfl)
theorem lc_step {ρ' : En} {st1 st2 : Sto} {acc : List Vl} (e1 : gt (.d x) ρ = some ρ') (e2 : t ρ' st = .ok true st1) (e3 : f ρ' st1 = .ok (.d y) st2) (hl : acc.length < 16777216) : lcLoop gt t f ρ (x :: ds) acc st = lcLoop gt t f ρ ds (acc ++ [y]) st2 := by
  show (match gt (.d x) ρ with | none => _ | some ρ' => _) = _
  rw [e1]
  show (match t ρ' st with | .ok true st1 => _ | .ok false st1 => _ | _ => _) = _
  rw [e2]
  show (match f ρ' st1 with | .ok w st2 => _ | _ => _) = _
  rw [e3]
  exact if_pos (by rw [sizeLine_eq]; exact hl)
/-- each element by itself, the store as it was -/
theorem lc_map (φ : Vl → Vl) : ∀ (ds acc : List Vl), acc.length + ds.length ≤ 16777216 → (∀ d ∈ ds, ∃ ρ', gt (.d d) ρ = some ρ' ∧ t ρ' st = .ok true st ∧ f ρ' st = .ok (.d (φ d)) st) → lcLoop gt t f ρ ds acc st = .ok (acc ++ ds.map φ) st
  | [], acc, _, _ => by rw [List.map_nil, List.append_nil]; rfl
  | d :: ds, acc, hl, h => by
    rw [List.length_cons] at hl
    obtain ⟨ρ', e1, e2, e3⟩ := h d List.mem_cons_self
    rw [lc_step e1 e2 e3 (by omega), lc_map φ ds (acc ++ [φ d]) (by rw [List.length_append, List.length_cons, List.length_nil]; omega) fun d hd => h d (List.mem_cons_of_mem _ hd), List.map_cons, List.append_assoc]
    rfl
/-- with the store -/
theorem lc_inv (P : Nat → List Vl → Sto → Prop) : ∀ (ds acc : List Vl) (m : Nat) (st : Sto), P m acc st → acc.length + ds.length ≤ 16777216 → (∀ k d acc st, ds[k]? = some d → P (m + k) acc st → ∃ ρ' y st', gt (.d d) ρ = some ρ' ∧ t ρ' st = .ok true st ∧ f ρ' st = .ok (.d y) st' ∧ P (m + k + 1) (acc ++ [y]) st') →
    ∃ out st', lcLoop gt t f ρ ds acc st = .ok out st' ∧ P (m + ds.length) out st'
  | [], acc, m, st, p, _, _ => ⟨acc, st, rfl, p⟩
  | d :: ds, acc, m, st, p, hl, s => by
    rw [List.length_cons] at hl
    obtain ⟨ρ', y, st1, e1, e2, e3, p1⟩ := s 0 d acc st rfl p
    obtain ⟨out, st2, e4, p2⟩ := lc_inv P ds (acc ++ [y]) (m + 1) st1 p1 (by rw [List.length_append, List.length_cons, List.length_nil]; omega) fun k d acc st hd p => by
      have := s (k + 1) d acc st (by simpa using hd) (by rw [show m + (k + 1) = m + 1 + k by omega]; exact p)
      rw [show m + 1 + k + 1 = m + (k + 1) + 1 by omega]
      exact this
    exact ⟨out, st2, by rw [lc_step e1 e2 e3 (by omega)]; exact e4, by rw [List.length_cons, show m + (ds.length + 1) = m + 1 + ds.length by omega]; exact p2⟩
theorem lcM_step {fn : ExN} {ρ' : En} {st1 st2 : Sto} {acc : List (List Vl)} {row : List Vl} (e1 : gt (.d x) ρ = some ρ') (e2 : t ρ' st = .ok true st1) (e3 : fn ρ' st1 = .ok row st2) (hl : acc.length < 16777216) : lcLoopM gt t fn ρ (x :: ds) acc st = lcLoopM gt t fn ρ ds (acc ++ [row]) st2 := by
  show (match gt (.d x) ρ with | none => _ | some ρ' => _) = _
  rw [e1]
  show (match t ρ' st with | .ok true st1 => _ | .ok false st1 => _ | _ => _) = _
  rw [e2]
  show (match fn ρ' st1 with | .ok w st2 => _ | _ => _) = _
  rw [e3]
  exact if_pos (by rw [sizeLine_eq]; exact hl)
theorem lcM_map {fn : ExN} (φ : Vl → List Vl) : ∀ (ds : List Vl) (acc : List (List Vl)), acc.length + ds.length ≤ 16777216 → (∀ d ∈ ds, ∃ ρ', gt (.d d) ρ = some ρ' ∧ t ρ' st = .ok true st ∧ fn ρ' st = .ok (φ d) st) → lcLoopM gt t fn ρ ds acc st = .ok (acc ++ ds.map φ) st
  | [], acc, _, _ => by rw [List.map_nil, List.append_nil]; rfl
  | d :: ds, acc, hl, h => by
    rw [List.length_cons] at hl
    obtain ⟨ρ', e1, e2, e3⟩ := h d List.mem_cons_self
    rw [lcM_step e1 e2 e3 (by omega), lcM_map φ ds (acc ++ [φ d]) (by rw [List.length_append, List.length_cons, List.length_nil]; omega) fun d hd => h d (List.mem_cons_of_mem _ hd), List.map_cons, List.append_assoc]
    rfl
theorem tYes_ap : tYesF ρ st = .ok true st := (rfl)
end
end F
namespace F
open PySem PySem.Spec PyProof.Rows L2
theorem cut_set {st : Sto} {n : Nat} {c : Ce} : (st.set n c).take st.length = st.set n c := List.take_of_length_le (by rw [List.length_set]; exact Nat.le_refl _)
theorem cut_setold {st l : Sto} {n : Nat} {c : Ce} : (st.set n c ++ l).take st.length = st.set n c := by
  rw [show st.length = (st.set n c).length from (List.length_set).symm]
  exact List.take_left
end F
namespace F
open PySem PySem.Spec PyProof.Rows L2
section
variable {st : Sto} {x1 x2 x3 x4 x5 : Vl}
theorem lstK0 : lstK [] st = .ok [] st := lstK_ok (by simp)
theorem tupK0 : tupK [] st = .ok (.d (.tup [])) st := tupK_ok (by simp)
theorem lstK1 : lstK [x1] st = .ok [x1] st := lstK_ok (by simp)
theorem tupK1 : tupK [x1] st = .ok (.d (.tup [x1])) st := tupK_ok (by simp)
theorem lstK2 : lstK [x1, x2] st = .ok [x1, x2] st := lstK_ok (by simp)
theorem tupK2 : tupK [x1, x2] st = .ok (.d (.tup [x1, x2])) st := tupK_ok (by simp)
theorem lstK3 : lstK [x1, x2, x3] st = .ok [x1, x2, x3] st := lstK_ok (by simp)
theorem tupK3 : tupK [x1, x2, x3] st = .ok (.d (.tup [x1, x2, x3])) st := tupK_ok (by simp)
theorem lstK4 : lstK [x1, x2, x3, x4] st = .ok [x1, x2, x3, x4] st := lstK_ok (by simp)
theorem tupK4 : tupK [x1, x2, x3, x4] st = .ok (.d (.tup [x1, x2, x3, x4])) st := tupK_ok (by simp)
theorem lstK5 : lstK [x1, x2, x3, x4, x5] st = .ok [x1, x2, x3, x4, x5] st := lstK_ok (by simp)
theorem tupK5 : tupK [x1, x2, x3, x4, x5] st = .ok (.d (.tup [x1, x2, x3, x4, x5])) st := tupK_ok (by simp)
end
end F
namespace F
open PySem PySem.Spec PyProof.Rows L2
section
variable {st : Sto} {ρ : En} {gt : Tg} {t : Tst} {f : Ex} {α : Type} {n : Nat} {c : Ce} {l : Sto}
theorem lc_mapf {enc out : α → Vl} (xs : List α) (acc : List Vl) (hl : acc.length + xs.length ≤ 16777216) (h : ∀ x ∈ xs, ∃ ρ', gt (.d (enc x)) ρ = some ρ' ∧ t ρ' st = .ok true st ∧ f ρ' st = .ok (.d (out x)) st) : lcLoop gt t f ρ (xs.map enc) acc st = .ok (acc ++ xs.map out) st := by
  induction xs generalizing acc with
  | nil => rw [List.map_nil, List.map_nil, List.append_nil]; rfl
  | cons x xs ih =>
    rw [List.length_cons] at hl
    obtain ⟨ρ', e1, e2, e3⟩ := h x List.mem_cons_self
    rw [List.map_cons, lc_step e1 e2 e3 (by omega), ih (acc ++ [out x]) (by rw [List.length_append, List.length_cons, List.length_nil]; omega) fun y hy => h y (List.mem_cons_of_mem _ hy), List.map_cons, List.append_assoc]
    rfl
theorem lcM_mapf {fn : ExN} {enc : α → Vl} {out : α → List Vl} (xs : List α) (acc : List (List Vl)) (hl : acc.length + xs.length ≤ 16777216) (h : ∀ x ∈ xs, ∃ ρ', gt (.d (enc x)) ρ = some ρ' ∧ t ρ' st = .ok true st ∧ fn ρ' st = .ok (out x) st) : lcLoopM gt t fn ρ (xs.map enc) acc st = .ok (acc ++ xs.map out) st := by
  induction xs generalizing acc with
  | nil => rw [List.map_nil, List.map_nil, List.append_nil]; rfl
  | cons x xs ih =>
    rw [List.length_cons] at hl
    obtain ⟨ρ', e1, e2, e3⟩ := h x List.mem_cons_self
    rw [List.map_cons, lcM_step e1 e2 e3 (by omega), ih (acc ++ [out x]) (by rw [List.length_append, List.length_cons, List.length_nil]; omega) fun y hy => h y (List.mem_cons_of_mem _ hy), List.map_cons, List.append_assoc]
    rfl
/-- with the store: P tells of what came out so far -/
theorem lc_invf {β : Type} {enc : α → Vl} {out : β → Vl} (P : List β → Sto → Prop) (xs : List α) (acc : List β) (st : Sto) (p : P acc st) (hl : acc.length + xs.length ≤ 16777216)
    (h : ∀ (i : Nat) x acc st, xs[i]? = some x → acc.length ≤ 16777216 → P acc st → ∃ ρ' y st', gt (.d (enc x)) ρ = some ρ' ∧ t ρ' st = .ok true st ∧ f ρ' st = .ok (.d (out y)) st' ∧ P (acc ++ [y]) st') :
    ∃ acc' st', lcLoop gt t f ρ (xs.map enc) (acc.map out) st = .ok (acc'.map out) st' ∧ P acc' st' ∧ acc'.length = acc.length + xs.length := by
  induction xs generalizing acc st with
  | nil => exact ⟨acc, st, rfl, p, rfl⟩
  | cons x xs ih =>
    rw [List.length_cons] at hl
    obtain ⟨ρ', y, st1, e1, e2, e3, p1⟩ := h 0 x acc st rfl (by omega) p
    obtain ⟨acc', st2, e4, p2, l2⟩ := ih (acc ++ [y]) st1 p1 (by rw [List.length_append, List.length_cons, List.length_nil]; omega) fun i x acc st hi => h (i + 1) x acc st (by simpa using hi)
    refine ⟨acc', st2, ?_, p2, ?_⟩
    · rw [List.map_cons, lc_step e1 e2 e3 (by rw [List.length_map]; omega), ← e4, List.map_append]
      rfl
    · rw [l2, List.length_append, List.length_cons, List.length_nil, List.length_cons]; omega
theorem at_tail {j : Nat} : (st.set n c ++ l)[st.length + j]? = l[j]? := by
  rw [List.getElem?_append_right (by rw [List.length_set]; omega), List.length_set, Nat.add_sub_cancel_left]
theorem set_tail {j : Nat} {d : Ce} : (st.set n c ++ l).set (st.length + j) d = st.set n c ++ l.set j d := by
  rw [List.set_append_right _ _ (by rw [List.length_set]; omega), List.length_set, Nat.add_sub_cancel_left]
theorem len_tail : (st.set n c ++ l).length = st.length + l.length := by rw [List.length_append, List.length_set]
theorem nodup_on {β : Type} {g : α → β} {xs : List α} (h : ∀ x ∈ xs, ∀ y ∈ xs, g x = g y → x = y) (nd : xs.Nodup) : (xs.map g).Nodup := by
  induction xs with
  | nil => exact List.nodup_nil
  | cons x xs ih =>
    have n2 := List.nodup_cons.mp nd
    rw [List.map_cons]
    refine List.nodup_cons.mpr ⟨fun m => ?_, ih (fun a ha b hb => h a (List.mem_cons_of_mem _ ha) b (List.mem_cons_of_mem _ hb)) n2.2⟩
    obtain ⟨y, hy, e⟩ := List.mem_map.mp m
    rw [h y (List.mem_cons_of_mem _ hy) x List.mem_cons_self e] at hy
    exact n2.1 hy
theorem range_getD {d : α} (xs : List α) : ((List.range xs.length).map fun o => xs.getD o d) = xs := by
  apply List.ext_getElem?
  intro i
  rw [List.getElem?_map]
  by_cases h : i < xs.length
  · rw [List.getElem?_range h, List.getElem?_eq_getElem h]
    simp [List.getD, h]
  · rw [List.getElem?_eq_none (by rw [List.length_range]; omega), List.getElem?_eq_none (by omega)]
    rfl
end
end F
namespace F
open PySem PySem.Spec PyProof.Rows L2
theorem kIter_r {S : Sto} {m : Nat} {ds : List Vl} (h : S[m]? = some (.lst ds)) : kIter (.r m) S = .ok ds (S.set m (.frz ds)) := by
  have e : toD (.r m) S = .ok (.lst ds) (S.set m (.frz ds)) := by
    unfold toD
    simp only [h]
  unfold kIter
  rw [e]
  rfl
theorem kIter_f {S : Sto} {m : Nat} {ds : List Vl} (h : S[m]? = some (.frz ds)) : kIter (.r m) S = .ok ds S := by
  have e : toD (.r m) S = .ok (.lst ds) S := by
    unfold toD
    simp only [h]
  unfold kIter
  rw [e]
  rfl
theorem at_new {c d : Ce} {S l : Sto} {n : Nat} : (S.set n c ++ (l ++ [d]))[S.length + l.length]? = some d := by
  rw [at_tail, List.getElem?_append_right (Nat.le_refl _)]
  simp
end F
namespace F
open PySem PySem.Spec PyProof.Rows L2
section
variable {ρ : En} {gt : Tg} {t : Tst} {f : Ex} {α β : Type} {enc : α → Vl} {out : β → Vl}
/-- with the store: P tells of what is left and of what came out -/
theorem lc_rest (P : List α → List β → Sto → Prop) (h : ∀ x rest acc st, P (x :: rest) acc st → ∃ ρ' y st' st2, gt (.d (enc x)) ρ = some ρ' ∧ t ρ' st = .ok true st' ∧ f ρ' st' = .ok (.d (out y)) st2 ∧ P rest (acc ++ [y]) st2) :
    ∀ (xs : List α) (acc : List β) (st : Sto), P xs acc st → acc.length + xs.length ≤ 16777216 → ∃ acc' st', lcLoop gt t f ρ (xs.map enc) (acc.map out) st = .ok (acc'.map out) st' ∧ P [] acc' st'
  | [], acc, st, p, _ => ⟨acc, st, rfl, p⟩
  | x :: xs, acc, st, p, hl => by
    rw [List.length_cons] at hl
    obtain ⟨ρ', y, st1, st2, e1, e2, e3, p1⟩ := h x xs acc st p
    obtain ⟨acc', st3, e4, p2⟩ := lc_rest P h xs (acc ++ [y]) st2 p1 (by rw [List.length_append, List.length_cons, List.length_nil]; omega)
    refine ⟨acc', st3, ?_, p2⟩
    rw [List.map_cons, lc_step e1 e2 e3 (by rw [List.length_map]; omega), ← e4, List.map_append]
    rfl
/-- a loop, the like -/
theorem loop_rest {h : Vl → Sm} (P : List α → En → Sto → Prop) (s : ∀ x rest ρ st, P (x :: rest) ρ st → ∃ ρ' st', h (enc x) ρ st = .nx ρ' st' ∧ P rest ρ' st') : ∀ (xs : List α) (ρ : En) (st : Sto), P xs ρ st → ∃ ρ' st', loopS h (xs.map enc) ρ st = .nx ρ' st' ∧ P [] ρ' st'
  | [], ρ, st, p => ⟨ρ, st, rfl, p⟩
  | x :: xs, ρ, st, p => by
    obtain ⟨ρ1, st1, e1, p1⟩ := s x xs ρ st p
    obtain ⟨ρ2, st2, e2, p2⟩ := loop_rest P s xs ρ1 st1 p1
    exact ⟨ρ2, st2, by rw [List.map_cons, loop_nx e1]; exact e2, p2⟩
end
end F
namespace F
open PySem PySem.Spec PyProof.Rows L2
section
variable {κ : Type} [DecidableEq κ]
theorem putA_new {kvs : List (κ × Vl)} {k : κ} {d : Vl} (h : k ∉ kvs.map (·.1)) : putA kvs k d = kvs ++ [(k, d)] := by
  unfold putA
  rw [if_neg]
  intro e
  obtain ⟨kv, m, e⟩ := List.any_eq_true.mp e
  exact h (List.mem_map.mpr ⟨kv, m, of_decide_eq_true e⟩)
theorem getA_at {kvs : List (κ × Vl)} {i : Nat} {k : κ} {d : Vl} (nd : (kvs.map (·.1)).Nodup) (h : kvs[i]? = some (k, d)) : getA kvs k = some d := by
  induction kvs generalizing i with
  | nil => simp at h
  | cons kv kvs ih =>
    obtain ⟨k', d'⟩ := kv
    rw [List.map_cons] at nd
    have n2 := List.nodup_cons.mp nd
    cases i with
    | zero =>
      simp at h
      obtain ⟨rfl, rfl⟩ := h
      simp [getA]
    | succ i =>
      have h' : kvs[i]? = some (k, d) := by simpa using h
      have hk : ¬ k' = k := fun e => n2.1 (by rw [e]; exact List.mem_map.mpr ⟨(k, d), List.mem_of_getElem? h', rfl⟩)
      have := ih n2.2 h'
      simpa [getA, hk] using this
variable {kk : KK κ} {ρ : En} {gt : Tg} {t : Tst} {fk fv : Ex} {α : Type} {enc : α → Vl} {st : Sto}
theorem eDc_ap {it : Itr} {own : List Nat} : eDc kk it gt t fk fv own ρ st = (it ρ st).bind fun ds st1 => (dcLoop kk gt t fk fv (wipeE own ρ) ds [] st1).bind fun acc st2 => .ok (.r st2.length) (st2 ++ [kk.ce acc]) := (rfl)
theorem dc_map {key : α → κ} {kv : α → Vl} {val : α → Vl} : ∀ (xs : List α) (acc : List (κ × Vl)), acc.length + xs.length ≤ 16777216 → (acc.map (·.1) ++ xs.map key).Nodup → (∀ x, kk.kf (kv x) = some (key x)) → (∀ x ∈ xs, ∃ ρ', gt (.d (enc x)) ρ = some ρ' ∧ t ρ' st = .ok true st ∧ fk ρ' st = .ok (.d (kv x)) st ∧ fv ρ' st = .ok (.d (val x)) st) →
    dcLoop kk gt t fk fv ρ (xs.map enc) acc st = .ok (acc ++ xs.map fun x => (key x, val x)) st
  | [], acc, _, _, _, _ => by rw [List.map_nil, List.map_nil, List.append_nil]; rfl
  | x :: xs, acc, hl, nd, hk, h => by
    rw [List.length_cons] at hl
    obtain ⟨ρ', e1, e2, e3, e4⟩ := h x List.mem_cons_self
    have new : key x ∉ acc.map (·.1) := fun m => by
      rw [List.map_cons] at nd
      exact (List.nodup_append.mp nd).2.2 _ m _ List.mem_cons_self rfl
    have step : dcLoop kk gt t fk fv ρ (enc x :: xs.map enc) acc st = dcLoop kk gt t fk fv ρ (xs.map enc) (acc ++ [(key x, val x)]) st := by
      rw [← putA_new (d := val x) new]
      show (match gt (.d (enc x)) ρ with | none => _ | some ρ' => _) = _
      rw [e1]
      show (match t ρ' st with | .ok true st1 => _ | .ok false st1 => _ | _ => _) = _
      rw [e2]
      show (match fk ρ' st with | .ok (.d x) st2 => _ | _ => _) = _
      rw [e3]
      show (match fv ρ' st with | .ok w st3 => _ | _ => _) = _
      rw [e4]
      show (match kk.kf (kv x) with | some k => _ | none => _) = _
      rw [hk x]
      exact if_pos (by rw [sizeLine_eq]; omega)
    rw [List.map_cons, step, dc_map xs _ (by rw [List.length_append, List.length_cons, List.length_nil]; omega) (by
      rw [List.map_append, List.append_assoc]
      rw [List.map_cons] at nd
      exact nd) hk fun y hy => h y (List.mem_cons_of_mem _ hy), List.map_cons, List.append_assoc]
    rfl
end
end F
namespace F
open PySem PySem.Spec PyProof.Rows L2
theorem at_app {st l : Sto} {j : Nat} : (st ++ l)[st.length + j]? = l[j]? := by
  rw [List.getElem?_append_right (by omega), Nat.add_sub_cancel_left]
theorem set_app {st l : Sto} {j : Nat} {d : Ce} : (st ++ l).set (st.length + j) d = st ++ l.set j d := by
  rw [List.set_append_right _ _ (by omega), Nat.add_sub_cancel_left]
theorem len_app {st l : Sto} : (st ++ l).length = st.length + l.length := List.length_append
theorem at_last {st l : Sto} {c : Ce} : (st ++ (l ++ [c]))[st.length + l.length]? = some c := by
  rw [at_app, List.getElem?_append_right (Nat.le_refl _)]
  simp
theorem set_last {st l : Sto} {c d : Ce} : (st ++ (l ++ [c])).set (st.length + l.length) d = st ++ (l ++ [d]) := by
  rw [set_app, List.set_append_right _ _ (Nat.le_refl _)]
  simp
end F
namespace F
open PySem PySem.Spec PyProof.Rows L2
theorem repS_l {ds : List Vl} {i : Int} {st : Sto} (h0 : -(2 ^ 63) ≤ i ∧ i < 2 ^ 63) (h : ds.length * i.toNat ≤ 16777216) : repS (.d (.lst ds)) (.d (.int i)) st = .ok (List.replicate i.toNat ds).flatten st := if_pos ⟨h0, by rw [sizeLine_eq]; exact h⟩
theorem repS_1 {x : Vl} {s : Nat} {st : Sto} (h : s ≤ 1000000) : repS (.d (.lst [x])) (.d (.int s)) st = .ok (List.replicate s x) st := by
  rw [repS_l ⟨by omega, by omega⟩ (by rw [List.length_cons, List.length_nil, Int.toNat_natCast]; omega), Int.toNat_natCast]
  congr 1
  induction s with
  | zero => rfl
  | succ s ih => rw [List.replicate_succ, List.replicate_succ, List.flatten_cons, ih (by omega)]; rfl
end F
namespace F
open PySem PySem.Spec PyProof.Rows L2
theorem sRetRev_ap {f : Ex} {ρ : En} {st : Sto} : sRetRev f ρ st = sOf (f ρ st) ρ kRev := (rfl)
theorem kRev_m {n : Nat} {rows : List (List Vl)} {st : Sto} (h : st[n]? = some (.mat rows)) : kRev (.r n) st = .rt (.w n 0) st := by
  unfold kRev
  rw [mat_r h]
end F

namespace K42
open PySem PySem.Spec PyProof.Rows L2 F
/-! ## what the defs do -/
def k_SIDES : List Vl := [.int 2, .int 3]
def N_x_law_well : List PySem.Str := ["script", "place", "cell"]
def b_x_law_well : Sm := (sSeq (sAsg (eIf (tOf (eBin ltS (eVar 1) (eCB cLenA (aCons (eVar 0) aNil)))) (eCB cInt (aCons (eBin ixA (eVar 0) (eVar 1)) aNil)) (eBin addS (eBin mulS (eVar 1) (eC (.int 104723))) (eBin mulS (eCB cLenA (aCons (eVar 0) aNil)) (eC (.int 15485863))))) (gN 2)) (sSeq (sRet (eFre (nLst (aCons (eCB (cI2 maxI) (aCons (eC (.int 0)) (aCons (eBin subS (eCB (cI1 absI) (aCons (eVar 2) aNil)) (eBin powS (eC (.int 10)) (eC (.int 18)))) aNil))) (aCons (eBin modS (eCB cInt (aCons (eBin addS (eBin addS (eBin mulS (eVar 2) (eC (.int 86028157))) (eBin mulS (eVar 1) (eC (.int 179424691)))) (eC (.int 7919))) aNil)) (eBin addS (eBin powS (eC (.int 10)) (eC (.int 25))) (eC (.int 13)))) (aCons (eC (.int 0)) aNil)))))) sNil))
def m_x_law_well : Fn := fnS 3 b_x_law_well
def N_x_law_draw : List PySem.Str := ["well", "many", "found", "mixed"]
def b_x_law_draw : Sm := (sSeq (sIf (tOf (eBin gtS (eBin ixA (eVar 0) (eC (.int 0))) (eC (.int 0)))) (sSeq (sAsg (eBin modS (eCB cInt (aCons (eBin ixA (eVar 0) (eC (.int 0))) aNil)) (eVar 1)) (gN 2)) (sSeq (sSetI (eBin divS (eBin ixA (eVar 0) (eC (.int 0))) (eVar 1)) (eVar 0) (eC (.int 0))) (sSeq (sRet (eVar 2)) sNil))) sNil) (sSeq (sSetI (eBin addS (eBin ixA (eVar 0) (eC (.int 2))) (eC (.int 1))) (eVar 0) (eC (.int 2))) (sSeq (sAsg (eBin modS (eCB cInt (aCons (eBin powS (eBin addS (eBin ixA (eVar 0) (eC (.int 1))) (eBin mulS (eC (.int 49979693)) (eBin ixA (eVar 0) (eC (.int 2))))) (eC (.int 3))) aNil)) (eBin addS (eBin powS (eC (.int 10)) (eC (.int 29))) (eC (.int 319)))) (gN 3)) (sSeq (sAsg (eBin modS (eCB cInt (aCons (eBin powS (eBin addS (eVar 3) (eC (.int 2038074751))) (eC (.int 3))) aNil)) (eBin addS (eBin powS (eC (.int 10)) (eC (.int 33))) (eC (.int 33)))) (gN 3)) (sSeq (sRet (eBin modS (eCB cInt (aCons (eBin divS (eVar 3) (eBin powS (eC (.int 10)) (eC (.int 6)))) aNil)) (eVar 1))) sNil)))))
def m_x_law_draw : Fn := fnS 4 b_x_law_draw
def N_x_law_order : List PySem.Str := ["well", "many", "left", "found", "turn"]
def l_x_law_order_1 : Sm := (sSeq (sExp (eM1 kApp (eVar 3) (eM1 kPopAt (eVar 2) (eSet (eCall m_x_law_draw (aCons (eVar 0) (aCons (eCB cLenA (aCons (eVar 2) aNil)) aNil))))))) sNil)
def b_x_law_order : Sm := (sSeq (sPar [2, 3] (aCons (eSto (nLR1 (eVar 1))) (aCons (eSto (nLst aNil)) aNil))) (sSeq (sFor (itOf kRg1 (aCons (eVar 1) aNil)) (gN 4) l_x_law_order_1) (sSeq (sRet (eVar 3)) sNil)))
def m_x_law_order : Fn := fnS 5 b_x_law_order
def N_x_law_kind : List PySem.Str := ["well", "b", "many", "way", "places", "at", "turned", "x", "y"]
def c_x_law_kind_1 : ExN := (nLc (itAny (eVar 4)) (gT (gC (gN 7) (gC (gN 8) gE))) tYesF (eTup (aCons (eVar 7) (aCons (eVar 8) (aCons (eSet (eCall m_x_law_draw (aCons (eVar 0) (aCons (eVar 2) aNil)))) aNil)))) [7, 8])
def c_x_law_kind_2 : ExN := (nLc (itAny (eVar 4)) (gT (gC (gN 7) (gC (gN 8) gE))) tYesF (eTup (aCons (eVar 8) (aCons (eVar 7) aNil))) [7, 8])
def c_x_law_kind_3 : ExN := (nLc (itAny (eVar 4)) (gT (gC (gN 7) (gC (gN 8) gE))) tYesF (eTup (aCons (eVar 8) (aCons (eVar 7) aNil))) [7, 8])
def c_x_law_kind_4 : ExN := (nLc (itAny (eVar 4)) (gT (gC (gN 7) (gC (gN 8) gE))) tYesF (eTup (aCons (eIf (tOf (eBin eqS (eBin modS (eCB cInt (aCons (eVar 8) aNil)) (eC (.int 2))) (eC (.int 0)))) (eVar 7) (eBin subS (eBin subS (eVar 1) (eC (.int 1))) (eVar 7))) (aCons (eVar 8) aNil))) [7, 8])
def c_x_law_kind_5 : ExN := (nLc (itAny (eSet (eCall m_x_law_order (aCons (eVar 0) (aCons (eBin mulS (eVar 1) (eVar 1)) aNil))))) (gN 5) tYesF (eBin ixA (eVar 4) (eVar 5)) [5])
def l_x_law_kind_1 : Sm := (sSeq (sExp (eM1 kApp (eVar 4) (eTup (aCons (eBin modS (eCB cInt (aCons (eVar 5) aNil)) (eVar 1)) (aCons (eBin divS (eVar 5) (eVar 1)) aNil))))) sNil)
def b_x_law_kind : Sm := (sSeq (sPar [3, 4] (aCons (eSet (eCall m_x_law_draw (aCons (eVar 0) (aCons (eC (.int 4)) aNil)))) (aCons (eSto (nLst aNil)) aNil))) (sSeq (sFor (itOf kRg1 (aCons (eBin mulS (eVar 1) (eVar 1)) aNil)) (gN 5) l_x_law_kind_1) (sSeq (sIf (tOf (eBin ltS (eVar 3) (eC (.int 2)))) (sSeq (sAsg (eSto c_x_law_kind_5) (gN 4)) sNil) sNil) (sSeq (sIf (tOf (eBin eqS (eVar 3) (eC (.int 2)))) (sSeq (sAsg (eSto c_x_law_kind_4) (gN 4)) (sSeq (sAsg (eSet (eCall m_x_law_draw (aCons (eVar 0) (aCons (eC (.int 2)) aNil)))) (gN 6)) (sSeq (sAsg (eAlc (eIf (tOf (eBin eqS (eVar 6) (eC (.int 1)))) (eFre c_x_law_kind_3) (eVar 4))) (gN 4)) sNil))) sNil) (sSeq (sRet (eCB cTup (aCons (eFrz c_x_law_kind_1) aNil))) sNil)))))
def m_x_law_kind : Fn := fnS 9 b_x_law_kind
def N_x_law_book : List PySem.Str := ["well", "most", "b", "many", "kind"]
def c_x_law_book_1 : ExN := (nLc (itOf kRg1 (aCons (eVar 3) aNil)) (gN 4) tYesF (eSet (eCall m_x_law_kind (aCons (eVar 0) (aCons (eVar 2) (aCons (eVar 3) aNil))))) [4])
def b_x_law_book : Sm := (sSeq (sPar [2, 3] (aCons (eBin addS (eC (.int 2)) (eSet (eCall m_x_law_draw (aCons (eVar 0) (aCons (eC (.int 2)) aNil))))) (aCons (eBin addS (eC (.int 1)) (eSet (eCall m_x_law_draw (aCons (eVar 0) (aCons (eVar 1) aNil))))) aNil))) (sSeq (sRet (eTup (aCons (eVar 2) (aCons (eCB cTup (aCons (eFrz c_x_law_book_1) aNil)) aNil)))) sNil))
def m_x_law_book : Fn := fnS 5 b_x_law_book
def N_x_law_power : List PySem.Str := ["b", "d", "found", "turn"]
def l_x_law_power_1 : Sm := (sSeq (sAsg (eBin mulS (eVar 2) (eVar 0)) (gN 2)) sNil)
def b_x_law_power : Sm := (sSeq (sAsg (eC (.int 1)) (gN 2)) (sSeq (sFor (itOf kRg1 (aCons (eVar 1) aNil)) (gN 3) l_x_law_power_1) (sSeq (sRet (eVar 2)) sNil)))
def m_x_law_power : Fn := fnS 4 b_x_law_power
def N_x_law_whole : List PySem.Str := ["book", "d", "b", "kinds", "squares", "turn", "finer", "x", "y", "kind", "right", "up", "own"]
def c_x_law_whole_1 : ExN := (nLc (itAny (eVar 4)) (gT (gC (gN 7) (gC (gN 8) (gC (gN 9) gE)))) tYesF (eTup (aCons (eVar 7) (aCons (eVar 8) aNil))) [7, 8, 9])
def c_x_law_whole_2 : ExN := (nLc (itAny (eBin ixA (eVar 3) (eVar 9))) (gT (gC (gN 10) (gC (gN 11) (gC (gN 12) gE)))) tYesF (eTup (aCons (eBin addS (eBin mulS (eVar 2) (eVar 7)) (eVar 10)) (aCons (eBin addS (eBin mulS (eVar 2) (eVar 8)) (eVar 11)) (aCons (eVar 12) aNil)))) [10, 11, 12])
def l_x_law_whole_1 : Sm := (sSeq (sExp (eM1 kExt (eVar 6) (eFrz c_x_law_whole_2))) sNil)
def l_x_law_whole_2 : Sm := (sSeq (sAsg (eSto (nLst aNil)) (gN 6)) (sSeq (sFor (itAny (eVar 4)) (gT (gC (gN 7) (gC (gN 8) (gC (gN 9) gE)))) l_x_law_whole_1) (sSeq (sAsg (eVar 6) (gN 4)) sNil)))
def b_x_law_whole : Sm := (sSeq (sAsg (eVar 0) (gT (gC (gN 2) (gC (gN 3) gE)))) (sSeq (sAsg (eFrz (nLst (aCons (eTup (aCons (eC (.int 0)) (aCons (eC (.int 0)) (aCons (eC (.int 0)) aNil)))) aNil))) (gN 4)) (sSeq (sFor (itOf kRg1 (aCons (eVar 1) aNil)) (gN 5) l_x_law_whole_2) (sSeq (sRet (eFre c_x_law_whole_1)) sNil))))
def m_x_law_whole : Fn := fnS 13 b_x_law_whole
def N_x_law_due : List PySem.Str := ["book", "d", "side", "numbers", "number", "cell", "signs", "rows", "y", "line", "below", "x", "here"]
def c_x_law_due_1 : ExN := (nLc (itOf kRg1 (aCons (eVar 2) aNil)) (gN 11) tYesF (eBin kGet (eVar 3) (eTup (aCons (eVar 11) (aCons (eVar 8) aNil)))) [11])
def l_x_law_due_1 : Sm := (sSeq (sAsg (eBin kGet (eVar 3) (eTup (aCons (eVar 11) (aCons (eVar 8) aNil)))) (gN 12)) (sSeq (sAsg (eBin addS (eVar 9) (eC (.str "o"))) (gN 9)) (sSeq (sIf (tOf (eBin ltS (eVar 11) (eBin subS (eVar 2) (eC (.int 1))))) (sSeq (sAsg (eBin addS (eVar 9) (eIf (tOf (eBin eqS (eCB (cI1 absI) (aCons (eBin subS (eBin kGet (eVar 3) (eTup (aCons (eBin addS (eVar 11) (eC (.int 1))) (aCons (eVar 8) aNil)))) (eVar 12)) aNil)) (eC (.int 1)))) (eC (.str "-")) (eC (.str " ")))) (gN 9)) sNil) sNil) (sSeq (sIf (tOf (eBin gtS (eVar 8) (eC (.int 0)))) (sSeq (sAsg (eBin addS (eBin addS (eVar 10) (eIf (tOf (eBin eqS (eCB (cI1 absI) (aCons (eBin subS (eBin kGet (eVar 3) (eTup (aCons (eVar 11) (aCons (eBin subS (eVar 8) (eC (.int 1))) aNil)))) (eVar 12)) aNil)) (eC (.int 1)))) (eC (.str "|")) (eC (.str " ")))) (eBin mulS (eC (.str " ")) (eCB cInt (aCons (eBin ltS (eVar 11) (eBin subS (eVar 2) (eC (.int 1)))) aNil)))) (gN 10)) sNil) sNil) sNil))))
def l_x_law_due_2 : Sm := (sSeq (sAsg (eTup (aCons (eC (.str "")) (aCons (eC (.str "")) aNil))) (gT (gC (gN 9) (gC (gN 10) gE)))) (sSeq (sFor (itOf kRg1 (aCons (eVar 2) aNil)) (gN 11) l_x_law_due_1) (sSeq (sAsg (eBin addS (eBin addS (eVar 6) (eFrz (nLst (aCons (eVar 9) aNil)))) (eBin mulS (eFrz (nLst (aCons (eVar 10) aNil))) (eCB cInt (aCons (eBin gtS (eVar 8) (eC (.int 0))) aNil)))) (gN 6)) (sSeq (sExp (eM1 kApp (eVar 7) (eFrz c_x_law_due_1))) sNil))))
def l_x_law_due_3 : Sm := (sSeq (sPutD (eVar 4) (eVar 3) (eVar 5)) sNil)
def b_x_law_due : Sm := (sSeq (sPar [2, 3] (aCons (eSet (eCall m_x_law_power (aCons (eBin ixA (eVar 0) (eC (.int 0))) (aCons (eVar 1) aNil)))) (aCons eNewT aNil))) (sSeq (sFor (itOf kEnum (aCons (eSet (eCall m_x_law_whole (aCons (eVar 0) (aCons (eVar 1) aNil)))) aNil)) (gT (gC (gN 4) (gC (gN 5) gE))) l_x_law_due_3) (sSeq (sPar [6, 7] (aCons (eFrz (nLst aNil)) (aCons (eSto (nLst aNil)) aNil))) (sSeq (sFor (itOf kRg3 (aCons (eBin subS (eVar 2) (eC (.int 1))) (aCons (eNeg (eC (.int 1))) (aCons (eNeg (eC (.int 1))) aNil)))) (gN 8) l_x_law_due_2) (sSeq (sRet (eTup (aCons (eVar 6) (aCons (eVar 7) aNil)))) sNil)))))
def m_x_law_due : Fn := fnS 13 b_x_law_due
def N_side_of : List PySem.Str := ["cells", "x", "y"]
def c_side_of_1 : ExN := (nLc (itAny (eVar 0)) (gT (gC (gN 1) (gC (gN 2) gE))) tYesF (eVar 1) [1, 2])
def b_side_of : Sm := (sSeq (sRet (eBin addS (eC (.int 1)) (eCB (cInts maxL) (aCons (eFrz c_side_of_1) aNil)))) sNil)
def m_side_of : Fn := fnS 3 b_side_of
def N_signs_of : List PySem.Str := ["cells", "wide", "rows", "one", "other", "far", "y", "x"]
def l_signs_of_1 : Sm := (sSeq (sAsg (eTup (aCons (eCB (cI1 absI) (aCons (eBin subS (eBin ixA (eVar 3) (eC (.int 0))) (eBin ixA (eVar 4) (eC (.int 0)))) aNil)) (aCons (eCB (cI1 absI) (aCons (eBin subS (eBin ixA (eVar 3) (eC (.int 1))) (eBin ixA (eVar 4) (eC (.int 1)))) aNil)) aNil))) (gN 5)) (sSeq (sIf (tOf (eBin eqS (eVar 5) (eTup (aCons (eC (.int 1)) (aCons (eC (.int 0)) aNil))))) (sSeq (sSetI (eC (.str "-")) (eBin ixA (eVar 2) (eBin mulS (eC (.int 2)) (eBin ixA (eVar 3) (eC (.int 1))))) (eBin addS (eBin ixA (eVar 3) (eC (.int 0))) (eBin ixA (eVar 4) (eC (.int 0))))) sNil) sNil) (sSeq (sIf (tOf (eBin eqS (eVar 5) (eTup (aCons (eC (.int 0)) (aCons (eC (.int 1)) aNil))))) (sSeq (sSetI (eC (.str "|")) (eBin ixA (eVar 2) (eBin addS (eBin ixA (eVar 3) (eC (.int 1))) (eBin ixA (eVar 4) (eC (.int 1))))) (eBin mulS (eC (.int 2)) (eBin ixA (eVar 3) (eC (.int 0))))) sNil) sNil) sNil)))
def c_signs_of_1 : ExN := (nLc (itOf kRg1 (aCons (eVar 1) aNil)) (gN 7) tYesF (eIf (tAndF (tOf (eBin eqS (eBin modS (eVar 7) (eC (.int 2))) (eC (.int 0)))) (tOf (eBin eqS (eBin modS (eVar 6) (eC (.int 2))) (eC (.int 0))))) (eC (.str "o")) (eC (.str " "))) [7])
def c_signs_of_2 : ExM := (nLcM (itOf kRg1 (aCons (eVar 1) aNil)) (gN 6) tYesF c_signs_of_1 [6])
def b_signs_of : Sm := (sSeq (sAsg (eBin subS (eBin mulS (eC (.int 2)) (eSet (eCall m_side_of (aCons (eVar 0) aNil)))) (eC (.int 1))) (gN 1)) (sSeq (sAsg (fun ρ st => storedM (c_signs_of_2 ρ st)) (gN 2)) (sSeq (sFor (itOf kZip (aCons (eVar 0) (aCons (eSet (eSl (eVar 0) (pSome (eC (.int 1))) pNone)) aNil))) (gT (gC (gN 3) (gC (gN 4) gE))) l_signs_of_1) (sSeq (sRet (eVar 2)) sNil))))
def m_signs_of : Fn := fnS 8 b_signs_of
def N_is_pair : List PySem.Str := ["value"]
def b_is_pair : Sm := (sSeq (sRet (eAnd (eIsi (eVar 0) "tuple") (eBin eqS (eCB cLenA (aCons (eVar 0) aNil)) (eC (.int 2))))) sNil)
def m_is_pair : Fn := fnS 1 b_is_pair
def N_is_integer : List PySem.Str := ["value"]
def b_is_integer : Sm := (sSeq (sRet (eAnd (eIsi (eVar 0) "int") (eNot (eIsi (eVar 0) "bool")))) sNil)
def m_is_integer : Fn := fnS 1 b_is_integer
def N_is_natural : List PySem.Str := ["value"]
def b_is_natural : Sm := (sSeq (sRet (eAnd (eSet (eCall m_is_integer (aCons (eVar 0) aNil))) (eBin geS (eVar 0) (eC (.int 0))))) sNil)
def m_is_natural : Fn := fnS 1 b_is_natural
def N_is_below : List PySem.Str := ["value", "many"]
def b_is_below : Sm := (sSeq (sRet (eAnd (eSet (eCall m_is_natural (aCons (eVar 0) aNil))) (eBin ltS (eVar 0) (eVar 1)))) sNil)
def m_is_below : Fn := fnS 2 b_is_below
def N_is_part : List PySem.Str := ["b", "many", "told"]
def b_is_part : Sm := (sSeq (sIf (tOrF (tNotF (tOf (eIsi (eVar 2) "tuple"))) (tOf (eBin neS (eCB cLenA (aCons (eVar 2) aNil)) (eC (.int 3))))) (sSeq (sRet (eC (.bl false))) sNil) sNil) (sSeq (sRet (eAnd (eSet (eCall m_is_below (aCons (eBin ixA (eVar 2) (eC (.int 0))) (aCons (eVar 0) aNil)))) (eAnd (eSet (eCall m_is_below (aCons (eBin ixA (eVar 2) (eC (.int 1))) (aCons (eVar 0) aNil)))) (eSet (eCall m_is_below (aCons (eBin ixA (eVar 2) (eC (.int 2))) (aCons (eVar 1) aNil))))))) sNil))
def m_is_part : Fn := fnS 3 b_is_part
def N_is_kind_of : List PySem.Str := ["b", "many", "told", "part"]
def c_is_kind_of_1 : ExN := (nLc (itAny (eVar 2)) (gN 3) tYesF (eSet (eCall m_is_part (aCons (eVar 0) (aCons (eVar 1) (aCons (eVar 3) aNil))))) [3])
def b_is_kind_of : Sm := (sSeq (sIf (tOrF (tNotF (tOf (eIsi (eVar 2) "tuple"))) (tOrF (tOf (eBin neS (eCB cLenA (aCons (eVar 2) aNil)) (eBin mulS (eVar 0) (eVar 0)))) (tNotF (tOf (eCB (cBls fun bs => bs.all id) (aCons (eFrz c_is_kind_of_1) aNil)))))) (sSeq (sRet (eC (.bl false))) sNil) sNil) (sSeq (sRet (eBin eqS (eCB cLenA (aCons (eDc kkT (itAny (eVar 2)) (gN 3) tYesF (eSet (eSl (eVar 3) pNone (pSome (eC (.int 2))))) (eC (.bl true)) [3]) aNil)) (eBin mulS (eVar 0) (eVar 0)))) sNil))
def m_is_kind_of : Fn := fnS 4 b_is_kind_of
def N_is_book : List PySem.Str := ["told", "kind"]
def c_is_book_1 : ExN := (nLc (itAny (eBin ixA (eVar 0) (eC (.int 1)))) (gN 1) tYesF (eSet (eCall m_is_kind_of (aCons (eBin ixA (eVar 0) (eC (.int 0))) (aCons (eCB cLenA (aCons (eBin ixA (eVar 0) (eC (.int 1))) aNil)) (aCons (eVar 1) aNil))))) [1])
def b_is_book : Sm := (sSeq (sIf (tOrF (tNotF (tOf (eSet (eCall m_is_pair (aCons (eVar 0) aNil))))) (tOrF (tNotF (tOf (eSet (eCall m_is_integer (aCons (eBin ixA (eVar 0) (eC (.int 0))) aNil))))) (tOf (eBin (inS true) (eBin ixA (eVar 0) (eC (.int 0))) (eC (.ktp k_SIDES)))))) (sSeq (sRet (eC (.bl false))) sNil) sNil) (sSeq (sIf (tOrF (tNotF (tOf (eIsi (eBin ixA (eVar 0) (eC (.int 1))) "tuple"))) (tOf (eBin eqS (eCB cLenA (aCons (eBin ixA (eVar 0) (eC (.int 1))) aNil)) (eC (.int 0))))) (sSeq (sRet (eC (.bl false))) sNil) sNil) (sSeq (sRet (eCB (cBls fun bs => bs.all id) (aCons (eFrz c_is_book_1) aNil))) sNil)))
def m_is_book : Fn := fnS 2 b_is_book
def N_check_book : List PySem.Str := ["book"]
def b_check_book : Sm := (sSeq (sIf (tNotF (tOf (eSet (eCall m_is_book (aCons (eVar 0) aNil))))) (sSeq sBad sNil) sNil) sNil)
def m_check_book : Fn := fnS 1 b_check_book
def N_check_depth : List PySem.Str := ["d"]
def b_check_depth : Sm := (sSeq (sIf (tNotF (tOf (eSet (eCall m_is_natural (aCons (eVar 0) aNil))))) (sSeq sBad sNil) sNil) sNil)
def m_check_depth : Fn := fnS 1 b_check_depth
def N_power : List PySem.Str := ["b", "n", "found", "turn"]
def l_power_1 : Sm := (sSeq (sAsg (eBin mulS (eVar 2) (eVar 0)) (gN 2)) sNil)
def b_power : Sm := (sSeq (sAsg (eC (.int 1)) (gN 2)) (sSeq (sFor (itOf kRg1 (aCons (eVar 1) aNil)) (gN 3) l_power_1) (sSeq (sRet (eVar 2)) sNil)))
def m_power : Fn := fnS 4 b_power
def N_how_many_cells : List PySem.Str := ["book", "d"]
def b_how_many_cells : Sm := (sSeq (sRet (eCall m_power (aCons (eBin mulS (eBin ixA (eVar 0) (eC (.int 0))) (eBin ixA (eVar 0) (eC (.int 0)))) (aCons (eVar 1) aNil)))) sNil)
def m_how_many_cells : Fn := fnS 2 b_how_many_cells
def N_cells_each_way : List PySem.Str := ["book", "d"]
def b_cells_each_way : Sm := (sSeq (sRet (eCall m_power (aCons (eBin ixA (eVar 0) (eC (.int 0))) (aCons (eVar 1) aNil)))) sNil)
def m_cells_each_way : Fn := fnS 2 b_cells_each_way
def N_way_to : List PySem.Str := ["book", "kind", "d", "number", "wide", "many", "left", "low", "kinds", "turn", "x", "y"]
def l_way_to_1 : Sm := (sSeq (sPar [4, 5] (aCons (eBin divS (eVar 4) (eBin ixA (eVar 0) (eC (.int 0)))) (aCons (eBin divS (eVar 5) (eBin mulS (eBin ixA (eVar 0) (eC (.int 0))) (eBin ixA (eVar 0) (eC (.int 0))))) aNil))) (sSeq (sAsg (eBin ixA (eBin ixA (eBin ixA (eVar 0) (eC (.int 1))) (eVar 1)) (eBin divS (eVar 3) (eVar 5))) (gT (gC (gN 10) (gC (gN 11) (gC (gN 1) gE))))) (sSeq (sPar [6, 7, 3] (aCons (eBin addS (eVar 6) (eBin mulS (eVar 10) (eVar 4))) (aCons (eBin addS (eVar 7) (eBin mulS (eVar 11) (eVar 4))) (aCons (eBin modS (eVar 3) (eVar 5)) aNil)))) (sSeq (sExp (eM1 kApp (eVar 8) (eVar 1))) sNil))))
def b_way_to : Sm := (sSeq (sPar [4, 5] (aCons (eSet (eCall m_cells_each_way (aCons (eVar 0) (aCons (eVar 2) aNil)))) (aCons (eSet (eCall m_how_many_cells (aCons (eVar 0) (aCons (eVar 2) aNil)))) aNil))) (sSeq (sPar [6, 7, 8] (aCons (eC (.int 0)) (aCons (eC (.int 0)) (aCons (eSto (nLst (aCons (eVar 1) aNil))) aNil)))) (sSeq (sFor (itOf kRg1 (aCons (eVar 2) aNil)) (gN 9) l_way_to_1) (sSeq (sRet (eTup (aCons (eTup (aCons (eVar 6) (aCons (eVar 7) aNil))) (aCons (eCB cTup (aCons (eVar 8) aNil)) aNil)))) sNil))))
def m_way_to : Fn := fnS 12 b_way_to
def N_cell_in : List PySem.Str := ["book", "kind", "d", "number"]
def b_cell_in : Sm := (sSeq (sRet (eBin ixA (eSet (eCall m_way_to (aCons (eVar 0) (aCons (eVar 1) (aCons (eVar 2) (aCons (eVar 3) aNil)))))) (eC (.int 0)))) sNil)
def m_cell_in : Fn := fnS 4 b_cell_in
def N_thread_of : List PySem.Str := ["book", "kind", "d", "first", "many", "behind", "number"]
def c_thread_of_1 : ExN := (nLc (itOf kRg2 (aCons (eVar 3) (aCons (eVar 5) aNil))) (gN 6) tYesF (eSet (eCall m_cell_in (aCons (eVar 0) (aCons (eVar 1) (aCons (eVar 2) (aCons (eVar 6) aNil)))))) [6])
def b_thread_of : Sm := (sSeq (sAsg (eCB (cI2 minI) (aCons (eBin addS (eVar 3) (eVar 4)) (aCons (eSet (eCall m_how_many_cells (aCons (eVar 0) (aCons (eVar 2) aNil)))) aNil))) (gN 5)) (sSeq (sRet (eFre c_thread_of_1)) sNil))
def m_thread_of : Fn := fnS 7 b_thread_of
def N_whole : List PySem.Str := ["book", "d"]
def b_whole : Sm := (sSeq (sExp (eCall m_check_book (aCons (eVar 0) aNil))) (sSeq (sExp (eCall m_check_depth (aCons (eVar 1) aNil))) (sSeq (sRet (eCall m_thread_of (aCons (eVar 0) (aCons (eC (.int 0)) (aCons (eVar 1) (aCons (eC (.int 0)) (aCons (eSet (eCall m_how_many_cells (aCons (eVar 0) (aCons (eVar 1) aNil)))) aNil))))))) sNil)))
def m_whole : Fn := fnS 2 b_whole
def N_drawn : List PySem.Str := ["book", "d", "row"]
def c_drawn_1 : ExN := (nLc (itAny (eFrz (nRev (eSet (eCall m_signs_of (aCons (eSet (eCall m_whole (aCons (eVar 0) (aCons (eVar 1) aNil)))) aNil)))))) (gN 2) tYesF (eJoin (eC (.str "")) (eVar 2)) [2])
def b_drawn : Sm := (sSeq (sRet (eFre c_drawn_1)) sNil)
def m_drawn : Fn := fnS 3 b_drawn
def N_numbers_drawn : List PySem.Str := ["book", "d", "cells", "rows", "number", "x", "y"]
def l_numbers_drawn_1 : Sm := (sSeq (sSetI (eVar 4) (eBin ixA (eVar 3) (eVar 6)) (eVar 5)) sNil)
def c_numbers_drawn_1 : ExM := (nLcM (itOf kRg1 (aCons (eSet (eCall m_side_of (aCons (eVar 2) aNil))) aNil)) (gN 6) tYesF (nBin repS (eFrz (nLst (aCons (eC (.int 0)) aNil))) (eSet (eCall m_side_of (aCons (eVar 2) aNil)))) [6])
def b_numbers_drawn : Sm := (sSeq (sAsg (eSet (eCall m_whole (aCons (eVar 0) (aCons (eVar 1) aNil)))) (gN 2)) (sSeq (sAsg (fun ρ st => storedM (c_numbers_drawn_1 ρ st)) (gN 3)) (sSeq (sFor (itOf kEnum (aCons (eVar 2) aNil)) (gT (gC (gN 4) (gC (gT (gC (gN 5) (gC (gN 6) gE))) gE))) l_numbers_drawn_1) (sSeq (sRetRev (eVar 3)) sNil))))
def m_numbers_drawn : Fn := fnS 7 b_numbers_drawn
def N_x_law_same : List PySem.Str := ["told", "due", "k"]
def c_x_law_same_1 (self : Fn) : ExN := (nLc (itOf kRg1 (aCons (eCB cLenA (aCons (eVar 1) aNil)) aNil)) (gN 2) tYesF (eSet (eCall self (aCons (eBin ixA (eVar 0) (eVar 2)) (aCons (eBin ixA (eVar 1) (eVar 2)) aNil)))) [2])
def b_x_law_same (self : Fn) : Sm := (sSeq (sIf (tOf (eBin (isNone false) (eVar 1) (eC .non))) (sSeq (sRet (eBin (isNone false) (eVar 0) (eC .non))) sNil) sNil) (sSeq (sIf (tOf (eIsi (eVar 1) "bool")) (sSeq (sRet (eIf (tOf (eVar 1)) (eBin isBl (eVar 0) (eC (.bl true))) (eBin isBl (eVar 0) (eC (.bl false))))) sNil) sNil) (sSeq (sIf (tOf (eIsi (eVar 1) "int")) (sSeq (sRet (eAnd (eIsi (eVar 0) "int") (eAnd (eNot (eIsi (eVar 0) "bool")) (eBin eqS (eVar 0) (eVar 1))))) sNil) sNil) (sSeq (sIf (tOf (eIsi (eVar 1) "str")) (sSeq (sRet (eAnd (eIsi (eVar 0) "str") (eBin eqS (eVar 0) (eVar 1)))) sNil) sNil) (sSeq (sIf (tOrF (tOf (eBin neS (eIsi (eVar 1) "tuple") (eIsi (eVar 0) "tuple"))) (tOf (eBin neS (eIsi (eVar 1) "list") (eIsi (eVar 0) "list")))) (sSeq (sRet (eC (.bl false))) sNil) sNil) (sSeq (sRet (eAnd (eBin eqS (eCB cLenA (aCons (eVar 0) aNil)) (eCB cLenA (aCons (eVar 1) aNil))) (eCB (cBls fun bs => bs.all id) (aCons (eFrz (c_x_law_same_1 self)) aNil)))) sNil))))))
def m_x_law_same : Nat → Fn
  | 0 => fun _ _ => .bad
  | n + 1 => fnS 3 (b_x_law_same (m_x_law_same n))
def N_x_law_right : List PySem.Str := ["book", "d", "due", "named", "signs", "rows"]
def b_x_law_right : Sm := (sSeq (sAsg (eAlc (eIf (tOf (eVar 3)) (eCallK m_drawn [1, 0] (aCons (eVar 1) (aCons (eVar 0) aNil))) (eCall m_drawn (aCons (eVar 0) (aCons (eVar 1) aNil))))) (gN 4)) (sSeq (sAsg (eAlc (eIf (tOf (eVar 3)) (eCallK m_numbers_drawn [1, 0] (aCons (eVar 1) (aCons (eVar 0) aNil))) (eCall m_numbers_drawn (aCons (eVar 0) (aCons (eVar 1) aNil))))) (gN 5)) (sSeq (sIf (tOrF (tNotF (tOf (eSet (eCall (m_x_law_same 4) (aCons (eVar 4) (aCons (eBin ixA (eVar 2) (eC (.int 0))) aNil)))))) (tNotF (tOf (eSet (eCall (m_x_law_same 4) (aCons (eVar 5) (aCons (eBin ixA (eVar 2) (eC (.int 1))) aNil))))))) (sSeq (sRet (eC (.bl false))) sNil) sNil) (sSeq (sExp (eM1 kApp (eVar 4) (eC (.str "o")))) (sSeq (sExp (eM1 kApp (eBin ixA (eVar 5) (eC (.int 0))) (eC (.int 0)))) (sSeq (sExp (eM1 kApp (eVar 5) (eBin ixA (eVar 5) (eC (.int 0))))) (sSeq (sRet (eC (.bl true))) sNil)))))))
def m_x_law_right : Fn := fnS 6 b_x_law_right
def N_law : List PySem.Str := ["script", "asked", "place", "well", "book", "d", "due"]
def l_law_1 : Sm := (sSeq (sIf (tNotF (tOf (eSet (eCall m_x_law_right (aCons (eVar 4) (aCons (eVar 5) (aCons (eVar 6) (aCons (eC (.bl true)) aNil)))))))) (sSeq (sRet (eC (.bl false))) sNil) sNil) sNil)
def l_law_2 : Sm := (sSeq (sAsg (eAlc (eCall m_x_law_well (aCons (eVar 0) (aCons (eVar 2) aNil)))) (gN 3)) (sSeq (sAsg (eSet (eCall m_x_law_book (aCons (eVar 3) (aCons (eBin ixA (eFrz (nLst (aCons (eC (.int 1)) (aCons (eC (.int 4)) (aCons (eC (.int 8)) (aCons (eC (.int 20)) aNil)))))) (eSet (eCall m_x_law_draw (aCons (eVar 3) (aCons (eC (.int 4)) aNil))))) aNil)))) (gN 4)) (sSeq (sAsg (eSet (eCall m_x_law_draw (aCons (eVar 3) (aCons (eIf (tOrF (tOf (eBin gtS (eVar 2) (eC (.int 0)))) (tOf (eBin eqS (eBin ixA (eVar 4) (eC (.int 0))) (eC (.int 3))))) (eC (.int 4)) (eC (.int 5))) aNil)))) (gN 5)) (sSeq (sIf (tAndF (tOf (eBin eqS (eVar 2) (eC (.int 0)))) (tOf (eBin eqS (eSet (eCall m_x_law_draw (aCons (eVar 3) (aCons (eC (.int 4)) aNil)))) (eC (.int 0))))) (sSeq (sAsg (eC (.int 4)) (gN 5)) sNil) sNil) (sSeq (sAsg (eSet (eCall m_x_law_due (aCons (eVar 4) (aCons (eVar 5) aNil)))) (gN 6)) (sSeq (sIf (tNotF (tOf (eSet (eCall m_x_law_right (aCons (eVar 4) (aCons (eVar 5) (aCons (eVar 6) (aCons (eBin eqS (eSet (eCall m_x_law_draw (aCons (eVar 3) (aCons (eC (.int 2)) aNil)))) (eC (.int 0))) aNil)))))))) (sSeq (sRet (eC (.bl false))) sNil) sNil) (sSeq (sIf (tOf (eBin ltS (eVar 5) (eC (.int 4)))) (sSeq (sExp (eM1 kApp (eVar 1) (eTup (aCons (eVar 4) (aCons (eVar 5) (aCons (eVar 6) aNil)))))) sNil) sNil) sNil)))))))
def b_law : Sm := (sSeq (sAsg (eSto (nLst aNil)) (gN 1)) (sSeq (sFor (itOf kRg1 (aCons (eCB (cI2 maxI) (aCons (eC (.int 1)) (aCons (eCB (cI2 minI) (aCons (eC (.int 6)) (aCons (eCB cLenA (aCons (eVar 0) aNil)) aNil))) aNil))) aNil)) (gN 2) l_law_2) (sSeq (sFor (itAny (eFrz (nRev (eVar 1)))) (gT (gC (gN 4) (gC (gN 5) (gC (gN 6) gE)))) l_law_1) (sSeq (sRet (eC (.bl true))) sNil))))
def m_law : Fn := fnS 7 b_law
end K42

namespace K42
open PySem PySem.Spec PyProof.Rows L2 F
/-! ## the text -/
def top (i : Nat) : Stmt := PySem.Challenge.pw_wholethreads_k42_whole_threads_drawn.main.body.getD i (.Pass ⟨0, 0, 0, 0⟩)
abbrev s_x_law_well : Stmt := top 32
abbrev s_x_law_draw : Stmt := top 33
abbrev s_x_law_order : Stmt := top 35
abbrev s_x_law_kind : Stmt := top 36
abbrev s_x_law_book : Stmt := top 37
abbrev s_x_law_power : Stmt := top 38
abbrev s_x_law_whole : Stmt := top 39
abbrev s_x_law_due : Stmt := top 40
abbrev s_side_of : Stmt := top 27
abbrev s_signs_of : Stmt := top 28
abbrev s_is_pair : Stmt := top 9
abbrev s_is_integer : Stmt := top 6
abbrev s_is_natural : Stmt := top 7
abbrev s_is_below : Stmt := top 8
abbrev s_is_part : Stmt := top 12
abbrev s_is_kind_of : Stmt := top 13
abbrev s_is_book : Stmt := top 14
abbrev s_check_book : Stmt := top 15
abbrev s_check_depth : Stmt := top 17
abbrev s_power : Stmt := top 10
abbrev s_how_many_cells : Stmt := top 19
abbrev s_cells_each_way : Stmt := top 18
abbrev s_way_to : Stmt := top 20
abbrev s_cell_in : Stmt := top 21
abbrev s_thread_of : Stmt := top 22
abbrev s_whole : Stmt := top 23
abbrev s_drawn : Stmt := top 29
abbrev s_numbers_drawn : Stmt := top 30
abbrev s_x_law_same : Stmt := top 34
abbrev s_x_law_right : Stmt := top 41
abbrev s_law : Stmt := top 42
structure Fx (K : PySem.W.Frag) (mg : PySem.Str → Option Value) where
  a_x_law_well : Addr
  d_x_law_well : FuncData
  F_x_law_well : FunD K "_law_well" "_law_well" (defArgs s_x_law_well) (defBody s_x_law_well) (defScope s_x_law_well) [] [] a_x_law_well d_x_law_well
  g_x_law_well : mg "_law_well" = some (.ref a_x_law_well)
  a_x_law_draw : Addr
  d_x_law_draw : FuncData
  F_x_law_draw : FunD K "_law_draw" "_law_draw" (defArgs s_x_law_draw) (defBody s_x_law_draw) (defScope s_x_law_draw) [] [] a_x_law_draw d_x_law_draw
  g_x_law_draw : mg "_law_draw" = some (.ref a_x_law_draw)
  a_x_law_order : Addr
  d_x_law_order : FuncData
  F_x_law_order : FunD K "_law_order" "_law_order" (defArgs s_x_law_order) (defBody s_x_law_order) (defScope s_x_law_order) [] [] a_x_law_order d_x_law_order
  g_x_law_order : mg "_law_order" = some (.ref a_x_law_order)
  a_x_law_kind : Addr
  d_x_law_kind : FuncData
  F_x_law_kind : FunD K "_law_kind" "_law_kind" (defArgs s_x_law_kind) (defBody s_x_law_kind) (defScope s_x_law_kind) [] [] a_x_law_kind d_x_law_kind
  g_x_law_kind : mg "_law_kind" = some (.ref a_x_law_kind)
  a_x_law_book : Addr
  d_x_law_book : FuncData
  F_x_law_book : FunD K "_law_book" "_law_book" (defArgs s_x_law_book) (defBody s_x_law_book) (defScope s_x_law_book) [] [] a_x_law_book d_x_law_book
  g_x_law_book : mg "_law_book" = some (.ref a_x_law_book)
  a_x_law_power : Addr
  d_x_law_power : FuncData
  F_x_law_power : FunD K "_law_power" "_law_power" (defArgs s_x_law_power) (defBody s_x_law_power) (defScope s_x_law_power) [] [] a_x_law_power d_x_law_power
  g_x_law_power : mg "_law_power" = some (.ref a_x_law_power)
  a_x_law_whole : Addr
  d_x_law_whole : FuncData
  F_x_law_whole : FunD K "_law_whole" "_law_whole" (defArgs s_x_law_whole) (defBody s_x_law_whole) (defScope s_x_law_whole) [] [] a_x_law_whole d_x_law_whole
  g_x_law_whole : mg "_law_whole" = some (.ref a_x_law_whole)
  a_x_law_due : Addr
  d_x_law_due : FuncData
  F_x_law_due : FunD K "_law_due" "_law_due" (defArgs s_x_law_due) (defBody s_x_law_due) (defScope s_x_law_due) [] [] a_x_law_due d_x_law_due
  g_x_law_due : mg "_law_due" = some (.ref a_x_law_due)
  a_side_of : Addr
  d_side_of : FuncData
  F_side_of : FunD K "side_of" "side_of" (defArgs s_side_of) (defBody s_side_of) (defScope s_side_of) [] [] a_side_of d_side_of
  g_side_of : mg "side_of" = some (.ref a_side_of)
  a_signs_of : Addr
  d_signs_of : FuncData
  F_signs_of : FunD K "signs_of" "signs_of" (defArgs s_signs_of) (defBody s_signs_of) (defScope s_signs_of) [] [] a_signs_of d_signs_of
  g_signs_of : mg "signs_of" = some (.ref a_signs_of)
  a_is_pair : Addr
  d_is_pair : FuncData
  F_is_pair : FunD K "is_pair" "is_pair" (defArgs s_is_pair) (defBody s_is_pair) (defScope s_is_pair) [] [] a_is_pair d_is_pair
  g_is_pair : mg "is_pair" = some (.ref a_is_pair)
  a_is_integer : Addr
  d_is_integer : FuncData
  F_is_integer : FunD K "is_integer" "is_integer" (defArgs s_is_integer) (defBody s_is_integer) (defScope s_is_integer) [] [] a_is_integer d_is_integer
  g_is_integer : mg "is_integer" = some (.ref a_is_integer)
  a_is_natural : Addr
  d_is_natural : FuncData
  F_is_natural : FunD K "is_natural" "is_natural" (defArgs s_is_natural) (defBody s_is_natural) (defScope s_is_natural) [] [] a_is_natural d_is_natural
  g_is_natural : mg "is_natural" = some (.ref a_is_natural)
  a_is_below : Addr
  d_is_below : FuncData
  F_is_below : FunD K "is_below" "is_below" (defArgs s_is_below) (defBody s_is_below) (defScope s_is_below) [] [] a_is_below d_is_below
  g_is_below : mg "is_below" = some (.ref a_is_below)
  a_is_part : Addr
  d_is_part : FuncData
  F_is_part : FunD K "is_part" "is_part" (defArgs s_is_part) (defBody s_is_part) (defScope s_is_part) [] [] a_is_part d_is_part
  g_is_part : mg "is_part" = some (.ref a_is_part)
  a_is_kind_of : Addr
  d_is_kind_of : FuncData
  F_is_kind_of : FunD K "is_kind_of" "is_kind_of" (defArgs s_is_kind_of) (defBody s_is_kind_of) (defScope s_is_kind_of) [] [] a_is_kind_of d_is_kind_of
  g_is_kind_of : mg "is_kind_of" = some (.ref a_is_kind_of)
  a_is_book : Addr
  d_is_book : FuncData
  F_is_book : FunD K "is_book" "is_book" (defArgs s_is_book) (defBody s_is_book) (defScope s_is_book) [] [] a_is_book d_is_book
  g_is_book : mg "is_book" = some (.ref a_is_book)
  a_check_book : Addr
  d_check_book : FuncData
  F_check_book : FunD K "check_book" "check_book" (defArgs s_check_book) (defBody s_check_book) (defScope s_check_book) [] [] a_check_book d_check_book
  g_check_book : mg "check_book" = some (.ref a_check_book)
  a_check_depth : Addr
  d_check_depth : FuncData
  F_check_depth : FunD K "check_depth" "check_depth" (defArgs s_check_depth) (defBody s_check_depth) (defScope s_check_depth) [] [] a_check_depth d_check_depth
  g_check_depth : mg "check_depth" = some (.ref a_check_depth)
  a_power : Addr
  d_power : FuncData
  F_power : FunD K "power" "power" (defArgs s_power) (defBody s_power) (defScope s_power) [] [] a_power d_power
  g_power : mg "power" = some (.ref a_power)
  a_how_many_cells : Addr
  d_how_many_cells : FuncData
  F_how_many_cells : FunD K "how_many_cells" "how_many_cells" (defArgs s_how_many_cells) (defBody s_how_many_cells) (defScope s_how_many_cells) [] [] a_how_many_cells d_how_many_cells
  g_how_many_cells : mg "how_many_cells" = some (.ref a_how_many_cells)
  a_cells_each_way : Addr
  d_cells_each_way : FuncData
  F_cells_each_way : FunD K "cells_each_way" "cells_each_way" (defArgs s_cells_each_way) (defBody s_cells_each_way) (defScope s_cells_each_way) [] [] a_cells_each_way d_cells_each_way
  g_cells_each_way : mg "cells_each_way" = some (.ref a_cells_each_way)
  a_way_to : Addr
  d_way_to : FuncData
  F_way_to : FunD K "way_to" "way_to" (defArgs s_way_to) (defBody s_way_to) (defScope s_way_to) [] [] a_way_to d_way_to
  g_way_to : mg "way_to" = some (.ref a_way_to)
  a_cell_in : Addr
  d_cell_in : FuncData
  F_cell_in : FunD K "cell_in" "cell_in" (defArgs s_cell_in) (defBody s_cell_in) (defScope s_cell_in) [] [] a_cell_in d_cell_in
  g_cell_in : mg "cell_in" = some (.ref a_cell_in)
  a_thread_of : Addr
  d_thread_of : FuncData
  F_thread_of : FunD K "thread_of" "thread_of" (defArgs s_thread_of) (defBody s_thread_of) (defScope s_thread_of) [] [] a_thread_of d_thread_of
  g_thread_of : mg "thread_of" = some (.ref a_thread_of)
  a_whole : Addr
  d_whole : FuncData
  F_whole : FunD K "whole" "whole" (defArgs s_whole) (defBody s_whole) (defScope s_whole) [] [] a_whole d_whole
  g_whole : mg "whole" = some (.ref a_whole)
  a_drawn : Addr
  d_drawn : FuncData
  F_drawn : FunD K "drawn" "drawn" (defArgs s_drawn) (defBody s_drawn) (defScope s_drawn) [] [] a_drawn d_drawn
  g_drawn : mg "drawn" = some (.ref a_drawn)
  a_numbers_drawn : Addr
  d_numbers_drawn : FuncData
  F_numbers_drawn : FunD K "numbers_drawn" "numbers_drawn" (defArgs s_numbers_drawn) (defBody s_numbers_drawn) (defScope s_numbers_drawn) [] [] a_numbers_drawn d_numbers_drawn
  g_numbers_drawn : mg "numbers_drawn" = some (.ref a_numbers_drawn)
  a_x_law_same : Addr
  d_x_law_same : FuncData
  F_x_law_same : FunD K "_law_same" "_law_same" (defArgs s_x_law_same) (defBody s_x_law_same) (defScope s_x_law_same) [] [] a_x_law_same d_x_law_same
  g_x_law_same : mg "_law_same" = some (.ref a_x_law_same)
  a_x_law_right : Addr
  d_x_law_right : FuncData
  F_x_law_right : FunD K "_law_right" "_law_right" (defArgs s_x_law_right) (defBody s_x_law_right) (defScope s_x_law_right) [] [] a_x_law_right d_x_law_right
  g_x_law_right : mg "_law_right" = some (.ref a_x_law_right)
  a_law : Addr
  d_law : FuncData
  F_law : FunD K "law" "law" (defArgs s_law) (defBody s_law) (defScope s_law) [] [] a_law d_law
  g_law : mg "law" = some (.ref a_law)
  z_abs : mg "abs" = none
  z_all : mg "all" = none
  z_bool : mg "bool" = none
  z_enumerate : mg "enumerate" = none
  z_int : mg "int" = none
  z_isinstance : mg "isinstance" = none
  z_len : mg "len" = none
  z_list : mg "list" = none
  z_max : mg "max" = none
  z_min : mg "min" = none
  z_range : mg "range" = none
  z_str : mg "str" = none
  z_tuple : mg "tuple" = none
  z_zip : mg "zip" = none
  c_BLANK : ∃ t, mg "BLANK" = some (.str " " t)
  c_CELL : ∃ t, mg "CELL" = some (.str "o" t)
  v_SIDES : Addr
  c_SIDES : mg "SIDES" = some (.ref v_SIDES)
  q_SIDES : ∀ B, Rep K B (.ref v_SIDES) (.ktp k_SIDES)
section
variable {P : Program} {w : World} {K : PySem.W.Frag} {mg : PySem.Str → Option Value} {base : Heap}
theorem sc_x_law_well : FnScope N_x_law_well ["script", "place"] (defScope s_x_law_well) := ⟨rfl, rfl, rfl, by decide +kernel, rfl, by decide +kernel, by decide +kernel⟩
theorem bi_x_law_well (V : Fx K mg) : Binds K V.d_x_law_well ["script", "place"] [] := V.F_x_law_well.bindsN fun _ _ _ _ _ _ us hl => match us, hl with | [_, _], _ => rfl
theorem ok_x_law_well (V : Fx K mg) : FnOk P w K mg base (L2.CX P w) 1 V.a_x_law_well V.d_x_law_well ["script", "place"] (spF K 2 m_x_law_well) := fn_ok (N := N_x_law_well) (b := b_x_law_well) V.F_x_law_well sc_x_law_well fun cdv A outer s H E hr =>
    (s_cons (s_asg (f_if (f_cmpT op_lt snd_ltS (f_var (i := 1)) (k_len rfl V.z_len (r_cons (f_var (i := 0)) r_nil)) (nomark _)) (k_int rfl V.z_int (r_cons (f_ixA (f_var (i := 0)) (f_var (i := 1))) r_nil)) (b_add (b_mul (f_var (i := 1)) f_int) (b_mul (k_len rfl V.z_len (r_cons (f_var (i := 0)) r_nil)) f_int))) (t_name (i := 2) sc_x_law_well.nd rfl (by first | exact .inl rfl | exact .inr rfl)))
    (s_cons (s_ret (cFre (n_lst (r_cons (k_max2 rfl rfl V.z_max (r_cons f_int (r_cons (b_sub (k_abs rfl V.z_abs (r_cons (f_var (i := 2)) r_nil)) (b_pow f_int f_int)) r_nil))) (r_cons (b_mod (k_int rfl V.z_int (r_cons (b_add (b_add (b_mul (f_var (i := 2)) f_int) (b_mul (f_var (i := 1)) f_int)) f_int) r_nil)) (b_add (b_pow f_int f_int) f_int)) (r_cons f_int r_nil))))))
    s_nil))
theorem sc_x_law_draw : FnScope N_x_law_draw ["well", "many"] (defScope s_x_law_draw) := ⟨rfl, rfl, rfl, by decide +kernel, rfl, by decide +kernel, by decide +kernel⟩
theorem bi_x_law_draw (V : Fx K mg) : Binds K V.d_x_law_draw ["well", "many"] [] := V.F_x_law_draw.bindsN fun _ _ _ _ _ _ us hl => match us, hl with | [_, _], _ => rfl
theorem ok_x_law_draw (V : Fx K mg) : FnOk P w K mg base (L2.CX P w) 1 V.a_x_law_draw V.d_x_law_draw ["well", "many"] (spF K 2 m_x_law_draw) := fn_ok (N := N_x_law_draw) (b := b_x_law_draw) V.F_x_law_draw sc_x_law_draw fun cdv A outer s H E hr =>
    (s_cons (s_if (f_cmpT op_gt snd_gtS (f_ixA (f_var (i := 0)) f_int) f_int (nomark _)) (s_cons (s_asg (b_mod (k_int rfl V.z_int (r_cons (f_ixA (f_var (i := 0)) f_int) r_nil)) (f_var (i := 1))) (t_name (i := 2) sc_x_law_draw.nd rfl (by first | exact .inl rfl | exact .inr rfl)))
    (s_cons (s_setI (b_div (f_ixA (f_var (i := 0)) f_int) (f_var (i := 1))) (f_var (i := 0)) f_int)
    (s_cons (s_ret (cW (f_var (i := 2))))
    s_nil))) s_nil)
    (s_cons (s_setI (b_add (f_ixA (f_var (i := 0)) f_int) f_int) (f_var (i := 0)) f_int)
    (s_cons (s_asg (b_mod (k_int rfl V.z_int (r_cons (b_pow (b_add (f_ixA (f_var (i := 0)) f_int) (b_mul f_int (f_ixA (f_var (i := 0)) f_int))) f_int) r_nil)) (b_add (b_pow f_int f_int) f_int)) (t_name (i := 3) sc_x_law_draw.nd rfl (by first | exact .inl rfl | exact .inr rfl)))
    (s_cons (s_asg (b_mod (k_int rfl V.z_int (r_cons (b_pow (b_add (f_var (i := 3)) f_int) f_int) r_nil)) (b_add (b_pow f_int f_int) f_int)) (t_name (i := 3) sc_x_law_draw.nd rfl (by first | exact .inl rfl | exact .inr rfl)))
    (s_cons (s_ret (cW (b_mod (k_int rfl V.z_int (r_cons (b_div (f_var (i := 3)) (b_pow f_int f_int)) r_nil)) (f_var (i := 1)))))
    s_nil)))))
theorem sc_x_law_order : FnScope N_x_law_order ["well", "many"] (defScope s_x_law_order) := ⟨rfl, rfl, rfl, by decide +kernel, rfl, by decide +kernel, by decide +kernel⟩
theorem bi_x_law_order (V : Fx K mg) : Binds K V.d_x_law_order ["well", "many"] [] := V.F_x_law_order.bindsN fun _ _ _ _ _ _ us hl => match us, hl with | [_, _], _ => rfl
theorem ok_x_law_order (V : Fx K mg) : FnOk P w K mg base (L2.CX P w) 2 V.a_x_law_order V.d_x_law_order ["well", "many"] (spF K 2 m_x_law_order) := fn_ok (N := N_x_law_order) (b := b_x_law_order) V.F_x_law_order sc_x_law_order fun cdv A outer s H E hr =>
    (s_cons (s_par (i := 2) (j := 3) rfl sc_x_law_order.nd rfl rfl (by decide) rfl rfl (r_cons (cSto (n_lr1 rfl rfl V.z_list rfl V.z_range (f_var (i := 1)))) (r_cons (cSto (n_lst r_nil)) r_nil)) (by rfl))
    (s_cons (s_for (passes_of rfl) rfl (i_rg1 rfl V.z_range (r_cons (f_var (i := 1)) r_nil)) (t_name (i := 4) sc_x_law_order.nd rfl (by first | exact .inl rfl | exact .inr rfl)) (s_cons (s_exp (cW (f_append (f_var (i := 3)) (f_popAt (f_var (i := 2)) (cSet (w_call ((ok_x_law_draw V).mono (by decide)) (takes_of rfl rfl rfl rfl) hr rfl V.g_x_law_draw V.F_x_law_draw.kp (bi_x_law_draw V) (r_cons (f_var (i := 0)) (r_cons (k_len rfl V.z_len (r_cons (f_var (i := 2)) r_nil)) r_nil)) (len_cons (len_cons len_nil)).len))))))
    s_nil))
    (s_cons (s_ret (cW (f_var (i := 3))))
    s_nil)))
theorem sc_x_law_kind : FnScope N_x_law_kind ["well", "b", "many"] (defScope s_x_law_kind) := ⟨rfl, rfl, rfl, by decide +kernel, rfl, by decide +kernel, by decide +kernel⟩
theorem bi_x_law_kind (V : Fx K mg) : Binds K V.d_x_law_kind ["well", "b", "many"] [] := V.F_x_law_kind.bindsN fun _ _ _ _ _ _ us hl => match us, hl with | [_, _, _], _ => rfl
theorem ok_x_law_kind (V : Fx K mg) : FnOk P w K mg base (L2.CX P w) 3 V.a_x_law_kind V.d_x_law_kind ["well", "b", "many"] (spF K 3 m_x_law_kind) := fn_ok (N := N_x_law_kind) (b := b_x_law_kind) V.F_x_law_kind sc_x_law_kind fun cdv A outer s H E hr =>
    (s_cons (s_parT (i := 3) (j := 4) rfl sc_x_law_kind.nd rfl rfl (by first | exact .inl rfl | exact .inr rfl) (by first | exact .inl rfl | exact .inr rfl) (by first | exact .inl rfl | exact .inr rfl) (by first | exact .inl rfl | exact .inr rfl) (r_cons (cSet (w_call ((ok_x_law_draw V).mono (by decide)) (takes_of rfl rfl rfl rfl) hr rfl V.g_x_law_draw V.F_x_law_draw.kp (bi_x_law_draw V) (r_cons (f_var (i := 0)) (r_cons f_int r_nil)) (len_cons (len_cons len_nil)).len)) (r_cons (cSto (n_lst r_nil)) r_nil)))
    (s_cons (s_for (passes_of rfl) rfl (i_rg1 rfl V.z_range (r_cons (b_mul (f_var (i := 1)) (f_var (i := 1))) r_nil)) (t_name (i := 5) sc_x_law_kind.nd rfl (by first | exact .inl rfl | exact .inr rfl)) (s_cons (s_exp (cW (f_append (f_var (i := 4)) (f_tup (r_cons (b_mod (k_int rfl V.z_int (r_cons (f_var (i := 5)) r_nil)) (f_var (i := 1))) (r_cons (b_div (f_var (i := 5)) (f_var (i := 1))) r_nil))))))
    s_nil))
    (s_cons (s_if (f_cmpT op_lt snd_ltS (f_var (i := 3)) f_int (nomark _)) (s_cons (s_asg (cSto (n_lc (own := [("at", 5)]) rfl sc_x_law_kind.nd (by decide) (i_any (cSet (w_call ((ok_x_law_order V).mono (by decide)) (takes_of rfl rfl rfl rfl) hr rfl V.g_x_law_order V.F_x_law_order.kp (bi_x_law_order V) (r_cons (f_var (i := 0)) (r_cons (b_mul (f_var (i := 1)) (f_var (i := 1))) r_nil)) (len_cons (len_cons len_nil)).len))) (blk_ok (by kernel_rfl)) (fun _ _ _ _ _ => (t_name (i := 5) sc_x_law_kind.nd rfl (by first | exact .inl rfl | exact .inr rfl))) (fun _ _ _ _ _ => ts_nil) (fun _ _ _ _ _ => (f_ixA (f_var (i := 4)) (f_var (i := 5)))))) (t_name (i := 4) sc_x_law_kind.nd rfl (by first | exact .inl rfl | exact .inr rfl)))
    s_nil) s_nil)
    (s_cons (s_if (f_cmpT (op_eqD hr.units) snd_eqD (f_var (i := 3)) f_int (nomark _)) (s_cons (s_asg (cSto (n_lc (own := [("x", 7), ("y", 8)]) rfl sc_x_law_kind.nd (by decide) (i_any (f_var (i := 4))) (blk_ok (by kernel_rfl)) (fun _ _ _ _ _ => (t_tup rfl (t_cons (t_name (i := 7) sc_x_law_kind.nd rfl (by first | exact .inl rfl | exact .inr rfl)) (t_cons (t_name (i := 8) sc_x_law_kind.nd rfl (by first | exact .inl rfl | exact .inr rfl)) t_nil)) (len_gC (len_gC len_gE)))) (fun _ _ _ _ _ => ts_nil) (fun _ _ _ _ _ => (f_tup (r_cons (f_if (f_cmpT (op_eqD hr.units) snd_eqD (b_mod (k_int rfl V.z_int (r_cons (f_var (i := 8)) r_nil)) f_int) f_int (nomark _)) (f_var (i := 7)) (b_sub (b_sub (f_var (i := 1)) f_int) (f_var (i := 7)))) (r_cons (f_var (i := 8)) r_nil)))))) (t_name (i := 4) sc_x_law_kind.nd rfl (by first | exact .inl rfl | exact .inr rfl)))
    (s_cons (s_asg (cSet (w_call ((ok_x_law_draw V).mono (by decide)) (takes_of rfl rfl rfl rfl) hr rfl V.g_x_law_draw V.F_x_law_draw.kp (bi_x_law_draw V) (r_cons (f_var (i := 0)) (r_cons f_int r_nil)) (len_cons (len_cons len_nil)).len)) (t_name (i := 6) sc_x_law_kind.nd rfl (by first | exact .inl rfl | exact .inr rfl)))
    (s_cons (s_asg (cAlc (w_if (f_cmpT (op_eqD hr.units) snd_eqD (f_var (i := 6)) f_int (nomark _)) (cFre (n_lc (own := [("x", 7), ("y", 8)]) rfl sc_x_law_kind.nd (by decide) (i_any (f_var (i := 4))) (blk_ok (by kernel_rfl)) (fun _ _ _ _ _ => (t_tup rfl (t_cons (t_name (i := 7) sc_x_law_kind.nd rfl (by first | exact .inl rfl | exact .inr rfl)) (t_cons (t_name (i := 8) sc_x_law_kind.nd rfl (by first | exact .inl rfl | exact .inr rfl)) t_nil)) (len_gC (len_gC len_gE)))) (fun _ _ _ _ _ => ts_nil) (fun _ _ _ _ _ => (f_tup (r_cons (f_var (i := 8)) (r_cons (f_var (i := 7)) r_nil)))))) (cW (f_var (i := 4))))) (t_name (i := 4) sc_x_law_kind.nd rfl (by first | exact .inl rfl | exact .inr rfl)))
    s_nil))) s_nil)
    (s_cons (s_ret (cW (k_tup rfl V.z_tuple (r_cons (cFrz (n_lc (own := [("x", 7), ("y", 8)]) rfl sc_x_law_kind.nd (by decide) (i_any (f_var (i := 4))) (blk_ok (by kernel_rfl)) (fun _ _ _ _ _ => (t_tup rfl (t_cons (t_name (i := 7) sc_x_law_kind.nd rfl (by first | exact .inl rfl | exact .inr rfl)) (t_cons (t_name (i := 8) sc_x_law_kind.nd rfl (by first | exact .inl rfl | exact .inr rfl)) t_nil)) (len_gC (len_gC len_gE)))) (fun _ _ _ _ _ => ts_nil) (fun _ _ _ _ _ => (f_tup (r_cons (f_var (i := 7)) (r_cons (f_var (i := 8)) (r_cons (cSet (w_call ((ok_x_law_draw V).mono (by decide)) takes0 hr rfl V.g_x_law_draw V.F_x_law_draw.kp (bi_x_law_draw V) (r_cons (f_var (i := 0)) (r_cons (f_var (i := 2)) r_nil)) (len_cons (len_cons len_nil)).len)) r_nil))))))) r_nil))))
    s_nil)))))
theorem sc_x_law_book : FnScope N_x_law_book ["well", "most"] (defScope s_x_law_book) := ⟨rfl, rfl, rfl, by decide +kernel, rfl, by decide +kernel, by decide +kernel⟩
theorem bi_x_law_book (V : Fx K mg) : Binds K V.d_x_law_book ["well", "most"] [] := V.F_x_law_book.bindsN fun _ _ _ _ _ _ us hl => match us, hl with | [_, _], _ => rfl
theorem ok_x_law_book (V : Fx K mg) : FnOk P w K mg base (L2.CX P w) 4 V.a_x_law_book V.d_x_law_book ["well", "most"] (spF K 2 m_x_law_book) := fn_ok (N := N_x_law_book) (b := b_x_law_book) V.F_x_law_book sc_x_law_book fun cdv A outer s H E hr =>
    (s_cons (s_parT (i := 2) (j := 3) rfl sc_x_law_book.nd rfl rfl (by first | exact .inl rfl | exact .inr rfl) (by first | exact .inl rfl | exact .inr rfl) (by first | exact .inl rfl | exact .inr rfl) (by first | exact .inl rfl | exact .inr rfl) (r_cons (b_add f_int (cSet (w_call ((ok_x_law_draw V).mono (by decide)) (takes_of rfl rfl rfl rfl) hr rfl V.g_x_law_draw V.F_x_law_draw.kp (bi_x_law_draw V) (r_cons (f_var (i := 0)) (r_cons f_int r_nil)) (len_cons (len_cons len_nil)).len))) (r_cons (b_add f_int (cSet (w_call ((ok_x_law_draw V).mono (by decide)) (takes_of rfl rfl rfl rfl) hr rfl V.g_x_law_draw V.F_x_law_draw.kp (bi_x_law_draw V) (r_cons (f_var (i := 0)) (r_cons (f_var (i := 1)) r_nil)) (len_cons (len_cons len_nil)).len))) r_nil)))
    (s_cons (s_ret (cW (f_tup (r_cons (f_var (i := 2)) (r_cons (k_tup rfl V.z_tuple (r_cons (cFrz (n_lc (own := [("kind", 4)]) rfl sc_x_law_book.nd (by decide) (i_rg1 rfl V.z_range (r_cons (f_var (i := 3)) r_nil)) (blk_ok (by kernel_rfl)) (fun _ _ _ _ _ => (t_name (i := 4) sc_x_law_book.nd rfl (by first | exact .inl rfl | exact .inr rfl))) (fun _ _ _ _ _ => ts_nil) (fun _ _ _ _ _ => (cSet (w_call ((ok_x_law_kind V).mono (by decide)) takes0 hr rfl V.g_x_law_kind V.F_x_law_kind.kp (bi_x_law_kind V) (r_cons (f_var (i := 0)) (r_cons (f_var (i := 2)) (r_cons (f_var (i := 3)) r_nil))) (len_cons (len_cons (len_cons len_nil))).len))))) r_nil)) r_nil)))))
    s_nil))
theorem sc_x_law_power : FnScope N_x_law_power ["b", "d"] (defScope s_x_law_power) := ⟨rfl, rfl, rfl, by decide +kernel, rfl, by decide +kernel, by decide +kernel⟩
theorem bi_x_law_power (V : Fx K mg) : Binds K V.d_x_law_power ["b", "d"] [] := V.F_x_law_power.bindsN fun _ _ _ _ _ _ us hl => match us, hl with | [_, _], _ => rfl
theorem ok_x_law_power (V : Fx K mg) : FnOk P w K mg base (L2.CX P w) 1 V.a_x_law_power V.d_x_law_power ["b", "d"] (spF K 2 m_x_law_power) := fn_ok (N := N_x_law_power) (b := b_x_law_power) V.F_x_law_power sc_x_law_power fun cdv A outer s H E hr =>
    (s_cons (s_asg f_int (t_name (i := 2) sc_x_law_power.nd rfl (by first | exact .inl rfl | exact .inr rfl)))
    (s_cons (s_for (passes_of rfl) rfl (i_rg1 rfl V.z_range (r_cons (f_var (i := 1)) r_nil)) (t_name (i := 3) sc_x_law_power.nd rfl (by first | exact .inl rfl | exact .inr rfl)) (s_cons (s_asg (b_mul (f_var (i := 2)) (f_var (i := 0))) (t_name (i := 2) sc_x_law_power.nd rfl (by first | exact .inl rfl | exact .inr rfl)))
    s_nil))
    (s_cons (s_ret (cW (f_var (i := 2))))
    s_nil)))
theorem sc_x_law_whole : FnScope N_x_law_whole ["book", "d"] (defScope s_x_law_whole) := ⟨rfl, rfl, rfl, by decide +kernel, rfl, by decide +kernel, by decide +kernel⟩
theorem bi_x_law_whole (V : Fx K mg) : Binds K V.d_x_law_whole ["book", "d"] [] := V.F_x_law_whole.bindsN fun _ _ _ _ _ _ us hl => match us, hl with | [_, _], _ => rfl
theorem ok_x_law_whole (V : Fx K mg) : FnOk P w K mg base (L2.CX P w) 1 V.a_x_law_whole V.d_x_law_whole ["book", "d"] (spF K 2 m_x_law_whole) := fn_ok (N := N_x_law_whole) (b := b_x_law_whole) V.F_x_law_whole sc_x_law_whole fun cdv A outer s H E hr =>
    (s_cons (s_asg (f_var (i := 0)) (t_tup rfl (t_cons (t_name (i := 2) sc_x_law_whole.nd rfl (by first | exact .inl rfl | exact .inr rfl)) (t_cons (t_name (i := 3) sc_x_law_whole.nd rfl (by first | exact .inl rfl | exact .inr rfl)) t_nil)) (len_gC (len_gC len_gE))))
    (s_cons (s_asg (cFrz (n_lst (r_cons (f_tup (r_cons f_int (r_cons f_int (r_cons f_int r_nil)))) r_nil))) (t_name (i := 4) sc_x_law_whole.nd rfl (by first | exact .inl rfl | exact .inr rfl)))
    (s_cons (s_for (passes_of rfl) rfl (i_rg1 rfl V.z_range (r_cons (f_var (i := 1)) r_nil)) (t_name (i := 5) sc_x_law_whole.nd rfl (by first | exact .inl rfl | exact .inr rfl)) (s_cons (s_asg (cSto (n_lst r_nil)) (t_name (i := 6) sc_x_law_whole.nd rfl (by first | exact .inl rfl | exact .inr rfl)))
    (s_cons (s_for (passes_of rfl) rfl (i_any (f_var (i := 4))) (t_tup rfl (t_cons (t_name (i := 7) sc_x_law_whole.nd rfl (by first | exact .inl rfl | exact .inr rfl)) (t_cons (t_name (i := 8) sc_x_law_whole.nd rfl (by first | exact .inl rfl | exact .inr rfl)) (t_cons (t_name (i := 9) sc_x_law_whole.nd rfl (by first | exact .inl rfl | exact .inr rfl)) t_nil))) (len_gC (len_gC (len_gC len_gE)))) (s_cons (s_exp (cW (f_extend (f_var (i := 6)) (cFrz (n_lc (own := [("right", 10), ("up", 11), ("own", 12)]) rfl sc_x_law_whole.nd (by decide) (i_any (f_ixA (f_var (i := 3)) (f_var (i := 9)))) (blk_ok (by kernel_rfl)) (fun _ _ _ _ _ => (t_tup rfl (t_cons (t_name (i := 10) sc_x_law_whole.nd rfl (by first | exact .inl rfl | exact .inr rfl)) (t_cons (t_name (i := 11) sc_x_law_whole.nd rfl (by first | exact .inl rfl | exact .inr rfl)) (t_cons (t_name (i := 12) sc_x_law_whole.nd rfl (by first | exact .inl rfl | exact .inr rfl)) t_nil))) (len_gC (len_gC (len_gC len_gE))))) (fun _ _ _ _ _ => ts_nil) (fun _ _ _ _ _ => (f_tup (r_cons (b_add (b_mul (f_var (i := 2)) (f_var (i := 7))) (f_var (i := 10))) (r_cons (b_add (b_mul (f_var (i := 2)) (f_var (i := 8))) (f_var (i := 11))) (r_cons (f_var (i := 12)) r_nil))))))))))
    s_nil))
    (s_cons (s_asg (f_var (i := 6)) (t_name (i := 4) sc_x_law_whole.nd rfl (by first | exact .inl rfl | exact .inr rfl)))
    s_nil))))
    (s_cons (s_ret (cFre (n_lc (own := [("x", 7), ("y", 8), ("kind", 9)]) rfl sc_x_law_whole.nd (by decide) (i_any (f_var (i := 4))) (blk_ok (by kernel_rfl)) (fun _ _ _ _ _ => (t_tup rfl (t_cons (t_name (i := 7) sc_x_law_whole.nd rfl (by first | exact .inl rfl | exact .inr rfl)) (t_cons (t_name (i := 8) sc_x_law_whole.nd rfl (by first | exact .inl rfl | exact .inr rfl)) (t_cons (t_name (i := 9) sc_x_law_whole.nd rfl (by first | exact .inl rfl | exact .inr rfl)) t_nil))) (len_gC (len_gC (len_gC len_gE))))) (fun _ _ _ _ _ => ts_nil) (fun _ _ _ _ _ => (f_tup (r_cons (f_var (i := 7)) (r_cons (f_var (i := 8)) r_nil)))))))
    s_nil))))
theorem sc_x_law_due : FnScope N_x_law_due ["book", "d"] (defScope s_x_law_due) := ⟨rfl, rfl, rfl, by decide +kernel, rfl, by decide +kernel, by decide +kernel⟩
theorem bi_x_law_due (V : Fx K mg) : Binds K V.d_x_law_due ["book", "d"] [] := V.F_x_law_due.bindsN fun _ _ _ _ _ _ us hl => match us, hl with | [_, _], _ => rfl
theorem ok_x_law_due (V : Fx K mg) : FnOk P w K mg base (L2.CX P w) 2 V.a_x_law_due V.d_x_law_due ["book", "d"] (spF K 2 m_x_law_due) := fn_ok (N := N_x_law_due) (b := b_x_law_due) V.F_x_law_due sc_x_law_due fun cdv A outer s H E hr =>
    (s_cons (s_parT (i := 2) (j := 3) rfl sc_x_law_due.nd rfl rfl (by first | exact .inl rfl | exact .inr rfl) (by first | exact .inl rfl | exact .inr rfl) (by first | exact .inl rfl | exact .inr rfl) (by first | exact .inl rfl | exact .inr rfl) (r_cons (cSet (w_call ((ok_x_law_power V).mono (by decide)) (takes_of rfl rfl rfl rfl) hr rfl V.g_x_law_power V.F_x_law_power.kp (bi_x_law_power V) (r_cons (f_ixA (f_var (i := 0)) f_int) (r_cons (f_var (i := 1)) r_nil)) (len_cons (len_cons len_nil)).len)) (r_cons f_newT r_nil)))
    (s_cons (s_for (passes_of rfl) rfl (i_enum rfl V.z_enumerate (r_cons (cSet (w_call ((ok_x_law_whole V).mono (by decide)) (takes_of rfl rfl rfl rfl) hr rfl V.g_x_law_whole V.F_x_law_whole.kp (bi_x_law_whole V) (r_cons (f_var (i := 0)) (r_cons (f_var (i := 1)) r_nil)) (len_cons (len_cons len_nil)).len)) r_nil)) (t_tup rfl (t_cons (t_name (i := 4) sc_x_law_due.nd rfl (by first | exact .inl rfl | exact .inr rfl)) (t_cons (t_name (i := 5) sc_x_law_due.nd rfl (by first | exact .inl rfl | exact .inr rfl)) t_nil)) (len_gC (len_gC len_gE))) (s_cons (s_putD (hu_of hr) (f_var (i := 4)) (f_var (i := 3)) (f_var (i := 5)))
    s_nil))
    (s_cons (s_par (i := 6) (j := 7) rfl sc_x_law_due.nd rfl rfl (by decide) rfl rfl (r_cons (cFrz (n_lst r_nil)) (r_cons (cSto (n_lst r_nil)) r_nil)) (by rfl))
    (s_cons (s_for (passes_of rfl) rfl (i_rg3 rfl V.z_range (r_cons (b_sub (f_var (i := 2)) f_int) (r_cons (f_neg f_int) (r_cons (f_neg f_int) r_nil)))) (t_name (i := 8) sc_x_law_due.nd rfl (by first | exact .inl rfl | exact .inr rfl)) (s_cons (s_asg (f_tup (r_cons f_str (r_cons f_str r_nil))) (t_tup rfl (t_cons (t_name (i := 9) sc_x_law_due.nd rfl (by first | exact .inl rfl | exact .inr rfl)) (t_cons (t_name (i := 10) sc_x_law_due.nd rfl (by first | exact .inl rfl | exact .inr rfl)) t_nil)) (len_gC (len_gC len_gE))))
    (s_cons (s_for (passes_of rfl) rfl (i_rg1 rfl V.z_range (r_cons (f_var (i := 2)) r_nil)) (t_name (i := 11) sc_x_law_due.nd rfl (by first | exact .inl rfl | exact .inr rfl)) (s_cons (s_asg (f_dget (hu_of hr) (f_var (i := 3)) (f_tup (r_cons (f_var (i := 11)) (r_cons (f_var (i := 8)) r_nil))) (by intro _ _; rfl)) (t_name (i := 12) sc_x_law_due.nd rfl (by first | exact .inl rfl | exact .inr rfl)))
    (s_cons (s_asg (b_add (f_var (i := 9)) f_str) (t_name (i := 9) sc_x_law_due.nd rfl (by first | exact .inl rfl | exact .inr rfl)))
    (s_cons (s_if (f_cmpT op_lt snd_ltS (f_var (i := 11)) (b_sub (f_var (i := 2)) f_int) (nomark _)) (s_cons (s_asg (b_add (f_var (i := 9)) (f_if (f_cmpT (op_eqD hr.units) snd_eqD (k_abs rfl V.z_abs (r_cons (b_sub (f_dget (hu_of hr) (f_var (i := 3)) (f_tup (r_cons (b_add (f_var (i := 11)) f_int) (r_cons (f_var (i := 8)) r_nil))) (by intro _ _; rfl)) (f_var (i := 12))) r_nil)) f_int (nomark _)) f_str f_str)) (t_name (i := 9) sc_x_law_due.nd rfl (by first | exact .inl rfl | exact .inr rfl)))
    s_nil) s_nil)
    (s_cons (s_if (f_cmpT op_gt snd_gtS (f_var (i := 8)) f_int (nomark _)) (s_cons (s_asg (b_add (b_add (f_var (i := 10)) (f_if (f_cmpT (op_eqD hr.units) snd_eqD (k_abs rfl V.z_abs (r_cons (b_sub (f_dget (hu_of hr) (f_var (i := 3)) (f_tup (r_cons (f_var (i := 11)) (r_cons (b_sub (f_var (i := 8)) f_int) r_nil))) (by intro _ _; rfl)) (f_var (i := 12))) r_nil)) f_int (nomark _)) f_str f_str)) (b_mul f_str (k_int rfl V.z_int (r_cons (q_lt (f_var (i := 11)) (b_sub (f_var (i := 2)) f_int)) r_nil)))) (t_name (i := 10) sc_x_law_due.nd rfl (by first | exact .inl rfl | exact .inr rfl)))
    s_nil) s_nil)
    s_nil)))))
    (s_cons (s_asg (b_add (b_add (f_var (i := 6)) (cFrz (n_lst (r_cons (f_var (i := 9)) r_nil)))) (b_mul (cFrz (n_lst (r_cons (f_var (i := 10)) r_nil))) (k_int rfl V.z_int (r_cons (q_gt (f_var (i := 8)) f_int) r_nil)))) (t_name (i := 6) sc_x_law_due.nd rfl (by first | exact .inl rfl | exact .inr rfl)))
    (s_cons (s_exp (cW (f_append (f_var (i := 7)) (cFrz (n_lc (own := [("x", 11)]) rfl sc_x_law_due.nd (by decide) (i_rg1 rfl V.z_range (r_cons (f_var (i := 2)) r_nil)) (blk_ok (by kernel_rfl)) (fun _ _ _ _ _ => (t_name (i := 11) sc_x_law_due.nd rfl (by first | exact .inl rfl | exact .inr rfl))) (fun _ _ _ _ _ => ts_nil) (fun _ _ _ _ _ => (f_dget (hu_of hr) (f_var (i := 3)) (f_tup (r_cons (f_var (i := 11)) (r_cons (f_var (i := 8)) r_nil))) (by intro _ _; rfl))))))))
    s_nil)))))
    (s_cons (s_ret (cW (f_tup (r_cons (f_var (i := 6)) (r_cons (f_var (i := 7)) r_nil)))))
    s_nil)))))
theorem sc_side_of : FnScope N_side_of ["cells"] (defScope s_side_of) := ⟨rfl, rfl, rfl, by decide +kernel, rfl, by decide +kernel, by decide +kernel⟩
theorem bi_side_of (V : Fx K mg) : Binds K V.d_side_of ["cells"] [] := V.F_side_of.bindsN fun _ _ _ _ _ _ us hl => match us, hl with | [_], _ => rfl
theorem ok_side_of (V : Fx K mg) : FnOk P w K mg base (L2.CX P w) 1 V.a_side_of V.d_side_of ["cells"] (spF K 1 m_side_of) := fn_ok (N := N_side_of) (b := b_side_of) V.F_side_of sc_side_of fun cdv A outer s H E hr =>
    (s_cons (s_ret (cW (b_add f_int (k_max rfl rfl V.z_max (r_cons (cFrz (n_lc (own := [("x", 1), ("y", 2)]) rfl sc_side_of.nd (by decide) (i_any (f_var (i := 0))) (blk_ok (by kernel_rfl)) (fun _ _ _ _ _ => (t_tup rfl (t_cons (t_name (i := 1) sc_side_of.nd rfl (by first | exact .inl rfl | exact .inr rfl)) (t_cons (t_name (i := 2) sc_side_of.nd rfl (by first | exact .inl rfl | exact .inr rfl)) t_nil)) (len_gC (len_gC len_gE)))) (fun _ _ _ _ _ => ts_nil) (fun _ _ _ _ _ => (f_var (i := 1))))) r_nil)))))
    s_nil)
theorem sc_signs_of : FnScope N_signs_of ["cells"] (defScope s_signs_of) := ⟨rfl, rfl, rfl, by decide +kernel, rfl, by decide +kernel, by decide +kernel⟩
theorem bi_signs_of (V : Fx K mg) : Binds K V.d_signs_of ["cells"] [] := V.F_signs_of.bindsN fun _ _ _ _ _ _ us hl => match us, hl with | [_], _ => rfl
theorem ok_signs_of (V : Fx K mg) : FnOk P w K mg base (L2.CX P w) 2 V.a_signs_of V.d_signs_of ["cells"] (spF K 1 m_signs_of) := fn_ok (N := N_signs_of) (b := b_signs_of) V.F_signs_of sc_signs_of fun cdv A outer s H E hr =>
    (s_cons (s_asg (b_sub (b_mul f_int (cSet (w_call ((ok_side_of V).mono (by decide)) (takes_of rfl rfl rfl rfl) hr rfl V.g_side_of V.F_side_of.kp (bi_side_of V) (r_cons (f_var (i := 0)) r_nil) (len_cons len_nil).len))) f_int) (t_name (i := 1) sc_signs_of.nd rfl (by first | exact .inl rfl | exact .inr rfl)))
    (s_cons (s_lcM (own := [("y", 6)]) rfl sc_signs_of.nd (i := 2) rfl rfl (by rfl) (by decide) (i_rg1 rfl V.z_range (r_cons (f_var (i := 1)) r_nil)) (blk_ok (by kernel_rfl)) (fun _ _ _ _ _ => (t_name (i := 6) sc_signs_of.nd rfl (by first | exact .inl rfl | exact .inr rfl))) (fun _ _ _ _ _ => ts_nil) (fun _ _ _ _ _ => (n_lc (own := [("x", 7)]) rfl sc_signs_of.nd (by decide) (i_rg1 rfl V.z_range (r_cons (f_var (i := 1)) r_nil)) (blk_ok (by kernel_rfl)) (fun _ _ _ _ _ => (t_name (i := 7) sc_signs_of.nd rfl (by first | exact .inl rfl | exact .inr rfl))) (fun _ _ _ _ _ => ts_nil) (fun _ _ _ _ _ => (f_if (f_bool (f_andT (f_cmpT (op_eqD hr.units) snd_eqD (b_mod (f_var (i := 7)) f_int) f_int (nomark _)) (f_andT1 (f_cmpT (op_eqD hr.units) snd_eqD (b_mod (f_var (i := 6)) f_int) f_int (nomark _))))) (f_gs rfl V.c_CELL) (f_gs rfl V.c_BLANK))))))
    (s_cons (s_for (passes_of rfl) rfl (i_zip rfl V.z_zip (r_cons (f_var (i := 0)) (r_cons (cSet (w_sl (f_var (i := 0)) (p_some f_int) p_none)) r_nil))) (t_tup rfl (t_cons (t_name (i := 3) sc_signs_of.nd rfl (by first | exact .inl rfl | exact .inr rfl)) (t_cons (t_name (i := 4) sc_signs_of.nd rfl (by first | exact .inl rfl | exact .inr rfl)) t_nil)) (len_gC (len_gC len_gE))) (s_cons (s_asg (f_tup (r_cons (k_abs rfl V.z_abs (r_cons (b_sub (f_ixA (f_var (i := 3)) f_int) (f_ixA (f_var (i := 4)) f_int)) r_nil)) (r_cons (k_abs rfl V.z_abs (r_cons (b_sub (f_ixA (f_var (i := 3)) f_int) (f_ixA (f_var (i := 4)) f_int)) r_nil)) r_nil))) (t_name (i := 5) sc_signs_of.nd rfl (by first | exact .inl rfl | exact .inr rfl)))
    (s_cons (s_if (f_cmpT (op_eqD hr.units) snd_eqD (f_var (i := 5)) (f_tup (r_cons f_int (r_cons f_int r_nil))) (nomark _)) (s_cons (s_setI f_str (f_ixA (f_var (i := 2)) (b_mul f_int (f_ixA (f_var (i := 3)) f_int))) (b_add (f_ixA (f_var (i := 3)) f_int) (f_ixA (f_var (i := 4)) f_int)))
    s_nil) s_nil)
    (s_cons (s_if (f_cmpT (op_eqD hr.units) snd_eqD (f_var (i := 5)) (f_tup (r_cons f_int (r_cons f_int r_nil))) (nomark _)) (s_cons (s_setI f_str (f_ixA (f_var (i := 2)) (b_add (f_ixA (f_var (i := 3)) f_int) (f_ixA (f_var (i := 4)) f_int))) (b_mul f_int (f_ixA (f_var (i := 3)) f_int)))
    s_nil) s_nil)
    s_nil))))
    (s_cons (s_ret (cW (f_var (i := 2))))
    s_nil))))
theorem sc_is_pair : FnScope N_is_pair ["value"] (defScope s_is_pair) := ⟨rfl, rfl, rfl, by decide +kernel, rfl, by decide +kernel, by decide +kernel⟩
theorem bi_is_pair (V : Fx K mg) : Binds K V.d_is_pair ["value"] [] := V.F_is_pair.bindsN fun _ _ _ _ _ _ us hl => match us, hl with | [_], _ => rfl
theorem ok_is_pair (V : Fx K mg) : FnOk P w K mg base (L2.CX P w) 1 V.a_is_pair V.d_is_pair ["value"] (spF K 1 m_is_pair) := fn_ok (N := N_is_pair) (b := b_is_pair) V.F_is_pair sc_is_pair fun cdv A outer s H E hr =>
    (s_cons (s_ret (cW (f_and (f_isi (f_var (i := 0)) rfl V.z_isinstance rfl V.z_tuple (by decide +kernel)) (f_one (q_eq hr.units (k_len rfl V.z_len (r_cons (f_var (i := 0)) r_nil)) f_int)))))
    s_nil)
theorem sc_is_integer : FnScope N_is_integer ["value"] (defScope s_is_integer) := ⟨rfl, rfl, rfl, by decide +kernel, rfl, by decide +kernel, by decide +kernel⟩
theorem bi_is_integer (V : Fx K mg) : Binds K V.d_is_integer ["value"] [] := V.F_is_integer.bindsN fun _ _ _ _ _ _ us hl => match us, hl with | [_], _ => rfl
theorem ok_is_integer (V : Fx K mg) : FnOk P w K mg base (L2.CX P w) 1 V.a_is_integer V.d_is_integer ["value"] (spF K 1 m_is_integer) := fn_ok (N := N_is_integer) (b := b_is_integer) V.F_is_integer sc_is_integer fun cdv A outer s H E hr =>
    (s_cons (s_ret (cW (f_and (f_isi (f_var (i := 0)) rfl V.z_isinstance rfl V.z_int (by decide +kernel)) (f_one (f_not (f_isi (f_var (i := 0)) rfl V.z_isinstance rfl V.z_bool (by decide +kernel)))))))
    s_nil)
theorem sc_is_natural : FnScope N_is_natural ["value"] (defScope s_is_natural) := ⟨rfl, rfl, rfl, by decide +kernel, rfl, by decide +kernel, by decide +kernel⟩
theorem bi_is_natural (V : Fx K mg) : Binds K V.d_is_natural ["value"] [] := V.F_is_natural.bindsN fun _ _ _ _ _ _ us hl => match us, hl with | [_], _ => rfl
theorem ok_is_natural (V : Fx K mg) : FnOk P w K mg base (L2.CX P w) 2 V.a_is_natural V.d_is_natural ["value"] (spF K 1 m_is_natural) := fn_ok (N := N_is_natural) (b := b_is_natural) V.F_is_natural sc_is_natural fun cdv A outer s H E hr =>
    (s_cons (s_ret (cW (f_and (cSet (w_call ((ok_is_integer V).mono (by decide)) (takes_of rfl rfl rfl rfl) hr rfl V.g_is_integer V.F_is_integer.kp (bi_is_integer V) (r_cons (f_var (i := 0)) r_nil) (len_cons len_nil).len)) (f_one (q_ge (f_var (i := 0)) f_int)))))
    s_nil)
theorem sc_is_below : FnScope N_is_below ["value", "many"] (defScope s_is_below) := ⟨rfl, rfl, rfl, by decide +kernel, rfl, by decide +kernel, by decide +kernel⟩
theorem bi_is_below (V : Fx K mg) : Binds K V.d_is_below ["value", "many"] [] := V.F_is_below.bindsN fun _ _ _ _ _ _ us hl => match us, hl with | [_, _], _ => rfl
theorem ok_is_below (V : Fx K mg) : FnOk P w K mg base (L2.CX P w) 3 V.a_is_below V.d_is_below ["value", "many"] (spF K 2 m_is_below) := fn_ok (N := N_is_below) (b := b_is_below) V.F_is_below sc_is_below fun cdv A outer s H E hr =>
    (s_cons (s_ret (cW (f_and (cSet (w_call ((ok_is_natural V).mono (by decide)) (takes_of rfl rfl rfl rfl) hr rfl V.g_is_natural V.F_is_natural.kp (bi_is_natural V) (r_cons (f_var (i := 0)) r_nil) (len_cons len_nil).len)) (f_one (q_lt (f_var (i := 0)) (f_var (i := 1)))))))
    s_nil)
theorem sc_is_part : FnScope N_is_part ["b", "many", "told"] (defScope s_is_part) := ⟨rfl, rfl, rfl, by decide +kernel, rfl, by decide +kernel, by decide +kernel⟩
theorem bi_is_part (V : Fx K mg) : Binds K V.d_is_part ["b", "many", "told"] [] := V.F_is_part.bindsN fun _ _ _ _ _ _ us hl => match us, hl with | [_, _, _], _ => rfl
theorem ok_is_part (V : Fx K mg) : FnOk P w K mg base (L2.CX P w) 4 V.a_is_part V.d_is_part ["b", "many", "told"] (spF K 3 m_is_part) := fn_ok (N := N_is_part) (b := b_is_part) V.F_is_part sc_is_part fun cdv A outer s H E hr =>
    (s_cons (s_if (f_bool (f_orT (f_notT (f_test (f_isi (f_var (i := 2)) rfl V.z_isinstance rfl V.z_tuple (by decide +kernel)))) (f_orT1 (f_cmpT (op_neD hr.units) snd_neD (k_len rfl V.z_len (r_cons (f_var (i := 2)) r_nil)) f_int (nomark _))))) (s_cons (s_ret (cW f_bl))
    s_nil) s_nil)
    (s_cons (s_ret (cW (f_and (cSet (w_call ((ok_is_below V).mono (by decide)) (takes_of rfl rfl rfl rfl) hr rfl V.g_is_below V.F_is_below.kp (bi_is_below V) (r_cons (f_ixA (f_var (i := 2)) f_int) (r_cons (f_var (i := 0)) r_nil)) (len_cons (len_cons len_nil)).len)) (f_and (cSet (w_call ((ok_is_below V).mono (by decide)) (takes_of rfl rfl rfl rfl) hr rfl V.g_is_below V.F_is_below.kp (bi_is_below V) (r_cons (f_ixA (f_var (i := 2)) f_int) (r_cons (f_var (i := 0)) r_nil)) (len_cons (len_cons len_nil)).len)) (f_one (cSet (w_call ((ok_is_below V).mono (by decide)) (takes_of rfl rfl rfl rfl) hr rfl V.g_is_below V.F_is_below.kp (bi_is_below V) (r_cons (f_ixA (f_var (i := 2)) f_int) (r_cons (f_var (i := 1)) r_nil)) (len_cons (len_cons len_nil)).len)))))))
    s_nil))
theorem sc_is_kind_of : FnScope N_is_kind_of ["b", "many", "told"] (defScope s_is_kind_of) := ⟨rfl, rfl, rfl, by decide +kernel, rfl, by decide +kernel, by decide +kernel⟩
theorem bi_is_kind_of (V : Fx K mg) : Binds K V.d_is_kind_of ["b", "many", "told"] [] := V.F_is_kind_of.bindsN fun _ _ _ _ _ _ us hl => match us, hl with | [_, _, _], _ => rfl
theorem ok_is_kind_of (V : Fx K mg) : FnOk P w K mg base (L2.CX P w) 5 V.a_is_kind_of V.d_is_kind_of ["b", "many", "told"] (spF K 3 m_is_kind_of) := fn_ok (N := N_is_kind_of) (b := b_is_kind_of) V.F_is_kind_of sc_is_kind_of fun cdv A outer s H E hr =>
    (s_cons (s_if (f_bool (f_orT (f_notT (f_test (f_isi (f_var (i := 2)) rfl V.z_isinstance rfl V.z_tuple (by decide +kernel)))) (f_orT (f_cmpT (op_neD hr.units) snd_neD (k_len rfl V.z_len (r_cons (f_var (i := 2)) r_nil)) (b_mul (f_var (i := 0)) (f_var (i := 0))) (nomark _)) (f_orT1 (f_notT (f_test (k_all rfl rfl V.z_all (r_cons (cFrz (n_lc (own := [("part", 3)]) rfl sc_is_kind_of.nd (by decide) (i_any (f_var (i := 2))) (blk_ok (by kernel_rfl)) (fun _ _ _ _ _ => (t_name (i := 3) sc_is_kind_of.nd rfl (by first | exact .inl rfl | exact .inr rfl))) (fun _ _ _ _ _ => ts_nil) (fun _ _ _ _ _ => (cSet (w_call ((ok_is_part V).mono (by decide)) takes0 hr rfl V.g_is_part V.F_is_part.kp (bi_is_part V) (r_cons (f_var (i := 0)) (r_cons (f_var (i := 1)) (r_cons (f_var (i := 3)) r_nil))) (len_cons (len_cons (len_cons len_nil))).len))))) r_nil)))))))) (s_cons (s_ret (cW f_bl))
    s_nil) s_nil)
    (s_cons (s_ret (cW (q_eq hr.units (k_len rfl V.z_len (r_cons (f_dc kkT (own := [("part", 3)]) (hu_of hr) rfl sc_is_kind_of.nd (by decide) (i_any (f_var (i := 2))) (blk_ok (by kernel_rfl)) (fun _ _ _ _ _ => (t_name (i := 3) sc_is_kind_of.nd rfl (by first | exact .inl rfl | exact .inr rfl))) (fun _ _ _ _ _ => ts_nil) (fun _ _ _ _ _ => (cSet (w_sl (f_var (i := 3)) p_none (p_some f_int)))) (fun _ _ _ _ _ => f_bl)) r_nil)) (b_mul (f_var (i := 0)) (f_var (i := 0))))))
    s_nil))
theorem sc_is_book : FnScope N_is_book ["told"] (defScope s_is_book) := ⟨rfl, rfl, rfl, by decide +kernel, rfl, by decide +kernel, by decide +kernel⟩
theorem bi_is_book (V : Fx K mg) : Binds K V.d_is_book ["told"] [] := V.F_is_book.bindsN fun _ _ _ _ _ _ us hl => match us, hl with | [_], _ => rfl
theorem ok_is_book (V : Fx K mg) : FnOk P w K mg base (L2.CX P w) 6 V.a_is_book V.d_is_book ["told"] (spF K 1 m_is_book) := fn_ok (N := N_is_book) (b := b_is_book) V.F_is_book sc_is_book fun cdv A outer s H E hr =>
    (s_cons (s_if (f_bool (f_orT (f_notT (f_test (cSet (w_call ((ok_is_pair V).mono (by decide)) (takes_of rfl rfl rfl rfl) hr rfl V.g_is_pair V.F_is_pair.kp (bi_is_pair V) (r_cons (f_var (i := 0)) r_nil) (len_cons len_nil).len)))) (f_orT (f_notT (f_test (cSet (w_call ((ok_is_integer V).mono (by decide)) (takes_of rfl rfl rfl rfl) hr rfl V.g_is_integer V.F_is_integer.kp (bi_is_integer V) (r_cons (f_ixA (f_var (i := 0)) f_int) r_nil) (len_cons len_nil).len)))) (f_orT1 (f_cmpT op_notIn_seq (snd_inS true) (f_ixA (f_var (i := 0)) f_int) (f_gt rfl V.c_SIDES V.q_SIDES) (by rfl)))))) (s_cons (s_ret (cW f_bl))
    s_nil) s_nil)
    (s_cons (s_if (f_bool (f_orT (f_notT (f_test (f_isi (f_ixA (f_var (i := 0)) f_int) rfl V.z_isinstance rfl V.z_tuple (by decide +kernel)))) (f_orT1 (f_cmpT (op_eqD hr.units) snd_eqD (k_len rfl V.z_len (r_cons (f_ixA (f_var (i := 0)) f_int) r_nil)) f_int (nomark _))))) (s_cons (s_ret (cW f_bl))
    s_nil) s_nil)
    (s_cons (s_ret (cW (k_all rfl rfl V.z_all (r_cons (cFrz (n_lc (own := [("kind", 1)]) rfl sc_is_book.nd (by decide) (i_any (f_ixA (f_var (i := 0)) f_int)) (blk_ok (by kernel_rfl)) (fun _ _ _ _ _ => (t_name (i := 1) sc_is_book.nd rfl (by first | exact .inl rfl | exact .inr rfl))) (fun _ _ _ _ _ => ts_nil) (fun _ _ _ _ _ => (cSet (w_call ((ok_is_kind_of V).mono (by decide)) takes0 hr rfl V.g_is_kind_of V.F_is_kind_of.kp (bi_is_kind_of V) (r_cons (f_ixA (f_var (i := 0)) f_int) (r_cons (k_len rfl V.z_len (r_cons (f_ixA (f_var (i := 0)) f_int) r_nil)) (r_cons (f_var (i := 1)) r_nil))) (len_cons (len_cons (len_cons len_nil))).len))))) r_nil))))
    s_nil)))
theorem sc_check_book : FnScope N_check_book ["book"] (defScope s_check_book) := ⟨rfl, rfl, rfl, by decide +kernel, rfl, by decide +kernel, by decide +kernel⟩
theorem bi_check_book (V : Fx K mg) : Binds K V.d_check_book ["book"] [] := V.F_check_book.bindsN fun _ _ _ _ _ _ us hl => match us, hl with | [_], _ => rfl
theorem ok_check_book (V : Fx K mg) : FnOk P w K mg base (L2.CX P w) 7 V.a_check_book V.d_check_book ["book"] (spF K 1 m_check_book) := fn_ok (N := N_check_book) (b := b_check_book) V.F_check_book sc_check_book fun cdv A outer s H E hr =>
    (s_cons (s_if (f_notT (f_test (cSet (w_call ((ok_is_book V).mono (by decide)) (takes_of rfl rfl rfl rfl) hr rfl V.g_is_book V.F_is_book.kp (bi_is_book V) (r_cons (f_var (i := 0)) r_nil) (len_cons len_nil).len)))) (s_cons s_bad
    s_nil) s_nil)
    s_nil)
theorem sc_check_depth : FnScope N_check_depth ["d"] (defScope s_check_depth) := ⟨rfl, rfl, rfl, by decide +kernel, rfl, by decide +kernel, by decide +kernel⟩
theorem bi_check_depth (V : Fx K mg) : Binds K V.d_check_depth ["d"] [] := V.F_check_depth.bindsN fun _ _ _ _ _ _ us hl => match us, hl with | [_], _ => rfl
theorem ok_check_depth (V : Fx K mg) : FnOk P w K mg base (L2.CX P w) 3 V.a_check_depth V.d_check_depth ["d"] (spF K 1 m_check_depth) := fn_ok (N := N_check_depth) (b := b_check_depth) V.F_check_depth sc_check_depth fun cdv A outer s H E hr =>
    (s_cons (s_if (f_notT (f_test (cSet (w_call ((ok_is_natural V).mono (by decide)) (takes_of rfl rfl rfl rfl) hr rfl V.g_is_natural V.F_is_natural.kp (bi_is_natural V) (r_cons (f_var (i := 0)) r_nil) (len_cons len_nil).len)))) (s_cons s_bad
    s_nil) s_nil)
    s_nil)
theorem sc_power : FnScope N_power ["b", "n"] (defScope s_power) := ⟨rfl, rfl, rfl, by decide +kernel, rfl, by decide +kernel, by decide +kernel⟩
theorem bi_power (V : Fx K mg) : Binds K V.d_power ["b", "n"] [] := V.F_power.bindsN fun _ _ _ _ _ _ us hl => match us, hl with | [_, _], _ => rfl
theorem ok_power (V : Fx K mg) : FnOk P w K mg base (L2.CX P w) 1 V.a_power V.d_power ["b", "n"] (spF K 2 m_power) := fn_ok (N := N_power) (b := b_power) V.F_power sc_power fun cdv A outer s H E hr =>
    (s_cons (s_asg f_int (t_name (i := 2) sc_power.nd rfl (by first | exact .inl rfl | exact .inr rfl)))
    (s_cons (s_for (passes_of rfl) rfl (i_rg1 rfl V.z_range (r_cons (f_var (i := 1)) r_nil)) (t_name (i := 3) sc_power.nd rfl (by first | exact .inl rfl | exact .inr rfl)) (s_cons (s_asg (b_mul (f_var (i := 2)) (f_var (i := 0))) (t_name (i := 2) sc_power.nd rfl (by first | exact .inl rfl | exact .inr rfl)))
    s_nil))
    (s_cons (s_ret (cW (f_var (i := 2))))
    s_nil)))
theorem sc_how_many_cells : FnScope N_how_many_cells ["book", "d"] (defScope s_how_many_cells) := ⟨rfl, rfl, rfl, by decide +kernel, rfl, by decide +kernel, by decide +kernel⟩
theorem bi_how_many_cells (V : Fx K mg) : Binds K V.d_how_many_cells ["book", "d"] [] := V.F_how_many_cells.bindsN fun _ _ _ _ _ _ us hl => match us, hl with | [_, _], _ => rfl
theorem ok_how_many_cells (V : Fx K mg) : FnOk P w K mg base (L2.CX P w) 2 V.a_how_many_cells V.d_how_many_cells ["book", "d"] (spF K 2 m_how_many_cells) := fn_ok (N := N_how_many_cells) (b := b_how_many_cells) V.F_how_many_cells sc_how_many_cells fun cdv A outer s H E hr =>
    (s_cons (s_ret (w_call ((ok_power V).mono (by decide)) (takes_of rfl rfl rfl rfl) hr rfl V.g_power V.F_power.kp (bi_power V) (r_cons (b_mul (f_ixA (f_var (i := 0)) f_int) (f_ixA (f_var (i := 0)) f_int)) (r_cons (f_var (i := 1)) r_nil)) (len_cons (len_cons len_nil)).len))
    s_nil)
theorem sc_cells_each_way : FnScope N_cells_each_way ["book", "d"] (defScope s_cells_each_way) := ⟨rfl, rfl, rfl, by decide +kernel, rfl, by decide +kernel, by decide +kernel⟩
theorem bi_cells_each_way (V : Fx K mg) : Binds K V.d_cells_each_way ["book", "d"] [] := V.F_cells_each_way.bindsN fun _ _ _ _ _ _ us hl => match us, hl with | [_, _], _ => rfl
theorem ok_cells_each_way (V : Fx K mg) : FnOk P w K mg base (L2.CX P w) 2 V.a_cells_each_way V.d_cells_each_way ["book", "d"] (spF K 2 m_cells_each_way) := fn_ok (N := N_cells_each_way) (b := b_cells_each_way) V.F_cells_each_way sc_cells_each_way fun cdv A outer s H E hr =>
    (s_cons (s_ret (w_call ((ok_power V).mono (by decide)) (takes_of rfl rfl rfl rfl) hr rfl V.g_power V.F_power.kp (bi_power V) (r_cons (f_ixA (f_var (i := 0)) f_int) (r_cons (f_var (i := 1)) r_nil)) (len_cons (len_cons len_nil)).len))
    s_nil)
theorem sc_way_to : FnScope N_way_to ["book", "kind", "d", "number"] (defScope s_way_to) := ⟨rfl, rfl, rfl, by decide +kernel, rfl, by decide +kernel, by decide +kernel⟩
theorem bi_way_to (V : Fx K mg) : Binds K V.d_way_to ["book", "kind", "d", "number"] [] := V.F_way_to.bindsN fun _ _ _ _ _ _ us hl => match us, hl with | [_, _, _, _], _ => rfl
theorem ok_way_to (V : Fx K mg) : FnOk P w K mg base (L2.CX P w) 3 V.a_way_to V.d_way_to ["book", "kind", "d", "number"] (spF K 4 m_way_to) := fn_ok (N := N_way_to) (b := b_way_to) V.F_way_to sc_way_to fun cdv A outer s H E hr =>
    (s_cons (s_par (i := 4) (j := 5) rfl sc_way_to.nd rfl rfl (by decide) rfl rfl (r_cons (cSet (w_call ((ok_cells_each_way V).mono (by decide)) (takes_of rfl rfl rfl rfl) hr rfl V.g_cells_each_way V.F_cells_each_way.kp (bi_cells_each_way V) (r_cons (f_var (i := 0)) (r_cons (f_var (i := 2)) r_nil)) (len_cons (len_cons len_nil)).len)) (r_cons (cSet (w_call ((ok_how_many_cells V).mono (by decide)) (takes_of rfl rfl rfl rfl) hr rfl V.g_how_many_cells V.F_how_many_cells.kp (bi_how_many_cells V) (r_cons (f_var (i := 0)) (r_cons (f_var (i := 2)) r_nil)) (len_cons (len_cons len_nil)).len)) r_nil)) (by rfl))
    (s_cons (s_par3 (i := 6) (j := 7) (l := 8) rfl sc_way_to.nd rfl rfl rfl (by decide) (by decide) (by decide) rfl rfl rfl (r_cons f_int (r_cons f_int (r_cons (cSto (n_lst (r_cons (f_var (i := 1)) r_nil))) r_nil))) (by rfl))
    (s_cons (s_for (passes_of rfl) rfl (i_rg1 rfl V.z_range (r_cons (f_var (i := 2)) r_nil)) (t_name (i := 9) sc_way_to.nd rfl (by first | exact .inl rfl | exact .inr rfl)) (s_cons (s_par (i := 4) (j := 5) rfl sc_way_to.nd rfl rfl (by decide) rfl rfl (r_cons (b_div (f_var (i := 4)) (f_ixA (f_var (i := 0)) f_int)) (r_cons (b_div (f_var (i := 5)) (b_mul (f_ixA (f_var (i := 0)) f_int) (f_ixA (f_var (i := 0)) f_int))) r_nil)) (by rfl))
    (s_cons (s_asg (f_ixA (f_ixA (f_ixA (f_var (i := 0)) f_int) (f_var (i := 1))) (b_div (f_var (i := 3)) (f_var (i := 5)))) (t_tup rfl (t_cons (t_name (i := 10) sc_way_to.nd rfl (by first | exact .inl rfl | exact .inr rfl)) (t_cons (t_name (i := 11) sc_way_to.nd rfl (by first | exact .inl rfl | exact .inr rfl)) (t_cons (t_name (i := 1) sc_way_to.nd rfl (by first | exact .inl rfl | exact .inr rfl)) t_nil))) (len_gC (len_gC (len_gC len_gE)))))
    (s_cons (s_par3 (i := 6) (j := 7) (l := 3) rfl sc_way_to.nd rfl rfl rfl (by decide) (by decide) (by decide) rfl rfl rfl (r_cons (b_add (f_var (i := 6)) (b_mul (f_var (i := 10)) (f_var (i := 4)))) (r_cons (b_add (f_var (i := 7)) (b_mul (f_var (i := 11)) (f_var (i := 4)))) (r_cons (b_mod (f_var (i := 3)) (f_var (i := 5))) r_nil))) (by rfl))
    (s_cons (s_exp (cW (f_append (f_var (i := 8)) (f_var (i := 1)))))
    s_nil)))))
    (s_cons (s_ret (cW (f_tup (r_cons (f_tup (r_cons (f_var (i := 6)) (r_cons (f_var (i := 7)) r_nil))) (r_cons (k_tup rfl V.z_tuple (r_cons (f_var (i := 8)) r_nil)) r_nil)))))
    s_nil))))
theorem sc_cell_in : FnScope N_cell_in ["book", "kind", "d", "number"] (defScope s_cell_in) := ⟨rfl, rfl, rfl, by decide +kernel, rfl, by decide +kernel, by decide +kernel⟩
theorem bi_cell_in (V : Fx K mg) : Binds K V.d_cell_in ["book", "kind", "d", "number"] [] := V.F_cell_in.bindsN fun _ _ _ _ _ _ us hl => match us, hl with | [_, _, _, _], _ => rfl
theorem ok_cell_in (V : Fx K mg) : FnOk P w K mg base (L2.CX P w) 4 V.a_cell_in V.d_cell_in ["book", "kind", "d", "number"] (spF K 4 m_cell_in) := fn_ok (N := N_cell_in) (b := b_cell_in) V.F_cell_in sc_cell_in fun cdv A outer s H E hr =>
    (s_cons (s_ret (cW (f_ixA (cSet (w_call ((ok_way_to V).mono (by decide)) (takes_of rfl rfl rfl rfl) hr rfl V.g_way_to V.F_way_to.kp (bi_way_to V) (r_cons (f_var (i := 0)) (r_cons (f_var (i := 1)) (r_cons (f_var (i := 2)) (r_cons (f_var (i := 3)) r_nil)))) (len_cons (len_cons (len_cons (len_cons len_nil)))).len)) f_int)))
    s_nil)
theorem sc_thread_of : FnScope N_thread_of ["book", "kind", "d", "first", "many"] (defScope s_thread_of) := ⟨rfl, rfl, rfl, by decide +kernel, rfl, by decide +kernel, by decide +kernel⟩
theorem bi_thread_of (V : Fx K mg) : Binds K V.d_thread_of ["book", "kind", "d", "first", "many"] [] := V.F_thread_of.bindsN fun _ _ _ _ _ _ us hl => match us, hl with | [_, _, _, _, _], _ => rfl
theorem ok_thread_of (V : Fx K mg) : FnOk P w K mg base (L2.CX P w) 5 V.a_thread_of V.d_thread_of ["book", "kind", "d", "first", "many"] (spF K 5 m_thread_of) := fn_ok (N := N_thread_of) (b := b_thread_of) V.F_thread_of sc_thread_of fun cdv A outer s H E hr =>
    (s_cons (s_asg (k_min2 rfl rfl V.z_min (r_cons (b_add (f_var (i := 3)) (f_var (i := 4))) (r_cons (cSet (w_call ((ok_how_many_cells V).mono (by decide)) (takes_of rfl rfl rfl rfl) hr rfl V.g_how_many_cells V.F_how_many_cells.kp (bi_how_many_cells V) (r_cons (f_var (i := 0)) (r_cons (f_var (i := 2)) r_nil)) (len_cons (len_cons len_nil)).len)) r_nil))) (t_name (i := 5) sc_thread_of.nd rfl (by first | exact .inl rfl | exact .inr rfl)))
    (s_cons (s_ret (cFre (n_lc (own := [("number", 6)]) rfl sc_thread_of.nd (by decide) (i_rg2 rfl V.z_range (r_cons (f_var (i := 3)) (r_cons (f_var (i := 5)) r_nil))) (blk_ok (by kernel_rfl)) (fun _ _ _ _ _ => (t_name (i := 6) sc_thread_of.nd rfl (by first | exact .inl rfl | exact .inr rfl))) (fun _ _ _ _ _ => ts_nil) (fun _ _ _ _ _ => (cSet (w_call ((ok_cell_in V).mono (by decide)) takes0 hr rfl V.g_cell_in V.F_cell_in.kp (bi_cell_in V) (r_cons (f_var (i := 0)) (r_cons (f_var (i := 1)) (r_cons (f_var (i := 2)) (r_cons (f_var (i := 6)) r_nil)))) (len_cons (len_cons (len_cons (len_cons len_nil)))).len))))))
    s_nil))
theorem sc_whole : FnScope N_whole ["book", "d"] (defScope s_whole) := ⟨rfl, rfl, rfl, by decide +kernel, rfl, by decide +kernel, by decide +kernel⟩
theorem bi_whole (V : Fx K mg) : Binds K V.d_whole ["book", "d"] [] := V.F_whole.bindsN fun _ _ _ _ _ _ us hl => match us, hl with | [_, _], _ => rfl
theorem ok_whole (V : Fx K mg) : FnOk P w K mg base (L2.CX P w) 8 V.a_whole V.d_whole ["book", "d"] (spF K 2 m_whole) := fn_ok (N := N_whole) (b := b_whole) V.F_whole sc_whole fun cdv A outer s H E hr =>
    (s_cons (s_exp (w_call ((ok_check_book V).mono (by decide)) (takes_of rfl rfl rfl rfl) hr rfl V.g_check_book V.F_check_book.kp (bi_check_book V) (r_cons (f_var (i := 0)) r_nil) (len_cons len_nil).len))
    (s_cons (s_exp (w_call ((ok_check_depth V).mono (by decide)) (takes_of rfl rfl rfl rfl) hr rfl V.g_check_depth V.F_check_depth.kp (bi_check_depth V) (r_cons (f_var (i := 1)) r_nil) (len_cons len_nil).len))
    (s_cons (s_ret (w_call ((ok_thread_of V).mono (by decide)) (takes_of rfl rfl rfl rfl) hr rfl V.g_thread_of V.F_thread_of.kp (bi_thread_of V) (r_cons (f_var (i := 0)) (r_cons f_int (r_cons (f_var (i := 1)) (r_cons f_int (r_cons (cSet (w_call ((ok_how_many_cells V).mono (by decide)) (takes_of rfl rfl rfl rfl) hr rfl V.g_how_many_cells V.F_how_many_cells.kp (bi_how_many_cells V) (r_cons (f_var (i := 0)) (r_cons (f_var (i := 1)) r_nil)) (len_cons (len_cons len_nil)).len)) r_nil))))) (len_cons (len_cons (len_cons (len_cons (len_cons len_nil))))).len))
    s_nil)))
theorem sc_drawn : FnScope N_drawn ["book", "d"] (defScope s_drawn) := ⟨rfl, rfl, rfl, by decide +kernel, rfl, by decide +kernel, by decide +kernel⟩
theorem bi_drawn (V : Fx K mg) : Binds K V.d_drawn ["book", "d"] [] := V.F_drawn.bindsN fun _ _ _ _ _ _ us hl => match us, hl with | [_, _], _ => rfl
theorem bk_drawn_0 (V : Fx K mg) : ∀ (s : Shared) (us : List Value), us.length = (["d", "book"] : List PySem.Str).length → BindsTo s V.d_drawn ⟨[], (["d", "book"] : List PySem.Str).zip us⟩ ((["book", "d"] : List PySem.Str).zip (pick [1, 0] us)) := bindsKw V.F_drawn fun _ _ _ _ _ _ us hl => match us, hl with | [_, _], _ => rfl
theorem ok_drawn (V : Fx K mg) : FnOk P w K mg base (L2.CX P w) 9 V.a_drawn V.d_drawn ["book", "d"] (spF K 2 m_drawn) := fn_ok (N := N_drawn) (b := b_drawn) V.F_drawn sc_drawn fun cdv A outer s H E hr =>
    (s_cons (s_ret (cFre (n_lc (own := [("row", 2)]) rfl sc_drawn.nd (by decide) (i_any (cFrz (n_rev (cSet (w_call ((ok_signs_of V).mono (by decide)) (takes_of rfl rfl rfl rfl) hr rfl V.g_signs_of V.F_signs_of.kp (bi_signs_of V) (r_cons (cSet (w_call ((ok_whole V).mono (by decide)) (takes_of rfl rfl rfl rfl) hr rfl V.g_whole V.F_whole.kp (bi_whole V) (r_cons (f_var (i := 0)) (r_cons (f_var (i := 1)) r_nil)) (len_cons (len_cons len_nil)).len)) r_nil) (len_cons len_nil).len))))) (blk_ok (by kernel_rfl)) (fun _ _ _ _ _ => (t_name (i := 2) sc_drawn.nd rfl (by first | exact .inl rfl | exact .inr rfl))) (fun _ _ _ _ _ => ts_nil) (fun _ _ _ _ _ => (f_join f_str (f_var (i := 2)))))))
    s_nil)
theorem sc_numbers_drawn : FnScope N_numbers_drawn ["book", "d"] (defScope s_numbers_drawn) := ⟨rfl, rfl, rfl, by decide +kernel, rfl, by decide +kernel, by decide +kernel⟩
theorem bi_numbers_drawn (V : Fx K mg) : Binds K V.d_numbers_drawn ["book", "d"] [] := V.F_numbers_drawn.bindsN fun _ _ _ _ _ _ us hl => match us, hl with | [_, _], _ => rfl
theorem bk_numbers_drawn_0 (V : Fx K mg) : ∀ (s : Shared) (us : List Value), us.length = (["d", "book"] : List PySem.Str).length → BindsTo s V.d_numbers_drawn ⟨[], (["d", "book"] : List PySem.Str).zip us⟩ ((["book", "d"] : List PySem.Str).zip (pick [1, 0] us)) := bindsKw V.F_numbers_drawn fun _ _ _ _ _ _ us hl => match us, hl with | [_, _], _ => rfl
theorem ok_numbers_drawn (V : Fx K mg) : FnOk P w K mg base (L2.CX P w) 9 V.a_numbers_drawn V.d_numbers_drawn ["book", "d"] (spF K 2 m_numbers_drawn) := fn_ok (N := N_numbers_drawn) (b := b_numbers_drawn) V.F_numbers_drawn sc_numbers_drawn fun cdv A outer s H E hr =>
    (s_cons (s_asg (cSet (w_call ((ok_whole V).mono (by decide)) (takes_of rfl rfl rfl rfl) hr rfl V.g_whole V.F_whole.kp (bi_whole V) (r_cons (f_var (i := 0)) (r_cons (f_var (i := 1)) r_nil)) (len_cons (len_cons len_nil)).len)) (t_name (i := 2) sc_numbers_drawn.nd rfl (by first | exact .inl rfl | exact .inr rfl)))
    (s_cons (s_lcM (own := [("y", 6)]) rfl sc_numbers_drawn.nd (i := 3) rfl rfl (by rfl) (by decide) (i_rg1 rfl V.z_range (r_cons (cSet (w_call ((ok_side_of V).mono (by decide)) (takes_of rfl rfl rfl rfl) hr rfl V.g_side_of V.F_side_of.kp (bi_side_of V) (r_cons (f_var (i := 2)) r_nil) (len_cons len_nil).len)) r_nil)) (blk_ok (by kernel_rfl)) (fun _ _ _ _ _ => (t_name (i := 6) sc_numbers_drawn.nd rfl (by first | exact .inl rfl | exact .inr rfl))) (fun _ _ _ _ _ => ts_nil) (fun _ _ _ _ _ => (n_rep (cFrz (n_lst (r_cons f_int r_nil))) (cSet (w_call ((ok_side_of V).mono (by decide)) takes0 hr rfl V.g_side_of V.F_side_of.kp (bi_side_of V) (r_cons (f_var (i := 2)) r_nil) (len_cons len_nil).len)))))
    (s_cons (s_for (passes_of rfl) rfl (i_enum rfl V.z_enumerate (r_cons (f_var (i := 2)) r_nil)) (t_tup rfl (t_cons (t_name (i := 4) sc_numbers_drawn.nd rfl (by first | exact .inl rfl | exact .inr rfl)) (t_cons (t_tup rfl (t_cons (t_name (i := 5) sc_numbers_drawn.nd rfl (by first | exact .inl rfl | exact .inr rfl)) (t_cons (t_name (i := 6) sc_numbers_drawn.nd rfl (by first | exact .inl rfl | exact .inr rfl)) t_nil)) (len_gC (len_gC len_gE))) t_nil)) (len_gC (len_gC len_gE))) (s_cons (s_setI (f_var (i := 4)) (f_ixA (f_var (i := 3)) (f_var (i := 6))) (f_var (i := 5)))
    s_nil))
    (s_cons (s_retRev (f_var (i := 3)))
    s_nil))))
theorem sc_x_law_same : FnScope N_x_law_same ["told", "due"] (defScope s_x_law_same) := ⟨rfl, rfl, rfl, by decide +kernel, rfl, by decide +kernel, by decide +kernel⟩
theorem bi_x_law_same (V : Fx K mg) : Binds K V.d_x_law_same ["told", "due"] [] := V.F_x_law_same.bindsN fun _ _ _ _ _ _ us hl => match us, hl with | [_, _], _ => rfl
theorem ok_x_law_same (V : Fx K mg) : ∀ n : Nat, FnOk P w K mg base (L2.CX P w) (0 + n) V.a_x_law_same V.d_x_law_same ["told", "due"] (spF K 2 (m_x_law_same n))
  | 0 => ⟨fun vs H Q E ⟨_, _, _, _, h, _⟩ => h, fun A outer s H args us vs Q E hr env hb rv ⟨_, _, _, _, _, _, _, h⟩ => h.elim⟩
  | n + 1 => fn_ok (N := N_x_law_same) (b := b_x_law_same (m_x_law_same n)) V.F_x_law_same sc_x_law_same fun cdv A outer s H E hr =>
    (s_cons (s_if (f_cmpT op_isN snd_isN (f_var (i := 1)) f_non (nomark _)) (s_cons (s_ret (cW (q_isN (f_var (i := 0)) f_non)))
    s_nil) s_nil)
    (s_cons (s_if (f_test (f_isi (f_var (i := 1)) rfl V.z_isinstance rfl V.z_bool (by decide +kernel))) (s_cons (s_ret (cW (f_if (f_test (f_var (i := 1))) (q_isB (f_var (i := 0)) f_bl) (q_isB (f_var (i := 0)) f_bl))))
    s_nil) s_nil)
    (s_cons (s_if (f_test (f_isi (f_var (i := 1)) rfl V.z_isinstance rfl V.z_int (by decide +kernel))) (s_cons (s_ret (cW (f_and (f_isi (f_var (i := 0)) rfl V.z_isinstance rfl V.z_int (by decide +kernel)) (f_and (f_not (f_isi (f_var (i := 0)) rfl V.z_isinstance rfl V.z_bool (by decide +kernel))) (f_one (q_eq hr.units (f_var (i := 0)) (f_var (i := 1))))))))
    s_nil) s_nil)
    (s_cons (s_if (f_test (f_isi (f_var (i := 1)) rfl V.z_isinstance rfl V.z_str (by decide +kernel))) (s_cons (s_ret (cW (f_and (f_isi (f_var (i := 0)) rfl V.z_isinstance rfl V.z_str (by decide +kernel)) (f_one (q_eq hr.units (f_var (i := 0)) (f_var (i := 1)))))))
    s_nil) s_nil)
    (s_cons (s_if (f_bool (f_orT (f_cmpT (op_neD hr.units) snd_neD (f_isi (f_var (i := 1)) rfl V.z_isinstance rfl V.z_tuple (by decide +kernel)) (f_isi (f_var (i := 0)) rfl V.z_isinstance rfl V.z_tuple (by decide +kernel)) (nomark _)) (f_orT1 (f_cmpT (op_neD hr.units) snd_neD (f_isi (f_var (i := 1)) rfl V.z_isinstance rfl V.z_list (by decide +kernel)) (f_isi (f_var (i := 0)) rfl V.z_isinstance rfl V.z_list (by decide +kernel)) (nomark _))))) (s_cons (s_ret (cW f_bl))
    s_nil) s_nil)
    (s_cons (s_ret (cW (f_and (q_eq hr.units (k_len rfl V.z_len (r_cons (f_var (i := 0)) r_nil)) (k_len rfl V.z_len (r_cons (f_var (i := 1)) r_nil))) (f_one (k_all rfl rfl V.z_all (r_cons (cFrz (n_lc (own := [("k", 2)]) rfl sc_x_law_same.nd (by decide) (i_rg1 rfl V.z_range (r_cons (k_len rfl V.z_len (r_cons (f_var (i := 1)) r_nil)) r_nil)) (blk_ok (by kernel_rfl)) (fun _ _ _ _ _ => (t_name (i := 2) sc_x_law_same.nd rfl (by first | exact .inl rfl | exact .inr rfl))) (fun _ _ _ _ _ => ts_nil) (fun _ _ _ _ _ => (cSet (w_call (ok_x_law_same V n) takes0 hr rfl V.g_x_law_same V.F_x_law_same.kp (bi_x_law_same V) (r_cons (f_ixA (f_var (i := 0)) (f_var (i := 2))) (r_cons (f_ixA (f_var (i := 1)) (f_var (i := 2))) r_nil)) (len_cons (len_cons len_nil)).len))))) r_nil))))))
    s_nil))))))
theorem sc_x_law_right : FnScope N_x_law_right ["book", "d", "due", "named"] (defScope s_x_law_right) := ⟨rfl, rfl, rfl, by decide +kernel, rfl, by decide +kernel, by decide +kernel⟩
theorem bi_x_law_right (V : Fx K mg) : Binds K V.d_x_law_right ["book", "d", "due", "named"] [] := V.F_x_law_right.bindsN fun _ _ _ _ _ _ us hl => match us, hl with | [_, _, _, _], _ => rfl
theorem ok_x_law_right (V : Fx K mg) : FnOk P w K mg base (L2.CX P w) 10 V.a_x_law_right V.d_x_law_right ["book", "d", "due", "named"] (spF K 4 m_x_law_right) := fn_ok (N := N_x_law_right) (b := b_x_law_right) V.F_x_law_right sc_x_law_right fun cdv A outer s H E hr =>
    (s_cons (s_asg (cAlc (w_if (f_test (f_var (i := 3))) (w_callK ((ok_drawn V).mono (by decide)) (takes_of rfl rfl rfl rfl) hr rfl V.g_drawn V.F_drawn.kp (bk_drawn_0 V) (k_cons (f_var (i := 1)) (k_cons (f_var (i := 0)) k_nil)) (len_cons (len_cons len_nil)).len (fun us hl => match us, hl with | [_, _], _ => rfl)) (w_call ((ok_drawn V).mono (by decide)) (takes_of rfl rfl rfl rfl) hr rfl V.g_drawn V.F_drawn.kp (bi_drawn V) (r_cons (f_var (i := 0)) (r_cons (f_var (i := 1)) r_nil)) (len_cons (len_cons len_nil)).len))) (t_name (i := 4) sc_x_law_right.nd rfl (by first | exact .inl rfl | exact .inr rfl)))
    (s_cons (s_asg (cAlc (w_if (f_test (f_var (i := 3))) (w_callK ((ok_numbers_drawn V).mono (by decide)) (takes_of rfl rfl rfl rfl) hr rfl V.g_numbers_drawn V.F_numbers_drawn.kp (bk_numbers_drawn_0 V) (k_cons (f_var (i := 1)) (k_cons (f_var (i := 0)) k_nil)) (len_cons (len_cons len_nil)).len (fun us hl => match us, hl with | [_, _], _ => rfl)) (w_call ((ok_numbers_drawn V).mono (by decide)) (takes_of rfl rfl rfl rfl) hr rfl V.g_numbers_drawn V.F_numbers_drawn.kp (bi_numbers_drawn V) (r_cons (f_var (i := 0)) (r_cons (f_var (i := 1)) r_nil)) (len_cons (len_cons len_nil)).len))) (t_name (i := 5) sc_x_law_right.nd rfl (by first | exact .inl rfl | exact .inr rfl)))
    (s_cons (s_if (f_bool (f_orT (f_notT (f_test (cSet (w_call ((ok_x_law_same V 4).mono (by decide)) (takes_of rfl rfl rfl rfl) hr rfl V.g_x_law_same V.F_x_law_same.kp (bi_x_law_same V) (r_cons (f_var (i := 4)) (r_cons (f_ixA (f_var (i := 2)) f_int) r_nil)) (len_cons (len_cons len_nil)).len)))) (f_orT1 (f_notT (f_test (cSet (w_call ((ok_x_law_same V 4).mono (by decide)) (takes_of rfl rfl rfl rfl) hr rfl V.g_x_law_same V.F_x_law_same.kp (bi_x_law_same V) (r_cons (f_var (i := 5)) (r_cons (f_ixA (f_var (i := 2)) f_int) r_nil)) (len_cons (len_cons len_nil)).len))))))) (s_cons (s_ret (cW f_bl))
    s_nil) s_nil)
    (s_cons (s_exp (cW (f_append (f_var (i := 4)) f_str)))
    (s_cons (s_exp (cW (f_append (f_ixA (f_var (i := 5)) f_int) f_int)))
    (s_cons (s_exp (cW (f_append (f_var (i := 5)) (f_ixA (f_var (i := 5)) f_int))))
    (s_cons (s_ret (cW f_bl))
    s_nil)))))))
theorem sc_law : FnScope N_law ["script"] (defScope s_law) := ⟨rfl, rfl, rfl, by decide +kernel, rfl, by decide +kernel, by decide +kernel⟩
theorem bi_law (V : Fx K mg) : Binds K V.d_law ["script"] [] := V.F_law.bindsN fun _ _ _ _ _ _ us hl => match us, hl with | [_], _ => rfl
theorem ok_law (V : Fx K mg) : FnOk P w K mg base (L2.CX P w) 11 V.a_law V.d_law ["script"] (spF K 1 m_law) := fn_ok (N := N_law) (b := b_law) V.F_law sc_law fun cdv A outer s H E hr =>
    (s_cons (s_asg (cSto (n_lst r_nil)) (t_name (i := 1) sc_law.nd rfl (by first | exact .inl rfl | exact .inr rfl)))
    (s_cons (s_for (passes_of rfl) rfl (i_rg1 rfl V.z_range (r_cons (k_max2 rfl rfl V.z_max (r_cons f_int (r_cons (k_min2 rfl rfl V.z_min (r_cons f_int (r_cons (k_len rfl V.z_len (r_cons (f_var (i := 0)) r_nil)) r_nil))) r_nil))) r_nil)) (t_name (i := 2) sc_law.nd rfl (by first | exact .inl rfl | exact .inr rfl)) (s_cons (s_asg (cAlc (w_call ((ok_x_law_well V).mono (by decide)) (takes_of rfl rfl rfl rfl) hr rfl V.g_x_law_well V.F_x_law_well.kp (bi_x_law_well V) (r_cons (f_var (i := 0)) (r_cons (f_var (i := 2)) r_nil)) (len_cons (len_cons len_nil)).len)) (t_name (i := 3) sc_law.nd rfl (by first | exact .inl rfl | exact .inr rfl)))
    (s_cons (s_asg (cSet (w_call ((ok_x_law_book V).mono (by decide)) (takes_of rfl rfl rfl rfl) hr rfl V.g_x_law_book V.F_x_law_book.kp (bi_x_law_book V) (r_cons (f_var (i := 3)) (r_cons (f_ixA (cFrz (n_lst (r_cons f_int (r_cons f_int (r_cons f_int (r_cons f_int r_nil)))))) (cSet (w_call ((ok_x_law_draw V).mono (by decide)) (takes_of rfl rfl rfl rfl) hr rfl V.g_x_law_draw V.F_x_law_draw.kp (bi_x_law_draw V) (r_cons (f_var (i := 3)) (r_cons f_int r_nil)) (len_cons (len_cons len_nil)).len))) r_nil)) (len_cons (len_cons len_nil)).len)) (t_name (i := 4) sc_law.nd rfl (by first | exact .inl rfl | exact .inr rfl)))
    (s_cons (s_asg (cSet (w_call ((ok_x_law_draw V).mono (by decide)) (takes_of rfl rfl rfl rfl) hr rfl V.g_x_law_draw V.F_x_law_draw.kp (bi_x_law_draw V) (r_cons (f_var (i := 3)) (r_cons (f_if (f_bool (f_orT (f_cmpT op_gt snd_gtS (f_var (i := 2)) f_int (nomark _)) (f_orT1 (f_cmpT (op_eqD hr.units) snd_eqD (f_ixA (f_var (i := 4)) f_int) f_int (nomark _))))) f_int f_int) r_nil)) (len_cons (len_cons len_nil)).len)) (t_name (i := 5) sc_law.nd rfl (by first | exact .inl rfl | exact .inr rfl)))
    (s_cons (s_if (f_bool (f_andT (f_cmpT (op_eqD hr.units) snd_eqD (f_var (i := 2)) f_int (nomark _)) (f_andT1 (f_cmpT (op_eqD hr.units) snd_eqD (cSet (w_call ((ok_x_law_draw V).mono (by decide)) (takes_of rfl rfl rfl rfl) hr rfl V.g_x_law_draw V.F_x_law_draw.kp (bi_x_law_draw V) (r_cons (f_var (i := 3)) (r_cons f_int r_nil)) (len_cons (len_cons len_nil)).len)) f_int (nomark _))))) (s_cons (s_asg f_int (t_name (i := 5) sc_law.nd rfl (by first | exact .inl rfl | exact .inr rfl)))
    s_nil) s_nil)
    (s_cons (s_asg (cSet (w_call ((ok_x_law_due V).mono (by decide)) (takes_of rfl rfl rfl rfl) hr rfl V.g_x_law_due V.F_x_law_due.kp (bi_x_law_due V) (r_cons (f_var (i := 4)) (r_cons (f_var (i := 5)) r_nil)) (len_cons (len_cons len_nil)).len)) (t_name (i := 6) sc_law.nd rfl (by first | exact .inl rfl | exact .inr rfl)))
    (s_cons (s_if (f_notT (f_test (cSet (w_call ((ok_x_law_right V).mono (by decide)) (takes_of rfl rfl rfl rfl) hr rfl V.g_x_law_right V.F_x_law_right.kp (bi_x_law_right V) (r_cons (f_var (i := 4)) (r_cons (f_var (i := 5)) (r_cons (f_var (i := 6)) (r_cons (q_eq hr.units (cSet (w_call ((ok_x_law_draw V).mono (by decide)) (takes_of rfl rfl rfl rfl) hr rfl V.g_x_law_draw V.F_x_law_draw.kp (bi_x_law_draw V) (r_cons (f_var (i := 3)) (r_cons f_int r_nil)) (len_cons (len_cons len_nil)).len)) f_int) r_nil)))) (len_cons (len_cons (len_cons (len_cons len_nil)))).len)))) (s_cons (s_ret (cW f_bl))
    s_nil) s_nil)
    (s_cons (s_if (f_cmpT op_lt snd_ltS (f_var (i := 5)) f_int (nomark _)) (s_cons (s_exp (cW (f_append (f_var (i := 1)) (f_tup (r_cons (f_var (i := 4)) (r_cons (f_var (i := 5)) (r_cons (f_var (i := 6)) r_nil)))))))
    s_nil) s_nil)
    s_nil))))))))
    (s_cons (s_for (passes_of rfl) rfl (i_any (cFrz (n_rev (f_var (i := 1))))) (t_tup rfl (t_cons (t_name (i := 4) sc_law.nd rfl (by first | exact .inl rfl | exact .inr rfl)) (t_cons (t_name (i := 5) sc_law.nd rfl (by first | exact .inl rfl | exact .inr rfl)) (t_cons (t_name (i := 6) sc_law.nd rfl (by first | exact .inl rfl | exact .inr rfl)) t_nil))) (len_gC (len_gC (len_gC len_gE)))) (s_cons (s_if (f_notT (f_test (cSet (w_call ((ok_x_law_right V).mono (by decide)) (takes_of rfl rfl rfl rfl) hr rfl V.g_x_law_right V.F_x_law_right.kp (bi_x_law_right V) (r_cons (f_var (i := 4)) (r_cons (f_var (i := 5)) (r_cons (f_var (i := 6)) (r_cons f_bl r_nil)))) (len_cons (len_cons (len_cons (len_cons len_nil)))).len)))) (s_cons (s_ret (cW f_bl))
    s_nil) s_nil)
    s_nil))
    (s_cons (s_ret (cW f_bl))
    s_nil))))
end
end K42

namespace K42
open PySem PySem.Spec PyProof.Rows L2 F
/-! ## the head -/
def e_x_law_well : He.DefD := ⟨("_law_well", none), "_law_well", "_law_well", defArgs s_x_law_well, defBody s_x_law_well, defScope s_x_law_well, [], []⟩
def e_x_law_draw : He.DefD := ⟨("_law_draw", none), "_law_draw", "_law_draw", defArgs s_x_law_draw, defBody s_x_law_draw, defScope s_x_law_draw, [], []⟩
def e_x_law_order : He.DefD := ⟨("_law_order", none), "_law_order", "_law_order", defArgs s_x_law_order, defBody s_x_law_order, defScope s_x_law_order, [], []⟩
def e_x_law_kind : He.DefD := ⟨("_law_kind", none), "_law_kind", "_law_kind", defArgs s_x_law_kind, defBody s_x_law_kind, defScope s_x_law_kind, [], []⟩
def e_x_law_book : He.DefD := ⟨("_law_book", none), "_law_book", "_law_book", defArgs s_x_law_book, defBody s_x_law_book, defScope s_x_law_book, [], []⟩
def e_x_law_power : He.DefD := ⟨("_law_power", none), "_law_power", "_law_power", defArgs s_x_law_power, defBody s_x_law_power, defScope s_x_law_power, [], []⟩
def e_x_law_whole : He.DefD := ⟨("_law_whole", none), "_law_whole", "_law_whole", defArgs s_x_law_whole, defBody s_x_law_whole, defScope s_x_law_whole, [], []⟩
def e_x_law_due : He.DefD := ⟨("_law_due", none), "_law_due", "_law_due", defArgs s_x_law_due, defBody s_x_law_due, defScope s_x_law_due, [], []⟩
def e_side_of : He.DefD := ⟨("side_of", none), "side_of", "side_of", defArgs s_side_of, defBody s_side_of, defScope s_side_of, [], []⟩
def e_signs_of : He.DefD := ⟨("signs_of", none), "signs_of", "signs_of", defArgs s_signs_of, defBody s_signs_of, defScope s_signs_of, [], []⟩
def e_is_pair : He.DefD := ⟨("is_pair", none), "is_pair", "is_pair", defArgs s_is_pair, defBody s_is_pair, defScope s_is_pair, [], []⟩
def e_is_integer : He.DefD := ⟨("is_integer", none), "is_integer", "is_integer", defArgs s_is_integer, defBody s_is_integer, defScope s_is_integer, [], []⟩
def e_is_natural : He.DefD := ⟨("is_natural", none), "is_natural", "is_natural", defArgs s_is_natural, defBody s_is_natural, defScope s_is_natural, [], []⟩
def e_is_below : He.DefD := ⟨("is_below", none), "is_below", "is_below", defArgs s_is_below, defBody s_is_below, defScope s_is_below, [], []⟩
def e_is_part : He.DefD := ⟨("is_part", none), "is_part", "is_part", defArgs s_is_part, defBody s_is_part, defScope s_is_part, [], []⟩
def e_is_kind_of : He.DefD := ⟨("is_kind_of", none), "is_kind_of", "is_kind_of", defArgs s_is_kind_of, defBody s_is_kind_of, defScope s_is_kind_of, [], []⟩
def e_is_book : He.DefD := ⟨("is_book", none), "is_book", "is_book", defArgs s_is_book, defBody s_is_book, defScope s_is_book, [], []⟩
def e_check_book : He.DefD := ⟨("check_book", none), "check_book", "check_book", defArgs s_check_book, defBody s_check_book, defScope s_check_book, [], []⟩
def e_check_depth : He.DefD := ⟨("check_depth", none), "check_depth", "check_depth", defArgs s_check_depth, defBody s_check_depth, defScope s_check_depth, [], []⟩
def e_power : He.DefD := ⟨("power", none), "power", "power", defArgs s_power, defBody s_power, defScope s_power, [], []⟩
def e_how_many_cells : He.DefD := ⟨("how_many_cells", none), "how_many_cells", "how_many_cells", defArgs s_how_many_cells, defBody s_how_many_cells, defScope s_how_many_cells, [], []⟩
def e_cells_each_way : He.DefD := ⟨("cells_each_way", none), "cells_each_way", "cells_each_way", defArgs s_cells_each_way, defBody s_cells_each_way, defScope s_cells_each_way, [], []⟩
def e_way_to : He.DefD := ⟨("way_to", none), "way_to", "way_to", defArgs s_way_to, defBody s_way_to, defScope s_way_to, [], []⟩
def e_cell_in : He.DefD := ⟨("cell_in", none), "cell_in", "cell_in", defArgs s_cell_in, defBody s_cell_in, defScope s_cell_in, [], []⟩
def e_thread_of : He.DefD := ⟨("thread_of", none), "thread_of", "thread_of", defArgs s_thread_of, defBody s_thread_of, defScope s_thread_of, [], []⟩
def e_whole : He.DefD := ⟨("whole", none), "whole", "whole", defArgs s_whole, defBody s_whole, defScope s_whole, [], []⟩
def e_drawn : He.DefD := ⟨("drawn", none), "drawn", "drawn", defArgs s_drawn, defBody s_drawn, defScope s_drawn, [], []⟩
def e_numbers_drawn : He.DefD := ⟨("numbers_drawn", none), "numbers_drawn", "numbers_drawn", defArgs s_numbers_drawn, defBody s_numbers_drawn, defScope s_numbers_drawn, [], []⟩
def e_x_law_same : He.DefD := ⟨("_law_same", none), "_law_same", "_law_same", defArgs s_x_law_same, defBody s_x_law_same, defScope s_x_law_same, [], []⟩
def e_x_law_right : He.DefD := ⟨("_law_right", none), "_law_right", "_law_right", defArgs s_x_law_right, defBody s_x_law_right, defScope s_x_law_right, [], []⟩
def e_law : He.DefD := ⟨("law", none), "law", "law", defArgs s_law, defBody s_law, defScope s_law, [], []⟩
def fn : List He.DefD := [e_x_law_well, e_x_law_draw, e_x_law_order, e_x_law_kind, e_x_law_book, e_x_law_power, e_x_law_whole, e_x_law_due, e_side_of, e_signs_of, e_is_pair, e_is_integer, e_is_natural, e_is_below, e_is_part, e_is_kind_of, e_is_book, e_check_book, e_check_depth, e_power, e_how_many_cells, e_cells_each_way, e_way_to, e_cell_in, e_thread_of, e_whole, e_drawn, e_numbers_drawn, e_x_law_same, e_x_law_right, e_law]
def fa : List He.Fa := [.glo "_law_well", .glo "_law_draw", .glo "_law_order", .glo "_law_kind", .glo "_law_book", .glo "_law_power", .glo "_law_whole", .glo "_law_due", .glo "side_of", .glo "signs_of", .glo "is_pair", .glo "is_integer", .glo "is_natural", .glo "is_below", .glo "is_part", .glo "is_kind_of", .glo "is_book", .glo "check_book", .glo "check_depth", .glo "power", .glo "how_many_cells", .glo "cells_each_way", .glo "way_to", .glo "cell_in", .glo "thread_of", .glo "whole", .glo "drawn", .glo "numbers_drawn", .glo "_law_same", .glo "_law_right", .glo "law", .free "abs", .free "all", .free "bool", .free "enumerate", .free "int", .free "isinstance", .free "len", .free "list", .free "max", .free "min", .free "range", .free "str", .free "tuple", .free "zip", .str "BLANK" " ", .str "CELL" "o", .glo "SIDES"]
def ta : List (PySem.Str × List He.Dv) := [("SIDES", [.int 2, .int 3])]
def loose0 : List PySem.Str := ["ThreadError", "InvalidBook", "InvalidDepth", "SIDES", "is_integer", "is_natural", "is_below", "is_pair", "power", "is_part", "is_kind_of", "is_book", "check_book", "check_depth", "cells_each_way", "how_many_cells", "way_to", "cell_in", "thread_of", "whole", "CELL", "BLANK", "side_of", "signs_of", "drawn", "numbers_drawn", "_law_well", "_law_draw", "_law_same", "_law_order"]
def loose1 : List PySem.Str := ["_law_kind", "_law_book", "_law_power", "_law_whole", "_law_due", "_law_right"]
def loose : List PySem.Str := loose0 ++ loose1
abbrev R : PySem.W.OpenRow := PySem.W.OpenLaw.row PySem.Challenge.rw_wholethreads_k42_whole_threads_drawn
abbrev hk : PySem.W.Hook := hookF 4 fa fn ta
def ob (s : PySem.W.SharedT) : Bool × He.AlD := obsFG 4 fa fn ta (HandSHeadRun.getT s)
theorem ob_eq (s : PySem.W.SharedT) : ob s = hk.obs s.abs := obsFG_eq (HandSHeadRun.getT_eq s)
theorem run (w : World) : HandSHeadRun.RunEq R (PySem.W.view R.prog [42]) hk ob 6000 loose w := by
  intro os
  kernel_rfl
theorem facts {K : PySem.W.Frag} {h : Heap} {mg : PySem.Str → Option Value} (Y : K.In h) (G : h.Ns mainGlobals mg) (c : SaysF fa fn ta K) : Nonempty (Fx K mg) := by
  obtain ⟨d_x_law_well, F_x_law_well⟩ := c.def_ 0 (d := e_x_law_well) rfl
  obtain ⟨d_x_law_draw, F_x_law_draw⟩ := c.def_ 1 (d := e_x_law_draw) rfl
  obtain ⟨d_x_law_order, F_x_law_order⟩ := c.def_ 2 (d := e_x_law_order) rfl
  obtain ⟨d_x_law_kind, F_x_law_kind⟩ := c.def_ 3 (d := e_x_law_kind) rfl
  obtain ⟨d_x_law_book, F_x_law_book⟩ := c.def_ 4 (d := e_x_law_book) rfl
  obtain ⟨d_x_law_power, F_x_law_power⟩ := c.def_ 5 (d := e_x_law_power) rfl
  obtain ⟨d_x_law_whole, F_x_law_whole⟩ := c.def_ 6 (d := e_x_law_whole) rfl
  obtain ⟨d_x_law_due, F_x_law_due⟩ := c.def_ 7 (d := e_x_law_due) rfl
  obtain ⟨d_side_of, F_side_of⟩ := c.def_ 8 (d := e_side_of) rfl
  obtain ⟨d_signs_of, F_signs_of⟩ := c.def_ 9 (d := e_signs_of) rfl
  obtain ⟨d_is_pair, F_is_pair⟩ := c.def_ 10 (d := e_is_pair) rfl
  obtain ⟨d_is_integer, F_is_integer⟩ := c.def_ 11 (d := e_is_integer) rfl
  obtain ⟨d_is_natural, F_is_natural⟩ := c.def_ 12 (d := e_is_natural) rfl
  obtain ⟨d_is_below, F_is_below⟩ := c.def_ 13 (d := e_is_below) rfl
  obtain ⟨d_is_part, F_is_part⟩ := c.def_ 14 (d := e_is_part) rfl
  obtain ⟨d_is_kind_of, F_is_kind_of⟩ := c.def_ 15 (d := e_is_kind_of) rfl
  obtain ⟨d_is_book, F_is_book⟩ := c.def_ 16 (d := e_is_book) rfl
  obtain ⟨d_check_book, F_check_book⟩ := c.def_ 17 (d := e_check_book) rfl
  obtain ⟨d_check_depth, F_check_depth⟩ := c.def_ 18 (d := e_check_depth) rfl
  obtain ⟨d_power, F_power⟩ := c.def_ 19 (d := e_power) rfl
  obtain ⟨d_how_many_cells, F_how_many_cells⟩ := c.def_ 20 (d := e_how_many_cells) rfl
  obtain ⟨d_cells_each_way, F_cells_each_way⟩ := c.def_ 21 (d := e_cells_each_way) rfl
  obtain ⟨d_way_to, F_way_to⟩ := c.def_ 22 (d := e_way_to) rfl
  obtain ⟨d_cell_in, F_cell_in⟩ := c.def_ 23 (d := e_cell_in) rfl
  obtain ⟨d_thread_of, F_thread_of⟩ := c.def_ 24 (d := e_thread_of) rfl
  obtain ⟨d_whole, F_whole⟩ := c.def_ 25 (d := e_whole) rfl
  obtain ⟨d_drawn, F_drawn⟩ := c.def_ 26 (d := e_drawn) rfl
  obtain ⟨d_numbers_drawn, F_numbers_drawn⟩ := c.def_ 27 (d := e_numbers_drawn) rfl
  obtain ⟨d_x_law_same, F_x_law_same⟩ := c.def_ 28 (d := e_x_law_same) rfl
  obtain ⟨d_x_law_right, F_x_law_right⟩ := c.def_ 29 (d := e_x_law_right) rfl
  obtain ⟨d_law, F_law⟩ := c.def_ 30 (d := e_law) rfl
  exact ⟨{ a_x_law_well := _, d_x_law_well := d_x_law_well, F_x_law_well := F_x_law_well, g_x_law_well := He.glo_ok Y G (c.fact 0 (f := .glo "_law_well") rfl), a_x_law_draw := _, d_x_law_draw := d_x_law_draw, F_x_law_draw := F_x_law_draw, g_x_law_draw := He.glo_ok Y G (c.fact 1 (f := .glo "_law_draw") rfl), a_x_law_order := _, d_x_law_order := d_x_law_order, F_x_law_order := F_x_law_order, g_x_law_order := He.glo_ok Y G (c.fact 2 (f := .glo "_law_order") rfl), a_x_law_kind := _, d_x_law_kind := d_x_law_kind, F_x_law_kind := F_x_law_kind, g_x_law_kind := He.glo_ok Y G (c.fact 3 (f := .glo "_law_kind") rfl), a_x_law_book := _, d_x_law_book := d_x_law_book, F_x_law_book := F_x_law_book, g_x_law_book := He.glo_ok Y G (c.fact 4 (f := .glo "_law_book") rfl), a_x_law_power := _, d_x_law_power := d_x_law_power, F_x_law_power := F_x_law_power, g_x_law_power := He.glo_ok Y G (c.fact 5 (f := .glo "_law_power") rfl), a_x_law_whole := _, d_x_law_whole := d_x_law_whole, F_x_law_whole := F_x_law_whole, g_x_law_whole := He.glo_ok Y G (c.fact 6 (f := .glo "_law_whole") rfl), a_x_law_due := _, d_x_law_due := d_x_law_due, F_x_law_due := F_x_law_due, g_x_law_due := He.glo_ok Y G (c.fact 7 (f := .glo "_law_due") rfl), a_side_of := _, d_side_of := d_side_of, F_side_of := F_side_of, g_side_of := He.glo_ok Y G (c.fact 8 (f := .glo "side_of") rfl), a_signs_of := _, d_signs_of := d_signs_of, F_signs_of := F_signs_of, g_signs_of := He.glo_ok Y G (c.fact 9 (f := .glo "signs_of") rfl), a_is_pair := _, d_is_pair := d_is_pair, F_is_pair := F_is_pair, g_is_pair := He.glo_ok Y G (c.fact 10 (f := .glo "is_pair") rfl), a_is_integer := _, d_is_integer := d_is_integer, F_is_integer := F_is_integer, g_is_integer := He.glo_ok Y G (c.fact 11 (f := .glo "is_integer") rfl), a_is_natural := _, d_is_natural := d_is_natural, F_is_natural := F_is_natural, g_is_natural := He.glo_ok Y G (c.fact 12 (f := .glo "is_natural") rfl), a_is_below := _, d_is_below := d_is_below, F_is_below := F_is_below, g_is_below := He.glo_ok Y G (c.fact 13 (f := .glo "is_below") rfl), a_is_part := _, d_is_part := d_is_part, F_is_part := F_is_part, g_is_part := He.glo_ok Y G (c.fact 14 (f := .glo "is_part") rfl), a_is_kind_of := _, d_is_kind_of := d_is_kind_of, F_is_kind_of := F_is_kind_of, g_is_kind_of := He.glo_ok Y G (c.fact 15 (f := .glo "is_kind_of") rfl), a_is_book := _, d_is_book := d_is_book, F_is_book := F_is_book, g_is_book := He.glo_ok Y G (c.fact 16 (f := .glo "is_book") rfl), a_check_book := _, d_check_book := d_check_book, F_check_book := F_check_book, g_check_book := He.glo_ok Y G (c.fact 17 (f := .glo "check_book") rfl), a_check_depth := _, d_check_depth := d_check_depth, F_check_depth := F_check_depth, g_check_depth := He.glo_ok Y G (c.fact 18 (f := .glo "check_depth") rfl), a_power := _, d_power := d_power, F_power := F_power, g_power := He.glo_ok Y G (c.fact 19 (f := .glo "power") rfl), a_how_many_cells := _, d_how_many_cells := d_how_many_cells, F_how_many_cells := F_how_many_cells, g_how_many_cells := He.glo_ok Y G (c.fact 20 (f := .glo "how_many_cells") rfl), a_cells_each_way := _, d_cells_each_way := d_cells_each_way, F_cells_each_way := F_cells_each_way, g_cells_each_way := He.glo_ok Y G (c.fact 21 (f := .glo "cells_each_way") rfl), a_way_to := _, d_way_to := d_way_to, F_way_to := F_way_to, g_way_to := He.glo_ok Y G (c.fact 22 (f := .glo "way_to") rfl), a_cell_in := _, d_cell_in := d_cell_in, F_cell_in := F_cell_in, g_cell_in := He.glo_ok Y G (c.fact 23 (f := .glo "cell_in") rfl), a_thread_of := _, d_thread_of := d_thread_of, F_thread_of := F_thread_of, g_thread_of := He.glo_ok Y G (c.fact 24 (f := .glo "thread_of") rfl), a_whole := _, d_whole := d_whole, F_whole := F_whole, g_whole := He.glo_ok Y G (c.fact 25 (f := .glo "whole") rfl), a_drawn := _, d_drawn := d_drawn, F_drawn := F_drawn, g_drawn := He.glo_ok Y G (c.fact 26 (f := .glo "drawn") rfl), a_numbers_drawn := _, d_numbers_drawn := d_numbers_drawn, F_numbers_drawn := F_numbers_drawn, g_numbers_drawn := He.glo_ok Y G (c.fact 27 (f := .glo "numbers_drawn") rfl), a_x_law_same := _, d_x_law_same := d_x_law_same, F_x_law_same := F_x_law_same, g_x_law_same := He.glo_ok Y G (c.fact 28 (f := .glo "_law_same") rfl), a_x_law_right := _, d_x_law_right := d_x_law_right, F_x_law_right := F_x_law_right, g_x_law_right := He.glo_ok Y G (c.fact 29 (f := .glo "_law_right") rfl), a_law := _, d_law := d_law, F_law := F_law, g_law := He.glo_ok Y G (c.fact 30 (f := .glo "law") rfl), z_abs := He.free_ok Y G (c.fact 31 (f := .free "abs") rfl), z_all := He.free_ok Y G (c.fact 32 (f := .free "all") rfl), z_bool := He.free_ok Y G (c.fact 33 (f := .free "bool") rfl), z_enumerate := He.free_ok Y G (c.fact 34 (f := .free "enumerate") rfl), z_int := He.free_ok Y G (c.fact 35 (f := .free "int") rfl), z_isinstance := He.free_ok Y G (c.fact 36 (f := .free "isinstance") rfl), z_len := He.free_ok Y G (c.fact 37 (f := .free "len") rfl), z_list := He.free_ok Y G (c.fact 38 (f := .free "list") rfl), z_max := He.free_ok Y G (c.fact 39 (f := .free "max") rfl), z_min := He.free_ok Y G (c.fact 40 (f := .free "min") rfl), z_range := He.free_ok Y G (c.fact 41 (f := .free "range") rfl), z_str := He.free_ok Y G (c.fact 42 (f := .free "str") rfl), z_tuple := He.free_ok Y G (c.fact 43 (f := .free "tuple") rfl), z_zip := He.free_ok Y G (c.fact 44 (f := .free "zip") rfl), c_BLANK := He.str_ok Y G (c.fact 45 (f := .str "BLANK" " ") rfl), c_CELL := He.str_ok Y G (c.fact 46 (f := .str "CELL" "o") rfl), v_SIDES := _, c_SIDES := He.glo_ok Y G (c.fact 47 (f := .glo "SIDES") rfl), q_SIDES := fun B => Rep.ktp (c.tup 0 rfl B) ((.cons (.int _) (.cons (.int _) .nil))) }⟩
end K42
open PySem PySem.W PySem.Calls PyProof.Rows
theorem K42.holds (main : ∀ ns : List Int, ns.length ≤ 63 → K42.m_law [.d (.scr (ns.map F.Vl.int))] [] = .ok (.d (.bl true)) []) : PySem.Challenge.rw_wholethreads_k42_whole_threads_drawn.Holds := by
  w_on; o_law
  refine HandSHeadRun.head_any (r := OpenLaw.row PySem.Challenge.rw_wholethreads_k42_whole_threads_drawn) (q := view (OpenLaw.row PySem.Challenge.rw_wholethreads_k42_whole_threads_drawn).prog [42]) (H := K42.hk) (ob := K42.ob) (M := 6000) (loose := K42.loose) (d := HandSHeadRun.topDef (OpenLaw.row PySem.Challenge.rw_wholethreads_k42_whole_threads_drawn).prog 42) (kwd := []) K42.ob_eq
    (by kernel_rfl) (fun s => by kernel_rfl) K42.run (by kernel_rfl) (by kernel_rfl) (by kernel_rfl) (by rfl) (by first | assumption | decide +kernel) (by decide +kernel) ⟨rfl, rfl, rfl, rfl, rfl, by decide +kernel⟩ ?hw ?hc
  case hw => w_witness2
  case hc =>
    refine L2.walk_ofE (l := PySem.Challenge.rw_wholethreads_k42_whole_threads_drawn) (n := 63) (k := 11) (x := "script") (CX := F.CXe) rfl (by decide) (by kernel_rfl) ⟨rfl, by decide, by decide⟩ ?F (fun _ _ _ _ z => F.cxe_no z)
    intro w mg fa h Y G hmg0
    obtain ⟨K, KX, c⟩ := Y
    have hmg : mg ("law" : PySem.Str) = some (.ref fa) := by
      have e : (HandSHeadRun.topDef (OpenLaw.row PySem.Challenge.rw_wholethreads_k42_whole_threads_drawn).prog 42).name = ("law" : PySem.Str) := by kernel_rfl
      rw [← e]
      exact hmg0
    obtain ⟨V⟩ := K42.facts KX G c
    obtain rfl : fa = V.a_law := by
      have e := hmg.symm.trans V.g_law
      cases e
      rfl
    exact ⟨K, V.d_law, F.spF K 1 K42.m_law, KX, fun s v => L2.FunD.bindsA (ps := ["script"]) V.F_law (fun _ _ _ _ _ _ us hl => match us, hl with | [_], _ => rfl) s [v] rfl, fun H a ns hl _ hS => F.law_sp hS (main ns hl), fun base _ _ => F.toE (K42.ok_law V)⟩

namespace K42
open PySem PySem.Spec PyProof.Rows L2 F
theorem small_ok {i : Int} (h : 0 < i) (h2 : i ≤ 1000000) : 0 < i ∧ i.natAbs < 2 ^ 5000 := ⟨h, Nat.lt_of_le_of_lt (show i.natAbs ≤ 2 ^ 20 by omega) (Nat.pow_lt_pow_right (by decide) (by decide))⟩
theorem cube_ok {i : Int} (h1 : 0 ≤ i) (h2 : i < 2 ^ 200) : powOk i 3 = true := by
  unfold powOk
  rw [Bool.and_eq_true]
  exact ⟨by decide, decide_eq_true (Nat.lt_trans (show i.natAbs < 2 ^ 200 by omega) (Nat.pow_lt_pow_right (by decide) (by decide)))⟩
theorem cube {i : Int} {st : Sto} (h1 : 0 ≤ i) (h2 : i < 2 ^ 200) : powS (.d (.int i)) (.d (.int 3)) st = .ok (.d (.int (i ^ 3))) st := powS_i (cube_ok h1 h2)
theorem ten6 {st : Sto} : powS (.d (.int 10)) (.d (.int 6)) st = .ok (.d (.int 1000000)) st := (rfl)
theorem ten18 {st : Sto} : powS (.d (.int 10)) (.d (.int 18)) st = .ok (.d (.int 1000000000000000000)) st := (rfl)
theorem ten25 {st : Sto} : powS (.d (.int 10)) (.d (.int 25)) st = .ok (.d (.int 10000000000000000000000000)) st := (rfl)
theorem ten29 {st : Sto} : powS (.d (.int 10)) (.d (.int 29)) st = .ok (.d (.int 100000000000000000000000000000)) st := (rfl)
theorem ten33 {st : Sto} : powS (.d (.int 10)) (.d (.int 33)) st = .ok (.d (.int 1000000000000000000000000000000000)) st := (rfl)
theorem mulc_l {i j : Int} {st : Sto} (h : i.natAbs < 2 ^ 60) : mulS (.d (.int i)) (.d (.int j)) st = .ok (.d (.int (i * j))) st := mulS_i (mulOk_l h)
theorem mulc_r {i j : Int} {st : Sto} (h : j.natAbs < 2 ^ 60) : mulS (.d (.int i)) (.d (.int j)) st = .ok (.d (.int (i * j))) st := mulS_i (mulOk_r h)
/-- the well: what is left of the script's number, the number mixed, how many draws -/
def wellC (a b c : Int) : Ce := .lst [.int a, .int b, .int c]
def BOk (b : Int) : Prop := 0 ≤ b ∧ b < 10000000000000000000000000013
theorem draw_spec {st : Sto} {n : Nat} {a b c many : Int} (h : st[n]? = some (wellC a b c)) (hb : BOk b) (hc : 0 ≤ c ∧ c < 1000000000) (hm : 0 < many) (hm1 : many ≤ 1000) :
    ∃ r a' c', m_x_law_draw [.r n, .d (.int many)] st = .ok (.d (.int r)) (st.set n (wellC a' b c')) ∧ 0 ≤ r ∧ r < many ∧ 0 ≤ c' ∧ c' ≤ c + 1 := by
  have h : st[n]? = some (.lst [.int a, .int b, .int c]) := h
  have hlt := (List.getElem?_eq_some_iff.mp h).1
  have hm2 := small_ok hm (show many ≤ 1000000 by omega)
  unfold m_x_law_draw
  rw [fnS_ap]
  show ∃ r a' c', retS st.length (b_x_law_draw [some (.r n), some (.d (.int many)), none, none] st) = _ ∧ _
  unfold b_x_law_draw wellC
  by_cases h0 : 0 < a
  · refine ⟨a % many, a / many, c, ?_, Int.emod_nonneg _ (by omega), Int.emod_lt_of_pos _ hm, hc.1, by omega⟩
    simp only [bind_ok, bind_exc, sOf_ok, sOf_exc, sSeq_ap, seqK_nx, seqK_rt, seqK_bk, seqK_ct, seqK_exc, sNil_ap, sPass_ap, sBrk_ap, sCnt_ap, sRetN_ap, sRet_ap, kRet_d, kRet_r, kRet_n, kRet_m, nxK_ap, sExp_ap, ifK_t, ifK_f, sIf_ap, asK_some, kAsg_ap, sAsg_ap, gN_ap, gT_ap, gE_ap, gC_ap, kPar_ap, sPar_ap, setAll_cons, setAll_nil, forK_ap, sFor_ap, varK_some, eVar_ap, eC_ap, eBin_ap, nBin_ap, eNeg_ap, kNeg_i, aNil_ap, aCons_ap, toD_d, toDs_nil, toDs_cons, eTup_ap, nLst_ap, eCall_ap, eCallK_ap, eCB_ap, eIfK_t, eIfK_f, eIf_ap, tOfK_b, tOf_ap, andK_t, andK_f, orK_t, orK_f, tAndF_ap, tOrF_ap, notK_ap, tNotF_ap, eAndK_t, eAndK_f, eOrK_t, eOrK_f, eAnd_ap, eOr_ap, eNot_ap, kNot_b, eFrz_ap, eSto_ap, eFre_ap, eFreM_ap, eSet_ap, eAlc_ap, frozen_ok, stored_ok, storedM_ok, fresh_ok, freshM_ok, settle_d, settle_r, settle_w, settle_n, settle_m, settle_exc, allocS_d, allocS_r, allocS_n, allocS_m, addS_i, mulS_t1, mulS_t0, subS_i, ltS_i, leS_i, gtS_i, geS_i, at_0, at_1, at_2, set_0, set_1, cut_old, cut_all, len_1, len_2, app_app, set_set, set_len, retS_d, retS_n, retS_m, retS_x, list_l, list_s, seq_t, seq_k, atI_0, atI_1, atI_2, cLen_t, cLen_l, cLen_z, cInt_i, cInt_b, cI1_i, cI2_i, eIsi_ap, eqS_i, neS_i, eqS_b, neS_b, eqS_p, isN_d, isBl_b, eSl_ap, pNone_ap, pSome_ap, kPt_i, slS_t, nRev_ap, eM1_ap, sSetI_ap, sPutD_ap, eNewT_ap, itOf_ap, itAny_ap, kIter_t, kIter_k, kIter_l, kEnum_l, kZip_l, turnK_some, turnS_ap, loop_nil, nLc_ap, nLcM_ap, tYes_ap, cut_set, cut_setold, eDc_ap, sRetRev_ap, List.set_cons_zero, List.set_cons_succ, List.getElem?_cons_zero, List.getElem?_cons_succ, Option.bind_some, List.length_cons, List.length_nil, lstK0, tupK0, lstK1, tupK1, lstK2, tupK2, lstK3, tupK3, lstK4, tupK4, lstK5, tupK5, List.cons_append, List.nil_append, wipeE, ixA_l (list_r h) atI_0, decide_eq_true h0, modS_i hm, divS_i hm2, kSet_r h (show ixN 3 0 = some 0 from rfl)]
  · have h3 : (st.set n (.lst [.int a, .int b, .int (c + 1)]))[n]? = some (.lst [.int a, .int b, .int (c + 1)]) := at_set h
    have hb := hb
    unfold BOk at hb
    have e1 : 0 ≤ (b + 49979693 * (c + 1)) := by omega
    have e2 : (b + 49979693 * (c + 1)) < 2 ^ 200 := by omega
    obtain ⟨m, hm'⟩ : ∃ m, m = (b + 49979693 * (c + 1)) ^ 3 % 100000000000000000000000000319 := ⟨_, rfl⟩
    have m1 : 0 ≤ m := by rw [hm']; exact Int.emod_nonneg _ (by decide)
    have m2 : m < 100000000000000000000000000319 := by rw [hm']; exact Int.emod_lt_of_pos _ (by decide)
    have e3 : 0 ≤ m + 2038074751 := by omega
    have e4 : m + 2038074751 < 2 ^ 200 := by omega
    refine ⟨(m + 2038074751) ^ 3 % 1000000000000000000000000000000033 / 1000000 % many, a, c + 1, ?_, Int.emod_nonneg _ (by omega), Int.emod_lt_of_pos _ hm, by omega, by omega⟩
    simp only [bind_ok, bind_exc, sOf_ok, sOf_exc, sSeq_ap, seqK_nx, seqK_rt, seqK_bk, seqK_ct, seqK_exc, sNil_ap, sPass_ap, sBrk_ap, sCnt_ap, sRetN_ap, sRet_ap, kRet_d, kRet_r, kRet_n, kRet_m, nxK_ap, sExp_ap, ifK_t, ifK_f, sIf_ap, asK_some, kAsg_ap, sAsg_ap, gN_ap, gT_ap, gE_ap, gC_ap, kPar_ap, sPar_ap, setAll_cons, setAll_nil, forK_ap, sFor_ap, varK_some, eVar_ap, eC_ap, eBin_ap, nBin_ap, eNeg_ap, kNeg_i, aNil_ap, aCons_ap, toD_d, toDs_nil, toDs_cons, eTup_ap, nLst_ap, eCall_ap, eCallK_ap, eCB_ap, eIfK_t, eIfK_f, eIf_ap, tOfK_b, tOf_ap, andK_t, andK_f, orK_t, orK_f, tAndF_ap, tOrF_ap, notK_ap, tNotF_ap, eAndK_t, eAndK_f, eOrK_t, eOrK_f, eAnd_ap, eOr_ap, eNot_ap, kNot_b, eFrz_ap, eSto_ap, eFre_ap, eFreM_ap, eSet_ap, eAlc_ap, frozen_ok, stored_ok, storedM_ok, fresh_ok, freshM_ok, settle_d, settle_r, settle_w, settle_n, settle_m, settle_exc, allocS_d, allocS_r, allocS_n, allocS_m, addS_i, mulS_t1, mulS_t0, subS_i, ltS_i, leS_i, gtS_i, geS_i, at_0, at_1, at_2, set_0, set_1, cut_old, cut_all, len_1, len_2, app_app, set_set, set_len, retS_d, retS_n, retS_m, retS_x, list_l, list_s, seq_t, seq_k, atI_0, atI_1, atI_2, cLen_t, cLen_l, cLen_z, cInt_i, cInt_b, cI1_i, cI2_i, eIsi_ap, eqS_i, neS_i, eqS_b, neS_b, eqS_p, isN_d, isBl_b, eSl_ap, pNone_ap, pSome_ap, kPt_i, slS_t, nRev_ap, eM1_ap, sSetI_ap, sPutD_ap, eNewT_ap, itOf_ap, itAny_ap, kIter_t, kIter_k, kIter_l, kEnum_l, kZip_l, turnK_some, turnS_ap, loop_nil, nLc_ap, nLcM_ap, tYes_ap, cut_set, cut_setold, eDc_ap, sRetRev_ap, List.set_cons_zero, List.set_cons_succ, List.getElem?_cons_zero, List.getElem?_cons_succ, Option.bind_some, List.length_cons, List.length_nil, lstK0, tupK0, lstK1, tupK1, lstK2, tupK2, lstK3, tupK3, lstK4, tupK4, lstK5, tupK5, List.cons_append, List.nil_append, wipeE, ixA_l (list_r h) atI_0, ixA_l (list_r h) atI_2, ixA_l (list_r h3) atI_1, ixA_l (list_r h3) atI_2, decide_eq_false h0, kSet_r h (show ixN 3 2 = some 2 from rfl), ten6, ten29, ten33, mulc_l (show (49979693 : Int).natAbs < 2 ^ 60 by decide), cube e1 e2, modS_i (show (0 : Int) < 100000000000000000000000000000 + 319 by decide), modS_i (show (0 : Int) < 1000000000000000000000000000000000 + 33 by decide), modS_i hm, divS_i (small_ok (show (0 : Int) < 1000000 by decide) (by decide))]
    rw [show (100000000000000000000000000000 + 319 : Int) = 100000000000000000000000000319 by decide, show (1000000000000000000000000000000000 + 33 : Int) = 1000000000000000000000000000000033 by decide, ← hm']
    simp only [bind_ok, bind_exc, sOf_ok, sOf_exc, sSeq_ap, seqK_nx, seqK_rt, seqK_bk, seqK_ct, seqK_exc, sNil_ap, sPass_ap, sBrk_ap, sCnt_ap, sRetN_ap, sRet_ap, kRet_d, kRet_r, kRet_n, kRet_m, nxK_ap, sExp_ap, ifK_t, ifK_f, sIf_ap, asK_some, kAsg_ap, sAsg_ap, gN_ap, gT_ap, gE_ap, gC_ap, kPar_ap, sPar_ap, setAll_cons, setAll_nil, forK_ap, sFor_ap, varK_some, eVar_ap, eC_ap, eBin_ap, nBin_ap, eNeg_ap, kNeg_i, aNil_ap, aCons_ap, toD_d, toDs_nil, toDs_cons, eTup_ap, nLst_ap, eCall_ap, eCallK_ap, eCB_ap, eIfK_t, eIfK_f, eIf_ap, tOfK_b, tOf_ap, andK_t, andK_f, orK_t, orK_f, tAndF_ap, tOrF_ap, notK_ap, tNotF_ap, eAndK_t, eAndK_f, eOrK_t, eOrK_f, eAnd_ap, eOr_ap, eNot_ap, kNot_b, eFrz_ap, eSto_ap, eFre_ap, eFreM_ap, eSet_ap, eAlc_ap, frozen_ok, stored_ok, storedM_ok, fresh_ok, freshM_ok, settle_d, settle_r, settle_w, settle_n, settle_m, settle_exc, allocS_d, allocS_r, allocS_n, allocS_m, addS_i, mulS_t1, mulS_t0, subS_i, ltS_i, leS_i, gtS_i, geS_i, at_0, at_1, at_2, set_0, set_1, cut_old, cut_all, len_1, len_2, app_app, set_set, set_len, retS_d, retS_n, retS_m, retS_x, list_l, list_s, seq_t, seq_k, atI_0, atI_1, atI_2, cLen_t, cLen_l, cLen_z, cInt_i, cInt_b, cI1_i, cI2_i, eIsi_ap, eqS_i, neS_i, eqS_b, neS_b, eqS_p, isN_d, isBl_b, eSl_ap, pNone_ap, pSome_ap, kPt_i, slS_t, nRev_ap, eM1_ap, sSetI_ap, sPutD_ap, eNewT_ap, itOf_ap, itAny_ap, kIter_t, kIter_k, kIter_l, kEnum_l, kZip_l, turnK_some, turnS_ap, loop_nil, nLc_ap, nLcM_ap, tYes_ap, cut_set, cut_setold, eDc_ap, sRetRev_ap, List.set_cons_zero, List.set_cons_succ, List.getElem?_cons_zero, List.getElem?_cons_succ, Option.bind_some, List.length_cons, List.length_nil, lstK0, tupK0, lstK1, tupK1, lstK2, tupK2, lstK3, tupK3, lstK4, tupK4, lstK5, tupK5, List.cons_append, List.nil_append, wipeE, cube e3 e4, modS_i (show (0 : Int) < 1000000000000000000000000000000033 by decide), modS_i hm, divS_i (small_ok (show (0 : Int) < 1000000 by decide) (by decide)), ten6]
end K42

namespace K42
open PySem PySem.Spec PyProof.Rows L2 F
theorem well_spec {st : Sto} {ns : List Int} {p : Nat} : ∃ a b, m_x_law_well [.d (.scr (ns.map .int)), .d (.int p)] st = .ok (.n [.int a, .int b, .int 0]) st ∧ BOk b := by
  have fin : ∀ cell : Int, 0 ≤ (cell * 86028157 + (p : Int) * 179424691 + 7919) % (10000000000000000000000000 + 13) ∧ (cell * 86028157 + (p : Int) * 179424691 + 7919) % (10000000000000000000000000 + 13) < 10000000000000000000000000013 := fun cell => ⟨Int.emod_nonneg _ (by decide), Int.lt_trans (Int.emod_lt_of_pos _ (by decide)) (by decide)⟩
  unfold m_x_law_well
  rw [fnS_ap]
  show ∃ a b, retS st.length (b_x_law_well [some (.d (.scr (ns.map .int))), some (.d (.int p)), none] st) = _ ∧ _
  unfold b_x_law_well
  by_cases h : p < ns.length
  · have hp : ((p : Int) < ((ns.map Vl.int).length : Nat)) := by rw [List.length_map]; exact Int.ofNat_lt.mpr h
    have hi : atI (ns.map Vl.int) (p : Int) = some (.int ns[p]) := atI_get (by rw [List.getElem?_map, List.getElem?_eq_getElem h]; rfl)
    refine ⟨maxI 0 (absI ns[p] - 1000000000000000000), (ns[p] * 86028157 + (p : Int) * 179424691 + 7919) % (10000000000000000000000000 + 13), ?_, fin _⟩
    simp only [bind_ok, bind_exc, sOf_ok, sOf_exc, sSeq_ap, seqK_nx, seqK_rt, seqK_bk, seqK_ct, seqK_exc, sNil_ap, sPass_ap, sBrk_ap, sCnt_ap, sRetN_ap, sRet_ap, kRet_d, kRet_r, kRet_n, kRet_m, nxK_ap, sExp_ap, ifK_t, ifK_f, sIf_ap, asK_some, kAsg_ap, sAsg_ap, gN_ap, gT_ap, gE_ap, gC_ap, kPar_ap, sPar_ap, setAll_cons, setAll_nil, forK_ap, sFor_ap, varK_some, eVar_ap, eC_ap, eBin_ap, nBin_ap, eNeg_ap, kNeg_i, aNil_ap, aCons_ap, toD_d, toDs_nil, toDs_cons, eTup_ap, nLst_ap, eCall_ap, eCallK_ap, eCB_ap, eIfK_t, eIfK_f, eIf_ap, tOfK_b, tOf_ap, andK_t, andK_f, orK_t, orK_f, tAndF_ap, tOrF_ap, notK_ap, tNotF_ap, eAndK_t, eAndK_f, eOrK_t, eOrK_f, eAnd_ap, eOr_ap, eNot_ap, kNot_b, eFrz_ap, eSto_ap, eFre_ap, eFreM_ap, eSet_ap, eAlc_ap, frozen_ok, stored_ok, storedM_ok, fresh_ok, freshM_ok, settle_d, settle_r, settle_w, settle_n, settle_m, settle_exc, allocS_d, allocS_r, allocS_n, allocS_m, addS_i, mulS_t1, mulS_t0, subS_i, ltS_i, leS_i, gtS_i, geS_i, at_0, at_1, at_2, set_0, set_1, cut_old, cut_all, len_1, len_2, app_app, set_set, set_len, retS_d, retS_n, retS_m, retS_x, list_l, list_s, seq_t, seq_k, atI_0, atI_1, atI_2, cLen_t, cLen_l, cLen_z, cInt_i, cInt_b, cI1_i, cI2_i, eIsi_ap, eqS_i, neS_i, eqS_b, neS_b, eqS_p, isN_d, isBl_b, eSl_ap, pNone_ap, pSome_ap, kPt_i, slS_t, nRev_ap, eM1_ap, sSetI_ap, sPutD_ap, eNewT_ap, itOf_ap, itAny_ap, kIter_t, kIter_k, kIter_l, kEnum_l, kZip_l, turnK_some, turnS_ap, loop_nil, nLc_ap, nLcM_ap, tYes_ap, cut_set, cut_setold, eDc_ap, sRetRev_ap, List.set_cons_zero, List.set_cons_succ, List.getElem?_cons_zero, List.getElem?_cons_succ, Option.bind_some, List.length_cons, List.length_nil, lstK0, tupK0, lstK1, tupK1, lstK2, tupK2, lstK3, tupK3, lstK4, tupK4, lstK5, tupK5, List.cons_append, List.nil_append, wipeE, decide_eq_true hp, ixA_l list_s hi, ten18, ten25, mulc_r (show (86028157 : Int).natAbs < 2 ^ 60 by decide), mulc_r (show (179424691 : Int).natAbs < 2 ^ 60 by decide), modS_i (show (0 : Int) < 10000000000000000000000000 + 13 by decide)]
  · have hp : ¬ ((p : Int) < ((ns.map Vl.int).length : Nat)) := by rw [List.length_map]; exact fun z => h (Int.ofNat_lt.mp z)
    refine ⟨maxI 0 (absI ((p : Int) * 104723 + (((ns.map Vl.int).length : Nat) : Int) * 15485863) - 1000000000000000000), (((p : Int) * 104723 + (((ns.map Vl.int).length : Nat) : Int) * 15485863) * 86028157 + (p : Int) * 179424691 + 7919) % (10000000000000000000000000 + 13), ?_, fin _⟩
    simp only [bind_ok, bind_exc, sOf_ok, sOf_exc, sSeq_ap, seqK_nx, seqK_rt, seqK_bk, seqK_ct, seqK_exc, sNil_ap, sPass_ap, sBrk_ap, sCnt_ap, sRetN_ap, sRet_ap, kRet_d, kRet_r, kRet_n, kRet_m, nxK_ap, sExp_ap, ifK_t, ifK_f, sIf_ap, asK_some, kAsg_ap, sAsg_ap, gN_ap, gT_ap, gE_ap, gC_ap, kPar_ap, sPar_ap, setAll_cons, setAll_nil, forK_ap, sFor_ap, varK_some, eVar_ap, eC_ap, eBin_ap, nBin_ap, eNeg_ap, kNeg_i, aNil_ap, aCons_ap, toD_d, toDs_nil, toDs_cons, eTup_ap, nLst_ap, eCall_ap, eCallK_ap, eCB_ap, eIfK_t, eIfK_f, eIf_ap, tOfK_b, tOf_ap, andK_t, andK_f, orK_t, orK_f, tAndF_ap, tOrF_ap, notK_ap, tNotF_ap, eAndK_t, eAndK_f, eOrK_t, eOrK_f, eAnd_ap, eOr_ap, eNot_ap, kNot_b, eFrz_ap, eSto_ap, eFre_ap, eFreM_ap, eSet_ap, eAlc_ap, frozen_ok, stored_ok, storedM_ok, fresh_ok, freshM_ok, settle_d, settle_r, settle_w, settle_n, settle_m, settle_exc, allocS_d, allocS_r, allocS_n, allocS_m, addS_i, mulS_t1, mulS_t0, subS_i, ltS_i, leS_i, gtS_i, geS_i, at_0, at_1, at_2, set_0, set_1, cut_old, cut_all, len_1, len_2, app_app, set_set, set_len, retS_d, retS_n, retS_m, retS_x, list_l, list_s, seq_t, seq_k, atI_0, atI_1, atI_2, cLen_t, cLen_l, cLen_z, cInt_i, cInt_b, cI1_i, cI2_i, eIsi_ap, eqS_i, neS_i, eqS_b, neS_b, eqS_p, isN_d, isBl_b, eSl_ap, pNone_ap, pSome_ap, kPt_i, slS_t, nRev_ap, eM1_ap, sSetI_ap, sPutD_ap, eNewT_ap, itOf_ap, itAny_ap, kIter_t, kIter_k, kIter_l, kEnum_l, kZip_l, turnK_some, turnS_ap, loop_nil, nLc_ap, nLcM_ap, tYes_ap, cut_set, cut_setold, eDc_ap, sRetRev_ap, List.set_cons_zero, List.set_cons_succ, List.getElem?_cons_zero, List.getElem?_cons_succ, Option.bind_some, List.length_cons, List.length_nil, lstK0, tupK0, lstK1, tupK1, lstK2, tupK2, lstK3, tupK3, lstK4, tupK4, lstK5, tupK5, List.cons_append, List.nil_append, wipeE, decide_eq_false hp, ten18, ten25, mulc_r (show (104723 : Int).natAbs < 2 ^ 60 by decide), mulc_r (show (15485863 : Int).natAbs < 2 ^ 60 by decide), mulc_r (show (86028157 : Int).natAbs < 2 ^ 60 by decide), mulc_r (show (179424691 : Int).natAbs < 2 ^ 60 by decide), modS_i (show (0 : Int) < 10000000000000000000000000 + 13 by decide)]
def natV (o : Nat) : Vl := .int o
theorem rgD_nat {k : Nat} : rgD 0 1 k = (List.range k).map natV := by
  unfold rgD natV
  refine List.map_congr_left fun i _ => ?_
  rw [Int.mul_one, Int.zero_add]
theorem map_erase {α β : Type} (f : α → β) : ∀ (l : List α) (r : Nat), (l.map f).eraseIdx r = (l.eraseIdx r).map f
  | [], _ => rfl
  | _ :: _, 0 => rfl
  | x :: l, r + 1 => congrArg (f x :: ·) (map_erase f l r)
theorem cons_erase {α : Type} : ∀ (l : List α) (r : Nat) (h : r < l.length), (l[r] :: l.eraseIdx r).Perm l
  | _ :: _, 0, _ => List.Perm.refl _
  | x :: l, r + 1, h => by
    have h' : r < l.length := by simpa using h
    exact (List.Perm.swap x l[r] (l.eraseIdx r)).trans ((cons_erase l r h').cons x)
def OrdP (st : Sto) (n : Nat) (b c : Int) (k i : Nat) (ρ : En) (st' : Sto) : Prop := ∃ (L Fo : List Nat) (a' c' : Int) (u : Option Sl),
  ρ = [some (.r n), some (.d (.int k)), some (.r st.length), some (.r (st.length + 1)), u] ∧ st' = st.set n (wellC a' b c') ++ [Ce.lst (L.map natV), Ce.lst (Fo.map natV)] ∧ (L ++ Fo).Perm (List.range k) ∧ Fo.length = i ∧ 0 ≤ c' ∧ c' ≤ c + i
theorem ord_step {st : Sto} {n : Nat} {a b c : Int} {k : Nat} (h : st[n]? = some (wellC a b c)) (hb : BOk b) (hc : 0 ≤ c ∧ c + k < 1000000000) (hk : k ≤ 1000) (i : Nat) (d : Vl) (ρ : En) (st' : Sto) (hi : i < k) (p : OrdP st n b c k i ρ st') :
    ∃ ρ' st2, turnS (gN 4) l_x_law_order_1 d ρ st' = .nx ρ' st2 ∧ OrdP st n b c k (i + 1) ρ' st2 := by
  obtain ⟨L, Fo, a', c', u, rfl, rfl, hp, hl, hc'⟩ := p
  have hlen := hp.length_eq
  rw [List.length_append, List.length_range] at hlen
  have h1 : (st.set n (wellC a' b c') ++ [Ce.lst (L.map natV), Ce.lst (Fo.map natV)])[n]? = some (wellC a' b c') := at_old (at_set h)
  obtain ⟨r, a2, c2, e2, r0, r1, c0, c1⟩ := draw_spec (many := ((L.map natV).length : Nat)) h1 hb (by omega) (by rw [List.length_map]; omega) (by rw [List.length_map]; omega)
  rw [set_old (at_set h), set_set] at e2
  obtain ⟨r, rfl⟩ : ∃ q : Nat, r = (q : Int) := ⟨r.toNat, by omega⟩
  have hr : r < L.length := by rw [List.length_map] at r1; omega
  have hx : (L.map natV)[r]? = some (natV L[r]) := by rw [List.getElem?_map, List.getElem?_eq_getElem hr]; rfl
  have s0 : st.length = (st.set n (wellC a2 b c2)).length := (set_len).symm
  have s1 : st.length = (st.set n (wellC a' b c')).length := (set_len).symm
  have g0 : (st.set n (wellC a' b c') ++ [Ce.lst (L.map natV), Ce.lst (Fo.map natV)])[st.length]? = some (.lst (L.map natV)) := by rw [s1]; exact at_0
  have g1 : (st.set n (wellC a' b c') ++ [Ce.lst (L.map natV), Ce.lst (Fo.map natV)])[st.length + 1]? = some (.lst (Fo.map natV)) := by rw [s1]; exact at_1
  have g2 : (st.set n (wellC a2 b c2) ++ [Ce.lst (L.map natV), Ce.lst (Fo.map natV)])[st.length]? = some (.lst (L.map natV)) := by rw [s0]; exact at_0
  have g3 : (st.set n (wellC a2 b c2) ++ [Ce.lst ((L.map natV).eraseIdx r), Ce.lst (Fo.map natV)])[st.length + 1]? = some (.lst (Fo.map natV)) := by rw [s0]; exact at_1
  have g4 : (st.set n (wellC a2 b c2) ++ [Ce.lst (L.map natV), Ce.lst (Fo.map natV)]).set st.length (.lst ((L.map natV).eraseIdx r)) = st.set n (wellC a2 b c2) ++ [Ce.lst ((L.map natV).eraseIdx r), Ce.lst (Fo.map natV)] := by
    have := set_0 (st := st.set n (wellC a2 b c2)) (c := .lst (L.map natV)) (d := .lst ((L.map natV).eraseIdx r)) (l := [.lst (Fo.map natV)])
    rw [set_len] at this
    exact this
  have g5 : (st.set n (wellC a2 b c2) ++ [Ce.lst ((L.map natV).eraseIdx r), Ce.lst (Fo.map natV)]).set (st.length + 1) (.lst (Fo.map natV ++ [natV L[r]])) = st.set n (wellC a2 b c2) ++ [Ce.lst ((L.map natV).eraseIdx r), Ce.lst (Fo.map natV ++ [natV L[r]])] := by
    have := set_1 (st := st.set n (wellC a2 b c2)) (c := .lst ((L.map natV).eraseIdx r)) (d := .lst (Fo.map natV)) (e := .lst (Fo.map natV ++ [natV L[r]])) (l := [])
    rw [set_len] at this
    exact this
  have pz := kPopAt_r (x := natV L[r]) g2 hx (by omega)
  have ap := kApp_r (x := natV L[r]) g3 (by rw [List.length_map]; omega)
  rw [g4] at pz
  rw [g5] at ap
  refine ⟨[some (.r n), some (.d (.int k)), some (.r st.length), some (.r (st.length + 1)), some (.d d)], st.set n (wellC a2 b c2) ++ [Ce.lst ((L.map natV).eraseIdx r), Ce.lst (Fo.map natV ++ [natV L[r]])], ?_, L.eraseIdx r, Fo ++ [L[r]], a2, c2, some (.d d), rfl, ?_, ?_, by rw [List.length_append]; simp; omega, c0, by omega⟩
  · unfold l_x_law_order_1
    simp only [bind_ok, bind_exc, sOf_ok, sOf_exc, sSeq_ap, seqK_nx, seqK_rt, seqK_bk, seqK_ct, seqK_exc, sNil_ap, sPass_ap, sBrk_ap, sCnt_ap, sRetN_ap, sRet_ap, kRet_d, kRet_r, kRet_n, kRet_m, nxK_ap, sExp_ap, ifK_t, ifK_f, sIf_ap, asK_some, kAsg_ap, sAsg_ap, gN_ap, gT_ap, gE_ap, gC_ap, kPar_ap, sPar_ap, setAll_cons, setAll_nil, forK_ap, sFor_ap, varK_some, eVar_ap, eC_ap, eBin_ap, nBin_ap, eNeg_ap, kNeg_i, aNil_ap, aCons_ap, toD_d, toDs_nil, toDs_cons, eTup_ap, nLst_ap, eCall_ap, eCallK_ap, eCB_ap, eIfK_t, eIfK_f, eIf_ap, tOfK_b, tOf_ap, andK_t, andK_f, orK_t, orK_f, tAndF_ap, tOrF_ap, notK_ap, tNotF_ap, eAndK_t, eAndK_f, eOrK_t, eOrK_f, eAnd_ap, eOr_ap, eNot_ap, kNot_b, eFrz_ap, eSto_ap, eFre_ap, eFreM_ap, eSet_ap, eAlc_ap, frozen_ok, stored_ok, storedM_ok, fresh_ok, freshM_ok, settle_d, settle_r, settle_w, settle_n, settle_m, settle_exc, allocS_d, allocS_r, allocS_n, allocS_m, addS_i, mulS_t1, mulS_t0, subS_i, ltS_i, leS_i, gtS_i, geS_i, at_0, at_1, at_2, set_0, set_1, cut_old, cut_all, len_1, len_2, app_app, set_set, set_len, retS_d, retS_n, retS_m, retS_x, list_l, list_s, seq_t, seq_k, atI_0, atI_1, atI_2, cLen_t, cLen_l, cLen_z, cInt_i, cInt_b, cI1_i, cI2_i, eIsi_ap, eqS_i, neS_i, eqS_b, neS_b, eqS_p, isN_d, isBl_b, eSl_ap, pNone_ap, pSome_ap, kPt_i, slS_t, nRev_ap, eM1_ap, sSetI_ap, sPutD_ap, eNewT_ap, itOf_ap, itAny_ap, kIter_t, kIter_k, kIter_l, kEnum_l, kZip_l, turnK_some, turnS_ap, loop_nil, nLc_ap, nLcM_ap, tYes_ap, cut_set, cut_setold, eDc_ap, sRetRev_ap, List.set_cons_zero, List.set_cons_succ, List.getElem?_cons_zero, List.getElem?_cons_succ, Option.bind_some, List.length_cons, List.length_nil, lstK0, tupK0, lstK1, tupK1, lstK2, tupK2, lstK3, tupK3, lstK4, tupK4, lstK5, tupK5, List.cons_append, List.nil_append, wipeE, m1K_r (lstAt_r g1), m1K_r (lstAt_r g0), cLen_r g0, e2, pz, ap]
  · rw [map_erase, List.map_append]
    rfl
  · refine List.Perm.trans ?_ hp
    have e1 : (L.eraseIdx r ++ (Fo ++ [L[r]])).Perm (L[r] :: (L.eraseIdx r ++ Fo)) := by
      rw [← List.append_assoc]
      exact (List.perm_append_comm).trans (List.Perm.refl _)
    refine e1.trans ?_
    rw [← List.cons_append]
    exact List.Perm.append_right Fo (cons_erase L r hr)
/-- a permutation of 0 .. k - 1 is drawn -/
theorem order_spec {st : Sto} {n : Nat} {a b c : Int} {k : Nat} (h : st[n]? = some (wellC a b c)) (hb : BOk b) (hc : 0 ≤ c ∧ c + k < 1000000000) (hk : k ≤ 1000) :
    ∃ (os : List Nat) (a' c' : Int), m_x_law_order [.r n, .d (.int k)] st = .ok (.n (os.map natV)) (st.set n (wellC a' b c')) ∧ os.Perm (List.range k) ∧ 0 ≤ c' ∧ c' ≤ c + k := by
  unfold m_x_law_order
  rw [fnS_ap]
  show ∃ os a' c', retS st.length (b_x_law_order [some (.r n), some (.d (.int k)), none, none, none] st) = _ ∧ _
  unfold b_x_law_order
  have e1 : kLR1 (.d (.int k)) st = .ok (rgD 0 1 k) st := if_pos ⟨by omega, by omega⟩
  have e2 : kRg1 [.d (.int k)] (st ++ [Ce.lst (rgD 0 1 k), Ce.lst []]) = .ok (rgD 0 1 k) (st ++ [Ce.lst (rgD 0 1 k), Ce.lst []]) := kRg1_i (rgOk_of (by omega) (by omega))
  simp only [bind_ok, bind_exc, sOf_ok, sOf_exc, sSeq_ap, seqK_nx, seqK_rt, seqK_bk, seqK_ct, seqK_exc, sNil_ap, sPass_ap, sBrk_ap, sCnt_ap, sRetN_ap, sRet_ap, kRet_d, kRet_r, kRet_n, kRet_m, nxK_ap, sExp_ap, ifK_t, ifK_f, sIf_ap, asK_some, kAsg_ap, sAsg_ap, gN_ap, gT_ap, gE_ap, gC_ap, kPar_ap, sPar_ap, setAll_cons, setAll_nil, forK_ap, sFor_ap, varK_some, eVar_ap, eC_ap, eBin_ap, nBin_ap, eNeg_ap, kNeg_i, aNil_ap, aCons_ap, toD_d, toDs_nil, toDs_cons, eTup_ap, nLst_ap, eCall_ap, eCallK_ap, eCB_ap, eIfK_t, eIfK_f, eIf_ap, tOfK_b, tOf_ap, andK_t, andK_f, orK_t, orK_f, tAndF_ap, tOrF_ap, notK_ap, tNotF_ap, eAndK_t, eAndK_f, eOrK_t, eOrK_f, eAnd_ap, eOr_ap, eNot_ap, kNot_b, eFrz_ap, eSto_ap, eFre_ap, eFreM_ap, eSet_ap, eAlc_ap, frozen_ok, stored_ok, storedM_ok, fresh_ok, freshM_ok, settle_d, settle_r, settle_w, settle_n, settle_m, settle_exc, allocS_d, allocS_r, allocS_n, allocS_m, addS_i, mulS_t1, mulS_t0, subS_i, ltS_i, leS_i, gtS_i, geS_i, at_0, at_1, at_2, set_0, set_1, cut_old, cut_all, len_1, len_2, app_app, set_set, set_len, retS_d, retS_n, retS_m, retS_x, list_l, list_s, seq_t, seq_k, atI_0, atI_1, atI_2, cLen_t, cLen_l, cLen_z, cInt_i, cInt_b, cI1_i, cI2_i, eIsi_ap, eqS_i, neS_i, eqS_b, neS_b, eqS_p, isN_d, isBl_b, eSl_ap, pNone_ap, pSome_ap, kPt_i, slS_t, nRev_ap, eM1_ap, sSetI_ap, sPutD_ap, eNewT_ap, itOf_ap, itAny_ap, kIter_t, kIter_k, kIter_l, kEnum_l, kZip_l, turnK_some, turnS_ap, loop_nil, nLc_ap, nLcM_ap, tYes_ap, cut_set, cut_setold, eDc_ap, sRetRev_ap, List.set_cons_zero, List.set_cons_succ, List.getElem?_cons_zero, List.getElem?_cons_succ, Option.bind_some, List.length_cons, List.length_nil, lstK0, tupK0, lstK1, tupK1, lstK2, tupK2, lstK3, tupK3, lstK4, tupK4, lstK5, tupK5, List.cons_append, List.nil_append, wipeE, nLR1, e1, e2]
  rw [rgD_nat]
  obtain ⟨ρ', st', e, p⟩ := loop_inv (h := turnS (gN 4) l_x_law_order_1) (OrdP st n b c k) ((List.range k).map natV) 0 [some (.r n), some (.d (.int k)), some (.r st.length), some (.r (st.length + 1)), none] (st ++ [Ce.lst ((List.range k).map natV), Ce.lst []])
    ⟨List.range k, [], a, c, none, rfl, by rw [set_same h]; rfl, by rw [List.append_nil], rfl, hc.1, by omega⟩ (fun i d ρ st' hd p => by
      rw [Nat.zero_add] at p ⊢
      have hi : i < k := by
        have := (List.getElem?_eq_some_iff.mp hd).1
        simpa using this
      exact ord_step h hb hc hk i d ρ st' hi p)
  rw [Nat.zero_add, List.length_map, List.length_range] at p
  obtain ⟨L, Fo, a', c', u, rfl, rfl, hp, hl, hc'⟩ := p
  rw [e]
  have hL : L = [] := by
    have := hp.length_eq
    rw [List.length_append, List.length_range] at this
    exact List.eq_nil_of_length_eq_zero (by omega)
  subst hL
  refine ⟨Fo, a', c', ?_, by simpa using hp, hc'.1, by omega⟩
  have g1 : (st.set n (wellC a' b c') ++ [Ce.lst (([] : List Nat).map natV), Ce.lst (Fo.map natV)])[st.length + 1]? = some (.lst (Fo.map natV)) := by
    rw [← set_len (st := st) (n := n) (c := wellC a' b c')]
    exact at_1
  simp only [bind_ok, bind_exc, sOf_ok, sOf_exc, sSeq_ap, seqK_nx, seqK_rt, seqK_bk, seqK_ct, seqK_exc, sNil_ap, sPass_ap, sBrk_ap, sCnt_ap, sRetN_ap, sRet_ap, kRet_d, kRet_r, kRet_n, kRet_m, nxK_ap, sExp_ap, ifK_t, ifK_f, sIf_ap, asK_some, kAsg_ap, sAsg_ap, gN_ap, gT_ap, gE_ap, gC_ap, kPar_ap, sPar_ap, setAll_cons, setAll_nil, forK_ap, sFor_ap, varK_some, eVar_ap, eC_ap, eBin_ap, nBin_ap, eNeg_ap, kNeg_i, aNil_ap, aCons_ap, toD_d, toDs_nil, toDs_cons, eTup_ap, nLst_ap, eCall_ap, eCallK_ap, eCB_ap, eIfK_t, eIfK_f, eIf_ap, tOfK_b, tOf_ap, andK_t, andK_f, orK_t, orK_f, tAndF_ap, tOrF_ap, notK_ap, tNotF_ap, eAndK_t, eAndK_f, eOrK_t, eOrK_f, eAnd_ap, eOr_ap, eNot_ap, kNot_b, eFrz_ap, eSto_ap, eFre_ap, eFreM_ap, eSet_ap, eAlc_ap, frozen_ok, stored_ok, storedM_ok, fresh_ok, freshM_ok, settle_d, settle_r, settle_w, settle_n, settle_m, settle_exc, allocS_d, allocS_r, allocS_n, allocS_m, addS_i, mulS_t1, mulS_t0, subS_i, ltS_i, leS_i, gtS_i, geS_i, at_0, at_1, at_2, set_0, set_1, cut_old, cut_all, len_1, len_2, app_app, set_set, set_len, retS_d, retS_n, retS_m, retS_x, list_l, list_s, seq_t, seq_k, atI_0, atI_1, atI_2, cLen_t, cLen_l, cLen_z, cInt_i, cInt_b, cI1_i, cI2_i, eIsi_ap, eqS_i, neS_i, eqS_b, neS_b, eqS_p, isN_d, isBl_b, eSl_ap, pNone_ap, pSome_ap, kPt_i, slS_t, nRev_ap, eM1_ap, sSetI_ap, sPutD_ap, eNewT_ap, itOf_ap, itAny_ap, kIter_t, kIter_k, kIter_l, kEnum_l, kZip_l, turnK_some, turnS_ap, loop_nil, nLc_ap, nLcM_ap, tYes_ap, cut_set, cut_setold, eDc_ap, sRetRev_ap, List.set_cons_zero, List.set_cons_succ, List.getElem?_cons_zero, List.getElem?_cons_succ, Option.bind_some, List.length_cons, List.length_nil, lstK0, tupK0, lstK1, tupK1, lstK2, tupK2, lstK3, tupK3, lstK4, tupK4, lstK5, tupK5, List.cons_append, List.nil_append, wipeE, retS_l (Nat.le_succ _) g1]
end K42

namespace K42
open PySem PySem.Spec PyProof.Rows L2 F
def placeV (q : Nat × Nat) : Vl := .tup [.int q.1, .int q.2]
def partV (q : Nat × Nat × Nat) : Vl := .tup [.int q.1, .int q.2.1, .int q.2.2]
structure PlOk (b : Nat) (ps : List (Nat × Nat)) : Prop where
  len : ps.length = b * b
  lt : ∀ q ∈ ps, q.1 < b ∧ q.2 < b
  nd : ps.Nodup
structure KindOk (b many : Nat) (ks : List (Nat × Nat × Nat)) : Prop where
  len : ks.length = b * b
  lt : ∀ q ∈ ks, q.1 < b ∧ q.2.1 < b ∧ q.2.2 < many
  nd : (ks.map fun q => (q.1, q.2.1)).Nodup
theorem PlOk.perm {b : Nat} {ps qs : List (Nat × Nat)} (h : PlOk b ps) (p : qs.Perm ps) : PlOk b qs := ⟨by rw [p.length_eq]; exact h.len, fun q m => h.lt q (p.mem_iff.mp m), p.nodup_iff.mpr h.nd⟩
theorem PlOk.map {b : Nat} {ps : List (Nat × Nat)} (h : PlOk b ps) (g : Nat × Nat → Nat × Nat) (hg : ∀ q, q.1 < b ∧ q.2 < b → (g q).1 < b ∧ (g q).2 < b) (inj : ∀ p q, p.1 < b ∧ p.2 < b → q.1 < b ∧ q.2 < b → g p = g q → p = q) : PlOk b (ps.map g) :=
  ⟨by rw [List.length_map]; exact h.len, fun q m => by
    obtain ⟨p, hp, rfl⟩ := List.mem_map.mp m
    exact hg p (h.lt p hp), nodup_on (fun p hp q hq e => inj p q (h.lt p hp) (h.lt q hq) e) h.nd⟩
def flipP (b : Nat) (q : Nat × Nat) : Nat × Nat := (if q.2 % 2 = 0 then q.1 else b - 1 - q.1, q.2)
def swapP (q : Nat × Nat) : Nat × Nat := (q.2, q.1)
theorem PlOk.flip {b : Nat} {ps : List (Nat × Nat)} (h : PlOk b ps) : PlOk b (ps.map (flipP b)) := h.map _ (fun q hq => by
  unfold flipP
  refine ⟨?_, hq.2⟩
  dsimp only
  split <;> omega) fun p q hp hq e => by
    unfold flipP at e
    have e1 := congrArg Prod.fst e
    have e2 := congrArg Prod.snd e
    dsimp only at e1 e2
    rw [e2] at e1
    refine Prod.ext ?_ e2
    split at e1 <;> omega
theorem PlOk.swap {b : Nat} {ps : List (Nat × Nat)} (h : PlOk b ps) : PlOk b (ps.map swapP) := h.map _ (fun q hq => ⟨hq.2, hq.1⟩) fun p q hp hq e => Prod.ext (congrArg Prod.snd e) (congrArg Prod.fst e)
def rowP (b : Nat) : List (Nat × Nat) := (List.range (b * b)).map fun a => (a % b, a / b)
theorem rowP_ok {b : Nat} (hb : 0 < b) : PlOk b (rowP b) := ⟨by unfold rowP; rw [List.length_map, List.length_range], fun q m => by
  obtain ⟨a, ha, rfl⟩ := List.mem_map.mp m
  exact ⟨Nat.mod_lt _ hb, Nat.div_lt_of_lt_mul (List.mem_range.mp ha)⟩, nodup_on (fun x _ y _ e => by
    have e1 := congrArg Prod.fst e
    have e2 := congrArg Prod.snd e
    dsimp only at e1 e2
    rw [← Nat.div_add_mod x b, ← Nat.div_add_mod y b, e1, e2]) List.nodup_range⟩
/-- in the midst of _law_kind: the places stand in the cell st.length + j -/
def KSt (st : Sto) (n : Nat) (B : Int) (b many way : Nat) (m : Int) (ρ : En) (st' : Sto) : Prop := ∃ (P : List (Nat × Nat)) (a c : Int) (tl : Sto) (j : Nat) (u5 u6 u7 u8 : Option Sl),
  ρ = [some (.r n), some (.d (.int b)), some (.d (.int many)), some (.d (.int way)), some (.r (st.length + j)), u5, u6, u7, u8] ∧ st' = st.set n (wellC a B c) ++ tl ∧ tl[j]? = some (Ce.lst (P.map placeV)) ∧ PlOk b P ∧ 0 ≤ c ∧ c ≤ m
theorem KSt.mono {st : Sto} {n : Nat} {B : Int} {b many way : Nat} {m m' : Int} {ρ : En} {st' : Sto} (p : KSt st n B b many way m ρ st') (h : m ≤ m') : KSt st n B b many way m' ρ st' := by
  obtain ⟨P, a, c, tl, j, u5, u6, u7, u8, h1, h2, h3, h4, h5, h6⟩ := p
  exact ⟨P, a, c, tl, j, u5, u6, u7, u8, h1, h2, h3, h4, h5, Int.le_trans h6 h⟩
theorem kind_fill {b : Nat} (hb : 2 ≤ b ∧ b ≤ 3) {S : Sto} {m : Nat} (hS : S[m]? = some (Ce.lst [])) {u0 u2 u3 u5 u6 u7 u8 : Option Sl} :
    ∃ v, loopS (turnS (gN 5) l_x_law_kind_1) (rgD 0 1 (b * b)) [u0, some (.d (.int b)), u2, u3, some (.r m), u5, u6, u7, u8] S = .nx [u0, some (.d (.int b)), u2, u3, some (.r m), v, u6, u7, u8] (S.set m (Ce.lst ((rowP b).map placeV))) := by
  obtain ⟨ρ', st', e, v, rfl, rfl⟩ := loop_inv (h := turnS (gN 5) l_x_law_kind_1) (fun i ρ st' => ∃ v, ρ = [u0, some (.d (.int b)), u2, u3, some (.r m), v, u6, u7, u8] ∧ st' = S.set m (Ce.lst (((List.range i).map fun a => (a % b, a / b)).map placeV))) (rgD 0 1 (b * b)) 0 [u0, some (.d (.int b)), u2, u3, some (.r m), u5, u6, u7, u8] S
    ⟨u5, rfl, by rw [set_same]; exact hS⟩ (fun i d ρ st' hd ⟨v, hρ, hst⟩ => by
      subst hρ hst
      have hi : i < b * b := by
        have := (List.getElem?_eq_some_iff.mp hd).1
        rw [rgD_len] at this
        exact this
      have hd2 : d = .int i := by
        have := rgD_at hd
        rw [this]
        congr 1
        omega
      subst hd2
      have hbb : b * b ≤ 9 := Nat.mul_le_mul hb.2 hb.2
      rw [Nat.zero_add]
      have g := kApp_r (x := .tup [.int ((i : Int) % b), .int ((i : Int) / b)]) (at_set (c := Ce.lst (((List.range i).map fun a => (a % b, a / b)).map placeV)) hS) (by simp; omega)
      rw [set_set] at g
      refine ⟨_, _, ?_, some (.d (.int i)), rfl, rfl⟩
      unfold l_x_law_kind_1
      simp only [bind_ok, bind_exc, sOf_ok, sOf_exc, sSeq_ap, seqK_nx, seqK_rt, seqK_bk, seqK_ct, seqK_exc, sNil_ap, sPass_ap, sBrk_ap, sCnt_ap, sRetN_ap, sRet_ap, kRet_d, kRet_r, kRet_n, kRet_m, nxK_ap, sExp_ap, ifK_t, ifK_f, sIf_ap, asK_some, kAsg_ap, sAsg_ap, gN_ap, gT_ap, gE_ap, gC_ap, kPar_ap, sPar_ap, setAll_cons, setAll_nil, forK_ap, sFor_ap, varK_some, eVar_ap, eC_ap, eBin_ap, nBin_ap, eNeg_ap, kNeg_i, aNil_ap, aCons_ap, toD_d, toDs_nil, toDs_cons, eTup_ap, nLst_ap, eCall_ap, eCallK_ap, eCB_ap, eIfK_t, eIfK_f, eIf_ap, tOfK_b, tOf_ap, andK_t, andK_f, orK_t, orK_f, tAndF_ap, tOrF_ap, notK_ap, tNotF_ap, eAndK_t, eAndK_f, eOrK_t, eOrK_f, eAnd_ap, eOr_ap, eNot_ap, kNot_b, eFrz_ap, eSto_ap, eFre_ap, eFreM_ap, eSet_ap, eAlc_ap, frozen_ok, stored_ok, storedM_ok, fresh_ok, freshM_ok, settle_d, settle_r, settle_w, settle_n, settle_m, settle_exc, allocS_d, allocS_r, allocS_n, allocS_m, addS_i, mulS_t1, mulS_t0, subS_i, ltS_i, leS_i, gtS_i, geS_i, at_0, at_1, at_2, set_0, set_1, cut_old, cut_all, len_1, len_2, app_app, set_set, set_len, retS_d, retS_n, retS_m, retS_x, list_l, list_s, seq_t, seq_k, atI_0, atI_1, atI_2, cLen_t, cLen_l, cLen_z, cInt_i, cInt_b, cI1_i, cI2_i, eIsi_ap, eqS_i, neS_i, eqS_b, neS_b, eqS_p, isN_d, isBl_b, eSl_ap, pNone_ap, pSome_ap, kPt_i, slS_t, nRev_ap, eM1_ap, sSetI_ap, sPutD_ap, eNewT_ap, itOf_ap, itAny_ap, kIter_t, kIter_k, kIter_l, kEnum_l, kZip_l, turnK_some, turnS_ap, loop_nil, nLc_ap, nLcM_ap, tYes_ap, cut_set, cut_setold, eDc_ap, sRetRev_ap, List.set_cons_zero, List.set_cons_succ, List.getElem?_cons_zero, List.getElem?_cons_succ, Option.bind_some, List.length_cons, List.length_nil, lstK0, tupK0, lstK1, tupK1, lstK2, tupK2, lstK3, tupK3, lstK4, tupK4, lstK5, tupK5, List.cons_append, List.nil_append, wipeE, m1K_r (lstAt_r (at_set hS)), modS_i (show (0 : Int) < b by omega), divS_i (small_ok (show (0 : Int) < b by omega) (by omega)), g]
      rw [List.range_succ, List.map_append, List.map_append]
      rfl)
  rw [Nat.zero_add, rgD_len] at e
  exact ⟨v, e⟩
theorem kind_order {st : Sto} {n : Nat} {a₀ c₀ B : Int} {b many way : Nat} {m : Int} (h : st[n]? = some (wellC a₀ B c₀)) (hB : BOk B) (hb : 2 ≤ b ∧ b ≤ 3) (hm : m < 999999000) {ρ : En} {st' : Sto} (p : KSt st n B b many way m ρ st') :
    ∃ ρ' st2, (sSeq (sAsg (eSto c_x_law_kind_5) (gN 4)) sNil) ρ st' = .nx ρ' st2 ∧ KSt st n B b many way (m + 9) ρ' st2 := by
  obtain ⟨P, a, c, tl, j, u5, u6, u7, u8, rfl, rfl, hj, ok, hc⟩ := p
  have hbb : b * b ≤ 9 := Nat.mul_le_mul hb.2 hb.2
  obtain ⟨os, a2, c2, e, pm, c0, c1⟩ := order_spec (k := b * b) (at_old (l := tl) (at_set (c := wellC a B c) h)) hB (by omega) (by omega)
  rw [set_old (at_set h), set_set] at e
  have hcell : (st.set n (wellC a2 B c2) ++ tl)[st.length + j]? = some (Ce.lst (P.map placeV)) := by rw [at_tail]; exact hj
  have hlen : os.length = b * b := by rw [pm.length_eq, List.length_range]
  have lc := lc_mapf (st := st.set n (wellC a2 B c2) ++ tl) (gt := gN 5) (t := tYesF) (f := eBin ixA (eVar 4) (eVar 5)) (ρ := [some (.r n), some (.d (.int b)), some (.d (.int many)), some (.d (.int way)), some (.r (st.length + j)), none, u6, u7, u8]) (enc := natV) (out := fun o => placeV (P.getD o (0, 0))) os [] (by rw [List.length_nil]; omega) (fun o ho => by
    have ho' : o < P.length := by rw [ok.len]; exact List.mem_range.mp (pm.mem_iff.mp ho)
    refine ⟨_, rfl, rfl, ?_⟩
    have hx : atI (P.map placeV) (o : Int) = some (placeV (P.getD o (0, 0))) := atI_get (by rw [List.getElem?_map, List.getElem?_eq_getElem ho']; simp [List.getD, ho'])
    simp only [bind_ok, bind_exc, sOf_ok, sOf_exc, sSeq_ap, seqK_nx, seqK_rt, seqK_bk, seqK_ct, seqK_exc, sNil_ap, sPass_ap, sBrk_ap, sCnt_ap, sRetN_ap, sRet_ap, kRet_d, kRet_r, kRet_n, kRet_m, nxK_ap, sExp_ap, ifK_t, ifK_f, sIf_ap, asK_some, kAsg_ap, sAsg_ap, gN_ap, gT_ap, gE_ap, gC_ap, kPar_ap, sPar_ap, setAll_cons, setAll_nil, forK_ap, sFor_ap, varK_some, eVar_ap, eC_ap, eBin_ap, nBin_ap, eNeg_ap, kNeg_i, aNil_ap, aCons_ap, toD_d, toDs_nil, toDs_cons, eTup_ap, nLst_ap, eCall_ap, eCallK_ap, eCB_ap, eIfK_t, eIfK_f, eIf_ap, tOfK_b, tOf_ap, andK_t, andK_f, orK_t, orK_f, tAndF_ap, tOrF_ap, notK_ap, tNotF_ap, eAndK_t, eAndK_f, eOrK_t, eOrK_f, eAnd_ap, eOr_ap, eNot_ap, kNot_b, eFrz_ap, eSto_ap, eFre_ap, eFreM_ap, eSet_ap, eAlc_ap, frozen_ok, stored_ok, storedM_ok, fresh_ok, freshM_ok, settle_d, settle_r, settle_w, settle_n, settle_m, settle_exc, allocS_d, allocS_r, allocS_n, allocS_m, addS_i, mulS_t1, mulS_t0, subS_i, ltS_i, leS_i, gtS_i, geS_i, at_0, at_1, at_2, set_0, set_1, cut_old, cut_all, len_1, len_2, app_app, set_set, set_len, retS_d, retS_n, retS_m, retS_x, list_l, list_s, seq_t, seq_k, atI_0, atI_1, atI_2, cLen_t, cLen_l, cLen_z, cInt_i, cInt_b, cI1_i, cI2_i, eIsi_ap, eqS_i, neS_i, eqS_b, neS_b, eqS_p, isN_d, isBl_b, eSl_ap, pNone_ap, pSome_ap, kPt_i, slS_t, nRev_ap, eM1_ap, sSetI_ap, sPutD_ap, eNewT_ap, itOf_ap, itAny_ap, kIter_t, kIter_k, kIter_l, kEnum_l, kZip_l, turnK_some, turnS_ap, loop_nil, nLc_ap, nLcM_ap, tYes_ap, cut_set, cut_setold, eDc_ap, sRetRev_ap, List.set_cons_zero, List.set_cons_succ, List.getElem?_cons_zero, List.getElem?_cons_succ, Option.bind_some, List.length_cons, List.length_nil, lstK0, tupK0, lstK1, tupK1, lstK2, tupK2, lstK3, tupK3, lstK4, tupK4, lstK5, tupK5, List.cons_append, List.nil_append, wipeE, natV, ixA_l (list_r hcell) hx])
  have fin : ((os.map fun o => placeV (P.getD o (0, 0)))) = (os.map fun o => P.getD o (0, 0)).map placeV := by rw [List.map_map]; rfl
  refine ⟨[some (.r n), some (.d (.int b)), some (.d (.int many)), some (.d (.int way)), some (.r (st.length + tl.length)), u5, u6, u7, u8], st.set n (wellC a2 B c2) ++ (tl ++ [Ce.lst ((os.map fun o => P.getD o (0, 0)).map placeV)]), ?_, os.map (fun o => P.getD o (0, 0)), a2, c2, _, tl.length, u5, u6, u7, u8, rfl, rfl, ?_, ?_, c0, by omega⟩
  · unfold c_x_law_kind_5
    simp only [bind_ok, bind_exc, sOf_ok, sOf_exc, sSeq_ap, seqK_nx, seqK_rt, seqK_bk, seqK_ct, seqK_exc, sNil_ap, sPass_ap, sBrk_ap, sCnt_ap, sRetN_ap, sRet_ap, kRet_d, kRet_r, kRet_n, kRet_m, nxK_ap, sExp_ap, ifK_t, ifK_f, sIf_ap, asK_some, kAsg_ap, sAsg_ap, gN_ap, gT_ap, gE_ap, gC_ap, kPar_ap, sPar_ap, setAll_cons, setAll_nil, forK_ap, sFor_ap, varK_some, eVar_ap, eC_ap, eBin_ap, nBin_ap, eNeg_ap, kNeg_i, aNil_ap, aCons_ap, toD_d, toDs_nil, toDs_cons, eTup_ap, nLst_ap, eCall_ap, eCallK_ap, eCB_ap, eIfK_t, eIfK_f, eIf_ap, tOfK_b, tOf_ap, andK_t, andK_f, orK_t, orK_f, tAndF_ap, tOrF_ap, notK_ap, tNotF_ap, eAndK_t, eAndK_f, eOrK_t, eOrK_f, eAnd_ap, eOr_ap, eNot_ap, kNot_b, eFrz_ap, eSto_ap, eFre_ap, eFreM_ap, eSet_ap, eAlc_ap, frozen_ok, stored_ok, storedM_ok, fresh_ok, freshM_ok, settle_d, settle_r, settle_w, settle_n, settle_m, settle_exc, allocS_d, allocS_r, allocS_n, allocS_m, addS_i, mulS_t1, mulS_t0, subS_i, ltS_i, leS_i, gtS_i, geS_i, at_0, at_1, at_2, set_0, set_1, cut_old, cut_all, len_1, len_2, app_app, set_set, set_len, retS_d, retS_n, retS_m, retS_x, list_l, list_s, seq_t, seq_k, atI_0, atI_1, atI_2, cLen_t, cLen_l, cLen_z, cInt_i, cInt_b, cI1_i, cI2_i, eIsi_ap, eqS_i, neS_i, eqS_b, neS_b, eqS_p, isN_d, isBl_b, eSl_ap, pNone_ap, pSome_ap, kPt_i, slS_t, nRev_ap, eM1_ap, sSetI_ap, sPutD_ap, eNewT_ap, itOf_ap, itAny_ap, kIter_t, kIter_k, kIter_l, kEnum_l, kZip_l, turnK_some, turnS_ap, loop_nil, nLc_ap, nLcM_ap, tYes_ap, cut_set, cut_setold, eDc_ap, sRetRev_ap, List.set_cons_zero, List.set_cons_succ, List.getElem?_cons_zero, List.getElem?_cons_succ, Option.bind_some, List.length_cons, List.length_nil, lstK0, tupK0, lstK1, tupK1, lstK2, tupK2, lstK3, tupK3, lstK4, tupK4, lstK5, tupK5, List.cons_append, List.nil_append, wipeE, mulc_l (show (b : Int).natAbs < 2 ^ 60 by omega), show (b : Int) * (b : Int) = ((b * b : Nat) : Int) from (Int.natCast_mul b b).symm, e, lc, fin, len_tail]
  · rw [List.getElem?_append_right (Nat.le_refl _)]
    simp
  · refine ok.perm ?_
    have := pm.map (fun o => P.getD o (0, 0))
    rw [← ok.len, F.range_getD] at this
    exact this
theorem kind_flip {st : Sto} {n : Nat} {a₀ c₀ B : Int} {b many way : Nat} {m : Int} (h : st[n]? = some (wellC a₀ B c₀)) (hB : BOk B) (hb : 2 ≤ b ∧ b ≤ 3) (hm : m < 999999000) {ρ : En} {st' : Sto} (p : KSt st n B b many way m ρ st') :
    ∃ ρ' st2, (sSeq (sAsg (eSto c_x_law_kind_4) (gN 4)) (sSeq (sAsg (eSet (eCall m_x_law_draw (aCons (eVar 0) (aCons (eC (.int 2)) aNil)))) (gN 6)) (sSeq (sAsg (eAlc (eIf (tOf (eBin eqS (eVar 6) (eC (.int 1)))) (eFre c_x_law_kind_3) (eVar 4))) (gN 4)) sNil))) ρ st' = .nx ρ' st2 ∧ KSt st n B b many way (m + 1) ρ' st2 := by
  obtain ⟨P, a, c, tl, j, u5, u6, u7, u8, rfl, rfl, hj, ok, hc⟩ := p
  have hbb : b * b ≤ 9 := Nat.mul_le_mul hb.2 hb.2
  have hcell : (st.set n (wellC a B c) ++ tl)[st.length + j]? = some (Ce.lst (P.map placeV)) := by rw [at_tail]; exact hj
  have lc := lc_mapf (st := st.set n (wellC a B c) ++ tl.set j (Ce.frz (P.map placeV))) (gt := gT (gC (gN 7) (gC (gN 8) gE))) (t := tYesF)
    (f := (eTup (aCons (eIf (tOf (eBin eqS (eBin modS (eCB cInt (aCons (eVar 8) aNil)) (eC (.int 2))) (eC (.int 0)))) (eVar 7) (eBin subS (eBin subS (eVar 1) (eC (.int 1))) (eVar 7))) (aCons (eVar 8) aNil))))
    (ρ := [some (.r n), some (.d (.int b)), some (.d (.int many)), some (.d (.int way)), some (.r (st.length + j)), u5, u6, none, none]) (enc := placeV) (out := fun q => placeV (flipP b q)) P [] (by rw [List.length_nil, ok.len]; omega) (fun q hq => by
    refine ⟨_, rfl, rfl, ?_⟩
    have hlt := ok.lt q hq
    by_cases h2 : q.2 % 2 = 0
    · have e0 : ((q.2 : Int) % 2 == 0) = true := by rw [beq_iff_eq]; omega
      simp only [bind_ok, bind_exc, sOf_ok, sOf_exc, sSeq_ap, seqK_nx, seqK_rt, seqK_bk, seqK_ct, seqK_exc, sNil_ap, sPass_ap, sBrk_ap, sCnt_ap, sRetN_ap, sRet_ap, kRet_d, kRet_r, kRet_n, kRet_m, nxK_ap, sExp_ap, ifK_t, ifK_f, sIf_ap, asK_some, kAsg_ap, sAsg_ap, gN_ap, gT_ap, gE_ap, gC_ap, kPar_ap, sPar_ap, setAll_cons, setAll_nil, forK_ap, sFor_ap, varK_some, eVar_ap, eC_ap, eBin_ap, nBin_ap, eNeg_ap, kNeg_i, aNil_ap, aCons_ap, toD_d, toDs_nil, toDs_cons, eTup_ap, nLst_ap, eCall_ap, eCallK_ap, eCB_ap, eIfK_t, eIfK_f, eIf_ap, tOfK_b, tOf_ap, andK_t, andK_f, orK_t, orK_f, tAndF_ap, tOrF_ap, notK_ap, tNotF_ap, eAndK_t, eAndK_f, eOrK_t, eOrK_f, eAnd_ap, eOr_ap, eNot_ap, kNot_b, eFrz_ap, eSto_ap, eFre_ap, eFreM_ap, eSet_ap, eAlc_ap, frozen_ok, stored_ok, storedM_ok, fresh_ok, freshM_ok, settle_d, settle_r, settle_w, settle_n, settle_m, settle_exc, allocS_d, allocS_r, allocS_n, allocS_m, addS_i, mulS_t1, mulS_t0, subS_i, ltS_i, leS_i, gtS_i, geS_i, at_0, at_1, at_2, set_0, set_1, cut_old, cut_all, len_1, len_2, app_app, set_set, set_len, retS_d, retS_n, retS_m, retS_x, list_l, list_s, seq_t, seq_k, atI_0, atI_1, atI_2, cLen_t, cLen_l, cLen_z, cInt_i, cInt_b, cI1_i, cI2_i, eIsi_ap, eqS_i, neS_i, eqS_b, neS_b, eqS_p, isN_d, isBl_b, eSl_ap, pNone_ap, pSome_ap, kPt_i, slS_t, nRev_ap, eM1_ap, sSetI_ap, sPutD_ap, eNewT_ap, itOf_ap, itAny_ap, kIter_t, kIter_k, kIter_l, kEnum_l, kZip_l, turnK_some, turnS_ap, loop_nil, nLc_ap, nLcM_ap, tYes_ap, cut_set, cut_setold, eDc_ap, sRetRev_ap, List.set_cons_zero, List.set_cons_succ, List.getElem?_cons_zero, List.getElem?_cons_succ, Option.bind_some, List.length_cons, List.length_nil, lstK0, tupK0, lstK1, tupK1, lstK2, tupK2, lstK3, tupK3, lstK4, tupK4, lstK5, tupK5, List.cons_append, List.nil_append, wipeE, placeV, flipP, modS_i (show (0 : Int) < 2 by decide), e0, if_pos h2]
    · have e0 : ((q.2 : Int) % 2 == 0) = false := by rw [beq_eq_false_iff_ne]; omega
      simp only [bind_ok, bind_exc, sOf_ok, sOf_exc, sSeq_ap, seqK_nx, seqK_rt, seqK_bk, seqK_ct, seqK_exc, sNil_ap, sPass_ap, sBrk_ap, sCnt_ap, sRetN_ap, sRet_ap, kRet_d, kRet_r, kRet_n, kRet_m, nxK_ap, sExp_ap, ifK_t, ifK_f, sIf_ap, asK_some, kAsg_ap, sAsg_ap, gN_ap, gT_ap, gE_ap, gC_ap, kPar_ap, sPar_ap, setAll_cons, setAll_nil, forK_ap, sFor_ap, varK_some, eVar_ap, eC_ap, eBin_ap, nBin_ap, eNeg_ap, kNeg_i, aNil_ap, aCons_ap, toD_d, toDs_nil, toDs_cons, eTup_ap, nLst_ap, eCall_ap, eCallK_ap, eCB_ap, eIfK_t, eIfK_f, eIf_ap, tOfK_b, tOf_ap, andK_t, andK_f, orK_t, orK_f, tAndF_ap, tOrF_ap, notK_ap, tNotF_ap, eAndK_t, eAndK_f, eOrK_t, eOrK_f, eAnd_ap, eOr_ap, eNot_ap, kNot_b, eFrz_ap, eSto_ap, eFre_ap, eFreM_ap, eSet_ap, eAlc_ap, frozen_ok, stored_ok, storedM_ok, fresh_ok, freshM_ok, settle_d, settle_r, settle_w, settle_n, settle_m, settle_exc, allocS_d, allocS_r, allocS_n, allocS_m, addS_i, mulS_t1, mulS_t0, subS_i, ltS_i, leS_i, gtS_i, geS_i, at_0, at_1, at_2, set_0, set_1, cut_old, cut_all, len_1, len_2, app_app, set_set, set_len, retS_d, retS_n, retS_m, retS_x, list_l, list_s, seq_t, seq_k, atI_0, atI_1, atI_2, cLen_t, cLen_l, cLen_z, cInt_i, cInt_b, cI1_i, cI2_i, eIsi_ap, eqS_i, neS_i, eqS_b, neS_b, eqS_p, isN_d, isBl_b, eSl_ap, pNone_ap, pSome_ap, kPt_i, slS_t, nRev_ap, eM1_ap, sSetI_ap, sPutD_ap, eNewT_ap, itOf_ap, itAny_ap, kIter_t, kIter_k, kIter_l, kEnum_l, kZip_l, turnK_some, turnS_ap, loop_nil, nLc_ap, nLcM_ap, tYes_ap, cut_set, cut_setold, eDc_ap, sRetRev_ap, List.set_cons_zero, List.set_cons_succ, List.getElem?_cons_zero, List.getElem?_cons_succ, Option.bind_some, List.length_cons, List.length_nil, lstK0, tupK0, lstK1, tupK1, lstK2, tupK2, lstK3, tupK3, lstK4, tupK4, lstK5, tupK5, List.cons_append, List.nil_append, wipeE, placeV, flipP, modS_i (show (0 : Int) < 2 by decide), e0, if_neg h2, show (b : Int) - 1 - (q.1 : Int) = ((b - 1 - q.1 : Nat) : Int) by omega])
  have fin : (P.map fun q => placeV (flipP b q)) = (P.map (flipP b)).map placeV := by rw [List.map_map]; rfl
  obtain ⟨T, hT⟩ : ∃ T, T = tl.set j (Ce.frz (P.map placeV)) := ⟨_, rfl⟩
  have h1 : (st.set n (wellC a B c) ++ (T ++ [Ce.lst ((P.map (flipP b)).map placeV)]))[n]? = some (wellC a B c) := at_old (at_set h)
  obtain ⟨r, a2, c2, e2, r0, r1, c0, c1⟩ := draw_spec (many := 2) h1 hB (by omega) (by decide) (by decide)
  rw [set_old (at_set h), set_set] at e2
  have cell2 : (st.set n (wellC a2 B c2) ++ (T ++ [Ce.lst ((P.map (flipP b)).map placeV)]))[st.length + T.length]? = some (Ce.lst ((P.map (flipP b)).map placeV)) := at_new
  rw [← hT] at lc
  by_cases hr : r = 1
  · subst hr
    obtain ⟨T2, hT2⟩ : ∃ T2, T2 = (T ++ [Ce.lst ((P.map (flipP b)).map placeV)]).set T.length (Ce.frz ((P.map (flipP b)).map placeV)) := ⟨_, rfl⟩
    have lc2 := lc_mapf (st := st.set n (wellC a2 B c2) ++ T2) (gt := gT (gC (gN 7) (gC (gN 8) gE))) (t := tYesF) (f := (eTup (aCons (eVar 8) (aCons (eVar 7) aNil))))
      (ρ := [some (.r n), some (.d (.int b)), some (.d (.int many)), some (.d (.int way)), some (.r (st.length + T.length)), u5, some (.d (.int 1)), none, none]) (enc := placeV) (out := fun q => placeV (swapP q)) (P.map (flipP b)) [] (by rw [List.length_nil, List.length_map, ok.len]; omega) (fun q hq => by
      refine ⟨_, rfl, rfl, ?_⟩
      simp only [bind_ok, bind_exc, sOf_ok, sOf_exc, sSeq_ap, seqK_nx, seqK_rt, seqK_bk, seqK_ct, seqK_exc, sNil_ap, sPass_ap, sBrk_ap, sCnt_ap, sRetN_ap, sRet_ap, kRet_d, kRet_r, kRet_n, kRet_m, nxK_ap, sExp_ap, ifK_t, ifK_f, sIf_ap, asK_some, kAsg_ap, sAsg_ap, gN_ap, gT_ap, gE_ap, gC_ap, kPar_ap, sPar_ap, setAll_cons, setAll_nil, forK_ap, sFor_ap, varK_some, eVar_ap, eC_ap, eBin_ap, nBin_ap, eNeg_ap, kNeg_i, aNil_ap, aCons_ap, toD_d, toDs_nil, toDs_cons, eTup_ap, nLst_ap, eCall_ap, eCallK_ap, eCB_ap, eIfK_t, eIfK_f, eIf_ap, tOfK_b, tOf_ap, andK_t, andK_f, orK_t, orK_f, tAndF_ap, tOrF_ap, notK_ap, tNotF_ap, eAndK_t, eAndK_f, eOrK_t, eOrK_f, eAnd_ap, eOr_ap, eNot_ap, kNot_b, eFrz_ap, eSto_ap, eFre_ap, eFreM_ap, eSet_ap, eAlc_ap, frozen_ok, stored_ok, storedM_ok, fresh_ok, freshM_ok, settle_d, settle_r, settle_w, settle_n, settle_m, settle_exc, allocS_d, allocS_r, allocS_n, allocS_m, addS_i, mulS_t1, mulS_t0, subS_i, ltS_i, leS_i, gtS_i, geS_i, at_0, at_1, at_2, set_0, set_1, cut_old, cut_all, len_1, len_2, app_app, set_set, set_len, retS_d, retS_n, retS_m, retS_x, list_l, list_s, seq_t, seq_k, atI_0, atI_1, atI_2, cLen_t, cLen_l, cLen_z, cInt_i, cInt_b, cI1_i, cI2_i, eIsi_ap, eqS_i, neS_i, eqS_b, neS_b, eqS_p, isN_d, isBl_b, eSl_ap, pNone_ap, pSome_ap, kPt_i, slS_t, nRev_ap, eM1_ap, sSetI_ap, sPutD_ap, eNewT_ap, itOf_ap, itAny_ap, kIter_t, kIter_k, kIter_l, kEnum_l, kZip_l, turnK_some, turnS_ap, loop_nil, nLc_ap, nLcM_ap, tYes_ap, cut_set, cut_setold, eDc_ap, sRetRev_ap, List.set_cons_zero, List.set_cons_succ, List.getElem?_cons_zero, List.getElem?_cons_succ, Option.bind_some, List.length_cons, List.length_nil, lstK0, tupK0, lstK1, tupK1, lstK2, tupK2, lstK3, tupK3, lstK4, tupK4, lstK5, tupK5, List.cons_append, List.nil_append, wipeE, placeV, swapP])
    have fin2 : ((P.map (flipP b)).map fun q => placeV (swapP q)) = ((P.map (flipP b)).map swapP).map placeV := by rw [List.map_map, List.map_map, List.map_map]; rfl
    refine ⟨[some (.r n), some (.d (.int b)), some (.d (.int many)), some (.d (.int way)), some (.r (st.length + T2.length)), u5, some (.d (.int 1)), u7, u8], st.set n (wellC a2 B c2) ++ (T2 ++ [Ce.lst (((P.map (flipP b)).map swapP).map placeV)]), ?_, (P.map (flipP b)).map swapP, a2, c2, _, T2.length, u5, _, u7, u8, rfl, rfl, ?_, ok.flip.swap, c0, by omega⟩
    · unfold c_x_law_kind_4 c_x_law_kind_3
      simp only [bind_ok, bind_exc, sOf_ok, sOf_exc, sSeq_ap, seqK_nx, seqK_rt, seqK_bk, seqK_ct, seqK_exc, sNil_ap, sPass_ap, sBrk_ap, sCnt_ap, sRetN_ap, sRet_ap, kRet_d, kRet_r, kRet_n, kRet_m, nxK_ap, sExp_ap, ifK_t, ifK_f, sIf_ap, asK_some, kAsg_ap, sAsg_ap, gN_ap, gT_ap, gE_ap, gC_ap, kPar_ap, sPar_ap, setAll_cons, setAll_nil, forK_ap, sFor_ap, varK_some, eVar_ap, eC_ap, eBin_ap, nBin_ap, eNeg_ap, kNeg_i, aNil_ap, aCons_ap, toD_d, toDs_nil, toDs_cons, eTup_ap, nLst_ap, eCall_ap, eCallK_ap, eCB_ap, eIfK_t, eIfK_f, eIf_ap, tOfK_b, tOf_ap, andK_t, andK_f, orK_t, orK_f, tAndF_ap, tOrF_ap, notK_ap, tNotF_ap, eAndK_t, eAndK_f, eOrK_t, eOrK_f, eAnd_ap, eOr_ap, eNot_ap, kNot_b, eFrz_ap, eSto_ap, eFre_ap, eFreM_ap, eSet_ap, eAlc_ap, frozen_ok, stored_ok, storedM_ok, fresh_ok, freshM_ok, settle_d, settle_r, settle_w, settle_n, settle_m, settle_exc, allocS_d, allocS_r, allocS_n, allocS_m, addS_i, mulS_t1, mulS_t0, subS_i, ltS_i, leS_i, gtS_i, geS_i, at_0, at_1, at_2, set_0, set_1, cut_old, cut_all, len_1, len_2, app_app, set_set, set_len, retS_d, retS_n, retS_m, retS_x, list_l, list_s, seq_t, seq_k, atI_0, atI_1, atI_2, cLen_t, cLen_l, cLen_z, cInt_i, cInt_b, cI1_i, cI2_i, eIsi_ap, eqS_i, neS_i, eqS_b, neS_b, eqS_p, isN_d, isBl_b, eSl_ap, pNone_ap, pSome_ap, kPt_i, slS_t, nRev_ap, eM1_ap, sSetI_ap, sPutD_ap, eNewT_ap, itOf_ap, itAny_ap, kIter_t, kIter_k, kIter_l, kEnum_l, kZip_l, turnK_some, turnS_ap, loop_nil, nLc_ap, nLcM_ap, tYes_ap, cut_set, cut_setold, eDc_ap, sRetRev_ap, List.set_cons_zero, List.set_cons_succ, List.getElem?_cons_zero, List.getElem?_cons_succ, Option.bind_some, List.length_cons, List.length_nil, lstK0, tupK0, lstK1, tupK1, lstK2, tupK2, lstK3, tupK3, lstK4, tupK4, lstK5, tupK5, List.cons_append, List.nil_append, wipeE, kIter_r hcell, set_tail, ← hT, lc, fin, len_tail, e2, show ((1 : Int) == 1) = true from rfl, kIter_r cell2, ← hT2, lc2, fin2]
    · rw [List.getElem?_append_right (Nat.le_refl _)]
      simp
  · have hr2 : (r == 1) = false := by rw [beq_eq_false_iff_ne]; exact hr
    refine ⟨[some (.r n), some (.d (.int b)), some (.d (.int many)), some (.d (.int way)), some (.r (st.length + T.length)), u5, some (.d (.int r)), u7, u8], st.set n (wellC a2 B c2) ++ (T ++ [Ce.lst ((P.map (flipP b)).map placeV)]), ?_, P.map (flipP b), a2, c2, _, T.length, u5, _, u7, u8, rfl, rfl, ?_, ok.flip, c0, by omega⟩
    · unfold c_x_law_kind_4
      simp only [bind_ok, bind_exc, sOf_ok, sOf_exc, sSeq_ap, seqK_nx, seqK_rt, seqK_bk, seqK_ct, seqK_exc, sNil_ap, sPass_ap, sBrk_ap, sCnt_ap, sRetN_ap, sRet_ap, kRet_d, kRet_r, kRet_n, kRet_m, nxK_ap, sExp_ap, ifK_t, ifK_f, sIf_ap, asK_some, kAsg_ap, sAsg_ap, gN_ap, gT_ap, gE_ap, gC_ap, kPar_ap, sPar_ap, setAll_cons, setAll_nil, forK_ap, sFor_ap, varK_some, eVar_ap, eC_ap, eBin_ap, nBin_ap, eNeg_ap, kNeg_i, aNil_ap, aCons_ap, toD_d, toDs_nil, toDs_cons, eTup_ap, nLst_ap, eCall_ap, eCallK_ap, eCB_ap, eIfK_t, eIfK_f, eIf_ap, tOfK_b, tOf_ap, andK_t, andK_f, orK_t, orK_f, tAndF_ap, tOrF_ap, notK_ap, tNotF_ap, eAndK_t, eAndK_f, eOrK_t, eOrK_f, eAnd_ap, eOr_ap, eNot_ap, kNot_b, eFrz_ap, eSto_ap, eFre_ap, eFreM_ap, eSet_ap, eAlc_ap, frozen_ok, stored_ok, storedM_ok, fresh_ok, freshM_ok, settle_d, settle_r, settle_w, settle_n, settle_m, settle_exc, allocS_d, allocS_r, allocS_n, allocS_m, addS_i, mulS_t1, mulS_t0, subS_i, ltS_i, leS_i, gtS_i, geS_i, at_0, at_1, at_2, set_0, set_1, cut_old, cut_all, len_1, len_2, app_app, set_set, set_len, retS_d, retS_n, retS_m, retS_x, list_l, list_s, seq_t, seq_k, atI_0, atI_1, atI_2, cLen_t, cLen_l, cLen_z, cInt_i, cInt_b, cI1_i, cI2_i, eIsi_ap, eqS_i, neS_i, eqS_b, neS_b, eqS_p, isN_d, isBl_b, eSl_ap, pNone_ap, pSome_ap, kPt_i, slS_t, nRev_ap, eM1_ap, sSetI_ap, sPutD_ap, eNewT_ap, itOf_ap, itAny_ap, kIter_t, kIter_k, kIter_l, kEnum_l, kZip_l, turnK_some, turnS_ap, loop_nil, nLc_ap, nLcM_ap, tYes_ap, cut_set, cut_setold, eDc_ap, sRetRev_ap, List.set_cons_zero, List.set_cons_succ, List.getElem?_cons_zero, List.getElem?_cons_succ, Option.bind_some, List.length_cons, List.length_nil, lstK0, tupK0, lstK1, tupK1, lstK2, tupK2, lstK3, tupK3, lstK4, tupK4, lstK5, tupK5, List.cons_append, List.nil_append, wipeE, kIter_r hcell, set_tail, ← hT, lc, fin, len_tail, e2, hr2]
    · rw [List.getElem?_append_right (Nat.le_refl _)]
      simp
def xyP (q : Nat × Nat × Nat) : Nat × Nat := (q.1, q.2.1)
theorem kind_end {st : Sto} {n : Nat} {a₀ c₀ B : Int} {b many way : Nat} {m : Int} (h : st[n]? = some (wellC a₀ B c₀)) (hB : BOk B) (hb : 2 ≤ b ∧ b ≤ 3) (hmany : 1 ≤ many ∧ many ≤ 1000) (hm : m < 999999000) {ρ : En} {st' : Sto} (p : KSt st n B b many way m ρ st') :
    ∃ (ks : List (Nat × Nat × Nat)) (a c : Int) (tl : Sto), (sSeq (sRet (eCB cTup (aCons (eFrz c_x_law_kind_1) aNil))) sNil) ρ st' = .rt (.d (.tup (ks.map partV))) (st.set n (wellC a B c) ++ tl) ∧ KindOk b many ks ∧ 0 ≤ c ∧ c ≤ m + 9 := by
  obtain ⟨P, a, c, tl, j, u5, u6, u7, u8, rfl, rfl, hj, ok, hc⟩ := p
  have hbb : b * b ≤ 9 := Nat.mul_le_mul hb.2 hb.2
  have hcell : (st.set n (wellC a B c) ++ tl)[st.length + j]? = some (Ce.lst (P.map placeV)) := by rw [at_tail]; exact hj
  obtain ⟨T, hT⟩ : ∃ T, T = tl.set j (Ce.frz (P.map placeV)) := ⟨_, rfl⟩
  obtain ⟨ks, st2, e, ⟨a2, c2, rfl, c0, c1⟩, hxy, hk⟩ := lc_rest (gt := gT (gC (gN 7) (gC (gN 8) gE))) (t := tYesF) (f := (eTup (aCons (eVar 7) (aCons (eVar 8) (aCons (eSet (eCall m_x_law_draw (aCons (eVar 0) (aCons (eVar 2) aNil)))) aNil)))))
    (ρ := [some (.r n), some (.d (.int b)), some (.d (.int many)), some (.d (.int way)), some (.r (st.length + j)), u5, u6, none, none]) (enc := placeV) (out := partV)
    (fun rest acc S => (∃ a c, S = st.set n (wellC a B c) ++ T ∧ 0 ≤ c ∧ c ≤ m + acc.length) ∧ acc.map xyP ++ rest = P ∧ ∀ q ∈ acc, q.2.2 < many)
    (fun q rest acc S ⟨⟨a, c, hS, h0, h1⟩, hxy, hk⟩ => by
      subst hS
      have hla : acc.length ≤ 9 := by
        have := congrArg List.length hxy
        rw [List.length_append, List.length_map, ok.len] at this
        omega
      obtain ⟨r, a2, c2, e2, r0, r1, c0, c1⟩ := draw_spec (many := many) (at_old (l := T) (at_set (c := wellC a B c) h)) hB (by omega) (by omega) (by omega)
      rw [set_old (at_set h), set_set] at e2
      obtain ⟨r, rfl⟩ : ∃ q : Nat, r = (q : Int) := ⟨r.toNat, by omega⟩
      refine ⟨_, (q.1, q.2, r), _, _, rfl, rfl, ?_, ⟨a2, c2, rfl, c0, ?_⟩, ?_, ?_⟩
      · simp only [bind_ok, bind_exc, sOf_ok, sOf_exc, sSeq_ap, seqK_nx, seqK_rt, seqK_bk, seqK_ct, seqK_exc, sNil_ap, sPass_ap, sBrk_ap, sCnt_ap, sRetN_ap, sRet_ap, kRet_d, kRet_r, kRet_n, kRet_m, nxK_ap, sExp_ap, ifK_t, ifK_f, sIf_ap, asK_some, kAsg_ap, sAsg_ap, gN_ap, gT_ap, gE_ap, gC_ap, kPar_ap, sPar_ap, setAll_cons, setAll_nil, forK_ap, sFor_ap, varK_some, eVar_ap, eC_ap, eBin_ap, nBin_ap, eNeg_ap, kNeg_i, aNil_ap, aCons_ap, toD_d, toDs_nil, toDs_cons, eTup_ap, nLst_ap, eCall_ap, eCallK_ap, eCB_ap, eIfK_t, eIfK_f, eIf_ap, tOfK_b, tOf_ap, andK_t, andK_f, orK_t, orK_f, tAndF_ap, tOrF_ap, notK_ap, tNotF_ap, eAndK_t, eAndK_f, eOrK_t, eOrK_f, eAnd_ap, eOr_ap, eNot_ap, kNot_b, eFrz_ap, eSto_ap, eFre_ap, eFreM_ap, eSet_ap, eAlc_ap, frozen_ok, stored_ok, storedM_ok, fresh_ok, freshM_ok, settle_d, settle_r, settle_w, settle_n, settle_m, settle_exc, allocS_d, allocS_r, allocS_n, allocS_m, addS_i, mulS_t1, mulS_t0, subS_i, ltS_i, leS_i, gtS_i, geS_i, at_0, at_1, at_2, set_0, set_1, cut_old, cut_all, len_1, len_2, app_app, set_set, set_len, retS_d, retS_n, retS_m, retS_x, list_l, list_s, seq_t, seq_k, atI_0, atI_1, atI_2, cLen_t, cLen_l, cLen_z, cInt_i, cInt_b, cI1_i, cI2_i, eIsi_ap, eqS_i, neS_i, eqS_b, neS_b, eqS_p, isN_d, isBl_b, eSl_ap, pNone_ap, pSome_ap, kPt_i, slS_t, nRev_ap, eM1_ap, sSetI_ap, sPutD_ap, eNewT_ap, itOf_ap, itAny_ap, kIter_t, kIter_k, kIter_l, kEnum_l, kZip_l, turnK_some, turnS_ap, loop_nil, nLc_ap, nLcM_ap, tYes_ap, cut_set, cut_setold, eDc_ap, sRetRev_ap, List.set_cons_zero, List.set_cons_succ, List.getElem?_cons_zero, List.getElem?_cons_succ, Option.bind_some, List.length_cons, List.length_nil, lstK0, tupK0, lstK1, tupK1, lstK2, tupK2, lstK3, tupK3, lstK4, tupK4, lstK5, tupK5, List.cons_append, List.nil_append, wipeE, placeV, e2]
        rfl
      · rw [List.length_append, List.length_cons, List.length_nil]; omega
      · rw [List.map_append, List.append_assoc, ← hxy]
        rfl
      · intro z hz
        rcases List.mem_append.mp hz with y | y
        · exact hk z y
        · rw [List.mem_singleton.mp y]
          exact Int.ofNat_lt.mp r1) P [] (st.set n (wellC a B c) ++ T) ⟨⟨a, c, rfl, hc.1, by simpa using hc.2⟩, rfl, fun _ h => by simp at h⟩ (by rw [List.length_nil, ok.len]; omega)
  rw [List.append_nil] at hxy
  have hlen : ks.length = b * b := by rw [← ok.len, ← hxy, List.length_map]
  refine ⟨ks, a2, c2, T, ?_, ⟨hlen, fun q hq => ?_, ?_⟩, c0, by rw [hlen] at c1; omega⟩
  · unfold c_x_law_kind_1
    rw [List.map_nil] at e
    simp only [bind_ok, bind_exc, sOf_ok, sOf_exc, sSeq_ap, seqK_nx, seqK_rt, seqK_bk, seqK_ct, seqK_exc, sNil_ap, sPass_ap, sBrk_ap, sCnt_ap, sRetN_ap, sRet_ap, kRet_d, kRet_r, kRet_n, kRet_m, nxK_ap, sExp_ap, ifK_t, ifK_f, sIf_ap, asK_some, kAsg_ap, sAsg_ap, gN_ap, gT_ap, gE_ap, gC_ap, kPar_ap, sPar_ap, setAll_cons, setAll_nil, forK_ap, sFor_ap, varK_some, eVar_ap, eC_ap, eBin_ap, nBin_ap, eNeg_ap, kNeg_i, aNil_ap, aCons_ap, toD_d, toDs_nil, toDs_cons, eTup_ap, nLst_ap, eCall_ap, eCallK_ap, eCB_ap, eIfK_t, eIfK_f, eIf_ap, tOfK_b, tOf_ap, andK_t, andK_f, orK_t, orK_f, tAndF_ap, tOrF_ap, notK_ap, tNotF_ap, eAndK_t, eAndK_f, eOrK_t, eOrK_f, eAnd_ap, eOr_ap, eNot_ap, kNot_b, eFrz_ap, eSto_ap, eFre_ap, eFreM_ap, eSet_ap, eAlc_ap, frozen_ok, stored_ok, storedM_ok, fresh_ok, freshM_ok, settle_d, settle_r, settle_w, settle_n, settle_m, settle_exc, allocS_d, allocS_r, allocS_n, allocS_m, addS_i, mulS_t1, mulS_t0, subS_i, ltS_i, leS_i, gtS_i, geS_i, at_0, at_1, at_2, set_0, set_1, cut_old, cut_all, len_1, len_2, app_app, set_set, set_len, retS_d, retS_n, retS_m, retS_x, list_l, list_s, seq_t, seq_k, atI_0, atI_1, atI_2, cLen_t, cLen_l, cLen_z, cInt_i, cInt_b, cI1_i, cI2_i, eIsi_ap, eqS_i, neS_i, eqS_b, neS_b, eqS_p, isN_d, isBl_b, eSl_ap, pNone_ap, pSome_ap, kPt_i, slS_t, nRev_ap, eM1_ap, sSetI_ap, sPutD_ap, eNewT_ap, itOf_ap, itAny_ap, kIter_t, kIter_k, kIter_l, kEnum_l, kZip_l, turnK_some, turnS_ap, loop_nil, nLc_ap, nLcM_ap, tYes_ap, cut_set, cut_setold, eDc_ap, sRetRev_ap, List.set_cons_zero, List.set_cons_succ, List.getElem?_cons_zero, List.getElem?_cons_succ, Option.bind_some, List.length_cons, List.length_nil, lstK0, tupK0, lstK1, tupK1, lstK2, tupK2, lstK3, tupK3, lstK4, tupK4, lstK5, tupK5, List.cons_append, List.nil_append, wipeE, kIter_r hcell, set_tail, ← hT, e, cTup_l list_l]
  · have := ok.lt (xyP q) (by rw [← hxy]; exact List.mem_map.mpr ⟨q, hq, rfl⟩)
    exact ⟨this.1, this.2, hk q hq⟩
  · show (ks.map xyP).Nodup
    rw [hxy]
    exact ok.nd
theorem kind_spec {st : Sto} {n : Nat} {a c B : Int} {b many : Nat} (h : st[n]? = some (wellC a B c)) (hB : BOk B) (hb : 2 ≤ b ∧ b ≤ 3) (hmany : 1 ≤ many ∧ many ≤ 1000) (hc : 0 ≤ c ∧ c < 999990000) :
    ∃ (ks : List (Nat × Nat × Nat)) (a' c' : Int), m_x_law_kind [.r n, .d (.int b), .d (.int many)] st = .ok (.d (.tup (ks.map partV))) (st.set n (wellC a' B c')) ∧ KindOk b many ks ∧ 0 ≤ c' ∧ c' ≤ c + 30 := by
  obtain ⟨r, a1, c1, e1, r0, r1, c10, c11⟩ := draw_spec (many := 4) h hB (by omega) (by decide) (by decide)
  obtain ⟨way, rfl⟩ : ∃ q : Nat, r = (q : Int) := ⟨r.toNat, by omega⟩
  have hbb : b * b ≤ 9 := Nat.mul_le_mul hb.2 hb.2
  have hcell : (st.set n (wellC a1 B c1) ++ [Ce.lst []])[st.length]? = some (Ce.lst []) := by
    have := at_tail (st := st) (n := n) (c := wellC a1 B c1) (l := [Ce.lst []]) (j := 0)
    rw [Nat.add_zero] at this
    rw [this]
    rfl
  obtain ⟨v, fill⟩ := kind_fill hb hcell (u0 := some (.r n)) (u2 := some (.d (.int many))) (u3 := some (.d (.int way))) (u5 := none) (u6 := none) (u7 := none) (u8 := none)
  have hset : (st.set n (wellC a1 B c1) ++ [Ce.lst []]).set st.length (Ce.lst ((rowP b).map placeV)) = st.set n (wellC a1 B c1) ++ [Ce.lst ((rowP b).map placeV)] := by
    have := set_tail (st := st) (n := n) (c := wellC a1 B c1) (l := [Ce.lst []]) (j := 0) (d := Ce.lst ((rowP b).map placeV))
    rw [Nat.add_zero] at this
    rw [this]
    rfl
  rw [hset] at fill
  have k0 : KSt st n B b many way (c + 1) [some (.r n), some (.d (.int b)), some (.d (.int many)), some (.d (.int way)), some (.r st.length), v, none, none, none] (st.set n (wellC a1 B c1) ++ [Ce.lst ((rowP b).map placeV)]) :=
    ⟨rowP b, a1, c1, _, 0, v, none, none, none, rfl, rfl, rfl, rowP_ok (by omega), c10, c11⟩
  have k1 : ∃ ρ' st2, (sIf (tOf (eBin ltS (eVar 3) (eC (.int 2)))) (sSeq (sAsg (eSto c_x_law_kind_5) (gN 4)) sNil) sNil) [some (.r n), some (.d (.int b)), some (.d (.int many)), some (.d (.int way)), some (.r st.length), v, none, none, none] (st.set n (wellC a1 B c1) ++ [Ce.lst ((rowP b).map placeV)]) = .nx ρ' st2 ∧ KSt st n B b many way (c + 10) ρ' st2 := by
    by_cases hw : (way : Int) < 2
    · obtain ⟨ρ', st2, e, k⟩ := kind_order h hB hb (by omega) k0
      refine ⟨ρ', st2, ?_, by rw [show c + 10 = c + 1 + 9 by omega]; exact k⟩
      rw [sIf_ap]
      simp only [tOf_ap, eBin_ap, eVar_ap, List.getElem?_cons_succ, List.getElem?_cons_zero, varK_some, bind_ok, eC_ap, ltS_i, tOfK_b, sOf_ok, decide_eq_true hw, ifK_t]
      exact e
    · exact ⟨_, _, by simp only [bind_ok, bind_exc, sOf_ok, sOf_exc, sSeq_ap, seqK_nx, seqK_rt, seqK_bk, seqK_ct, seqK_exc, sNil_ap, sPass_ap, sBrk_ap, sCnt_ap, sRetN_ap, sRet_ap, kRet_d, kRet_r, kRet_n, kRet_m, nxK_ap, sExp_ap, ifK_t, ifK_f, sIf_ap, asK_some, kAsg_ap, sAsg_ap, gN_ap, gT_ap, gE_ap, gC_ap, kPar_ap, sPar_ap, setAll_cons, setAll_nil, forK_ap, sFor_ap, varK_some, eVar_ap, eC_ap, eBin_ap, nBin_ap, eNeg_ap, kNeg_i, aNil_ap, aCons_ap, toD_d, toDs_nil, toDs_cons, eTup_ap, nLst_ap, eCall_ap, eCallK_ap, eCB_ap, eIfK_t, eIfK_f, eIf_ap, tOfK_b, tOf_ap, andK_t, andK_f, orK_t, orK_f, tAndF_ap, tOrF_ap, notK_ap, tNotF_ap, eAndK_t, eAndK_f, eOrK_t, eOrK_f, eAnd_ap, eOr_ap, eNot_ap, kNot_b, eFrz_ap, eSto_ap, eFre_ap, eFreM_ap, eSet_ap, eAlc_ap, frozen_ok, stored_ok, storedM_ok, fresh_ok, freshM_ok, settle_d, settle_r, settle_w, settle_n, settle_m, settle_exc, allocS_d, allocS_r, allocS_n, allocS_m, addS_i, mulS_t1, mulS_t0, subS_i, ltS_i, leS_i, gtS_i, geS_i, at_0, at_1, at_2, set_0, set_1, cut_old, cut_all, len_1, len_2, app_app, set_set, set_len, retS_d, retS_n, retS_m, retS_x, list_l, list_s, seq_t, seq_k, atI_0, atI_1, atI_2, cLen_t, cLen_l, cLen_z, cInt_i, cInt_b, cI1_i, cI2_i, eIsi_ap, eqS_i, neS_i, eqS_b, neS_b, eqS_p, isN_d, isBl_b, eSl_ap, pNone_ap, pSome_ap, kPt_i, slS_t, nRev_ap, eM1_ap, sSetI_ap, sPutD_ap, eNewT_ap, itOf_ap, itAny_ap, kIter_t, kIter_k, kIter_l, kEnum_l, kZip_l, turnK_some, turnS_ap, loop_nil, nLc_ap, nLcM_ap, tYes_ap, cut_set, cut_setold, eDc_ap, sRetRev_ap, List.set_cons_zero, List.set_cons_succ, List.getElem?_cons_zero, List.getElem?_cons_succ, Option.bind_some, List.length_cons, List.length_nil, lstK0, tupK0, lstK1, tupK1, lstK2, tupK2, lstK3, tupK3, lstK4, tupK4, lstK5, tupK5, List.cons_append, List.nil_append, wipeE, decide_eq_false hw], k0.mono (by omega)⟩
  obtain ⟨ρ1, st1, e2, k1⟩ := k1
  have k2 : ∃ ρ' st2, (sIf (tOf (eBin eqS (eVar 3) (eC (.int 2)))) (sSeq (sAsg (eSto c_x_law_kind_4) (gN 4)) (sSeq (sAsg (eSet (eCall m_x_law_draw (aCons (eVar 0) (aCons (eC (.int 2)) aNil)))) (gN 6)) (sSeq (sAsg (eAlc (eIf (tOf (eBin eqS (eVar 6) (eC (.int 1)))) (eFre c_x_law_kind_3) (eVar 4))) (gN 4)) sNil))) sNil) ρ1 st1 = .nx ρ' st2 ∧ KSt st n B b many way (c + 11) ρ' st2 := by
    have way1 : ∃ u0 u1 u2 u4 u5 u6 u7 u8, ρ1 = [u0, u1, u2, some (.d (.int way)), u4, u5, u6, u7, u8] := by
      obtain ⟨P, a, c, tl, j, u5, u6, u7, u8, hρ, _⟩ := k1
      exact ⟨_, _, _, _, _, _, _, _, hρ⟩
    obtain ⟨u0, u1, u2, u4, u5, u6, u7, u8, hρ⟩ := way1
    by_cases hw : (way : Int) = 2
    · obtain ⟨ρ', st2, e, k⟩ := kind_flip h hB hb (by omega) k1
      refine ⟨ρ', st2, ?_, by rw [show c + 11 = c + 10 + 1 by omega]; exact k⟩
      rw [sIf_ap]
      have et : (tOf (eBin eqS (eVar 3) (eC (.int 2)))) ρ1 st1 = .ok true st1 := by
        rw [hρ]
        simp only [bind_ok, bind_exc, sOf_ok, sOf_exc, sSeq_ap, seqK_nx, seqK_rt, seqK_bk, seqK_ct, seqK_exc, sNil_ap, sPass_ap, sBrk_ap, sCnt_ap, sRetN_ap, sRet_ap, kRet_d, kRet_r, kRet_n, kRet_m, nxK_ap, sExp_ap, ifK_t, ifK_f, sIf_ap, asK_some, kAsg_ap, sAsg_ap, gN_ap, gT_ap, gE_ap, gC_ap, kPar_ap, sPar_ap, setAll_cons, setAll_nil, forK_ap, sFor_ap, varK_some, eVar_ap, eC_ap, eBin_ap, nBin_ap, eNeg_ap, kNeg_i, aNil_ap, aCons_ap, toD_d, toDs_nil, toDs_cons, eTup_ap, nLst_ap, eCall_ap, eCallK_ap, eCB_ap, eIfK_t, eIfK_f, eIf_ap, tOfK_b, tOf_ap, andK_t, andK_f, orK_t, orK_f, tAndF_ap, tOrF_ap, notK_ap, tNotF_ap, eAndK_t, eAndK_f, eOrK_t, eOrK_f, eAnd_ap, eOr_ap, eNot_ap, kNot_b, eFrz_ap, eSto_ap, eFre_ap, eFreM_ap, eSet_ap, eAlc_ap, frozen_ok, stored_ok, storedM_ok, fresh_ok, freshM_ok, settle_d, settle_r, settle_w, settle_n, settle_m, settle_exc, allocS_d, allocS_r, allocS_n, allocS_m, addS_i, mulS_t1, mulS_t0, subS_i, ltS_i, leS_i, gtS_i, geS_i, at_0, at_1, at_2, set_0, set_1, cut_old, cut_all, len_1, len_2, app_app, set_set, set_len, retS_d, retS_n, retS_m, retS_x, list_l, list_s, seq_t, seq_k, atI_0, atI_1, atI_2, cLen_t, cLen_l, cLen_z, cInt_i, cInt_b, cI1_i, cI2_i, eIsi_ap, eqS_i, neS_i, eqS_b, neS_b, eqS_p, isN_d, isBl_b, eSl_ap, pNone_ap, pSome_ap, kPt_i, slS_t, nRev_ap, eM1_ap, sSetI_ap, sPutD_ap, eNewT_ap, itOf_ap, itAny_ap, kIter_t, kIter_k, kIter_l, kEnum_l, kZip_l, turnK_some, turnS_ap, loop_nil, nLc_ap, nLcM_ap, tYes_ap, cut_set, cut_setold, eDc_ap, sRetRev_ap, List.set_cons_zero, List.set_cons_succ, List.getElem?_cons_zero, List.getElem?_cons_succ, Option.bind_some, List.length_cons, List.length_nil, lstK0, tupK0, lstK1, tupK1, lstK2, tupK2, lstK3, tupK3, lstK4, tupK4, lstK5, tupK5, List.cons_append, List.nil_append, wipeE, show ((way : Int) == 2) = true by rw [beq_iff_eq]; exact hw]
      rw [et, sOf_ok, ifK_t]
      exact e
    · refine ⟨ρ1, st1, ?_, ?_⟩
      · rw [sIf_ap]
        have et : (tOf (eBin eqS (eVar 3) (eC (.int 2)))) ρ1 st1 = .ok false st1 := by
          rw [hρ]
          simp only [bind_ok, bind_exc, sOf_ok, sOf_exc, sSeq_ap, seqK_nx, seqK_rt, seqK_bk, seqK_ct, seqK_exc, sNil_ap, sPass_ap, sBrk_ap, sCnt_ap, sRetN_ap, sRet_ap, kRet_d, kRet_r, kRet_n, kRet_m, nxK_ap, sExp_ap, ifK_t, ifK_f, sIf_ap, asK_some, kAsg_ap, sAsg_ap, gN_ap, gT_ap, gE_ap, gC_ap, kPar_ap, sPar_ap, setAll_cons, setAll_nil, forK_ap, sFor_ap, varK_some, eVar_ap, eC_ap, eBin_ap, nBin_ap, eNeg_ap, kNeg_i, aNil_ap, aCons_ap, toD_d, toDs_nil, toDs_cons, eTup_ap, nLst_ap, eCall_ap, eCallK_ap, eCB_ap, eIfK_t, eIfK_f, eIf_ap, tOfK_b, tOf_ap, andK_t, andK_f, orK_t, orK_f, tAndF_ap, tOrF_ap, notK_ap, tNotF_ap, eAndK_t, eAndK_f, eOrK_t, eOrK_f, eAnd_ap, eOr_ap, eNot_ap, kNot_b, eFrz_ap, eSto_ap, eFre_ap, eFreM_ap, eSet_ap, eAlc_ap, frozen_ok, stored_ok, storedM_ok, fresh_ok, freshM_ok, settle_d, settle_r, settle_w, settle_n, settle_m, settle_exc, allocS_d, allocS_r, allocS_n, allocS_m, addS_i, mulS_t1, mulS_t0, subS_i, ltS_i, leS_i, gtS_i, geS_i, at_0, at_1, at_2, set_0, set_1, cut_old, cut_all, len_1, len_2, app_app, set_set, set_len, retS_d, retS_n, retS_m, retS_x, list_l, list_s, seq_t, seq_k, atI_0, atI_1, atI_2, cLen_t, cLen_l, cLen_z, cInt_i, cInt_b, cI1_i, cI2_i, eIsi_ap, eqS_i, neS_i, eqS_b, neS_b, eqS_p, isN_d, isBl_b, eSl_ap, pNone_ap, pSome_ap, kPt_i, slS_t, nRev_ap, eM1_ap, sSetI_ap, sPutD_ap, eNewT_ap, itOf_ap, itAny_ap, kIter_t, kIter_k, kIter_l, kEnum_l, kZip_l, turnK_some, turnS_ap, loop_nil, nLc_ap, nLcM_ap, tYes_ap, cut_set, cut_setold, eDc_ap, sRetRev_ap, List.set_cons_zero, List.set_cons_succ, List.getElem?_cons_zero, List.getElem?_cons_succ, Option.bind_some, List.length_cons, List.length_nil, lstK0, tupK0, lstK1, tupK1, lstK2, tupK2, lstK3, tupK3, lstK4, tupK4, lstK5, tupK5, List.cons_append, List.nil_append, wipeE, show ((way : Int) == 2) = false by rw [beq_eq_false_iff_ne]; exact hw]
        rw [et, sOf_ok, ifK_f, sNil_ap]
      · obtain ⟨P, a, c, tl, j, u5, u6, u7, u8, h1, h2, h3, h4, h5, h6⟩ := k1
        exact ⟨P, a, c, tl, j, u5, u6, u7, u8, h1, h2, h3, h4, h5, by omega⟩
  obtain ⟨ρ2, st2, e3, k2⟩ := k2
  obtain ⟨ks, a', c', tl, e4, ok, c0, c2⟩ := kind_end h hB hb hmany (by omega) k2
  refine ⟨ks, a', c', ?_, ok, c0, by omega⟩
  unfold m_x_law_kind
  rw [fnS_ap]
  show retS st.length (b_x_law_kind [some (.r n), some (.d (.int b)), some (.d (.int many)), none, none, none, none, none, none] st) = _
  have e2' : kRg1 [.d (.int ((b * b : Nat) : Int))] (st.set n (wellC a1 B c1) ++ [Ce.lst []]) = .ok (rgD 0 1 (b * b)) (st.set n (wellC a1 B c1) ++ [Ce.lst []]) := kRg1_i (rgOk_of (by omega) (by omega))
  unfold b_x_law_kind
  simp only [sSeq_ap, sPar_ap, aCons_ap, eSet_ap, eCall_ap, eVar_ap, eC_ap, aNil_ap, eSto_ap, nLst_ap, toDs_nil, lstK0, stored_ok, bind_ok, sOf_ok, kPar_ap, setAll_cons, setAll_nil, asK_some, List.set_cons_zero, List.set_cons_succ, List.getElem?_cons_zero, List.getElem?_cons_succ, varK_some, e1, settle_d, set_len, seqK_nx, sFor_ap, itOf_ap, eBin_ap, mulc_l (show (b : Int).natAbs < 2 ^ 60 by omega), show (b : Int) * (b : Int) = ((b * b : Nat) : Int) from (Int.natCast_mul b b).symm, e2', forK_ap, fill]
  rw [e2, seqK_nx, sSeq_ap, e3, seqK_nx, e4]
  simp only [bind_ok, bind_exc, sOf_ok, sOf_exc, sSeq_ap, seqK_nx, seqK_rt, seqK_bk, seqK_ct, seqK_exc, sNil_ap, sPass_ap, sBrk_ap, sCnt_ap, sRetN_ap, sRet_ap, kRet_d, kRet_r, kRet_n, kRet_m, nxK_ap, sExp_ap, ifK_t, ifK_f, sIf_ap, asK_some, kAsg_ap, sAsg_ap, gN_ap, gT_ap, gE_ap, gC_ap, kPar_ap, sPar_ap, setAll_cons, setAll_nil, forK_ap, sFor_ap, varK_some, eVar_ap, eC_ap, eBin_ap, nBin_ap, eNeg_ap, kNeg_i, aNil_ap, aCons_ap, toD_d, toDs_nil, toDs_cons, eTup_ap, nLst_ap, eCall_ap, eCallK_ap, eCB_ap, eIfK_t, eIfK_f, eIf_ap, tOfK_b, tOf_ap, andK_t, andK_f, orK_t, orK_f, tAndF_ap, tOrF_ap, notK_ap, tNotF_ap, eAndK_t, eAndK_f, eOrK_t, eOrK_f, eAnd_ap, eOr_ap, eNot_ap, kNot_b, eFrz_ap, eSto_ap, eFre_ap, eFreM_ap, eSet_ap, eAlc_ap, frozen_ok, stored_ok, storedM_ok, fresh_ok, freshM_ok, settle_d, settle_r, settle_w, settle_n, settle_m, settle_exc, allocS_d, allocS_r, allocS_n, allocS_m, addS_i, mulS_t1, mulS_t0, subS_i, ltS_i, leS_i, gtS_i, geS_i, at_0, at_1, at_2, set_0, set_1, cut_old, cut_all, len_1, len_2, app_app, set_set, set_len, retS_d, retS_n, retS_m, retS_x, list_l, list_s, seq_t, seq_k, atI_0, atI_1, atI_2, cLen_t, cLen_l, cLen_z, cInt_i, cInt_b, cI1_i, cI2_i, eIsi_ap, eqS_i, neS_i, eqS_b, neS_b, eqS_p, isN_d, isBl_b, eSl_ap, pNone_ap, pSome_ap, kPt_i, slS_t, nRev_ap, eM1_ap, sSetI_ap, sPutD_ap, eNewT_ap, itOf_ap, itAny_ap, kIter_t, kIter_k, kIter_l, kEnum_l, kZip_l, turnK_some, turnS_ap, loop_nil, nLc_ap, nLcM_ap, tYes_ap, cut_set, cut_setold, eDc_ap, sRetRev_ap, List.set_cons_zero, List.set_cons_succ, List.getElem?_cons_zero, List.getElem?_cons_succ, Option.bind_some, List.length_cons, List.length_nil, lstK0, tupK0, lstK1, tupK1, lstK2, tupK2, lstK3, tupK3, lstK4, tupK4, lstK5, tupK5, List.cons_append, List.nil_append, wipeE]
end K42

namespace K42
open PySem PySem.Spec PyProof.Rows L2 F
abbrev Kinds := List (List (Nat × Nat × Nat))
def kindV (ks : List (Nat × Nat × Nat)) : Vl := .tup (ks.map partV)
def bookV (b : Nat) (kk : Kinds) : Vl := .tup [.int b, .tup (kk.map kindV)]
structure BookOk (b : Nat) (kk : Kinds) : Prop where
  b2 : 2 ≤ b ∧ b ≤ 3
  len : 1 ≤ kk.length ∧ kk.length ≤ 20
  ok : ∀ ks ∈ kk, KindOk b kk.length ks
theorem book_spec {st : Sto} {n : Nat} {a c B : Int} {most : Nat} (h : st[n]? = some (wellC a B c)) (hB : BOk B) (hm : 1 ≤ most ∧ most ≤ 20) (hc : 0 ≤ c ∧ c < 900000000) :
    ∃ (b : Nat) (kk : Kinds) (a' c' : Int), m_x_law_book [.r n, .d (.int most)] st = .ok (.d (bookV b kk)) (st.set n (wellC a' B c')) ∧ BookOk b kk ∧ 0 ≤ c' ∧ c' ≤ c + 1000 := by
  obtain ⟨r1, a1, c1, e1, r10, r11, c10, c11⟩ := draw_spec (many := 2) h hB (by omega) (by decide) (by decide)
  obtain ⟨r2, a2, c2, e2, r20, r21, c20, c21⟩ := draw_spec (many := most) (at_set (c := wellC a1 B c1) h) hB (by omega) (by omega) (by omega)
  rw [set_set] at e2
  obtain ⟨b, hb⟩ : ∃ b : Nat, 2 + r1 = (b : Int) := ⟨(2 + r1).toNat, by omega⟩
  obtain ⟨many, hmany⟩ : ∃ many : Nat, 1 + r2 = (many : Int) := ⟨(1 + r2).toNat, by omega⟩
  have hb2 : 2 ≤ b ∧ b ≤ 3 := by omega
  have hm2 : 1 ≤ many ∧ many ≤ 20 := by omega
  obtain ⟨kk, st', e, ⟨a3, c3, rfl, c30, c31⟩, hlen, hok⟩ := lc_rest (gt := gN 4) (t := tYesF) (f := eSet (eCall m_x_law_kind (aCons (eVar 0) (aCons (eVar 2) (aCons (eVar 3) aNil))))) (ρ := [some (.r n), some (.d (.int most)), some (.d (.int b)), some (.d (.int many)), none]) (enc := natV) (out := kindV)
    (fun (rest : List Nat) (acc : Kinds) S => (∃ a c, S = st.set n (wellC a B c) ∧ 0 ≤ c ∧ c ≤ c2 + 30 * acc.length) ∧ acc.length + rest.length = many ∧ ∀ ks ∈ acc, KindOk b many ks)
    (fun x rest acc S ⟨⟨a, c, hS, h0, h1⟩, hl, hk⟩ => by
      subst hS
      rw [List.length_cons] at hl
      obtain ⟨ks, a4, c4, e4, ok4, c40, c41⟩ := kind_spec (many := many) (b := b) (at_set (c := wellC a B c) h) hB hb2 (by omega) (by omega)
      rw [set_set] at e4
      refine ⟨_, ks, _, _, rfl, rfl, ?_, ⟨a4, c4, rfl, c40, ?_⟩, ?_, ?_⟩
      · simp only [bind_ok, bind_exc, sOf_ok, sOf_exc, sSeq_ap, seqK_nx, seqK_rt, seqK_bk, seqK_ct, seqK_exc, sNil_ap, sPass_ap, sBrk_ap, sCnt_ap, sRetN_ap, sRet_ap, kRet_d, kRet_r, kRet_n, kRet_m, nxK_ap, sExp_ap, ifK_t, ifK_f, sIf_ap, asK_some, kAsg_ap, sAsg_ap, gN_ap, gT_ap, gE_ap, gC_ap, kPar_ap, sPar_ap, setAll_cons, setAll_nil, forK_ap, sFor_ap, varK_some, eVar_ap, eC_ap, eBin_ap, nBin_ap, eNeg_ap, kNeg_i, aNil_ap, aCons_ap, toD_d, toDs_nil, toDs_cons, eTup_ap, nLst_ap, eCall_ap, eCallK_ap, eCB_ap, eIfK_t, eIfK_f, eIf_ap, tOfK_b, tOf_ap, andK_t, andK_f, orK_t, orK_f, tAndF_ap, tOrF_ap, notK_ap, tNotF_ap, eAndK_t, eAndK_f, eOrK_t, eOrK_f, eAnd_ap, eOr_ap, eNot_ap, kNot_b, eFrz_ap, eSto_ap, eFre_ap, eFreM_ap, eSet_ap, eAlc_ap, frozen_ok, stored_ok, storedM_ok, fresh_ok, freshM_ok, settle_d, settle_r, settle_w, settle_n, settle_m, settle_exc, allocS_d, allocS_r, allocS_n, allocS_m, addS_i, mulS_t1, mulS_t0, subS_i, ltS_i, leS_i, gtS_i, geS_i, at_0, at_1, at_2, set_0, set_1, cut_old, cut_all, len_1, len_2, app_app, set_set, set_len, retS_d, retS_n, retS_m, retS_x, list_l, list_s, seq_t, seq_k, atI_0, atI_1, atI_2, cLen_t, cLen_l, cLen_z, cInt_i, cInt_b, cI1_i, cI2_i, eIsi_ap, eqS_i, neS_i, eqS_b, neS_b, eqS_p, isN_d, isBl_b, eSl_ap, pNone_ap, pSome_ap, kPt_i, slS_t, nRev_ap, eM1_ap, sSetI_ap, sPutD_ap, eNewT_ap, itOf_ap, itAny_ap, kIter_t, kIter_k, kIter_l, kEnum_l, kZip_l, turnK_some, turnS_ap, loop_nil, nLc_ap, nLcM_ap, tYes_ap, cut_set, cut_setold, eDc_ap, sRetRev_ap, List.set_cons_zero, List.set_cons_succ, List.getElem?_cons_zero, List.getElem?_cons_succ, Option.bind_some, List.length_cons, List.length_nil, lstK0, tupK0, lstK1, tupK1, lstK2, tupK2, lstK3, tupK3, lstK4, tupK4, lstK5, tupK5, List.cons_append, List.nil_append, wipeE, e4]
        rfl
      · rw [List.length_append, List.length_cons, List.length_nil]; omega
      · rw [List.length_append, List.length_cons, List.length_nil]; omega
      · intro z hz
        rcases List.mem_append.mp hz with y | y
        · exact hk z y
        · rw [List.mem_singleton.mp y]
          exact ok4) (List.range many) [] (st.set n (wellC a2 B c2)) ⟨⟨a2, c2, rfl, c20, by simp⟩, by rw [List.length_range]; simp, fun _ h => by simp at h⟩ (by rw [List.length_nil, List.length_range]; omega)
  rw [List.length_nil, Nat.add_zero] at hlen
  refine ⟨b, kk, a3, c3, ?_, ⟨hb2, by omega, fun ks hk => by rw [hlen]; exact hok ks hk⟩, c30, by omega⟩
  unfold m_x_law_book
  rw [fnS_ap]
  show retS st.length (b_x_law_book [some (.r n), some (.d (.int most)), none, none, none] st) = _
  unfold b_x_law_book c_x_law_book_1
  rw [List.map_nil, ← rgD_nat] at e
  simp only [bind_ok, bind_exc, sOf_ok, sOf_exc, sSeq_ap, seqK_nx, seqK_rt, seqK_bk, seqK_ct, seqK_exc, sNil_ap, sPass_ap, sBrk_ap, sCnt_ap, sRetN_ap, sRet_ap, kRet_d, kRet_r, kRet_n, kRet_m, nxK_ap, sExp_ap, ifK_t, ifK_f, sIf_ap, asK_some, kAsg_ap, sAsg_ap, gN_ap, gT_ap, gE_ap, gC_ap, kPar_ap, sPar_ap, setAll_cons, setAll_nil, forK_ap, sFor_ap, varK_some, eVar_ap, eC_ap, eBin_ap, nBin_ap, eNeg_ap, kNeg_i, aNil_ap, aCons_ap, toD_d, toDs_nil, toDs_cons, eTup_ap, nLst_ap, eCall_ap, eCallK_ap, eCB_ap, eIfK_t, eIfK_f, eIf_ap, tOfK_b, tOf_ap, andK_t, andK_f, orK_t, orK_f, tAndF_ap, tOrF_ap, notK_ap, tNotF_ap, eAndK_t, eAndK_f, eOrK_t, eOrK_f, eAnd_ap, eOr_ap, eNot_ap, kNot_b, eFrz_ap, eSto_ap, eFre_ap, eFreM_ap, eSet_ap, eAlc_ap, frozen_ok, stored_ok, storedM_ok, fresh_ok, freshM_ok, settle_d, settle_r, settle_w, settle_n, settle_m, settle_exc, allocS_d, allocS_r, allocS_n, allocS_m, addS_i, mulS_t1, mulS_t0, subS_i, ltS_i, leS_i, gtS_i, geS_i, at_0, at_1, at_2, set_0, set_1, cut_old, cut_all, len_1, len_2, app_app, set_set, set_len, retS_d, retS_n, retS_m, retS_x, list_l, list_s, seq_t, seq_k, atI_0, atI_1, atI_2, cLen_t, cLen_l, cLen_z, cInt_i, cInt_b, cI1_i, cI2_i, eIsi_ap, eqS_i, neS_i, eqS_b, neS_b, eqS_p, isN_d, isBl_b, eSl_ap, pNone_ap, pSome_ap, kPt_i, slS_t, nRev_ap, eM1_ap, sSetI_ap, sPutD_ap, eNewT_ap, itOf_ap, itAny_ap, kIter_t, kIter_k, kIter_l, kEnum_l, kZip_l, turnK_some, turnS_ap, loop_nil, nLc_ap, nLcM_ap, tYes_ap, cut_set, cut_setold, eDc_ap, sRetRev_ap, List.set_cons_zero, List.set_cons_succ, List.getElem?_cons_zero, List.getElem?_cons_succ, Option.bind_some, List.length_cons, List.length_nil, lstK0, tupK0, lstK1, tupK1, lstK2, tupK2, lstK3, tupK3, lstK4, tupK4, lstK5, tupK5, List.cons_append, List.nil_append, wipeE, e1, e2, hb, hmany, kRg1_i (rgOk_of (show -4611686018427387904 ≤ (many : Int) by omega) (by omega)), Int.toNat_natCast, e, cTup_l list_l, bookV]
end K42

namespace K42
open PySem PySem.Spec PyProof.Rows L2 F
theorem isi_int {i : Int} {st : Sto} : isiK "int" (.d (.int i)) st = .ok (.d (.bl true)) st := isiK_of (A := "int") rfl (by decide +kernel)
theorem isi_intb {i : Int} {st : Sto} : isiK "bool" (.d (.int i)) st = .ok (.d (.bl false)) st := isiK_of (A := "int") rfl (by decide +kernel)
theorem isi_tup {ds : List Vl} {st : Sto} : isiK "tuple" (.d (.tup ds)) st = .ok (.d (.bl true)) st := isiK_of (A := "tuple") rfl (by decide +kernel)
theorem is_integer_spec {i : Int} {st : Sto} : m_is_integer [.d (.int i)] st = .ok (.d (.bl true)) st := by
  unfold m_is_integer
  rw [fnS_ap]
  show retS st.length (b_is_integer [some (.d (.int i))] st) = _
  unfold b_is_integer
  simp only [bind_ok, bind_exc, sOf_ok, sOf_exc, sSeq_ap, seqK_nx, seqK_rt, seqK_bk, seqK_ct, seqK_exc, sNil_ap, sPass_ap, sBrk_ap, sCnt_ap, sRetN_ap, sRet_ap, kRet_d, kRet_r, kRet_n, kRet_m, nxK_ap, sExp_ap, ifK_t, ifK_f, sIf_ap, asK_some, kAsg_ap, sAsg_ap, gN_ap, gT_ap, gE_ap, gC_ap, kPar_ap, sPar_ap, setAll_cons, setAll_nil, forK_ap, sFor_ap, varK_some, eVar_ap, eC_ap, eBin_ap, nBin_ap, eNeg_ap, kNeg_i, aNil_ap, aCons_ap, toD_d, toDs_nil, toDs_cons, eTup_ap, nLst_ap, eCall_ap, eCallK_ap, eCB_ap, eIfK_t, eIfK_f, eIf_ap, tOfK_b, tOf_ap, andK_t, andK_f, orK_t, orK_f, tAndF_ap, tOrF_ap, notK_ap, tNotF_ap, eAndK_t, eAndK_f, eOrK_t, eOrK_f, eAnd_ap, eOr_ap, eNot_ap, kNot_b, eFrz_ap, eSto_ap, eFre_ap, eFreM_ap, eSet_ap, eAlc_ap, frozen_ok, stored_ok, storedM_ok, fresh_ok, freshM_ok, settle_d, settle_r, settle_w, settle_n, settle_m, settle_exc, allocS_d, allocS_r, allocS_n, allocS_m, addS_i, mulS_t1, mulS_t0, subS_i, ltS_i, leS_i, gtS_i, geS_i, at_0, at_1, at_2, set_0, set_1, cut_old, cut_all, len_1, len_2, app_app, set_set, set_len, retS_d, retS_n, retS_m, retS_x, list_l, list_s, seq_t, seq_k, atI_0, atI_1, atI_2, cLen_t, cLen_l, cLen_z, cInt_i, cInt_b, cI1_i, cI2_i, eIsi_ap, eqS_i, neS_i, eqS_b, neS_b, eqS_p, isN_d, isBl_b, eSl_ap, pNone_ap, pSome_ap, kPt_i, slS_t, nRev_ap, eM1_ap, sSetI_ap, sPutD_ap, eNewT_ap, itOf_ap, itAny_ap, kIter_t, kIter_k, kIter_l, kEnum_l, kZip_l, turnK_some, turnS_ap, loop_nil, nLc_ap, nLcM_ap, tYes_ap, cut_set, cut_setold, eDc_ap, sRetRev_ap, List.set_cons_zero, List.set_cons_succ, List.getElem?_cons_zero, List.getElem?_cons_succ, Option.bind_some, List.length_cons, List.length_nil, lstK0, tupK0, lstK1, tupK1, lstK2, tupK2, lstK3, tupK3, lstK4, tupK4, lstK5, tupK5, List.cons_append, List.nil_append, wipeE, isi_int, isi_intb, Bool.not_false]
theorem is_natural_spec {i : Nat} {st : Sto} : m_is_natural [.d (.int i)] st = .ok (.d (.bl true)) st := by
  unfold m_is_natural
  rw [fnS_ap]
  show retS st.length (b_is_natural [some (.d (.int i))] st) = _
  unfold b_is_natural
  simp only [bind_ok, bind_exc, sOf_ok, sOf_exc, sSeq_ap, seqK_nx, seqK_rt, seqK_bk, seqK_ct, seqK_exc, sNil_ap, sPass_ap, sBrk_ap, sCnt_ap, sRetN_ap, sRet_ap, kRet_d, kRet_r, kRet_n, kRet_m, nxK_ap, sExp_ap, ifK_t, ifK_f, sIf_ap, asK_some, kAsg_ap, sAsg_ap, gN_ap, gT_ap, gE_ap, gC_ap, kPar_ap, sPar_ap, setAll_cons, setAll_nil, forK_ap, sFor_ap, varK_some, eVar_ap, eC_ap, eBin_ap, nBin_ap, eNeg_ap, kNeg_i, aNil_ap, aCons_ap, toD_d, toDs_nil, toDs_cons, eTup_ap, nLst_ap, eCall_ap, eCallK_ap, eCB_ap, eIfK_t, eIfK_f, eIf_ap, tOfK_b, tOf_ap, andK_t, andK_f, orK_t, orK_f, tAndF_ap, tOrF_ap, notK_ap, tNotF_ap, eAndK_t, eAndK_f, eOrK_t, eOrK_f, eAnd_ap, eOr_ap, eNot_ap, kNot_b, eFrz_ap, eSto_ap, eFre_ap, eFreM_ap, eSet_ap, eAlc_ap, frozen_ok, stored_ok, storedM_ok, fresh_ok, freshM_ok, settle_d, settle_r, settle_w, settle_n, settle_m, settle_exc, allocS_d, allocS_r, allocS_n, allocS_m, addS_i, mulS_t1, mulS_t0, subS_i, ltS_i, leS_i, gtS_i, geS_i, at_0, at_1, at_2, set_0, set_1, cut_old, cut_all, len_1, len_2, app_app, set_set, set_len, retS_d, retS_n, retS_m, retS_x, list_l, list_s, seq_t, seq_k, atI_0, atI_1, atI_2, cLen_t, cLen_l, cLen_z, cInt_i, cInt_b, cI1_i, cI2_i, eIsi_ap, eqS_i, neS_i, eqS_b, neS_b, eqS_p, isN_d, isBl_b, eSl_ap, pNone_ap, pSome_ap, kPt_i, slS_t, nRev_ap, eM1_ap, sSetI_ap, sPutD_ap, eNewT_ap, itOf_ap, itAny_ap, kIter_t, kIter_k, kIter_l, kEnum_l, kZip_l, turnK_some, turnS_ap, loop_nil, nLc_ap, nLcM_ap, tYes_ap, cut_set, cut_setold, eDc_ap, sRetRev_ap, List.set_cons_zero, List.set_cons_succ, List.getElem?_cons_zero, List.getElem?_cons_succ, Option.bind_some, List.length_cons, List.length_nil, lstK0, tupK0, lstK1, tupK1, lstK2, tupK2, lstK3, tupK3, lstK4, tupK4, lstK5, tupK5, List.cons_append, List.nil_append, wipeE, is_integer_spec, decide_eq_true (Int.natCast_nonneg i)]
theorem is_below_spec {i m : Nat} {st : Sto} (h : i < m) : m_is_below [.d (.int i), .d (.int m)] st = .ok (.d (.bl true)) st := by
  unfold m_is_below
  rw [fnS_ap]
  show retS st.length (b_is_below [some (.d (.int i)), some (.d (.int m))] st) = _
  unfold b_is_below
  simp only [bind_ok, bind_exc, sOf_ok, sOf_exc, sSeq_ap, seqK_nx, seqK_rt, seqK_bk, seqK_ct, seqK_exc, sNil_ap, sPass_ap, sBrk_ap, sCnt_ap, sRetN_ap, sRet_ap, kRet_d, kRet_r, kRet_n, kRet_m, nxK_ap, sExp_ap, ifK_t, ifK_f, sIf_ap, asK_some, kAsg_ap, sAsg_ap, gN_ap, gT_ap, gE_ap, gC_ap, kPar_ap, sPar_ap, setAll_cons, setAll_nil, forK_ap, sFor_ap, varK_some, eVar_ap, eC_ap, eBin_ap, nBin_ap, eNeg_ap, kNeg_i, aNil_ap, aCons_ap, toD_d, toDs_nil, toDs_cons, eTup_ap, nLst_ap, eCall_ap, eCallK_ap, eCB_ap, eIfK_t, eIfK_f, eIf_ap, tOfK_b, tOf_ap, andK_t, andK_f, orK_t, orK_f, tAndF_ap, tOrF_ap, notK_ap, tNotF_ap, eAndK_t, eAndK_f, eOrK_t, eOrK_f, eAnd_ap, eOr_ap, eNot_ap, kNot_b, eFrz_ap, eSto_ap, eFre_ap, eFreM_ap, eSet_ap, eAlc_ap, frozen_ok, stored_ok, storedM_ok, fresh_ok, freshM_ok, settle_d, settle_r, settle_w, settle_n, settle_m, settle_exc, allocS_d, allocS_r, allocS_n, allocS_m, addS_i, mulS_t1, mulS_t0, subS_i, ltS_i, leS_i, gtS_i, geS_i, at_0, at_1, at_2, set_0, set_1, cut_old, cut_all, len_1, len_2, app_app, set_set, set_len, retS_d, retS_n, retS_m, retS_x, list_l, list_s, seq_t, seq_k, atI_0, atI_1, atI_2, cLen_t, cLen_l, cLen_z, cInt_i, cInt_b, cI1_i, cI2_i, eIsi_ap, eqS_i, neS_i, eqS_b, neS_b, eqS_p, isN_d, isBl_b, eSl_ap, pNone_ap, pSome_ap, kPt_i, slS_t, nRev_ap, eM1_ap, sSetI_ap, sPutD_ap, eNewT_ap, itOf_ap, itAny_ap, kIter_t, kIter_k, kIter_l, kEnum_l, kZip_l, turnK_some, turnS_ap, loop_nil, nLc_ap, nLcM_ap, tYes_ap, cut_set, cut_setold, eDc_ap, sRetRev_ap, List.set_cons_zero, List.set_cons_succ, List.getElem?_cons_zero, List.getElem?_cons_succ, Option.bind_some, List.length_cons, List.length_nil, lstK0, tupK0, lstK1, tupK1, lstK2, tupK2, lstK3, tupK3, lstK4, tupK4, lstK5, tupK5, List.cons_append, List.nil_append, wipeE, is_natural_spec, decide_eq_true (Int.ofNat_lt.mpr h)]
theorem is_part_spec {b many : Nat} {q : Nat × Nat × Nat} {st : Sto} (h : q.1 < b ∧ q.2.1 < b ∧ q.2.2 < many) : m_is_part [.d (.int b), .d (.int many), .d (partV q)] st = .ok (.d (.bl true)) st := by
  unfold m_is_part
  rw [fnS_ap]
  show retS st.length (b_is_part [some (.d (.int b)), some (.d (.int many)), some (.d (.tup [.int q.1, .int q.2.1, .int q.2.2]))] st) = _
  unfold b_is_part
  simp only [bind_ok, bind_exc, sOf_ok, sOf_exc, sSeq_ap, seqK_nx, seqK_rt, seqK_bk, seqK_ct, seqK_exc, sNil_ap, sPass_ap, sBrk_ap, sCnt_ap, sRetN_ap, sRet_ap, kRet_d, kRet_r, kRet_n, kRet_m, nxK_ap, sExp_ap, ifK_t, ifK_f, sIf_ap, asK_some, kAsg_ap, sAsg_ap, gN_ap, gT_ap, gE_ap, gC_ap, kPar_ap, sPar_ap, setAll_cons, setAll_nil, forK_ap, sFor_ap, varK_some, eVar_ap, eC_ap, eBin_ap, nBin_ap, eNeg_ap, kNeg_i, aNil_ap, aCons_ap, toD_d, toDs_nil, toDs_cons, eTup_ap, nLst_ap, eCall_ap, eCallK_ap, eCB_ap, eIfK_t, eIfK_f, eIf_ap, tOfK_b, tOf_ap, andK_t, andK_f, orK_t, orK_f, tAndF_ap, tOrF_ap, notK_ap, tNotF_ap, eAndK_t, eAndK_f, eOrK_t, eOrK_f, eAnd_ap, eOr_ap, eNot_ap, kNot_b, eFrz_ap, eSto_ap, eFre_ap, eFreM_ap, eSet_ap, eAlc_ap, frozen_ok, stored_ok, storedM_ok, fresh_ok, freshM_ok, settle_d, settle_r, settle_w, settle_n, settle_m, settle_exc, allocS_d, allocS_r, allocS_n, allocS_m, addS_i, mulS_t1, mulS_t0, subS_i, ltS_i, leS_i, gtS_i, geS_i, at_0, at_1, at_2, set_0, set_1, cut_old, cut_all, len_1, len_2, app_app, set_set, set_len, retS_d, retS_n, retS_m, retS_x, list_l, list_s, seq_t, seq_k, atI_0, atI_1, atI_2, cLen_t, cLen_l, cLen_z, cInt_i, cInt_b, cI1_i, cI2_i, eIsi_ap, eqS_i, neS_i, eqS_b, neS_b, eqS_p, isN_d, isBl_b, eSl_ap, pNone_ap, pSome_ap, kPt_i, slS_t, nRev_ap, eM1_ap, sSetI_ap, sPutD_ap, eNewT_ap, itOf_ap, itAny_ap, kIter_t, kIter_k, kIter_l, kEnum_l, kZip_l, turnK_some, turnS_ap, loop_nil, nLc_ap, nLcM_ap, tYes_ap, cut_set, cut_setold, eDc_ap, sRetRev_ap, List.set_cons_zero, List.set_cons_succ, List.getElem?_cons_zero, List.getElem?_cons_succ, Option.bind_some, List.length_cons, List.length_nil, lstK0, tupK0, lstK1, tupK1, lstK2, tupK2, lstK3, tupK3, lstK4, tupK4, lstK5, tupK5, List.cons_append, List.nil_append, wipeE, isi_tup, Bool.not_true, show (!(((0 + 1 + 1 + 1 : Nat) : Int) == 3)) = false from rfl, ixA_t atI_0, ixA_t atI_1, ixA_t atI_2, is_below_spec h.1, is_below_spec h.2.1, is_below_spec h.2.2]
theorem all_true : ∀ n : Nat, ((List.replicate n true).all id) = true
  | 0 => rfl
  | n + 1 => by rw [List.replicate_succ, List.all_cons, all_true n]; rfl
theorem map_true {α : Type} (xs : List α) : (xs.map fun _ => Vl.bl true) = (List.replicate xs.length true).map Vl.bl := by
  rw [List.map_replicate, List.map_const']
def xyK (q : Nat × Nat × Nat) : List Key := [.inl q.1, .inl q.2.1]
theorem is_kind_spec {b many : Nat} {ks : List (Nat × Nat × Nat)} {st : Sto} (ok : KindOk b many ks) (hb : 2 ≤ b ∧ b ≤ 3) : m_is_kind_of [.d (.int b), .d (.int many), .d (kindV ks)] st = .ok (.d (.bl true)) st := by
  have hbb : b * b ≤ 9 := Nat.mul_le_mul hb.2 hb.2
  have hl : ks.length ≤ 9 := by rw [ok.len]; exact hbb
  have lc := lc_mapf (st := st) (gt := gN 3) (t := tYesF) (f := eSet (eCall m_is_part (aCons (eVar 0) (aCons (eVar 1) (aCons (eVar 3) aNil))))) (ρ := [some (.d (.int b)), some (.d (.int many)), some (.d (.tup (ks.map partV))), none]) (enc := partV) (out := fun _ => .bl true) ks [] (by rw [List.length_nil]; omega) (fun q hq => by
    refine ⟨_, rfl, rfl, ?_⟩
    simp only [bind_ok, bind_exc, sOf_ok, sOf_exc, sSeq_ap, seqK_nx, seqK_rt, seqK_bk, seqK_ct, seqK_exc, sNil_ap, sPass_ap, sBrk_ap, sCnt_ap, sRetN_ap, sRet_ap, kRet_d, kRet_r, kRet_n, kRet_m, nxK_ap, sExp_ap, ifK_t, ifK_f, sIf_ap, asK_some, kAsg_ap, sAsg_ap, gN_ap, gT_ap, gE_ap, gC_ap, kPar_ap, sPar_ap, setAll_cons, setAll_nil, forK_ap, sFor_ap, varK_some, eVar_ap, eC_ap, eBin_ap, nBin_ap, eNeg_ap, kNeg_i, aNil_ap, aCons_ap, toD_d, toDs_nil, toDs_cons, eTup_ap, nLst_ap, eCall_ap, eCallK_ap, eCB_ap, eIfK_t, eIfK_f, eIf_ap, tOfK_b, tOf_ap, andK_t, andK_f, orK_t, orK_f, tAndF_ap, tOrF_ap, notK_ap, tNotF_ap, eAndK_t, eAndK_f, eOrK_t, eOrK_f, eAnd_ap, eOr_ap, eNot_ap, kNot_b, eFrz_ap, eSto_ap, eFre_ap, eFreM_ap, eSet_ap, eAlc_ap, frozen_ok, stored_ok, storedM_ok, fresh_ok, freshM_ok, settle_d, settle_r, settle_w, settle_n, settle_m, settle_exc, allocS_d, allocS_r, allocS_n, allocS_m, addS_i, mulS_t1, mulS_t0, subS_i, ltS_i, leS_i, gtS_i, geS_i, at_0, at_1, at_2, set_0, set_1, cut_old, cut_all, len_1, len_2, app_app, set_set, set_len, retS_d, retS_n, retS_m, retS_x, list_l, list_s, seq_t, seq_k, atI_0, atI_1, atI_2, cLen_t, cLen_l, cLen_z, cInt_i, cInt_b, cI1_i, cI2_i, eIsi_ap, eqS_i, neS_i, eqS_b, neS_b, eqS_p, isN_d, isBl_b, eSl_ap, pNone_ap, pSome_ap, kPt_i, slS_t, nRev_ap, eM1_ap, sSetI_ap, sPutD_ap, eNewT_ap, itOf_ap, itAny_ap, kIter_t, kIter_k, kIter_l, kEnum_l, kZip_l, turnK_some, turnS_ap, loop_nil, nLc_ap, nLcM_ap, tYes_ap, cut_set, cut_setold, eDc_ap, sRetRev_ap, List.set_cons_zero, List.set_cons_succ, List.getElem?_cons_zero, List.getElem?_cons_succ, Option.bind_some, List.length_cons, List.length_nil, lstK0, tupK0, lstK1, tupK1, lstK2, tupK2, lstK3, tupK3, lstK4, tupK4, lstK5, tupK5, List.cons_append, List.nil_append, wipeE, is_part_spec (ok.lt q hq)])
  rw [map_true] at lc
  have ca := cBls_l (h := fun bs => bs.all id) (st := st) (list_l (ds := (List.replicate ks.length true).map Vl.bl)) (bls_map _)
  rw [all_true] at ca
  have dc := dc_map (kk := kkT) (st := st) (gt := gN 3) (t := tYesF) (fk := eSet (eSl (eVar 3) pNone (pSome (eC (.int 2))))) (fv := eC (.bl true)) (ρ := [some (.d (.int b)), some (.d (.int many)), some (.d (.tup (ks.map partV))), none]) (enc := partV) (key := xyK) (kv := fun q => .tup [.int q.1, .int q.2.1]) (val := fun _ => .bl true) ks [] (by rw [List.length_nil]; omega) (by
      show (ks.map xyK).Nodup
      have e : ks.map xyK = (ks.map xyP).map fun p => ([.inl (p.1 : Int), .inl (p.2 : Int)] : List Key) := by rw [List.map_map]; rfl
      rw [e]
      refine nodup_on (fun p _ q _ h => ?_) ok.nd
      have h1 := List.cons.inj h
      have h2 := List.cons.inj h1.2
      have h3 := Sum.inl.inj h1.1
      have h4 := Sum.inl.inj h2.1
      exact Prod.ext (by omega) (by omega)) (fun _ => rfl) (fun q hq => by
    refine ⟨_, rfl, rfl, ?_, rfl⟩
    simp only [bind_ok, bind_exc, sOf_ok, sOf_exc, sSeq_ap, seqK_nx, seqK_rt, seqK_bk, seqK_ct, seqK_exc, sNil_ap, sPass_ap, sBrk_ap, sCnt_ap, sRetN_ap, sRet_ap, kRet_d, kRet_r, kRet_n, kRet_m, nxK_ap, sExp_ap, ifK_t, ifK_f, sIf_ap, asK_some, kAsg_ap, sAsg_ap, gN_ap, gT_ap, gE_ap, gC_ap, kPar_ap, sPar_ap, setAll_cons, setAll_nil, forK_ap, sFor_ap, varK_some, eVar_ap, eC_ap, eBin_ap, nBin_ap, eNeg_ap, kNeg_i, aNil_ap, aCons_ap, toD_d, toDs_nil, toDs_cons, eTup_ap, nLst_ap, eCall_ap, eCallK_ap, eCB_ap, eIfK_t, eIfK_f, eIf_ap, tOfK_b, tOf_ap, andK_t, andK_f, orK_t, orK_f, tAndF_ap, tOrF_ap, notK_ap, tNotF_ap, eAndK_t, eAndK_f, eOrK_t, eOrK_f, eAnd_ap, eOr_ap, eNot_ap, kNot_b, eFrz_ap, eSto_ap, eFre_ap, eFreM_ap, eSet_ap, eAlc_ap, frozen_ok, stored_ok, storedM_ok, fresh_ok, freshM_ok, settle_d, settle_r, settle_w, settle_n, settle_m, settle_exc, allocS_d, allocS_r, allocS_n, allocS_m, addS_i, mulS_t1, mulS_t0, subS_i, ltS_i, leS_i, gtS_i, geS_i, at_0, at_1, at_2, set_0, set_1, cut_old, cut_all, len_1, len_2, app_app, set_set, set_len, retS_d, retS_n, retS_m, retS_x, list_l, list_s, seq_t, seq_k, atI_0, atI_1, atI_2, cLen_t, cLen_l, cLen_z, cInt_i, cInt_b, cI1_i, cI2_i, eIsi_ap, eqS_i, neS_i, eqS_b, neS_b, eqS_p, isN_d, isBl_b, eSl_ap, pNone_ap, pSome_ap, kPt_i, slS_t, nRev_ap, eM1_ap, sSetI_ap, sPutD_ap, eNewT_ap, itOf_ap, itAny_ap, kIter_t, kIter_k, kIter_l, kEnum_l, kZip_l, turnK_some, turnS_ap, loop_nil, nLc_ap, nLcM_ap, tYes_ap, cut_set, cut_setold, eDc_ap, sRetRev_ap, List.set_cons_zero, List.set_cons_succ, List.getElem?_cons_zero, List.getElem?_cons_succ, Option.bind_some, List.length_cons, List.length_nil, lstK0, tupK0, lstK1, tupK1, lstK2, tupK2, lstK3, tupK3, lstK4, tupK4, lstK5, tupK5, List.cons_append, List.nil_append, wipeE, eSl_ap, partV, show cutD [Vl.int q.1, Vl.int q.2.1, Vl.int q.2.2] none (some 2) = [Vl.int q.1, Vl.int q.2.1] from rfl])
  have hmul : (b : Int) * (b : Int) = ((b * b : Nat) : Int) := (Int.natCast_mul b b).symm
  have ld := cLen_d (st := st ++ [Ce.dtp (ks.map fun q => (xyK q, Vl.bl true))]) (n := st.length) at_0
  rw [List.length_map, ok.len] at ld
  rw [ok.len] at ca lc
  unfold m_is_kind_of
  rw [fnS_ap]
  show retS st.length (b_is_kind_of [some (.d (.int b)), some (.d (.int many)), some (.d (.tup (ks.map partV))), none] st) = _
  unfold b_is_kind_of c_is_kind_of_1
  simp only [bind_ok, bind_exc, sOf_ok, sOf_exc, sSeq_ap, seqK_nx, seqK_rt, seqK_bk, seqK_ct, seqK_exc, sNil_ap, sPass_ap, sBrk_ap, sCnt_ap, sRetN_ap, sRet_ap, kRet_d, kRet_r, kRet_n, kRet_m, nxK_ap, sExp_ap, ifK_t, ifK_f, sIf_ap, asK_some, kAsg_ap, sAsg_ap, gN_ap, gT_ap, gE_ap, gC_ap, kPar_ap, sPar_ap, setAll_cons, setAll_nil, forK_ap, sFor_ap, varK_some, eVar_ap, eC_ap, eBin_ap, nBin_ap, eNeg_ap, kNeg_i, aNil_ap, aCons_ap, toD_d, toDs_nil, toDs_cons, eTup_ap, nLst_ap, eCall_ap, eCallK_ap, eCB_ap, eIfK_t, eIfK_f, eIf_ap, tOfK_b, tOf_ap, andK_t, andK_f, orK_t, orK_f, tAndF_ap, tOrF_ap, notK_ap, tNotF_ap, eAndK_t, eAndK_f, eOrK_t, eOrK_f, eAnd_ap, eOr_ap, eNot_ap, kNot_b, eFrz_ap, eSto_ap, eFre_ap, eFreM_ap, eSet_ap, eAlc_ap, frozen_ok, stored_ok, storedM_ok, fresh_ok, freshM_ok, settle_d, settle_r, settle_w, settle_n, settle_m, settle_exc, allocS_d, allocS_r, allocS_n, allocS_m, addS_i, mulS_t1, mulS_t0, subS_i, ltS_i, leS_i, gtS_i, geS_i, at_0, at_1, at_2, set_0, set_1, cut_old, cut_all, len_1, len_2, app_app, set_set, set_len, retS_d, retS_n, retS_m, retS_x, list_l, list_s, seq_t, seq_k, atI_0, atI_1, atI_2, cLen_t, cLen_l, cLen_z, cInt_i, cInt_b, cI1_i, cI2_i, eIsi_ap, eqS_i, neS_i, eqS_b, neS_b, eqS_p, isN_d, isBl_b, eSl_ap, pNone_ap, pSome_ap, kPt_i, slS_t, nRev_ap, eM1_ap, sSetI_ap, sPutD_ap, eNewT_ap, itOf_ap, itAny_ap, kIter_t, kIter_k, kIter_l, kEnum_l, kZip_l, turnK_some, turnS_ap, loop_nil, nLc_ap, nLcM_ap, tYes_ap, cut_set, cut_setold, eDc_ap, sRetRev_ap, List.set_cons_zero, List.set_cons_succ, List.getElem?_cons_zero, List.getElem?_cons_succ, Option.bind_some, List.length_cons, List.length_nil, lstK0, tupK0, lstK1, tupK1, lstK2, tupK2, lstK3, tupK3, lstK4, tupK4, lstK5, tupK5, List.cons_append, List.nil_append, wipeE, isi_tup, Bool.not_true, List.length_map, mulc_l (show (b : Int).natAbs < 2 ^ 60 by omega), hmul, ok.len, show (!(((b * b : Nat) : Int) == ((b * b : Nat) : Int))) = false by simp, lc, ca, dc, show kkT.ce = Ce.dtp from rfl, ld, show (((b * b : Nat) : Int) == ((b * b : Nat) : Int)) = true by simp]
theorem is_pair_spec {b : Nat} {kk : Kinds} {st : Sto} : m_is_pair [.d (bookV b kk)] st = .ok (.d (.bl true)) st := by
  unfold m_is_pair
  rw [fnS_ap]
  show retS st.length (b_is_pair [some (.d (.tup [.int b, .tup (kk.map kindV)]))] st) = _
  unfold b_is_pair
  simp only [bind_ok, bind_exc, sOf_ok, sOf_exc, sSeq_ap, seqK_nx, seqK_rt, seqK_bk, seqK_ct, seqK_exc, sNil_ap, sPass_ap, sBrk_ap, sCnt_ap, sRetN_ap, sRet_ap, kRet_d, kRet_r, kRet_n, kRet_m, nxK_ap, sExp_ap, ifK_t, ifK_f, sIf_ap, asK_some, kAsg_ap, sAsg_ap, gN_ap, gT_ap, gE_ap, gC_ap, kPar_ap, sPar_ap, setAll_cons, setAll_nil, forK_ap, sFor_ap, varK_some, eVar_ap, eC_ap, eBin_ap, nBin_ap, eNeg_ap, kNeg_i, aNil_ap, aCons_ap, toD_d, toDs_nil, toDs_cons, eTup_ap, nLst_ap, eCall_ap, eCallK_ap, eCB_ap, eIfK_t, eIfK_f, eIf_ap, tOfK_b, tOf_ap, andK_t, andK_f, orK_t, orK_f, tAndF_ap, tOrF_ap, notK_ap, tNotF_ap, eAndK_t, eAndK_f, eOrK_t, eOrK_f, eAnd_ap, eOr_ap, eNot_ap, kNot_b, eFrz_ap, eSto_ap, eFre_ap, eFreM_ap, eSet_ap, eAlc_ap, frozen_ok, stored_ok, storedM_ok, fresh_ok, freshM_ok, settle_d, settle_r, settle_w, settle_n, settle_m, settle_exc, allocS_d, allocS_r, allocS_n, allocS_m, addS_i, mulS_t1, mulS_t0, subS_i, ltS_i, leS_i, gtS_i, geS_i, at_0, at_1, at_2, set_0, set_1, cut_old, cut_all, len_1, len_2, app_app, set_set, set_len, retS_d, retS_n, retS_m, retS_x, list_l, list_s, seq_t, seq_k, atI_0, atI_1, atI_2, cLen_t, cLen_l, cLen_z, cInt_i, cInt_b, cI1_i, cI2_i, eIsi_ap, eqS_i, neS_i, eqS_b, neS_b, eqS_p, isN_d, isBl_b, eSl_ap, pNone_ap, pSome_ap, kPt_i, slS_t, nRev_ap, eM1_ap, sSetI_ap, sPutD_ap, eNewT_ap, itOf_ap, itAny_ap, kIter_t, kIter_k, kIter_l, kEnum_l, kZip_l, turnK_some, turnS_ap, loop_nil, nLc_ap, nLcM_ap, tYes_ap, cut_set, cut_setold, eDc_ap, sRetRev_ap, List.set_cons_zero, List.set_cons_succ, List.getElem?_cons_zero, List.getElem?_cons_succ, Option.bind_some, List.length_cons, List.length_nil, lstK0, tupK0, lstK1, tupK1, lstK2, tupK2, lstK3, tupK3, lstK4, tupK4, lstK5, tupK5, List.cons_append, List.nil_append, wipeE, isi_tup, show ((((0 + 1 + 1 : Nat) : Int) == 2)) = true from rfl]
theorem sides {b : Nat} {st : Sto} (hb : 2 ≤ b ∧ b ≤ 3) : inS true (.d (.int b)) (.d (.ktp k_SIDES)) st = .ok (.d (.bl false)) st := by
  have : b = 2 ∨ b = 3 := by omega
  rcases this with rfl | rfl <;> rfl
theorem is_book_spec {b : Nat} {kk : Kinds} {st : Sto} (ok : BookOk b kk) : m_is_book [.d (bookV b kk)] st = .ok (.d (.bl true)) st := by
  have hl := ok.len
  have lc := lc_mapf (st := st) (gt := gN 1) (t := tYesF) (f := eSet (eCall m_is_kind_of (aCons (eBin ixA (eVar 0) (eC (.int 0))) (aCons (eCB cLenA (aCons (eBin ixA (eVar 0) (eC (.int 1))) aNil)) (aCons (eVar 1) aNil))))) (ρ := [some (.d (.tup [.int b, .tup (kk.map kindV)])), none]) (enc := kindV) (out := fun _ => .bl true) kk [] (by rw [List.length_nil]; omega) (fun ks hk => by
    refine ⟨_, rfl, rfl, ?_⟩
    have := is_kind_spec (st := st) (ok.ok ks hk) ok.b2
    simp only [bind_ok, bind_exc, sOf_ok, sOf_exc, sSeq_ap, seqK_nx, seqK_rt, seqK_bk, seqK_ct, seqK_exc, sNil_ap, sPass_ap, sBrk_ap, sCnt_ap, sRetN_ap, sRet_ap, kRet_d, kRet_r, kRet_n, kRet_m, nxK_ap, sExp_ap, ifK_t, ifK_f, sIf_ap, asK_some, kAsg_ap, sAsg_ap, gN_ap, gT_ap, gE_ap, gC_ap, kPar_ap, sPar_ap, setAll_cons, setAll_nil, forK_ap, sFor_ap, varK_some, eVar_ap, eC_ap, eBin_ap, nBin_ap, eNeg_ap, kNeg_i, aNil_ap, aCons_ap, toD_d, toDs_nil, toDs_cons, eTup_ap, nLst_ap, eCall_ap, eCallK_ap, eCB_ap, eIfK_t, eIfK_f, eIf_ap, tOfK_b, tOf_ap, andK_t, andK_f, orK_t, orK_f, tAndF_ap, tOrF_ap, notK_ap, tNotF_ap, eAndK_t, eAndK_f, eOrK_t, eOrK_f, eAnd_ap, eOr_ap, eNot_ap, kNot_b, eFrz_ap, eSto_ap, eFre_ap, eFreM_ap, eSet_ap, eAlc_ap, frozen_ok, stored_ok, storedM_ok, fresh_ok, freshM_ok, settle_d, settle_r, settle_w, settle_n, settle_m, settle_exc, allocS_d, allocS_r, allocS_n, allocS_m, addS_i, mulS_t1, mulS_t0, subS_i, ltS_i, leS_i, gtS_i, geS_i, at_0, at_1, at_2, set_0, set_1, cut_old, cut_all, len_1, len_2, app_app, set_set, set_len, retS_d, retS_n, retS_m, retS_x, list_l, list_s, seq_t, seq_k, atI_0, atI_1, atI_2, cLen_t, cLen_l, cLen_z, cInt_i, cInt_b, cI1_i, cI2_i, eIsi_ap, eqS_i, neS_i, eqS_b, neS_b, eqS_p, isN_d, isBl_b, eSl_ap, pNone_ap, pSome_ap, kPt_i, slS_t, nRev_ap, eM1_ap, sSetI_ap, sPutD_ap, eNewT_ap, itOf_ap, itAny_ap, kIter_t, kIter_k, kIter_l, kEnum_l, kZip_l, turnK_some, turnS_ap, loop_nil, nLc_ap, nLcM_ap, tYes_ap, cut_set, cut_setold, eDc_ap, sRetRev_ap, List.set_cons_zero, List.set_cons_succ, List.getElem?_cons_zero, List.getElem?_cons_succ, Option.bind_some, List.length_cons, List.length_nil, lstK0, tupK0, lstK1, tupK1, lstK2, tupK2, lstK3, tupK3, lstK4, tupK4, lstK5, tupK5, List.cons_append, List.nil_append, wipeE, ixA_t atI_0, ixA_t atI_1, List.length_map, this])
  rw [map_true] at lc
  have ca := cBls_l (h := fun bs => bs.all id) (st := st) (list_l (ds := (List.replicate kk.length true).map Vl.bl)) (bls_map _)
  rw [all_true] at ca
  unfold m_is_book
  rw [fnS_ap]
  show retS st.length (b_is_book [some (.d (.tup [.int b, .tup (kk.map kindV)])), none] st) = _
  unfold b_is_book c_is_book_1
  have pr := is_pair_spec (b := b) (kk := kk) (st := st)
  unfold bookV at pr
  simp only [bind_ok, bind_exc, sOf_ok, sOf_exc, sSeq_ap, seqK_nx, seqK_rt, seqK_bk, seqK_ct, seqK_exc, sNil_ap, sPass_ap, sBrk_ap, sCnt_ap, sRetN_ap, sRet_ap, kRet_d, kRet_r, kRet_n, kRet_m, nxK_ap, sExp_ap, ifK_t, ifK_f, sIf_ap, asK_some, kAsg_ap, sAsg_ap, gN_ap, gT_ap, gE_ap, gC_ap, kPar_ap, sPar_ap, setAll_cons, setAll_nil, forK_ap, sFor_ap, varK_some, eVar_ap, eC_ap, eBin_ap, nBin_ap, eNeg_ap, kNeg_i, aNil_ap, aCons_ap, toD_d, toDs_nil, toDs_cons, eTup_ap, nLst_ap, eCall_ap, eCallK_ap, eCB_ap, eIfK_t, eIfK_f, eIf_ap, tOfK_b, tOf_ap, andK_t, andK_f, orK_t, orK_f, tAndF_ap, tOrF_ap, notK_ap, tNotF_ap, eAndK_t, eAndK_f, eOrK_t, eOrK_f, eAnd_ap, eOr_ap, eNot_ap, kNot_b, eFrz_ap, eSto_ap, eFre_ap, eFreM_ap, eSet_ap, eAlc_ap, frozen_ok, stored_ok, storedM_ok, fresh_ok, freshM_ok, settle_d, settle_r, settle_w, settle_n, settle_m, settle_exc, allocS_d, allocS_r, allocS_n, allocS_m, addS_i, mulS_t1, mulS_t0, subS_i, ltS_i, leS_i, gtS_i, geS_i, at_0, at_1, at_2, set_0, set_1, cut_old, cut_all, len_1, len_2, app_app, set_set, set_len, retS_d, retS_n, retS_m, retS_x, list_l, list_s, seq_t, seq_k, atI_0, atI_1, atI_2, cLen_t, cLen_l, cLen_z, cInt_i, cInt_b, cI1_i, cI2_i, eIsi_ap, eqS_i, neS_i, eqS_b, neS_b, eqS_p, isN_d, isBl_b, eSl_ap, pNone_ap, pSome_ap, kPt_i, slS_t, nRev_ap, eM1_ap, sSetI_ap, sPutD_ap, eNewT_ap, itOf_ap, itAny_ap, kIter_t, kIter_k, kIter_l, kEnum_l, kZip_l, turnK_some, turnS_ap, loop_nil, nLc_ap, nLcM_ap, tYes_ap, cut_set, cut_setold, eDc_ap, sRetRev_ap, List.set_cons_zero, List.set_cons_succ, List.getElem?_cons_zero, List.getElem?_cons_succ, Option.bind_some, List.length_cons, List.length_nil, lstK0, tupK0, lstK1, tupK1, lstK2, tupK2, lstK3, tupK3, lstK4, tupK4, lstK5, tupK5, List.cons_append, List.nil_append, wipeE, pr, Bool.not_true, ixA_t atI_0, ixA_t atI_1, is_integer_spec, sides ok.b2, isi_tup, List.length_map, show ((((kk.length : Nat) : Int) == 0)) = false by rw [beq_eq_false_iff_ne]; omega, lc, ca]
theorem check_book_spec {b : Nat} {kk : Kinds} {st : Sto} (ok : BookOk b kk) : m_check_book [.d (bookV b kk)] st = .ok (.d .non) st := by
  unfold m_check_book
  rw [fnS_ap]
  show retS st.length (b_check_book [some (.d (bookV b kk))] st) = _
  unfold b_check_book
  simp only [bind_ok, bind_exc, sOf_ok, sOf_exc, sSeq_ap, seqK_nx, seqK_rt, seqK_bk, seqK_ct, seqK_exc, sNil_ap, sPass_ap, sBrk_ap, sCnt_ap, sRetN_ap, sRet_ap, kRet_d, kRet_r, kRet_n, kRet_m, nxK_ap, sExp_ap, ifK_t, ifK_f, sIf_ap, asK_some, kAsg_ap, sAsg_ap, gN_ap, gT_ap, gE_ap, gC_ap, kPar_ap, sPar_ap, setAll_cons, setAll_nil, forK_ap, sFor_ap, varK_some, eVar_ap, eC_ap, eBin_ap, nBin_ap, eNeg_ap, kNeg_i, aNil_ap, aCons_ap, toD_d, toDs_nil, toDs_cons, eTup_ap, nLst_ap, eCall_ap, eCallK_ap, eCB_ap, eIfK_t, eIfK_f, eIf_ap, tOfK_b, tOf_ap, andK_t, andK_f, orK_t, orK_f, tAndF_ap, tOrF_ap, notK_ap, tNotF_ap, eAndK_t, eAndK_f, eOrK_t, eOrK_f, eAnd_ap, eOr_ap, eNot_ap, kNot_b, eFrz_ap, eSto_ap, eFre_ap, eFreM_ap, eSet_ap, eAlc_ap, frozen_ok, stored_ok, storedM_ok, fresh_ok, freshM_ok, settle_d, settle_r, settle_w, settle_n, settle_m, settle_exc, allocS_d, allocS_r, allocS_n, allocS_m, addS_i, mulS_t1, mulS_t0, subS_i, ltS_i, leS_i, gtS_i, geS_i, at_0, at_1, at_2, set_0, set_1, cut_old, cut_all, len_1, len_2, app_app, set_set, set_len, retS_d, retS_n, retS_m, retS_x, list_l, list_s, seq_t, seq_k, atI_0, atI_1, atI_2, cLen_t, cLen_l, cLen_z, cInt_i, cInt_b, cI1_i, cI2_i, eIsi_ap, eqS_i, neS_i, eqS_b, neS_b, eqS_p, isN_d, isBl_b, eSl_ap, pNone_ap, pSome_ap, kPt_i, slS_t, nRev_ap, eM1_ap, sSetI_ap, sPutD_ap, eNewT_ap, itOf_ap, itAny_ap, kIter_t, kIter_k, kIter_l, kEnum_l, kZip_l, turnK_some, turnS_ap, loop_nil, nLc_ap, nLcM_ap, tYes_ap, cut_set, cut_setold, eDc_ap, sRetRev_ap, List.set_cons_zero, List.set_cons_succ, List.getElem?_cons_zero, List.getElem?_cons_succ, Option.bind_some, List.length_cons, List.length_nil, lstK0, tupK0, lstK1, tupK1, lstK2, tupK2, lstK3, tupK3, lstK4, tupK4, lstK5, tupK5, List.cons_append, List.nil_append, wipeE, is_book_spec ok, Bool.not_true]
theorem check_depth_spec {d : Nat} {st : Sto} : m_check_depth [.d (.int d)] st = .ok (.d .non) st := by
  unfold m_check_depth
  rw [fnS_ap]
  show retS st.length (b_check_depth [some (.d (.int d))] st) = _
  unfold b_check_depth
  simp only [bind_ok, bind_exc, sOf_ok, sOf_exc, sSeq_ap, seqK_nx, seqK_rt, seqK_bk, seqK_ct, seqK_exc, sNil_ap, sPass_ap, sBrk_ap, sCnt_ap, sRetN_ap, sRet_ap, kRet_d, kRet_r, kRet_n, kRet_m, nxK_ap, sExp_ap, ifK_t, ifK_f, sIf_ap, asK_some, kAsg_ap, sAsg_ap, gN_ap, gT_ap, gE_ap, gC_ap, kPar_ap, sPar_ap, setAll_cons, setAll_nil, forK_ap, sFor_ap, varK_some, eVar_ap, eC_ap, eBin_ap, nBin_ap, eNeg_ap, kNeg_i, aNil_ap, aCons_ap, toD_d, toDs_nil, toDs_cons, eTup_ap, nLst_ap, eCall_ap, eCallK_ap, eCB_ap, eIfK_t, eIfK_f, eIf_ap, tOfK_b, tOf_ap, andK_t, andK_f, orK_t, orK_f, tAndF_ap, tOrF_ap, notK_ap, tNotF_ap, eAndK_t, eAndK_f, eOrK_t, eOrK_f, eAnd_ap, eOr_ap, eNot_ap, kNot_b, eFrz_ap, eSto_ap, eFre_ap, eFreM_ap, eSet_ap, eAlc_ap, frozen_ok, stored_ok, storedM_ok, fresh_ok, freshM_ok, settle_d, settle_r, settle_w, settle_n, settle_m, settle_exc, allocS_d, allocS_r, allocS_n, allocS_m, addS_i, mulS_t1, mulS_t0, subS_i, ltS_i, leS_i, gtS_i, geS_i, at_0, at_1, at_2, set_0, set_1, cut_old, cut_all, len_1, len_2, app_app, set_set, set_len, retS_d, retS_n, retS_m, retS_x, list_l, list_s, seq_t, seq_k, atI_0, atI_1, atI_2, cLen_t, cLen_l, cLen_z, cInt_i, cInt_b, cI1_i, cI2_i, eIsi_ap, eqS_i, neS_i, eqS_b, neS_b, eqS_p, isN_d, isBl_b, eSl_ap, pNone_ap, pSome_ap, kPt_i, slS_t, nRev_ap, eM1_ap, sSetI_ap, sPutD_ap, eNewT_ap, itOf_ap, itAny_ap, kIter_t, kIter_k, kIter_l, kEnum_l, kZip_l, turnK_some, turnS_ap, loop_nil, nLc_ap, nLcM_ap, tYes_ap, cut_set, cut_setold, eDc_ap, sRetRev_ap, List.set_cons_zero, List.set_cons_succ, List.getElem?_cons_zero, List.getElem?_cons_succ, Option.bind_some, List.length_cons, List.length_nil, lstK0, tupK0, lstK1, tupK1, lstK2, tupK2, lstK3, tupK3, lstK4, tupK4, lstK5, tupK5, List.cons_append, List.nil_append, wipeE, is_natural_spec, Bool.not_true]
end K42

namespace K42
open PySem PySem.Spec PyProof.Rows L2 F
theorem pow_loop {b : Nat} (hb : b ≤ 1000) {body : Sm} (hbody : body = (sSeq (sAsg (eBin mulS (eVar 2) (eVar 0)) (gN 2)) sNil)) {u1 u3 : Option Sl} {st : Sto} (n m : Nat) : ∃ v, loopS (turnS (gN 3) body) ((List.range n).map natV) [some (.d (.int b)), u1, some (.d (.int m)), u3] st = .nx [some (.d (.int b)), u1, some (.d (.int ((m * b ^ n : Nat) : Int))), v] st := by
  subst hbody
  have key : ∀ (xs : List Nat) (m : Nat) (u3 : Option Sl), ∃ v, loopS (turnS (gN 3) (sSeq (sAsg (eBin mulS (eVar 2) (eVar 0)) (gN 2)) sNil)) (xs.map natV) [some (.d (.int b)), u1, some (.d (.int m)), u3] st = .nx [some (.d (.int b)), u1, some (.d (.int ((m * b ^ xs.length : Nat) : Int))), v] st := by
    intro xs
    induction xs with
    | nil => intro m u3; exact ⟨u3, by rw [List.map_nil, List.length_nil, Nat.pow_zero, Nat.mul_one]; rfl⟩
    | cons x xs ih =>
      intro m u3
      obtain ⟨v, e⟩ := ih (m * b) (some (.d (natV x)))
      refine ⟨v, ?_⟩
      rw [List.map_cons, loop_nx (ρ' := [some (.d (.int b)), u1, some (.d (.int ((m * b : Nat) : Int))), some (.d (natV x))]) (st' := st) (by simp only [bind_ok, bind_exc, sOf_ok, sOf_exc, sSeq_ap, seqK_nx, seqK_rt, seqK_bk, seqK_ct, seqK_exc, sNil_ap, sPass_ap, sBrk_ap, sCnt_ap, sRetN_ap, sRet_ap, kRet_d, kRet_r, kRet_n, kRet_m, nxK_ap, sExp_ap, ifK_t, ifK_f, sIf_ap, asK_some, kAsg_ap, sAsg_ap, gN_ap, gT_ap, gE_ap, gC_ap, kPar_ap, sPar_ap, setAll_cons, setAll_nil, forK_ap, sFor_ap, varK_some, eVar_ap, eC_ap, eBin_ap, nBin_ap, eNeg_ap, kNeg_i, aNil_ap, aCons_ap, toD_d, toDs_nil, toDs_cons, eTup_ap, nLst_ap, eCall_ap, eCallK_ap, eCB_ap, eIfK_t, eIfK_f, eIf_ap, tOfK_b, tOf_ap, andK_t, andK_f, orK_t, orK_f, tAndF_ap, tOrF_ap, notK_ap, tNotF_ap, eAndK_t, eAndK_f, eOrK_t, eOrK_f, eAnd_ap, eOr_ap, eNot_ap, kNot_b, eFrz_ap, eSto_ap, eFre_ap, eFreM_ap, eSet_ap, eAlc_ap, frozen_ok, stored_ok, storedM_ok, fresh_ok, freshM_ok, settle_d, settle_r, settle_w, settle_n, settle_m, settle_exc, allocS_d, allocS_r, allocS_n, allocS_m, addS_i, mulS_t1, mulS_t0, subS_i, ltS_i, leS_i, gtS_i, geS_i, at_0, at_1, at_2, set_0, set_1, cut_old, cut_all, len_1, len_2, app_app, set_set, set_len, retS_d, retS_n, retS_m, retS_x, list_l, list_s, seq_t, seq_k, atI_0, atI_1, atI_2, cLen_t, cLen_l, cLen_z, cInt_i, cInt_b, cI1_i, cI2_i, eIsi_ap, eqS_i, neS_i, eqS_b, neS_b, eqS_p, isN_d, isBl_b, eSl_ap, pNone_ap, pSome_ap, kPt_i, slS_t, nRev_ap, eM1_ap, sSetI_ap, sPutD_ap, eNewT_ap, itOf_ap, itAny_ap, kIter_t, kIter_k, kIter_l, kEnum_l, kZip_l, turnK_some, turnS_ap, loop_nil, nLc_ap, nLcM_ap, tYes_ap, cut_set, cut_setold, eDc_ap, sRetRev_ap, List.set_cons_zero, List.set_cons_succ, List.getElem?_cons_zero, List.getElem?_cons_succ, Option.bind_some, List.length_cons, List.length_nil, lstK0, tupK0, lstK1, tupK1, lstK2, tupK2, lstK3, tupK3, lstK4, tupK4, lstK5, tupK5, List.cons_append, List.nil_append, wipeE, mulc_r (show (b : Int).natAbs < 2 ^ 60 by omega), show (m : Int) * (b : Int) = ((m * b : Nat) : Int) from (Int.natCast_mul m b).symm]), e, List.length_cons, Nat.pow_succ, Nat.mul_comm (b ^ xs.length) b, Nat.mul_assoc]
  have := key (List.range n) m u3
  rw [List.length_range] at this
  exact this
theorem power_spec {b n : Nat} {st : Sto} (hb : b ≤ 1000) (hn : n ≤ 1000) : m_power [.d (.int b), .d (.int n)] st = .ok (.d (.int ((b ^ n : Nat) : Int))) st := by
  unfold m_power
  rw [fnS_ap]
  show retS st.length (b_power [some (.d (.int b)), some (.d (.int n)), none, none] st) = _
  obtain ⟨v, e⟩ := pow_loop (b := b) hb (body := l_power_1) rfl (u1 := some (.d (.int n))) (u3 := none) (st := st) n 1
  rw [← rgD_nat, Nat.one_mul] at e
  unfold b_power
  simp only [bind_ok, bind_exc, sOf_ok, sOf_exc, sSeq_ap, seqK_nx, seqK_rt, seqK_bk, seqK_ct, seqK_exc, sNil_ap, sPass_ap, sBrk_ap, sCnt_ap, sRetN_ap, sRet_ap, kRet_d, kRet_r, kRet_n, kRet_m, nxK_ap, sExp_ap, ifK_t, ifK_f, sIf_ap, asK_some, kAsg_ap, sAsg_ap, gN_ap, gT_ap, gE_ap, gC_ap, kPar_ap, sPar_ap, setAll_cons, setAll_nil, forK_ap, sFor_ap, varK_some, eVar_ap, eC_ap, eBin_ap, nBin_ap, eNeg_ap, kNeg_i, aNil_ap, aCons_ap, toD_d, toDs_nil, toDs_cons, eTup_ap, nLst_ap, eCall_ap, eCallK_ap, eCB_ap, eIfK_t, eIfK_f, eIf_ap, tOfK_b, tOf_ap, andK_t, andK_f, orK_t, orK_f, tAndF_ap, tOrF_ap, notK_ap, tNotF_ap, eAndK_t, eAndK_f, eOrK_t, eOrK_f, eAnd_ap, eOr_ap, eNot_ap, kNot_b, eFrz_ap, eSto_ap, eFre_ap, eFreM_ap, eSet_ap, eAlc_ap, frozen_ok, stored_ok, storedM_ok, fresh_ok, freshM_ok, settle_d, settle_r, settle_w, settle_n, settle_m, settle_exc, allocS_d, allocS_r, allocS_n, allocS_m, addS_i, mulS_t1, mulS_t0, subS_i, ltS_i, leS_i, gtS_i, geS_i, at_0, at_1, at_2, set_0, set_1, cut_old, cut_all, len_1, len_2, app_app, set_set, set_len, retS_d, retS_n, retS_m, retS_x, list_l, list_s, seq_t, seq_k, atI_0, atI_1, atI_2, cLen_t, cLen_l, cLen_z, cInt_i, cInt_b, cI1_i, cI2_i, eIsi_ap, eqS_i, neS_i, eqS_b, neS_b, eqS_p, isN_d, isBl_b, eSl_ap, pNone_ap, pSome_ap, kPt_i, slS_t, nRev_ap, eM1_ap, sSetI_ap, sPutD_ap, eNewT_ap, itOf_ap, itAny_ap, kIter_t, kIter_k, kIter_l, kEnum_l, kZip_l, turnK_some, turnS_ap, loop_nil, nLc_ap, nLcM_ap, tYes_ap, cut_set, cut_setold, eDc_ap, sRetRev_ap, List.set_cons_zero, List.set_cons_succ, List.getElem?_cons_zero, List.getElem?_cons_succ, Option.bind_some, List.length_cons, List.length_nil, lstK0, tupK0, lstK1, tupK1, lstK2, tupK2, lstK3, tupK3, lstK4, tupK4, lstK5, tupK5, List.cons_append, List.nil_append, wipeE, kRg1_i (rgOk_of (show -4611686018427387904 ≤ (n : Int) by omega) (by omega)), Int.toNat_natCast, show (Vl.int 1) = Vl.int ((1 : Nat) : Int) from rfl, e]
theorem law_power_spec {b n : Nat} {st : Sto} (hb : b ≤ 1000) (hn : n ≤ 1000) : m_x_law_power [.d (.int b), .d (.int n)] st = .ok (.d (.int ((b ^ n : Nat) : Int))) st := by
  unfold m_x_law_power
  rw [fnS_ap]
  show retS st.length (b_x_law_power [some (.d (.int b)), some (.d (.int n)), none, none] st) = _
  obtain ⟨v, e⟩ := pow_loop (b := b) hb (body := l_x_law_power_1) rfl (u1 := some (.d (.int n))) (u3 := none) (st := st) n 1
  rw [← rgD_nat, Nat.one_mul] at e
  unfold b_x_law_power
  simp only [bind_ok, bind_exc, sOf_ok, sOf_exc, sSeq_ap, seqK_nx, seqK_rt, seqK_bk, seqK_ct, seqK_exc, sNil_ap, sPass_ap, sBrk_ap, sCnt_ap, sRetN_ap, sRet_ap, kRet_d, kRet_r, kRet_n, kRet_m, nxK_ap, sExp_ap, ifK_t, ifK_f, sIf_ap, asK_some, kAsg_ap, sAsg_ap, gN_ap, gT_ap, gE_ap, gC_ap, kPar_ap, sPar_ap, setAll_cons, setAll_nil, forK_ap, sFor_ap, varK_some, eVar_ap, eC_ap, eBin_ap, nBin_ap, eNeg_ap, kNeg_i, aNil_ap, aCons_ap, toD_d, toDs_nil, toDs_cons, eTup_ap, nLst_ap, eCall_ap, eCallK_ap, eCB_ap, eIfK_t, eIfK_f, eIf_ap, tOfK_b, tOf_ap, andK_t, andK_f, orK_t, orK_f, tAndF_ap, tOrF_ap, notK_ap, tNotF_ap, eAndK_t, eAndK_f, eOrK_t, eOrK_f, eAnd_ap, eOr_ap, eNot_ap, kNot_b, eFrz_ap, eSto_ap, eFre_ap, eFreM_ap, eSet_ap, eAlc_ap, frozen_ok, stored_ok, storedM_ok, fresh_ok, freshM_ok, settle_d, settle_r, settle_w, settle_n, settle_m, settle_exc, allocS_d, allocS_r, allocS_n, allocS_m, addS_i, mulS_t1, mulS_t0, subS_i, ltS_i, leS_i, gtS_i, geS_i, at_0, at_1, at_2, set_0, set_1, cut_old, cut_all, len_1, len_2, app_app, set_set, set_len, retS_d, retS_n, retS_m, retS_x, list_l, list_s, seq_t, seq_k, atI_0, atI_1, atI_2, cLen_t, cLen_l, cLen_z, cInt_i, cInt_b, cI1_i, cI2_i, eIsi_ap, eqS_i, neS_i, eqS_b, neS_b, eqS_p, isN_d, isBl_b, eSl_ap, pNone_ap, pSome_ap, kPt_i, slS_t, nRev_ap, eM1_ap, sSetI_ap, sPutD_ap, eNewT_ap, itOf_ap, itAny_ap, kIter_t, kIter_k, kIter_l, kEnum_l, kZip_l, turnK_some, turnS_ap, loop_nil, nLc_ap, nLcM_ap, tYes_ap, cut_set, cut_setold, eDc_ap, sRetRev_ap, List.set_cons_zero, List.set_cons_succ, List.getElem?_cons_zero, List.getElem?_cons_succ, Option.bind_some, List.length_cons, List.length_nil, lstK0, tupK0, lstK1, tupK1, lstK2, tupK2, lstK3, tupK3, lstK4, tupK4, lstK5, tupK5, List.cons_append, List.nil_append, wipeE, kRg1_i (rgOk_of (show -4611686018427387904 ≤ (n : Int) by omega) (by omega)), Int.toNat_natCast, show (Vl.int 1) = Vl.int ((1 : Nat) : Int) from rfl, e]
theorem each_spec {b d : Nat} {kk : Kinds} {st : Sto} (hb : b ≤ 3) (hd : d ≤ 1000) : m_cells_each_way [.d (bookV b kk), .d (.int d)] st = .ok (.d (.int ((b ^ d : Nat) : Int))) st := by
  unfold m_cells_each_way
  rw [fnS_ap]
  show retS st.length (b_cells_each_way [some (.d (.tup [.int b, .tup (kk.map kindV)])), some (.d (.int d))] st) = _
  unfold b_cells_each_way
  simp only [bind_ok, bind_exc, sOf_ok, sOf_exc, sSeq_ap, seqK_nx, seqK_rt, seqK_bk, seqK_ct, seqK_exc, sNil_ap, sPass_ap, sBrk_ap, sCnt_ap, sRetN_ap, sRet_ap, kRet_d, kRet_r, kRet_n, kRet_m, nxK_ap, sExp_ap, ifK_t, ifK_f, sIf_ap, asK_some, kAsg_ap, sAsg_ap, gN_ap, gT_ap, gE_ap, gC_ap, kPar_ap, sPar_ap, setAll_cons, setAll_nil, forK_ap, sFor_ap, varK_some, eVar_ap, eC_ap, eBin_ap, nBin_ap, eNeg_ap, kNeg_i, aNil_ap, aCons_ap, toD_d, toDs_nil, toDs_cons, eTup_ap, nLst_ap, eCall_ap, eCallK_ap, eCB_ap, eIfK_t, eIfK_f, eIf_ap, tOfK_b, tOf_ap, andK_t, andK_f, orK_t, orK_f, tAndF_ap, tOrF_ap, notK_ap, tNotF_ap, eAndK_t, eAndK_f, eOrK_t, eOrK_f, eAnd_ap, eOr_ap, eNot_ap, kNot_b, eFrz_ap, eSto_ap, eFre_ap, eFreM_ap, eSet_ap, eAlc_ap, frozen_ok, stored_ok, storedM_ok, fresh_ok, freshM_ok, settle_d, settle_r, settle_w, settle_n, settle_m, settle_exc, allocS_d, allocS_r, allocS_n, allocS_m, addS_i, mulS_t1, mulS_t0, subS_i, ltS_i, leS_i, gtS_i, geS_i, at_0, at_1, at_2, set_0, set_1, cut_old, cut_all, len_1, len_2, app_app, set_set, set_len, retS_d, retS_n, retS_m, retS_x, list_l, list_s, seq_t, seq_k, atI_0, atI_1, atI_2, cLen_t, cLen_l, cLen_z, cInt_i, cInt_b, cI1_i, cI2_i, eIsi_ap, eqS_i, neS_i, eqS_b, neS_b, eqS_p, isN_d, isBl_b, eSl_ap, pNone_ap, pSome_ap, kPt_i, slS_t, nRev_ap, eM1_ap, sSetI_ap, sPutD_ap, eNewT_ap, itOf_ap, itAny_ap, kIter_t, kIter_k, kIter_l, kEnum_l, kZip_l, turnK_some, turnS_ap, loop_nil, nLc_ap, nLcM_ap, tYes_ap, cut_set, cut_setold, eDc_ap, sRetRev_ap, List.set_cons_zero, List.set_cons_succ, List.getElem?_cons_zero, List.getElem?_cons_succ, Option.bind_some, List.length_cons, List.length_nil, lstK0, tupK0, lstK1, tupK1, lstK2, tupK2, lstK3, tupK3, lstK4, tupK4, lstK5, tupK5, List.cons_append, List.nil_append, wipeE, ixA_t atI_0, power_spec (show b ≤ 1000 by omega) hd]
theorem many_spec {b d : Nat} {kk : Kinds} {st : Sto} (hb : b ≤ 3) (hd : d ≤ 1000) : m_how_many_cells [.d (bookV b kk), .d (.int d)] st = .ok (.d (.int (((b * b) ^ d : Nat) : Int))) st := by
  unfold m_how_many_cells
  rw [fnS_ap]
  show retS st.length (b_how_many_cells [some (.d (.tup [.int b, .tup (kk.map kindV)])), some (.d (.int d))] st) = _
  have hbb : b * b ≤ 9 := Nat.mul_le_mul hb hb
  unfold b_how_many_cells
  simp only [bind_ok, bind_exc, sOf_ok, sOf_exc, sSeq_ap, seqK_nx, seqK_rt, seqK_bk, seqK_ct, seqK_exc, sNil_ap, sPass_ap, sBrk_ap, sCnt_ap, sRetN_ap, sRet_ap, kRet_d, kRet_r, kRet_n, kRet_m, nxK_ap, sExp_ap, ifK_t, ifK_f, sIf_ap, asK_some, kAsg_ap, sAsg_ap, gN_ap, gT_ap, gE_ap, gC_ap, kPar_ap, sPar_ap, setAll_cons, setAll_nil, forK_ap, sFor_ap, varK_some, eVar_ap, eC_ap, eBin_ap, nBin_ap, eNeg_ap, kNeg_i, aNil_ap, aCons_ap, toD_d, toDs_nil, toDs_cons, eTup_ap, nLst_ap, eCall_ap, eCallK_ap, eCB_ap, eIfK_t, eIfK_f, eIf_ap, tOfK_b, tOf_ap, andK_t, andK_f, orK_t, orK_f, tAndF_ap, tOrF_ap, notK_ap, tNotF_ap, eAndK_t, eAndK_f, eOrK_t, eOrK_f, eAnd_ap, eOr_ap, eNot_ap, kNot_b, eFrz_ap, eSto_ap, eFre_ap, eFreM_ap, eSet_ap, eAlc_ap, frozen_ok, stored_ok, storedM_ok, fresh_ok, freshM_ok, settle_d, settle_r, settle_w, settle_n, settle_m, settle_exc, allocS_d, allocS_r, allocS_n, allocS_m, addS_i, mulS_t1, mulS_t0, subS_i, ltS_i, leS_i, gtS_i, geS_i, at_0, at_1, at_2, set_0, set_1, cut_old, cut_all, len_1, len_2, app_app, set_set, set_len, retS_d, retS_n, retS_m, retS_x, list_l, list_s, seq_t, seq_k, atI_0, atI_1, atI_2, cLen_t, cLen_l, cLen_z, cInt_i, cInt_b, cI1_i, cI2_i, eIsi_ap, eqS_i, neS_i, eqS_b, neS_b, eqS_p, isN_d, isBl_b, eSl_ap, pNone_ap, pSome_ap, kPt_i, slS_t, nRev_ap, eM1_ap, sSetI_ap, sPutD_ap, eNewT_ap, itOf_ap, itAny_ap, kIter_t, kIter_k, kIter_l, kEnum_l, kZip_l, turnK_some, turnS_ap, loop_nil, nLc_ap, nLcM_ap, tYes_ap, cut_set, cut_setold, eDc_ap, sRetRev_ap, List.set_cons_zero, List.set_cons_succ, List.getElem?_cons_zero, List.getElem?_cons_succ, Option.bind_some, List.length_cons, List.length_nil, lstK0, tupK0, lstK1, tupK1, lstK2, tupK2, lstK3, tupK3, lstK4, tupK4, lstK5, tupK5, List.cons_append, List.nil_append, wipeE, ixA_t atI_0, mulc_l (show (b : Int).natAbs < 2 ^ 60 by omega), show (b : Int) * (b : Int) = ((b * b : Nat) : Int) from (Int.natCast_mul b b).symm, power_spec (show b * b ≤ 1000 by omega) hd]
def wayTo (b : Nat) (kk : Kinds) : Nat → Nat → Nat → Nat × Nat
  | 0, _, _ => (0, 0)
  | d + 1, k, n => let p := (kk.getD k []).getD (n / (b * b) ^ d) (0, 0, 0)
    let r := wayTo b kk d p.2.2 (n % (b * b) ^ d)
    (p.1 * b ^ d + r.1, p.2.1 * b ^ d + r.2)
def WayP (b : Nat) (kk : Kinds) (X Y : Nat) (st : Sto) (u2 : Option Sl) (rest : List Nat) (ρ : En) (S : Sto) : Prop := ∃ (k n L M : Nat) (ks : List Vl) (u9 u10 u11 : Option Sl),
  ρ = [some (.d (bookV b kk)), some (.d (.int k)), u2, some (.d (.int n)), some (.d (.int ((b ^ rest.length : Nat) : Int))), some (.d (.int (((b * b) ^ rest.length : Nat) : Int))), some (.d (.int L)), some (.d (.int M)), some (.r st.length), u9, u10, u11] ∧
  S = st ++ [Ce.lst ks] ∧ ks.length + rest.length ≤ 1000 ∧ rest.length ≤ 4 ∧ k < kk.length ∧ n < (b * b) ^ rest.length ∧ L + (wayTo b kk rest.length k n).1 = X ∧ M + (wayTo b kk rest.length k n).2 = Y
theorem pow9 {b e : Nat} (hb : 2 ≤ b ∧ b ≤ 3) (he : e ≤ 4) : 0 < (b * b) ^ e ∧ (b * b) ^ e ≤ 6561 ∧ 0 < b ^ e ∧ b ^ e ≤ 81 := by
  have h1 : (b * b) ^ e ≤ 9 ^ e := Nat.pow_le_pow_left (Nat.mul_le_mul hb.2 hb.2) e
  have h2 : (9 : Nat) ^ e ≤ 9 ^ 4 := Nat.pow_le_pow_right (by decide) he
  have h3 : b ^ e ≤ 3 ^ e := Nat.pow_le_pow_left hb.2 e
  have h4 : (3 : Nat) ^ e ≤ 3 ^ 4 := Nat.pow_le_pow_right (by decide) he
  exact ⟨Nat.pow_pos (Nat.mul_pos (by omega) (by omega)), Nat.le_trans h1 h2, Nat.pow_pos (by omega), Nat.le_trans h3 h4⟩
theorem way_step {b : Nat} {kk : Kinds} (ok : BookOk b kk) {X Y : Nat} {st : Sto} {u2 : Option Sl} (x : Nat) (rest : List Nat) (ρ : En) (S : Sto) (p : WayP b kk X Y st u2 (x :: rest) ρ S) :
    ∃ ρ' S', turnS (gN 9) l_way_to_1 (natV x) ρ S = .nx ρ' S' ∧ WayP b kk X Y st u2 rest ρ' S' := by
  obtain ⟨k, n, L, M, ks, u9, u10, u11, rfl, rfl, hl, h4, hk, hn, hX, hY⟩ := p
  rw [List.length_cons] at hl h4 hn hX hY
  rw [List.length_cons]
  obtain ⟨q1, q2, q3, q4⟩ := pow9 (e := rest.length) ok.b2 (by omega)
  have hb := ok.b2
  have hbb : b * b ≤ 9 := Nat.mul_le_mul hb.2 hb.2
  have hbb0 : 0 < b * b := Nat.mul_pos (by omega) (by omega)
  have kok := ok.ok (kk[k]) (List.getElem_mem hk)
  have hq : n / (b * b) ^ rest.length < (kk[k]).length := by
    rw [kok.len]
    refine Nat.div_lt_of_lt_mul ?_
    rw [Nat.pow_succ] at hn
    exact hn
  obtain ⟨p, hp⟩ : ∃ p, p = (kk[k])[n / (b * b) ^ rest.length] := ⟨_, rfl⟩
  have e1 : atI (kk.map kindV) (k : Int) = some (.tup ((kk[k]).map partV)) := atI_get (by rw [List.getElem?_map, List.getElem?_eq_getElem hk]; rfl)
  have e2 : atI ((kk[k]).map partV) ((n / (b * b) ^ rest.length : Nat) : Int) = some (.tup [.int p.1, .int p.2.1, .int p.2.2]) := atI_get (by rw [List.getElem?_map, List.getElem?_eq_getElem hq, ← hp]; rfl)
  have plt := kok.lt p (by rw [hp]; exact List.getElem_mem hq)
  have d1 : ((b ^ (rest.length + 1) : Nat) : Int) / (b : Int) = ((b ^ rest.length : Nat) : Int) := by rw [← Int.natCast_ediv, Nat.pow_succ, Nat.mul_div_cancel _ (by omega)]
  have d2 : (((b * b) ^ (rest.length + 1) : Nat) : Int) / ((b * b : Nat) : Int) = (((b * b) ^ rest.length : Nat) : Int) := by rw [← Int.natCast_ediv, Nat.pow_succ, Nat.mul_div_cancel _ hbb0]
  have d3 : (n : Int) / (((b * b) ^ rest.length : Nat) : Int) = ((n / (b * b) ^ rest.length : Nat) : Int) := (Int.natCast_ediv _ _).symm
  have d4 : (n : Int) % (((b * b) ^ rest.length : Nat) : Int) = ((n % (b * b) ^ rest.length : Nat) : Int) := (Int.natCast_emod _ _).symm
  have ap := kApp_r (x := .int p.2.2) (st := st ++ [Ce.lst ks]) (n := st.length) at_0 (by omega)
  rw [set_0] at ap
  have way : wayTo b kk (rest.length + 1) k n = (p.1 * b ^ rest.length + (wayTo b kk rest.length p.2.2 (n % (b * b) ^ rest.length)).1, p.2.1 * b ^ rest.length + (wayTo b kk rest.length p.2.2 (n % (b * b) ^ rest.length)).2) := by
    have g1 : kk.getD k [] = kk[k] := by simp [List.getD, hk]
    have g2 : (kk[k]).getD (n / (b * b) ^ rest.length) (0, 0, 0) = p := by rw [hp]; simp [List.getD, hq]
    simp only [wayTo]
    rw [g1, g2]
  rw [way] at hX hY
  refine ⟨_, _, ?_, p.2.2, n % (b * b) ^ rest.length, L + p.1 * b ^ rest.length, M + p.2.1 * b ^ rest.length, ks ++ [.int p.2.2], some (.d (natV x)), some (.d (.int p.1)), some (.d (.int p.2.1)), rfl, rfl, by rw [List.length_append, List.length_cons, List.length_nil]; omega, by omega, plt.2.2, Nat.mod_lt _ q1, by omega, by omega⟩
  unfold l_way_to_1 bookV
  simp only [bind_ok, bind_exc, sOf_ok, sOf_exc, sSeq_ap, seqK_nx, seqK_rt, seqK_bk, seqK_ct, seqK_exc, sNil_ap, sPass_ap, sBrk_ap, sCnt_ap, sRetN_ap, sRet_ap, kRet_d, kRet_r, kRet_n, kRet_m, nxK_ap, sExp_ap, ifK_t, ifK_f, sIf_ap, asK_some, kAsg_ap, sAsg_ap, gN_ap, gT_ap, gE_ap, gC_ap, kPar_ap, sPar_ap, setAll_cons, setAll_nil, forK_ap, sFor_ap, varK_some, eVar_ap, eC_ap, eBin_ap, nBin_ap, eNeg_ap, kNeg_i, aNil_ap, aCons_ap, toD_d, toDs_nil, toDs_cons, eTup_ap, nLst_ap, eCall_ap, eCallK_ap, eCB_ap, eIfK_t, eIfK_f, eIf_ap, tOfK_b, tOf_ap, andK_t, andK_f, orK_t, orK_f, tAndF_ap, tOrF_ap, notK_ap, tNotF_ap, eAndK_t, eAndK_f, eOrK_t, eOrK_f, eAnd_ap, eOr_ap, eNot_ap, kNot_b, eFrz_ap, eSto_ap, eFre_ap, eFreM_ap, eSet_ap, eAlc_ap, frozen_ok, stored_ok, storedM_ok, fresh_ok, freshM_ok, settle_d, settle_r, settle_w, settle_n, settle_m, settle_exc, allocS_d, allocS_r, allocS_n, allocS_m, addS_i, mulS_t1, mulS_t0, subS_i, ltS_i, leS_i, gtS_i, geS_i, at_0, at_1, at_2, set_0, set_1, cut_old, cut_all, len_1, len_2, app_app, set_set, set_len, retS_d, retS_n, retS_m, retS_x, list_l, list_s, seq_t, seq_k, atI_0, atI_1, atI_2, cLen_t, cLen_l, cLen_z, cInt_i, cInt_b, cI1_i, cI2_i, eIsi_ap, eqS_i, neS_i, eqS_b, neS_b, eqS_p, isN_d, isBl_b, eSl_ap, pNone_ap, pSome_ap, kPt_i, slS_t, nRev_ap, eM1_ap, sSetI_ap, sPutD_ap, eNewT_ap, itOf_ap, itAny_ap, kIter_t, kIter_k, kIter_l, kEnum_l, kZip_l, turnK_some, turnS_ap, loop_nil, nLc_ap, nLcM_ap, tYes_ap, cut_set, cut_setold, eDc_ap, sRetRev_ap, List.set_cons_zero, List.set_cons_succ, List.getElem?_cons_zero, List.getElem?_cons_succ, Option.bind_some, List.length_cons, List.length_nil, lstK0, tupK0, lstK1, tupK1, lstK2, tupK2, lstK3, tupK3, lstK4, tupK4, lstK5, tupK5, List.cons_append, List.nil_append, wipeE, ixA_t atI_0, ixA_t atI_1, mulc_l (show (b : Int).natAbs < 2 ^ 60 by omega), show (b : Int) * (b : Int) = ((b * b : Nat) : Int) from (Int.natCast_mul b b).symm, divS_i (small_ok (show (0 : Int) < b by omega) (by omega)), divS_i (small_ok (show (0 : Int) < ((b * b : Nat) : Int) by omega) (by omega)), d1, d2,
    divS_i (small_ok (show (0 : Int) < (((b * b) ^ rest.length : Nat) : Int) by omega) (by omega)), d3, ixA_t e1, ixA_t e2, modS_i (show (0 : Int) < (((b * b) ^ rest.length : Nat) : Int) by omega), d4, mulc_r (show (((b ^ rest.length : Nat) : Int)).natAbs < 2 ^ 60 by omega), m1K_r (lstAt_r at_0), ap,
    show ∀ (L p e : Nat), (L : Int) + (p : Int) * (e : Int) = ((L + p * e : Nat) : Int) from fun L p e => by rw [Int.natCast_add, Int.natCast_mul]]
theorem way_spec {b d k n : Nat} {kk : Kinds} {st : Sto} (ok : BookOk b kk) (hd : d ≤ 4) (hk : k < kk.length) (hn : n < (b * b) ^ d) :
    ∃ t, m_way_to [.d (bookV b kk), .d (.int k), .d (.int d), .d (.int n)] st = .ok (.d (.tup [placeV (wayTo b kk d k n), t])) st := by
  have hl : (List.range d).length = d := List.length_range
  obtain ⟨ρ', S, e, k', n', L, M, ks, u9, u10, u11, rfl, rfl, h1, h2, h3, h4, h5, h6⟩ := loop_rest (h := turnS (gN 9) l_way_to_1) (enc := natV) (WayP b kk (wayTo b kk d k n).1 (wayTo b kk d k n).2 st (some (.d (.int d)))) (fun x rest ρ st p => way_step ok x rest ρ st p) (List.range d)
    [some (.d (bookV b kk)), some (.d (.int k)), some (.d (.int d)), some (.d (.int n)), some (.d (.int ((b ^ d : Nat) : Int))), some (.d (.int (((b * b) ^ d : Nat) : Int))), some (.d (.int ((0 : Nat) : Int))), some (.d (.int ((0 : Nat) : Int))), some (.r st.length), none, none, none] (st ++ [Ce.lst [.int k]])
    ⟨k, n, 0, 0, [.int k], none, none, none, by rw [hl], rfl, by rw [hl, List.length_cons, List.length_nil]; omega, by rw [hl]; exact hd, hk, by rw [hl]; exact hn, by rw [hl, Nat.zero_add], by rw [hl, Nat.zero_add]⟩
  rw [← rgD_nat] at e
  have z : ∀ k n, wayTo b kk ([] : List Nat).length k n = (0, 0) := fun _ _ => rfl
  rw [z] at h5 h6
  refine ⟨.tup ks, ?_⟩
  unfold m_way_to
  rw [fnS_ap]
  show retS st.length (b_way_to [some (.d (bookV b kk)), some (.d (.int k)), some (.d (.int d)), some (.d (.int n)), none, none, none, none, none, none, none, none] st) = _
  unfold b_way_to
  simp only [bind_ok, bind_exc, sOf_ok, sOf_exc, sSeq_ap, seqK_nx, seqK_rt, seqK_bk, seqK_ct, seqK_exc, sNil_ap, sPass_ap, sBrk_ap, sCnt_ap, sRetN_ap, sRet_ap, kRet_d, kRet_r, kRet_n, kRet_m, nxK_ap, sExp_ap, ifK_t, ifK_f, sIf_ap, asK_some, kAsg_ap, sAsg_ap, gN_ap, gT_ap, gE_ap, gC_ap, kPar_ap, sPar_ap, setAll_cons, setAll_nil, forK_ap, sFor_ap, varK_some, eVar_ap, eC_ap, eBin_ap, nBin_ap, eNeg_ap, kNeg_i, aNil_ap, aCons_ap, toD_d, toDs_nil, toDs_cons, eTup_ap, nLst_ap, eCall_ap, eCallK_ap, eCB_ap, eIfK_t, eIfK_f, eIf_ap, tOfK_b, tOf_ap, andK_t, andK_f, orK_t, orK_f, tAndF_ap, tOrF_ap, notK_ap, tNotF_ap, eAndK_t, eAndK_f, eOrK_t, eOrK_f, eAnd_ap, eOr_ap, eNot_ap, kNot_b, eFrz_ap, eSto_ap, eFre_ap, eFreM_ap, eSet_ap, eAlc_ap, frozen_ok, stored_ok, storedM_ok, fresh_ok, freshM_ok, settle_d, settle_r, settle_w, settle_n, settle_m, settle_exc, allocS_d, allocS_r, allocS_n, allocS_m, addS_i, mulS_t1, mulS_t0, subS_i, ltS_i, leS_i, gtS_i, geS_i, at_0, at_1, at_2, set_0, set_1, cut_old, cut_all, len_1, len_2, app_app, set_set, set_len, retS_d, retS_n, retS_m, retS_x, list_l, list_s, seq_t, seq_k, atI_0, atI_1, atI_2, cLen_t, cLen_l, cLen_z, cInt_i, cInt_b, cI1_i, cI2_i, eIsi_ap, eqS_i, neS_i, eqS_b, neS_b, eqS_p, isN_d, isBl_b, eSl_ap, pNone_ap, pSome_ap, kPt_i, slS_t, nRev_ap, eM1_ap, sSetI_ap, sPutD_ap, eNewT_ap, itOf_ap, itAny_ap, kIter_t, kIter_k, kIter_l, kEnum_l, kZip_l, turnK_some, turnS_ap, loop_nil, nLc_ap, nLcM_ap, tYes_ap, cut_set, cut_setold, eDc_ap, sRetRev_ap, List.set_cons_zero, List.set_cons_succ, List.getElem?_cons_zero, List.getElem?_cons_succ, Option.bind_some, List.length_cons, List.length_nil, lstK0, tupK0, lstK1, tupK1, lstK2, tupK2, lstK3, tupK3, lstK4, tupK4, lstK5, tupK5, List.cons_append, List.nil_append, wipeE, each_spec (kk := kk) ok.b2.2 (show d ≤ 1000 by omega), many_spec (kk := kk) ok.b2.2 (show d ≤ 1000 by omega), kRg1_i (rgOk_of (show -4611686018427387904 ≤ (d : Int) by omega) (by omega)), Int.toNat_natCast]
  rw [show (Vl.int 0) = Vl.int ((0 : Nat) : Int) from rfl, e]
  simp only [bind_ok, bind_exc, sOf_ok, sOf_exc, sSeq_ap, seqK_nx, seqK_rt, seqK_bk, seqK_ct, seqK_exc, sNil_ap, sPass_ap, sBrk_ap, sCnt_ap, sRetN_ap, sRet_ap, kRet_d, kRet_r, kRet_n, kRet_m, nxK_ap, sExp_ap, ifK_t, ifK_f, sIf_ap, asK_some, kAsg_ap, sAsg_ap, gN_ap, gT_ap, gE_ap, gC_ap, kPar_ap, sPar_ap, setAll_cons, setAll_nil, forK_ap, sFor_ap, varK_some, eVar_ap, eC_ap, eBin_ap, nBin_ap, eNeg_ap, kNeg_i, aNil_ap, aCons_ap, toD_d, toDs_nil, toDs_cons, eTup_ap, nLst_ap, eCall_ap, eCallK_ap, eCB_ap, eIfK_t, eIfK_f, eIf_ap, tOfK_b, tOf_ap, andK_t, andK_f, orK_t, orK_f, tAndF_ap, tOrF_ap, notK_ap, tNotF_ap, eAndK_t, eAndK_f, eOrK_t, eOrK_f, eAnd_ap, eOr_ap, eNot_ap, kNot_b, eFrz_ap, eSto_ap, eFre_ap, eFreM_ap, eSet_ap, eAlc_ap, frozen_ok, stored_ok, storedM_ok, fresh_ok, freshM_ok, settle_d, settle_r, settle_w, settle_n, settle_m, settle_exc, allocS_d, allocS_r, allocS_n, allocS_m, addS_i, mulS_t1, mulS_t0, subS_i, ltS_i, leS_i, gtS_i, geS_i, at_0, at_1, at_2, set_0, set_1, cut_old, cut_all, len_1, len_2, app_app, set_set, set_len, retS_d, retS_n, retS_m, retS_x, list_l, list_s, seq_t, seq_k, atI_0, atI_1, atI_2, cLen_t, cLen_l, cLen_z, cInt_i, cInt_b, cI1_i, cI2_i, eIsi_ap, eqS_i, neS_i, eqS_b, neS_b, eqS_p, isN_d, isBl_b, eSl_ap, pNone_ap, pSome_ap, kPt_i, slS_t, nRev_ap, eM1_ap, sSetI_ap, sPutD_ap, eNewT_ap, itOf_ap, itAny_ap, kIter_t, kIter_k, kIter_l, kEnum_l, kZip_l, turnK_some, turnS_ap, loop_nil, nLc_ap, nLcM_ap, tYes_ap, cut_set, cut_setold, eDc_ap, sRetRev_ap, List.set_cons_zero, List.set_cons_succ, List.getElem?_cons_zero, List.getElem?_cons_succ, Option.bind_some, List.length_cons, List.length_nil, lstK0, tupK0, lstK1, tupK1, lstK2, tupK2, lstK3, tupK3, lstK4, tupK4, lstK5, tupK5, List.cons_append, List.nil_append, wipeE, cTup_l (list_r at_0), placeV, ← h5, ← h6, Nat.add_zero]
theorem cell_spec {b d k n : Nat} {kk : Kinds} {st : Sto} (ok : BookOk b kk) (hd : d ≤ 4) (hk : k < kk.length) (hn : n < (b * b) ^ d) :
    m_cell_in [.d (bookV b kk), .d (.int k), .d (.int d), .d (.int n)] st = .ok (.d (placeV (wayTo b kk d k n))) st := by
  obtain ⟨t, e⟩ := way_spec (st := st) ok hd hk hn
  unfold m_cell_in
  rw [fnS_ap]
  show retS st.length (b_cell_in [some (.d (bookV b kk)), some (.d (.int k)), some (.d (.int d)), some (.d (.int n))] st) = _
  unfold b_cell_in
  simp only [bind_ok, bind_exc, sOf_ok, sOf_exc, sSeq_ap, seqK_nx, seqK_rt, seqK_bk, seqK_ct, seqK_exc, sNil_ap, sPass_ap, sBrk_ap, sCnt_ap, sRetN_ap, sRet_ap, kRet_d, kRet_r, kRet_n, kRet_m, nxK_ap, sExp_ap, ifK_t, ifK_f, sIf_ap, asK_some, kAsg_ap, sAsg_ap, gN_ap, gT_ap, gE_ap, gC_ap, kPar_ap, sPar_ap, setAll_cons, setAll_nil, forK_ap, sFor_ap, varK_some, eVar_ap, eC_ap, eBin_ap, nBin_ap, eNeg_ap, kNeg_i, aNil_ap, aCons_ap, toD_d, toDs_nil, toDs_cons, eTup_ap, nLst_ap, eCall_ap, eCallK_ap, eCB_ap, eIfK_t, eIfK_f, eIf_ap, tOfK_b, tOf_ap, andK_t, andK_f, orK_t, orK_f, tAndF_ap, tOrF_ap, notK_ap, tNotF_ap, eAndK_t, eAndK_f, eOrK_t, eOrK_f, eAnd_ap, eOr_ap, eNot_ap, kNot_b, eFrz_ap, eSto_ap, eFre_ap, eFreM_ap, eSet_ap, eAlc_ap, frozen_ok, stored_ok, storedM_ok, fresh_ok, freshM_ok, settle_d, settle_r, settle_w, settle_n, settle_m, settle_exc, allocS_d, allocS_r, allocS_n, allocS_m, addS_i, mulS_t1, mulS_t0, subS_i, ltS_i, leS_i, gtS_i, geS_i, at_0, at_1, at_2, set_0, set_1, cut_old, cut_all, len_1, len_2, app_app, set_set, set_len, retS_d, retS_n, retS_m, retS_x, list_l, list_s, seq_t, seq_k, atI_0, atI_1, atI_2, cLen_t, cLen_l, cLen_z, cInt_i, cInt_b, cI1_i, cI2_i, eIsi_ap, eqS_i, neS_i, eqS_b, neS_b, eqS_p, isN_d, isBl_b, eSl_ap, pNone_ap, pSome_ap, kPt_i, slS_t, nRev_ap, eM1_ap, sSetI_ap, sPutD_ap, eNewT_ap, itOf_ap, itAny_ap, kIter_t, kIter_k, kIter_l, kEnum_l, kZip_l, turnK_some, turnS_ap, loop_nil, nLc_ap, nLcM_ap, tYes_ap, cut_set, cut_setold, eDc_ap, sRetRev_ap, List.set_cons_zero, List.set_cons_succ, List.getElem?_cons_zero, List.getElem?_cons_succ, Option.bind_some, List.length_cons, List.length_nil, lstK0, tupK0, lstK1, tupK1, lstK2, tupK2, lstK3, tupK3, lstK4, tupK4, lstK5, tupK5, List.cons_append, List.nil_append, wipeE, e, ixA_t atI_0, placeV]
/-- the whole thread's cells -/
def cellsP (b : Nat) (kk : Kinds) (d : Nat) : List (Nat × Nat) := (List.range ((b * b) ^ d)).map (wayTo b kk d 0)
theorem rgD_nat0 {k : Nat} : rgD ((0 : Nat) : Int) 1 k = (List.range k).map natV := rgD_nat
theorem whole_spec {b d : Nat} {kk : Kinds} {st : Sto} (ok : BookOk b kk) (hd : d ≤ 4) : m_whole [.d (bookV b kk), .d (.int d)] st = .ok (.n ((cellsP b kk d).map placeV)) st := by
  obtain ⟨q1, q2, _, _⟩ := pow9 (e := d) ok.b2 hd
  have lc := lc_mapf (st := st) (gt := gN 6) (t := tYesF) (f := eSet (eCall m_cell_in (aCons (eVar 0) (aCons (eVar 1) (aCons (eVar 2) (aCons (eVar 6) aNil)))))) (ρ := [some (.d (bookV b kk)), some (.d (.int ((0 : Nat) : Int))), some (.d (.int d)), some (.d (.int 0)), some (.d (.int (((b * b) ^ d : Nat) : Int))), some (.d (.int (((b * b) ^ d : Nat) : Int))), none]) (enc := natV) (out := fun n => placeV (wayTo b kk d 0 n)) (List.range ((b * b) ^ d)) [] (by rw [List.length_nil, List.length_range]; omega) (fun n hn => by
    refine ⟨_, rfl, rfl, ?_⟩
    have := cell_spec (st := st) (k := 0) ok hd (by have := ok.len; omega) (List.mem_range.mp hn)
    simp only [bind_ok, bind_exc, sOf_ok, sOf_exc, sSeq_ap, seqK_nx, seqK_rt, seqK_bk, seqK_ct, seqK_exc, sNil_ap, sPass_ap, sBrk_ap, sCnt_ap, sRetN_ap, sRet_ap, kRet_d, kRet_r, kRet_n, kRet_m, nxK_ap, sExp_ap, ifK_t, ifK_f, sIf_ap, asK_some, kAsg_ap, sAsg_ap, gN_ap, gT_ap, gE_ap, gC_ap, kPar_ap, sPar_ap, setAll_cons, setAll_nil, forK_ap, sFor_ap, varK_some, eVar_ap, eC_ap, eBin_ap, nBin_ap, eNeg_ap, kNeg_i, aNil_ap, aCons_ap, toD_d, toDs_nil, toDs_cons, eTup_ap, nLst_ap, eCall_ap, eCallK_ap, eCB_ap, eIfK_t, eIfK_f, eIf_ap, tOfK_b, tOf_ap, andK_t, andK_f, orK_t, orK_f, tAndF_ap, tOrF_ap, notK_ap, tNotF_ap, eAndK_t, eAndK_f, eOrK_t, eOrK_f, eAnd_ap, eOr_ap, eNot_ap, kNot_b, eFrz_ap, eSto_ap, eFre_ap, eFreM_ap, eSet_ap, eAlc_ap, frozen_ok, stored_ok, storedM_ok, fresh_ok, freshM_ok, settle_d, settle_r, settle_w, settle_n, settle_m, settle_exc, allocS_d, allocS_r, allocS_n, allocS_m, addS_i, mulS_t1, mulS_t0, subS_i, ltS_i, leS_i, gtS_i, geS_i, at_0, at_1, at_2, set_0, set_1, cut_old, cut_all, len_1, len_2, app_app, set_set, set_len, retS_d, retS_n, retS_m, retS_x, list_l, list_s, seq_t, seq_k, atI_0, atI_1, atI_2, cLen_t, cLen_l, cLen_z, cInt_i, cInt_b, cI1_i, cI2_i, eIsi_ap, eqS_i, neS_i, eqS_b, neS_b, eqS_p, isN_d, isBl_b, eSl_ap, pNone_ap, pSome_ap, kPt_i, slS_t, nRev_ap, eM1_ap, sSetI_ap, sPutD_ap, eNewT_ap, itOf_ap, itAny_ap, kIter_t, kIter_k, kIter_l, kEnum_l, kZip_l, turnK_some, turnS_ap, loop_nil, nLc_ap, nLcM_ap, tYes_ap, cut_set, cut_setold, eDc_ap, sRetRev_ap, List.set_cons_zero, List.set_cons_succ, List.getElem?_cons_zero, List.getElem?_cons_succ, Option.bind_some, List.length_cons, List.length_nil, lstK0, tupK0, lstK1, tupK1, lstK2, tupK2, lstK3, tupK3, lstK4, tupK4, lstK5, tupK5, List.cons_append, List.nil_append, wipeE, natV, this, placeV])
  rw [← rgD_nat] at lc
  have th : m_thread_of [.d (bookV b kk), .d (.int 0), .d (.int d), .d (.int 0), .d (.int (((b * b) ^ d : Nat) : Int))] st = .ok (.n ((cellsP b kk d).map placeV)) st := by
    unfold m_thread_of
    rw [fnS_ap]
    show retS st.length (b_thread_of [some (.d (bookV b kk)), some (.d (.int ((0 : Nat) : Int))), some (.d (.int d)), some (.d (.int 0)), some (.d (.int (((b * b) ^ d : Nat) : Int))), none, none] st) = _
    have mi : minI (0 + (((b * b) ^ d : Nat) : Int)) (((b * b) ^ d : Nat) : Int) = (((b * b) ^ d : Nat) : Int) := by unfold minI; split <;> omega
    unfold b_thread_of c_thread_of_1
    simp only [bind_ok, bind_exc, sOf_ok, sOf_exc, sSeq_ap, seqK_nx, seqK_rt, seqK_bk, seqK_ct, seqK_exc, sNil_ap, sPass_ap, sBrk_ap, sCnt_ap, sRetN_ap, sRet_ap, kRet_d, kRet_r, kRet_n, kRet_m, nxK_ap, sExp_ap, ifK_t, ifK_f, sIf_ap, asK_some, kAsg_ap, sAsg_ap, gN_ap, gT_ap, gE_ap, gC_ap, kPar_ap, sPar_ap, setAll_cons, setAll_nil, forK_ap, sFor_ap, varK_some, eVar_ap, eC_ap, eBin_ap, nBin_ap, eNeg_ap, kNeg_i, aNil_ap, aCons_ap, toD_d, toDs_nil, toDs_cons, eTup_ap, nLst_ap, eCall_ap, eCallK_ap, eCB_ap, eIfK_t, eIfK_f, eIf_ap, tOfK_b, tOf_ap, andK_t, andK_f, orK_t, orK_f, tAndF_ap, tOrF_ap, notK_ap, tNotF_ap, eAndK_t, eAndK_f, eOrK_t, eOrK_f, eAnd_ap, eOr_ap, eNot_ap, kNot_b, eFrz_ap, eSto_ap, eFre_ap, eFreM_ap, eSet_ap, eAlc_ap, frozen_ok, stored_ok, storedM_ok, fresh_ok, freshM_ok, settle_d, settle_r, settle_w, settle_n, settle_m, settle_exc, allocS_d, allocS_r, allocS_n, allocS_m, addS_i, mulS_t1, mulS_t0, subS_i, ltS_i, leS_i, gtS_i, geS_i, at_0, at_1, at_2, set_0, set_1, cut_old, cut_all, len_1, len_2, app_app, set_set, set_len, retS_d, retS_n, retS_m, retS_x, list_l, list_s, seq_t, seq_k, atI_0, atI_1, atI_2, cLen_t, cLen_l, cLen_z, cInt_i, cInt_b, cI1_i, cI2_i, eIsi_ap, eqS_i, neS_i, eqS_b, neS_b, eqS_p, isN_d, isBl_b, eSl_ap, pNone_ap, pSome_ap, kPt_i, slS_t, nRev_ap, eM1_ap, sSetI_ap, sPutD_ap, eNewT_ap, itOf_ap, itAny_ap, kIter_t, kIter_k, kIter_l, kEnum_l, kZip_l, turnK_some, turnS_ap, loop_nil, nLc_ap, nLcM_ap, tYes_ap, cut_set, cut_setold, eDc_ap, sRetRev_ap, List.set_cons_zero, List.set_cons_succ, List.getElem?_cons_zero, List.getElem?_cons_succ, Option.bind_some, List.length_cons, List.length_nil, lstK0, tupK0, lstK1, tupK1, lstK2, tupK2, lstK3, tupK3, lstK4, tupK4, lstK5, tupK5, List.cons_append, List.nil_append, wipeE, many_spec (kk := kk) ok.b2.2 (show d ≤ 1000 by omega), mi, kRg2_i (rgOk_of (show -4611686018427387904 ≤ (0 : Int) by decide) (by decide)) (rgOk_of (show -4611686018427387904 ≤ (((b * b) ^ d : Nat) : Int) by omega) (by omega)), Int.sub_zero, Int.toNat_natCast, lc]
    unfold cellsP
    rw [List.map_map]
    rfl
  unfold m_whole
  rw [fnS_ap]
  show retS st.length (b_whole [some (.d (bookV b kk)), some (.d (.int d))] st) = _
  unfold b_whole
  simp only [bind_ok, bind_exc, sOf_ok, sOf_exc, sSeq_ap, seqK_nx, seqK_rt, seqK_bk, seqK_ct, seqK_exc, sNil_ap, sPass_ap, sBrk_ap, sCnt_ap, sRetN_ap, sRet_ap, kRet_d, kRet_r, kRet_n, kRet_m, nxK_ap, sExp_ap, ifK_t, ifK_f, sIf_ap, asK_some, kAsg_ap, sAsg_ap, gN_ap, gT_ap, gE_ap, gC_ap, kPar_ap, sPar_ap, setAll_cons, setAll_nil, forK_ap, sFor_ap, varK_some, eVar_ap, eC_ap, eBin_ap, nBin_ap, eNeg_ap, kNeg_i, aNil_ap, aCons_ap, toD_d, toDs_nil, toDs_cons, eTup_ap, nLst_ap, eCall_ap, eCallK_ap, eCB_ap, eIfK_t, eIfK_f, eIf_ap, tOfK_b, tOf_ap, andK_t, andK_f, orK_t, orK_f, tAndF_ap, tOrF_ap, notK_ap, tNotF_ap, eAndK_t, eAndK_f, eOrK_t, eOrK_f, eAnd_ap, eOr_ap, eNot_ap, kNot_b, eFrz_ap, eSto_ap, eFre_ap, eFreM_ap, eSet_ap, eAlc_ap, frozen_ok, stored_ok, storedM_ok, fresh_ok, freshM_ok, settle_d, settle_r, settle_w, settle_n, settle_m, settle_exc, allocS_d, allocS_r, allocS_n, allocS_m, addS_i, mulS_t1, mulS_t0, subS_i, ltS_i, leS_i, gtS_i, geS_i, at_0, at_1, at_2, set_0, set_1, cut_old, cut_all, len_1, len_2, app_app, set_set, set_len, retS_d, retS_n, retS_m, retS_x, list_l, list_s, seq_t, seq_k, atI_0, atI_1, atI_2, cLen_t, cLen_l, cLen_z, cInt_i, cInt_b, cI1_i, cI2_i, eIsi_ap, eqS_i, neS_i, eqS_b, neS_b, eqS_p, isN_d, isBl_b, eSl_ap, pNone_ap, pSome_ap, kPt_i, slS_t, nRev_ap, eM1_ap, sSetI_ap, sPutD_ap, eNewT_ap, itOf_ap, itAny_ap, kIter_t, kIter_k, kIter_l, kEnum_l, kZip_l, turnK_some, turnS_ap, loop_nil, nLc_ap, nLcM_ap, tYes_ap, cut_set, cut_setold, eDc_ap, sRetRev_ap, List.set_cons_zero, List.set_cons_succ, List.getElem?_cons_zero, List.getElem?_cons_succ, Option.bind_some, List.length_cons, List.length_nil, lstK0, tupK0, lstK1, tupK1, lstK2, tupK2, lstK3, tupK3, lstK4, tupK4, lstK5, tupK5, List.cons_append, List.nil_append, wipeE, check_book_spec ok, check_depth_spec, many_spec (kk := kk) ok.b2.2 (show d ≤ 1000 by omega), th]
end K42

namespace K42
open PySem PySem.Spec PyProof.Rows L2 F
abbrev Sq := List (Nat × Nat × Nat)
def grow (b : Nat) (kk : Kinds) (q : Nat × Nat × Nat) : Sq := (kk.getD q.2.2 []).map fun p => (b * q.1 + p.1, b * q.2.1 + p.2.1, p.2.2)
def expand (b : Nat) (kk : Kinds) (L : Sq) : Sq := L.flatMap (grow b kk)
def squares (b : Nat) (kk : Kinds) : Nat → Sq
  | 0 => [(0, 0, 0)]
  | d + 1 => expand b kk (squares b kk d)
def InK (kk : Kinds) (L : Sq) : Prop := ∀ q ∈ L, q.2.2 < kk.length
theorem grow_len {b : Nat} {kk : Kinds} (ok : BookOk b kk) {q : Nat × Nat × Nat} (h : q.2.2 < kk.length) : (grow b kk q).length = b * b := by
  unfold grow
  rw [List.length_map]
  have g1 : kk.getD q.2.2 [] = kk[q.2.2] := by simp [List.getD, h]
  rw [g1]
  exact (ok.ok _ (List.getElem_mem h)).len
theorem grow_in {b : Nat} {kk : Kinds} (ok : BookOk b kk) {q : Nat × Nat × Nat} (h : q.2.2 < kk.length) : InK kk (grow b kk q) := by
  intro z hz
  unfold grow at hz
  obtain ⟨p, hp, rfl⟩ := List.mem_map.mp hz
  have g1 : kk.getD q.2.2 [] = kk[q.2.2] := by simp [List.getD, h]
  rw [g1] at hp
  exact ((ok.ok _ (List.getElem_mem h)).lt p hp).2.2
theorem expand_len {b : Nat} {kk : Kinds} (ok : BookOk b kk) : ∀ L : Sq, InK kk L → (expand b kk L).length = L.length * (b * b)
  | [], _ => by simp [expand]
  | q :: L, h => by
    have ih := expand_len ok L fun z hz => h z (List.mem_cons_of_mem _ hz)
    unfold expand at ih ⊢
    rw [List.flatMap_cons, List.length_append, ih, grow_len ok (h q List.mem_cons_self), List.length_cons, Nat.add_mul, Nat.one_mul, Nat.add_comm]
theorem expand_in {b : Nat} {kk : Kinds} (ok : BookOk b kk) {L : Sq} (h : InK kk L) : InK kk (expand b kk L) := by
  intro z hz
  obtain ⟨q, hq, hz⟩ := List.mem_flatMap.mp hz
  exact grow_in ok (h q hq) z hz
theorem squares_ok {b : Nat} {kk : Kinds} (ok : BookOk b kk) : ∀ d, InK kk (squares b kk d) ∧ (squares b kk d).length = (b * b) ^ d
  | 0 => ⟨fun q hq => by rw [List.mem_singleton.mp hq]; have := ok.len; show 0 < _; omega, rfl⟩
  | d + 1 => by
    obtain ⟨h1, h2⟩ := squares_ok ok d
    refine ⟨expand_in ok h1, ?_⟩
    show (expand b kk (squares b kk d)).length = _
    rw [expand_len ok _ h1, h2, Nat.pow_succ]
def kindsV (kk : Kinds) : Vl := .tup (kk.map kindV)
theorem grow_step {b : Nat} {kk : Kinds} (ok : BookOk b kk) {st : Sto} {u0 u1 u4 u5 u10 u11 u12 u7 u8 u9 : Option Sl} {T : Sto} (q : Nat × Nat × Nat) (pre : Sq) (hq : q.2.2 < kk.length) (hpre : InK kk pre) (hl : pre.length ≤ 6561) :
    turnS (gT (gC (gN 7) (gC (gN 8) (gC (gN 9) gE)))) l_x_law_whole_1 (partV q) [u0, u1, some (.d (.int b)), some (.d (kindsV kk)), u4, u5, some (.r (st.length + T.length)), u7, u8, u9, u10, u11, u12] (st ++ (T ++ [Ce.lst ((expand b kk pre).map partV)])) =
      .nx [u0, u1, some (.d (.int b)), some (.d (kindsV kk)), u4, u5, some (.r (st.length + T.length)), some (.d (.int q.1)), some (.d (.int q.2.1)), some (.d (.int q.2.2)), u10, u11, u12] (st ++ (T ++ [Ce.lst ((expand b kk (pre ++ [q])).map partV)])) := by
  have hbb : b * b ≤ 9 := Nat.mul_le_mul ok.b2.2 ok.b2.2
  have hb := ok.b2
  have g1 : kk.getD q.2.2 [] = kk[q.2.2] := by simp [List.getD, hq]
  have hlen := grow_len ok hq
  have e1 : atI (kk.map kindV) (q.2.2 : Int) = some (.tup ((kk[q.2.2]).map partV)) := atI_get (by rw [List.getElem?_map, List.getElem?_eq_getElem hq]; rfl)
  have lc := lc_mapf (st := st ++ (T ++ [Ce.lst ((expand b kk pre).map partV)])) (gt := gT (gC (gN 10) (gC (gN 11) (gC (gN 12) gE)))) (t := tYesF) (f := (eTup (aCons (eBin addS (eBin mulS (eVar 2) (eVar 7)) (eVar 10)) (aCons (eBin addS (eBin mulS (eVar 2) (eVar 8)) (eVar 11)) (aCons (eVar 12) aNil)))))
    (ρ := [u0, u1, some (.d (.int b)), some (.d (kindsV kk)), u4, u5, some (.r (st.length + T.length)), some (.d (.int q.1)), some (.d (.int q.2.1)), some (.d (.int q.2.2)), none, none, none]) (enc := partV) (out := fun p => partV (b * q.1 + p.1, b * q.2.1 + p.2.1, p.2.2)) (kk[q.2.2]) [] (by
      have : (grow b kk q).length = (kk[q.2.2]).length := by unfold grow; rw [List.length_map, g1]
      rw [List.length_nil]; omega) (fun p hp => by
    refine ⟨_, rfl, rfl, ?_⟩
    simp only [bind_ok, bind_exc, sOf_ok, sOf_exc, sSeq_ap, seqK_nx, seqK_rt, seqK_bk, seqK_ct, seqK_exc, sNil_ap, sPass_ap, sBrk_ap, sCnt_ap, sRetN_ap, sRet_ap, kRet_d, kRet_r, kRet_n, kRet_m, nxK_ap, sExp_ap, ifK_t, ifK_f, sIf_ap, asK_some, kAsg_ap, sAsg_ap, gN_ap, gT_ap, gE_ap, gC_ap, kPar_ap, sPar_ap, setAll_cons, setAll_nil, forK_ap, sFor_ap, varK_some, eVar_ap, eC_ap, eBin_ap, nBin_ap, eNeg_ap, kNeg_i, aNil_ap, aCons_ap, toD_d, toDs_nil, toDs_cons, eTup_ap, nLst_ap, eCall_ap, eCallK_ap, eCB_ap, eIfK_t, eIfK_f, eIf_ap, tOfK_b, tOf_ap, andK_t, andK_f, orK_t, orK_f, tAndF_ap, tOrF_ap, notK_ap, tNotF_ap, eAndK_t, eAndK_f, eOrK_t, eOrK_f, eAnd_ap, eOr_ap, eNot_ap, kNot_b, eFrz_ap, eSto_ap, eFre_ap, eFreM_ap, eSet_ap, eAlc_ap, frozen_ok, stored_ok, storedM_ok, fresh_ok, freshM_ok, settle_d, settle_r, settle_w, settle_n, settle_m, settle_exc, allocS_d, allocS_r, allocS_n, allocS_m, addS_i, mulS_t1, mulS_t0, subS_i, ltS_i, leS_i, gtS_i, geS_i, at_0, at_1, at_2, set_0, set_1, cut_old, cut_all, len_1, len_2, app_app, set_set, set_len, retS_d, retS_n, retS_m, retS_x, list_l, list_s, seq_t, seq_k, atI_0, atI_1, atI_2, cLen_t, cLen_l, cLen_z, cInt_i, cInt_b, cI1_i, cI2_i, eIsi_ap, eqS_i, neS_i, eqS_b, neS_b, eqS_p, isN_d, isBl_b, eSl_ap, pNone_ap, pSome_ap, kPt_i, slS_t, nRev_ap, eM1_ap, sSetI_ap, sPutD_ap, eNewT_ap, itOf_ap, itAny_ap, kIter_t, kIter_k, kIter_l, kEnum_l, kZip_l, turnK_some, turnS_ap, loop_nil, nLc_ap, nLcM_ap, tYes_ap, cut_set, cut_setold, eDc_ap, sRetRev_ap, List.set_cons_zero, List.set_cons_succ, List.getElem?_cons_zero, List.getElem?_cons_succ, Option.bind_some, List.length_cons, List.length_nil, lstK0, tupK0, lstK1, tupK1, lstK2, tupK2, lstK3, tupK3, lstK4, tupK4, lstK5, tupK5, List.cons_append, List.nil_append, wipeE, partV, mulc_l (show (b : Int).natAbs < 2 ^ 60 by omega), show ∀ (x p : Nat), (b : Int) * (x : Int) + (p : Int) = ((b * x + p : Nat) : Int) from fun x p => by rw [Int.natCast_add, Int.natCast_mul]])
  have fin : ((kk[q.2.2]).map fun p => partV (b * q.1 + p.1, b * q.2.1 + p.2.1, p.2.2)) = (grow b kk q).map partV := by unfold grow; rw [g1, List.map_map]; rfl
  rw [fin] at lc
  have hx := kExt_r (st := st ++ (T ++ [Ce.lst ((expand b kk pre).map partV)])) (n := st.length + T.length) (w := .d (.lst ((grow b kk q).map partV))) at_last rfl (by
    rw [List.length_map, List.length_map, hlen, expand_len ok _ hpre]
    have : pre.length * (b * b) ≤ 6561 * 9 := Nat.mul_le_mul hl hbb
    omega)
  rw [set_last] at hx
  unfold l_x_law_whole_1 c_x_law_whole_2
  rw [show partV q = Vl.tup [.int q.1, .int q.2.1, .int q.2.2] from rfl]
  unfold kindsV at lc ⊢
  simp only [bind_ok, bind_exc, sOf_ok, sOf_exc, sSeq_ap, seqK_nx, seqK_rt, seqK_bk, seqK_ct, seqK_exc, sNil_ap, sPass_ap, sBrk_ap, sCnt_ap, sRetN_ap, sRet_ap, kRet_d, kRet_r, kRet_n, kRet_m, nxK_ap, sExp_ap, ifK_t, ifK_f, sIf_ap, asK_some, kAsg_ap, sAsg_ap, gN_ap, gT_ap, gE_ap, gC_ap, kPar_ap, sPar_ap, setAll_cons, setAll_nil, forK_ap, sFor_ap, varK_some, eVar_ap, eC_ap, eBin_ap, nBin_ap, eNeg_ap, kNeg_i, aNil_ap, aCons_ap, toD_d, toDs_nil, toDs_cons, eTup_ap, nLst_ap, eCall_ap, eCallK_ap, eCB_ap, eIfK_t, eIfK_f, eIf_ap, tOfK_b, tOf_ap, andK_t, andK_f, orK_t, orK_f, tAndF_ap, tOrF_ap, notK_ap, tNotF_ap, eAndK_t, eAndK_f, eOrK_t, eOrK_f, eAnd_ap, eOr_ap, eNot_ap, kNot_b, eFrz_ap, eSto_ap, eFre_ap, eFreM_ap, eSet_ap, eAlc_ap, frozen_ok, stored_ok, storedM_ok, fresh_ok, freshM_ok, settle_d, settle_r, settle_w, settle_n, settle_m, settle_exc, allocS_d, allocS_r, allocS_n, allocS_m, addS_i, mulS_t1, mulS_t0, subS_i, ltS_i, leS_i, gtS_i, geS_i, at_0, at_1, at_2, set_0, set_1, cut_old, cut_all, len_1, len_2, app_app, set_set, set_len, retS_d, retS_n, retS_m, retS_x, list_l, list_s, seq_t, seq_k, atI_0, atI_1, atI_2, cLen_t, cLen_l, cLen_z, cInt_i, cInt_b, cI1_i, cI2_i, eIsi_ap, eqS_i, neS_i, eqS_b, neS_b, eqS_p, isN_d, isBl_b, eSl_ap, pNone_ap, pSome_ap, kPt_i, slS_t, nRev_ap, eM1_ap, sSetI_ap, sPutD_ap, eNewT_ap, itOf_ap, itAny_ap, kIter_t, kIter_k, kIter_l, kEnum_l, kZip_l, turnK_some, turnS_ap, loop_nil, nLc_ap, nLcM_ap, tYes_ap, cut_set, cut_setold, eDc_ap, sRetRev_ap, List.set_cons_zero, List.set_cons_succ, List.getElem?_cons_zero, List.getElem?_cons_succ, Option.bind_some, List.length_cons, List.length_nil, lstK0, tupK0, lstK1, tupK1, lstK2, tupK2, lstK3, tupK3, lstK4, tupK4, lstK5, tupK5, List.cons_append, List.nil_append, wipeE, m1K_r (lstAt_r at_last), ixA_t e1, lc, hx]
  unfold expand
  rw [List.flatMap_append, List.map_append]
  simp
def SqAt (st : Sto) (T : Sto) (w : Sl) (ds : List Vl) : Prop := ∃ T' : Sto, T'.length = T.length ∧ ∀ l, kIter w (st ++ (T ++ l)) = .ok ds (st ++ (T' ++ l))
theorem sqAt_r {st T : Sto} {ds : List Vl} : SqAt st (T ++ [Ce.lst ds]) (.r (st.length + T.length)) ds := by
  refine ⟨T ++ [Ce.frz ds], by simp, fun l => ?_⟩
  have h : (st ++ (T ++ [Ce.lst ds] ++ l))[st.length + T.length]? = some (Ce.lst ds) := by
    rw [at_app, List.append_assoc, List.getElem?_append_right (Nat.le_refl _)]
    simp
  rw [kIter_r h, set_app, List.append_assoc, List.set_append_right _ _ (Nat.le_refl _)]
  simp
def SqP (b : Nat) (kk : Kinds) (d : Nat) (st : Sto) (u0 u1 : Option Sl) (rest : List Nat) (ρ : En) (S : Sto) : Prop := ∃ (T : Sto) (w : Sl) (i : Nat) (u5 u6 u7 u8 u9 : Option Sl),
  ρ = [u0, u1, some (.d (.int b)), some (.d (kindsV kk)), some w, u5, u6, u7, u8, u9, none, none, none] ∧ S = st ++ T ∧ SqAt st T w ((squares b kk i).map partV) ∧ i + rest.length = d
theorem sq_step {b : Nat} {kk : Kinds} (ok : BookOk b kk) {d : Nat} (hd : d ≤ 4) {st : Sto} {u0 u1 : Option Sl} (x : Nat) (rest : List Nat) (ρ : En) (S : Sto) (p : SqP b kk d st u0 u1 (x :: rest) ρ S) :
    ∃ ρ' S', turnS (gN 5) l_x_law_whole_2 (natV x) ρ S = .nx ρ' S' ∧ SqP b kk d st u0 u1 rest ρ' S' := by
  obtain ⟨T, w, i, u5, u6, u7, u8, u9, rfl, rfl, ⟨T', hT', hw⟩, hi⟩ := p
  rw [List.length_cons] at hi
  obtain ⟨k1, k2⟩ := squares_ok ok i
  have q := (pow9 (e := i) ok.b2 (by omega)).2.1
  obtain ⟨ρ', S', e, pre, v7, v8, v9, hp, rfl, rfl⟩ := loop_rest (h := turnS (gT (gC (gN 7) (gC (gN 8) (gC (gN 9) gE)))) l_x_law_whole_1) (enc := partV)
    (fun (rest : Sq) ρ S => ∃ (pre : Sq) (u7 u8 u9 : Option Sl), pre ++ rest = squares b kk i ∧ ρ = [u0, u1, some (.d (.int b)), some (.d (kindsV kk)), some w, some (.d (natV x)), some (.r (st.length + T'.length)), u7, u8, u9, none, none, none] ∧ S = st ++ (T' ++ [Ce.lst ((expand b kk pre).map partV)]))
    (fun z rest ρ S ⟨pre, u7, u8, u9, hp, hρ, hS⟩ => by
      subst hρ hS
      have hz : z ∈ squares b kk i := by rw [← hp]; simp
      have hlen : pre.length ≤ 6561 := by
        have := congrArg List.length hp
        rw [List.length_append, List.length_cons, k2] at this
        omega
      exact ⟨_, _, grow_step ok z pre (k1 z hz) (fun y hy => k1 y (by rw [← hp]; exact List.mem_append_left _ hy)) hlen, pre ++ [z], _, _, _, by rw [← hp]; simp, rfl, rfl⟩)
    (squares b kk i) [u0, u1, some (.d (.int b)), some (.d (kindsV kk)), some w, some (.d (natV x)), some (.r (st.length + T'.length)), u7, u8, u9, none, none, none] (st ++ (T' ++ [Ce.lst []])) ⟨[], u7, u8, u9, rfl, rfl, rfl⟩
  rw [List.append_nil] at hp
  subst hp
  refine ⟨[u0, u1, some (.d (.int b)), some (.d (kindsV kk)), some (.r (st.length + T'.length)), some (.d (natV x)), some (.r (st.length + T'.length)), v7, v8, v9, none, none, none], st ++ (T' ++ [Ce.lst ((squares b kk (i + 1)).map partV)]), ?_, T' ++ [Ce.lst ((squares b kk (i + 1)).map partV)], _, i + 1, _, _, _, _, _, rfl, rfl, sqAt_r, by omega⟩
  unfold l_x_law_whole_2
  simp only [bind_ok, bind_exc, sOf_ok, sOf_exc, sSeq_ap, seqK_nx, seqK_rt, seqK_bk, seqK_ct, seqK_exc, sNil_ap, sPass_ap, sBrk_ap, sCnt_ap, sRetN_ap, sRet_ap, kRet_d, kRet_r, kRet_n, kRet_m, nxK_ap, sExp_ap, ifK_t, ifK_f, sIf_ap, asK_some, kAsg_ap, sAsg_ap, gN_ap, gT_ap, gE_ap, gC_ap, kPar_ap, sPar_ap, setAll_cons, setAll_nil, forK_ap, sFor_ap, varK_some, eVar_ap, eC_ap, eBin_ap, nBin_ap, eNeg_ap, kNeg_i, aNil_ap, aCons_ap, toD_d, toDs_nil, toDs_cons, eTup_ap, nLst_ap, eCall_ap, eCallK_ap, eCB_ap, eIfK_t, eIfK_f, eIf_ap, tOfK_b, tOf_ap, andK_t, andK_f, orK_t, orK_f, tAndF_ap, tOrF_ap, notK_ap, tNotF_ap, eAndK_t, eAndK_f, eOrK_t, eOrK_f, eAnd_ap, eOr_ap, eNot_ap, kNot_b, eFrz_ap, eSto_ap, eFre_ap, eFreM_ap, eSet_ap, eAlc_ap, frozen_ok, stored_ok, storedM_ok, fresh_ok, freshM_ok, settle_d, settle_r, settle_w, settle_n, settle_m, settle_exc, allocS_d, allocS_r, allocS_n, allocS_m, addS_i, mulS_t1, mulS_t0, subS_i, ltS_i, leS_i, gtS_i, geS_i, at_0, at_1, at_2, set_0, set_1, cut_old, cut_all, len_1, len_2, app_app, set_set, set_len, retS_d, retS_n, retS_m, retS_x, list_l, list_s, seq_t, seq_k, atI_0, atI_1, atI_2, cLen_t, cLen_l, cLen_z, cInt_i, cInt_b, cI1_i, cI2_i, eIsi_ap, eqS_i, neS_i, eqS_b, neS_b, eqS_p, isN_d, isBl_b, eSl_ap, pNone_ap, pSome_ap, kPt_i, slS_t, nRev_ap, eM1_ap, sSetI_ap, sPutD_ap, eNewT_ap, itOf_ap, itAny_ap, kIter_t, kIter_k, kIter_l, kEnum_l, kZip_l, turnK_some, turnS_ap, loop_nil, nLc_ap, nLcM_ap, tYes_ap, cut_set, cut_setold, eDc_ap, sRetRev_ap, List.set_cons_zero, List.set_cons_succ, List.getElem?_cons_zero, List.getElem?_cons_succ, Option.bind_some, List.length_cons, List.length_nil, lstK0, tupK0, lstK1, tupK1, lstK2, tupK2, lstK3, tupK3, lstK4, tupK4, lstK5, tupK5, List.cons_append, List.nil_append, wipeE, len_app, hw, ← hT', e]
  rfl
theorem law_whole_spec {b d : Nat} {kk : Kinds} {st : Sto} (ok : BookOk b kk) (hd : d ≤ 4) : m_x_law_whole [.d (bookV b kk), .d (.int d)] st = .ok (.n (((squares b kk d).map xyP).map placeV)) st := by
  have hl : (List.range d).length = d := List.length_range
  obtain ⟨ρ', S', e, T, w, i, u5, u6, u7, u8, u9, rfl, rfl, ⟨T', hT', hw⟩, hi⟩ := loop_rest (h := turnS (gN 5) l_x_law_whole_2) (enc := natV) (SqP b kk d st (some (.d (bookV b kk))) (some (.d (.int d)))) (fun x rest ρ S p => sq_step ok hd x rest ρ S p) (List.range d)
    [some (.d (bookV b kk)), some (.d (.int d)), some (.d (.int b)), some (.d (kindsV kk)), some (.d (.lst [partV (0, 0, 0)])), none, none, none, none, none, none, none, none] st
    ⟨[], _, 0, none, none, none, none, none, rfl, by simp, ⟨[], rfl, fun l => rfl⟩, by rw [hl, Nat.zero_add]⟩
  rw [List.length_nil, Nat.add_zero] at hi
  subst hi
  rw [← rgD_nat] at e
  obtain ⟨k1, k2⟩ := squares_ok ok i
  have q := (pow9 (e := i) ok.b2 hd).2.1
  have hw := hw []
  rw [List.append_nil, List.append_nil] at hw
  have lc := lc_mapf (st := st ++ T') (gt := gT (gC (gN 7) (gC (gN 8) (gC (gN 9) gE)))) (t := tYesF) (f := eTup (aCons (eVar 7) (aCons (eVar 8) aNil))) (ρ := [some (.d (bookV b kk)), some (.d (.int i)), some (.d (.int b)), some (.d (kindsV kk)), some w, u5, u6, none, none, none, none, none, none]) (enc := partV) (out := fun p => placeV (xyP p)) (squares b kk i) [] (by rw [List.length_nil, k2]; omega) (fun p hp => by
    refine ⟨_, rfl, rfl, ?_⟩
    simp only [bind_ok, bind_exc, sOf_ok, sOf_exc, sSeq_ap, seqK_nx, seqK_rt, seqK_bk, seqK_ct, seqK_exc, sNil_ap, sPass_ap, sBrk_ap, sCnt_ap, sRetN_ap, sRet_ap, kRet_d, kRet_r, kRet_n, kRet_m, nxK_ap, sExp_ap, ifK_t, ifK_f, sIf_ap, asK_some, kAsg_ap, sAsg_ap, gN_ap, gT_ap, gE_ap, gC_ap, kPar_ap, sPar_ap, setAll_cons, setAll_nil, forK_ap, sFor_ap, varK_some, eVar_ap, eC_ap, eBin_ap, nBin_ap, eNeg_ap, kNeg_i, aNil_ap, aCons_ap, toD_d, toDs_nil, toDs_cons, eTup_ap, nLst_ap, eCall_ap, eCallK_ap, eCB_ap, eIfK_t, eIfK_f, eIf_ap, tOfK_b, tOf_ap, andK_t, andK_f, orK_t, orK_f, tAndF_ap, tOrF_ap, notK_ap, tNotF_ap, eAndK_t, eAndK_f, eOrK_t, eOrK_f, eAnd_ap, eOr_ap, eNot_ap, kNot_b, eFrz_ap, eSto_ap, eFre_ap, eFreM_ap, eSet_ap, eAlc_ap, frozen_ok, stored_ok, storedM_ok, fresh_ok, freshM_ok, settle_d, settle_r, settle_w, settle_n, settle_m, settle_exc, allocS_d, allocS_r, allocS_n, allocS_m, addS_i, mulS_t1, mulS_t0, subS_i, ltS_i, leS_i, gtS_i, geS_i, at_0, at_1, at_2, set_0, set_1, cut_old, cut_all, len_1, len_2, app_app, set_set, set_len, retS_d, retS_n, retS_m, retS_x, list_l, list_s, seq_t, seq_k, atI_0, atI_1, atI_2, cLen_t, cLen_l, cLen_z, cInt_i, cInt_b, cI1_i, cI2_i, eIsi_ap, eqS_i, neS_i, eqS_b, neS_b, eqS_p, isN_d, isBl_b, eSl_ap, pNone_ap, pSome_ap, kPt_i, slS_t, nRev_ap, eM1_ap, sSetI_ap, sPutD_ap, eNewT_ap, itOf_ap, itAny_ap, kIter_t, kIter_k, kIter_l, kEnum_l, kZip_l, turnK_some, turnS_ap, loop_nil, nLc_ap, nLcM_ap, tYes_ap, cut_set, cut_setold, eDc_ap, sRetRev_ap, List.set_cons_zero, List.set_cons_succ, List.getElem?_cons_zero, List.getElem?_cons_succ, Option.bind_some, List.length_cons, List.length_nil, lstK0, tupK0, lstK1, tupK1, lstK2, tupK2, lstK3, tupK3, lstK4, tupK4, lstK5, tupK5, List.cons_append, List.nil_append, wipeE, partV, placeV, xyP])
  have fin : ((squares b kk i).map fun p => placeV (xyP p)) = ((squares b kk i).map xyP).map placeV := by rw [List.map_map]; rfl
  rw [fin] at lc
  unfold m_x_law_whole
  rw [fnS_ap]
  show retS st.length (b_x_law_whole [some (.d (.tup [.int b, kindsV kk])), some (.d (.int i)), none, none, none, none, none, none, none, none, none, none, none] st) = _
  have e0 : partV (0, 0, 0) = Vl.tup [.int 0, .int 0, .int 0] := rfl
  rw [e0, show bookV b kk = Vl.tup [.int b, kindsV kk] from rfl] at e
  rw [show bookV b kk = Vl.tup [.int b, kindsV kk] from rfl] at lc
  unfold b_x_law_whole c_x_law_whole_1
  simp only [bind_ok, bind_exc, sOf_ok, sOf_exc, sSeq_ap, seqK_nx, seqK_rt, seqK_bk, seqK_ct, seqK_exc, sNil_ap, sPass_ap, sBrk_ap, sCnt_ap, sRetN_ap, sRet_ap, kRet_d, kRet_r, kRet_n, kRet_m, nxK_ap, sExp_ap, ifK_t, ifK_f, sIf_ap, asK_some, kAsg_ap, sAsg_ap, gN_ap, gT_ap, gE_ap, gC_ap, kPar_ap, sPar_ap, setAll_cons, setAll_nil, forK_ap, sFor_ap, varK_some, eVar_ap, eC_ap, eBin_ap, nBin_ap, eNeg_ap, kNeg_i, aNil_ap, aCons_ap, toD_d, toDs_nil, toDs_cons, eTup_ap, nLst_ap, eCall_ap, eCallK_ap, eCB_ap, eIfK_t, eIfK_f, eIf_ap, tOfK_b, tOf_ap, andK_t, andK_f, orK_t, orK_f, tAndF_ap, tOrF_ap, notK_ap, tNotF_ap, eAndK_t, eAndK_f, eOrK_t, eOrK_f, eAnd_ap, eOr_ap, eNot_ap, kNot_b, eFrz_ap, eSto_ap, eFre_ap, eFreM_ap, eSet_ap, eAlc_ap, frozen_ok, stored_ok, storedM_ok, fresh_ok, freshM_ok, settle_d, settle_r, settle_w, settle_n, settle_m, settle_exc, allocS_d, allocS_r, allocS_n, allocS_m, addS_i, mulS_t1, mulS_t0, subS_i, ltS_i, leS_i, gtS_i, geS_i, at_0, at_1, at_2, set_0, set_1, cut_old, cut_all, len_1, len_2, app_app, set_set, set_len, retS_d, retS_n, retS_m, retS_x, list_l, list_s, seq_t, seq_k, atI_0, atI_1, atI_2, cLen_t, cLen_l, cLen_z, cInt_i, cInt_b, cI1_i, cI2_i, eIsi_ap, eqS_i, neS_i, eqS_b, neS_b, eqS_p, isN_d, isBl_b, eSl_ap, pNone_ap, pSome_ap, kPt_i, slS_t, nRev_ap, eM1_ap, sSetI_ap, sPutD_ap, eNewT_ap, itOf_ap, itAny_ap, kIter_t, kIter_k, kIter_l, kEnum_l, kZip_l, turnK_some, turnS_ap, loop_nil, nLc_ap, nLcM_ap, tYes_ap, cut_set, cut_setold, eDc_ap, sRetRev_ap, List.set_cons_zero, List.set_cons_succ, List.getElem?_cons_zero, List.getElem?_cons_succ, Option.bind_some, List.length_cons, List.length_nil, lstK0, tupK0, lstK1, tupK1, lstK2, tupK2, lstK3, tupK3, lstK4, tupK4, lstK5, tupK5, List.cons_append, List.nil_append, wipeE, kRg1_i (rgOk_of (show -4611686018427387904 ≤ (i : Int) by omega) (by omega)), Int.toNat_natCast, e, hw, lc]
end K42

namespace K42
open PySem PySem.Spec PyProof.Rows L2 F
/-! ## the curve -/
theorem flat_congr {α β : Type} {l : List α} {f g : α → List β} (h : ∀ x ∈ l, f x = g x) : l.flatMap f = l.flatMap g := by
  induction l with
  | nil => rfl
  | cons x l ih => rw [List.flatMap_cons, List.flatMap_cons, h x List.mem_cons_self, ih fun y hy => h y (List.mem_cons_of_mem _ hy)]
theorem range_mul (n m : Nat) : List.range (n * m) = (List.range n).flatMap fun q => (List.range m).map fun r => q * m + r := by
  induction n with
  | zero => simp
  | succ n ih =>
    rw [List.range_succ, List.flatMap_append, ← ih, Nat.succ_mul, List.range_add]
    simp
def curve (b : Nat) (kk : Kinds) (d k : Nat) : List (Nat × Nat) := (List.range ((b * b) ^ d)).map (wayTo b kk d k)
def shift (s : Nat) (p : Nat × Nat) (r : Nat × Nat) : Nat × Nat := (p.1 * s + r.1, p.2 * s + r.2)
theorem curve_succ {b : Nat} {kk : Kinds} (ok : BookOk b kk) {d k : Nat} (hk : k < kk.length) : curve b kk (d + 1) k = (kk.getD k []).flatMap fun p => (curve b kk d p.2.2).map (shift (b ^ d) (xyP p)) := by
  have g1 : kk.getD k [] = kk[k] := by simp [List.getD, hk]
  have kok := ok.ok (kk[k]) (List.getElem_mem hk)
  have hbb0 : 0 < (b * b) ^ d := Nat.pow_pos (Nat.mul_pos (by have := ok.b2; omega) (by have := ok.b2; omega))
  unfold curve
  rw [Nat.pow_succ, Nat.mul_comm, range_mul, List.map_flatMap]
  have e : (kk.getD k []) = (List.range (b * b)).map fun q => (kk.getD k []).getD q (0, 0, 0) := by
    rw [g1, ← kok.len, F.range_getD]
  rw [e, List.flatMap_map]
  refine flat_congr fun q hq => ?_
  rw [List.map_map, List.map_map]
  refine List.map_congr_left fun r hr => ?_
  have hr := List.mem_range.mp hr
  have e1 : (q * (b * b) ^ d + r) / (b * b) ^ d = q := by rw [Nat.mul_comm, Nat.mul_add_div hbb0, Nat.div_eq_of_lt hr, Nat.add_zero]
  have e2 : (q * (b * b) ^ d + r) % (b * b) ^ d = r := by rw [Nat.mul_comm, Nat.mul_add_mod, Nat.mod_eq_of_lt hr]
  show wayTo b kk (d + 1) k (q * (b * b) ^ d + r) = _
  simp only [wayTo, e1, e2]
  rfl
def expandN (b : Nat) (kk : Kinds) : Nat → Sq → Sq
  | 0, L => L
  | d + 1, L => expandN b kk d (expand b kk L)
theorem expandN_succ (b : Nat) (kk : Kinds) : ∀ (d : Nat) (L : Sq), expandN b kk (d + 1) L = expand b kk (expandN b kk d L)
  | 0, L => rfl
  | d + 1, L => expandN_succ b kk d (expand b kk L)
theorem squares_eq (b : Nat) (kk : Kinds) : ∀ d, squares b kk d = expandN b kk d [(0, 0, 0)]
  | 0 => rfl
  | d + 1 => by rw [expandN_succ, ← squares_eq b kk d]; rfl
theorem expandN_curve {b : Nat} {kk : Kinds} (ok : BookOk b kk) : ∀ (d : Nat) (L : Sq), InK kk L → (expandN b kk d L).map xyP = L.flatMap fun q => (curve b kk d q.2.2).map (shift (b ^ d) (xyP q))
  | 0, L, h => by
    have : ∀ q : Nat × Nat × Nat, (curve b kk 0 q.2.2).map (shift (b ^ 0) (xyP q)) = [xyP q] := fun q => by
      show [shift (b ^ 0) (xyP q) (0, 0)] = _
      simp [shift]
    rw [flat_congr fun q _ => this q]
    show L.map xyP = _
    clear h
    induction L with
    | nil => rfl
    | cons q L ih => rw [List.map_cons, List.flatMap_cons, ih]; rfl
  | d + 1, L, h => by
    show (expandN b kk d (expand b kk L)).map xyP = _
    rw [expandN_curve ok d _ (expand_in ok h)]
    unfold expand
    rw [List.flatMap_assoc]
    refine flat_congr fun q hq => ?_
    rw [curve_succ ok (h q hq), List.map_flatMap]
    unfold grow
    rw [List.flatMap_map]
    refine flat_congr fun p hp => ?_
    rw [List.map_map]
    refine List.map_congr_left fun r _ => ?_
    unfold shift xyP
    simp only [Function.comp]
    refine Prod.ext ?_ ?_
    · show (b * q.1 + p.1) * b ^ d + r.1 = q.1 * b ^ (d + 1) + (p.1 * b ^ d + r.1)
      rw [Nat.add_mul, Nat.pow_succ, Nat.mul_comm b q.1, Nat.mul_assoc, Nat.mul_comm b, Nat.add_assoc]
    · show (b * q.2.1 + p.2.1) * b ^ d + r.2 = q.2.1 * b ^ (d + 1) + (p.2.1 * b ^ d + r.2)
      rw [Nat.add_mul, Nat.pow_succ, Nat.mul_comm b q.2.1, Nat.mul_assoc, Nat.mul_comm b, Nat.add_assoc]
theorem squares_cells {b d : Nat} {kk : Kinds} (ok : BookOk b kk) : (squares b kk d).map xyP = cellsP b kk d := by
  rw [squares_eq, expandN_curve ok d _ (fun q hq => by rw [List.mem_singleton.mp hq]; have := ok.len; show 0 < _; omega)]
  rw [List.flatMap_cons, List.flatMap_nil, List.append_nil]
  show (curve b kk d 0).map _ = curve b kk d 0
  have : (shift (b ^ d) (xyP (0, 0, 0))) = id := by
    funext r
    unfold shift xyP
    simp
  rw [this, List.map_id]
theorem way_lt {b : Nat} {kk : Kinds} (ok : BookOk b kk) : ∀ (d k n : Nat), k < kk.length → n < (b * b) ^ d → (wayTo b kk d k n).1 < b ^ d ∧ (wayTo b kk d k n).2 < b ^ d
  | 0, _, _, _, _ => ⟨Nat.one_pos, Nat.one_pos⟩
  | d + 1, k, n, hk, hn => by
    have g1 : kk.getD k [] = kk[k] := by simp [List.getD, hk]
    have kok := ok.ok (kk[k]) (List.getElem_mem hk)
    have hbb0 : 0 < (b * b) ^ d := Nat.pow_pos (Nat.mul_pos (by have := ok.b2; omega) (by have := ok.b2; omega))
    have hq : n / (b * b) ^ d < (kk[k]).length := by
      rw [kok.len]
      refine Nat.div_lt_of_lt_mul ?_
      rw [Nat.pow_succ] at hn
      exact hn
    have g2 : (kk[k]).getD (n / (b * b) ^ d) (0, 0, 0) = (kk[k])[n / (b * b) ^ d] := by simp [List.getD, hq]
    have plt := kok.lt _ (List.getElem_mem hq)
    simp only [wayTo]
    rw [g1, g2]
    obtain ⟨i1, i2⟩ := way_lt ok d _ (n % (b * b) ^ d) plt.2.2 (Nat.mod_lt _ hbb0)
    have step : ∀ p r : Nat, p < b → r < b ^ d → p * b ^ d + r < b ^ (d + 1) := fun p r hp hr => by
      have : (p + 1) * b ^ d ≤ b * b ^ d := Nat.mul_le_mul_right _ hp
      rw [Nat.pow_succ, Nat.mul_comm (b ^ d) b]
      rw [Nat.succ_mul] at this
      omega
    exact ⟨step _ _ plt.1 i1, step _ _ plt.2.1 i2⟩
theorem split_eq {s p r p' r' : Nat} (h : p * s + r = p' * s + r') (hr : r < s) (hr' : r' < s) : p = p' ∧ r = r' := by
  have e1 : (p * s + r) / s = p := by rw [Nat.mul_comm, Nat.mul_add_div (by omega), Nat.div_eq_of_lt hr, Nat.add_zero]
  have e2 : (p' * s + r') / s = p' := by rw [Nat.mul_comm, Nat.mul_add_div (by omega), Nat.div_eq_of_lt hr', Nat.add_zero]
  have : p = p' := by rw [← e1, ← e2, h]
  subst this
  exact ⟨rfl, by omega⟩
theorem way_inj {b : Nat} {kk : Kinds} (ok : BookOk b kk) : ∀ (d k n m : Nat), k < kk.length → n < (b * b) ^ d → m < (b * b) ^ d → wayTo b kk d k n = wayTo b kk d k m → n = m
  | 0, _, n, m, _, hn, hm, _ => by rw [Nat.pow_zero] at hn hm; omega
  | d + 1, k, n, m, hk, hn, hm, e => by
    have g1 : kk.getD k [] = kk[k] := by simp [List.getD, hk]
    have kok := ok.ok (kk[k]) (List.getElem_mem hk)
    have hbb0 : 0 < (b * b) ^ d := Nat.pow_pos (Nat.mul_pos (by have := ok.b2; omega) (by have := ok.b2; omega))
    have hq : ∀ n, n < (b * b) ^ (d + 1) → n / (b * b) ^ d < (kk[k]).length := fun n hn => by
      rw [kok.len]
      refine Nat.div_lt_of_lt_mul ?_
      rw [Nat.pow_succ] at hn
      exact hn
    have g2 : ∀ q (h : q < (kk[k]).length), (kk[k]).getD q (0, 0, 0) = (kk[k])[q] := fun q h => by simp [List.getD, h]
    simp only [wayTo] at e
    rw [g1, g2 _ (hq n hn), g2 _ (hq m hm)] at e
    have pn := kok.lt _ (List.getElem_mem (hq n hn))
    have pm := kok.lt _ (List.getElem_mem (hq m hm))
    obtain ⟨a1, a2⟩ := way_lt ok d _ (n % (b * b) ^ d) pn.2.2 (Nat.mod_lt _ hbb0)
    obtain ⟨b1, b2⟩ := way_lt ok d _ (m % (b * b) ^ d) pm.2.2 (Nat.mod_lt _ hbb0)
    obtain ⟨x1, x2⟩ := split_eq (congrArg Prod.fst e) a1 b1
    obtain ⟨y1, y2⟩ := split_eq (congrArg Prod.snd e) a2 b2
    have same : n / (b * b) ^ d = m / (b * b) ^ d := by
      have nd := kok.nd
      have h1 : ((kk[k]).map fun q => (q.1, q.2.1))[n / (b * b) ^ d]'(by rw [List.length_map]; exact hq n hn) = ((kk[k]).map fun q => (q.1, q.2.1))[m / (b * b) ^ d]'(by rw [List.length_map]; exact hq m hm) := by
        rw [List.getElem_map, List.getElem_map]
        exact Prod.ext x1 y1
      exact (List.getElem_inj nd).mp h1
    simp only [same] at x2 y2 a1
    have := way_inj ok d _ (n % (b * b) ^ d) (m % (b * b) ^ d) pm.2.2 (Nat.mod_lt _ hbb0) (Nat.mod_lt _ hbb0) (Prod.ext x2 y2)
    rw [← Nat.div_add_mod n ((b * b) ^ d), ← Nat.div_add_mod m ((b * b) ^ d), same, this]
/-- as many different things as there are: all of them -/
theorem pigeon {α : Type} [DecidableEq α] : ∀ (l m : List α), l.Nodup → (∀ x ∈ l, x ∈ m) → m.length ≤ l.length → ∀ x ∈ m, x ∈ l
  | [], m, _, _, h, x, hx => by
    cases m with
    | nil => exact hx
    | cons _ _ => simp at h
  | a :: l, m, nd, s, h, x, hx => by
    have n2 := List.nodup_cons.mp nd
    have ha := s a List.mem_cons_self
    by_cases e : x = a
    · subst e; exact List.mem_cons_self
    · have := pigeon l (m.erase a) n2.2 (fun y hy => (List.mem_erase_of_ne (fun z => n2.1 (by rw [← z]; exact hy))).mpr (s y (List.mem_cons_of_mem _ hy))) (by
        rw [List.length_erase_of_mem ha]
        rw [List.length_cons] at h
        omega) x ((List.mem_erase_of_ne e).mpr hx)
      exact List.mem_cons_of_mem _ this
structure CellsOk (s : Nat) (cs : List (Nat × Nat)) : Prop where
  len : cs.length = s * s
  lt : ∀ c ∈ cs, c.1 < s ∧ c.2 < s
  nd : cs.Nodup
  all : ∀ x y, x < s → y < s → (x, y) ∈ cs
theorem cells_ok {b d : Nat} {kk : Kinds} (ok : BookOk b kk) : CellsOk (b ^ d) (cellsP b kk d) := by
  have hk : 0 < kk.length := by have := ok.len; omega
  have hlen : (cellsP b kk d).length = b ^ d * b ^ d := by unfold cellsP; rw [List.length_map, List.length_range, Nat.mul_pow]
  have hlt : ∀ c ∈ cellsP b kk d, c.1 < b ^ d ∧ c.2 < b ^ d := fun c hc => by
    obtain ⟨n, hn, rfl⟩ := List.mem_map.mp hc
    exact way_lt ok d 0 n hk (List.mem_range.mp hn)
  have nd : (cellsP b kk d).Nodup := nodup_on (fun n hn m hm e => way_inj ok d 0 n m hk (List.mem_range.mp hn) (List.mem_range.mp hm) e) List.nodup_range
  refine ⟨hlen, hlt, nd, fun x y hx hy => ?_⟩
  refine pigeon _ ((List.range (b ^ d)).flatMap fun x => (List.range (b ^ d)).map fun y => (x, y)) nd (fun c hc => ?_) ?_ _ ?_
  · obtain ⟨h1, h2⟩ := hlt c hc
    exact List.mem_flatMap.mpr ⟨c.1, List.mem_range.mpr h1, List.mem_map.mpr ⟨c.2, List.mem_range.mpr h2, rfl⟩⟩
  · rw [hlen, List.length_flatMap]
    have : ((List.range (b ^ d)).map fun x => ((List.range (b ^ d)).map fun y => (x, y)).length) = List.replicate (b ^ d) (b ^ d) := by
      rw [List.map_congr_left (g := fun _ => b ^ d) fun x _ => by rw [List.length_map, List.length_range], List.map_const', List.length_range]
    rw [this, List.sum_replicate_nat]
    exact Nat.le_refl _
  · exact List.mem_flatMap.mpr ⟨x, List.mem_range.mpr hx, List.mem_map.mpr ⟨y, List.mem_range.mpr hy, rfl⟩⟩
end K42

namespace K42
open PySem PySem.Spec PyProof.Rows L2 F
theorem maxL_of {ns : List Int} {m : Int} (h : ∀ n ∈ ns, n ≤ m) (hm : m ∈ ns) : maxL ns = some m := by
  cases ns with
  | nil => simp at hm
  | cons x xs =>
    obtain ⟨h1, h2⟩ := foldl_max xs x
    show some (xs.foldl maxI x) = some m
    rw [Int.le_antisymm (h _ h2) (h1 m hm)]
theorem side_spec {s : Nat} {cs : List (Nat × Nat)} {st : Sto} (ok : CellsOk s cs) (hs : 1 ≤ s ∧ s ≤ 81) : m_side_of [.d (.lst (cs.map placeV))] st = .ok (.d (.int s)) st := by
  have hlen : cs.length ≤ 6561 := by rw [ok.len]; exact Nat.mul_le_mul hs.2 hs.2
  have lc := lc_mapf (st := st) (gt := gT (gC (gN 1) (gC (gN 2) gE))) (t := tYesF) (f := eVar 1) (ρ := [some (.d (.lst (cs.map placeV))), none, none]) (enc := placeV) (out := fun c => .int c.1) cs [] (by rw [List.length_nil]; omega) (fun c hc => by
    refine ⟨_, rfl, rfl, ?_⟩
    simp only [bind_ok, bind_exc, sOf_ok, sOf_exc, sSeq_ap, seqK_nx, seqK_rt, seqK_bk, seqK_ct, seqK_exc, sNil_ap, sPass_ap, sBrk_ap, sCnt_ap, sRetN_ap, sRet_ap, kRet_d, kRet_r, kRet_n, kRet_m, nxK_ap, sExp_ap, ifK_t, ifK_f, sIf_ap, asK_some, kAsg_ap, sAsg_ap, gN_ap, gT_ap, gE_ap, gC_ap, kPar_ap, sPar_ap, setAll_cons, setAll_nil, forK_ap, sFor_ap, varK_some, eVar_ap, eC_ap, eBin_ap, nBin_ap, eNeg_ap, kNeg_i, aNil_ap, aCons_ap, toD_d, toDs_nil, toDs_cons, eTup_ap, nLst_ap, eCall_ap, eCallK_ap, eCB_ap, eIfK_t, eIfK_f, eIf_ap, tOfK_b, tOf_ap, andK_t, andK_f, orK_t, orK_f, tAndF_ap, tOrF_ap, notK_ap, tNotF_ap, eAndK_t, eAndK_f, eOrK_t, eOrK_f, eAnd_ap, eOr_ap, eNot_ap, kNot_b, eFrz_ap, eSto_ap, eFre_ap, eFreM_ap, eSet_ap, eAlc_ap, frozen_ok, stored_ok, storedM_ok, fresh_ok, freshM_ok, settle_d, settle_r, settle_w, settle_n, settle_m, settle_exc, allocS_d, allocS_r, allocS_n, allocS_m, addS_i, mulS_t1, mulS_t0, subS_i, ltS_i, leS_i, gtS_i, geS_i, at_0, at_1, at_2, set_0, set_1, cut_old, cut_all, len_1, len_2, app_app, set_set, set_len, retS_d, retS_n, retS_m, retS_x, list_l, list_s, seq_t, seq_k, atI_0, atI_1, atI_2, cLen_t, cLen_l, cLen_z, cInt_i, cInt_b, cI1_i, cI2_i, eIsi_ap, eqS_i, neS_i, eqS_b, neS_b, eqS_p, isN_d, isBl_b, eSl_ap, pNone_ap, pSome_ap, kPt_i, slS_t, nRev_ap, eM1_ap, sSetI_ap, sPutD_ap, eNewT_ap, itOf_ap, itAny_ap, kIter_t, kIter_k, kIter_l, kEnum_l, kZip_l, turnK_some, turnS_ap, loop_nil, nLc_ap, nLcM_ap, tYes_ap, cut_set, cut_setold, eDc_ap, sRetRev_ap, List.set_cons_zero, List.set_cons_succ, List.getElem?_cons_zero, List.getElem?_cons_succ, Option.bind_some, List.length_cons, List.length_nil, lstK0, tupK0, lstK1, tupK1, lstK2, tupK2, lstK3, tupK3, lstK4, tupK4, lstK5, tupK5, List.cons_append, List.nil_append, wipeE])
  have fin : (cs.map fun c => Vl.int c.1) = (cs.map fun c => (c.1 : Int)).map Vl.int := by rw [List.map_map]; rfl
  rw [fin] at lc
  have mx : maxL (cs.map fun c => (c.1 : Int)) = some ((s : Int) - 1) := maxL_of (fun n hn => by
    obtain ⟨c, hc, rfl⟩ := List.mem_map.mp hn
    have := (ok.lt c hc).1
    omega) (List.mem_map.mpr ⟨(s - 1, 0), ok.all _ _ (by omega) (by omega), by show ((s - 1 : Nat) : Int) = _; omega⟩)
  have ci := cInts_l (st := st) (list_l (ds := (cs.map fun c => (c.1 : Int)).map Vl.int)) (ints_map _) mx
  unfold m_side_of
  rw [fnS_ap]
  show retS st.length (b_side_of [some (.d (.lst (cs.map placeV))), none, none] st) = _
  unfold b_side_of c_side_of_1
  simp only [bind_ok, bind_exc, sOf_ok, sOf_exc, sSeq_ap, seqK_nx, seqK_rt, seqK_bk, seqK_ct, seqK_exc, sNil_ap, sPass_ap, sBrk_ap, sCnt_ap, sRetN_ap, sRet_ap, kRet_d, kRet_r, kRet_n, kRet_m, nxK_ap, sExp_ap, ifK_t, ifK_f, sIf_ap, asK_some, kAsg_ap, sAsg_ap, gN_ap, gT_ap, gE_ap, gC_ap, kPar_ap, sPar_ap, setAll_cons, setAll_nil, forK_ap, sFor_ap, varK_some, eVar_ap, eC_ap, eBin_ap, nBin_ap, eNeg_ap, kNeg_i, aNil_ap, aCons_ap, toD_d, toDs_nil, toDs_cons, eTup_ap, nLst_ap, eCall_ap, eCallK_ap, eCB_ap, eIfK_t, eIfK_f, eIf_ap, tOfK_b, tOf_ap, andK_t, andK_f, orK_t, orK_f, tAndF_ap, tOrF_ap, notK_ap, tNotF_ap, eAndK_t, eAndK_f, eOrK_t, eOrK_f, eAnd_ap, eOr_ap, eNot_ap, kNot_b, eFrz_ap, eSto_ap, eFre_ap, eFreM_ap, eSet_ap, eAlc_ap, frozen_ok, stored_ok, storedM_ok, fresh_ok, freshM_ok, settle_d, settle_r, settle_w, settle_n, settle_m, settle_exc, allocS_d, allocS_r, allocS_n, allocS_m, addS_i, mulS_t1, mulS_t0, subS_i, ltS_i, leS_i, gtS_i, geS_i, at_0, at_1, at_2, set_0, set_1, cut_old, cut_all, len_1, len_2, app_app, set_set, set_len, retS_d, retS_n, retS_m, retS_x, list_l, list_s, seq_t, seq_k, atI_0, atI_1, atI_2, cLen_t, cLen_l, cLen_z, cInt_i, cInt_b, cI1_i, cI2_i, eIsi_ap, eqS_i, neS_i, eqS_b, neS_b, eqS_p, isN_d, isBl_b, eSl_ap, pNone_ap, pSome_ap, kPt_i, slS_t, nRev_ap, eM1_ap, sSetI_ap, sPutD_ap, eNewT_ap, itOf_ap, itAny_ap, kIter_t, kIter_k, kIter_l, kEnum_l, kZip_l, turnK_some, turnS_ap, loop_nil, nLc_ap, nLcM_ap, tYes_ap, cut_set, cut_setold, eDc_ap, sRetRev_ap, List.set_cons_zero, List.set_cons_succ, List.getElem?_cons_zero, List.getElem?_cons_succ, Option.bind_some, List.length_cons, List.length_nil, lstK0, tupK0, lstK1, tupK1, lstK2, tupK2, lstK3, tupK3, lstK4, tupK4, lstK5, tupK5, List.cons_append, List.nil_append, wipeE, lc, ci, show (1 : Int) + ((s : Int) - 1) = (s : Int) by omega]
/-! ### tables -/
def tab (w h : Nat) (f : Nat → Nat → Vl) : List (List Vl) := (List.range h).map fun y => (List.range w).map fun x => f x y
def upd2 (f : Nat → Nat → Vl) (x y : Nat) (v : Vl) : Nat → Nat → Vl := fun x' y' => if x' = x ∧ y' = y then v else f x' y'
theorem tab_row {w h : Nat} {f : Nat → Nat → Vl} {y : Nat} (hy : y < h) : (tab w h f)[y]? = some ((List.range w).map fun x => f x y) := by
  unfold tab
  rw [List.getElem?_map, List.getElem?_range hy]
  rfl
theorem tab_len {w h : Nat} {f : Nat → Nat → Vl} : (tab w h f).length = h := by unfold tab; rw [List.length_map, List.length_range]
theorem tab_set {w h : Nat} {f : Nat → Nat → Vl} {x y : Nat} {v : Vl} (hy : y < h) : (tab w h f).set y (((List.range w).map fun x => f x y).set x v) = tab w h (upd2 f x y v) := by
  apply List.ext_getElem?
  intro j
  by_cases hj : j = y
  · subst hj
    rw [List.getElem?_set_self (by rw [tab_len]; exact hy), tab_row hy]
    congr 1
    apply List.ext_getElem?
    intro i
    rw [List.getElem?_map]
    by_cases hi : i = x
    · subst hi
      by_cases hw : i < w
      · rw [List.getElem?_set_self (by rw [List.length_map, List.length_range]; exact hw), List.getElem?_range hw]
        simp [upd2]
      · rw [List.getElem?_eq_none (by rw [List.length_set, List.length_map, List.length_range]; omega), List.getElem?_eq_none (by rw [List.length_range]; omega)]
        rfl
    · rw [List.getElem?_set_ne (Ne.symm hi), List.getElem?_map]
      by_cases hw : i < w
      · rw [List.getElem?_range hw]
        simp [upd2, hi]
      · rw [List.getElem?_eq_none (by rw [List.length_range]; omega)]
        rfl
  · rw [List.getElem?_set_ne (Ne.symm hj)]
    by_cases hh : j < h
    · rw [tab_row hh, tab_row hh]
      congr 1
      refine List.map_congr_left fun i _ => ?_
      simp [upd2, hj]
    · rw [List.getElem?_eq_none (by rw [tab_len]; omega), List.getElem?_eq_none (by rw [tab_len]; omega)]
theorem tab_congr {w h : Nat} {f g : Nat → Nat → Vl} (e : ∀ x y, x < w → y < h → f x y = g x y) : tab w h f = tab w h g := by
  unfold tab
  refine List.map_congr_left fun y hy => List.map_congr_left fun x hx => e x y (List.mem_range.mp hx) (List.mem_range.mp hy)
/-- the number of a cell -/
def no (cs : List (Nat × Nat)) (x y : Nat) : Nat := cs.idxOf (x, y)
theorem no_lt {s : Nat} {cs : List (Nat × Nat)} (ok : CellsOk s cs) {x y : Nat} (hx : x < s) (hy : y < s) : no cs x y < cs.length := List.idxOf_lt_length_iff.mpr (ok.all x y hx hy)
theorem no_at {s : Nat} {cs : List (Nat × Nat)} (ok : CellsOk s cs) {x y : Nat} (hx : x < s) (hy : y < s) : cs[no cs x y]? = some (x, y) := by
  rw [List.getElem?_eq_getElem (no_lt ok hx hy)]
  congr 1
  exact List.getElem_idxOf _
theorem no_of {s : Nat} {cs : List (Nat × Nat)} (ok : CellsOk s cs) {i : Nat} {c : Nat × Nat} (h : cs[i]? = some c) : no cs c.1 c.2 = i := by
  obtain ⟨hi, e⟩ := List.getElem?_eq_some_iff.mp h
  have hm := ok.lt c (List.mem_of_getElem? h)
  obtain ⟨hj, e2⟩ := List.getElem?_eq_some_iff.mp (no_at ok hm.1 hm.2)
  exact (List.getElem_inj ok.nd).mp (e2.trans e.symm)
def enumV (cs : List (Nat × Nat)) (i : Nat) : Vl := .tup [.int i, placeV (cs.getD i (0, 0))]
theorem enum_eq (cs : List (Nat × Nat)) : ((cs.map placeV).mapIdx fun i d => Vl.tup [.int (i : Nat), d]) = (List.range cs.length).map (enumV cs) := by
  apply List.ext_getElem?
  intro i
  rw [List.getElem?_mapIdx, List.getElem?_map, List.getElem?_map]
  by_cases h : i < cs.length
  · rw [List.getElem?_range h, List.getElem?_eq_getElem h]
    simp [enumV, List.getD, h]
  · rw [List.getElem?_eq_none (by omega), List.getElem?_eq_none (by rw [List.length_range]; omega)]
    rfl
def noTab (s : Nat) (cs : List (Nat × Nat)) : List (List Vl) := tab s s fun x y => .int (no cs x y)
theorem numbers_spec {b d : Nat} {kk : Kinds} {st : Sto} (ok : BookOk b kk) (hd : d ≤ 4) : m_numbers_drawn [.d (bookV b kk), .d (.int d)] st = .ok (.m (noTab (b ^ d) (cellsP b kk d)).reverse) st := by
  have co := cells_ok (d := d) ok
  obtain ⟨q1, q2, q3, q4⟩ := pow9 (e := d) ok.b2 hd
  obtain ⟨cs, hcs⟩ : ∃ cs, cs = cellsP b kk d := ⟨_, rfl⟩
  obtain ⟨s, hs⟩ : ∃ s, s = b ^ d := ⟨_, rfl⟩
  rw [← hcs, ← hs] at co
  rw [← hs] at q3 q4
  have wh := whole_spec (st := st) ok hd
  rw [← hcs] at wh
  rw [← hcs, ← hs]
  have hlen : cs.length ≤ 6561 := by rw [co.len]; exact Nat.mul_le_mul q4 q4
  have sd : ∀ st, m_side_of [.d (.lst (cs.map placeV))] st = .ok (.d (.int s)) st := fun st => side_spec co ⟨q3, q4⟩
  have lm := lcM_mapf (st := st) (gt := gN 6) (t := tYesF) (fn := (nBin repS (eFrz (nLst (aCons (eC (.int 0)) aNil))) (eSet (eCall m_side_of (aCons (eVar 2) aNil))))) (ρ := [some (.d (bookV b kk)), some (.d (.int d)), some (.d (.lst (cs.map placeV))), none, none, none, none]) (enc := natV) (out := fun _ => (List.replicate s (Vl.int 0))) (List.range s) [] (by rw [List.length_nil, List.length_range]; omega) (fun i hi => by
    refine ⟨_, rfl, rfl, ?_⟩
    have rp : repS (.d (.lst [.int 0])) (.d (.int s)) st = .ok (List.replicate s (Vl.int 0)) st := repS_1 (by omega)
    simp only [bind_ok, bind_exc, sOf_ok, sOf_exc, sSeq_ap, seqK_nx, seqK_rt, seqK_bk, seqK_ct, seqK_exc, sNil_ap, sPass_ap, sBrk_ap, sCnt_ap, sRetN_ap, sRet_ap, kRet_d, kRet_r, kRet_n, kRet_m, nxK_ap, sExp_ap, ifK_t, ifK_f, sIf_ap, asK_some, kAsg_ap, sAsg_ap, gN_ap, gT_ap, gE_ap, gC_ap, kPar_ap, sPar_ap, setAll_cons, setAll_nil, forK_ap, sFor_ap, varK_some, eVar_ap, eC_ap, eBin_ap, nBin_ap, eNeg_ap, kNeg_i, aNil_ap, aCons_ap, toD_d, toDs_nil, toDs_cons, eTup_ap, nLst_ap, eCall_ap, eCallK_ap, eCB_ap, eIfK_t, eIfK_f, eIf_ap, tOfK_b, tOf_ap, andK_t, andK_f, orK_t, orK_f, tAndF_ap, tOrF_ap, notK_ap, tNotF_ap, eAndK_t, eAndK_f, eOrK_t, eOrK_f, eAnd_ap, eOr_ap, eNot_ap, kNot_b, eFrz_ap, eSto_ap, eFre_ap, eFreM_ap, eSet_ap, eAlc_ap, frozen_ok, stored_ok, storedM_ok, fresh_ok, freshM_ok, settle_d, settle_r, settle_w, settle_n, settle_m, settle_exc, allocS_d, allocS_r, allocS_n, allocS_m, addS_i, mulS_t1, mulS_t0, subS_i, ltS_i, leS_i, gtS_i, geS_i, at_0, at_1, at_2, set_0, set_1, cut_old, cut_all, len_1, len_2, app_app, set_set, set_len, retS_d, retS_n, retS_m, retS_x, list_l, list_s, seq_t, seq_k, atI_0, atI_1, atI_2, cLen_t, cLen_l, cLen_z, cInt_i, cInt_b, cI1_i, cI2_i, eIsi_ap, eqS_i, neS_i, eqS_b, neS_b, eqS_p, isN_d, isBl_b, eSl_ap, pNone_ap, pSome_ap, kPt_i, slS_t, nRev_ap, eM1_ap, sSetI_ap, sPutD_ap, eNewT_ap, itOf_ap, itAny_ap, kIter_t, kIter_k, kIter_l, kEnum_l, kZip_l, turnK_some, turnS_ap, loop_nil, nLc_ap, nLcM_ap, tYes_ap, cut_set, cut_setold, eDc_ap, sRetRev_ap, List.set_cons_zero, List.set_cons_succ, List.getElem?_cons_zero, List.getElem?_cons_succ, Option.bind_some, List.length_cons, List.length_nil, lstK0, tupK0, lstK1, tupK1, lstK2, tupK2, lstK3, tupK3, lstK4, tupK4, lstK5, tupK5, List.cons_append, List.nil_append, wipeE, nBin_ap, sd, rp])
  have lm0 : ([] : List (List Vl)) ++ (List.range s).map (fun _ => List.replicate s (Vl.int 0)) = tab s s fun _ _ => .int 0 := by
    unfold tab
    rw [List.nil_append]
    refine List.map_congr_left fun y _ => ?_
    rw [List.map_const', List.length_range]
  rw [lm0, ← rgD_nat] at lm
  obtain ⟨ρ', S', e, f, v4, v5, v6, rfl, rfl, hf⟩ := loop_inv (h := turnS (gT (gC (gN 4) (gC (gT (gC (gN 5) (gC (gN 6) gE))) gE))) l_numbers_drawn_1)
    (fun i ρ S => ∃ (f : Nat → Nat → Vl) (v4 v5 v6 : Option Sl), ρ = [some (.d (bookV b kk)), some (.d (.int d)), some (.d (.lst (cs.map placeV))), some (.r st.length), v4, v5, v6] ∧ S = st ++ [Ce.mat (tab s s f)] ∧ ∀ j c, j < i → cs[j]? = some c → f c.1 c.2 = .int j)
    ((List.range cs.length).map (enumV cs)) 0 [some (.d (bookV b kk)), some (.d (.int d)), some (.d (.lst (cs.map placeV))), some (.r st.length), none, none, none] (st ++ [Ce.mat (tab s s fun _ _ => .int 0)])
    ⟨_, _, _, _, rfl, rfl, fun j c h => absurd h (Nat.not_lt_zero j)⟩ (fun i x ρ S hx ⟨f, v4, v5, v6, hρ, hS, hf⟩ => by
      subst hρ hS
      rw [Nat.zero_add] at hf ⊢
      have hi : i < cs.length := by
        have := (List.getElem?_eq_some_iff.mp hx).1
        rw [List.length_map, List.length_range] at this
        exact this
      rw [List.getElem?_map, List.getElem?_range hi] at hx
      cases hx
      obtain ⟨c, hc⟩ : ∃ c, c = cs[i] := ⟨_, rfl⟩
      have hci : cs[i]? = some c := by rw [hc]; exact List.getElem?_eq_getElem hi
      have hlt := co.lt c (List.mem_of_getElem? hci)
      have ev : enumV cs i = .tup [.int i, .tup [.int c.1, .int c.2]] := by
        unfold enumV placeV
        simp [List.getD, hci]
      have hs0 := kSet_w (st := st ++ [Ce.mat (tab s s f)]) (n := st.length) (i := (c.1 : Int)) (k := c.1) (x := .int i) at_0 (tab_row hlt.2) (by rw [List.length_map, List.length_range]; exact ixN_nat hlt.1)
      rw [tab_set hlt.2, set_0] at hs0
      refine ⟨_, _, ?_, upd2 f c.1 c.2 (.int i), some (.d (.int i)), some (.d (.int c.1)), some (.d (.int c.2)), rfl, rfl, fun j c' hj hj' => ?_⟩
      · unfold l_numbers_drawn_1
        rw [ev]
        simp only [bind_ok, bind_exc, sOf_ok, sOf_exc, sSeq_ap, seqK_nx, seqK_rt, seqK_bk, seqK_ct, seqK_exc, sNil_ap, sPass_ap, sBrk_ap, sCnt_ap, sRetN_ap, sRet_ap, kRet_d, kRet_r, kRet_n, kRet_m, nxK_ap, sExp_ap, ifK_t, ifK_f, sIf_ap, asK_some, kAsg_ap, sAsg_ap, gN_ap, gT_ap, gE_ap, gC_ap, kPar_ap, sPar_ap, setAll_cons, setAll_nil, forK_ap, sFor_ap, varK_some, eVar_ap, eC_ap, eBin_ap, nBin_ap, eNeg_ap, kNeg_i, aNil_ap, aCons_ap, toD_d, toDs_nil, toDs_cons, eTup_ap, nLst_ap, eCall_ap, eCallK_ap, eCB_ap, eIfK_t, eIfK_f, eIf_ap, tOfK_b, tOf_ap, andK_t, andK_f, orK_t, orK_f, tAndF_ap, tOrF_ap, notK_ap, tNotF_ap, eAndK_t, eAndK_f, eOrK_t, eOrK_f, eAnd_ap, eOr_ap, eNot_ap, kNot_b, eFrz_ap, eSto_ap, eFre_ap, eFreM_ap, eSet_ap, eAlc_ap, frozen_ok, stored_ok, storedM_ok, fresh_ok, freshM_ok, settle_d, settle_r, settle_w, settle_n, settle_m, settle_exc, allocS_d, allocS_r, allocS_n, allocS_m, addS_i, mulS_t1, mulS_t0, subS_i, ltS_i, leS_i, gtS_i, geS_i, at_0, at_1, at_2, set_0, set_1, cut_old, cut_all, len_1, len_2, app_app, set_set, set_len, retS_d, retS_n, retS_m, retS_x, list_l, list_s, seq_t, seq_k, atI_0, atI_1, atI_2, cLen_t, cLen_l, cLen_z, cInt_i, cInt_b, cI1_i, cI2_i, eIsi_ap, eqS_i, neS_i, eqS_b, neS_b, eqS_p, isN_d, isBl_b, eSl_ap, pNone_ap, pSome_ap, kPt_i, slS_t, nRev_ap, eM1_ap, sSetI_ap, sPutD_ap, eNewT_ap, itOf_ap, itAny_ap, kIter_t, kIter_k, kIter_l, kEnum_l, kZip_l, turnK_some, turnS_ap, loop_nil, nLc_ap, nLcM_ap, tYes_ap, cut_set, cut_setold, eDc_ap, sRetRev_ap, List.set_cons_zero, List.set_cons_succ, List.getElem?_cons_zero, List.getElem?_cons_succ, Option.bind_some, List.length_cons, List.length_nil, lstK0, tupK0, lstK1, tupK1, lstK2, tupK2, lstK3, tupK3, lstK4, tupK4, lstK5, tupK5, List.cons_append, List.nil_append, wipeE, ixA_m (st := st ++ [Ce.mat (tab s s f)]) (n := st.length) at_0 (show ixN (tab s s f).length (c.2 : Int) = some c.2 by rw [tab_len]; exact ixN_nat hlt.2), hs0]
      · unfold upd2
        by_cases e : j = i
        · subst e
          rw [hci] at hj'
          cases hj'
          rw [if_pos ⟨rfl, rfl⟩]
        · rw [if_neg]
          · exact hf j c' (by omega) hj'
          · intro z
            have e1 := no_of co hj'
            have e2 := no_of co hci
            rw [z.1, z.2] at e1
            exact e (e1.symm.trans e2))
  rw [Nat.zero_add, List.length_map, List.length_range] at hf
  have ft : tab s s f = noTab s cs := tab_congr fun x y hx hy => by
    have := hf (no cs x y) (x, y) (no_lt co hx hy) (no_at co hx hy)
    exact this
  rw [ft] at e
  rw [← enum_eq] at e
  unfold m_numbers_drawn
  rw [fnS_ap]
  show retS st.length (b_numbers_drawn [some (.d (bookV b kk)), some (.d (.int d)), none, none, none, none, none] st) = _
  unfold b_numbers_drawn c_numbers_drawn_1
  simp only [bind_ok, bind_exc, sOf_ok, sOf_exc, sSeq_ap, seqK_nx, seqK_rt, seqK_bk, seqK_ct, seqK_exc, sNil_ap, sPass_ap, sBrk_ap, sCnt_ap, sRetN_ap, sRet_ap, kRet_d, kRet_r, kRet_n, kRet_m, nxK_ap, sExp_ap, ifK_t, ifK_f, sIf_ap, asK_some, kAsg_ap, sAsg_ap, gN_ap, gT_ap, gE_ap, gC_ap, kPar_ap, sPar_ap, setAll_cons, setAll_nil, forK_ap, sFor_ap, varK_some, eVar_ap, eC_ap, eBin_ap, nBin_ap, eNeg_ap, kNeg_i, aNil_ap, aCons_ap, toD_d, toDs_nil, toDs_cons, eTup_ap, nLst_ap, eCall_ap, eCallK_ap, eCB_ap, eIfK_t, eIfK_f, eIf_ap, tOfK_b, tOf_ap, andK_t, andK_f, orK_t, orK_f, tAndF_ap, tOrF_ap, notK_ap, tNotF_ap, eAndK_t, eAndK_f, eOrK_t, eOrK_f, eAnd_ap, eOr_ap, eNot_ap, kNot_b, eFrz_ap, eSto_ap, eFre_ap, eFreM_ap, eSet_ap, eAlc_ap, frozen_ok, stored_ok, storedM_ok, fresh_ok, freshM_ok, settle_d, settle_r, settle_w, settle_n, settle_m, settle_exc, allocS_d, allocS_r, allocS_n, allocS_m, addS_i, mulS_t1, mulS_t0, subS_i, ltS_i, leS_i, gtS_i, geS_i, at_0, at_1, at_2, set_0, set_1, cut_old, cut_all, len_1, len_2, app_app, set_set, set_len, retS_d, retS_n, retS_m, retS_x, list_l, list_s, seq_t, seq_k, atI_0, atI_1, atI_2, cLen_t, cLen_l, cLen_z, cInt_i, cInt_b, cI1_i, cI2_i, eIsi_ap, eqS_i, neS_i, eqS_b, neS_b, eqS_p, isN_d, isBl_b, eSl_ap, pNone_ap, pSome_ap, kPt_i, slS_t, nRev_ap, eM1_ap, sSetI_ap, sPutD_ap, eNewT_ap, itOf_ap, itAny_ap, kIter_t, kIter_k, kIter_l, kEnum_l, kZip_l, turnK_some, turnS_ap, loop_nil, nLc_ap, nLcM_ap, tYes_ap, cut_set, cut_setold, eDc_ap, sRetRev_ap, List.set_cons_zero, List.set_cons_succ, List.getElem?_cons_zero, List.getElem?_cons_succ, Option.bind_some, List.length_cons, List.length_nil, lstK0, tupK0, lstK1, tupK1, lstK2, tupK2, lstK3, tupK3, lstK4, tupK4, lstK5, tupK5, List.cons_append, List.nil_append, wipeE, wh, sd, kRg1_i (rgOk_of (show -4611686018427387904 ≤ (s : Int) by omega) (by omega)), Int.toNat_natCast, lm, e, kRev_m at_0, retS_rev (Nat.le_refl st.length) at_0]
/-! ### signs -/
def sgnF (H V : Nat → Nat → Bool) (X Y : Nat) : Vl :=
  if X % 2 = 0 then (if Y % 2 = 0 then .str "o" else if V (X / 2) (Y / 2) = true then .str "|" else .str " ") else (if Y % 2 = 0 then (if H (X / 2) (Y / 2) = true then .str "-" else .str " ") else .str " ")
theorem sgn_h {H V : Nat → Nat → Bool} {m y : Nat} : upd2 (sgnF H V) (2 * m + 1) (2 * y) (.str "-") = sgnF (fun x' y' => H x' y' || (decide (x' = m) && decide (y' = y))) V := by
  funext X Y
  unfold upd2 sgnF
  by_cases h : X = 2 * m + 1 ∧ Y = 2 * y
  · obtain ⟨rfl, rfl⟩ := h
    have e1 : ¬ (2 * m + 1) % 2 = 0 := by omega
    have e2 : (2 * y) % 2 = 0 := by omega
    have e3 : (2 * m + 1) / 2 = m := by omega
    have e4 : 2 * y / 2 = y := by omega
    simp [e1, e2, e3, e4]
  · rw [if_neg h]
    by_cases e1 : X % 2 = 0
    · simp [e1]
    · by_cases e2 : Y % 2 = 0
      · have : ¬ (X / 2 = m ∧ Y / 2 = y) := fun z => h ⟨by omega, by omega⟩
        have e : (decide (X / 2 = m) && decide (Y / 2 = y)) = false := by
          rw [← Bool.decide_and]
          exact decide_eq_false this
        simp only [e1, e2, if_false, if_true, e, Bool.or_false]
      · simp [e1, e2]
theorem sgn_v {H V : Nat → Nat → Bool} {x m : Nat} : upd2 (sgnF H V) (2 * x) (2 * m + 1) (.str "|") = sgnF H (fun x' y' => V x' y' || (decide (x' = x) && decide (y' = m))) := by
  funext X Y
  unfold upd2 sgnF
  by_cases h : X = 2 * x ∧ Y = 2 * m + 1
  · obtain ⟨rfl, rfl⟩ := h
    have e1 : ¬ (2 * m + 1) % 2 = 0 := by omega
    have e2 : (2 * x) % 2 = 0 := by omega
    have e3 : (2 * m + 1) / 2 = m := by omega
    have e4 : 2 * x / 2 = x := by omega
    simp [e1, e2, e3, e4]
  · rw [if_neg h]
    by_cases e1 : X % 2 = 0
    · by_cases e2 : Y % 2 = 0
      · simp [e1, e2]
      · have : ¬ (X / 2 = x ∧ Y / 2 = m) := fun z => h ⟨by omega, by omega⟩
        have e : (decide (X / 2 = x) && decide (Y / 2 = m)) = false := by
          rw [← Bool.decide_and]
          exact decide_eq_false this
        simp only [e1, e2, if_false, if_true, e, Bool.or_false]
    · simp [e1]
theorem sgn_congr {H V H' V' : Nat → Nat → Bool} {s : Nat} (hs : 1 ≤ s) (h : ∀ x y, x + 1 < s → y < s → H x y = H' x y) (v : ∀ x y, x < s → y + 1 < s → V x y = V' x y) : tab (2 * s - 1) (2 * s - 1) (sgnF H V) = tab (2 * s - 1) (2 * s - 1) (sgnF H' V') := by
  refine tab_congr fun X Y hX hY => ?_
  unfold sgnF
  by_cases e1 : X % 2 = 0
  · by_cases e2 : Y % 2 = 0
    · simp [e1, e2]
    · simp only [e1, e2, if_false, if_true, v (X / 2) (Y / 2) (by omega) (by omega)]
  · by_cases e2 : Y % 2 = 0
    · simp only [e1, e2, if_false, if_true, h (X / 2) (Y / 2) (by omega) (by omega)]
    · simp [e1, e2]
/-- two cells joined by one of the first i steps -/
def near (cs : List (Nat × Nat)) (i : Nat) (x y x' y' : Nat) : Bool := decide ((no cs x y + 1 = no cs x' y' ∧ no cs x y < i) ∨ (no cs x' y' + 1 = no cs x y ∧ no cs x' y' < i))
theorem near_succ {s : Nat} {cs : List (Nat × Nat)} (ok : CellsOk s cs) {i : Nat} {c c' : Nat × Nat} (h : cs[i]? = some c) (h' : cs[i + 1]? = some c') {x y x' y' : Nat} (hx : x < s) (hy : y < s) (hx' : x' < s) (hy' : y' < s) :
    near cs (i + 1) x y x' y' = (near cs i x y x' y' || decide (((x, y) = c ∧ (x', y') = c') ∨ ((x, y) = c' ∧ (x', y') = c))) := by
  have is : ∀ {x y j : Nat} {c : Nat × Nat}, x < s → y < s → cs[j]? = some c → (no cs x y = j ↔ (x, y) = c) := fun {x y j c} hx hy h => by
    constructor
    · intro e
      have := no_at ok hx hy
      rw [e, h] at this
      exact (Option.some.inj this).symm
    · intro e
      subst e
      exact no_of ok h
  unfold near
  rw [← Bool.decide_or]
  apply decide_eq_decide.mpr
  rw [← is hx hy h, ← is hx' hy' h', ← is hx hy h', ← is hx' hy' h]
  omega
def hEdge (cs : List (Nat × Nat)) (i x y : Nat) : Bool := near cs i x y (x + 1) y
def vEdge (cs : List (Nat × Nat)) (i x y : Nat) : Bool := near cs i x y x (y + 1)
theorem absI_nat (a b : Nat) : absI ((a : Int) - (b : Int)) = ((if a ≤ b then b - a else a - b : Nat) : Int) := by
  unfold absI
  split <;> split <;> omega
def sgnTab (s : Nat) (cs : List (Nat × Nat)) (i : Nat) : List (List Vl) := tab (2 * s - 1) (2 * s - 1) (sgnF (hEdge cs i) (vEdge cs i))
theorem sgn_step {s : Nat} {cs : List (Nat × Nat)} (ok : CellsOk s cs) (hs : 1 ≤ s ∧ s ≤ 81) {i : Nat} {c c' : Nat × Nat} (h : cs[i]? = some c) (h' : cs[i + 1]? = some c') {st : Sto} {u0 u1 u3 u4 u5 u6 u7 : Option Sl} :
    ∃ v5, turnS (gT (gC (gN 3) (gC (gN 4) gE))) l_signs_of_1 (.tup [placeV c, placeV c']) [u0, u1, some (.r st.length), u3, u4, u5, u6, u7] (st ++ [Ce.mat (sgnTab s cs i)]) = .nx [u0, u1, some (.r st.length), some (.d (placeV c)), some (.d (placeV c')), v5, u6, u7] (st ++ [Ce.mat (sgnTab s cs (i + 1))]) := by
  have l1 := ok.lt c (List.mem_of_getElem? h)
  have l2 := ok.lt c' (List.mem_of_getElem? h')
  obtain ⟨a, b⟩ := c
  obtain ⟨a', b'⟩ := c'
  dsimp only at l1 l2
  have hh : ∀ x y, x + 1 < s → y < s → hEdge cs (i + 1) x y = (hEdge cs i x y || decide ((x = a ∧ y = b ∧ x + 1 = a' ∧ y = b') ∨ (x = a' ∧ y = b' ∧ x + 1 = a ∧ y = b))) := fun x y hx hy => by
    unfold hEdge
    rw [near_succ ok h h' (by omega) hy hx hy]
    congr 1
    apply decide_eq_decide.mpr
    simp only [Prod.mk.injEq]
    omega
  have vv : ∀ x y, x < s → y + 1 < s → vEdge cs (i + 1) x y = (vEdge cs i x y || decide ((x = a ∧ y = b ∧ x = a' ∧ y + 1 = b') ∨ (x = a' ∧ y = b' ∧ x = a ∧ y + 1 = b))) := fun x y hx hy => by
    unfold vEdge
    rw [near_succ ok h h' hx (by omega) hx hy]
    congr 1
    apply decide_eq_decide.mpr
    simp only [Prod.mk.injEq]
    omega
  refine ⟨some (.d (.tup [.int (if a ≤ a' then a' - a else a - a' : Nat), .int (if b ≤ b' then b' - b else b - b' : Nat)])), ?_⟩
  unfold l_signs_of_1 placeV
  by_cases c1 : (if a ≤ a' then a' - a else a - a') = 1 ∧ (if b ≤ b' then b' - b else b - b') = 0
  · have e1 : ((((if a ≤ a' then a' - a else a - a' : Nat) : Int) == 1) && (((if b ≤ b' then b' - b else b - b' : Nat) : Int) == 0)) = true := by rw [c1.1, c1.2]; rfl
    have e2 : ((((if a ≤ a' then a' - a else a - a' : Nat) : Int) == 0) && (((if b ≤ b' then b' - b else b - b' : Nat) : Int) == 1)) = false := by rw [c1.1, c1.2]; rfl
    have eb : b = b' := by have := c1.2; split at this <;> omega
    subst eb
    obtain ⟨m, hm⟩ : ∃ m, a + a' = 2 * m + 1 ∧ ((m = a ∧ m + 1 = a') ∨ (m = a' ∧ m + 1 = a)) := by
      have := c1.1
      split at this
      · exact ⟨a, by omega, .inl ⟨rfl, by omega⟩⟩
      · exact ⟨a', by omega, .inr ⟨rfl, by omega⟩⟩
    have hrow : (2 * b) < 2 * s - 1 := by omega
    have hcol : (2 * m + 1) < 2 * s - 1 := by omega
    have ks := kSet_w (st := st ++ [Ce.mat (sgnTab s cs i)]) (n := st.length) (i := ((2 * m + 1 : Nat) : Int)) (k := 2 * m + 1) (x := .str "-") at_0 (tab_row hrow) (by rw [List.length_map, List.length_range]; exact ixN_nat hcol)
    unfold sgnTab at ks
    rw [tab_set hrow, set_0, sgn_h] at ks
    have fin : tab (2 * s - 1) (2 * s - 1) (sgnF (fun x' y' => hEdge cs i x' y' || (decide (x' = m) && decide (y' = b))) (vEdge cs i)) = sgnTab s cs (i + 1) := by
      refine sgn_congr hs.1 (fun x y hx hy => ?_) (fun x y hx hy => ?_)
      · rw [hh x y hx hy]
        congr 1
        rw [← Bool.decide_and]
        apply decide_eq_decide.mpr
        omega
      · rw [vv x y hx hy, show decide ((x = a ∧ y = b ∧ x = a' ∧ y + 1 = b) ∨ (x = a' ∧ y = b ∧ x = a ∧ y + 1 = b)) = false from decide_eq_false (by omega), Bool.or_false]
    rw [fin] at ks
    have ix : ixA (.r st.length) (.d (.int ((2 * b : Nat) : Int))) (st ++ [Ce.mat (sgnTab s cs i)]) = .ok (.w st.length (2 * b)) (st ++ [Ce.mat (sgnTab s cs i)]) := ixA_m at_0 (by unfold sgnTab; rw [tab_len]; exact ixN_nat hrow)
    unfold sgnTab at ix ks ⊢
    simp only [bind_ok, bind_exc, sOf_ok, sOf_exc, sSeq_ap, seqK_nx, seqK_rt, seqK_bk, seqK_ct, seqK_exc, sNil_ap, sPass_ap, sBrk_ap, sCnt_ap, sRetN_ap, sRet_ap, kRet_d, kRet_r, kRet_n, kRet_m, nxK_ap, sExp_ap, ifK_t, ifK_f, sIf_ap, asK_some, kAsg_ap, sAsg_ap, gN_ap, gT_ap, gE_ap, gC_ap, kPar_ap, sPar_ap, setAll_cons, setAll_nil, forK_ap, sFor_ap, varK_some, eVar_ap, eC_ap, eBin_ap, nBin_ap, eNeg_ap, kNeg_i, aNil_ap, aCons_ap, toD_d, toDs_nil, toDs_cons, eTup_ap, nLst_ap, eCall_ap, eCallK_ap, eCB_ap, eIfK_t, eIfK_f, eIf_ap, tOfK_b, tOf_ap, andK_t, andK_f, orK_t, orK_f, tAndF_ap, tOrF_ap, notK_ap, tNotF_ap, eAndK_t, eAndK_f, eOrK_t, eOrK_f, eAnd_ap, eOr_ap, eNot_ap, kNot_b, eFrz_ap, eSto_ap, eFre_ap, eFreM_ap, eSet_ap, eAlc_ap, frozen_ok, stored_ok, storedM_ok, fresh_ok, freshM_ok, settle_d, settle_r, settle_w, settle_n, settle_m, settle_exc, allocS_d, allocS_r, allocS_n, allocS_m, addS_i, mulS_t1, mulS_t0, subS_i, ltS_i, leS_i, gtS_i, geS_i, at_0, at_1, at_2, set_0, set_1, cut_old, cut_all, len_1, len_2, app_app, set_set, set_len, retS_d, retS_n, retS_m, retS_x, list_l, list_s, seq_t, seq_k, atI_0, atI_1, atI_2, cLen_t, cLen_l, cLen_z, cInt_i, cInt_b, cI1_i, cI2_i, eIsi_ap, eqS_i, neS_i, eqS_b, neS_b, eqS_p, isN_d, isBl_b, eSl_ap, pNone_ap, pSome_ap, kPt_i, slS_t, nRev_ap, eM1_ap, sSetI_ap, sPutD_ap, eNewT_ap, itOf_ap, itAny_ap, kIter_t, kIter_k, kIter_l, kEnum_l, kZip_l, turnK_some, turnS_ap, loop_nil, nLc_ap, nLcM_ap, tYes_ap, cut_set, cut_setold, eDc_ap, sRetRev_ap, List.set_cons_zero, List.set_cons_succ, List.getElem?_cons_zero, List.getElem?_cons_succ, Option.bind_some, List.length_cons, List.length_nil, lstK0, tupK0, lstK1, tupK1, lstK2, tupK2, lstK3, tupK3, lstK4, tupK4, lstK5, tupK5, List.cons_append, List.nil_append, wipeE, ixA_t atI_0, ixA_t atI_1, absI_nat, e1, e2, mulc_l (show (2 : Int).natAbs < 2 ^ 60 by decide), show (2 : Int) * (b : Int) = ((2 * b : Nat) : Int) by omega, ix, show (a : Int) + (a' : Int) = ((2 * m + 1 : Nat) : Int) by omega, ks]
  · have e1 : ((((if a ≤ a' then a' - a else a - a' : Nat) : Int) == 1) && (((if b ≤ b' then b' - b else b - b' : Nat) : Int) == 0)) = false := by
      rw [Bool.and_eq_false_iff, beq_eq_false_iff_ne, beq_eq_false_iff_ne]
      omega
    by_cases c2 : (if a ≤ a' then a' - a else a - a') = 0 ∧ (if b ≤ b' then b' - b else b - b') = 1
    · have e2 : ((((if a ≤ a' then a' - a else a - a' : Nat) : Int) == 0) && (((if b ≤ b' then b' - b else b - b' : Nat) : Int) == 1)) = true := by rw [c2.1, c2.2]; rfl
      have ea : a = a' := by have := c2.1; split at this <;> omega
      subst ea
      obtain ⟨m, hm⟩ : ∃ m, b + b' = 2 * m + 1 ∧ ((m = b ∧ m + 1 = b') ∨ (m = b' ∧ m + 1 = b)) := by
        have := c2.2
        split at this
        · exact ⟨b, by omega, .inl ⟨rfl, by omega⟩⟩
        · exact ⟨b', by omega, .inr ⟨rfl, by omega⟩⟩
      have hrow : (2 * m + 1) < 2 * s - 1 := by omega
      have hcol : (2 * a) < 2 * s - 1 := by omega
      have ks := kSet_w (st := st ++ [Ce.mat (sgnTab s cs i)]) (n := st.length) (i := ((2 * a : Nat) : Int)) (k := 2 * a) (x := .str "|") at_0 (tab_row hrow) (by rw [List.length_map, List.length_range]; exact ixN_nat hcol)
      unfold sgnTab at ks
      rw [tab_set hrow, set_0, sgn_v] at ks
      have fin : tab (2 * s - 1) (2 * s - 1) (sgnF (hEdge cs i) (fun x' y' => vEdge cs i x' y' || (decide (x' = a) && decide (y' = m)))) = sgnTab s cs (i + 1) := by
        refine sgn_congr hs.1 (fun x y hx hy => ?_) (fun x y hx hy => ?_)
        · rw [hh x y hx hy, show decide ((x = a ∧ y = b ∧ x + 1 = a ∧ y = b') ∨ (x = a ∧ y = b' ∧ x + 1 = a ∧ y = b)) = false from decide_eq_false (by omega), Bool.or_false]
        · rw [vv x y hx hy]
          congr 1
          rw [← Bool.decide_and]
          apply decide_eq_decide.mpr
          omega
      rw [fin] at ks
      have ix : ixA (.r st.length) (.d (.int ((2 * m + 1 : Nat) : Int))) (st ++ [Ce.mat (sgnTab s cs i)]) = .ok (.w st.length (2 * m + 1)) (st ++ [Ce.mat (sgnTab s cs i)]) := ixA_m at_0 (by unfold sgnTab; rw [tab_len]; exact ixN_nat hrow)
      unfold sgnTab at ix ks ⊢
      simp only [bind_ok, bind_exc, sOf_ok, sOf_exc, sSeq_ap, seqK_nx, seqK_rt, seqK_bk, seqK_ct, seqK_exc, sNil_ap, sPass_ap, sBrk_ap, sCnt_ap, sRetN_ap, sRet_ap, kRet_d, kRet_r, kRet_n, kRet_m, nxK_ap, sExp_ap, ifK_t, ifK_f, sIf_ap, asK_some, kAsg_ap, sAsg_ap, gN_ap, gT_ap, gE_ap, gC_ap, kPar_ap, sPar_ap, setAll_cons, setAll_nil, forK_ap, sFor_ap, varK_some, eVar_ap, eC_ap, eBin_ap, nBin_ap, eNeg_ap, kNeg_i, aNil_ap, aCons_ap, toD_d, toDs_nil, toDs_cons, eTup_ap, nLst_ap, eCall_ap, eCallK_ap, eCB_ap, eIfK_t, eIfK_f, eIf_ap, tOfK_b, tOf_ap, andK_t, andK_f, orK_t, orK_f, tAndF_ap, tOrF_ap, notK_ap, tNotF_ap, eAndK_t, eAndK_f, eOrK_t, eOrK_f, eAnd_ap, eOr_ap, eNot_ap, kNot_b, eFrz_ap, eSto_ap, eFre_ap, eFreM_ap, eSet_ap, eAlc_ap, frozen_ok, stored_ok, storedM_ok, fresh_ok, freshM_ok, settle_d, settle_r, settle_w, settle_n, settle_m, settle_exc, allocS_d, allocS_r, allocS_n, allocS_m, addS_i, mulS_t1, mulS_t0, subS_i, ltS_i, leS_i, gtS_i, geS_i, at_0, at_1, at_2, set_0, set_1, cut_old, cut_all, len_1, len_2, app_app, set_set, set_len, retS_d, retS_n, retS_m, retS_x, list_l, list_s, seq_t, seq_k, atI_0, atI_1, atI_2, cLen_t, cLen_l, cLen_z, cInt_i, cInt_b, cI1_i, cI2_i, eIsi_ap, eqS_i, neS_i, eqS_b, neS_b, eqS_p, isN_d, isBl_b, eSl_ap, pNone_ap, pSome_ap, kPt_i, slS_t, nRev_ap, eM1_ap, sSetI_ap, sPutD_ap, eNewT_ap, itOf_ap, itAny_ap, kIter_t, kIter_k, kIter_l, kEnum_l, kZip_l, turnK_some, turnS_ap, loop_nil, nLc_ap, nLcM_ap, tYes_ap, cut_set, cut_setold, eDc_ap, sRetRev_ap, List.set_cons_zero, List.set_cons_succ, List.getElem?_cons_zero, List.getElem?_cons_succ, Option.bind_some, List.length_cons, List.length_nil, lstK0, tupK0, lstK1, tupK1, lstK2, tupK2, lstK3, tupK3, lstK4, tupK4, lstK5, tupK5, List.cons_append, List.nil_append, wipeE, ixA_t atI_0, ixA_t atI_1, absI_nat, e1, e2, mulc_l (show (2 : Int).natAbs < 2 ^ 60 by decide), show (2 : Int) * (a : Int) = ((2 * a : Nat) : Int) by omega, ix, show (b : Int) + (b' : Int) = ((2 * m + 1 : Nat) : Int) by omega, ks]
    · have e2 : ((((if a ≤ a' then a' - a else a - a' : Nat) : Int) == 0) && (((if b ≤ b' then b' - b else b - b' : Nat) : Int) == 1)) = false := by
        rw [Bool.and_eq_false_iff, beq_eq_false_iff_ne, beq_eq_false_iff_ne]
        omega
      have fin : sgnTab s cs i = sgnTab s cs (i + 1) := by
        refine sgn_congr hs.1 (fun x y hx hy => ?_) (fun x y hx hy => ?_)
        · rw [hh x y hx hy, show decide ((x = a ∧ y = b ∧ x + 1 = a' ∧ y = b') ∨ (x = a' ∧ y = b' ∧ x + 1 = a ∧ y = b)) = false from decide_eq_false (fun z => c1 (by rcases z with z | z <;> split <;> split <;> omega)), Bool.or_false]
        · rw [vv x y hx hy, show decide ((x = a ∧ y = b ∧ x = a' ∧ y + 1 = b') ∨ (x = a' ∧ y = b' ∧ x = a ∧ y + 1 = b)) = false from decide_eq_false (fun z => c2 (by rcases z with z | z <;> split <;> split <;> omega)), Bool.or_false]
      rw [← fin]
      simp only [bind_ok, bind_exc, sOf_ok, sOf_exc, sSeq_ap, seqK_nx, seqK_rt, seqK_bk, seqK_ct, seqK_exc, sNil_ap, sPass_ap, sBrk_ap, sCnt_ap, sRetN_ap, sRet_ap, kRet_d, kRet_r, kRet_n, kRet_m, nxK_ap, sExp_ap, ifK_t, ifK_f, sIf_ap, asK_some, kAsg_ap, sAsg_ap, gN_ap, gT_ap, gE_ap, gC_ap, kPar_ap, sPar_ap, setAll_cons, setAll_nil, forK_ap, sFor_ap, varK_some, eVar_ap, eC_ap, eBin_ap, nBin_ap, eNeg_ap, kNeg_i, aNil_ap, aCons_ap, toD_d, toDs_nil, toDs_cons, eTup_ap, nLst_ap, eCall_ap, eCallK_ap, eCB_ap, eIfK_t, eIfK_f, eIf_ap, tOfK_b, tOf_ap, andK_t, andK_f, orK_t, orK_f, tAndF_ap, tOrF_ap, notK_ap, tNotF_ap, eAndK_t, eAndK_f, eOrK_t, eOrK_f, eAnd_ap, eOr_ap, eNot_ap, kNot_b, eFrz_ap, eSto_ap, eFre_ap, eFreM_ap, eSet_ap, eAlc_ap, frozen_ok, stored_ok, storedM_ok, fresh_ok, freshM_ok, settle_d, settle_r, settle_w, settle_n, settle_m, settle_exc, allocS_d, allocS_r, allocS_n, allocS_m, addS_i, mulS_t1, mulS_t0, subS_i, ltS_i, leS_i, gtS_i, geS_i, at_0, at_1, at_2, set_0, set_1, cut_old, cut_all, len_1, len_2, app_app, set_set, set_len, retS_d, retS_n, retS_m, retS_x, list_l, list_s, seq_t, seq_k, atI_0, atI_1, atI_2, cLen_t, cLen_l, cLen_z, cInt_i, cInt_b, cI1_i, cI2_i, eIsi_ap, eqS_i, neS_i, eqS_b, neS_b, eqS_p, isN_d, isBl_b, eSl_ap, pNone_ap, pSome_ap, kPt_i, slS_t, nRev_ap, eM1_ap, sSetI_ap, sPutD_ap, eNewT_ap, itOf_ap, itAny_ap, kIter_t, kIter_k, kIter_l, kEnum_l, kZip_l, turnK_some, turnS_ap, loop_nil, nLc_ap, nLcM_ap, tYes_ap, cut_set, cut_setold, eDc_ap, sRetRev_ap, List.set_cons_zero, List.set_cons_succ, List.getElem?_cons_zero, List.getElem?_cons_succ, Option.bind_some, List.length_cons, List.length_nil, lstK0, tupK0, lstK1, tupK1, lstK2, tupK2, lstK3, tupK3, lstK4, tupK4, lstK5, tupK5, List.cons_append, List.nil_append, wipeE, ixA_t atI_0, ixA_t atI_1, absI_nat, e1, e2]
end K42

namespace K42
open PySem PySem.Spec PyProof.Rows L2 F
theorem cut_1 {ds : List Vl} : F.cutD ds (some 1) none = ds.drop 1 := by
  unfold F.cutD
  have e : HT.sIx ds.length 0 (some 1) = min 1 ds.length := HT.sIx_nat _ _ 1
  rw [e, HT.sIx_none]
  cases ds with
  | nil => rfl
  | cons x xs =>
    rw [List.length_cons, Nat.min_eq_left (by omega), List.drop_succ_cons, List.drop_zero, Nat.add_sub_cancel]
    exact List.take_length
def pairV (cs : List (Nat × Nat)) (i : Nat) : Vl := .tup [placeV (cs.getD i (0, 0)), placeV (cs.getD (i + 1) (0, 0))]
theorem zip_eq (cs : List (Nat × Nat)) : List.zipWith (fun x y => Vl.tup [x, y]) (cs.map placeV) ((cs.map placeV).drop 1) = (List.range (cs.length - 1)).map (pairV cs) := by
  apply List.ext_getElem?
  intro i
  rw [List.getElem?_zipWith, List.getElem?_drop, List.getElem?_map, List.getElem?_map, List.getElem?_map]
  by_cases h : i + 1 < cs.length
  · rw [List.getElem?_range (by omega), List.getElem?_eq_getElem (show i < cs.length by omega), Nat.add_comm 1 i, List.getElem?_eq_getElem h]
    simp [pairV, List.getD, h, show i < cs.length by omega]
  · rw [List.getElem?_eq_none (show cs.length ≤ 1 + i by omega), List.getElem?_eq_none (show (List.range (cs.length - 1)).length ≤ i by rw [List.length_range]; omega)]
    cases cs[i]? <;> rfl
theorem signs_spec {s : Nat} {cs : List (Nat × Nat)} {st : Sto} (ok : CellsOk s cs) (hs : 1 ≤ s ∧ s ≤ 81) : m_signs_of [.d (.lst (cs.map placeV))] st = .ok (.m (sgnTab s cs (cs.length - 1))) st := by
  have hlen : cs.length ≤ 6561 := by rw [ok.len]; exact Nat.mul_le_mul hs.2 hs.2
  have sd := side_spec (st := st) ok hs
  obtain ⟨W, hW⟩ : ∃ W, W = 2 * s - 1 := ⟨_, rfl⟩
  have inner : ∀ y : Nat, y < W → c_signs_of_1 [some (.d (.lst (cs.map placeV))), some (.d (.int W)), none, none, none, none, some (.d (natV y)), none] st = .ok ((List.range W).map fun x => sgnF (hEdge cs 0) (vEdge cs 0) x y) st := fun y hy => by
    have lc := lc_mapf (st := st) (gt := gN 7) (t := tYesF) (f := (eIf (tAndF (tOf (eBin eqS (eBin modS (eVar 7) (eC (.int 2))) (eC (.int 0)))) (tOf (eBin eqS (eBin modS (eVar 6) (eC (.int 2))) (eC (.int 0))))) (eC (.str "o")) (eC (.str " "))))
      (ρ := [some (.d (.lst (cs.map placeV))), some (.d (.int W)), none, none, none, none, some (.d (natV y)), none]) (enc := natV) (out := fun x => sgnF (hEdge cs 0) (vEdge cs 0) x y) (List.range W) [] (by rw [List.length_nil, List.length_range]; omega) (fun x hx => by
      refine ⟨_, rfl, rfl, ?_⟩
      have h0 : hEdge cs 0 (x / 2) (y / 2) = false := decide_eq_false (by omega)
      have v0 : vEdge cs 0 (x / 2) (y / 2) = false := decide_eq_false (by omega)
      unfold sgnF
      by_cases e1 : x % 2 = 0
      · have b1 : ((x : Int) % 2 == 0) = true := by rw [beq_iff_eq]; omega
        by_cases e2 : y % 2 = 0
        · have b2 : ((y : Int) % 2 == 0) = true := by rw [beq_iff_eq]; omega
          simp only [bind_ok, bind_exc, sOf_ok, sOf_exc, sSeq_ap, seqK_nx, seqK_rt, seqK_bk, seqK_ct, seqK_exc, sNil_ap, sPass_ap, sBrk_ap, sCnt_ap, sRetN_ap, sRet_ap, kRet_d, kRet_r, kRet_n, kRet_m, nxK_ap, sExp_ap, ifK_t, ifK_f, sIf_ap, asK_some, kAsg_ap, sAsg_ap, gN_ap, gT_ap, gE_ap, gC_ap, kPar_ap, sPar_ap, setAll_cons, setAll_nil, forK_ap, sFor_ap, varK_some, eVar_ap, eC_ap, eBin_ap, nBin_ap, eNeg_ap, kNeg_i, aNil_ap, aCons_ap, toD_d, toDs_nil, toDs_cons, eTup_ap, nLst_ap, eCall_ap, eCallK_ap, eCB_ap, eIfK_t, eIfK_f, eIf_ap, tOfK_b, tOf_ap, andK_t, andK_f, orK_t, orK_f, tAndF_ap, tOrF_ap, notK_ap, tNotF_ap, eAndK_t, eAndK_f, eOrK_t, eOrK_f, eAnd_ap, eOr_ap, eNot_ap, kNot_b, eFrz_ap, eSto_ap, eFre_ap, eFreM_ap, eSet_ap, eAlc_ap, frozen_ok, stored_ok, storedM_ok, fresh_ok, freshM_ok, settle_d, settle_r, settle_w, settle_n, settle_m, settle_exc, allocS_d, allocS_r, allocS_n, allocS_m, addS_i, mulS_t1, mulS_t0, subS_i, ltS_i, leS_i, gtS_i, geS_i, at_0, at_1, at_2, set_0, set_1, cut_old, cut_all, len_1, len_2, app_app, set_set, set_len, retS_d, retS_n, retS_m, retS_x, list_l, list_s, seq_t, seq_k, atI_0, atI_1, atI_2, cLen_t, cLen_l, cLen_z, cInt_i, cInt_b, cI1_i, cI2_i, eIsi_ap, eqS_i, neS_i, eqS_b, neS_b, eqS_p, isN_d, isBl_b, eSl_ap, pNone_ap, pSome_ap, kPt_i, slS_t, nRev_ap, eM1_ap, sSetI_ap, sPutD_ap, eNewT_ap, itOf_ap, itAny_ap, kIter_t, kIter_k, kIter_l, kEnum_l, kZip_l, turnK_some, turnS_ap, loop_nil, nLc_ap, nLcM_ap, tYes_ap, cut_set, cut_setold, eDc_ap, sRetRev_ap, List.set_cons_zero, List.set_cons_succ, List.getElem?_cons_zero, List.getElem?_cons_succ, Option.bind_some, List.length_cons, List.length_nil, lstK0, tupK0, lstK1, tupK1, lstK2, tupK2, lstK3, tupK3, lstK4, tupK4, lstK5, tupK5, List.cons_append, List.nil_append, wipeE, natV, modS_i (show (0 : Int) < 2 by decide), b1, b2, if_pos e1, if_pos e2]
        · have b2 : ((y : Int) % 2 == 0) = false := by rw [beq_eq_false_iff_ne]; omega
          simp only [bind_ok, bind_exc, sOf_ok, sOf_exc, sSeq_ap, seqK_nx, seqK_rt, seqK_bk, seqK_ct, seqK_exc, sNil_ap, sPass_ap, sBrk_ap, sCnt_ap, sRetN_ap, sRet_ap, kRet_d, kRet_r, kRet_n, kRet_m, nxK_ap, sExp_ap, ifK_t, ifK_f, sIf_ap, asK_some, kAsg_ap, sAsg_ap, gN_ap, gT_ap, gE_ap, gC_ap, kPar_ap, sPar_ap, setAll_cons, setAll_nil, forK_ap, sFor_ap, varK_some, eVar_ap, eC_ap, eBin_ap, nBin_ap, eNeg_ap, kNeg_i, aNil_ap, aCons_ap, toD_d, toDs_nil, toDs_cons, eTup_ap, nLst_ap, eCall_ap, eCallK_ap, eCB_ap, eIfK_t, eIfK_f, eIf_ap, tOfK_b, tOf_ap, andK_t, andK_f, orK_t, orK_f, tAndF_ap, tOrF_ap, notK_ap, tNotF_ap, eAndK_t, eAndK_f, eOrK_t, eOrK_f, eAnd_ap, eOr_ap, eNot_ap, kNot_b, eFrz_ap, eSto_ap, eFre_ap, eFreM_ap, eSet_ap, eAlc_ap, frozen_ok, stored_ok, storedM_ok, fresh_ok, freshM_ok, settle_d, settle_r, settle_w, settle_n, settle_m, settle_exc, allocS_d, allocS_r, allocS_n, allocS_m, addS_i, mulS_t1, mulS_t0, subS_i, ltS_i, leS_i, gtS_i, geS_i, at_0, at_1, at_2, set_0, set_1, cut_old, cut_all, len_1, len_2, app_app, set_set, set_len, retS_d, retS_n, retS_m, retS_x, list_l, list_s, seq_t, seq_k, atI_0, atI_1, atI_2, cLen_t, cLen_l, cLen_z, cInt_i, cInt_b, cI1_i, cI2_i, eIsi_ap, eqS_i, neS_i, eqS_b, neS_b, eqS_p, isN_d, isBl_b, eSl_ap, pNone_ap, pSome_ap, kPt_i, slS_t, nRev_ap, eM1_ap, sSetI_ap, sPutD_ap, eNewT_ap, itOf_ap, itAny_ap, kIter_t, kIter_k, kIter_l, kEnum_l, kZip_l, turnK_some, turnS_ap, loop_nil, nLc_ap, nLcM_ap, tYes_ap, cut_set, cut_setold, eDc_ap, sRetRev_ap, List.set_cons_zero, List.set_cons_succ, List.getElem?_cons_zero, List.getElem?_cons_succ, Option.bind_some, List.length_cons, List.length_nil, lstK0, tupK0, lstK1, tupK1, lstK2, tupK2, lstK3, tupK3, lstK4, tupK4, lstK5, tupK5, List.cons_append, List.nil_append, wipeE, natV, modS_i (show (0 : Int) < 2 by decide), b1, b2, if_pos e1, if_neg e2, v0, Bool.false_eq_true, if_false]
      · have b1 : ((x : Int) % 2 == 0) = false := by rw [beq_eq_false_iff_ne]; omega
        simp only [bind_ok, bind_exc, sOf_ok, sOf_exc, sSeq_ap, seqK_nx, seqK_rt, seqK_bk, seqK_ct, seqK_exc, sNil_ap, sPass_ap, sBrk_ap, sCnt_ap, sRetN_ap, sRet_ap, kRet_d, kRet_r, kRet_n, kRet_m, nxK_ap, sExp_ap, ifK_t, ifK_f, sIf_ap, asK_some, kAsg_ap, sAsg_ap, gN_ap, gT_ap, gE_ap, gC_ap, kPar_ap, sPar_ap, setAll_cons, setAll_nil, forK_ap, sFor_ap, varK_some, eVar_ap, eC_ap, eBin_ap, nBin_ap, eNeg_ap, kNeg_i, aNil_ap, aCons_ap, toD_d, toDs_nil, toDs_cons, eTup_ap, nLst_ap, eCall_ap, eCallK_ap, eCB_ap, eIfK_t, eIfK_f, eIf_ap, tOfK_b, tOf_ap, andK_t, andK_f, orK_t, orK_f, tAndF_ap, tOrF_ap, notK_ap, tNotF_ap, eAndK_t, eAndK_f, eOrK_t, eOrK_f, eAnd_ap, eOr_ap, eNot_ap, kNot_b, eFrz_ap, eSto_ap, eFre_ap, eFreM_ap, eSet_ap, eAlc_ap, frozen_ok, stored_ok, storedM_ok, fresh_ok, freshM_ok, settle_d, settle_r, settle_w, settle_n, settle_m, settle_exc, allocS_d, allocS_r, allocS_n, allocS_m, addS_i, mulS_t1, mulS_t0, subS_i, ltS_i, leS_i, gtS_i, geS_i, at_0, at_1, at_2, set_0, set_1, cut_old, cut_all, len_1, len_2, app_app, set_set, set_len, retS_d, retS_n, retS_m, retS_x, list_l, list_s, seq_t, seq_k, atI_0, atI_1, atI_2, cLen_t, cLen_l, cLen_z, cInt_i, cInt_b, cI1_i, cI2_i, eIsi_ap, eqS_i, neS_i, eqS_b, neS_b, eqS_p, isN_d, isBl_b, eSl_ap, pNone_ap, pSome_ap, kPt_i, slS_t, nRev_ap, eM1_ap, sSetI_ap, sPutD_ap, eNewT_ap, itOf_ap, itAny_ap, kIter_t, kIter_k, kIter_l, kEnum_l, kZip_l, turnK_some, turnS_ap, loop_nil, nLc_ap, nLcM_ap, tYes_ap, cut_set, cut_setold, eDc_ap, sRetRev_ap, List.set_cons_zero, List.set_cons_succ, List.getElem?_cons_zero, List.getElem?_cons_succ, Option.bind_some, List.length_cons, List.length_nil, lstK0, tupK0, lstK1, tupK1, lstK2, tupK2, lstK3, tupK3, lstK4, tupK4, lstK5, tupK5, List.cons_append, List.nil_append, wipeE, natV, modS_i (show (0 : Int) < 2 by decide), b1, if_neg e1, h0, Bool.false_eq_true, if_false, ite_self])
    rw [← rgD_nat, List.nil_append] at lc
    unfold c_signs_of_1
    simp only [bind_ok, bind_exc, sOf_ok, sOf_exc, sSeq_ap, seqK_nx, seqK_rt, seqK_bk, seqK_ct, seqK_exc, sNil_ap, sPass_ap, sBrk_ap, sCnt_ap, sRetN_ap, sRet_ap, kRet_d, kRet_r, kRet_n, kRet_m, nxK_ap, sExp_ap, ifK_t, ifK_f, sIf_ap, asK_some, kAsg_ap, sAsg_ap, gN_ap, gT_ap, gE_ap, gC_ap, kPar_ap, sPar_ap, setAll_cons, setAll_nil, forK_ap, sFor_ap, varK_some, eVar_ap, eC_ap, eBin_ap, nBin_ap, eNeg_ap, kNeg_i, aNil_ap, aCons_ap, toD_d, toDs_nil, toDs_cons, eTup_ap, nLst_ap, eCall_ap, eCallK_ap, eCB_ap, eIfK_t, eIfK_f, eIf_ap, tOfK_b, tOf_ap, andK_t, andK_f, orK_t, orK_f, tAndF_ap, tOrF_ap, notK_ap, tNotF_ap, eAndK_t, eAndK_f, eOrK_t, eOrK_f, eAnd_ap, eOr_ap, eNot_ap, kNot_b, eFrz_ap, eSto_ap, eFre_ap, eFreM_ap, eSet_ap, eAlc_ap, frozen_ok, stored_ok, storedM_ok, fresh_ok, freshM_ok, settle_d, settle_r, settle_w, settle_n, settle_m, settle_exc, allocS_d, allocS_r, allocS_n, allocS_m, addS_i, mulS_t1, mulS_t0, subS_i, ltS_i, leS_i, gtS_i, geS_i, at_0, at_1, at_2, set_0, set_1, cut_old, cut_all, len_1, len_2, app_app, set_set, set_len, retS_d, retS_n, retS_m, retS_x, list_l, list_s, seq_t, seq_k, atI_0, atI_1, atI_2, cLen_t, cLen_l, cLen_z, cInt_i, cInt_b, cI1_i, cI2_i, eIsi_ap, eqS_i, neS_i, eqS_b, neS_b, eqS_p, isN_d, isBl_b, eSl_ap, pNone_ap, pSome_ap, kPt_i, slS_t, nRev_ap, eM1_ap, sSetI_ap, sPutD_ap, eNewT_ap, itOf_ap, itAny_ap, kIter_t, kIter_k, kIter_l, kEnum_l, kZip_l, turnK_some, turnS_ap, loop_nil, nLc_ap, nLcM_ap, tYes_ap, cut_set, cut_setold, eDc_ap, sRetRev_ap, List.set_cons_zero, List.set_cons_succ, List.getElem?_cons_zero, List.getElem?_cons_succ, Option.bind_some, List.length_cons, List.length_nil, lstK0, tupK0, lstK1, tupK1, lstK2, tupK2, lstK3, tupK3, lstK4, tupK4, lstK5, tupK5, List.cons_append, List.nil_append, wipeE, kRg1_i (rgOk_of (show -4611686018427387904 ≤ (W : Int) by omega) (by omega)), Int.toNat_natCast, lc]
  have lm := lcM_mapf (st := st) (gt := gN 6) (t := tYesF) (fn := c_signs_of_1) (ρ := [some (.d (.lst (cs.map placeV))), some (.d (.int W)), none, none, none, none, none, none]) (enc := natV) (out := fun y => (List.range W).map fun x => sgnF (hEdge cs 0) (vEdge cs 0) x y) (List.range W) [] (by rw [List.length_nil, List.length_range]; omega) (fun y hy => ⟨_, rfl, rfl, inner y (List.mem_range.mp hy)⟩)
  have lm0 : ([] : List (List Vl)) ++ (List.range W).map (fun y => (List.range W).map fun x => sgnF (hEdge cs 0) (vEdge cs 0) x y) = sgnTab s cs 0 := by rw [hW]; rfl
  rw [lm0, ← rgD_nat] at lm
  obtain ⟨ρ', S', e, u3, u4, u5, rfl, rfl⟩ := loop_inv (h := turnS (gT (gC (gN 3) (gC (gN 4) gE))) l_signs_of_1)
    (fun i ρ S => ∃ u3 u4 u5 : Option Sl, ρ = [some (.d (.lst (cs.map placeV))), some (.d (.int W)), some (.r st.length), u3, u4, u5, none, none] ∧ S = st ++ [Ce.mat (sgnTab s cs i)])
    ((List.range (cs.length - 1)).map (pairV cs)) 0 [some (.d (.lst (cs.map placeV))), some (.d (.int W)), some (.r st.length), none, none, none, none, none] (st ++ [Ce.mat (sgnTab s cs 0)])
    ⟨none, none, none, rfl, rfl⟩ (fun i x ρ S hx ⟨u3, u4, u5, hρ, hS⟩ => by
      subst hρ hS
      rw [Nat.zero_add]
      have hi : i < cs.length - 1 := by
        have := (List.getElem?_eq_some_iff.mp hx).1
        rw [List.length_map, List.length_range] at this
        exact this
      rw [List.getElem?_map, List.getElem?_range hi] at hx
      cases hx
      have g1 : cs[i]? = some cs[i] := List.getElem?_eq_getElem (by omega)
      have g2 : cs[i + 1]? = some cs[i + 1] := List.getElem?_eq_getElem (by omega)
      have ev : pairV cs i = .tup [placeV cs[i], placeV cs[i + 1]] := by
        unfold pairV
        simp [List.getD, g1, g2]
      obtain ⟨v5, e⟩ := sgn_step ok hs g1 g2 (st := st) (u0 := some (.d (.lst (cs.map placeV)))) (u1 := some (.d (.int W))) (u3 := u3) (u4 := u4) (u5 := u5) (u6 := none) (u7 := none)
      exact ⟨_, _, by rw [ev]; exact e, _, _, v5, rfl, rfl⟩)
  rw [Nat.zero_add, List.length_map, List.length_range, ← zip_eq] at e
  unfold m_signs_of
  rw [fnS_ap]
  show retS st.length (b_signs_of [some (.d (.lst (cs.map placeV))), none, none, none, none, none, none, none] st) = _
  unfold b_signs_of c_signs_of_2
  simp only [bind_ok, bind_exc, sOf_ok, sOf_exc, sSeq_ap, seqK_nx, seqK_rt, seqK_bk, seqK_ct, seqK_exc, sNil_ap, sPass_ap, sBrk_ap, sCnt_ap, sRetN_ap, sRet_ap, kRet_d, kRet_r, kRet_n, kRet_m, nxK_ap, sExp_ap, ifK_t, ifK_f, sIf_ap, asK_some, kAsg_ap, sAsg_ap, gN_ap, gT_ap, gE_ap, gC_ap, kPar_ap, sPar_ap, setAll_cons, setAll_nil, forK_ap, sFor_ap, varK_some, eVar_ap, eC_ap, eBin_ap, nBin_ap, eNeg_ap, kNeg_i, aNil_ap, aCons_ap, toD_d, toDs_nil, toDs_cons, eTup_ap, nLst_ap, eCall_ap, eCallK_ap, eCB_ap, eIfK_t, eIfK_f, eIf_ap, tOfK_b, tOf_ap, andK_t, andK_f, orK_t, orK_f, tAndF_ap, tOrF_ap, notK_ap, tNotF_ap, eAndK_t, eAndK_f, eOrK_t, eOrK_f, eAnd_ap, eOr_ap, eNot_ap, kNot_b, eFrz_ap, eSto_ap, eFre_ap, eFreM_ap, eSet_ap, eAlc_ap, frozen_ok, stored_ok, storedM_ok, fresh_ok, freshM_ok, settle_d, settle_r, settle_w, settle_n, settle_m, settle_exc, allocS_d, allocS_r, allocS_n, allocS_m, addS_i, mulS_t1, mulS_t0, subS_i, ltS_i, leS_i, gtS_i, geS_i, at_0, at_1, at_2, set_0, set_1, cut_old, cut_all, len_1, len_2, app_app, set_set, set_len, retS_d, retS_n, retS_m, retS_x, list_l, list_s, seq_t, seq_k, atI_0, atI_1, atI_2, cLen_t, cLen_l, cLen_z, cInt_i, cInt_b, cI1_i, cI2_i, eIsi_ap, eqS_i, neS_i, eqS_b, neS_b, eqS_p, isN_d, isBl_b, eSl_ap, pNone_ap, pSome_ap, kPt_i, slS_t, nRev_ap, eM1_ap, sSetI_ap, sPutD_ap, eNewT_ap, itOf_ap, itAny_ap, kIter_t, kIter_k, kIter_l, kEnum_l, kZip_l, turnK_some, turnS_ap, loop_nil, nLc_ap, nLcM_ap, tYes_ap, cut_set, cut_setold, eDc_ap, sRetRev_ap, List.set_cons_zero, List.set_cons_succ, List.getElem?_cons_zero, List.getElem?_cons_succ, Option.bind_some, List.length_cons, List.length_nil, lstK0, tupK0, lstK1, tupK1, lstK2, tupK2, lstK3, tupK3, lstK4, tupK4, lstK5, tupK5, List.cons_append, List.nil_append, wipeE, sd, mulc_l (show (2 : Int).natAbs < 2 ^ 60 by decide), show (2 : Int) * (s : Int) - 1 = (W : Int) by omega, kRg1_i (rgOk_of (show -4611686018427387904 ≤ (W : Int) by omega) (by omega)), Int.toNat_natCast, lm, slS_l list_l, cut_1, e, retS_mat (Nat.le_refl st.length) at_0]
/-! ### texts -/
def zs (l : List Nat) : Str := ⟨l.toArray⟩
theorem zs_app (a b : List Nat) : zs a ++ zs b = zs (a ++ b) := by
  show Str.append _ _ = _
  unfold Str.append zs
  simp
theorem zs_len (a : List Nat) : (zs a).length = a.length := by
  show (zs a).cps.size = _
  simp [zs]
theorem join_zs : ∀ ls : List (List Nat), Txt.join "" (ls.map zs) = zs ls.flatten := by
  intro ls
  show Builtin.Str.glued _ _ = _
  rw [StrLaws.glued_eq_join]
  have e0 : ("" : Str) = zs [] := by decide
  have key : ∀ ls : List (List Nat), Str.join "" (ls.map zs) = zs ls.flatten := by
    intro ls
    induction ls with
    | nil => rfl
    | cons x r ih =>
      cases r with
      | nil => simp [Str.join]
      | cons y r =>
        show zs x ++ "" ++ Str.join "" ((y :: r).map zs) = _
        rw [ih, e0, zs_app, zs_app, List.append_nil]
        rfl
  exact key ls
def sgnC (H V : Nat → Nat → Bool) (X Y : Nat) : Nat :=
  if X % 2 = 0 then (if Y % 2 = 0 then 111 else if V (X / 2) (Y / 2) = true then 124 else 32) else (if Y % 2 = 0 then (if H (X / 2) (Y / 2) = true then 45 else 32) else 32)
theorem z_o : ("o" : Str) = zs [111] := by decide
theorem z_m : ("-" : Str) = zs [45] := by decide
theorem z_p : ("|" : Str) = zs [124] := by decide
theorem z_b : (" " : Str) = zs [32] := by decide
theorem sgnF_C {H V : Nat → Nat → Bool} {X Y : Nat} : sgnF H V X Y = .str (zs [sgnC H V X Y]) := by
  unfold sgnF sgnC
  rw [z_o, z_m, z_p, z_b]
  repeat' split
  all_goals rfl
def lineC (s : Nat) (cs : List (Nat × Nat)) (Y : Nat) : List Nat := (List.range (2 * s - 1)).map fun X => sgnC (hEdge cs (cs.length - 1)) (vEdge cs (cs.length - 1)) X Y
def lineV (s : Nat) (cs : List (Nat × Nat)) (Y : Nat) : Vl := .str (zs (lineC s cs Y))
theorem strs_map : ∀ ys : List Str, strsOf (ys.map Vl.str) = some ys
  | [] => rfl
  | y :: ys => by
    show (strsOf (ys.map Vl.str)).map _ = _
    rw [strs_map ys]
    rfl
theorem flat_one (l : List Nat) : (l.map fun c => [c]).flatten = l := by
  induction l with
  | nil => rfl
  | cons x l ih => rw [List.map_cons, List.flatten_cons, ih]; rfl
theorem drawn_spec {b d : Nat} {kk : Kinds} {st : Sto} (ok : BookOk b kk) (hd : d ≤ 4) : m_drawn [.d (bookV b kk), .d (.int d)] st = .ok (.n ((List.range (2 * b ^ d - 1)).reverse.map (lineV (b ^ d) (cellsP b kk d)))) st := by
  have co := cells_ok (d := d) ok
  obtain ⟨q1, q2, q3, q4⟩ := pow9 (e := d) ok.b2 hd
  obtain ⟨cs, hcs⟩ : ∃ cs, cs = cellsP b kk d := ⟨_, rfl⟩
  obtain ⟨s, hs⟩ : ∃ s, s = b ^ d := ⟨_, rfl⟩
  have wh := whole_spec (st := st) ok hd
  rw [← hcs, ← hs] at co
  rw [← hs] at q3 q4
  rw [← hcs] at wh
  rw [← hcs, ← hs]
  have sg := signs_spec (st := st) co ⟨q3, q4⟩
  have rows : ((sgnTab s cs (cs.length - 1)).map Vl.lst).reverse = (List.range (2 * s - 1)).reverse.map fun Y => Vl.lst ((List.range (2 * s - 1)).map fun X => sgnF (hEdge cs (cs.length - 1)) (vEdge cs (cs.length - 1)) X Y) := by
    unfold sgnTab tab
    rw [List.map_map, ← List.map_reverse]
    rfl
  have lc := lc_mapf (st := st) (gt := gN 2) (t := tYesF) (f := eJoin (eC (.str "")) (eVar 2)) (ρ := [some (.d (bookV b kk)), some (.d (.int d)), none]) (enc := fun Y => Vl.lst ((List.range (2 * s - 1)).map fun X => sgnF (hEdge cs (cs.length - 1)) (vEdge cs (cs.length - 1)) X Y)) (out := lineV s cs) (List.range (2 * s - 1)).reverse [] (by rw [List.length_nil, List.length_reverse, List.length_range]; omega) (fun Y _ => by
    refine ⟨_, rfl, rfl, ?_⟩
    have er : ((List.range (2 * s - 1)).map fun X => sgnF (hEdge cs (cs.length - 1)) (vEdge cs (cs.length - 1)) X Y) = (((lineC s cs Y).map fun c => [c]).map zs).map Vl.str := by
      unfold lineC
      rw [List.map_map, List.map_map, List.map_map]
      exact List.map_congr_left fun X _ => sgnF_C
    have kj : kJoin (.d (.str "")) (.d (.lst ((List.range (2 * s - 1)).map fun X => sgnF (hEdge cs (cs.length - 1)) (vEdge cs (cs.length - 1)) X Y))) st = .ok (.d (lineV s cs Y)) st := by
      rw [er]
      unfold kJoin
      simp only [seq_l list_l, strs_map]
      rw [if_pos, join_zs, flat_one]
      · rfl
      · have z0 : ("" : Str).length = 0 := by decide
        rw [z0, List.map_map, List.map_map, Nat.mul_zero, Nat.add_zero]
        have : ((lineC s cs Y).map (((fun x => x.length) ∘ zs) ∘ fun c => [c])) = List.replicate (2 * s - 1) 1 := by
          rw [List.map_congr_left (g := fun _ => 1) fun c _ => by show (zs [c]).length = 1; rw [zs_len]; rfl, List.map_const']
          unfold lineC
          rw [List.length_map, List.length_range]
        rw [this, List.sum_replicate_nat]
        omega
    show (Rs.ok (Sl.d (.str "")) st).bind _ = _
    rw [bind_ok]
    show (if isZ (.d (.str "")) = true then _ else _) = _
    rw [if_pos (show isZ (.d (.str "")) = true from rfl)]
    simp only [bind_ok, bind_exc, sOf_ok, sOf_exc, sSeq_ap, seqK_nx, seqK_rt, seqK_bk, seqK_ct, seqK_exc, sNil_ap, sPass_ap, sBrk_ap, sCnt_ap, sRetN_ap, sRet_ap, kRet_d, kRet_r, kRet_n, kRet_m, nxK_ap, sExp_ap, ifK_t, ifK_f, sIf_ap, asK_some, kAsg_ap, sAsg_ap, gN_ap, gT_ap, gE_ap, gC_ap, kPar_ap, sPar_ap, setAll_cons, setAll_nil, forK_ap, sFor_ap, varK_some, eVar_ap, eC_ap, eBin_ap, nBin_ap, eNeg_ap, kNeg_i, aNil_ap, aCons_ap, toD_d, toDs_nil, toDs_cons, eTup_ap, nLst_ap, eCall_ap, eCallK_ap, eCB_ap, eIfK_t, eIfK_f, eIf_ap, tOfK_b, tOf_ap, andK_t, andK_f, orK_t, orK_f, tAndF_ap, tOrF_ap, notK_ap, tNotF_ap, eAndK_t, eAndK_f, eOrK_t, eOrK_f, eAnd_ap, eOr_ap, eNot_ap, kNot_b, eFrz_ap, eSto_ap, eFre_ap, eFreM_ap, eSet_ap, eAlc_ap, frozen_ok, stored_ok, storedM_ok, fresh_ok, freshM_ok, settle_d, settle_r, settle_w, settle_n, settle_m, settle_exc, allocS_d, allocS_r, allocS_n, allocS_m, addS_i, mulS_t1, mulS_t0, subS_i, ltS_i, leS_i, gtS_i, geS_i, at_0, at_1, at_2, set_0, set_1, cut_old, cut_all, len_1, len_2, app_app, set_set, set_len, retS_d, retS_n, retS_m, retS_x, list_l, list_s, seq_t, seq_k, atI_0, atI_1, atI_2, cLen_t, cLen_l, cLen_z, cInt_i, cInt_b, cI1_i, cI2_i, eIsi_ap, eqS_i, neS_i, eqS_b, neS_b, eqS_p, isN_d, isBl_b, eSl_ap, pNone_ap, pSome_ap, kPt_i, slS_t, nRev_ap, eM1_ap, sSetI_ap, sPutD_ap, eNewT_ap, itOf_ap, itAny_ap, kIter_t, kIter_k, kIter_l, kEnum_l, kZip_l, turnK_some, turnS_ap, loop_nil, nLc_ap, nLcM_ap, tYes_ap, cut_set, cut_setold, eDc_ap, sRetRev_ap, List.set_cons_zero, List.set_cons_succ, List.getElem?_cons_zero, List.getElem?_cons_succ, Option.bind_some, List.length_cons, List.length_nil, lstK0, tupK0, lstK1, tupK1, lstK2, tupK2, lstK3, tupK3, lstK4, tupK4, lstK5, tupK5, List.cons_append, List.nil_append, wipeE, kj])
  unfold m_drawn
  rw [fnS_ap]
  show retS st.length (b_drawn [some (.d (bookV b kk)), some (.d (.int d)), none] st) = _
  unfold b_drawn c_drawn_1
  simp only [bind_ok, bind_exc, sOf_ok, sOf_exc, sSeq_ap, seqK_nx, seqK_rt, seqK_bk, seqK_ct, seqK_exc, sNil_ap, sPass_ap, sBrk_ap, sCnt_ap, sRetN_ap, sRet_ap, kRet_d, kRet_r, kRet_n, kRet_m, nxK_ap, sExp_ap, ifK_t, ifK_f, sIf_ap, asK_some, kAsg_ap, sAsg_ap, gN_ap, gT_ap, gE_ap, gC_ap, kPar_ap, sPar_ap, setAll_cons, setAll_nil, forK_ap, sFor_ap, varK_some, eVar_ap, eC_ap, eBin_ap, nBin_ap, eNeg_ap, kNeg_i, aNil_ap, aCons_ap, toD_d, toDs_nil, toDs_cons, eTup_ap, nLst_ap, eCall_ap, eCallK_ap, eCB_ap, eIfK_t, eIfK_f, eIf_ap, tOfK_b, tOf_ap, andK_t, andK_f, orK_t, orK_f, tAndF_ap, tOrF_ap, notK_ap, tNotF_ap, eAndK_t, eAndK_f, eOrK_t, eOrK_f, eAnd_ap, eOr_ap, eNot_ap, kNot_b, eFrz_ap, eSto_ap, eFre_ap, eFreM_ap, eSet_ap, eAlc_ap, frozen_ok, stored_ok, storedM_ok, fresh_ok, freshM_ok, settle_d, settle_r, settle_w, settle_n, settle_m, settle_exc, allocS_d, allocS_r, allocS_n, allocS_m, addS_i, mulS_t1, mulS_t0, subS_i, ltS_i, leS_i, gtS_i, geS_i, at_0, at_1, at_2, set_0, set_1, cut_old, cut_all, len_1, len_2, app_app, set_set, set_len, retS_d, retS_n, retS_m, retS_x, list_l, list_s, seq_t, seq_k, atI_0, atI_1, atI_2, cLen_t, cLen_l, cLen_z, cInt_i, cInt_b, cI1_i, cI2_i, eIsi_ap, eqS_i, neS_i, eqS_b, neS_b, eqS_p, isN_d, isBl_b, eSl_ap, pNone_ap, pSome_ap, kPt_i, slS_t, nRev_ap, eM1_ap, sSetI_ap, sPutD_ap, eNewT_ap, itOf_ap, itAny_ap, kIter_t, kIter_k, kIter_l, kEnum_l, kZip_l, turnK_some, turnS_ap, loop_nil, nLc_ap, nLcM_ap, tYes_ap, cut_set, cut_setold, eDc_ap, sRetRev_ap, List.set_cons_zero, List.set_cons_succ, List.getElem?_cons_zero, List.getElem?_cons_succ, Option.bind_some, List.length_cons, List.length_nil, lstK0, tupK0, lstK1, tupK1, lstK2, tupK2, lstK3, tupK3, lstK4, tupK4, lstK5, tupK5, List.cons_append, List.nil_append, wipeE, wh, sg, revK_l list_l, rows, lc]
end K42

namespace K42
open PySem PySem.Spec PyProof.Rows L2 F
def keyC (c : Nat × Nat) : List Key := [.inl (c.1 : Int), .inl (c.2 : Int)]
def numD (cs : List (Nat × Nat)) (i : Nat) : List (List Key × Vl) := (List.range i).map fun j => (keyC (cs.getD j (0, 0)), .int j)
theorem keyC_inj {c c' : Nat × Nat} (h : keyC c = keyC c') : c = c' := by
  have h1 := List.cons.inj h
  have h2 := List.cons.inj h1.2
  have h3 := Sum.inl.inj h1.1
  have h4 := Sum.inl.inj h2.1
  exact Prod.ext (by omega) (by omega)
theorem numD_keys {s : Nat} {cs : List (Nat × Nat)} (ok : CellsOk s cs) (i : Nat) (hi : i ≤ cs.length) : ((numD cs i).map (·.1)).Nodup := by
  unfold numD
  rw [List.map_map]
  refine nodup_on (fun j hj k hk e => ?_) List.nodup_range
  have hj := List.mem_range.mp hj
  have hk := List.mem_range.mp hk
  have e := keyC_inj e
  have g1 : cs.getD j (0, 0) = cs[j] := by simp [List.getD, show j < cs.length by omega]
  have g2 : cs.getD k (0, 0) = cs[k] := by simp [List.getD, show k < cs.length by omega]
  rw [g1, g2] at e
  exact (List.getElem_inj ok.nd).mp e
theorem num_get {s : Nat} {cs : List (Nat × Nat)} (ok : CellsOk s cs) {S : Sto} {m : Nat} (h : S[m]? = some (Ce.dtp (numD cs cs.length))) {x y : Nat} (hx : x < s) (hy : y < s) : kGet (.r m) (.d (.tup [.int x, .int y])) S = .ok (.d (.int (no cs x y))) S := by
  refine kGet_t h tkey_p (getA_at (i := no cs x y) (numD_keys ok _ (Nat.le_refl _)) ?_)
  unfold numD
  rw [List.getElem?_map, List.getElem?_range (no_lt ok hx hy)]
  have := no_at ok hx hy
  simp [List.getD, this, keyC]
theorem edge_h {s : Nat} {cs : List (Nat × Nat)} (ok : CellsOk s cs) {x y : Nat} (hx : x + 1 < s) (hy : y < s) : (absI ((no cs (x + 1) y : Int) - (no cs x y : Int)) == 1) = hEdge cs (cs.length - 1) x y := by
  have h1 := no_lt ok (x := x) (y := y) (by omega) hy
  have h2 := no_lt ok (x := x + 1) (y := y) hx hy
  unfold hEdge near
  rw [absI_nat, Bool.eq_iff_iff, beq_iff_eq, decide_eq_true_eq]
  split <;> omega
theorem edge_v {s : Nat} {cs : List (Nat × Nat)} (ok : CellsOk s cs) {x y : Nat} (hx : x < s) (hy : y < s) (h0 : 0 < y) : (absI ((no cs x (y - 1) : Int) - (no cs x y : Int)) == 1) = vEdge cs (cs.length - 1) x (y - 1) := by
  have h1 := no_lt ok (x := x) (y := y) hx hy
  have h2 := no_lt ok (x := x) (y := y - 1) hx (by omega)
  have e : y - 1 + 1 = y := by omega
  unfold vEdge near
  rw [e, absI_nat, Bool.eq_iff_iff, beq_iff_eq, decide_eq_true_eq]
  split <;> omega
def hC (cs : List (Nat × Nat)) (x y : Nat) : Nat := if hEdge cs (cs.length - 1) x y = true then 45 else 32
def vC (cs : List (Nat × Nat)) (x y : Nat) : Nat := if vEdge cs (cs.length - 1) x y = true then 124 else 32
def linL (s : Nat) (cs : List (Nat × Nat)) (y k : Nat) : List Nat := (List.range k).flatMap fun x => 111 :: (if x + 1 < s then [hC cs x y] else [])
def belL (s : Nat) (cs : List (Nat × Nat)) (y k : Nat) : List Nat := if 0 < y then (List.range k).flatMap fun x => vC cs x (y - 1) :: (if x + 1 < s then [32] else []) else []
theorem len_le {f : Nat → List Nat} (h : ∀ x, (f x).length ≤ 2) (k : Nat) : ((List.range k).flatMap f).length ≤ 2 * k := by
  induction k with
  | zero => simp
  | succ k ih =>
    rw [List.range_succ, List.flatMap_append, List.length_append, List.flatMap_cons, List.flatMap_nil, List.append_nil]
    have := h k
    omega
theorem linL_len {s : Nat} {cs : List (Nat × Nat)} {y k : Nat} : (linL s cs y k).length ≤ 2 * k := len_le (fun x => by split <;> simp) k
theorem belL_len {s : Nat} {cs : List (Nat × Nat)} {y k : Nat} : (belL s cs y k).length ≤ 2 * k := by
  unfold belL
  split
  · exact len_le (fun x => by split <;> simp) k
  · simp
theorem addZ {a b : List Nat} {st : Sto} (h : a.length + b.length ≤ 10000) : addS (.d (.str (zs a))) (.d (.str (zs b))) st = .ok (.d (.str (zs (a ++ b)))) st := by
  rw [addS_t (by rw [zs_len, zs_len]; omega), zs_app]
def sA : Sm := (sIf (tOf (eBin ltS (eVar 11) (eBin subS (eVar 2) (eC (.int 1))))) (sSeq (sAsg (eBin addS (eVar 9) (eIf (tOf (eBin eqS (eCB (cI1 absI) (aCons (eBin subS (eBin kGet (eVar 3) (eTup (aCons (eBin addS (eVar 11) (eC (.int 1))) (aCons (eVar 8) aNil)))) (eVar 12)) aNil)) (eC (.int 1)))) (eC (.str "-")) (eC (.str " ")))) (gN 9)) sNil) sNil)
def sB : Sm := (sIf (tOf (eBin gtS (eVar 8) (eC (.int 0)))) (sSeq (sAsg (eBin addS (eBin addS (eVar 10) (eIf (tOf (eBin eqS (eCB (cI1 absI) (aCons (eBin subS (eBin kGet (eVar 3) (eTup (aCons (eVar 11) (aCons (eBin subS (eVar 8) (eC (.int 1))) aNil)))) (eVar 12)) aNil)) (eC (.int 1)))) (eC (.str "|")) (eC (.str " ")))) (eBin mulS (eC (.str " ")) (eCB cInt (aCons (eBin ltS (eVar 11) (eBin subS (eVar 2) (eC (.int 1)))) aNil)))) (gN 10)) sNil) sNil)
theorem sA_spec {s : Nat} {cs : List (Nat × Nat)} (ok : CellsOk s cs) {S : Sto} {m x y : Nat} (h : S[m]? = some (Ce.dtp (numD cs cs.length))) (hx : x < s) (hy : y < s) {l : List Nat} (hl : l.length ≤ 1000) {u0 u1 u4 u5 u6 u7 u10 : Option Sl} :
    sA [u0, u1, some (.d (.int s)), some (.r m), u4, u5, u6, u7, some (.d (.int y)), some (.d (.str (zs l))), u10, some (.d (.int x)), some (.d (.int (no cs x y)))] S =
      .nx [u0, u1, some (.d (.int s)), some (.r m), u4, u5, u6, u7, some (.d (.int y)), some (.d (.str (zs (l ++ (if x + 1 < s then [hC cs x y] else []))))), u10, some (.d (.int x)), some (.d (.int (no cs x y)))] S := by
  unfold sA
  by_cases c : x + 1 < s
  · have g := num_get ok h c hy
    have g' : kGet (.r m) (.d (.tup [.int ((x : Int) + 1), .int y])) S = .ok (.d (.int (no cs (x + 1) y))) S := g
    have ed := edge_h ok c hy
    rw [if_pos c]
    unfold hC
    cases eh : hEdge cs (cs.length - 1) x y with
    | true =>
      rw [eh] at ed
      simp only [bind_ok, bind_exc, sOf_ok, sOf_exc, sSeq_ap, seqK_nx, seqK_rt, seqK_bk, seqK_ct, seqK_exc, sNil_ap, sPass_ap, sBrk_ap, sCnt_ap, sRetN_ap, sRet_ap, kRet_d, kRet_r, kRet_n, kRet_m, nxK_ap, sExp_ap, ifK_t, ifK_f, sIf_ap, asK_some, kAsg_ap, sAsg_ap, gN_ap, gT_ap, gE_ap, gC_ap, kPar_ap, sPar_ap, setAll_cons, setAll_nil, forK_ap, sFor_ap, varK_some, eVar_ap, eC_ap, eBin_ap, nBin_ap, eNeg_ap, kNeg_i, aNil_ap, aCons_ap, toD_d, toDs_nil, toDs_cons, eTup_ap, nLst_ap, eCall_ap, eCallK_ap, eCB_ap, eIfK_t, eIfK_f, eIf_ap, tOfK_b, tOf_ap, andK_t, andK_f, orK_t, orK_f, tAndF_ap, tOrF_ap, notK_ap, tNotF_ap, eAndK_t, eAndK_f, eOrK_t, eOrK_f, eAnd_ap, eOr_ap, eNot_ap, kNot_b, eFrz_ap, eSto_ap, eFre_ap, eFreM_ap, eSet_ap, eAlc_ap, frozen_ok, stored_ok, storedM_ok, fresh_ok, freshM_ok, settle_d, settle_r, settle_w, settle_n, settle_m, settle_exc, allocS_d, allocS_r, allocS_n, allocS_m, addS_i, mulS_t1, mulS_t0, subS_i, ltS_i, leS_i, gtS_i, geS_i, at_0, at_1, at_2, set_0, set_1, cut_old, cut_all, len_1, len_2, app_app, set_set, set_len, retS_d, retS_n, retS_m, retS_x, list_l, list_s, seq_t, seq_k, atI_0, atI_1, atI_2, cLen_t, cLen_l, cLen_z, cInt_i, cInt_b, cI1_i, cI2_i, eIsi_ap, eqS_i, neS_i, eqS_b, neS_b, eqS_p, isN_d, isBl_b, eSl_ap, pNone_ap, pSome_ap, kPt_i, slS_t, nRev_ap, eM1_ap, sSetI_ap, sPutD_ap, eNewT_ap, itOf_ap, itAny_ap, kIter_t, kIter_k, kIter_l, kEnum_l, kZip_l, turnK_some, turnS_ap, loop_nil, nLc_ap, nLcM_ap, tYes_ap, cut_set, cut_setold, eDc_ap, sRetRev_ap, List.set_cons_zero, List.set_cons_succ, List.getElem?_cons_zero, List.getElem?_cons_succ, Option.bind_some, List.length_cons, List.length_nil, lstK0, tupK0, lstK1, tupK1, lstK2, tupK2, lstK3, tupK3, lstK4, tupK4, lstK5, tupK5, List.cons_append, List.nil_append, wipeE, decide_eq_true (show (x : Int) < (s : Int) - 1 by omega), g', ed, z_m, addZ (a := l) (b := [45]) (by simp; omega), if_true]
    | false =>
      rw [eh] at ed
      simp only [bind_ok, bind_exc, sOf_ok, sOf_exc, sSeq_ap, seqK_nx, seqK_rt, seqK_bk, seqK_ct, seqK_exc, sNil_ap, sPass_ap, sBrk_ap, sCnt_ap, sRetN_ap, sRet_ap, kRet_d, kRet_r, kRet_n, kRet_m, nxK_ap, sExp_ap, ifK_t, ifK_f, sIf_ap, asK_some, kAsg_ap, sAsg_ap, gN_ap, gT_ap, gE_ap, gC_ap, kPar_ap, sPar_ap, setAll_cons, setAll_nil, forK_ap, sFor_ap, varK_some, eVar_ap, eC_ap, eBin_ap, nBin_ap, eNeg_ap, kNeg_i, aNil_ap, aCons_ap, toD_d, toDs_nil, toDs_cons, eTup_ap, nLst_ap, eCall_ap, eCallK_ap, eCB_ap, eIfK_t, eIfK_f, eIf_ap, tOfK_b, tOf_ap, andK_t, andK_f, orK_t, orK_f, tAndF_ap, tOrF_ap, notK_ap, tNotF_ap, eAndK_t, eAndK_f, eOrK_t, eOrK_f, eAnd_ap, eOr_ap, eNot_ap, kNot_b, eFrz_ap, eSto_ap, eFre_ap, eFreM_ap, eSet_ap, eAlc_ap, frozen_ok, stored_ok, storedM_ok, fresh_ok, freshM_ok, settle_d, settle_r, settle_w, settle_n, settle_m, settle_exc, allocS_d, allocS_r, allocS_n, allocS_m, addS_i, mulS_t1, mulS_t0, subS_i, ltS_i, leS_i, gtS_i, geS_i, at_0, at_1, at_2, set_0, set_1, cut_old, cut_all, len_1, len_2, app_app, set_set, set_len, retS_d, retS_n, retS_m, retS_x, list_l, list_s, seq_t, seq_k, atI_0, atI_1, atI_2, cLen_t, cLen_l, cLen_z, cInt_i, cInt_b, cI1_i, cI2_i, eIsi_ap, eqS_i, neS_i, eqS_b, neS_b, eqS_p, isN_d, isBl_b, eSl_ap, pNone_ap, pSome_ap, kPt_i, slS_t, nRev_ap, eM1_ap, sSetI_ap, sPutD_ap, eNewT_ap, itOf_ap, itAny_ap, kIter_t, kIter_k, kIter_l, kEnum_l, kZip_l, turnK_some, turnS_ap, loop_nil, nLc_ap, nLcM_ap, tYes_ap, cut_set, cut_setold, eDc_ap, sRetRev_ap, List.set_cons_zero, List.set_cons_succ, List.getElem?_cons_zero, List.getElem?_cons_succ, Option.bind_some, List.length_cons, List.length_nil, lstK0, tupK0, lstK1, tupK1, lstK2, tupK2, lstK3, tupK3, lstK4, tupK4, lstK5, tupK5, List.cons_append, List.nil_append, wipeE, decide_eq_true (show (x : Int) < (s : Int) - 1 by omega), g', ed, z_b, addZ (a := l) (b := [32]) (by simp; omega), Bool.false_eq_true, if_false]
  · rw [if_neg c, List.append_nil]
    simp only [bind_ok, bind_exc, sOf_ok, sOf_exc, sSeq_ap, seqK_nx, seqK_rt, seqK_bk, seqK_ct, seqK_exc, sNil_ap, sPass_ap, sBrk_ap, sCnt_ap, sRetN_ap, sRet_ap, kRet_d, kRet_r, kRet_n, kRet_m, nxK_ap, sExp_ap, ifK_t, ifK_f, sIf_ap, asK_some, kAsg_ap, sAsg_ap, gN_ap, gT_ap, gE_ap, gC_ap, kPar_ap, sPar_ap, setAll_cons, setAll_nil, forK_ap, sFor_ap, varK_some, eVar_ap, eC_ap, eBin_ap, nBin_ap, eNeg_ap, kNeg_i, aNil_ap, aCons_ap, toD_d, toDs_nil, toDs_cons, eTup_ap, nLst_ap, eCall_ap, eCallK_ap, eCB_ap, eIfK_t, eIfK_f, eIf_ap, tOfK_b, tOf_ap, andK_t, andK_f, orK_t, orK_f, tAndF_ap, tOrF_ap, notK_ap, tNotF_ap, eAndK_t, eAndK_f, eOrK_t, eOrK_f, eAnd_ap, eOr_ap, eNot_ap, kNot_b, eFrz_ap, eSto_ap, eFre_ap, eFreM_ap, eSet_ap, eAlc_ap, frozen_ok, stored_ok, storedM_ok, fresh_ok, freshM_ok, settle_d, settle_r, settle_w, settle_n, settle_m, settle_exc, allocS_d, allocS_r, allocS_n, allocS_m, addS_i, mulS_t1, mulS_t0, subS_i, ltS_i, leS_i, gtS_i, geS_i, at_0, at_1, at_2, set_0, set_1, cut_old, cut_all, len_1, len_2, app_app, set_set, set_len, retS_d, retS_n, retS_m, retS_x, list_l, list_s, seq_t, seq_k, atI_0, atI_1, atI_2, cLen_t, cLen_l, cLen_z, cInt_i, cInt_b, cI1_i, cI2_i, eIsi_ap, eqS_i, neS_i, eqS_b, neS_b, eqS_p, isN_d, isBl_b, eSl_ap, pNone_ap, pSome_ap, kPt_i, slS_t, nRev_ap, eM1_ap, sSetI_ap, sPutD_ap, eNewT_ap, itOf_ap, itAny_ap, kIter_t, kIter_k, kIter_l, kEnum_l, kZip_l, turnK_some, turnS_ap, loop_nil, nLc_ap, nLcM_ap, tYes_ap, cut_set, cut_setold, eDc_ap, sRetRev_ap, List.set_cons_zero, List.set_cons_succ, List.getElem?_cons_zero, List.getElem?_cons_succ, Option.bind_some, List.length_cons, List.length_nil, lstK0, tupK0, lstK1, tupK1, lstK2, tupK2, lstK3, tupK3, lstK4, tupK4, lstK5, tupK5, List.cons_append, List.nil_append, wipeE, decide_eq_false (show ¬ (x : Int) < (s : Int) - 1 by omega)]
theorem sB_spec {s : Nat} {cs : List (Nat × Nat)} (ok : CellsOk s cs) {S : Sto} {m x y : Nat} (h : S[m]? = some (Ce.dtp (numD cs cs.length))) (hx : x < s) (hy : y < s) {l : List Nat} (hl : l.length ≤ 1000) {u0 u1 u4 u5 u6 u7 u9 : Option Sl} :
    sB [u0, u1, some (.d (.int s)), some (.r m), u4, u5, u6, u7, some (.d (.int y)), u9, some (.d (.str (zs l))), some (.d (.int x)), some (.d (.int (no cs x y)))] S =
      .nx [u0, u1, some (.d (.int s)), some (.r m), u4, u5, u6, u7, some (.d (.int y)), u9, some (.d (.str (zs (l ++ (if 0 < y then vC cs x (y - 1) :: (if x + 1 < s then [32] else []) else []))))), some (.d (.int x)), some (.d (.int (no cs x y)))] S := by
  unfold sB
  by_cases c : 0 < y
  · have g := num_get ok h hx (show y - 1 < s by omega)
    have g' : kGet (.r m) (.d (.tup [.int x, .int ((y : Int) - 1)])) S = .ok (.d (.int (no cs x (y - 1)))) S := by
      rw [show (y : Int) - 1 = ((y - 1 : Nat) : Int) by omega]
      exact g
    have ed := edge_v ok hx hy c
    rw [if_pos c]
    have tail : ∀ v : Nat, (eBin addS (eC (.str (zs (l ++ [v])))) (eBin mulS (eC (.str " ")) (eCB cInt (aCons (eBin ltS (eVar 11) (eBin subS (eVar 2) (eC (.int 1)))) aNil)))) [u0, u1, some (.d (.int s)), some (.r m), u4, u5, u6, u7, some (.d (.int y)), u9, some (.d (.str (zs l))), some (.d (.int x)), some (.d (.int (no cs x y)))] S = .ok (.d (.str (zs (l ++ v :: (if x + 1 < s then [32] else []))))) S := fun v => by
      by_cases d : x + 1 < s
      · rw [if_pos d]
        simp only [bind_ok, bind_exc, sOf_ok, sOf_exc, sSeq_ap, seqK_nx, seqK_rt, seqK_bk, seqK_ct, seqK_exc, sNil_ap, sPass_ap, sBrk_ap, sCnt_ap, sRetN_ap, sRet_ap, kRet_d, kRet_r, kRet_n, kRet_m, nxK_ap, sExp_ap, ifK_t, ifK_f, sIf_ap, asK_some, kAsg_ap, sAsg_ap, gN_ap, gT_ap, gE_ap, gC_ap, kPar_ap, sPar_ap, setAll_cons, setAll_nil, forK_ap, sFor_ap, varK_some, eVar_ap, eC_ap, eBin_ap, nBin_ap, eNeg_ap, kNeg_i, aNil_ap, aCons_ap, toD_d, toDs_nil, toDs_cons, eTup_ap, nLst_ap, eCall_ap, eCallK_ap, eCB_ap, eIfK_t, eIfK_f, eIf_ap, tOfK_b, tOf_ap, andK_t, andK_f, orK_t, orK_f, tAndF_ap, tOrF_ap, notK_ap, tNotF_ap, eAndK_t, eAndK_f, eOrK_t, eOrK_f, eAnd_ap, eOr_ap, eNot_ap, kNot_b, eFrz_ap, eSto_ap, eFre_ap, eFreM_ap, eSet_ap, eAlc_ap, frozen_ok, stored_ok, storedM_ok, fresh_ok, freshM_ok, settle_d, settle_r, settle_w, settle_n, settle_m, settle_exc, allocS_d, allocS_r, allocS_n, allocS_m, addS_i, mulS_t1, mulS_t0, subS_i, ltS_i, leS_i, gtS_i, geS_i, at_0, at_1, at_2, set_0, set_1, cut_old, cut_all, len_1, len_2, app_app, set_set, set_len, retS_d, retS_n, retS_m, retS_x, list_l, list_s, seq_t, seq_k, atI_0, atI_1, atI_2, cLen_t, cLen_l, cLen_z, cInt_i, cInt_b, cI1_i, cI2_i, eIsi_ap, eqS_i, neS_i, eqS_b, neS_b, eqS_p, isN_d, isBl_b, eSl_ap, pNone_ap, pSome_ap, kPt_i, slS_t, nRev_ap, eM1_ap, sSetI_ap, sPutD_ap, eNewT_ap, itOf_ap, itAny_ap, kIter_t, kIter_k, kIter_l, kEnum_l, kZip_l, turnK_some, turnS_ap, loop_nil, nLc_ap, nLcM_ap, tYes_ap, cut_set, cut_setold, eDc_ap, sRetRev_ap, List.set_cons_zero, List.set_cons_succ, List.getElem?_cons_zero, List.getElem?_cons_succ, Option.bind_some, List.length_cons, List.length_nil, lstK0, tupK0, lstK1, tupK1, lstK2, tupK2, lstK3, tupK3, lstK4, tupK4, lstK5, tupK5, List.cons_append, List.nil_append, wipeE, decide_eq_true (show (x : Int) < (s : Int) - 1 by omega), if_true, z_b, addZ (a := l ++ [v]) (b := [32]) (by simp; omega), List.append_assoc]
      · rw [if_neg d]
        simp only [bind_ok, bind_exc, sOf_ok, sOf_exc, sSeq_ap, seqK_nx, seqK_rt, seqK_bk, seqK_ct, seqK_exc, sNil_ap, sPass_ap, sBrk_ap, sCnt_ap, sRetN_ap, sRet_ap, kRet_d, kRet_r, kRet_n, kRet_m, nxK_ap, sExp_ap, ifK_t, ifK_f, sIf_ap, asK_some, kAsg_ap, sAsg_ap, gN_ap, gT_ap, gE_ap, gC_ap, kPar_ap, sPar_ap, setAll_cons, setAll_nil, forK_ap, sFor_ap, varK_some, eVar_ap, eC_ap, eBin_ap, nBin_ap, eNeg_ap, kNeg_i, aNil_ap, aCons_ap, toD_d, toDs_nil, toDs_cons, eTup_ap, nLst_ap, eCall_ap, eCallK_ap, eCB_ap, eIfK_t, eIfK_f, eIf_ap, tOfK_b, tOf_ap, andK_t, andK_f, orK_t, orK_f, tAndF_ap, tOrF_ap, notK_ap, tNotF_ap, eAndK_t, eAndK_f, eOrK_t, eOrK_f, eAnd_ap, eOr_ap, eNot_ap, kNot_b, eFrz_ap, eSto_ap, eFre_ap, eFreM_ap, eSet_ap, eAlc_ap, frozen_ok, stored_ok, storedM_ok, fresh_ok, freshM_ok, settle_d, settle_r, settle_w, settle_n, settle_m, settle_exc, allocS_d, allocS_r, allocS_n, allocS_m, addS_i, mulS_t1, mulS_t0, subS_i, ltS_i, leS_i, gtS_i, geS_i, at_0, at_1, at_2, set_0, set_1, cut_old, cut_all, len_1, len_2, app_app, set_set, set_len, retS_d, retS_n, retS_m, retS_x, list_l, list_s, seq_t, seq_k, atI_0, atI_1, atI_2, cLen_t, cLen_l, cLen_z, cInt_i, cInt_b, cI1_i, cI2_i, eIsi_ap, eqS_i, neS_i, eqS_b, neS_b, eqS_p, isN_d, isBl_b, eSl_ap, pNone_ap, pSome_ap, kPt_i, slS_t, nRev_ap, eM1_ap, sSetI_ap, sPutD_ap, eNewT_ap, itOf_ap, itAny_ap, kIter_t, kIter_k, kIter_l, kEnum_l, kZip_l, turnK_some, turnS_ap, loop_nil, nLc_ap, nLcM_ap, tYes_ap, cut_set, cut_setold, eDc_ap, sRetRev_ap, List.set_cons_zero, List.set_cons_succ, List.getElem?_cons_zero, List.getElem?_cons_succ, Option.bind_some, List.length_cons, List.length_nil, lstK0, tupK0, lstK1, tupK1, lstK2, tupK2, lstK3, tupK3, lstK4, tupK4, lstK5, tupK5, List.cons_append, List.nil_append, wipeE, decide_eq_false (show ¬ (x : Int) < (s : Int) - 1 by omega), Bool.false_eq_true, if_false, show Str.empty = zs [] from rfl, addZ (a := l ++ [v]) (b := []) (by simp; omega), List.append_nil]
    unfold vC
    cases eh : vEdge cs (cs.length - 1) x (y - 1) with
    | true =>
      rw [eh] at ed
      have t := tail 124
      rw [eBin_ap, eC_ap, bind_ok] at t
      simp only [bind_ok, bind_exc, sOf_ok, sOf_exc, sSeq_ap, seqK_nx, seqK_rt, seqK_bk, seqK_ct, seqK_exc, sNil_ap, sPass_ap, sBrk_ap, sCnt_ap, sRetN_ap, sRet_ap, kRet_d, kRet_r, kRet_n, kRet_m, nxK_ap, sExp_ap, ifK_t, ifK_f, sIf_ap, asK_some, kAsg_ap, sAsg_ap, gN_ap, gT_ap, gE_ap, gC_ap, kPar_ap, sPar_ap, setAll_cons, setAll_nil, forK_ap, sFor_ap, varK_some, eVar_ap, eC_ap, eBin_ap, nBin_ap, eNeg_ap, kNeg_i, aNil_ap, aCons_ap, toD_d, toDs_nil, toDs_cons, eTup_ap, nLst_ap, eCall_ap, eCallK_ap, eCB_ap, eIfK_t, eIfK_f, eIf_ap, tOfK_b, tOf_ap, andK_t, andK_f, orK_t, orK_f, tAndF_ap, tOrF_ap, notK_ap, tNotF_ap, eAndK_t, eAndK_f, eOrK_t, eOrK_f, eAnd_ap, eOr_ap, eNot_ap, kNot_b, eFrz_ap, eSto_ap, eFre_ap, eFreM_ap, eSet_ap, eAlc_ap, frozen_ok, stored_ok, storedM_ok, fresh_ok, freshM_ok, settle_d, settle_r, settle_w, settle_n, settle_m, settle_exc, allocS_d, allocS_r, allocS_n, allocS_m, addS_i, mulS_t1, mulS_t0, subS_i, ltS_i, leS_i, gtS_i, geS_i, at_0, at_1, at_2, set_0, set_1, cut_old, cut_all, len_1, len_2, app_app, set_set, set_len, retS_d, retS_n, retS_m, retS_x, list_l, list_s, seq_t, seq_k, atI_0, atI_1, atI_2, cLen_t, cLen_l, cLen_z, cInt_i, cInt_b, cI1_i, cI2_i, eIsi_ap, eqS_i, neS_i, eqS_b, neS_b, eqS_p, isN_d, isBl_b, eSl_ap, pNone_ap, pSome_ap, kPt_i, slS_t, nRev_ap, eM1_ap, sSetI_ap, sPutD_ap, eNewT_ap, itOf_ap, itAny_ap, kIter_t, kIter_k, kIter_l, kEnum_l, kZip_l, turnK_some, turnS_ap, loop_nil, nLc_ap, nLcM_ap, tYes_ap, cut_set, cut_setold, eDc_ap, sRetRev_ap, List.set_cons_zero, List.set_cons_succ, List.getElem?_cons_zero, List.getElem?_cons_succ, Option.bind_some, List.length_cons, List.length_nil, lstK0, tupK0, lstK1, tupK1, lstK2, tupK2, lstK3, tupK3, lstK4, tupK4, lstK5, tupK5, List.cons_append, List.nil_append, wipeE, decide_eq_true (show (0 : Int) < y by omega), g', ed, z_p, addZ (a := l) (b := [124]) (by simp; omega), if_true] at t ⊢
      rw [t, sOf_ok, kAsg_ap, gN_ap, asK_some]
      simp only [bind_ok, bind_exc, sOf_ok, sOf_exc, sSeq_ap, seqK_nx, seqK_rt, seqK_bk, seqK_ct, seqK_exc, sNil_ap, sPass_ap, sBrk_ap, sCnt_ap, sRetN_ap, sRet_ap, kRet_d, kRet_r, kRet_n, kRet_m, nxK_ap, sExp_ap, ifK_t, ifK_f, sIf_ap, asK_some, kAsg_ap, sAsg_ap, gN_ap, gT_ap, gE_ap, gC_ap, kPar_ap, sPar_ap, setAll_cons, setAll_nil, forK_ap, sFor_ap, varK_some, eVar_ap, eC_ap, eBin_ap, nBin_ap, eNeg_ap, kNeg_i, aNil_ap, aCons_ap, toD_d, toDs_nil, toDs_cons, eTup_ap, nLst_ap, eCall_ap, eCallK_ap, eCB_ap, eIfK_t, eIfK_f, eIf_ap, tOfK_b, tOf_ap, andK_t, andK_f, orK_t, orK_f, tAndF_ap, tOrF_ap, notK_ap, tNotF_ap, eAndK_t, eAndK_f, eOrK_t, eOrK_f, eAnd_ap, eOr_ap, eNot_ap, kNot_b, eFrz_ap, eSto_ap, eFre_ap, eFreM_ap, eSet_ap, eAlc_ap, frozen_ok, stored_ok, storedM_ok, fresh_ok, freshM_ok, settle_d, settle_r, settle_w, settle_n, settle_m, settle_exc, allocS_d, allocS_r, allocS_n, allocS_m, addS_i, mulS_t1, mulS_t0, subS_i, ltS_i, leS_i, gtS_i, geS_i, at_0, at_1, at_2, set_0, set_1, cut_old, cut_all, len_1, len_2, app_app, set_set, set_len, retS_d, retS_n, retS_m, retS_x, list_l, list_s, seq_t, seq_k, atI_0, atI_1, atI_2, cLen_t, cLen_l, cLen_z, cInt_i, cInt_b, cI1_i, cI2_i, eIsi_ap, eqS_i, neS_i, eqS_b, neS_b, eqS_p, isN_d, isBl_b, eSl_ap, pNone_ap, pSome_ap, kPt_i, slS_t, nRev_ap, eM1_ap, sSetI_ap, sPutD_ap, eNewT_ap, itOf_ap, itAny_ap, kIter_t, kIter_k, kIter_l, kEnum_l, kZip_l, turnK_some, turnS_ap, loop_nil, nLc_ap, nLcM_ap, tYes_ap, cut_set, cut_setold, eDc_ap, sRetRev_ap, List.set_cons_zero, List.set_cons_succ, List.getElem?_cons_zero, List.getElem?_cons_succ, Option.bind_some, List.length_cons, List.length_nil, lstK0, tupK0, lstK1, tupK1, lstK2, tupK2, lstK3, tupK3, lstK4, tupK4, lstK5, tupK5, List.cons_append, List.nil_append, wipeE]
    | false =>
      rw [eh] at ed
      have t := tail 32
      rw [eBin_ap, eC_ap, bind_ok] at t
      simp only [bind_ok, bind_exc, sOf_ok, sOf_exc, sSeq_ap, seqK_nx, seqK_rt, seqK_bk, seqK_ct, seqK_exc, sNil_ap, sPass_ap, sBrk_ap, sCnt_ap, sRetN_ap, sRet_ap, kRet_d, kRet_r, kRet_n, kRet_m, nxK_ap, sExp_ap, ifK_t, ifK_f, sIf_ap, asK_some, kAsg_ap, sAsg_ap, gN_ap, gT_ap, gE_ap, gC_ap, kPar_ap, sPar_ap, setAll_cons, setAll_nil, forK_ap, sFor_ap, varK_some, eVar_ap, eC_ap, eBin_ap, nBin_ap, eNeg_ap, kNeg_i, aNil_ap, aCons_ap, toD_d, toDs_nil, toDs_cons, eTup_ap, nLst_ap, eCall_ap, eCallK_ap, eCB_ap, eIfK_t, eIfK_f, eIf_ap, tOfK_b, tOf_ap, andK_t, andK_f, orK_t, orK_f, tAndF_ap, tOrF_ap, notK_ap, tNotF_ap, eAndK_t, eAndK_f, eOrK_t, eOrK_f, eAnd_ap, eOr_ap, eNot_ap, kNot_b, eFrz_ap, eSto_ap, eFre_ap, eFreM_ap, eSet_ap, eAlc_ap, frozen_ok, stored_ok, storedM_ok, fresh_ok, freshM_ok, settle_d, settle_r, settle_w, settle_n, settle_m, settle_exc, allocS_d, allocS_r, allocS_n, allocS_m, addS_i, mulS_t1, mulS_t0, subS_i, ltS_i, leS_i, gtS_i, geS_i, at_0, at_1, at_2, set_0, set_1, cut_old, cut_all, len_1, len_2, app_app, set_set, set_len, retS_d, retS_n, retS_m, retS_x, list_l, list_s, seq_t, seq_k, atI_0, atI_1, atI_2, cLen_t, cLen_l, cLen_z, cInt_i, cInt_b, cI1_i, cI2_i, eIsi_ap, eqS_i, neS_i, eqS_b, neS_b, eqS_p, isN_d, isBl_b, eSl_ap, pNone_ap, pSome_ap, kPt_i, slS_t, nRev_ap, eM1_ap, sSetI_ap, sPutD_ap, eNewT_ap, itOf_ap, itAny_ap, kIter_t, kIter_k, kIter_l, kEnum_l, kZip_l, turnK_some, turnS_ap, loop_nil, nLc_ap, nLcM_ap, tYes_ap, cut_set, cut_setold, eDc_ap, sRetRev_ap, List.set_cons_zero, List.set_cons_succ, List.getElem?_cons_zero, List.getElem?_cons_succ, Option.bind_some, List.length_cons, List.length_nil, lstK0, tupK0, lstK1, tupK1, lstK2, tupK2, lstK3, tupK3, lstK4, tupK4, lstK5, tupK5, List.cons_append, List.nil_append, wipeE, decide_eq_true (show (0 : Int) < y by omega), g', ed, z_b, addZ (a := l) (b := [32]) (by simp; omega), Bool.false_eq_true, if_false] at t ⊢
      rw [t, sOf_ok, kAsg_ap, gN_ap, asK_some]
      simp only [bind_ok, bind_exc, sOf_ok, sOf_exc, sSeq_ap, seqK_nx, seqK_rt, seqK_bk, seqK_ct, seqK_exc, sNil_ap, sPass_ap, sBrk_ap, sCnt_ap, sRetN_ap, sRet_ap, kRet_d, kRet_r, kRet_n, kRet_m, nxK_ap, sExp_ap, ifK_t, ifK_f, sIf_ap, asK_some, kAsg_ap, sAsg_ap, gN_ap, gT_ap, gE_ap, gC_ap, kPar_ap, sPar_ap, setAll_cons, setAll_nil, forK_ap, sFor_ap, varK_some, eVar_ap, eC_ap, eBin_ap, nBin_ap, eNeg_ap, kNeg_i, aNil_ap, aCons_ap, toD_d, toDs_nil, toDs_cons, eTup_ap, nLst_ap, eCall_ap, eCallK_ap, eCB_ap, eIfK_t, eIfK_f, eIf_ap, tOfK_b, tOf_ap, andK_t, andK_f, orK_t, orK_f, tAndF_ap, tOrF_ap, notK_ap, tNotF_ap, eAndK_t, eAndK_f, eOrK_t, eOrK_f, eAnd_ap, eOr_ap, eNot_ap, kNot_b, eFrz_ap, eSto_ap, eFre_ap, eFreM_ap, eSet_ap, eAlc_ap, frozen_ok, stored_ok, storedM_ok, fresh_ok, freshM_ok, settle_d, settle_r, settle_w, settle_n, settle_m, settle_exc, allocS_d, allocS_r, allocS_n, allocS_m, addS_i, mulS_t1, mulS_t0, subS_i, ltS_i, leS_i, gtS_i, geS_i, at_0, at_1, at_2, set_0, set_1, cut_old, cut_all, len_1, len_2, app_app, set_set, set_len, retS_d, retS_n, retS_m, retS_x, list_l, list_s, seq_t, seq_k, atI_0, atI_1, atI_2, cLen_t, cLen_l, cLen_z, cInt_i, cInt_b, cI1_i, cI2_i, eIsi_ap, eqS_i, neS_i, eqS_b, neS_b, eqS_p, isN_d, isBl_b, eSl_ap, pNone_ap, pSome_ap, kPt_i, slS_t, nRev_ap, eM1_ap, sSetI_ap, sPutD_ap, eNewT_ap, itOf_ap, itAny_ap, kIter_t, kIter_k, kIter_l, kEnum_l, kZip_l, turnK_some, turnS_ap, loop_nil, nLc_ap, nLcM_ap, tYes_ap, cut_set, cut_setold, eDc_ap, sRetRev_ap, List.set_cons_zero, List.set_cons_succ, List.getElem?_cons_zero, List.getElem?_cons_succ, Option.bind_some, List.length_cons, List.length_nil, lstK0, tupK0, lstK1, tupK1, lstK2, tupK2, lstK3, tupK3, lstK4, tupK4, lstK5, tupK5, List.cons_append, List.nil_append, wipeE]
  · rw [if_neg c, List.append_nil]
    simp only [bind_ok, bind_exc, sOf_ok, sOf_exc, sSeq_ap, seqK_nx, seqK_rt, seqK_bk, seqK_ct, seqK_exc, sNil_ap, sPass_ap, sBrk_ap, sCnt_ap, sRetN_ap, sRet_ap, kRet_d, kRet_r, kRet_n, kRet_m, nxK_ap, sExp_ap, ifK_t, ifK_f, sIf_ap, asK_some, kAsg_ap, sAsg_ap, gN_ap, gT_ap, gE_ap, gC_ap, kPar_ap, sPar_ap, setAll_cons, setAll_nil, forK_ap, sFor_ap, varK_some, eVar_ap, eC_ap, eBin_ap, nBin_ap, eNeg_ap, kNeg_i, aNil_ap, aCons_ap, toD_d, toDs_nil, toDs_cons, eTup_ap, nLst_ap, eCall_ap, eCallK_ap, eCB_ap, eIfK_t, eIfK_f, eIf_ap, tOfK_b, tOf_ap, andK_t, andK_f, orK_t, orK_f, tAndF_ap, tOrF_ap, notK_ap, tNotF_ap, eAndK_t, eAndK_f, eOrK_t, eOrK_f, eAnd_ap, eOr_ap, eNot_ap, kNot_b, eFrz_ap, eSto_ap, eFre_ap, eFreM_ap, eSet_ap, eAlc_ap, frozen_ok, stored_ok, storedM_ok, fresh_ok, freshM_ok, settle_d, settle_r, settle_w, settle_n, settle_m, settle_exc, allocS_d, allocS_r, allocS_n, allocS_m, addS_i, mulS_t1, mulS_t0, subS_i, ltS_i, leS_i, gtS_i, geS_i, at_0, at_1, at_2, set_0, set_1, cut_old, cut_all, len_1, len_2, app_app, set_set, set_len, retS_d, retS_n, retS_m, retS_x, list_l, list_s, seq_t, seq_k, atI_0, atI_1, atI_2, cLen_t, cLen_l, cLen_z, cInt_i, cInt_b, cI1_i, cI2_i, eIsi_ap, eqS_i, neS_i, eqS_b, neS_b, eqS_p, isN_d, isBl_b, eSl_ap, pNone_ap, pSome_ap, kPt_i, slS_t, nRev_ap, eM1_ap, sSetI_ap, sPutD_ap, eNewT_ap, itOf_ap, itAny_ap, kIter_t, kIter_k, kIter_l, kEnum_l, kZip_l, turnK_some, turnS_ap, loop_nil, nLc_ap, nLcM_ap, tYes_ap, cut_set, cut_setold, eDc_ap, sRetRev_ap, List.set_cons_zero, List.set_cons_succ, List.getElem?_cons_zero, List.getElem?_cons_succ, Option.bind_some, List.length_cons, List.length_nil, lstK0, tupK0, lstK1, tupK1, lstK2, tupK2, lstK3, tupK3, lstK4, tupK4, lstK5, tupK5, List.cons_append, List.nil_append, wipeE, decide_eq_false (show ¬ (0 : Int) < y by omega)]
/-! ### the lines -/
theorem even_split (f : Nat → Nat) : ∀ k, (List.range (2 * k + 1)).map f = ((List.range k).flatMap fun i => [f (2 * i), f (2 * i + 1)]) ++ [f (2 * k)]
  | 0 => rfl
  | k + 1 => by
    rw [show 2 * (k + 1) + 1 = 2 * k + 1 + 1 + 1 by omega, List.range_succ, List.map_append, List.range_succ, List.map_append, even_split f k, List.range_succ, List.flatMap_append]
    simp [show 2 * (k + 1) = 2 * k + 2 by omega]
theorem lin_all {s : Nat} {cs : List (Nat × Nat)} (hs : 1 ≤ s) (y : Nat) : linL s cs y s = lineC s cs (2 * y) := by
  obtain ⟨k, rfl⟩ : ∃ k, s = k + 1 := ⟨s - 1, by omega⟩
  unfold lineC linL
  rw [show 2 * (k + 1) - 1 = 2 * k + 1 by omega, even_split, List.range_succ, List.flatMap_append]
  congr 1
  · refine flat_congr fun x hx => ?_
    have hx := List.mem_range.mp hx
    rw [if_pos (by omega)]
    unfold sgnC hC
    have e1 : (2 * x) % 2 = 0 := by omega
    have e2 : ¬ (2 * x + 1) % 2 = 0 := by omega
    have e3 : (2 * y) % 2 = 0 := by omega
    have e4 : (2 * x + 1) / 2 = x := by omega
    have e5 : 2 * y / 2 = y := by omega
    simp only [e1, e2, e3, e4, e5, if_true, if_false]
  · rw [List.flatMap_cons, List.flatMap_nil, List.append_nil, if_neg (by omega)]
    unfold sgnC
    have e1 : (2 * k) % 2 = 0 := by omega
    have e3 : (2 * y) % 2 = 0 := by omega
    simp only [e1, e3, if_true]
theorem bel_all {s : Nat} {cs : List (Nat × Nat)} (hs : 1 ≤ s) {y : Nat} (hy : 0 < y) : belL s cs y s = lineC s cs (2 * y - 1) := by
  obtain ⟨k, rfl⟩ : ∃ k, s = k + 1 := ⟨s - 1, by omega⟩
  unfold lineC belL
  rw [if_pos hy, show 2 * (k + 1) - 1 = 2 * k + 1 by omega, even_split, List.range_succ, List.flatMap_append]
  have e3 : ¬ (2 * y - 1) % 2 = 0 := by omega
  have e5 : (2 * y - 1) / 2 = y - 1 := by omega
  congr 1
  · refine flat_congr fun x hx => ?_
    have hx := List.mem_range.mp hx
    rw [if_pos (by omega)]
    unfold sgnC vC
    have e1 : (2 * x) % 2 = 0 := by omega
    have e2 : ¬ (2 * x + 1) % 2 = 0 := by omega
    have e4 : (2 * x) / 2 = x := by omega
    simp only [e1, e2, e3, e4, e5, if_true, if_false]
  · rw [List.flatMap_cons, List.flatMap_nil, List.append_nil, if_neg (by omega)]
    unfold sgnC vC
    have e1 : (2 * k) % 2 = 0 := by omega
    have e4 : (2 * k) / 2 = k := by omega
    simp only [e1, e3, e4, e5, if_true, if_false]
theorem rev_range : ∀ k, (List.range (2 * (k + 1) - 1)).reverse = (List.range (k + 1)).reverse.flatMap fun y => 2 * y :: (if 0 < y then [2 * y - 1] else [])
  | 0 => rfl
  | k + 1 => by
    rw [show 2 * (k + 1 + 1) - 1 = 2 * (k + 1) - 1 + 1 + 1 by omega, List.range_succ, List.reverse_append, List.range_succ, List.reverse_append, rev_range k, List.range_succ (n := k + 1), List.reverse_append]
    simp only [List.reverse_cons, List.reverse_nil, List.nil_append, List.cons_append, List.flatMap_cons]
    rw [if_pos (by omega)]
    simp
    omega
def signsV (s : Nat) (cs : List (Nat × Nat)) : List Vl := (List.range (2 * s - 1)).reverse.map (lineV s cs)
def rowsV (s : Nat) (cs : List (Nat × Nat)) : List Vl := (List.range s).reverse.map fun y => Vl.lst ((List.range s).map fun x => .int (no cs x y))
def dueV (s : Nat) (cs : List (Nat × Nat)) : Vl := .tup [.lst (signsV s cs), .lst (rowsV s cs)]
def twoV (s : Nat) (cs : List (Nat × Nat)) (y : Nat) : List Vl := .str (zs (linL s cs y s)) :: (if 0 < y then [.str (zs (belL s cs y s))] else [])
theorem signs_flat {s : Nat} {cs : List (Nat × Nat)} (hs : 1 ≤ s) : signsV s cs = (List.range s).reverse.flatMap (twoV s cs) := by
  obtain ⟨k, rfl⟩ : ∃ k, s = k + 1 := ⟨s - 1, by omega⟩
  unfold signsV
  rw [rev_range k, List.map_flatMap]
  refine flat_congr fun y hy => ?_
  unfold twoV lineV
  rw [lin_all (by omega)]
  by_cases h : 0 < y
  · rw [if_pos h, if_pos h, bel_all (by omega) h]
    rfl
  · rw [if_neg h, if_neg h]
    rfl
theorem due_x {s : Nat} {cs : List (Nat × Nat)} (ok : CellsOk s cs) (hs : 1 ≤ s ∧ s ≤ 81) {S : Sto} {m y : Nat} (h : S[m]? = some (Ce.dtp (numD cs cs.length))) (hy : y < s) {u0 u1 u4 u5 u6 u7 u11 u12 : Option Sl} :
    ∃ v11 v12, loopS (turnS (gN 11) l_x_law_due_1) ((List.range s).map natV) [u0, u1, some (.d (.int s)), some (.r m), u4, u5, u6, u7, some (.d (.int y)), some (.d (.str (zs []))), some (.d (.str (zs []))), u11, u12] S =
      .nx [u0, u1, some (.d (.int s)), some (.r m), u4, u5, u6, u7, some (.d (.int y)), some (.d (.str (zs (linL s cs y s)))), some (.d (.str (zs (belL s cs y s)))), v11, v12] S := by
  obtain ⟨ρ', S', e, v11, v12, rfl, rfl⟩ := loop_inv (h := turnS (gN 11) l_x_law_due_1) (fun k ρ S' => ∃ v11 v12 : Option Sl, ρ = [u0, u1, some (.d (.int s)), some (.r m), u4, u5, u6, u7, some (.d (.int y)), some (.d (.str (zs (linL s cs y k)))), some (.d (.str (zs (belL s cs y k)))), v11, v12] ∧ S' = S)
    ((List.range s).map natV) 0 [u0, u1, some (.d (.int s)), some (.r m), u4, u5, u6, u7, some (.d (.int y)), some (.d (.str (zs []))), some (.d (.str (zs []))), u11, u12] S
    ⟨u11, u12, by
      have e1 : linL s cs y 0 = [] := rfl
      have e2 : belL s cs y 0 = [] := by unfold belL; split <;> rfl
      rw [e1, e2], rfl⟩ (fun x d ρ S' hd ⟨v11, v12, hρ, hS⟩ => by
      subst hρ hS
      rw [Nat.zero_add]
      have hx : x < s := by
        have := (List.getElem?_eq_some_iff.mp hd).1
        rw [List.length_map, List.length_range] at this
        exact this
      rw [List.getElem?_map, List.getElem?_range hx] at hd
      cases hd
      have g := num_get ok h hx hy
      have l1 : (linL s cs y x).length ≤ 2 * x := linL_len
      have l2 : (belL s cs y x).length ≤ 2 * x := belL_len
      have a := sA_spec ok h hx hy (l := linL s cs y x ++ [111]) (by simp; omega) (u0 := u0) (u1 := u1) (u4 := u4) (u5 := u5) (u6 := u6) (u7 := u7) (u10 := some (.d (.str (zs (belL s cs y x)))))
      have b := sB_spec ok h hx hy (l := belL s cs y x) (by omega) (u0 := u0) (u1 := u1) (u4 := u4) (u5 := u5) (u6 := u6) (u7 := u7) (u9 := some (.d (.str (zs (linL s cs y x ++ [111] ++ (if x + 1 < s then [hC cs x y] else []))))))
      have e1 : linL s cs y (x + 1) = linL s cs y x ++ [111] ++ (if x + 1 < s then [hC cs x y] else []) := by
        unfold linL
        rw [List.range_succ, List.flatMap_append, List.flatMap_cons, List.flatMap_nil, List.append_nil, List.append_assoc]
        rfl
      have e2 : belL s cs y (x + 1) = belL s cs y x ++ (if 0 < y then vC cs x (y - 1) :: (if x + 1 < s then [32] else []) else []) := by
        unfold belL
        split
        · rw [List.range_succ, List.flatMap_append, List.flatMap_cons, List.flatMap_nil, List.append_nil]
        · rfl
      rw [e1, e2]
      refine ⟨_, _, ?_, some (.d (.int x)), some (.d (.int (no cs x y))), rfl, rfl⟩
      unfold l_x_law_due_1
      simp only [sSeq_ap, turnS_ap, gN_ap, turnK_some, List.set_cons_zero, List.set_cons_succ, sAsg_ap, eBin_ap, eVar_ap, List.getElem?_cons_zero, List.getElem?_cons_succ, varK_some, bind_ok, eTup_ap, aCons_ap, aNil_ap, toDs_cons, toDs_nil, toD_d, tupK2, natV, g, sOf_ok, kAsg_ap, asK_some, seqK_nx, eC_ap, z_o, addZ (a := linL s cs y x) (b := [111]) (by simp; omega)]
      show seqK (sA _ _) (sSeq sB sNil) = _
      rw [a, seqK_nx, sSeq_ap, b, seqK_nx, sNil_ap])
  rw [Nat.zero_add, List.length_map, List.length_range] at e
  exact ⟨v11, v12, e⟩
end K42

namespace K42
open PySem PySem.Spec PyProof.Rows L2 F
theorem z_0 : ("" : Str) = zs [] := by decide
theorem rep1 {x : Vl} {st : Sto} : mulS (.d (.lst [x])) (.d (.int 1)) st = .ok (.d (.lst [x])) st := by
  rw [mulS_l ⟨by decide, by decide⟩ (by simp)]
  rfl
theorem rep0 {x : Vl} {st : Sto} : mulS (.d (.lst [x])) (.d (.int 0)) st = .ok (.d (.lst [])) st := by
  rw [mulS_l ⟨by decide, by decide⟩ (by simp)]
  rfl
def rowV (s : Nat) (cs : List (Nat × Nat)) (y : Nat) : Vl := .lst ((List.range s).map fun x => .int (no cs x y))
theorem two_len {s : Nat} {cs : List (Nat × Nat)} : ∀ ys : List Nat, (ys.flatMap (twoV s cs)).length ≤ 2 * ys.length
  | [] => by simp
  | y :: ys => by
    rw [List.flatMap_cons, List.length_append, List.length_cons]
    have := two_len (s := s) (cs := cs) ys
    have h : (twoV s cs y).length ≤ 2 := by unfold twoV; split <;> simp
    omega
theorem due_y {s : Nat} {cs : List (Nat × Nat)} (ok : CellsOk s cs) (hs : 1 ≤ s ∧ s ≤ 81) {st : Sto} {y : Nat} (hy : y < s) {A R : List Vl} (hA : A.length ≤ 1000) (hR : R.length ≤ 1000) {u0 u1 u4 u5 v8 v9 v10 v11 v12 : Option Sl} :
    ∃ w9 w10 w11 w12, turnS (gN 8) l_x_law_due_2 (natV y) [u0, u1, some (.d (.int s)), some (.r st.length), u4, u5, some (.d (.lst A)), some (.r (st.length + 1)), v8, v9, v10, v11, v12] (st ++ [Ce.dtp (numD cs cs.length), Ce.lst R]) =
      .nx [u0, u1, some (.d (.int s)), some (.r st.length), u4, u5, some (.d (.lst (A ++ twoV s cs y))), some (.r (st.length + 1)), some (.d (natV y)), w9, w10, w11, w12] (st ++ [Ce.dtp (numD cs cs.length), Ce.lst (R ++ [rowV s cs y])]) := by
  have h0 : (st ++ [Ce.dtp (numD cs cs.length), Ce.lst R])[st.length]? = some (Ce.dtp (numD cs cs.length)) := at_0
  obtain ⟨v11', v12', e⟩ := due_x ok hs h0 hy (u0 := u0) (u1 := u1) (u4 := u4) (u5 := u5) (u6 := some (.d (.lst A))) (u7 := some (.r (st.length + 1))) (u11 := v11) (u12 := v12)
  rw [← rgD_nat] at e
  have lc := lc_mapf (st := st ++ [Ce.dtp (numD cs cs.length), Ce.lst R]) (gt := gN 11) (t := tYesF) (f := (eBin kGet (eVar 3) (eTup (aCons (eVar 11) (aCons (eVar 8) aNil))))) (ρ := [u0, u1, some (.d (.int s)), some (.r st.length), u4, u5, some (.d (.lst (A ++ twoV s cs y))), some (.r (st.length + 1)), some (.d (.int y)), some (.d (.str (zs (linL s cs y s)))), some (.d (.str (zs (belL s cs y s)))), none, v12']) (enc := natV) (out := fun x => .int (no cs x y)) (List.range s) [] (by rw [List.length_nil, List.length_range]; omega) (fun x hx => by
    refine ⟨_, rfl, rfl, ?_⟩
    have g := num_get ok h0 (List.mem_range.mp hx) hy
    simp only [bind_ok, bind_exc, sOf_ok, sOf_exc, sSeq_ap, seqK_nx, seqK_rt, seqK_bk, seqK_ct, seqK_exc, sNil_ap, sPass_ap, sBrk_ap, sCnt_ap, sRetN_ap, sRet_ap, kRet_d, kRet_r, kRet_n, kRet_m, nxK_ap, sExp_ap, ifK_t, ifK_f, sIf_ap, asK_some, kAsg_ap, sAsg_ap, gN_ap, gT_ap, gE_ap, gC_ap, kPar_ap, sPar_ap, setAll_cons, setAll_nil, forK_ap, sFor_ap, varK_some, eVar_ap, eC_ap, eBin_ap, nBin_ap, eNeg_ap, kNeg_i, aNil_ap, aCons_ap, toD_d, toDs_nil, toDs_cons, eTup_ap, nLst_ap, eCall_ap, eCallK_ap, eCB_ap, eIfK_t, eIfK_f, eIf_ap, tOfK_b, tOf_ap, andK_t, andK_f, orK_t, orK_f, tAndF_ap, tOrF_ap, notK_ap, tNotF_ap, eAndK_t, eAndK_f, eOrK_t, eOrK_f, eAnd_ap, eOr_ap, eNot_ap, kNot_b, eFrz_ap, eSto_ap, eFre_ap, eFreM_ap, eSet_ap, eAlc_ap, frozen_ok, stored_ok, storedM_ok, fresh_ok, freshM_ok, settle_d, settle_r, settle_w, settle_n, settle_m, settle_exc, allocS_d, allocS_r, allocS_n, allocS_m, addS_i, mulS_t1, mulS_t0, subS_i, ltS_i, leS_i, gtS_i, geS_i, at_0, at_1, at_2, set_0, set_1, cut_old, cut_all, len_1, len_2, app_app, set_set, set_len, retS_d, retS_n, retS_m, retS_x, list_l, list_s, seq_t, seq_k, atI_0, atI_1, atI_2, cLen_t, cLen_l, cLen_z, cInt_i, cInt_b, cI1_i, cI2_i, eIsi_ap, eqS_i, neS_i, eqS_b, neS_b, eqS_p, isN_d, isBl_b, eSl_ap, pNone_ap, pSome_ap, kPt_i, slS_t, nRev_ap, eM1_ap, sSetI_ap, sPutD_ap, eNewT_ap, itOf_ap, itAny_ap, kIter_t, kIter_k, kIter_l, kEnum_l, kZip_l, turnK_some, turnS_ap, loop_nil, nLc_ap, nLcM_ap, tYes_ap, cut_set, cut_setold, eDc_ap, sRetRev_ap, List.set_cons_zero, List.set_cons_succ, List.getElem?_cons_zero, List.getElem?_cons_succ, Option.bind_some, List.length_cons, List.length_nil, lstK0, tupK0, lstK1, tupK1, lstK2, tupK2, lstK3, tupK3, lstK4, tupK4, lstK5, tupK5, List.cons_append, List.nil_append, wipeE, natV, g])
  rw [← rgD_nat, List.nil_append] at lc
  have ap := kApp_r (x := rowV s cs y) (st := st ++ [Ce.dtp (numD cs cs.length), Ce.lst R]) (n := st.length + 1) at_1 (by omega)
  rw [set_1] at ap
  unfold rowV at ap ⊢
  have rg := kRg1_i (st := st ++ [Ce.dtp (numD cs cs.length), Ce.lst R]) (rgOk_of (show -4611686018427387904 ≤ (s : Int) by omega) (show (s : Int) < 4611686018427387904 by omega))
  rw [Int.toNat_natCast] at rg
  refine ⟨some (.d (.str (zs (linL s cs y s)))), some (.d (.str (zs (belL s cs y s)))), v11', v12', ?_⟩
  unfold l_x_law_due_2 c_x_law_due_1
  by_cases c : 0 < y
  · have tw : A ++ twoV s cs y = A ++ [.str (zs (linL s cs y s))] ++ [.str (zs (belL s cs y s))] := by unfold twoV; rw [if_pos c, List.append_assoc]; rfl
    rw [tw] at lc ⊢
    simp only [bind_ok, bind_exc, sOf_ok, sOf_exc, sSeq_ap, seqK_nx, seqK_rt, seqK_bk, seqK_ct, seqK_exc, sNil_ap, sPass_ap, sBrk_ap, sCnt_ap, sRetN_ap, sRet_ap, kRet_d, kRet_r, kRet_n, kRet_m, nxK_ap, sExp_ap, ifK_t, ifK_f, sIf_ap, asK_some, kAsg_ap, sAsg_ap, gN_ap, gT_ap, gE_ap, gC_ap, kPar_ap, sPar_ap, setAll_cons, setAll_nil, forK_ap, sFor_ap, varK_some, eVar_ap, eC_ap, eBin_ap, nBin_ap, eNeg_ap, kNeg_i, aNil_ap, aCons_ap, toD_d, toDs_nil, toDs_cons, eTup_ap, nLst_ap, eCall_ap, eCallK_ap, eCB_ap, eIfK_t, eIfK_f, eIf_ap, tOfK_b, tOf_ap, andK_t, andK_f, orK_t, orK_f, tAndF_ap, tOrF_ap, notK_ap, tNotF_ap, eAndK_t, eAndK_f, eOrK_t, eOrK_f, eAnd_ap, eOr_ap, eNot_ap, kNot_b, eFrz_ap, eSto_ap, eFre_ap, eFreM_ap, eSet_ap, eAlc_ap, frozen_ok, stored_ok, storedM_ok, fresh_ok, freshM_ok, settle_d, settle_r, settle_w, settle_n, settle_m, settle_exc, allocS_d, allocS_r, allocS_n, allocS_m, addS_i, mulS_t1, mulS_t0, subS_i, ltS_i, leS_i, gtS_i, geS_i, at_0, at_1, at_2, set_0, set_1, cut_old, cut_all, len_1, len_2, app_app, set_set, set_len, retS_d, retS_n, retS_m, retS_x, list_l, list_s, seq_t, seq_k, atI_0, atI_1, atI_2, cLen_t, cLen_l, cLen_z, cInt_i, cInt_b, cI1_i, cI2_i, eIsi_ap, eqS_i, neS_i, eqS_b, neS_b, eqS_p, isN_d, isBl_b, eSl_ap, pNone_ap, pSome_ap, kPt_i, slS_t, nRev_ap, eM1_ap, sSetI_ap, sPutD_ap, eNewT_ap, itOf_ap, itAny_ap, kIter_t, kIter_k, kIter_l, kEnum_l, kZip_l, turnK_some, turnS_ap, loop_nil, nLc_ap, nLcM_ap, tYes_ap, cut_set, cut_setold, eDc_ap, sRetRev_ap, List.set_cons_zero, List.set_cons_succ, List.getElem?_cons_zero, List.getElem?_cons_succ, Option.bind_some, List.length_cons, List.length_nil, lstK0, tupK0, lstK1, tupK1, lstK2, tupK2, lstK3, tupK3, lstK4, tupK4, lstK5, tupK5, List.cons_append, List.nil_append, wipeE, natV, z_0, rg, e, decide_eq_true (show (0 : Int) < y by omega), if_true, rep1, addS_l (ds := A) (es := [.str (zs (linL s cs y s))]) (by simp; omega), addS_l (ds := A ++ [.str (zs (linL s cs y s))]) (es := [.str (zs (belL s cs y s))]) (by simp; omega), m1K_r (lstAt_r at_1)]
    simp only [List.append_assoc, List.cons_append, List.nil_append] at lc ⊢
    simp only [bind_ok, bind_exc, sOf_ok, sOf_exc, sSeq_ap, seqK_nx, seqK_rt, seqK_bk, seqK_ct, seqK_exc, sNil_ap, sPass_ap, sBrk_ap, sCnt_ap, sRetN_ap, sRet_ap, kRet_d, kRet_r, kRet_n, kRet_m, nxK_ap, sExp_ap, ifK_t, ifK_f, sIf_ap, asK_some, kAsg_ap, sAsg_ap, gN_ap, gT_ap, gE_ap, gC_ap, kPar_ap, sPar_ap, setAll_cons, setAll_nil, forK_ap, sFor_ap, varK_some, eVar_ap, eC_ap, eBin_ap, nBin_ap, eNeg_ap, kNeg_i, aNil_ap, aCons_ap, toD_d, toDs_nil, toDs_cons, eTup_ap, nLst_ap, eCall_ap, eCallK_ap, eCB_ap, eIfK_t, eIfK_f, eIf_ap, tOfK_b, tOf_ap, andK_t, andK_f, orK_t, orK_f, tAndF_ap, tOrF_ap, notK_ap, tNotF_ap, eAndK_t, eAndK_f, eOrK_t, eOrK_f, eAnd_ap, eOr_ap, eNot_ap, kNot_b, eFrz_ap, eSto_ap, eFre_ap, eFreM_ap, eSet_ap, eAlc_ap, frozen_ok, stored_ok, storedM_ok, fresh_ok, freshM_ok, settle_d, settle_r, settle_w, settle_n, settle_m, settle_exc, allocS_d, allocS_r, allocS_n, allocS_m, addS_i, mulS_t1, mulS_t0, subS_i, ltS_i, leS_i, gtS_i, geS_i, at_0, at_1, at_2, set_0, set_1, cut_old, cut_all, len_1, len_2, app_app, set_set, set_len, retS_d, retS_n, retS_m, retS_x, list_l, list_s, seq_t, seq_k, atI_0, atI_1, atI_2, cLen_t, cLen_l, cLen_z, cInt_i, cInt_b, cI1_i, cI2_i, eIsi_ap, eqS_i, neS_i, eqS_b, neS_b, eqS_p, isN_d, isBl_b, eSl_ap, pNone_ap, pSome_ap, kPt_i, slS_t, nRev_ap, eM1_ap, sSetI_ap, sPutD_ap, eNewT_ap, itOf_ap, itAny_ap, kIter_t, kIter_k, kIter_l, kEnum_l, kZip_l, turnK_some, turnS_ap, loop_nil, nLc_ap, nLcM_ap, tYes_ap, cut_set, cut_setold, eDc_ap, sRetRev_ap, List.set_cons_zero, List.set_cons_succ, List.getElem?_cons_zero, List.getElem?_cons_succ, Option.bind_some, List.length_cons, List.length_nil, lstK0, tupK0, lstK1, tupK1, lstK2, tupK2, lstK3, tupK3, lstK4, tupK4, lstK5, tupK5, List.cons_append, List.nil_append, wipeE, lc, ap]
  · have tw : A ++ twoV s cs y = A ++ [.str (zs (linL s cs y s))] ++ [] := by unfold twoV; rw [if_neg c, List.append_nil]
    rw [tw] at lc ⊢
    simp only [bind_ok, bind_exc, sOf_ok, sOf_exc, sSeq_ap, seqK_nx, seqK_rt, seqK_bk, seqK_ct, seqK_exc, sNil_ap, sPass_ap, sBrk_ap, sCnt_ap, sRetN_ap, sRet_ap, kRet_d, kRet_r, kRet_n, kRet_m, nxK_ap, sExp_ap, ifK_t, ifK_f, sIf_ap, asK_some, kAsg_ap, sAsg_ap, gN_ap, gT_ap, gE_ap, gC_ap, kPar_ap, sPar_ap, setAll_cons, setAll_nil, forK_ap, sFor_ap, varK_some, eVar_ap, eC_ap, eBin_ap, nBin_ap, eNeg_ap, kNeg_i, aNil_ap, aCons_ap, toD_d, toDs_nil, toDs_cons, eTup_ap, nLst_ap, eCall_ap, eCallK_ap, eCB_ap, eIfK_t, eIfK_f, eIf_ap, tOfK_b, tOf_ap, andK_t, andK_f, orK_t, orK_f, tAndF_ap, tOrF_ap, notK_ap, tNotF_ap, eAndK_t, eAndK_f, eOrK_t, eOrK_f, eAnd_ap, eOr_ap, eNot_ap, kNot_b, eFrz_ap, eSto_ap, eFre_ap, eFreM_ap, eSet_ap, eAlc_ap, frozen_ok, stored_ok, storedM_ok, fresh_ok, freshM_ok, settle_d, settle_r, settle_w, settle_n, settle_m, settle_exc, allocS_d, allocS_r, allocS_n, allocS_m, addS_i, mulS_t1, mulS_t0, subS_i, ltS_i, leS_i, gtS_i, geS_i, at_0, at_1, at_2, set_0, set_1, cut_old, cut_all, len_1, len_2, app_app, set_set, set_len, retS_d, retS_n, retS_m, retS_x, list_l, list_s, seq_t, seq_k, atI_0, atI_1, atI_2, cLen_t, cLen_l, cLen_z, cInt_i, cInt_b, cI1_i, cI2_i, eIsi_ap, eqS_i, neS_i, eqS_b, neS_b, eqS_p, isN_d, isBl_b, eSl_ap, pNone_ap, pSome_ap, kPt_i, slS_t, nRev_ap, eM1_ap, sSetI_ap, sPutD_ap, eNewT_ap, itOf_ap, itAny_ap, kIter_t, kIter_k, kIter_l, kEnum_l, kZip_l, turnK_some, turnS_ap, loop_nil, nLc_ap, nLcM_ap, tYes_ap, cut_set, cut_setold, eDc_ap, sRetRev_ap, List.set_cons_zero, List.set_cons_succ, List.getElem?_cons_zero, List.getElem?_cons_succ, Option.bind_some, List.length_cons, List.length_nil, lstK0, tupK0, lstK1, tupK1, lstK2, tupK2, lstK3, tupK3, lstK4, tupK4, lstK5, tupK5, List.cons_append, List.nil_append, wipeE, natV, z_0, rg, e, decide_eq_false (show ¬ (0 : Int) < y by omega), Bool.false_eq_true, if_false, rep0, addS_l (ds := A) (es := [.str (zs (linL s cs y s))]) (by simp; omega), addS_l (ds := A ++ [.str (zs (linL s cs y s))]) (es := []) (by simp; omega), m1K_r (lstAt_r at_1)]
    simp only [List.append_assoc, List.cons_append, List.nil_append, List.append_nil] at lc ⊢
    simp only [bind_ok, bind_exc, sOf_ok, sOf_exc, sSeq_ap, seqK_nx, seqK_rt, seqK_bk, seqK_ct, seqK_exc, sNil_ap, sPass_ap, sBrk_ap, sCnt_ap, sRetN_ap, sRet_ap, kRet_d, kRet_r, kRet_n, kRet_m, nxK_ap, sExp_ap, ifK_t, ifK_f, sIf_ap, asK_some, kAsg_ap, sAsg_ap, gN_ap, gT_ap, gE_ap, gC_ap, kPar_ap, sPar_ap, setAll_cons, setAll_nil, forK_ap, sFor_ap, varK_some, eVar_ap, eC_ap, eBin_ap, nBin_ap, eNeg_ap, kNeg_i, aNil_ap, aCons_ap, toD_d, toDs_nil, toDs_cons, eTup_ap, nLst_ap, eCall_ap, eCallK_ap, eCB_ap, eIfK_t, eIfK_f, eIf_ap, tOfK_b, tOf_ap, andK_t, andK_f, orK_t, orK_f, tAndF_ap, tOrF_ap, notK_ap, tNotF_ap, eAndK_t, eAndK_f, eOrK_t, eOrK_f, eAnd_ap, eOr_ap, eNot_ap, kNot_b, eFrz_ap, eSto_ap, eFre_ap, eFreM_ap, eSet_ap, eAlc_ap, frozen_ok, stored_ok, storedM_ok, fresh_ok, freshM_ok, settle_d, settle_r, settle_w, settle_n, settle_m, settle_exc, allocS_d, allocS_r, allocS_n, allocS_m, addS_i, mulS_t1, mulS_t0, subS_i, ltS_i, leS_i, gtS_i, geS_i, at_0, at_1, at_2, set_0, set_1, cut_old, cut_all, len_1, len_2, app_app, set_set, set_len, retS_d, retS_n, retS_m, retS_x, list_l, list_s, seq_t, seq_k, atI_0, atI_1, atI_2, cLen_t, cLen_l, cLen_z, cInt_i, cInt_b, cI1_i, cI2_i, eIsi_ap, eqS_i, neS_i, eqS_b, neS_b, eqS_p, isN_d, isBl_b, eSl_ap, pNone_ap, pSome_ap, kPt_i, slS_t, nRev_ap, eM1_ap, sSetI_ap, sPutD_ap, eNewT_ap, itOf_ap, itAny_ap, kIter_t, kIter_k, kIter_l, kEnum_l, kZip_l, turnK_some, turnS_ap, loop_nil, nLc_ap, nLcM_ap, tYes_ap, cut_set, cut_setold, eDc_ap, sRetRev_ap, List.set_cons_zero, List.set_cons_succ, List.getElem?_cons_zero, List.getElem?_cons_succ, Option.bind_some, List.length_cons, List.length_nil, lstK0, tupK0, lstK1, tupK1, lstK2, tupK2, lstK3, tupK3, lstK4, tupK4, lstK5, tupK5, List.cons_append, List.nil_append, wipeE, lc, ap]
theorem rev_down {s : Nat} (hs : 1 ≤ s) : rgD ((s : Int) - 1) (-1) (((s : Int) - 1) - (-1)).toNat = (List.range s).reverse.map natV := by
  have e : (((s : Int) - 1) - (-1)).toNat = s := by omega
  rw [e]
  unfold rgD
  apply List.ext_getElem?
  intro i
  rw [List.getElem?_map, List.getElem?_map]
  by_cases h : i < s
  · rw [List.getElem?_range h, List.getElem?_reverse (by rw [List.length_range]; exact h), List.length_range, List.getElem?_range (by omega)]
    show some (Vl.int _) = some (Vl.int _)
    congr 2
    omega
  · rw [List.getElem?_eq_none (by rw [List.length_range]; omega), List.getElem?_eq_none (by rw [List.length_reverse, List.length_range]; omega)]
    rfl
theorem due_num {s : Nat} {cs : List (Nat × Nat)} (ok : CellsOk s cs) (hs : 1 ≤ s ∧ s ≤ 81) {st : Sto} {u0 u1 u2 u6 u7 u8 u9 u10 u11 u12 : Option Sl} : ∃ v4 v5, loopS (turnS (gT (gC (gN 4) (gC (gN 5) gE))) l_x_law_due_3) ((List.range cs.length).map (enumV cs)) [u0, u1, u2, some (.r st.length), none, none, u6, u7, u8, u9, u10, u11, u12] (st ++ [Ce.dtp []]) =
    .nx [u0, u1, u2, some (.r st.length), v4, v5, u6, u7, u8, u9, u10, u11, u12] (st ++ [Ce.dtp (numD cs cs.length)]) := by
  have hlen : cs.length ≤ 6561 := by rw [ok.len]; exact Nat.mul_le_mul hs.2 hs.2
  obtain ⟨ρ', S', e, v4, v5, rfl, rfl⟩ := loop_inv (h := turnS (gT (gC (gN 4) (gC (gN 5) gE))) l_x_law_due_3) (fun i ρ S => ∃ v4 v5 : Option Sl, ρ = [u0, u1, u2, some (.r st.length), v4, v5, u6, u7, u8, u9, u10, u11, u12] ∧ S = st ++ [Ce.dtp (numD cs i)])
    ((List.range cs.length).map (enumV cs)) 0 [u0, u1, u2, some (.r st.length), none, none, u6, u7, u8, u9, u10, u11, u12] (st ++ [Ce.dtp []]) ⟨none, none, rfl, rfl⟩ (fun i d ρ S hd ⟨v4, v5, hρ, hS⟩ => by
      subst hρ hS
      rw [Nat.zero_add]
      have hi : i < cs.length := by
        have := (List.getElem?_eq_some_iff.mp hd).1
        rw [List.length_map, List.length_range] at this
        exact this
      rw [List.getElem?_map, List.getElem?_range hi] at hd
      cases hd
      have key : tkeyOf (placeV (cs.getD i (0, 0))) = some (keyC (cs.getD i (0, 0))) := rfl
      have new : keyC (cs.getD i (0, 0)) ∉ (numD cs i).map (·.1) := by
        have nd := numD_keys ok (i + 1) (by omega)
        have e : numD cs (i + 1) = numD cs i ++ [(keyC (cs.getD i (0, 0)), .int i)] := by
          unfold numD
          rw [List.range_succ, List.map_append]
          rfl
        rw [e, List.map_append] at nd
        exact fun m => (List.nodup_append.mp nd).2.2 _ m _ (List.mem_singleton.mpr rfl) rfl
      have pd := kPutD_t (st := st ++ [Ce.dtp (numD cs i)]) (n := st.length) (x := .int i) at_0 key (by unfold numD; rw [List.length_map, List.length_range]; omega)
      rw [putA_new new, set_0] at pd
      refine ⟨_, _, ?_, some (.d (.int i)), some (.d (placeV (cs.getD i (0, 0)))), rfl, rfl⟩
      unfold l_x_law_due_3 enumV
      simp only [bind_ok, bind_exc, sOf_ok, sOf_exc, sSeq_ap, seqK_nx, seqK_rt, seqK_bk, seqK_ct, seqK_exc, sNil_ap, sPass_ap, sBrk_ap, sCnt_ap, sRetN_ap, sRet_ap, kRet_d, kRet_r, kRet_n, kRet_m, nxK_ap, sExp_ap, ifK_t, ifK_f, sIf_ap, asK_some, kAsg_ap, sAsg_ap, gN_ap, gT_ap, gE_ap, gC_ap, kPar_ap, sPar_ap, setAll_cons, setAll_nil, forK_ap, sFor_ap, varK_some, eVar_ap, eC_ap, eBin_ap, nBin_ap, eNeg_ap, kNeg_i, aNil_ap, aCons_ap, toD_d, toDs_nil, toDs_cons, eTup_ap, nLst_ap, eCall_ap, eCallK_ap, eCB_ap, eIfK_t, eIfK_f, eIf_ap, tOfK_b, tOf_ap, andK_t, andK_f, orK_t, orK_f, tAndF_ap, tOrF_ap, notK_ap, tNotF_ap, eAndK_t, eAndK_f, eOrK_t, eOrK_f, eAnd_ap, eOr_ap, eNot_ap, kNot_b, eFrz_ap, eSto_ap, eFre_ap, eFreM_ap, eSet_ap, eAlc_ap, frozen_ok, stored_ok, storedM_ok, fresh_ok, freshM_ok, settle_d, settle_r, settle_w, settle_n, settle_m, settle_exc, allocS_d, allocS_r, allocS_n, allocS_m, addS_i, mulS_t1, mulS_t0, subS_i, ltS_i, leS_i, gtS_i, geS_i, at_0, at_1, at_2, set_0, set_1, cut_old, cut_all, len_1, len_2, app_app, set_set, set_len, retS_d, retS_n, retS_m, retS_x, list_l, list_s, seq_t, seq_k, atI_0, atI_1, atI_2, cLen_t, cLen_l, cLen_z, cInt_i, cInt_b, cI1_i, cI2_i, eIsi_ap, eqS_i, neS_i, eqS_b, neS_b, eqS_p, isN_d, isBl_b, eSl_ap, pNone_ap, pSome_ap, kPt_i, slS_t, nRev_ap, eM1_ap, sSetI_ap, sPutD_ap, eNewT_ap, itOf_ap, itAny_ap, kIter_t, kIter_k, kIter_l, kEnum_l, kZip_l, turnK_some, turnS_ap, loop_nil, nLc_ap, nLcM_ap, tYes_ap, cut_set, cut_setold, eDc_ap, sRetRev_ap, List.set_cons_zero, List.set_cons_succ, List.getElem?_cons_zero, List.getElem?_cons_succ, Option.bind_some, List.length_cons, List.length_nil, lstK0, tupK0, lstK1, tupK1, lstK2, tupK2, lstK3, tupK3, lstK4, tupK4, lstK5, tupK5, List.cons_append, List.nil_append, wipeE, pd]
      unfold numD
      rw [List.range_succ, List.map_append]
      rfl)
  rw [Nat.zero_add, List.length_map, List.length_range] at e
  exact ⟨v4, v5, e⟩
theorem due_spec {b d : Nat} {kk : Kinds} {st : Sto} (ok : BookOk b kk) (hd : d ≤ 4) : m_x_law_due [.d (bookV b kk), .d (.int d)] st = .ok (.d (dueV (b ^ d) (cellsP b kk d))) st := by
  have co := cells_ok (d := d) ok
  obtain ⟨q1, q2, q3, q4⟩ := pow9 (e := d) ok.b2 hd
  obtain ⟨cs, hcs⟩ : ∃ cs, cs = cellsP b kk d := ⟨_, rfl⟩
  obtain ⟨s, hs⟩ : ∃ s, s = b ^ d := ⟨_, rfl⟩
  have pw := law_power_spec (b := b) (n := d) (st := st) (by have := ok.b2; omega) (by omega)
  have wh := fun st => law_whole_spec (st := st) ok hd
  simp only [squares_cells ok] at wh
  rw [← hcs, ← hs] at co
  rw [← hs] at q3 q4 pw
  rw [← hcs] at wh
  rw [← hcs, ← hs]
  have hss : 1 ≤ s ∧ s ≤ 81 := ⟨q3, q4⟩
  obtain ⟨v4, v5, e1⟩ := due_num co hss (st := st) (u0 := some (.d (bookV b kk))) (u1 := some (.d (.int d))) (u2 := some (.d (.int s))) (u6 := none) (u7 := none) (u8 := none) (u9 := none) (u10 := none) (u11 := none) (u12 := none)
  rw [← enum_eq] at e1
  obtain ⟨ρ', S', e2, pre, w8, w9, w10, w11, w12, hp, rfl, rfl⟩ := loop_rest (h := turnS (gN 8) l_x_law_due_2) (enc := natV)
    (fun (rest : List Nat) ρ S => ∃ (pre : List Nat) (w8 w9 w10 w11 w12 : Option Sl), pre ++ rest = (List.range s).reverse ∧ ρ = [some (.d (bookV b kk)), some (.d (.int d)), some (.d (.int s)), some (.r st.length), v4, v5, some (.d (.lst (pre.flatMap (twoV s cs)))), some (.r (st.length + 1)), w8, w9, w10, w11, w12] ∧ S = st ++ [Ce.dtp (numD cs cs.length), Ce.lst (pre.map (rowV s cs))])
    (fun y rest ρ S ⟨pre, w8, w9, w10, w11, w12, hp, hρ, hS⟩ => by
      subst hρ hS
      have hl := congrArg List.length hp
      rw [List.length_append, List.length_cons, List.length_reverse, List.length_range] at hl
      have hy : y < s := by
        have : y ∈ (List.range s).reverse := by rw [← hp]; simp
        exact List.mem_range.mp (List.mem_reverse.mp this)
      have tl := two_len (s := s) (cs := cs) pre
      obtain ⟨x9, x10, x11, x12, e⟩ := due_y co hss (st := st) hy (A := pre.flatMap (twoV s cs)) (R := pre.map (rowV s cs)) (by omega) (by rw [List.length_map]; omega) (u0 := some (.d (bookV b kk))) (u1 := some (.d (.int d))) (u4 := v4) (u5 := v5) (v8 := w8) (v9 := w9) (v10 := w10) (v11 := w11) (v12 := w12)
      refine ⟨_, _, e, pre ++ [y], some (.d (natV y)), x9, x10, x11, x12, by rw [← hp]; simp, ?_, ?_⟩
      · rw [List.flatMap_append, List.flatMap_cons, List.flatMap_nil, List.append_nil]
      · rw [List.map_append]; rfl)
    (List.range s).reverse [some (.d (bookV b kk)), some (.d (.int d)), some (.d (.int s)), some (.r st.length), v4, v5, some (.d (.lst [])), some (.r (st.length + 1)), none, none, none, none, none] (st ++ [Ce.dtp (numD cs cs.length), Ce.lst []]) ⟨[], none, none, none, none, none, rfl, rfl, rfl⟩
  rw [List.append_nil] at hp
  subst hp
  rw [← rev_down q3] at e2
  have rg := kRg3_i (st := st ++ [Ce.dtp (numD cs cs.length), Ce.lst []]) (rgOk_of (show -4611686018427387904 ≤ (s : Int) - 1 by omega) (show (s : Int) - 1 < 4611686018427387904 by omega)) (rgOk_of (show -4611686018427387904 ≤ (-1 : Int) by decide) (by decide))
  have fin1 : (List.range s).reverse.flatMap (twoV s cs) = signsV s cs := (signs_flat q3).symm
  have fin2 : (List.range s).reverse.map (rowV s cs) = rowsV s cs := rfl
  rw [fin1, fin2] at e2
  have frz : toD (.r (st.length + 1)) (st ++ [Ce.dtp (numD cs cs.length), Ce.lst (rowsV s cs)]) = .ok (.lst (rowsV s cs)) (st ++ [Ce.dtp (numD cs cs.length), Ce.frz (rowsV s cs)]) := by
    have h1 : (st ++ [Ce.dtp (numD cs cs.length), Ce.lst (rowsV s cs)])[st.length + 1]? = some (Ce.lst (rowsV s cs)) := at_1
    unfold toD
    simp only [h1, set_1]
  unfold m_x_law_due
  rw [fnS_ap]
  show retS st.length (b_x_law_due [some (.d (bookV b kk)), some (.d (.int d)), none, none, none, none, none, none, none, none, none, none, none] st) = _
  unfold b_x_law_due
  have bk : ixA (.d (bookV b kk)) (.d (.int 0)) st = .ok (.d (.int b)) st := ixA_t atI_0
  simp only [bind_ok, bind_exc, sOf_ok, sOf_exc, sSeq_ap, seqK_nx, seqK_rt, seqK_bk, seqK_ct, seqK_exc, sNil_ap, sPass_ap, sBrk_ap, sCnt_ap, sRetN_ap, sRet_ap, kRet_d, kRet_r, kRet_n, kRet_m, nxK_ap, sExp_ap, ifK_t, ifK_f, sIf_ap, asK_some, kAsg_ap, sAsg_ap, gN_ap, gT_ap, gE_ap, gC_ap, kPar_ap, sPar_ap, setAll_cons, setAll_nil, forK_ap, sFor_ap, varK_some, eVar_ap, eC_ap, eBin_ap, nBin_ap, eNeg_ap, kNeg_i, aNil_ap, aCons_ap, toD_d, toDs_nil, toDs_cons, eTup_ap, nLst_ap, eCall_ap, eCallK_ap, eCB_ap, eIfK_t, eIfK_f, eIf_ap, tOfK_b, tOf_ap, andK_t, andK_f, orK_t, orK_f, tAndF_ap, tOrF_ap, notK_ap, tNotF_ap, eAndK_t, eAndK_f, eOrK_t, eOrK_f, eAnd_ap, eOr_ap, eNot_ap, kNot_b, eFrz_ap, eSto_ap, eFre_ap, eFreM_ap, eSet_ap, eAlc_ap, frozen_ok, stored_ok, storedM_ok, fresh_ok, freshM_ok, settle_d, settle_r, settle_w, settle_n, settle_m, settle_exc, allocS_d, allocS_r, allocS_n, allocS_m, addS_i, mulS_t1, mulS_t0, subS_i, ltS_i, leS_i, gtS_i, geS_i, at_0, at_1, at_2, set_0, set_1, cut_old, cut_all, len_1, len_2, app_app, set_set, set_len, retS_d, retS_n, retS_m, retS_x, list_l, list_s, seq_t, seq_k, atI_0, atI_1, atI_2, cLen_t, cLen_l, cLen_z, cInt_i, cInt_b, cI1_i, cI2_i, eIsi_ap, eqS_i, neS_i, eqS_b, neS_b, eqS_p, isN_d, isBl_b, eSl_ap, pNone_ap, pSome_ap, kPt_i, slS_t, nRev_ap, eM1_ap, sSetI_ap, sPutD_ap, eNewT_ap, itOf_ap, itAny_ap, kIter_t, kIter_k, kIter_l, kEnum_l, kZip_l, turnK_some, turnS_ap, loop_nil, nLc_ap, nLcM_ap, tYes_ap, cut_set, cut_setold, eDc_ap, sRetRev_ap, List.set_cons_zero, List.set_cons_succ, List.getElem?_cons_zero, List.getElem?_cons_succ, Option.bind_some, List.length_cons, List.length_nil, lstK0, tupK0, lstK1, tupK1, lstK2, tupK2, lstK3, tupK3, lstK4, tupK4, lstK5, tupK5, List.cons_append, List.nil_append, wipeE, bk, pw, wh, e1, rg, e2, frz]
  rfl
end K42

namespace K42
open PySem PySem.Spec PyProof.Rows L2 F
theorem same_int {n : Nat} {i : Int} {st : Sto} : m_x_law_same (n + 1) [.d (.int i), .d (.int i)] st = .ok (.d (.bl true)) st := by
  show fnS 3 (b_x_law_same (m_x_law_same n)) _ _ = _
  rw [fnS_ap]
  show retS st.length (b_x_law_same (m_x_law_same n) [some (.d (.int i)), some (.d (.int i)), none] st) = _
  unfold b_x_law_same
  simp only [bind_ok, bind_exc, sOf_ok, sOf_exc, sSeq_ap, seqK_nx, seqK_rt, seqK_bk, seqK_ct, seqK_exc, sNil_ap, sPass_ap, sBrk_ap, sCnt_ap, sRetN_ap, sRet_ap, kRet_d, kRet_r, kRet_n, kRet_m, nxK_ap, sExp_ap, ifK_t, ifK_f, sIf_ap, asK_some, kAsg_ap, sAsg_ap, gN_ap, gT_ap, gE_ap, gC_ap, kPar_ap, sPar_ap, setAll_cons, setAll_nil, forK_ap, sFor_ap, varK_some, eVar_ap, eC_ap, eBin_ap, nBin_ap, eNeg_ap, kNeg_i, aNil_ap, aCons_ap, toD_d, toDs_nil, toDs_cons, eTup_ap, nLst_ap, eCall_ap, eCallK_ap, eCB_ap, eIfK_t, eIfK_f, eIf_ap, tOfK_b, tOf_ap, andK_t, andK_f, orK_t, orK_f, tAndF_ap, tOrF_ap, notK_ap, tNotF_ap, eAndK_t, eAndK_f, eOrK_t, eOrK_f, eAnd_ap, eOr_ap, eNot_ap, kNot_b, eFrz_ap, eSto_ap, eFre_ap, eFreM_ap, eSet_ap, eAlc_ap, frozen_ok, stored_ok, storedM_ok, fresh_ok, freshM_ok, settle_d, settle_r, settle_w, settle_n, settle_m, settle_exc, allocS_d, allocS_r, allocS_n, allocS_m, addS_i, mulS_t1, mulS_t0, subS_i, ltS_i, leS_i, gtS_i, geS_i, at_0, at_1, at_2, set_0, set_1, cut_old, cut_all, len_1, len_2, app_app, set_set, set_len, retS_d, retS_n, retS_m, retS_x, list_l, list_s, seq_t, seq_k, atI_0, atI_1, atI_2, cLen_t, cLen_l, cLen_z, cInt_i, cInt_b, cI1_i, cI2_i, eIsi_ap, eqS_i, neS_i, eqS_b, neS_b, eqS_p, isN_d, isBl_b, eSl_ap, pNone_ap, pSome_ap, kPt_i, slS_t, nRev_ap, eM1_ap, sSetI_ap, sPutD_ap, eNewT_ap, itOf_ap, itAny_ap, kIter_t, kIter_k, kIter_l, kEnum_l, kZip_l, turnK_some, turnS_ap, loop_nil, nLc_ap, nLcM_ap, tYes_ap, cut_set, cut_setold, eDc_ap, sRetRev_ap, List.set_cons_zero, List.set_cons_succ, List.getElem?_cons_zero, List.getElem?_cons_succ, Option.bind_some, List.length_cons, List.length_nil, lstK0, tupK0, lstK1, tupK1, lstK2, tupK2, lstK3, tupK3, lstK4, tupK4, lstK5, tupK5, List.cons_append, List.nil_append, wipeE, show (Vl.int i).isNon = false from rfl, isi_intb, isi_int, Bool.not_false, show (i == i) = true by simp]
theorem isi_strb {z : Str} {st : Sto} : isiK "bool" (.d (.str z)) st = .ok (.d (.bl false)) st := isiK_of (A := "str") rfl (by decide +kernel)
theorem isi_stri {z : Str} {st : Sto} : isiK "int" (.d (.str z)) st = .ok (.d (.bl false)) st := isiK_of (A := "str") rfl (by decide +kernel)
theorem isi_strs {z : Str} {st : Sto} : isiK "str" (.d (.str z)) st = .ok (.d (.bl true)) st := isiK_of (A := "str") rfl (by decide +kernel)
theorem shaped_zs {l : List Nat} (h : ∀ c ∈ l, c < 1000) : SeqAt.shaped (.str (zs l)) = true := by
  unfold SeqAt.shaped
  rw [Bool.and_eq_true]
  refine ⟨?_, rfl⟩
  show PyData.strOk (zs l) = true
  unfold PyData.strOk zs
  rw [Array.all_eq_true]
  intro i hi
  have : l[i]'(by simpa using hi) < 1000 := h _ (List.getElem_mem _)
  simp
  omega
theorem same_str {n : Nat} {z : Str} {st : Sto} (h : SeqAt.shaped (.str z) = true) : m_x_law_same (n + 1) [.d (.str z), .d (.str z)] st = .ok (.d (.bl true)) st := by
  show fnS 3 (b_x_law_same (m_x_law_same n)) _ _ = _
  rw [fnS_ap]
  show retS st.length (b_x_law_same (m_x_law_same n) [some (.d (.str z)), some (.d (.str z)), none] st) = _
  unfold b_x_law_same
  simp only [bind_ok, bind_exc, sOf_ok, sOf_exc, sSeq_ap, seqK_nx, seqK_rt, seqK_bk, seqK_ct, seqK_exc, sNil_ap, sPass_ap, sBrk_ap, sCnt_ap, sRetN_ap, sRet_ap, kRet_d, kRet_r, kRet_n, kRet_m, nxK_ap, sExp_ap, ifK_t, ifK_f, sIf_ap, asK_some, kAsg_ap, sAsg_ap, gN_ap, gT_ap, gE_ap, gC_ap, kPar_ap, sPar_ap, setAll_cons, setAll_nil, forK_ap, sFor_ap, varK_some, eVar_ap, eC_ap, eBin_ap, nBin_ap, eNeg_ap, kNeg_i, aNil_ap, aCons_ap, toD_d, toDs_nil, toDs_cons, eTup_ap, nLst_ap, eCall_ap, eCallK_ap, eCB_ap, eIfK_t, eIfK_f, eIf_ap, tOfK_b, tOf_ap, andK_t, andK_f, orK_t, orK_f, tAndF_ap, tOrF_ap, notK_ap, tNotF_ap, eAndK_t, eAndK_f, eOrK_t, eOrK_f, eAnd_ap, eOr_ap, eNot_ap, kNot_b, eFrz_ap, eSto_ap, eFre_ap, eFreM_ap, eSet_ap, eAlc_ap, frozen_ok, stored_ok, storedM_ok, fresh_ok, freshM_ok, settle_d, settle_r, settle_w, settle_n, settle_m, settle_exc, allocS_d, allocS_r, allocS_n, allocS_m, addS_i, mulS_t1, mulS_t0, subS_i, ltS_i, leS_i, gtS_i, geS_i, at_0, at_1, at_2, set_0, set_1, cut_old, cut_all, len_1, len_2, app_app, set_set, set_len, retS_d, retS_n, retS_m, retS_x, list_l, list_s, seq_t, seq_k, atI_0, atI_1, atI_2, cLen_t, cLen_l, cLen_z, cInt_i, cInt_b, cI1_i, cI2_i, eIsi_ap, eqS_i, neS_i, eqS_b, neS_b, eqS_p, isN_d, isBl_b, eSl_ap, pNone_ap, pSome_ap, kPt_i, slS_t, nRev_ap, eM1_ap, sSetI_ap, sPutD_ap, eNewT_ap, itOf_ap, itAny_ap, kIter_t, kIter_k, kIter_l, kEnum_l, kZip_l, turnK_some, turnS_ap, loop_nil, nLc_ap, nLcM_ap, tYes_ap, cut_set, cut_setold, eDc_ap, sRetRev_ap, List.set_cons_zero, List.set_cons_succ, List.getElem?_cons_zero, List.getElem?_cons_succ, Option.bind_some, List.length_cons, List.length_nil, lstK0, tupK0, lstK1, tupK1, lstK2, tupK2, lstK3, tupK3, lstK4, tupK4, lstK5, tupK5, List.cons_append, List.nil_append, wipeE, show (Vl.str z).isNon = false from rfl, isi_strb, isi_stri, isi_strs, eqS_t h h, show (z == z) = true by simp]
theorem same_list {n : Nat} {w : Sl} {ds : List Vl} {st : Sto} (ty : tyS w st = some "list") (ln : cLenA [w] st = .ok (.d (.int ds.length)) st) (hl : ds.length ≤ 1000000)
    (h : ∀ (k : Nat) (hk : k < ds.length), ∃ v, ixA w (.d (.int k)) st = .ok v st ∧ m_x_law_same n [v, .d ds[k]] st = .ok (.d (.bl true)) st) (hw : ∃ m, w = .r m ∨ ∃ j, w = .w m j) : m_x_law_same (n + 1) [w, .d (.lst ds)] st = .ok (.d (.bl true)) st := by
  have lt : ∀ T b, kitB "list" T = some b → isiK T w st = .ok (.d (.bl b)) st := fun T b e => isiK_of ty e
  have ld : ∀ T b, kitB "list" T = some b → isiK T (.d (.lst ds)) st = .ok (.d (.bl b)) st := fun T b e => isiK_of (A := "list") rfl e
  have lc := lc_mapf (st := st) (gt := gN 2) (t := tYesF) (f := eSet (eCall (m_x_law_same n) (aCons (eBin ixA (eVar 0) (eVar 2)) (aCons (eBin ixA (eVar 1) (eVar 2)) aNil)))) (ρ := [some w, some (.d (.lst ds)), none]) (enc := natV) (out := fun _ => .bl true) (List.range ds.length) [] (by rw [List.length_nil, List.length_range]; omega) (fun k hk => by
    have hk := List.mem_range.mp hk
    refine ⟨_, rfl, rfl, ?_⟩
    obtain ⟨v, e1, e2⟩ := h k hk
    have e3 : ixA (.d (.lst ds)) (.d (.int k)) st = .ok (.d ds[k]) st := ixA_l list_l (atI_nat hk)
    simp only [bind_ok, bind_exc, sOf_ok, sOf_exc, sSeq_ap, seqK_nx, seqK_rt, seqK_bk, seqK_ct, seqK_exc, sNil_ap, sPass_ap, sBrk_ap, sCnt_ap, sRetN_ap, sRet_ap, kRet_d, kRet_r, kRet_n, kRet_m, nxK_ap, sExp_ap, ifK_t, ifK_f, sIf_ap, asK_some, kAsg_ap, sAsg_ap, gN_ap, gT_ap, gE_ap, gC_ap, kPar_ap, sPar_ap, setAll_cons, setAll_nil, forK_ap, sFor_ap, varK_some, eVar_ap, eC_ap, eBin_ap, nBin_ap, eNeg_ap, kNeg_i, aNil_ap, aCons_ap, toD_d, toDs_nil, toDs_cons, eTup_ap, nLst_ap, eCall_ap, eCallK_ap, eCB_ap, eIfK_t, eIfK_f, eIf_ap, tOfK_b, tOf_ap, andK_t, andK_f, orK_t, orK_f, tAndF_ap, tOrF_ap, notK_ap, tNotF_ap, eAndK_t, eAndK_f, eOrK_t, eOrK_f, eAnd_ap, eOr_ap, eNot_ap, kNot_b, eFrz_ap, eSto_ap, eFre_ap, eFreM_ap, eSet_ap, eAlc_ap, frozen_ok, stored_ok, storedM_ok, fresh_ok, freshM_ok, settle_d, settle_r, settle_w, settle_n, settle_m, settle_exc, allocS_d, allocS_r, allocS_n, allocS_m, addS_i, mulS_t1, mulS_t0, subS_i, ltS_i, leS_i, gtS_i, geS_i, at_0, at_1, at_2, set_0, set_1, cut_old, cut_all, len_1, len_2, app_app, set_set, set_len, retS_d, retS_n, retS_m, retS_x, list_l, list_s, seq_t, seq_k, atI_0, atI_1, atI_2, cLen_t, cLen_l, cLen_z, cInt_i, cInt_b, cI1_i, cI2_i, eIsi_ap, eqS_i, neS_i, eqS_b, neS_b, eqS_p, isN_d, isBl_b, eSl_ap, pNone_ap, pSome_ap, kPt_i, slS_t, nRev_ap, eM1_ap, sSetI_ap, sPutD_ap, eNewT_ap, itOf_ap, itAny_ap, kIter_t, kIter_k, kIter_l, kEnum_l, kZip_l, turnK_some, turnS_ap, loop_nil, nLc_ap, nLcM_ap, tYes_ap, cut_set, cut_setold, eDc_ap, sRetRev_ap, List.set_cons_zero, List.set_cons_succ, List.getElem?_cons_zero, List.getElem?_cons_succ, Option.bind_some, List.length_cons, List.length_nil, lstK0, tupK0, lstK1, tupK1, lstK2, tupK2, lstK3, tupK3, lstK4, tupK4, lstK5, tupK5, List.cons_append, List.nil_append, wipeE, natV, e1, e3, e2])
  rw [map_true, List.nil_append, List.length_range, ← rgD_nat] at lc
  have ca := cBls_l (h := fun bs => bs.all id) (st := st) (list_l (ds := (List.replicate ds.length true).map Vl.bl)) (bls_map _)
  rw [all_true] at ca
  have rg := kRg1_i (st := st) (rgOk_of (show -4611686018427387904 ≤ (ds.length : Int) by omega) (show (ds.length : Int) < 4611686018427387904 by omega))
  rw [Int.toNat_natCast] at rg
  show fnS 3 (b_x_law_same (m_x_law_same n)) _ _ = _
  rw [fnS_ap]
  show retS st.length (b_x_law_same (m_x_law_same n) [some w, some (.d (.lst ds)), none] st) = _
  unfold b_x_law_same c_x_law_same_1
  simp only [bind_ok, bind_exc, sOf_ok, sOf_exc, sSeq_ap, seqK_nx, seqK_rt, seqK_bk, seqK_ct, seqK_exc, sNil_ap, sPass_ap, sBrk_ap, sCnt_ap, sRetN_ap, sRet_ap, kRet_d, kRet_r, kRet_n, kRet_m, nxK_ap, sExp_ap, ifK_t, ifK_f, sIf_ap, asK_some, kAsg_ap, sAsg_ap, gN_ap, gT_ap, gE_ap, gC_ap, kPar_ap, sPar_ap, setAll_cons, setAll_nil, forK_ap, sFor_ap, varK_some, eVar_ap, eC_ap, eBin_ap, nBin_ap, eNeg_ap, kNeg_i, aNil_ap, aCons_ap, toD_d, toDs_nil, toDs_cons, eTup_ap, nLst_ap, eCall_ap, eCallK_ap, eCB_ap, eIfK_t, eIfK_f, eIf_ap, tOfK_b, tOf_ap, andK_t, andK_f, orK_t, orK_f, tAndF_ap, tOrF_ap, notK_ap, tNotF_ap, eAndK_t, eAndK_f, eOrK_t, eOrK_f, eAnd_ap, eOr_ap, eNot_ap, kNot_b, eFrz_ap, eSto_ap, eFre_ap, eFreM_ap, eSet_ap, eAlc_ap, frozen_ok, stored_ok, storedM_ok, fresh_ok, freshM_ok, settle_d, settle_r, settle_w, settle_n, settle_m, settle_exc, allocS_d, allocS_r, allocS_n, allocS_m, addS_i, mulS_t1, mulS_t0, subS_i, ltS_i, leS_i, gtS_i, geS_i, at_0, at_1, at_2, set_0, set_1, cut_old, cut_all, len_1, len_2, app_app, set_set, set_len, retS_d, retS_n, retS_m, retS_x, list_l, list_s, seq_t, seq_k, atI_0, atI_1, atI_2, cLen_t, cLen_l, cLen_z, cInt_i, cInt_b, cI1_i, cI2_i, eIsi_ap, eqS_i, neS_i, eqS_b, neS_b, eqS_p, isN_d, isBl_b, eSl_ap, pNone_ap, pSome_ap, kPt_i, slS_t, nRev_ap, eM1_ap, sSetI_ap, sPutD_ap, eNewT_ap, itOf_ap, itAny_ap, kIter_t, kIter_k, kIter_l, kEnum_l, kZip_l, turnK_some, turnS_ap, loop_nil, nLc_ap, nLcM_ap, tYes_ap, cut_set, cut_setold, eDc_ap, sRetRev_ap, List.set_cons_zero, List.set_cons_succ, List.getElem?_cons_zero, List.getElem?_cons_succ, Option.bind_some, List.length_cons, List.length_nil, lstK0, tupK0, lstK1, tupK1, lstK2, tupK2, lstK3, tupK3, lstK4, tupK4, lstK5, tupK5, List.cons_append, List.nil_append, wipeE, show (Vl.lst ds).isNon = false from rfl, ld "bool" false (by decide +kernel), ld "int" false (by decide +kernel), ld "str" false (by decide +kernel), ld "tuple" false (by decide +kernel), ld "list" true (by decide +kernel), lt "tuple" false (by decide +kernel), lt "list" true (by decide +kernel), show (!(false == false)) = false from rfl, show (!(true == true)) = false from rfl, ln, show ((ds.length : Int) == (ds.length : Int)) = true by simp, rg, lc, ca]
theorem line_codes {s : Nat} {cs : List (Nat × Nat)} {Y : Nat} : ∀ c ∈ lineC s cs Y, c < 1000 := by
  intro c hc
  unfold lineC at hc
  obtain ⟨X, _, rfl⟩ := List.mem_map.mp hc
  unfold sgnC
  repeat' split
  all_goals omega
theorem signs_len {s : Nat} {cs : List (Nat × Nat)} : (signsV s cs).length = 2 * s - 1 := by unfold signsV; rw [List.length_map, List.length_reverse, List.length_range]
theorem right_spec {b d : Nat} {kk : Kinds} {st : Sto} (ok : BookOk b kk) (hd : d ≤ 4) (nm : Bool) : m_x_law_right [.d (bookV b kk), .d (.int d), .d (dueV (b ^ d) (cellsP b kk d)), .d (.bl nm)] st = .ok (.d (.bl true)) st := by
  have co := cells_ok (d := d) ok
  obtain ⟨q1, q2, q3, q4⟩ := pow9 (e := d) ok.b2 hd
  obtain ⟨cs, hcs⟩ : ∃ cs, cs = cellsP b kk d := ⟨_, rfl⟩
  obtain ⟨s, hs⟩ : ∃ s, s = b ^ d := ⟨_, rfl⟩
  have dr := fun st => drawn_spec (st := st) ok hd
  have nu := fun st => numbers_spec (st := st) ok hd
  rw [← hcs, ← hs] at co
  rw [← hs] at q3 q4
  rw [← hcs, ← hs] at dr nu
  rw [← hcs, ← hs]
  have dr : ∀ st, m_drawn [.d (bookV b kk), .d (.int d)] st = .ok (.n (signsV s cs)) st := dr
  obtain ⟨M, hM⟩ : ∃ M, M = (noTab s cs).reverse := ⟨_, rfl⟩
  rw [← hM] at nu
  have hMl : M.length = s := by rw [hM, List.length_reverse]; unfold noTab; rw [tab_len]
  have hMr : M = (List.range s).reverse.map fun y => (List.range s).map fun x => .int (no cs x y) := by rw [hM]; unfold noTab tab; rw [← List.map_reverse]
  obtain ⟨S, hS⟩ : ∃ S, S = st ++ [Ce.lst (signsV s cs), Ce.mat M] := ⟨_, rfl⟩
  have c0 : S[st.length]? = some (Ce.lst (signsV s cs)) := by rw [hS]; exact at_0
  have c1 : S[st.length + 1]? = some (Ce.mat M) := by rw [hS]; exact at_1
  have s1 : m_x_law_same 4 [.r st.length, .d (.lst (signsV s cs))] S = .ok (.d (.bl true)) S := by
    refine same_list (n := 3) (ty_r c0) (cLen_r c0) (by rw [signs_len]; omega) (fun k hk => ⟨.d (signsV s cs)[k], ixA_l (list_r c0) (atI_nat hk), ?_⟩) ⟨_, .inl rfl⟩
    have : ∃ l : List Nat, (∀ c ∈ l, c < 1000) ∧ (signsV s cs)[k] = .str (zs l) := by
      obtain ⟨Y, _, e⟩ := List.mem_map.mp (show (signsV s cs)[k] ∈ (List.range (2 * s - 1)).reverse.map (lineV s cs) from List.getElem_mem hk)
      exact ⟨_, line_codes, e.symm⟩
    obtain ⟨l, h1, h2⟩ := this
    rw [h2]
    exact same_str (n := 2) (shaped_zs h1)
  have hrl : (rowsV s cs).length = s := by unfold rowsV; rw [List.length_map, List.length_reverse, List.length_range]
  have s2 : m_x_law_same 4 [.r (st.length + 1), .d (.lst (rowsV s cs))] S = .ok (.d (.bl true)) S := by
    refine same_list (n := 3) (ty_m c1) (by rw [hrl, ← hMl]; exact cLen_m c1) (by omega) (fun k hk => ?_) ⟨_, .inl rfl⟩
    rw [hrl] at hk
    have hrow : M[k]? = some ((List.range s).map fun x => .int (no cs x ((List.range s).reverse[k]'(by simpa using hk)))) := by
      rw [hMr, List.getElem?_map, List.getElem?_eq_getElem (by simpa using hk)]
      rfl
    have hrv : (rowsV s cs)[k]'(by rw [hrl]; exact hk) = .lst ((List.range s).map fun x => .int (no cs x ((List.range s).reverse[k]'(by simpa using hk)))) := by
      have : (rowsV s cs)[k]? = some (.lst ((List.range s).map fun x => .int (no cs x ((List.range s).reverse[k]'(by simpa using hk))))) := by
        unfold rowsV
        rw [List.getElem?_map, List.getElem?_eq_getElem (by simpa using hk)]
        rfl
      exact (List.getElem?_eq_some_iff.mp this).2
    refine ⟨.w (st.length + 1) k, ixA_m c1 (by rw [hMl]; exact ixN_nat hk), ?_⟩
    rw [hrv]
    refine same_list (n := 2) (ty_w c1 hrow) (cLen_w c1 hrow) (by rw [List.length_map, List.length_range]; omega) (fun j hj => ⟨_, ixA_l (list_w c1 hrow) (atI_nat hj), ?_⟩) ⟨_, .inr ⟨_, rfl⟩⟩
    rw [List.getElem_map]
    exact same_int (n := 1)
  have a1 := kApp_r (x := .str "o") c0 (by rw [signs_len]; omega)
  have e1 : S.set st.length (Ce.lst (signsV s cs ++ [.str "o"])) = st ++ [Ce.lst (signsV s cs ++ [.str "o"]), Ce.mat M] := by rw [hS, set_0]
  rw [e1] at a1
  obtain ⟨r0, hr0⟩ : ∃ r0, M[0]? = some r0 := ⟨M[0]'(by omega), List.getElem?_eq_getElem _⟩
  have hr0l : r0.length ≤ 81 := by
    rw [hMr, List.getElem?_map] at hr0
    cases q : (List.range s).reverse[0]? with
    | none => rw [q] at hr0; cases hr0
    | some y =>
      rw [q] at hr0
      cases hr0
      rw [List.length_map, List.length_range]
      omega
  have m1 : (st ++ [Ce.lst (signsV s cs ++ [.str "o"]), Ce.mat M])[st.length + 1]? = some (Ce.mat M) := at_1
  have a2 := kApp_w (x := .int 0) m1 hr0 (by omega)
  rw [set_1] at a2
  have m2 : (st ++ [Ce.lst (signsV s cs ++ [.str "o"]), Ce.mat (M.set 0 (r0 ++ [.int 0]))])[st.length + 1]? = some (Ce.mat (M.set 0 (r0 ++ [.int 0]))) := at_1
  have a3 := kApp_m (w := .w (st.length + 1) 0) m2 (by rw [List.length_set]; omega)
  rw [set_1] at a3
  have i1 := ixA_m (i := ((0 : Nat) : Int)) (k := 0) m1 (by rw [hMl]; exact ixN_nat (by omega))
  have i2 := ixA_m (i := ((0 : Nat) : Int)) (k := 0) m2 (by rw [List.length_set, hMl]; exact ixN_nat (by omega))
  have d0 : ∀ S, ixA (.d (dueV s cs)) (.d (.int 0)) S = .ok (.d (.lst (signsV s cs))) S := fun S => ixA_t atI_0
  have d1 : ∀ S, ixA (.d (dueV s cs)) (.d (.int 1)) S = .ok (.d (.lst (rowsV s cs))) S := fun S => ixA_t atI_1
  have app2 : st ++ [Ce.lst (signsV s cs)] ++ [Ce.mat M] = S := by rw [hS, List.append_assoc]; rfl
  have i1' : ixA (.r (st.length + 1)) (.d (.int 0)) (st ++ [Ce.lst (signsV s cs ++ [.str "o"]), Ce.mat M]) = .ok (.w (st.length + 1) 0) (st ++ [Ce.lst (signsV s cs ++ [.str "o"]), Ce.mat M]) := i1
  have i2' : ixA (.r (st.length + 1)) (.d (.int 0)) (st ++ [Ce.lst (signsV s cs ++ [.str "o"]), Ce.mat (M.set 0 (r0 ++ [.int 0]))]) = .ok (.w (st.length + 1) 0) (st ++ [Ce.lst (signsV s cs ++ [.str "o"]), Ce.mat (M.set 0 (r0 ++ [.int 0]))]) := i2
  unfold m_x_law_right
  rw [fnS_ap]
  show retS st.length (b_x_law_right [some (.d (bookV b kk)), some (.d (.int d)), some (.d (dueV s cs)), some (.d (.bl nm)), none, none] st) = _
  unfold b_x_law_right
  have pk : pick [1, 0] [Sl.d (.int d), Sl.d (bookV b kk)] = [Sl.d (bookV b kk), Sl.d (.int d)] := rfl
  have hS' : st ++ [Ce.lst (signsV s cs), Ce.mat M] = S := hS.symm
  cases nm with
  | true =>
    simp only [bind_ok, bind_exc, sOf_ok, sOf_exc, sSeq_ap, seqK_nx, seqK_rt, seqK_bk, seqK_ct, seqK_exc, sNil_ap, sPass_ap, sBrk_ap, sCnt_ap, sRetN_ap, sRet_ap, kRet_d, kRet_r, kRet_n, kRet_m, nxK_ap, sExp_ap, ifK_t, ifK_f, sIf_ap, asK_some, kAsg_ap, sAsg_ap, gN_ap, gT_ap, gE_ap, gC_ap, kPar_ap, sPar_ap, setAll_cons, setAll_nil, forK_ap, sFor_ap, varK_some, eVar_ap, eC_ap, eBin_ap, nBin_ap, eNeg_ap, kNeg_i, aNil_ap, aCons_ap, toD_d, toDs_nil, toDs_cons, eTup_ap, nLst_ap, eCall_ap, eCallK_ap, eCB_ap, eIfK_t, eIfK_f, eIf_ap, tOfK_b, tOf_ap, andK_t, andK_f, orK_t, orK_f, tAndF_ap, tOrF_ap, notK_ap, tNotF_ap, eAndK_t, eAndK_f, eOrK_t, eOrK_f, eAnd_ap, eOr_ap, eNot_ap, kNot_b, eFrz_ap, eSto_ap, eFre_ap, eFreM_ap, eSet_ap, eAlc_ap, frozen_ok, stored_ok, storedM_ok, fresh_ok, freshM_ok, settle_d, settle_r, settle_w, settle_n, settle_m, settle_exc, allocS_d, allocS_r, allocS_n, allocS_m, addS_i, mulS_t1, mulS_t0, subS_i, ltS_i, leS_i, gtS_i, geS_i, at_0, at_1, at_2, set_0, set_1, cut_old, cut_all, len_1, len_2, app_app, set_set, set_len, retS_d, retS_n, retS_m, retS_x, list_l, list_s, seq_t, seq_k, atI_0, atI_1, atI_2, cLen_t, cLen_l, cLen_z, cInt_i, cInt_b, cI1_i, cI2_i, eIsi_ap, eqS_i, neS_i, eqS_b, neS_b, eqS_p, isN_d, isBl_b, eSl_ap, pNone_ap, pSome_ap, kPt_i, slS_t, nRev_ap, eM1_ap, sSetI_ap, sPutD_ap, eNewT_ap, itOf_ap, itAny_ap, kIter_t, kIter_k, kIter_l, kEnum_l, kZip_l, turnK_some, turnS_ap, loop_nil, nLc_ap, nLcM_ap, tYes_ap, cut_set, cut_setold, eDc_ap, sRetRev_ap, List.set_cons_zero, List.set_cons_succ, List.getElem?_cons_zero, List.getElem?_cons_succ, Option.bind_some, List.length_cons, List.length_nil, lstK0, tupK0, lstK1, tupK1, lstK2, tupK2, lstK3, tupK3, lstK4, tupK4, lstK5, tupK5, List.cons_append, List.nil_append, wipeE, pk, dr, nu, hS', d0, d1, s1, s2, Bool.not_true, m1K_r (lstAt_r c0), a1, i1', m1K_r (lstAt_w m1 hr0), a2, m1K_m (matAt_m m2 (by rw [List.length_set]; omega)), i2', a3]
  | false =>
    simp only [bind_ok, bind_exc, sOf_ok, sOf_exc, sSeq_ap, seqK_nx, seqK_rt, seqK_bk, seqK_ct, seqK_exc, sNil_ap, sPass_ap, sBrk_ap, sCnt_ap, sRetN_ap, sRet_ap, kRet_d, kRet_r, kRet_n, kRet_m, nxK_ap, sExp_ap, ifK_t, ifK_f, sIf_ap, asK_some, kAsg_ap, sAsg_ap, gN_ap, gT_ap, gE_ap, gC_ap, kPar_ap, sPar_ap, setAll_cons, setAll_nil, forK_ap, sFor_ap, varK_some, eVar_ap, eC_ap, eBin_ap, nBin_ap, eNeg_ap, kNeg_i, aNil_ap, aCons_ap, toD_d, toDs_nil, toDs_cons, eTup_ap, nLst_ap, eCall_ap, eCallK_ap, eCB_ap, eIfK_t, eIfK_f, eIf_ap, tOfK_b, tOf_ap, andK_t, andK_f, orK_t, orK_f, tAndF_ap, tOrF_ap, notK_ap, tNotF_ap, eAndK_t, eAndK_f, eOrK_t, eOrK_f, eAnd_ap, eOr_ap, eNot_ap, kNot_b, eFrz_ap, eSto_ap, eFre_ap, eFreM_ap, eSet_ap, eAlc_ap, frozen_ok, stored_ok, storedM_ok, fresh_ok, freshM_ok, settle_d, settle_r, settle_w, settle_n, settle_m, settle_exc, allocS_d, allocS_r, allocS_n, allocS_m, addS_i, mulS_t1, mulS_t0, subS_i, ltS_i, leS_i, gtS_i, geS_i, at_0, at_1, at_2, set_0, set_1, cut_old, cut_all, len_1, len_2, app_app, set_set, set_len, retS_d, retS_n, retS_m, retS_x, list_l, list_s, seq_t, seq_k, atI_0, atI_1, atI_2, cLen_t, cLen_l, cLen_z, cInt_i, cInt_b, cI1_i, cI2_i, eIsi_ap, eqS_i, neS_i, eqS_b, neS_b, eqS_p, isN_d, isBl_b, eSl_ap, pNone_ap, pSome_ap, kPt_i, slS_t, nRev_ap, eM1_ap, sSetI_ap, sPutD_ap, eNewT_ap, itOf_ap, itAny_ap, kIter_t, kIter_k, kIter_l, kEnum_l, kZip_l, turnK_some, turnS_ap, loop_nil, nLc_ap, nLcM_ap, tYes_ap, cut_set, cut_setold, eDc_ap, sRetRev_ap, List.set_cons_zero, List.set_cons_succ, List.getElem?_cons_zero, List.getElem?_cons_succ, Option.bind_some, List.length_cons, List.length_nil, lstK0, tupK0, lstK1, tupK1, lstK2, tupK2, lstK3, tupK3, lstK4, tupK4, lstK5, tupK5, List.cons_append, List.nil_append, wipeE, dr, nu, hS', d0, d1, s1, s2, Bool.not_true, m1K_r (lstAt_r c0), a1, i1', m1K_r (lstAt_w m1 hr0), a2, m1K_m (matAt_m m2 (by rw [List.length_set]; omega)), i2', a3]
end K42

namespace K42
open PySem PySem.Spec PyProof.Rows L2 F
def qW : Sm := (sAsg (eAlc (eCall m_x_law_well (aCons (eVar 0) (aCons (eVar 2) aNil)))) (gN 3))
def qB : Sm := (sAsg (eSet (eCall m_x_law_book (aCons (eVar 3) (aCons (eBin ixA (eFrz (nLst (aCons (eC (.int 1)) (aCons (eC (.int 4)) (aCons (eC (.int 8)) (aCons (eC (.int 20)) aNil)))))) (eSet (eCall m_x_law_draw (aCons (eVar 3) (aCons (eC (.int 4)) aNil))))) aNil)))) (gN 4))
def qI : Ex := (eIf (tOrF (tOf (eBin gtS (eVar 2) (eC (.int 0)))) (tOf (eBin eqS (eBin ixA (eVar 4) (eC (.int 0))) (eC (.int 3))))) (eC (.int 4)) (eC (.int 5)))
def qD : Sm := (sAsg (eSet (eCall m_x_law_draw (aCons (eVar 3) (aCons qI aNil)))) (gN 5))
def q4 : Sm := (sIf (tAndF (tOf (eBin eqS (eVar 2) (eC (.int 0)))) (tOf (eBin eqS (eSet (eCall m_x_law_draw (aCons (eVar 3) (aCons (eC (.int 4)) aNil)))) (eC (.int 0))))) (sSeq (sAsg (eC (.int 4)) (gN 5)) sNil) sNil)
def qU : Sm := (sAsg (eSet (eCall m_x_law_due (aCons (eVar 4) (aCons (eVar 5) aNil)))) (gN 6))
def qR : Sm := (sIf (tNotF (tOf (eSet (eCall m_x_law_right (aCons (eVar 4) (aCons (eVar 5) (aCons (eVar 6) (aCons (eBin eqS (eSet (eCall m_x_law_draw (aCons (eVar 3) (aCons (eC (.int 2)) aNil)))) (eC (.int 0))) aNil)))))))) (sSeq (sRet (eC (.bl false))) sNil) sNil)
def qA : Sm := (sIf (tOf (eBin ltS (eVar 5) (eC (.int 4)))) (sSeq (sExp (eM1 kApp (eVar 1) (eTup (aCons (eVar 4) (aCons (eVar 5) (aCons (eVar 6) aNil)))))) sNil) sNil)
theorem law_2_eq : l_law_2 = sSeq qW (sSeq qB (sSeq qD (sSeq q4 (sSeq qU (sSeq qR (sSeq qA sNil)))))) := rfl
abbrev Ask := Nat × Kinds × Nat
def askV (q : Ask) : Vl := .tup [bookV q.1 q.2.1, .int q.2.2, dueV (q.1 ^ q.2.2) (cellsP q.1 q.2.1 q.2.2)]
def AskOk (q : Ask) : Prop := BookOk q.1 q.2.1 ∧ q.2.2 ≤ 4
theorem set_w {S : Sto} {c d : Ce} : (S ++ [c]).set S.length d = S ++ [d] := set_0
theorem law_turn {ns : List Int} {T : Sto} {A : List Ask} (hA : ∀ q ∈ A, AskOk q) (hl : A.length ≤ 1000) {p : Nat} {u2 u3 u4 u5 u6 : Option Sl} :
    ∃ (T' : Sto) (A' : List Ask) (v3 v4 v5 v6 : Option Sl), turnS (gN 2) l_law_2 (natV p) [some (.d (.scr (ns.map .int))), some (.r 0), u2, u3, u4, u5, u6] (Ce.lst (A.map askV) :: T) = .nx [some (.d (.scr (ns.map .int))), some (.r 0), some (.d (natV p)), v3, v4, v5, v6] (Ce.lst (A'.map askV) :: T') ∧ (∀ q ∈ A', AskOk q) ∧ A'.length ≤ A.length + 1 := by
  obtain ⟨S, hS⟩ : ∃ S, S = Ce.lst (A.map askV) :: T := ⟨_, rfl⟩
  obtain ⟨scr, hscr⟩ : ∃ scr, scr = (Sl.d (.scr (ns.map .int))) := ⟨_, rfl⟩
  obtain ⟨a, B, ew, hB⟩ := well_spec (st := S) (ns := ns) (p := p)
  rw [← hscr] at ew
  obtain ⟨r1, a1, c1, e1, r10, r11, c10, c11⟩ := draw_spec (st := S ++ [wellC a B 0]) (n := S.length) (a := a) (b := B) (c := 0) (many := 4) at_0 hB (by decide) (by decide) (by decide)
  rw [set_w] at e1
  obtain ⟨most, hm, eix⟩ : ∃ most : Nat, (1 ≤ most ∧ most ≤ 20) ∧ ixA (.d (.lst [.int 1, .int 4, .int 8, .int 20])) (.d (.int r1)) (S ++ [wellC a1 B c1]) = .ok (.d (.int most)) (S ++ [wellC a1 B c1]) := by
    have : r1 = 0 ∨ r1 = 1 ∨ r1 = 2 ∨ r1 = 3 := by omega
    rcases this with rfl | rfl | rfl | rfl
    · exact ⟨1, by decide, ixA_l list_l rfl⟩
    · exact ⟨4, by decide, ixA_l list_l rfl⟩
    · exact ⟨8, by decide, ixA_l list_l rfl⟩
    · exact ⟨20, by decide, ixA_l list_l rfl⟩
  obtain ⟨b, kk, a2, c2, e2, ok, c20, c21⟩ := book_spec (st := S ++ [wellC a1 B c1]) (n := S.length) (a := a1) (c := c1) (B := B) (most := most) at_0 hB hm (by omega)
  rw [set_w] at e2
  have eW : qW [some scr, some (.r 0), some (.d (natV p)), u3, u4, u5, u6] S = .nx [some scr, some (.r 0), some (.d (natV p)), some (.r S.length), u4, u5, u6] (S ++ [wellC a B 0]) := by
    unfold qW
    simp only [bind_ok, bind_exc, sOf_ok, sOf_exc, sSeq_ap, seqK_nx, seqK_rt, seqK_bk, seqK_ct, seqK_exc, sNil_ap, sPass_ap, sBrk_ap, sCnt_ap, sRetN_ap, sRet_ap, kRet_d, kRet_r, kRet_n, kRet_m, nxK_ap, sExp_ap, ifK_t, ifK_f, sIf_ap, asK_some, kAsg_ap, sAsg_ap, gN_ap, gT_ap, gE_ap, gC_ap, kPar_ap, sPar_ap, setAll_cons, setAll_nil, forK_ap, sFor_ap, varK_some, eVar_ap, eC_ap, eBin_ap, nBin_ap, eNeg_ap, kNeg_i, aNil_ap, aCons_ap, toD_d, toDs_nil, toDs_cons, eTup_ap, nLst_ap, eCall_ap, eCallK_ap, eCB_ap, eIfK_t, eIfK_f, eIf_ap, tOfK_b, tOf_ap, andK_t, andK_f, orK_t, orK_f, tAndF_ap, tOrF_ap, notK_ap, tNotF_ap, eAndK_t, eAndK_f, eOrK_t, eOrK_f, eAnd_ap, eOr_ap, eNot_ap, kNot_b, eFrz_ap, eSto_ap, eFre_ap, eFreM_ap, eSet_ap, eAlc_ap, frozen_ok, stored_ok, storedM_ok, fresh_ok, freshM_ok, settle_d, settle_r, settle_w, settle_n, settle_m, settle_exc, allocS_d, allocS_r, allocS_n, allocS_m, addS_i, mulS_t1, mulS_t0, subS_i, ltS_i, leS_i, gtS_i, geS_i, at_0, at_1, at_2, set_0, set_1, cut_old, cut_all, len_1, len_2, app_app, set_set, set_len, retS_d, retS_n, retS_m, retS_x, list_l, list_s, seq_t, seq_k, atI_0, atI_1, atI_2, cLen_t, cLen_l, cLen_z, cInt_i, cInt_b, cI1_i, cI2_i, eIsi_ap, eqS_i, neS_i, eqS_b, neS_b, eqS_p, isN_d, isBl_b, eSl_ap, pNone_ap, pSome_ap, kPt_i, slS_t, nRev_ap, eM1_ap, sSetI_ap, sPutD_ap, eNewT_ap, itOf_ap, itAny_ap, kIter_t, kIter_k, kIter_l, kEnum_l, kZip_l, turnK_some, turnS_ap, loop_nil, nLc_ap, nLcM_ap, tYes_ap, cut_set, cut_setold, eDc_ap, sRetRev_ap, List.set_cons_zero, List.set_cons_succ, List.getElem?_cons_zero, List.getElem?_cons_succ, Option.bind_some, List.length_cons, List.length_nil, lstK0, tupK0, lstK1, tupK1, lstK2, tupK2, lstK3, tupK3, lstK4, tupK4, lstK5, tupK5, List.cons_append, List.nil_append, wipeE, natV, ew]
    rfl
  have eB : qB [some scr, some (.r 0), some (.d (natV p)), some (.r S.length), u4, u5, u6] (S ++ [wellC a B 0]) = .nx [some scr, some (.r 0), some (.d (natV p)), some (.r S.length), some (.d (bookV b kk)), u5, u6] (S ++ [wellC a2 B c2]) := by
    unfold qB
    simp only [bind_ok, bind_exc, sOf_ok, sOf_exc, sSeq_ap, seqK_nx, seqK_rt, seqK_bk, seqK_ct, seqK_exc, sNil_ap, sPass_ap, sBrk_ap, sCnt_ap, sRetN_ap, sRet_ap, kRet_d, kRet_r, kRet_n, kRet_m, nxK_ap, sExp_ap, ifK_t, ifK_f, sIf_ap, asK_some, kAsg_ap, sAsg_ap, gN_ap, gT_ap, gE_ap, gC_ap, kPar_ap, sPar_ap, setAll_cons, setAll_nil, forK_ap, sFor_ap, varK_some, eVar_ap, eC_ap, eBin_ap, nBin_ap, eNeg_ap, kNeg_i, aNil_ap, aCons_ap, toD_d, toDs_nil, toDs_cons, eTup_ap, nLst_ap, eCall_ap, eCallK_ap, eCB_ap, eIfK_t, eIfK_f, eIf_ap, tOfK_b, tOf_ap, andK_t, andK_f, orK_t, orK_f, tAndF_ap, tOrF_ap, notK_ap, tNotF_ap, eAndK_t, eAndK_f, eOrK_t, eOrK_f, eAnd_ap, eOr_ap, eNot_ap, kNot_b, eFrz_ap, eSto_ap, eFre_ap, eFreM_ap, eSet_ap, eAlc_ap, frozen_ok, stored_ok, storedM_ok, fresh_ok, freshM_ok, settle_d, settle_r, settle_w, settle_n, settle_m, settle_exc, allocS_d, allocS_r, allocS_n, allocS_m, addS_i, mulS_t1, mulS_t0, subS_i, ltS_i, leS_i, gtS_i, geS_i, at_0, at_1, at_2, set_0, set_1, cut_old, cut_all, len_1, len_2, app_app, set_set, set_len, retS_d, retS_n, retS_m, retS_x, list_l, list_s, seq_t, seq_k, atI_0, atI_1, atI_2, cLen_t, cLen_l, cLen_z, cInt_i, cInt_b, cI1_i, cI2_i, eIsi_ap, eqS_i, neS_i, eqS_b, neS_b, eqS_p, isN_d, isBl_b, eSl_ap, pNone_ap, pSome_ap, kPt_i, slS_t, nRev_ap, eM1_ap, sSetI_ap, sPutD_ap, eNewT_ap, itOf_ap, itAny_ap, kIter_t, kIter_k, kIter_l, kEnum_l, kZip_l, turnK_some, turnS_ap, loop_nil, nLc_ap, nLcM_ap, tYes_ap, cut_set, cut_setold, eDc_ap, sRetRev_ap, List.set_cons_zero, List.set_cons_succ, List.getElem?_cons_zero, List.getElem?_cons_succ, Option.bind_some, List.length_cons, List.length_nil, lstK0, tupK0, lstK1, tupK1, lstK2, tupK2, lstK3, tupK3, lstK4, tupK4, lstK5, tupK5, List.cons_append, List.nil_append, wipeE, e1, eix, e2]
  obtain ⟨mm, hmm, eI⟩ : ∃ mm : Int, (4 ≤ mm ∧ mm ≤ 5) ∧ qI [some scr, some (.r 0), some (.d (natV p)), some (.r S.length), some (.d (bookV b kk)), u5, u6] (S ++ [wellC a2 B c2]) = .ok (.d (.int mm)) (S ++ [wellC a2 B c2]) := by
    have bk : ixA (.d (bookV b kk)) (.d (.int 0)) (S ++ [wellC a2 B c2]) = .ok (.d (.int b)) (S ++ [wellC a2 B c2]) := ixA_t atI_0
    unfold qI
    by_cases h0 : (0 : Int) < p
    · exact ⟨4, by decide, by simp only [bind_ok, bind_exc, sOf_ok, sOf_exc, sSeq_ap, seqK_nx, seqK_rt, seqK_bk, seqK_ct, seqK_exc, sNil_ap, sPass_ap, sBrk_ap, sCnt_ap, sRetN_ap, sRet_ap, kRet_d, kRet_r, kRet_n, kRet_m, nxK_ap, sExp_ap, ifK_t, ifK_f, sIf_ap, asK_some, kAsg_ap, sAsg_ap, gN_ap, gT_ap, gE_ap, gC_ap, kPar_ap, sPar_ap, setAll_cons, setAll_nil, forK_ap, sFor_ap, varK_some, eVar_ap, eC_ap, eBin_ap, nBin_ap, eNeg_ap, kNeg_i, aNil_ap, aCons_ap, toD_d, toDs_nil, toDs_cons, eTup_ap, nLst_ap, eCall_ap, eCallK_ap, eCB_ap, eIfK_t, eIfK_f, eIf_ap, tOfK_b, tOf_ap, andK_t, andK_f, orK_t, orK_f, tAndF_ap, tOrF_ap, notK_ap, tNotF_ap, eAndK_t, eAndK_f, eOrK_t, eOrK_f, eAnd_ap, eOr_ap, eNot_ap, kNot_b, eFrz_ap, eSto_ap, eFre_ap, eFreM_ap, eSet_ap, eAlc_ap, frozen_ok, stored_ok, storedM_ok, fresh_ok, freshM_ok, settle_d, settle_r, settle_w, settle_n, settle_m, settle_exc, allocS_d, allocS_r, allocS_n, allocS_m, addS_i, mulS_t1, mulS_t0, subS_i, ltS_i, leS_i, gtS_i, geS_i, at_0, at_1, at_2, set_0, set_1, cut_old, cut_all, len_1, len_2, app_app, set_set, set_len, retS_d, retS_n, retS_m, retS_x, list_l, list_s, seq_t, seq_k, atI_0, atI_1, atI_2, cLen_t, cLen_l, cLen_z, cInt_i, cInt_b, cI1_i, cI2_i, eIsi_ap, eqS_i, neS_i, eqS_b, neS_b, eqS_p, isN_d, isBl_b, eSl_ap, pNone_ap, pSome_ap, kPt_i, slS_t, nRev_ap, eM1_ap, sSetI_ap, sPutD_ap, eNewT_ap, itOf_ap, itAny_ap, kIter_t, kIter_k, kIter_l, kEnum_l, kZip_l, turnK_some, turnS_ap, loop_nil, nLc_ap, nLcM_ap, tYes_ap, cut_set, cut_setold, eDc_ap, sRetRev_ap, List.set_cons_zero, List.set_cons_succ, List.getElem?_cons_zero, List.getElem?_cons_succ, Option.bind_some, List.length_cons, List.length_nil, lstK0, tupK0, lstK1, tupK1, lstK2, tupK2, lstK3, tupK3, lstK4, tupK4, lstK5, tupK5, List.cons_append, List.nil_append, wipeE, natV, decide_eq_true h0]⟩
    · cases h3 : ((b : Int) == 3) with
      | true => exact ⟨4, by decide, by simp only [bind_ok, bind_exc, sOf_ok, sOf_exc, sSeq_ap, seqK_nx, seqK_rt, seqK_bk, seqK_ct, seqK_exc, sNil_ap, sPass_ap, sBrk_ap, sCnt_ap, sRetN_ap, sRet_ap, kRet_d, kRet_r, kRet_n, kRet_m, nxK_ap, sExp_ap, ifK_t, ifK_f, sIf_ap, asK_some, kAsg_ap, sAsg_ap, gN_ap, gT_ap, gE_ap, gC_ap, kPar_ap, sPar_ap, setAll_cons, setAll_nil, forK_ap, sFor_ap, varK_some, eVar_ap, eC_ap, eBin_ap, nBin_ap, eNeg_ap, kNeg_i, aNil_ap, aCons_ap, toD_d, toDs_nil, toDs_cons, eTup_ap, nLst_ap, eCall_ap, eCallK_ap, eCB_ap, eIfK_t, eIfK_f, eIf_ap, tOfK_b, tOf_ap, andK_t, andK_f, orK_t, orK_f, tAndF_ap, tOrF_ap, notK_ap, tNotF_ap, eAndK_t, eAndK_f, eOrK_t, eOrK_f, eAnd_ap, eOr_ap, eNot_ap, kNot_b, eFrz_ap, eSto_ap, eFre_ap, eFreM_ap, eSet_ap, eAlc_ap, frozen_ok, stored_ok, storedM_ok, fresh_ok, freshM_ok, settle_d, settle_r, settle_w, settle_n, settle_m, settle_exc, allocS_d, allocS_r, allocS_n, allocS_m, addS_i, mulS_t1, mulS_t0, subS_i, ltS_i, leS_i, gtS_i, geS_i, at_0, at_1, at_2, set_0, set_1, cut_old, cut_all, len_1, len_2, app_app, set_set, set_len, retS_d, retS_n, retS_m, retS_x, list_l, list_s, seq_t, seq_k, atI_0, atI_1, atI_2, cLen_t, cLen_l, cLen_z, cInt_i, cInt_b, cI1_i, cI2_i, eIsi_ap, eqS_i, neS_i, eqS_b, neS_b, eqS_p, isN_d, isBl_b, eSl_ap, pNone_ap, pSome_ap, kPt_i, slS_t, nRev_ap, eM1_ap, sSetI_ap, sPutD_ap, eNewT_ap, itOf_ap, itAny_ap, kIter_t, kIter_k, kIter_l, kEnum_l, kZip_l, turnK_some, turnS_ap, loop_nil, nLc_ap, nLcM_ap, tYes_ap, cut_set, cut_setold, eDc_ap, sRetRev_ap, List.set_cons_zero, List.set_cons_succ, List.getElem?_cons_zero, List.getElem?_cons_succ, Option.bind_some, List.length_cons, List.length_nil, lstK0, tupK0, lstK1, tupK1, lstK2, tupK2, lstK3, tupK3, lstK4, tupK4, lstK5, tupK5, List.cons_append, List.nil_append, wipeE, natV, decide_eq_false h0, bk, h3]⟩
      | false => exact ⟨5, by decide, by simp only [bind_ok, bind_exc, sOf_ok, sOf_exc, sSeq_ap, seqK_nx, seqK_rt, seqK_bk, seqK_ct, seqK_exc, sNil_ap, sPass_ap, sBrk_ap, sCnt_ap, sRetN_ap, sRet_ap, kRet_d, kRet_r, kRet_n, kRet_m, nxK_ap, sExp_ap, ifK_t, ifK_f, sIf_ap, asK_some, kAsg_ap, sAsg_ap, gN_ap, gT_ap, gE_ap, gC_ap, kPar_ap, sPar_ap, setAll_cons, setAll_nil, forK_ap, sFor_ap, varK_some, eVar_ap, eC_ap, eBin_ap, nBin_ap, eNeg_ap, kNeg_i, aNil_ap, aCons_ap, toD_d, toDs_nil, toDs_cons, eTup_ap, nLst_ap, eCall_ap, eCallK_ap, eCB_ap, eIfK_t, eIfK_f, eIf_ap, tOfK_b, tOf_ap, andK_t, andK_f, orK_t, orK_f, tAndF_ap, tOrF_ap, notK_ap, tNotF_ap, eAndK_t, eAndK_f, eOrK_t, eOrK_f, eAnd_ap, eOr_ap, eNot_ap, kNot_b, eFrz_ap, eSto_ap, eFre_ap, eFreM_ap, eSet_ap, eAlc_ap, frozen_ok, stored_ok, storedM_ok, fresh_ok, freshM_ok, settle_d, settle_r, settle_w, settle_n, settle_m, settle_exc, allocS_d, allocS_r, allocS_n, allocS_m, addS_i, mulS_t1, mulS_t0, subS_i, ltS_i, leS_i, gtS_i, geS_i, at_0, at_1, at_2, set_0, set_1, cut_old, cut_all, len_1, len_2, app_app, set_set, set_len, retS_d, retS_n, retS_m, retS_x, list_l, list_s, seq_t, seq_k, atI_0, atI_1, atI_2, cLen_t, cLen_l, cLen_z, cInt_i, cInt_b, cI1_i, cI2_i, eIsi_ap, eqS_i, neS_i, eqS_b, neS_b, eqS_p, isN_d, isBl_b, eSl_ap, pNone_ap, pSome_ap, kPt_i, slS_t, nRev_ap, eM1_ap, sSetI_ap, sPutD_ap, eNewT_ap, itOf_ap, itAny_ap, kIter_t, kIter_k, kIter_l, kEnum_l, kZip_l, turnK_some, turnS_ap, loop_nil, nLc_ap, nLcM_ap, tYes_ap, cut_set, cut_setold, eDc_ap, sRetRev_ap, List.set_cons_zero, List.set_cons_succ, List.getElem?_cons_zero, List.getElem?_cons_succ, Option.bind_some, List.length_cons, List.length_nil, lstK0, tupK0, lstK1, tupK1, lstK2, tupK2, lstK3, tupK3, lstK4, tupK4, lstK5, tupK5, List.cons_append, List.nil_append, wipeE, natV, decide_eq_false h0, bk, h3]⟩
  obtain ⟨r3, a3, c3, e3, r30, r31, c30, c31⟩ := draw_spec (st := S ++ [wellC a2 B c2]) (n := S.length) (a := a2) (b := B) (c := c2) (many := mm) at_0 hB (by omega) (by omega) (by omega)
  rw [set_w] at e3
  obtain ⟨d0, rfl⟩ : ∃ d0 : Nat, r3 = (d0 : Int) := ⟨r3.toNat, by omega⟩
  have eD : qD [some scr, some (.r 0), some (.d (natV p)), some (.r S.length), some (.d (bookV b kk)), u5, u6] (S ++ [wellC a2 B c2]) = .nx [some scr, some (.r 0), some (.d (natV p)), some (.r S.length), some (.d (bookV b kk)), some (.d (.int d0)), u6] (S ++ [wellC a3 B c3]) := by
    unfold qD
    simp only [bind_ok, bind_exc, sOf_ok, sOf_exc, sSeq_ap, seqK_nx, seqK_rt, seqK_bk, seqK_ct, seqK_exc, sNil_ap, sPass_ap, sBrk_ap, sCnt_ap, sRetN_ap, sRet_ap, kRet_d, kRet_r, kRet_n, kRet_m, nxK_ap, sExp_ap, ifK_t, ifK_f, sIf_ap, asK_some, kAsg_ap, sAsg_ap, gN_ap, gT_ap, gE_ap, gC_ap, kPar_ap, sPar_ap, setAll_cons, setAll_nil, forK_ap, sFor_ap, varK_some, eVar_ap, eC_ap, eBin_ap, nBin_ap, eNeg_ap, kNeg_i, aNil_ap, aCons_ap, toD_d, toDs_nil, toDs_cons, eTup_ap, nLst_ap, eCall_ap, eCallK_ap, eCB_ap, eIfK_t, eIfK_f, eIf_ap, tOfK_b, tOf_ap, andK_t, andK_f, orK_t, orK_f, tAndF_ap, tOrF_ap, notK_ap, tNotF_ap, eAndK_t, eAndK_f, eOrK_t, eOrK_f, eAnd_ap, eOr_ap, eNot_ap, kNot_b, eFrz_ap, eSto_ap, eFre_ap, eFreM_ap, eSet_ap, eAlc_ap, frozen_ok, stored_ok, storedM_ok, fresh_ok, freshM_ok, settle_d, settle_r, settle_w, settle_n, settle_m, settle_exc, allocS_d, allocS_r, allocS_n, allocS_m, addS_i, mulS_t1, mulS_t0, subS_i, ltS_i, leS_i, gtS_i, geS_i, at_0, at_1, at_2, set_0, set_1, cut_old, cut_all, len_1, len_2, app_app, set_set, set_len, retS_d, retS_n, retS_m, retS_x, list_l, list_s, seq_t, seq_k, atI_0, atI_1, atI_2, cLen_t, cLen_l, cLen_z, cInt_i, cInt_b, cI1_i, cI2_i, eIsi_ap, eqS_i, neS_i, eqS_b, neS_b, eqS_p, isN_d, isBl_b, eSl_ap, pNone_ap, pSome_ap, kPt_i, slS_t, nRev_ap, eM1_ap, sSetI_ap, sPutD_ap, eNewT_ap, itOf_ap, itAny_ap, kIter_t, kIter_k, kIter_l, kEnum_l, kZip_l, turnK_some, turnS_ap, loop_nil, nLc_ap, nLcM_ap, tYes_ap, cut_set, cut_setold, eDc_ap, sRetRev_ap, List.set_cons_zero, List.set_cons_succ, List.getElem?_cons_zero, List.getElem?_cons_succ, Option.bind_some, List.length_cons, List.length_nil, lstK0, tupK0, lstK1, tupK1, lstK2, tupK2, lstK3, tupK3, lstK4, tupK4, lstK5, tupK5, List.cons_append, List.nil_append, wipeE, eI, e3]
  obtain ⟨d, a4, c4, hd, c40, c41, eq4⟩ : ∃ (d : Nat) (a4 c4 : Int), d ≤ 4 ∧ 0 ≤ c4 ∧ c4 ≤ 10000 ∧ q4 [some scr, some (.r 0), some (.d (natV p)), some (.r S.length), some (.d (bookV b kk)), some (.d (.int d0)), u6] (S ++ [wellC a3 B c3]) = .nx [some scr, some (.r 0), some (.d (natV p)), some (.r S.length), some (.d (bookV b kk)), some (.d (.int d)), u6] (S ++ [wellC a4 B c4]) := by
    unfold q4
    cases h0 : ((p : Int) == 0) with
    | false => exact ⟨d0, a3, c3, by omega, c30, by omega, by simp only [bind_ok, bind_exc, sOf_ok, sOf_exc, sSeq_ap, seqK_nx, seqK_rt, seqK_bk, seqK_ct, seqK_exc, sNil_ap, sPass_ap, sBrk_ap, sCnt_ap, sRetN_ap, sRet_ap, kRet_d, kRet_r, kRet_n, kRet_m, nxK_ap, sExp_ap, ifK_t, ifK_f, sIf_ap, asK_some, kAsg_ap, sAsg_ap, gN_ap, gT_ap, gE_ap, gC_ap, kPar_ap, sPar_ap, setAll_cons, setAll_nil, forK_ap, sFor_ap, varK_some, eVar_ap, eC_ap, eBin_ap, nBin_ap, eNeg_ap, kNeg_i, aNil_ap, aCons_ap, toD_d, toDs_nil, toDs_cons, eTup_ap, nLst_ap, eCall_ap, eCallK_ap, eCB_ap, eIfK_t, eIfK_f, eIf_ap, tOfK_b, tOf_ap, andK_t, andK_f, orK_t, orK_f, tAndF_ap, tOrF_ap, notK_ap, tNotF_ap, eAndK_t, eAndK_f, eOrK_t, eOrK_f, eAnd_ap, eOr_ap, eNot_ap, kNot_b, eFrz_ap, eSto_ap, eFre_ap, eFreM_ap, eSet_ap, eAlc_ap, frozen_ok, stored_ok, storedM_ok, fresh_ok, freshM_ok, settle_d, settle_r, settle_w, settle_n, settle_m, settle_exc, allocS_d, allocS_r, allocS_n, allocS_m, addS_i, mulS_t1, mulS_t0, subS_i, ltS_i, leS_i, gtS_i, geS_i, at_0, at_1, at_2, set_0, set_1, cut_old, cut_all, len_1, len_2, app_app, set_set, set_len, retS_d, retS_n, retS_m, retS_x, list_l, list_s, seq_t, seq_k, atI_0, atI_1, atI_2, cLen_t, cLen_l, cLen_z, cInt_i, cInt_b, cI1_i, cI2_i, eIsi_ap, eqS_i, neS_i, eqS_b, neS_b, eqS_p, isN_d, isBl_b, eSl_ap, pNone_ap, pSome_ap, kPt_i, slS_t, nRev_ap, eM1_ap, sSetI_ap, sPutD_ap, eNewT_ap, itOf_ap, itAny_ap, kIter_t, kIter_k, kIter_l, kEnum_l, kZip_l, turnK_some, turnS_ap, loop_nil, nLc_ap, nLcM_ap, tYes_ap, cut_set, cut_setold, eDc_ap, sRetRev_ap, List.set_cons_zero, List.set_cons_succ, List.getElem?_cons_zero, List.getElem?_cons_succ, Option.bind_some, List.length_cons, List.length_nil, lstK0, tupK0, lstK1, tupK1, lstK2, tupK2, lstK3, tupK3, lstK4, tupK4, lstK5, tupK5, List.cons_append, List.nil_append, wipeE, natV, h0]⟩
    | true =>
      obtain ⟨r4, a4, c4, e4, r40, r41, c40, c41⟩ := draw_spec (st := S ++ [wellC a3 B c3]) (n := S.length) (a := a3) (b := B) (c := c3) (many := 4) at_0 hB (by omega) (by decide) (by decide)
      rw [set_w] at e4
      cases h4 : (r4 == 0) with
      | false => exact ⟨d0, a4, c4, by omega, c40, by omega, by simp only [bind_ok, bind_exc, sOf_ok, sOf_exc, sSeq_ap, seqK_nx, seqK_rt, seqK_bk, seqK_ct, seqK_exc, sNil_ap, sPass_ap, sBrk_ap, sCnt_ap, sRetN_ap, sRet_ap, kRet_d, kRet_r, kRet_n, kRet_m, nxK_ap, sExp_ap, ifK_t, ifK_f, sIf_ap, asK_some, kAsg_ap, sAsg_ap, gN_ap, gT_ap, gE_ap, gC_ap, kPar_ap, sPar_ap, setAll_cons, setAll_nil, forK_ap, sFor_ap, varK_some, eVar_ap, eC_ap, eBin_ap, nBin_ap, eNeg_ap, kNeg_i, aNil_ap, aCons_ap, toD_d, toDs_nil, toDs_cons, eTup_ap, nLst_ap, eCall_ap, eCallK_ap, eCB_ap, eIfK_t, eIfK_f, eIf_ap, tOfK_b, tOf_ap, andK_t, andK_f, orK_t, orK_f, tAndF_ap, tOrF_ap, notK_ap, tNotF_ap, eAndK_t, eAndK_f, eOrK_t, eOrK_f, eAnd_ap, eOr_ap, eNot_ap, kNot_b, eFrz_ap, eSto_ap, eFre_ap, eFreM_ap, eSet_ap, eAlc_ap, frozen_ok, stored_ok, storedM_ok, fresh_ok, freshM_ok, settle_d, settle_r, settle_w, settle_n, settle_m, settle_exc, allocS_d, allocS_r, allocS_n, allocS_m, addS_i, mulS_t1, mulS_t0, subS_i, ltS_i, leS_i, gtS_i, geS_i, at_0, at_1, at_2, set_0, set_1, cut_old, cut_all, len_1, len_2, app_app, set_set, set_len, retS_d, retS_n, retS_m, retS_x, list_l, list_s, seq_t, seq_k, atI_0, atI_1, atI_2, cLen_t, cLen_l, cLen_z, cInt_i, cInt_b, cI1_i, cI2_i, eIsi_ap, eqS_i, neS_i, eqS_b, neS_b, eqS_p, isN_d, isBl_b, eSl_ap, pNone_ap, pSome_ap, kPt_i, slS_t, nRev_ap, eM1_ap, sSetI_ap, sPutD_ap, eNewT_ap, itOf_ap, itAny_ap, kIter_t, kIter_k, kIter_l, kEnum_l, kZip_l, turnK_some, turnS_ap, loop_nil, nLc_ap, nLcM_ap, tYes_ap, cut_set, cut_setold, eDc_ap, sRetRev_ap, List.set_cons_zero, List.set_cons_succ, List.getElem?_cons_zero, List.getElem?_cons_succ, Option.bind_some, List.length_cons, List.length_nil, lstK0, tupK0, lstK1, tupK1, lstK2, tupK2, lstK3, tupK3, lstK4, tupK4, lstK5, tupK5, List.cons_append, List.nil_append, wipeE, natV, h0, e4, h4]⟩
      | true => exact ⟨4, a4, c4, by decide, c40, by omega, by
          simp only [bind_ok, bind_exc, sOf_ok, sOf_exc, sSeq_ap, seqK_nx, seqK_rt, seqK_bk, seqK_ct, seqK_exc, sNil_ap, sPass_ap, sBrk_ap, sCnt_ap, sRetN_ap, sRet_ap, kRet_d, kRet_r, kRet_n, kRet_m, nxK_ap, sExp_ap, ifK_t, ifK_f, sIf_ap, asK_some, kAsg_ap, sAsg_ap, gN_ap, gT_ap, gE_ap, gC_ap, kPar_ap, sPar_ap, setAll_cons, setAll_nil, forK_ap, sFor_ap, varK_some, eVar_ap, eC_ap, eBin_ap, nBin_ap, eNeg_ap, kNeg_i, aNil_ap, aCons_ap, toD_d, toDs_nil, toDs_cons, eTup_ap, nLst_ap, eCall_ap, eCallK_ap, eCB_ap, eIfK_t, eIfK_f, eIf_ap, tOfK_b, tOf_ap, andK_t, andK_f, orK_t, orK_f, tAndF_ap, tOrF_ap, notK_ap, tNotF_ap, eAndK_t, eAndK_f, eOrK_t, eOrK_f, eAnd_ap, eOr_ap, eNot_ap, kNot_b, eFrz_ap, eSto_ap, eFre_ap, eFreM_ap, eSet_ap, eAlc_ap, frozen_ok, stored_ok, storedM_ok, fresh_ok, freshM_ok, settle_d, settle_r, settle_w, settle_n, settle_m, settle_exc, allocS_d, allocS_r, allocS_n, allocS_m, addS_i, mulS_t1, mulS_t0, subS_i, ltS_i, leS_i, gtS_i, geS_i, at_0, at_1, at_2, set_0, set_1, cut_old, cut_all, len_1, len_2, app_app, set_set, set_len, retS_d, retS_n, retS_m, retS_x, list_l, list_s, seq_t, seq_k, atI_0, atI_1, atI_2, cLen_t, cLen_l, cLen_z, cInt_i, cInt_b, cI1_i, cI2_i, eIsi_ap, eqS_i, neS_i, eqS_b, neS_b, eqS_p, isN_d, isBl_b, eSl_ap, pNone_ap, pSome_ap, kPt_i, slS_t, nRev_ap, eM1_ap, sSetI_ap, sPutD_ap, eNewT_ap, itOf_ap, itAny_ap, kIter_t, kIter_k, kIter_l, kEnum_l, kZip_l, turnK_some, turnS_ap, loop_nil, nLc_ap, nLcM_ap, tYes_ap, cut_set, cut_setold, eDc_ap, sRetRev_ap, List.set_cons_zero, List.set_cons_succ, List.getElem?_cons_zero, List.getElem?_cons_succ, Option.bind_some, List.length_cons, List.length_nil, lstK0, tupK0, lstK1, tupK1, lstK2, tupK2, lstK3, tupK3, lstK4, tupK4, lstK5, tupK5, List.cons_append, List.nil_append, wipeE, natV, h0, e4, h4]
          rfl⟩
  have eU : qU [some scr, some (.r 0), some (.d (natV p)), some (.r S.length), some (.d (bookV b kk)), some (.d (.int d)), u6] (S ++ [wellC a4 B c4]) = .nx [some scr, some (.r 0), some (.d (natV p)), some (.r S.length), some (.d (bookV b kk)), some (.d (.int d)), some (.d (dueV (b ^ d) (cellsP b kk d)))] (S ++ [wellC a4 B c4]) := by
    unfold qU
    simp only [bind_ok, bind_exc, sOf_ok, sOf_exc, sSeq_ap, seqK_nx, seqK_rt, seqK_bk, seqK_ct, seqK_exc, sNil_ap, sPass_ap, sBrk_ap, sCnt_ap, sRetN_ap, sRet_ap, kRet_d, kRet_r, kRet_n, kRet_m, nxK_ap, sExp_ap, ifK_t, ifK_f, sIf_ap, asK_some, kAsg_ap, sAsg_ap, gN_ap, gT_ap, gE_ap, gC_ap, kPar_ap, sPar_ap, setAll_cons, setAll_nil, forK_ap, sFor_ap, varK_some, eVar_ap, eC_ap, eBin_ap, nBin_ap, eNeg_ap, kNeg_i, aNil_ap, aCons_ap, toD_d, toDs_nil, toDs_cons, eTup_ap, nLst_ap, eCall_ap, eCallK_ap, eCB_ap, eIfK_t, eIfK_f, eIf_ap, tOfK_b, tOf_ap, andK_t, andK_f, orK_t, orK_f, tAndF_ap, tOrF_ap, notK_ap, tNotF_ap, eAndK_t, eAndK_f, eOrK_t, eOrK_f, eAnd_ap, eOr_ap, eNot_ap, kNot_b, eFrz_ap, eSto_ap, eFre_ap, eFreM_ap, eSet_ap, eAlc_ap, frozen_ok, stored_ok, storedM_ok, fresh_ok, freshM_ok, settle_d, settle_r, settle_w, settle_n, settle_m, settle_exc, allocS_d, allocS_r, allocS_n, allocS_m, addS_i, mulS_t1, mulS_t0, subS_i, ltS_i, leS_i, gtS_i, geS_i, at_0, at_1, at_2, set_0, set_1, cut_old, cut_all, len_1, len_2, app_app, set_set, set_len, retS_d, retS_n, retS_m, retS_x, list_l, list_s, seq_t, seq_k, atI_0, atI_1, atI_2, cLen_t, cLen_l, cLen_z, cInt_i, cInt_b, cI1_i, cI2_i, eIsi_ap, eqS_i, neS_i, eqS_b, neS_b, eqS_p, isN_d, isBl_b, eSl_ap, pNone_ap, pSome_ap, kPt_i, slS_t, nRev_ap, eM1_ap, sSetI_ap, sPutD_ap, eNewT_ap, itOf_ap, itAny_ap, kIter_t, kIter_k, kIter_l, kEnum_l, kZip_l, turnK_some, turnS_ap, loop_nil, nLc_ap, nLcM_ap, tYes_ap, cut_set, cut_setold, eDc_ap, sRetRev_ap, List.set_cons_zero, List.set_cons_succ, List.getElem?_cons_zero, List.getElem?_cons_succ, Option.bind_some, List.length_cons, List.length_nil, lstK0, tupK0, lstK1, tupK1, lstK2, tupK2, lstK3, tupK3, lstK4, tupK4, lstK5, tupK5, List.cons_append, List.nil_append, wipeE, due_spec ok hd]
  obtain ⟨r5, a5, c5, e5, r50, r51, c50, c51⟩ := draw_spec (st := S ++ [wellC a4 B c4]) (n := S.length) (a := a4) (b := B) (c := c4) (many := 2) at_0 hB (by omega) (by decide) (by decide)
  rw [set_w] at e5
  have eR : qR [some scr, some (.r 0), some (.d (natV p)), some (.r S.length), some (.d (bookV b kk)), some (.d (.int d)), some (.d (dueV (b ^ d) (cellsP b kk d)))] (S ++ [wellC a4 B c4]) = .nx [some scr, some (.r 0), some (.d (natV p)), some (.r S.length), some (.d (bookV b kk)), some (.d (.int d)), some (.d (dueV (b ^ d) (cellsP b kk d)))] (S ++ [wellC a5 B c5]) := by
    unfold qR
    simp only [bind_ok, bind_exc, sOf_ok, sOf_exc, sSeq_ap, seqK_nx, seqK_rt, seqK_bk, seqK_ct, seqK_exc, sNil_ap, sPass_ap, sBrk_ap, sCnt_ap, sRetN_ap, sRet_ap, kRet_d, kRet_r, kRet_n, kRet_m, nxK_ap, sExp_ap, ifK_t, ifK_f, sIf_ap, asK_some, kAsg_ap, sAsg_ap, gN_ap, gT_ap, gE_ap, gC_ap, kPar_ap, sPar_ap, setAll_cons, setAll_nil, forK_ap, sFor_ap, varK_some, eVar_ap, eC_ap, eBin_ap, nBin_ap, eNeg_ap, kNeg_i, aNil_ap, aCons_ap, toD_d, toDs_nil, toDs_cons, eTup_ap, nLst_ap, eCall_ap, eCallK_ap, eCB_ap, eIfK_t, eIfK_f, eIf_ap, tOfK_b, tOf_ap, andK_t, andK_f, orK_t, orK_f, tAndF_ap, tOrF_ap, notK_ap, tNotF_ap, eAndK_t, eAndK_f, eOrK_t, eOrK_f, eAnd_ap, eOr_ap, eNot_ap, kNot_b, eFrz_ap, eSto_ap, eFre_ap, eFreM_ap, eSet_ap, eAlc_ap, frozen_ok, stored_ok, storedM_ok, fresh_ok, freshM_ok, settle_d, settle_r, settle_w, settle_n, settle_m, settle_exc, allocS_d, allocS_r, allocS_n, allocS_m, addS_i, mulS_t1, mulS_t0, subS_i, ltS_i, leS_i, gtS_i, geS_i, at_0, at_1, at_2, set_0, set_1, cut_old, cut_all, len_1, len_2, app_app, set_set, set_len, retS_d, retS_n, retS_m, retS_x, list_l, list_s, seq_t, seq_k, atI_0, atI_1, atI_2, cLen_t, cLen_l, cLen_z, cInt_i, cInt_b, cI1_i, cI2_i, eIsi_ap, eqS_i, neS_i, eqS_b, neS_b, eqS_p, isN_d, isBl_b, eSl_ap, pNone_ap, pSome_ap, kPt_i, slS_t, nRev_ap, eM1_ap, sSetI_ap, sPutD_ap, eNewT_ap, itOf_ap, itAny_ap, kIter_t, kIter_k, kIter_l, kEnum_l, kZip_l, turnK_some, turnS_ap, loop_nil, nLc_ap, nLcM_ap, tYes_ap, cut_set, cut_setold, eDc_ap, sRetRev_ap, List.set_cons_zero, List.set_cons_succ, List.getElem?_cons_zero, List.getElem?_cons_succ, Option.bind_some, List.length_cons, List.length_nil, lstK0, tupK0, lstK1, tupK1, lstK2, tupK2, lstK3, tupK3, lstK4, tupK4, lstK5, tupK5, List.cons_append, List.nil_append, wipeE, e5, right_spec ok hd, Bool.not_true]
  have head : turnS (gN 2) l_law_2 (natV p) [some scr, some (.r 0), u2, u3, u4, u5, u6] S = seqK (qA [some scr, some (.r 0), some (.d (natV p)), some (.r S.length), some (.d (bookV b kk)), some (.d (.int d)), some (.d (dueV (b ^ d) (cellsP b kk d)))] (S ++ [wellC a5 B c5])) sNil := by
    rw [law_2_eq, turnS_ap, gN_ap, turnK_some]
    show sSeq qW _ [some scr, some (.r 0), some (.d (natV p)), u3, u4, u5, u6] S = _
    rw [sSeq_ap, eW, seqK_nx, sSeq_ap, eB, seqK_nx, sSeq_ap, eD, seqK_nx, sSeq_ap, eq4, seqK_nx, sSeq_ap, eU, seqK_nx, sSeq_ap, eR, seqK_nx, sSeq_ap]
  rw [← hS, ← hscr]
  by_cases h4 : (d : Int) < 4
  · have cell : (S ++ [wellC a5 B c5])[0]? = some (Ce.lst (A.map askV)) := by rw [hS]; rfl
    have ap := kApp_r (x := .tup [bookV b kk, .int d, dueV (b ^ d) (cellsP b kk d)]) cell (by rw [List.length_map]; omega)
    refine ⟨T ++ [wellC a5 B c5], A ++ [(b, kk, d)], some (.r S.length), some (.d (bookV b kk)), some (.d (.int d)), some (.d (dueV (b ^ d) (cellsP b kk d))), ?_, fun q hq => ?_, by rw [List.length_append]; exact Nat.le_refl _⟩
    · rw [head]
      unfold qA
      simp only [bind_ok, bind_exc, sOf_ok, sOf_exc, sSeq_ap, seqK_nx, seqK_rt, seqK_bk, seqK_ct, seqK_exc, sNil_ap, sPass_ap, sBrk_ap, sCnt_ap, sRetN_ap, sRet_ap, kRet_d, kRet_r, kRet_n, kRet_m, nxK_ap, sExp_ap, ifK_t, ifK_f, sIf_ap, asK_some, kAsg_ap, sAsg_ap, gN_ap, gT_ap, gE_ap, gC_ap, kPar_ap, sPar_ap, setAll_cons, setAll_nil, forK_ap, sFor_ap, varK_some, eVar_ap, eC_ap, eBin_ap, nBin_ap, eNeg_ap, kNeg_i, aNil_ap, aCons_ap, toD_d, toDs_nil, toDs_cons, eTup_ap, nLst_ap, eCall_ap, eCallK_ap, eCB_ap, eIfK_t, eIfK_f, eIf_ap, tOfK_b, tOf_ap, andK_t, andK_f, orK_t, orK_f, tAndF_ap, tOrF_ap, notK_ap, tNotF_ap, eAndK_t, eAndK_f, eOrK_t, eOrK_f, eAnd_ap, eOr_ap, eNot_ap, kNot_b, eFrz_ap, eSto_ap, eFre_ap, eFreM_ap, eSet_ap, eAlc_ap, frozen_ok, stored_ok, storedM_ok, fresh_ok, freshM_ok, settle_d, settle_r, settle_w, settle_n, settle_m, settle_exc, allocS_d, allocS_r, allocS_n, allocS_m, addS_i, mulS_t1, mulS_t0, subS_i, ltS_i, leS_i, gtS_i, geS_i, at_0, at_1, at_2, set_0, set_1, cut_old, cut_all, len_1, len_2, app_app, set_set, set_len, retS_d, retS_n, retS_m, retS_x, list_l, list_s, seq_t, seq_k, atI_0, atI_1, atI_2, cLen_t, cLen_l, cLen_z, cInt_i, cInt_b, cI1_i, cI2_i, eIsi_ap, eqS_i, neS_i, eqS_b, neS_b, eqS_p, isN_d, isBl_b, eSl_ap, pNone_ap, pSome_ap, kPt_i, slS_t, nRev_ap, eM1_ap, sSetI_ap, sPutD_ap, eNewT_ap, itOf_ap, itAny_ap, kIter_t, kIter_k, kIter_l, kEnum_l, kZip_l, turnK_some, turnS_ap, loop_nil, nLc_ap, nLcM_ap, tYes_ap, cut_set, cut_setold, eDc_ap, sRetRev_ap, List.set_cons_zero, List.set_cons_succ, List.getElem?_cons_zero, List.getElem?_cons_succ, Option.bind_some, List.length_cons, List.length_nil, lstK0, tupK0, lstK1, tupK1, lstK2, tupK2, lstK3, tupK3, lstK4, tupK4, lstK5, tupK5, List.cons_append, List.nil_append, wipeE, decide_eq_true h4, m1K_r (lstAt_r cell), ap]
      rw [hS, List.map_append]
      rfl
    · rcases List.mem_append.mp hq with z | z
      · exact hA q z
      · rw [List.mem_singleton.mp z]
        exact ⟨ok, hd⟩
  · refine ⟨T ++ [wellC a5 B c5], A, some (.r S.length), some (.d (bookV b kk)), some (.d (.int d)), some (.d (dueV (b ^ d) (cellsP b kk d))), ?_, hA, Nat.le_succ _⟩
    rw [head]
    unfold qA
    simp only [bind_ok, bind_exc, sOf_ok, sOf_exc, sSeq_ap, seqK_nx, seqK_rt, seqK_bk, seqK_ct, seqK_exc, sNil_ap, sPass_ap, sBrk_ap, sCnt_ap, sRetN_ap, sRet_ap, kRet_d, kRet_r, kRet_n, kRet_m, nxK_ap, sExp_ap, ifK_t, ifK_f, sIf_ap, asK_some, kAsg_ap, sAsg_ap, gN_ap, gT_ap, gE_ap, gC_ap, kPar_ap, sPar_ap, setAll_cons, setAll_nil, forK_ap, sFor_ap, varK_some, eVar_ap, eC_ap, eBin_ap, nBin_ap, eNeg_ap, kNeg_i, aNil_ap, aCons_ap, toD_d, toDs_nil, toDs_cons, eTup_ap, nLst_ap, eCall_ap, eCallK_ap, eCB_ap, eIfK_t, eIfK_f, eIf_ap, tOfK_b, tOf_ap, andK_t, andK_f, orK_t, orK_f, tAndF_ap, tOrF_ap, notK_ap, tNotF_ap, eAndK_t, eAndK_f, eOrK_t, eOrK_f, eAnd_ap, eOr_ap, eNot_ap, kNot_b, eFrz_ap, eSto_ap, eFre_ap, eFreM_ap, eSet_ap, eAlc_ap, frozen_ok, stored_ok, storedM_ok, fresh_ok, freshM_ok, settle_d, settle_r, settle_w, settle_n, settle_m, settle_exc, allocS_d, allocS_r, allocS_n, allocS_m, addS_i, mulS_t1, mulS_t0, subS_i, ltS_i, leS_i, gtS_i, geS_i, at_0, at_1, at_2, set_0, set_1, cut_old, cut_all, len_1, len_2, app_app, set_set, set_len, retS_d, retS_n, retS_m, retS_x, list_l, list_s, seq_t, seq_k, atI_0, atI_1, atI_2, cLen_t, cLen_l, cLen_z, cInt_i, cInt_b, cI1_i, cI2_i, eIsi_ap, eqS_i, neS_i, eqS_b, neS_b, eqS_p, isN_d, isBl_b, eSl_ap, pNone_ap, pSome_ap, kPt_i, slS_t, nRev_ap, eM1_ap, sSetI_ap, sPutD_ap, eNewT_ap, itOf_ap, itAny_ap, kIter_t, kIter_k, kIter_l, kEnum_l, kZip_l, turnK_some, turnS_ap, loop_nil, nLc_ap, nLcM_ap, tYes_ap, cut_set, cut_setold, eDc_ap, sRetRev_ap, List.set_cons_zero, List.set_cons_succ, List.getElem?_cons_zero, List.getElem?_cons_succ, Option.bind_some, List.length_cons, List.length_nil, lstK0, tupK0, lstK1, tupK1, lstK2, tupK2, lstK3, tupK3, lstK4, tupK4, lstK5, tupK5, List.cons_append, List.nil_append, wipeE, decide_eq_false h4]
    rw [hS]
    rfl
theorem law_spec (ns : List Int) : m_law [.d (.scr (ns.map .int))] [] = .ok (.d (.bl true)) [] := by
  obtain ⟨k, hk⟩ : ∃ k : Nat, maxI 1 (minI 6 ((ns.map Vl.int).length : Nat)) = (k : Int) := ⟨(maxI 1 (minI 6 ((ns.map Vl.int).length : Nat))).toNat, by unfold maxI minI; split <;> split <;> omega⟩
  have hk6 : k ≤ 6 := by
    have : maxI 1 (minI 6 ((ns.map Vl.int).length : Nat)) ≤ 6 := by unfold maxI minI; split <;> split <;> omega
    omega
  obtain ⟨ρ', S', e, T, A, u2, u3, u4, u5, u6, rfl, rfl, hA, hl⟩ := loop_inv (h := turnS (gN 2) l_law_2)
    (fun i ρ S => ∃ (T : Sto) (A : List Ask) (u2 u3 u4 u5 u6 : Option Sl), ρ = [some (.d (.scr (ns.map .int))), some (.r 0), u2, u3, u4, u5, u6] ∧ S = Ce.lst (A.map askV) :: T ∧ (∀ q ∈ A, AskOk q) ∧ A.length ≤ i)
    ((List.range k).map natV) 0 [some (.d (.scr (ns.map .int))), some (.r 0), none, none, none, none, none] [Ce.lst []] ⟨[], [], none, none, none, none, none, rfl, rfl, fun _ h => by simp at h, Nat.le_refl _⟩
    (fun i d ρ S hd ⟨T, A, u2, u3, u4, u5, u6, hρ, hS, hA, hl⟩ => by
      subst hρ hS
      rw [Nat.zero_add] at hl ⊢
      have hi : i < k := by
        have := (List.getElem?_eq_some_iff.mp hd).1
        rw [List.length_map, List.length_range] at this
        exact this
      rw [List.getElem?_map, List.getElem?_range hi] at hd
      cases hd
      obtain ⟨T', A', v3, v4, v5, v6, e, h1, h2⟩ := law_turn hA (show A.length ≤ 1000 by omega) (ns := ns) (T := T) (p := i) (u2 := u2) (u3 := u3) (u4 := u4) (u5 := u5) (u6 := u6)
      exact ⟨_, _, e, T', A', _, v3, v4, v5, v6, rfl, rfl, h1, by omega⟩)
  rw [← rgD_nat] at e
  have cell : (Ce.lst (A.map askV) :: T)[0]? = some (Ce.lst (A.map askV)) := rfl
  obtain ⟨ρ2, S2, e2, u4, u5, u6, rfl, rfl, _⟩ := loop_rest (h := turnS (gT (gC (gN 4) (gC (gN 5) (gC (gN 6) gE)))) l_law_1) (enc := askV)
    (fun (rest : List Ask) ρ S => ∃ u4 u5 u6 : Option Sl, ρ = [some (.d (.scr (ns.map .int))), some (.r 0), u2, u3, u4, u5, u6] ∧ S = Ce.lst (A.map askV) :: T ∧ ∀ q ∈ rest, AskOk q)
    (fun q rest ρ S ⟨u4, u5, u6, hρ, hS, hr⟩ => by
      subst hρ hS
      obtain ⟨ok, hd⟩ := hr q List.mem_cons_self
      refine ⟨_, _, ?_, some (.d (bookV q.1 q.2.1)), some (.d (.int q.2.2)), some (.d (dueV (q.1 ^ q.2.2) (cellsP q.1 q.2.1 q.2.2))), rfl, rfl, fun z hz => hr z (List.mem_cons_of_mem _ hz)⟩
      unfold l_law_1 askV
      simp only [bind_ok, bind_exc, sOf_ok, sOf_exc, sSeq_ap, seqK_nx, seqK_rt, seqK_bk, seqK_ct, seqK_exc, sNil_ap, sPass_ap, sBrk_ap, sCnt_ap, sRetN_ap, sRet_ap, kRet_d, kRet_r, kRet_n, kRet_m, nxK_ap, sExp_ap, ifK_t, ifK_f, sIf_ap, asK_some, kAsg_ap, sAsg_ap, gN_ap, gT_ap, gE_ap, gC_ap, kPar_ap, sPar_ap, setAll_cons, setAll_nil, forK_ap, sFor_ap, varK_some, eVar_ap, eC_ap, eBin_ap, nBin_ap, eNeg_ap, kNeg_i, aNil_ap, aCons_ap, toD_d, toDs_nil, toDs_cons, eTup_ap, nLst_ap, eCall_ap, eCallK_ap, eCB_ap, eIfK_t, eIfK_f, eIf_ap, tOfK_b, tOf_ap, andK_t, andK_f, orK_t, orK_f, tAndF_ap, tOrF_ap, notK_ap, tNotF_ap, eAndK_t, eAndK_f, eOrK_t, eOrK_f, eAnd_ap, eOr_ap, eNot_ap, kNot_b, eFrz_ap, eSto_ap, eFre_ap, eFreM_ap, eSet_ap, eAlc_ap, frozen_ok, stored_ok, storedM_ok, fresh_ok, freshM_ok, settle_d, settle_r, settle_w, settle_n, settle_m, settle_exc, allocS_d, allocS_r, allocS_n, allocS_m, addS_i, mulS_t1, mulS_t0, subS_i, ltS_i, leS_i, gtS_i, geS_i, at_0, at_1, at_2, set_0, set_1, cut_old, cut_all, len_1, len_2, app_app, set_set, set_len, retS_d, retS_n, retS_m, retS_x, list_l, list_s, seq_t, seq_k, atI_0, atI_1, atI_2, cLen_t, cLen_l, cLen_z, cInt_i, cInt_b, cI1_i, cI2_i, eIsi_ap, eqS_i, neS_i, eqS_b, neS_b, eqS_p, isN_d, isBl_b, eSl_ap, pNone_ap, pSome_ap, kPt_i, slS_t, nRev_ap, eM1_ap, sSetI_ap, sPutD_ap, eNewT_ap, itOf_ap, itAny_ap, kIter_t, kIter_k, kIter_l, kEnum_l, kZip_l, turnK_some, turnS_ap, loop_nil, nLc_ap, nLcM_ap, tYes_ap, cut_set, cut_setold, eDc_ap, sRetRev_ap, List.set_cons_zero, List.set_cons_succ, List.getElem?_cons_zero, List.getElem?_cons_succ, Option.bind_some, List.length_cons, List.length_nil, lstK0, tupK0, lstK1, tupK1, lstK2, tupK2, lstK3, tupK3, lstK4, tupK4, lstK5, tupK5, List.cons_append, List.nil_append, wipeE, right_spec ok hd, Bool.not_true]) A.reverse [some (.d (.scr (ns.map .int))), some (.r 0), u2, u3, u4, u5, u6] (Ce.lst (A.map askV) :: T) ⟨u4, u5, u6, rfl, rfl, fun q hq => hA q (List.mem_reverse.mp hq)⟩
  rw [List.map_reverse] at e2
  have rg := kRg1_i (st := [Ce.lst []]) (rgOk_of (show -4611686018427387904 ≤ (k : Int) by omega) (show (k : Int) < 4611686018427387904 by omega))
  rw [Int.toNat_natCast] at rg
  unfold m_law
  rw [fnS_ap]
  show retS 0 (b_law [some (.d (.scr (ns.map .int))), none, none, none, none, none, none] []) = _
  unfold b_law
  simp only [bind_ok, bind_exc, sOf_ok, sOf_exc, sSeq_ap, seqK_nx, seqK_rt, seqK_bk, seqK_ct, seqK_exc, sNil_ap, sPass_ap, sBrk_ap, sCnt_ap, sRetN_ap, sRet_ap, kRet_d, kRet_r, kRet_n, kRet_m, nxK_ap, sExp_ap, ifK_t, ifK_f, sIf_ap, asK_some, kAsg_ap, sAsg_ap, gN_ap, gT_ap, gE_ap, gC_ap, kPar_ap, sPar_ap, setAll_cons, setAll_nil, forK_ap, sFor_ap, varK_some, eVar_ap, eC_ap, eBin_ap, nBin_ap, eNeg_ap, kNeg_i, aNil_ap, aCons_ap, toD_d, toDs_nil, toDs_cons, eTup_ap, nLst_ap, eCall_ap, eCallK_ap, eCB_ap, eIfK_t, eIfK_f, eIf_ap, tOfK_b, tOf_ap, andK_t, andK_f, orK_t, orK_f, tAndF_ap, tOrF_ap, notK_ap, tNotF_ap, eAndK_t, eAndK_f, eOrK_t, eOrK_f, eAnd_ap, eOr_ap, eNot_ap, kNot_b, eFrz_ap, eSto_ap, eFre_ap, eFreM_ap, eSet_ap, eAlc_ap, frozen_ok, stored_ok, storedM_ok, fresh_ok, freshM_ok, settle_d, settle_r, settle_w, settle_n, settle_m, settle_exc, allocS_d, allocS_r, allocS_n, allocS_m, addS_i, mulS_t1, mulS_t0, subS_i, ltS_i, leS_i, gtS_i, geS_i, at_0, at_1, at_2, set_0, set_1, cut_old, cut_all, len_1, len_2, app_app, set_set, set_len, retS_d, retS_n, retS_m, retS_x, list_l, list_s, seq_t, seq_k, atI_0, atI_1, atI_2, cLen_t, cLen_l, cLen_z, cInt_i, cInt_b, cI1_i, cI2_i, eIsi_ap, eqS_i, neS_i, eqS_b, neS_b, eqS_p, isN_d, isBl_b, eSl_ap, pNone_ap, pSome_ap, kPt_i, slS_t, nRev_ap, eM1_ap, sSetI_ap, sPutD_ap, eNewT_ap, itOf_ap, itAny_ap, kIter_t, kIter_k, kIter_l, kEnum_l, kZip_l, turnK_some, turnS_ap, loop_nil, nLc_ap, nLcM_ap, tYes_ap, cut_set, cut_setold, eDc_ap, sRetRev_ap, List.set_cons_zero, List.set_cons_succ, List.getElem?_cons_zero, List.getElem?_cons_succ, Option.bind_some, List.length_cons, List.length_nil, lstK0, tupK0, lstK1, tupK1, lstK2, tupK2, lstK3, tupK3, lstK4, tupK4, lstK5, tupK5, List.cons_append, List.nil_append, wipeE, hk, rg, e, revK_l (list_r cell), e2]
  rfl
end K42

open PySem PySem.W PyProof.Rows
theorem PySem.Challenge.cw_wholethreads_k42_whole_threads_drawn_holds : PySem.Challenge.rw_wholethreads_k42_whole_threads_drawn.Holds := by
  exact K42.holds fun ns _ => K42.law_spec ns
