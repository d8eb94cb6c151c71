import PyProof.Rows.All
import Wide.All
import OpenK.AllK
import Wide.FinOn
import HandS.ForMost
import HandS.More
import HandS.Exc
import HandS.Codes
import HandS.Style
import HandS.IsInst
import HandS.Property
import HandS.MakeKw
import HandS.Wide
import HandS.WideBits
import HandS.Gcd
import HandS.TupAny
import HandS.Star
import HandS.Zip
import HandS.Replace
import HandS.Conv
import HandS.Lambda
import HandS.Nested
import HandS.NestedK
import HandS.Defaults
import KE.SortData
import KE.SortKeyHeap
import HandS.EndTab
import HandS.HeadWalk
import HandS.HeadHook4
import HandS.Head0
import HandS.Head1
import HandS.Head2
import HandS.HeadEnd
import HandS.HeadHook1
import HandS.HeadHook2
import HandS.Head3
import KE.DataCmp
import HandS.Text
import KE.DataMinMax
import KE.DataAny
import KE.DataFind
import KE.DataEq
import PyProof.P3In
import PyProof.SumAny
import HandS.Strs
import HandS.ReCall
import HandS.Iter
import KE.GoesMore
import HandS.TryOnly
import HandS.MakeKwOnly
import HandS.Words
import HandS.CallLocal
import PySem.Challenge.RW_ownkinds_k08_whole_even_streets
set_option Elab.async false
set_option linter.all false
set_option maxRecDepth 100000
set_option autoImplicit false
/-! Pu, A: pure data, how it stands in the heap. -/
namespace Pu
open PySem PySem.Spec PyProof.Rows L2

/-- pure data -/
inductive D where
  | non | bl (b : Bool) | int (i : Int) | str (x : Str)
  | tup (ds : List D) | lst (ds : List D)
  | obj (c : Nat) (ds : List D)
  | clo (l : Nat) (ds : List D)
  | fn (f : Nat)

/-- a result: a value, an exception of class c with its fields, or nothing that is told -/
inductive R (α : Type) where
  | ok (a : α)
  | ex (c : Nat) (ds : List D)
  | bad
def R.bind {α β : Type} : R α → (α → R β) → R β
  | .ok a, f => f a
  | .ex c ds, _ => .ex c ds
  | .bad, _ => .bad
theorem R.bind_ok {α β : Type} {r : R α} {f : α → R β} {b : β} (h : r.bind f = .ok b) : ∃ a, r = .ok a ∧ f a = .ok b := by
  cases r with
  | ok a => exact ⟨a, rfl, h⟩
  | ex c ds => cases h
  | bad => cases h
def R.of {α : Type} : Option α → R α
  | some a => .ok a
  | none => .bad
theorem R.of_ok {α : Type} {o : Option α} {a : α} (h : R.of o = .ok a) : o = some a := by
  cases o with
  | none => cases h
  | some b => cases h; rfl

/-- the world as the text has made it -/
structure W0 where
  K : PySem.W.Frag
  mg : Str → Option Value
  fnA : Nat → Addr
  clA : Nat → Addr
  nC : Nat
  flN : Nat → List Str
  cloAt : Hp → Nat → Addr → List V → List Addr → Prop
  T : List NdefX.NTab

def Le (F H : Hp) : Prop := ∀ a o, F a = some o → H a = some o
theorem Le.refl (F : Hp) : Le F F := fun _ _ h => h
theorem Le.trans {F G H : Hp} (a : Le F G) (b : Le G H) : Le F H := fun c o h => b c o (a c o h)
theorem Le.upd {H : Hp} {p : Addr} {o : HO} (h : H p = none) : Le H (upd H p o) := fun a u e => by
  rw [upd_ne (ne_of_none e h)]; exact e
theorem Le.upd2 {F H : Hp} {p : Addr} {o : HO} (h : Le F H) : Le (L2.upd F p o) (L2.upd H p o) := fun a u e => by
  unfold L2.upd at e ⊢
  split at e
  · rename_i q
    rw [if_pos q]; exact e
  · rename_i q
    rw [if_neg q]; exact h _ _ e
theorem Le.none {F H : Hp} (h : Le F H) {p : Addr} (e : H p = Option.none) : F p = Option.none := by
  cases q : F p with
  | none => rfl
  | some o => rw [h _ _ q] at e; cases e
theorem Le.seqT {K : PySem.W.Frag} {F H : Hp} (h : Le F H) {a : Addr} {vs : List V} (q : SqT K F a vs) : SqT K H a vs := by
  rcases q with (q | ⟨o, q⟩) | q
  · exact .inl (.inl (h _ _ q))
  · exact .inl (.inr ⟨o, h _ _ q⟩)
  · exact .inr q
theorem Le.seqL {K : PySem.W.Frag} {F H : Hp} (h : Le F H) {a : Addr} {vs : List V} (q : SqL K F a vs) : SqL K H a vs := by
  rcases q with (q | ⟨o, q⟩) | q
  · exact .inl (.inl (h _ _ q))
  · exact .inl (.inr ⟨o, h _ _ q⟩)
  · exact .inr q

/-- a tuple of which it is known that no dict hangs on it -/
def SldT (K : PySem.W.Frag) (H : Hp) (a : Addr) (xs : List V) : Prop :=
  (∃ o : Obj, H a = some (.frz o (.tup xs)) ∧ o.cls = .type "tuple" ∧ o.dict = Option.none) ∨
    ∃ (o : Obj) (its : Array Value) (n : Nat), K.lookup a = some o ∧ o.cls = .type "tuple" ∧ o.dict = Option.none ∧ o.data = .seq its n ∧ its.size ≤ sizeLine ∧ Vals xs its.toList
theorem SldT.sq {K : PySem.W.Frag} {H : Hp} {a : Addr} {xs : List V} (h : SldT K H a xs) : SqT K H a xs := by
  rcases h with ⟨o, h, _⟩ | ⟨o, its, n, h1, h2, _, h3, h4, h5⟩
  · exact .inl (.inr ⟨o, h⟩)
  · exact .inr ⟨o, its, n, h1, h2, h3, h4, h5⟩
theorem Le.sld {K : PySem.W.Frag} {F H : Hp} (h : Le F H) {a : Addr} {vs : List V} (q : SldT K F a vs) : SldT K H a vs := by
  rcases q with ⟨o, q, r⟩ | q
  · exact .inl ⟨o, h _ _ q, r⟩
  · exact .inr q
/-- a tuple's object -/
def TupO (o : Obj) : Prop := o.cls = .type "tuple" ∧ o.dict = Option.none
theorem SldT.of {K : PySem.W.Frag} {H : Hp} {a : Addr} {xs : List V} {o : Obj} (h : H a = some (.frz o (.tup xs))) (t : TupO o) : SldT K H a xs := .inl ⟨o, h, t⟩
/-- a tuple is laid -/
theorem tup_laid {X : Cx} {pins : List (Addr × Obj)} {σ : L2.St} {H : Hp} {s : Shared} {xs : List V} {its : List Value} {t' : Nat} (I : Inv X pins σ H s) (r : Vals xs its) (hz : xs.length ≤ sizeLine) :
    Inv X pins σ (upd H s.heap.objs.size (.frz { cls := .type "tuple", data := .seq its.toArray } (.tup xs))) { s with heap := s.heap.push { cls := .type "tuple", data := .seq its.toArray }, toks := t' } :=
  I.laid (fun b u e => Heap.get?_push_of_some _ e) (Nat.le_refl _) ⟨Heap.get?_push_size _ rfl, hz, its, r, _, Heap.get?_push_size _ rfl, rfl, _, rfl⟩

/-- the closures' places are kept as the heap grows -/
def W0.Mono (W : W0) : Prop := ∀ F H l a vs cs, Le F H → W.cloAt F l a vs cs → W.cloAt H l a vs cs

mutual
/-- v stands for d, by the part F of the heap that does not change -/
def Rep (W : W0) (F : Hp) : D → V → Prop
  | .non, v => v = .non
  | .bl b, v => v = .bl b
  | .int i, v => v = .int i
  | .str x, v => v = .str x
  | .tup ds, v => ∃ a vs, v = .ref a ∧ SldT W.K F a vs ∧ Reps W F ds vs
  | .lst ds, v => ∃ a vs, v = .ref a ∧ SqL W.K F a vs ∧ Reps W F ds vs
  | .obj c ds, v => ∃ a dx vs, v = .ref a ∧ F a = some (.ins (W.clA c) dx ((W.flN c).zip vs)) ∧ vs.length = (W.flN c).length ∧ c < W.nC ∧ Reps W F ds vs
  | .clo l ds, v => ∃ a vs cs F0, v = .ref a ∧ W.cloAt F l a vs cs ∧ Le F0 F ∧ (∀ c ∈ cs, F0 c = Option.none) ∧ Reps W F0 ds vs
  | .fn f, v => v = .ref (W.fnA f)
def Reps (W : W0) (F : Hp) : List D → List V → Prop
  | [], vs => vs = []
  | d :: ds, vs => ∃ v r, vs = v :: r ∧ Rep W F d v ∧ Reps W F ds r
end

section
variable {W : W0}
mutual
theorem Rep.mono {F H : Hp} (m : W.Mono) (h : Le F H) : ∀ {d : D} {v : V}, Rep W F d v → Rep W H d v
  | .non, _, r => by unfold Rep at r ⊢; exact r
  | .bl _, _, r => by unfold Rep at r ⊢; exact r
  | .int _, _, r => by unfold Rep at r ⊢; exact r
  | .str _, _, r => by unfold Rep at r ⊢; exact r
  | .tup ds, _, r => by
    unfold Rep at r ⊢
    obtain ⟨a, vs, e, s, q⟩ := r
    exact ⟨a, vs, e, h.sld s, Reps.mono m h q⟩
  | .lst ds, _, r => by
    unfold Rep at r ⊢
    obtain ⟨a, vs, e, s, q⟩ := r
    exact ⟨a, vs, e, h.seqL s, Reps.mono m h q⟩
  | .obj c ds, _, r => by
    unfold Rep at r ⊢
    obtain ⟨a, dx, vs, e, s, l, z, q⟩ := r
    exact ⟨a, dx, vs, e, h _ _ s, l, z, Reps.mono m h q⟩
  | .clo l ds, _, r => by
    unfold Rep at r ⊢
    obtain ⟨a, vs, cs, F0, e, s, l0, n, q⟩ := r
    exact ⟨a, vs, cs, F0, e, m _ _ _ _ _ _ h s, l0.trans h, n, q⟩
  | .fn _, _, r => by unfold Rep at r ⊢; exact r
theorem Reps.mono {F H : Hp} (m : W.Mono) (h : Le F H) : ∀ {ds : List D} {vs : List V}, Reps W F ds vs → Reps W H ds vs
  | [], _, r => by unfold Reps at r ⊢; exact r
  | d :: ds, _, r => by
    unfold Reps at r ⊢
    obtain ⟨v, q, e, r1, r2⟩ := r
    exact ⟨v, q, e, Rep.mono m h r1, Reps.mono m h r2⟩
end
variable {F H : Hp}
theorem Reps.nil : Reps W F [] [] := by unfold Reps; rfl
theorem Reps.cons {d : D} {ds : List D} {v : V} {vs : List V} (h1 : Rep W F d v) (h2 : Reps W F ds vs) : Reps W F (d :: ds) (v :: vs) := by
  unfold Reps; exact ⟨v, vs, rfl, h1, h2⟩
theorem Reps.nil_inv {vs : List V} (h : Reps W F [] vs) : vs = [] := by unfold Reps at h; exact h
theorem Reps.cons_inv {d : D} {ds : List D} {vs : List V} (h : Reps W F (d :: ds) vs) : ∃ v r, vs = v :: r ∧ Rep W F d v ∧ Reps W F ds r := by
  unfold Reps at h; exact h
theorem Reps.length : ∀ {ds : List D} {vs : List V}, Reps W F ds vs → vs.length = ds.length
  | [], _, h => by rw [h.nil_inv] <;> rfl
  | d :: ds, _, h => by
    obtain ⟨v, r, rfl, _, h2⟩ := h.cons_inv
    simp [Reps.length h2]
theorem Reps.get : ∀ {ds : List D} {vs : List V} {i : Nat} {d : D}, Reps W F ds vs → ds[i]? = some d → ∃ v, vs[i]? = some v ∧ Rep W F d v
  | [], _, i, d, _, e => by simp at e
  | d0 :: ds, _, 0, d, h, e => by
    obtain ⟨v, r, rfl, h1, _⟩ := h.cons_inv
    simp at e; subst e
    exact ⟨v, rfl, h1⟩
  | d0 :: ds, _, i + 1, d, h, e => by
    obtain ⟨v, r, rfl, _, h2⟩ := h.cons_inv
    obtain ⟨w, a, b⟩ := Reps.get (i := i) (d := d) h2 (by simpa using e)
    exact ⟨w, by simpa using a, b⟩
theorem Reps.get' : ∀ {ds : List D} {vs : List V} {i : Nat} {v : V}, Reps W F ds vs → vs[i]? = some v → ∃ d, ds[i]? = some d ∧ Rep W F d v
  | [], _, i, v, h, e => by rw [h.nil_inv] at e; simp at e
  | d0 :: ds, _, 0, v, h, e => by
    obtain ⟨w, r, rfl, h1, _⟩ := h.cons_inv
    simp at e; subst e
    exact ⟨d0, rfl, h1⟩
  | d0 :: ds, _, i + 1, v, h, e => by
    obtain ⟨w, r, rfl, _, h2⟩ := h.cons_inv
    obtain ⟨d, a, b⟩ := Reps.get' (i := i) (v := v) h2 (by simpa using e)
    exact ⟨d, by simpa using a, b⟩
theorem Reps.append : ∀ {ds es : List D} {vs us : List V}, Reps W F ds vs → Reps W F es us → Reps W F (ds ++ es) (vs ++ us)
  | [], _, _, _, h, q => by rw [h.nil_inv]; exact q
  | d :: ds, _, _, _, h, q => by
    obtain ⟨v, r, rfl, h1, h2⟩ := h.cons_inv
    exact .cons h1 (Reps.append h2 q)
theorem Reps.take : ∀ {ds : List D} {vs : List V} (n : Nat), Reps W F ds vs → Reps W F (ds.take n) (vs.take n)
  | _, _, 0, _ => by simp; exact .nil
  | [], _, n + 1, h => by rw [h.nil_inv]; simp; exact .nil
  | d :: ds, _, n + 1, h => by
    obtain ⟨v, r, rfl, h1, h2⟩ := h.cons_inv
    simp; exact .cons h1 (Reps.take n h2)
theorem Reps.drop : ∀ {ds : List D} {vs : List V} (n : Nat), Reps W F ds vs → Reps W F (ds.drop n) (vs.drop n)
  | _, _, 0, h => by simpa using h
  | [], _, n + 1, h => by rw [h.nil_inv]; simp; exact .nil
  | d :: ds, _, n + 1, h => by
    obtain ⟨v, r, rfl, h1, h2⟩ := h.cons_inv
    simp; exact Reps.drop n h2
theorem Reps.set : ∀ {ds : List D} {vs : List V} (n : Nat) {d : D} {v : V}, Rep W F d v → Reps W F ds vs → Reps W F (ds.set n d) (vs.set n v)
  | [], _, n, _, _, _, h => by rw [h.nil_inv]; simp; exact .nil
  | d :: ds, _, 0, _, _, q, h => by
    obtain ⟨v, r, rfl, h1, h2⟩ := h.cons_inv
    simp; exact .cons q h2
  | d :: ds, _, n + 1, _, _, q, h => by
    obtain ⟨v, r, rfl, h1, h2⟩ := h.cons_inv
    simp; exact .cons h1 (Reps.set n q h2)
theorem Reps.of_get {ds : List D} {vs : List V} (hl : vs.length = ds.length) (h : ∀ (i : Nat) (d : D) (v : V), ds[i]? = some d → vs[i]? = some v → Rep W F d v) : Reps W F ds vs := by
  induction ds generalizing vs with
  | nil =>
    have e : vs = [] := by simpa using hl
    subst e; exact .nil
  | cons d ds ih =>
    cases vs with
    | nil => simp at hl
    | cons v vs =>
      refine .cons (h 0 d v rfl rfl) (ih (by simpa using hl) fun i d v h1 h2 => h (i + 1) d v (by simpa using h1) (by simpa using h2))
theorem Rep.tup {a : Addr} {ds : List D} {vs : List V} (h : SldT W.K F a vs) (q : Reps W F ds vs) : Rep W F (.tup ds) (.ref a) := by
  unfold Rep; exact ⟨a, vs, rfl, h, q⟩
theorem Rep.lst {a : Addr} {ds : List D} {vs : List V} (h : SqL W.K F a vs) (q : Reps W F ds vs) : Rep W F (.lst ds) (.ref a) := by
  unfold Rep; exact ⟨a, vs, rfl, h, q⟩
theorem Rep.tup_sld {ds : List D} {v : V} (h : Rep W F (.tup ds) v) : ∃ a vs, v = .ref a ∧ SldT W.K F a vs ∧ Reps W F ds vs := by
  unfold Rep at h; exact h
theorem Rep.tup_inv {ds : List D} {v : V} (h : Rep W F (.tup ds) v) : ∃ a vs, v = .ref a ∧ SqT W.K F a vs ∧ Reps W F ds vs := by
  obtain ⟨a, vs, e, s, q⟩ := h.tup_sld
  exact ⟨a, vs, e, s.sq, q⟩
theorem Rep.lst_inv {ds : List D} {v : V} (h : Rep W F (.lst ds) v) : ∃ a vs, v = .ref a ∧ SqL W.K F a vs ∧ Reps W F ds vs := by
  unfold Rep at h; exact h
theorem Rep.obj_inv {c : Nat} {ds : List D} {v : V} (h : Rep W F (.obj c ds) v) : ∃ a dx vs, v = .ref a ∧ F a = some (.ins (W.clA c) dx ((W.flN c).zip vs)) ∧ vs.length = (W.flN c).length ∧ c < W.nC ∧ Reps W F ds vs := by
  unfold Rep at h; exact h
theorem Rep.clo_inv {l : Nat} {ds : List D} {v : V} (h : Rep W F (.clo l ds) v) : ∃ a vs cs F0, v = .ref a ∧ W.cloAt F l a vs cs ∧ Le F0 F ∧ (∀ c ∈ cs, F0 c = Option.none) ∧ Reps W F0 ds vs := by
  unfold Rep at h; exact h
theorem Rep.int_inv {i : Int} {v : V} (h : Rep W F (.int i) v) : v = .int i := by unfold Rep at h; exact h
theorem Rep.bl_inv {b : Bool} {v : V} (h : Rep W F (.bl b) v) : v = .bl b := by unfold Rep at h; exact h
theorem Rep.str_inv {x : Str} {v : V} (h : Rep W F (.str x) v) : v = .str x := by unfold Rep at h; exact h
theorem Rep.non_inv {v : V} (h : Rep W F .non v) : v = .non := by unfold Rep at h; exact h
theorem Rep.fn_inv {f : Nat} {v : V} (h : Rep W F (.fn f) v) : v = .ref (W.fnA f) := by unfold Rep at h; exact h
theorem Rep.int {i : Int} : Rep W F (.int i) (.int i) := by unfold Rep; rfl
theorem Rep.bl {b : Bool} : Rep W F (.bl b) (.bl b) := by unfold Rep; rfl
theorem Rep.str {x : Str} : Rep W F (.str x) (.str x) := by unfold Rep; rfl
theorem Rep.non : Rep W F .non .non := by unfold Rep; rfl
theorem Rep.fn {f : Nat} : Rep W F (.fn f) (.ref (W.fnA f)) := by unfold Rep; rfl
theorem Reps.ints {ns : List Int} : Reps W F (ns.map D.int) (ns.map V.int) := by
  induction ns with
  | nil => exact .nil
  | cons n ns ih => exact .cons .int ih
theorem Reps.strs {ns : List Str} : Reps W F (ns.map D.str) (ns.map V.str) := by
  induction ns with
  | nil => exact .nil
  | cons n ns ih => exact .cons .str ih
end

/-! ### data alone -/
mutual
/-- the plain datum that d is, where it holds no object and no function -/
def D.py : D → Option PyData
  | .non => some .none
  | .bl b => some (.bool b)
  | .int i => some (.int i)
  | .str x => some (.str x)
  | .tup ds => match D.pys ds with
    | some ps => some (.tuple ps)
    | none => none
  | .lst ds => match D.pys ds with
    | some ps => some (.list ps)
    | none => none
  | .obj _ _ => none
  | .clo _ _ => none
  | .fn _ => none
def D.pys : List D → Option (List PyData)
  | [] => some []
  | d :: ds => match D.py d with
    | some p => match D.pys ds with
      | some ps => some (p :: ps)
      | none => none
    | none => none
end
section
variable {W : W0} {X : Cx} {pins : List (Addr × Obj)} {σ : L2.St} {F H : Hp} {s : Shared}
mutual
theorem Rep.dp (h : Le F H) : ∀ {d : D} {v : V} {p : PyData}, Rep W F d v → d.py = some p → Dp W.K H v p
  | .non, _, _, r, e => by
    simp only [D.py, Option.some.injEq] at e
    subst e; rw [r.non_inv]; exact .non
  | .bl b, _, _, r, e => by
    simp only [D.py, Option.some.injEq] at e
    subst e; rw [r.bl_inv]; exact .bl b
  | .int i, _, _, r, e => by
    simp only [D.py, Option.some.injEq] at e
    subst e; rw [r.int_inv]; exact .int i
  | .str x, _, _, r, e => by
    simp only [D.py, Option.some.injEq] at e
    subst e; rw [r.str_inv]; exact .str x
  | .tup ds, _, _, r, e => by
    rw [D.py] at e
    split at e
    · rename_i ps hp
      cases e
      obtain ⟨a, vs, rfl, s, q⟩ := r.tup_inv
      exact .tup (h.seqT s) (Reps.dps h q hp)
    · cases e
  | .lst ds, _, _, r, e => by
    rw [D.py] at e
    split at e
    · rename_i ps hp
      cases e
      obtain ⟨a, vs, rfl, s, q⟩ := r.lst_inv
      exact .lst (h.seqL s) (Reps.dps h q hp)
    · cases e
  | .obj _ _, _, _, _, e => by rw [D.py] at e; cases e
  | .clo _ _, _, _, _, e => by rw [D.py] at e; cases e
  | .fn _, _, _, _, e => by rw [D.py] at e; cases e
theorem Reps.dps (h : Le F H) : ∀ {ds : List D} {vs : List V} {ps : List PyData}, Reps W F ds vs → D.pys ds = some ps → DpAll W.K H vs ps
  | [], _, _, r, e => by
    simp only [D.pys, Option.some.injEq] at e
    subst e; rw [r.nil_inv]; exact .nil
  | d :: ds, _, _, r, e => by
    rw [D.pys] at e
    split at e
    · rename_i p hp
      split at e
      · rename_i ps hps
        cases e
        obtain ⟨v, q, rfl, r1, r2⟩ := r.cons_inv
        exact .cons (Rep.dp h r1 hp) (Reps.dps h r2 hps)
      · cases e
    · cases e
end
theorem Rep.reads (I : Inv X pins σ H s) (hK : X.K = W.K) (h : Le F H) {d : D} {v : V} {u : Value} {p : PyData} (r : Rep W F d v) (e : d.py = some p) (rv : RelV v u) : ∃ as, Reads s.heap u p as :=
  Dp.reads I p v u (by rw [hK]; exact r.dp h e) rv
theorem Reps.readsAll (I : Inv X pins σ H s) (hK : X.K = W.K) (h : Le F H) {ds : List D} {vs : List V} {us : List Value} {ps : List PyData} (r : Reps W F ds vs) (e : D.pys ds = some ps) (rv : Vals vs us) : ∃ as, ReadsAll s.heap us ps as :=
  Dp.readsAll I ps vs us (by rw [hK]; exact r.dps h e) rv
end
theorem D.pys_length : ∀ {ds : List D} {ps : List PyData}, D.pys ds = some ps → ps.length = ds.length
  | [], _, e => by simp only [D.pys, Option.some.injEq] at e; subst e; rfl
  | d :: ds, _, e => by
    rw [D.pys] at e
    split at e
    · split at e
      · rename_i ps hps
        cases e
        simp [D.pys_length hps]
      · cases e
    · cases e
theorem D.pys_get : ∀ {ds : List D} {ps : List PyData} {i : Nat} {d : D}, D.pys ds = some ps → ds[i]? = some d → ∃ p, ps[i]? = some p ∧ d.py = some p
  | [], _, i, d, _, e => by simp at e
  | d0 :: ds, _, i, d, h, e => by
    rw [D.pys] at h
    split at h
    · rename_i p hp
      split at h
      · rename_i ps hps
        cases h
        cases i with
        | zero => simp at e; subst e; exact ⟨p, rfl, hp⟩
        | succ i =>
          obtain ⟨q, a, b⟩ := D.pys_get (i := i) (d := d) hps (by simpa using e)
          exact ⟨q, by simpa using a, b⟩
      · cases h
    · cases h

/-! ### new objects -/
/-- F, H have grown by new objects to F', H' -/
structure Step (F H F' H' : Hp) : Prop where
  fr : Le F F'
  kp : Le H H'
  sub : Le F' H'
  nw : ∀ a o, F' a = some o → F a = some o ∨ H a = none
theorem Step.refl {F H : Hp} (h : Le F H) : Step F H F H := ⟨.refl _, .refl _, h, fun _ _ e => .inl e⟩
theorem Step.trans {F H F1 H1 F2 H2 : Hp} (a : Step F H F1 H1) (b : Step F1 H1 F2 H2) : Step F H F2 H2 :=
  ⟨a.fr.trans b.fr, a.kp.trans b.kp, b.sub, fun c o e => (b.nw c o e).elim (fun q => a.nw c o q) fun q => .inr (a.kp.none q)⟩
theorem Step.new {F H : Hp} (h : Le F H) {p : Addr} (o : HO) (e : H p = none) : Step F H (upd F p o) (upd H p o) :=
  ⟨Le.upd (h.none e), Le.upd e, h.upd2, fun a u q => by
    by_cases z : a = p
    · subst z; exact .inr e
    · rw [upd_ne z] at q; exact .inl q⟩
/-- an object that is not taken into F -/
theorem Step.side {F H : Hp} (h : Le F H) {p : Addr} (o : HO) (e : H p = none) : Step F H F (upd H p o) :=
  ⟨.refl _, Le.upd e, h.trans (Le.upd e), fun a u q => .inl q⟩
end Pu

set_option Elab.async false
set_option linter.all false
set_option maxRecDepth 100000
set_option autoImplicit false
/-! Pu, B: the intermediate language and what it yields. -/
namespace Pu
open PySem L2

inductive Bop where | add | sub | mul | fdiv | mod | pow
  deriving DecidableEq
inductive Cop where | eq | ne | lt | le | gt | ge | isn | isnt | inn | nin
  deriving DecidableEq
inductive Bi where | len | abs | int | min | max | min2 | max2 | sum | any | all | tuple | list | sorted | divmod | gcd | lenset
  deriving DecidableEq
inductive Me where | count | index | split
  deriving DecidableEq
inductive Ty where | b (n : String) | c (c : Nat)
  deriving DecidableEq

/-- names that are stored into -/
inductive N where | nm (i : Nat) | nil | cons (a b : N) | tp (a : N)
  deriving DecidableEq
/-- expressions; the last rows: argument lists, what is walked -/
inductive E where
  | var (i : Nat) | bor (i : Nat) | mov (i : Nat) | mref (i : Nat)
  | cst (d : D)
  | bin (o : Bop) (a b : E) | neg (a : E)
  | cmp (o : Cop) (a b : E) | cmp2 (o o' : Cop) (a b c : E)
  | and (a b : E) | or (a b : E) | not (a : E)
  | ite (c a b : E)
  | tup (as : E) | lst (as : E)
  | idx (a i : E) | slc (a lo hi : E) | nop
  | call (f : Nat) (as ks : E) (pm : List Nat) (mu : List (Nat × Nat))
  | new (c : Nat) (as ks : E) (pm : List Nat)
  | callv (i : Nat) (as : E)
  | calll (f : Nat) (as : E) (l : Nat) (js : List Nat) (pm : List Nat)
  | callf (f : Nat) (as : E)
  | bi (b : Bi) (as : E)
  | me (m : Me) (a : E) (as : E)
  | isi (a : E) (t : Ty)
  | get (a : E) (c k : Nat)
  | lc (own : List Nat) (t : N) (it c elt : E)
  | lam (l : Nat) (caps : List Nat)
  | anil | acons (a as : E) | astar (a as : E)
  | own (a : E)
  | rng (a b : E) | enm (a : E) | zip (a b : E)

inductive T where
  | nm (i : Nat) | nil | cons (a b : T) | tp (a : T) | sub (i : Nat) (e : E)

inductive S where
  | skip | seq (a b : S)
  | asg (t : T) (e : E)
  | par (t : T) (es : E)
  | iff (c : E) (a b : S)
  | for (t : N) (it : E) (b : S)
  | whl (c : E) (b : S)
  | ret (e : E)
  | app (i : Nat) (e : E)
  | ext (i : Nat) (e : E)
  | drop (e : E)
  | setf (c j : Nat) (e : E)
  | sup
  | raise (c : Nat) (es : E)
  | never

abbrev Env' := List (Option D)
inductive Fl where | nx (ρ : Env') | rt (d : D) (ρ : Env')

/-- a list's, a tuple's, a text's greatest length -/
def lim : Nat := 16777216

/-! ### by values -/
def mulOk (i j : Int) : Bool := (decide (-(2 ^ 64) < i) && decide (i < 2 ^ 64)) || (decide (-(2 ^ 64) < j) && decide (j < 2 ^ 64)) || decide (i.natAbs.log2 + j.natAbs.log2 < 1000000)
def binD : Bop → D → D → R D
  | .add, .int i, .int j => .ok (.int (i + j))
  | .add, .str x, .str y => if x.length + y.length ≤ lim then .ok (.str (x ++ y)) else .bad
  | .add, .tup ds, .tup es => if ds.length + es.length ≤ lim then .ok (.tup (ds ++ es)) else .bad
  | .add, .lst ds, .lst es => if ds.length + es.length ≤ lim then .ok (.lst (ds ++ es)) else .bad
  | .sub, .int i, .int j => .ok (.int (i - j))
  | .mul, .int i, .int j => if mulOk i j then .ok (.int (i * j)) else .bad
  | .fdiv, .int i, .int j => if 0 < j ∧ j.natAbs.log2 < 9000 then .ok (.int (i / j)) else .bad
  | .mod, .int i, .int j => if 0 < j then .ok (.int (i % j)) else .bad
  | .pow, .int i, .int j => if 0 ≤ j ∧ j ≤ 1000000 ∧ i.natAbs < 2 ^ 64 then .ok (.int (i ^ j.toNat)) else .bad
  | _, _, _ => .bad

/-- == of data -/
def eqD (a b : D) : R Bool := match a, b with
  | .int i, .int j => .ok (decide (i = j))
  | .str x, .str y => .ok (decide (x = y))
  | .bl x, .bl y => .ok (decide (x = y))
  | .non, .non => .ok true
  | a, b => match a.py, b.py with
    | some p, some q => if min p.depth q.depth ≤ 60 then .ok (PyData.eqv p q) else .bad
    | _, _ => .bad
def ltD (a b : D) : R Bool := match a, b with
  | .int i, .int j => .ok (decide (i < j))
  | .str x, .str y => .ok (decide (x.cps.toList < y.cps.toList))
  | .tup ds, .tup es => match D.pys ds, D.pys es with
    | some p, some q => if PySem.W.alikeAll p q && decide (min (PyData.depthAll p) (PyData.depthAll q) ≤ 60) then .ok (PySem.W.dataLt (.tuple p) (.tuple q)) else .bad
    | _, _ => .bad
  | _, _ => .bad
def inSeq (a : D) (ds : List D) : R Bool := match a.py, D.pys ds with
  | some p, some ps => if min (PyData.depthAll ps) p.depth ≤ 60 then .ok (ps.any fun z => PyData.eqv z p) else .bad
  | _, _ => .bad
def inD (a b : D) : R Bool := match b with
  | .str y => match a with
    | .str ⟨⟨[c]⟩⟩ => .ok (decide (c ∈ y.cps.toList))
    | _ => .bad
  | .lst ds => inSeq a ds
  | .tup ds => inSeq a ds
  | _ => .bad
def R.neg : R Bool → R Bool
  | .ok b => .ok (!b)
  | .ex c ds => .ex c ds
  | .bad => .bad
def isNone : D → Bool
  | .non => true
  | _ => false
/-- a comparison, but == and != of objects -/
def cmpD : Cop → D → D → R Bool
  | .eq, a, b => eqD a b
  | .ne, a, b => (eqD a b).neg
  | .lt, a, b => ltD a b
  | .gt, .int i, .int j => .ok (decide (j < i))
  | .le, .int i, .int j => .ok (decide (i ≤ j))
  | .ge, .int i, .int j => .ok (decide (j ≤ i))
  | .le, .str x, .str y => .ok (!decide (y.cps.toList < x.cps.toList))
  | .gt, .str x, .str y => .ok (decide (y.cps.toList < x.cps.toList))
  | .ge, .str x, .str y => .ok (!decide (x.cps.toList < y.cps.toList))
  | .isn, a, .non => .ok (isNone a)
  | .isnt, a, .non => .ok (!isNone a)
  | .inn, a, b => inD a b
  | .nin, a, b => (inD a b).neg
  | _, _, _ => .bad

def idxD (a i : D) : R D := match a, i with
  | .lst ds, .int i => R.of (atI ds i)
  | .tup ds, .int i => R.of (atI ds i)
  | .str x, .int i => if x.length ≤ lim then R.of ((atI x.cps.toList i).map fun c => .str ⟨#[c]⟩) else .bad
  | _, _ => .bad
def cutD {α : Type} (xs : List α) (lo hi : Option Int) : List α := (xs.drop (HT.sIx xs.length 0 lo)).take (HT.sIx xs.length xs.length hi - HT.sIx xs.length 0 lo)
def slcD (a : D) (lo hi : Option Int) : R D := match a with
  | .lst ds => .ok (.lst (cutD ds lo hi))
  | .tup ds => .ok (.tup (cutD ds lo hi))
  | .str x => if x.length ≤ lim then .ok (.str ⟨(cutD x.cps.toList lo hi).toArray⟩) else .bad
  | _ => .bad

/-- the items of what is walked -/
def signs (x : Str) : List D := x.cps.toList.map fun c => .str ⟨#[c]⟩
def itemsD : D → R (List D)
  | .lst ds => .ok ds
  | .tup ds => .ok ds
  | .str x => if x.length ≤ lim then .ok (signs x) else .bad
  | _ => .bad
def rngD (a b : D) : R (List D) := match a, b with
  | .int lo, .int hi => if -(2 ^ 62) ≤ lo ∧ lo < 2 ^ 62 ∧ -(2 ^ 62) ≤ hi ∧ hi < 2 ^ 62 ∧ (hi - lo).toNat ≤ lim then .ok ((List.range (hi - lo).toNat).map fun (k : Nat) => .int (lo + (k : Int))) else .bad
  | _, _ => .bad
def numbered (ds : List D) : List D := ds.zipIdx.map fun p => .tup [.int (p.2 : Nat), p.1]
def enmD : D → R (List D)
  | .lst ds => .ok (numbered ds)
  | .tup ds => .ok (numbered ds)
  | _ => .bad
def seqD : D → Option (List D)
  | .lst ds => some ds
  | .tup ds => some ds
  | _ => none
def zipD (a b : D) : R (List D) := match a, b with
  | .lst ds, .lst es => .ok ((ds.zip es).map fun p => .tup [p.1, p.2])
  | .tup ds, .tup es => .ok ((ds.zip es).map fun p => .tup [p.1, p.2])
  | _, _ => .bad

def intsD : List D → Option (List Int)
  | [] => some []
  | .int i :: ds => (intsD ds).map (i :: ·)
  | _ => none
def boolsD : List D → Option (List Bool)
  | [] => some []
  | .bl b :: ds => (boolsD ds).map (b :: ·)
  | _ => none
def sortOk (ps : List PyData) : Bool :=
  (ps.all fun p => ps.all fun q => PySem.W.alike p q) && (ps.all (fun p => match p with | .tuple (_ :: _) => true | _ => false) || ps.all (fun p => match p with | .tuple _ => false | .none => false | _ => true)) && ps.all fun p => decide (p.depth ≤ 64)
def sortD (ds : List D) : R (List D) := match D.pys ds with
  | some ps => if sortOk ps then .ok (ds.mergeSort (PySem.W.dataLe false fun d => d.py.getD .none)) else .bad
  | none => .bad
def pyd (d : D) : PyData := d.py.getD .none
/-- data that may be compared by < one with another -/
def rankOk (ps : List PyData) : Bool :=
  (ps.all fun p => ps.all fun q => PySem.W.alike p q) && (ps.all fun p => match p with | .none => false | _ => true) && ps.all fun p => decide (p.depth ≤ 64)
def leastD (d : D) (ds : List D) : D := ds.foldl (fun a y => if PySem.W.dataLt (pyd y) (pyd a) then y else a) d
def mostD (d : D) (ds : List D) : D := ds.foldl (fun a y => if PySem.W.dataLt (pyd a) (pyd y) then y else a) d
def biD : Bi → List D → R D
  | .len, [.lst ds] => .ok (.int (ds.length : Nat))
  | .len, [.tup ds] => .ok (.int (ds.length : Nat))
  | .len, [.str x] => if x.length ≤ lim then .ok (.int (x.length : Nat)) else .bad
  | .abs, [.int i] => .ok (.int (if i < 0 then -i else i))
  | .int, [.int i] => .ok (.int i)
  | .int, [.bl b] => .ok (.int (if b then 1 else 0))
  | .min2, [.int i, .int j] => .ok (.int (if j < i then j else i))
  | .max2, [.int i, .int j] => .ok (.int (if j > i then j else i))
  | .min, [a] => match seqD a with
    | some (d :: ds) => match D.pys (d :: ds) with
      | some ps => if rankOk ps then .ok (leastD d ds) else .bad
      | none => .bad
    | _ => .bad
  | .max, [a] => match seqD a with
    | some (d :: ds) => match D.pys (d :: ds) with
      | some ps => if rankOk ps then .ok (mostD d ds) else .bad
      | none => .bad
    | _ => .bad
  | .sum, [a] => match (seqD a).bind intsD with
    | some is => .ok (.int is.sum)
    | _ => .bad
  | .any, [a] => match (seqD a).bind boolsD with
    | some bs => .ok (.bl (bs.any id))
    | _ => .bad
  | .all, [a] => match (seqD a).bind boolsD with
    | some bs => .ok (.bl (bs.all id))
    | _ => .bad
  | .tuple, [.lst ds] => .ok (.tup ds)
  | .tuple, [.tup ds] => .ok (.tup ds)
  | .list, [.lst ds] => .ok (.lst ds)
  | .list, [.tup ds] => .ok (.lst ds)
  | .sorted, [.lst ds] => (sortD ds).bind fun es => .ok (.lst es)
  | .divmod, [.int i, .int j] => if 0 < j ∧ j.natAbs < 1073741824 then .ok (.tup [.int (i / j), .int (i % j)]) else .bad
  | .gcd, [.int i, .int j] => .ok (.int ((Nat.gcd i.natAbs j.natAbs : Nat) : Int))
  | .lenset, [.lst ds] => match intsD ds with
    | some is => if is.length ≤ 4000 then .ok (.int ((PyProof.Rows.firstMet (fun i => is.getD i 0) is.length).length : Nat)) else .bad
    | none => .bad
  | _, _ => .bad
/-- the place of a text in a text -/
def txtIndex : D → D → R D
  | .str a, .str b => match Builtin.Str.occurrences a b 0 a.length 1 with
    | i :: _ => .ok (.int (i : Nat))
    | [] => .bad
  | _, _ => .bad
def meD : Me → D → List D → R D
  | .count, a, [x] => match seqD a with
    | some ds => match x.py, D.pys ds with
      | some p, some ps => if min (PyData.depthAll ps) p.depth ≤ 60 then .ok (.int (ps.countP fun z => PyData.eqv z p : Nat)) else .bad
      | _, _ => .bad
    | none => .bad
  | .index, a, [x] => match seqD a with
    | some ds => match x.py, D.pys ds with
      | some p, some ps => if min (PyData.depthAll ps) p.depth ≤ 60 then (match ps.findIdx? fun z => PyData.eqv z p with
        | some j => .ok (.int (j : Nat))
        | none => .bad) else .bad
      | _, _ => .bad
    | none => txtIndex a x
  | .split, .str a, [.str b] => if b.length = 0 ∨ lim < a.length + 2 then .bad else .ok (.lst ((Txt.split a b).map D.str))
  | _, _, _ => .bad

def isiD (d : D) (t : Ty) : R Bool := match t with
  | .b n => match d with
    | .non => .ok (n == "NoneType")
    | .bl _ => .ok (n == "bool" || n == "int")
    | .int _ => .ok (n == "int")
    | .str _ => .ok (n == "str")
    | .tup _ => .ok (n == "tuple")
    | .lst _ => .ok (n == "list")
    | .obj _ _ => .ok false
    | _ => .bad
  | .c c => match d with
    | .obj c' _ => .ok (decide (c' = c))
    | .clo _ _ => .bad
    | .fn _ => .bad
    | _ => .ok false

mutual
/-- no closure within -/
def D.noClo : D → Bool
  | .clo _ _ => false
  | .tup ds => D.noClos ds
  | .lst ds => D.noClos ds
  | .obj _ ds => D.noClos ds
  | .non => true
  | .bl _ => true
  | .int _ => true
  | .str _ => true
  | .fn _ => true
def D.noClos : List D → Bool
  | [] => true
  | d :: ds => D.noClo d && D.noClos ds
end
/-! ### the evaluator -/
inductive At where | fld (j : Nat) | prop (f : Nat)
/-- what calls yield -/
structure Calls where
  call : Nat → List D → R (D × List D)
  new : Nat → List D → R D
  lam : Nat → List D → List D → R D
  at_ : Nat → Nat → Option At

def permute (pm : List Nat) (ds : List D) : Option (List D) := pm.mapM fun j => ds[j]?
/-- the mutable slots' contents put at their places among the arguments -/
def fill : List (Nat × Nat) → Env' → List D → Option (List D)
  | [], _, ds => some ds
  | (j, i) :: r, ρ, ds => match ρ[i]? with
    | some (some d) => fill r ρ (ds.set j d)
    | _ => none
def put : List (Nat × Nat) → List D → Env' → Option Env'
  | [], [], ρ => some ρ
  | (_, i) :: r, d :: ds, ρ => put r ds (ρ.set i (some d))
  | _, _, _ => none
def wipeE : List Nat → Env' → Env'
  | [], ρ => ρ
  | v :: vs, ρ => (wipeE vs ρ).set v none
/-- the slots vs as they were in ρ -/
def backE (ρ : Env') : List Nat → Env' → Env'
  | [], ρ' => ρ'
  | v :: vs, ρ' => (backE ρ vs ρ').set v (ρ.getD v none)
def getAll (ρ : Env') : List Nat → Option (List D)
  | [] => some []
  | i :: is => match ρ[i]? with
    | some (some d) => (getAll ρ is).map (d :: ·)
    | _ => none
mutual
/-- an item stored into names -/
def bindN : N → D → Env' → R Env'
  | .nm i, d, ρ => .ok (ρ.set i (some d))
  | .tp a, .tup ds, ρ => bindNs a ds ρ
  | _, _, _ => .bad
def bindNs : N → List D → Env' → R Env'
  | .nil, [], ρ => .ok ρ
  | .cons a b, d :: ds, ρ => (bindN a d ρ).bind fun ρ1 => bindNs b ds ρ1
  | _, _, _ => .bad
end

def lcLoop (own : List Nat) (turn : D → Env' → R (Option D × Env')) : List D → Env' → R (List D × Env')
  | [], ρ => .ok ([], ρ)
  | d :: ds, ρ => (turn d (wipeE own ρ)).bind fun p => (lcLoop own turn ds (wipeE own p.2)).bind fun q => .ok (match p.1 with
    | some e => e :: q.1
    | none => q.1, q.2)

section
variable (C : Calls)
mutual
def ev : E → Env' → R (D × Env')
  | .var i, ρ => match ρ[i]? with
    | some (some d) => .ok (d, ρ)
    | _ => .bad
  | .bor i, ρ => match ρ[i]? with
    | some (some (.lst ds)) => .ok (.lst ds, ρ)
    | _ => .bad
  | .mov i, ρ => match ρ[i]? with
    | some (some (.lst ds)) => .ok (.lst ds, ρ.set i none)
    | _ => .bad
  | .cst d, ρ => .ok (d, ρ)
  | .bin o a b, ρ => (ev a ρ).bind fun p => (ev b p.2).bind fun q => (binD o p.1 q.1).bind fun d => .ok (d, q.2)
  | .neg a, ρ => (ev a ρ).bind fun p => match p.1 with
    | .int i => .ok (.int (-i), p.2)
    | _ => .bad
  | .cmp o a b, ρ => (ev a ρ).bind fun p => (ev b p.2).bind fun q => (cmpD o p.1 q.1).bind fun c => .ok (.bl c, q.2)
  | .cmp2 o o' a b c, ρ => (ev a ρ).bind fun p => (ev b p.2).bind fun q => (cmpD o p.1 q.1).bind fun k => match k with
    | true => (ev c q.2).bind fun r => (cmpD o' q.1 r.1).bind fun k' => .ok (.bl k', r.2)
    | false => .ok (.bl false, q.2)
  | .and a b, ρ => (ev a ρ).bind fun p => match p.1 with
    | .bl true => ev b p.2
    | .bl false => .ok (.bl false, p.2)
    | _ => .bad
  | .or a b, ρ => (ev a ρ).bind fun p => match p.1 with
    | .bl true => .ok (.bl true, p.2)
    | .bl false => ev b p.2
    | _ => .bad
  | .not a, ρ => (ev a ρ).bind fun p => match p.1 with
    | .bl c => .ok (.bl (!c), p.2)
    | _ => .bad
  | .ite c a b, ρ => (ev c ρ).bind fun p => match p.1 with
    | .bl true => ev a p.2
    | .bl false => ev b p.2
    | _ => .bad
  | .tup as, ρ => (evs as ρ).bind fun p => if p.1.length ≤ lim then .ok (.tup p.1, p.2) else .bad
  | .lst as, ρ => (evs as ρ).bind fun p => if p.1.length ≤ lim then .ok (.lst p.1, p.2) else .bad
  | .idx a i, ρ => (ev a ρ).bind fun p => (ev i p.2).bind fun q => (idxD p.1 q.1).bind fun d => .ok (d, q.2)
  | .slc a lo hi, ρ => (ev a ρ).bind fun p => (evp lo p.2).bind fun q => (evp hi q.2).bind fun r => (slcD p.1 q.1 r.1).bind fun d => .ok (d, r.2)
  | .call f as ks pm mu, ρ => (evs as ρ).bind fun p => (evs ks p.2).bind fun q => match permute pm (p.1 ++ q.1) with
    | some ds => match fill mu q.2 ds with
      | some ds => (C.call f ds).bind fun r => match put mu r.2 q.2 with
        | some ρ' => .ok (r.1, ρ')
        | none => .bad
      | none => .bad
    | none => .bad
  | .new c as ks pm, ρ => (evs as ρ).bind fun p => (evs ks p.2).bind fun q => match permute pm (p.1 ++ q.1) with
    | some ds => (C.new c ds).bind fun d => .ok (d, q.2)
    | none => .bad
  | .callv i as, ρ => match ρ[i]? with
    | some (some (.clo l caps)) => (evs as ρ).bind fun p => (C.lam l caps p.1).bind fun d => .ok (d, p.2)
    | some (some (.fn f)) => (evs as ρ).bind fun p => (C.call f p.1).bind fun r => if r.2.isEmpty then .ok (r.1, p.2) else .bad
    | _ => .bad
  | .calll f as l js pm, ρ => (evs as ρ).bind fun p => match getAll p.2 js with
    | some caps => match permute pm (p.1 ++ [.clo l caps]) with
      | some ds => (C.call f ds).bind fun r => if r.2.isEmpty ∧ D.noClo r.1 = true then .ok (r.1, p.2) else .bad
      | none => .bad
    | none => .bad
  | .callf f as, ρ => (evs as ρ).bind fun p => (C.call f p.1).bind fun r => .ok (r.1, p.2)
  | .bi b as, ρ => (evs as ρ).bind fun p => (biD b p.1).bind fun d => .ok (d, p.2)
  | .me m a as, ρ => (ev a ρ).bind fun p => (evs as p.2).bind fun q => (meD m p.1 q.1).bind fun d => .ok (d, q.2)
  | .isi a t, ρ => (ev a ρ).bind fun p => (isiD p.1 t).bind fun c => .ok (.bl c, p.2)
  | .get a c k, ρ => (ev a ρ).bind fun p => match p.1 with
    | .obj c' ds => if c' = c then (match C.at_ c k with
      | some (.fld j) => match ds[j]? with
        | some d => .ok (d, p.2)
        | none => .bad
      | some (.prop f) => (C.call f [.obj c ds]).bind fun r => .ok (r.1, p.2)
      | none => .bad) else .bad
    | _ => .bad
  | .lc own t it c elt, ρ => (evi it ρ).bind fun p => (lcLoop own (fun d ρ => (bindN t d ρ).bind fun ρ1 => (ev c ρ1).bind fun k => match k.1 with
      | .bl true => (ev elt k.2).bind fun e => .ok (some e.1, e.2)
      | .bl false => .ok (none, k.2)
      | _ => .bad) p.1 p.2).bind fun q => .ok (.lst q.1, backE p.2 own q.2)
  | .lam l caps, ρ => match getAll ρ caps with
    | some ds => .ok (.clo l ds, ρ)
    | none => .bad
  | .own a, ρ => ev a ρ
  | .mref _, _ => .bad
  | .nop, _ => .bad
  | .anil, _ => .bad
  | .acons _ _, _ => .bad
  | .astar _ _, _ => .bad
  | .rng _ _, _ => .bad
  | .enm _, _ => .bad
  | .zip _ _, _ => .bad
/-- a slice's part -/
def evp : E → Env' → R (Option Int × Env')
  | .nop, ρ => .ok (none, ρ)
  | a, ρ => (ev a ρ).bind fun p => match p.1 with
    | .int i => .ok (some i, p.2)
    | _ => .bad
def evs : E → Env' → R (List D × Env')
  | .anil, ρ => .ok ([], ρ)
  | .acons (.mref i) as, ρ => match ρ[i]? with
    | some (some _) => (evs as ρ).bind fun q => .ok (.non :: q.1, q.2)
    | _ => .bad
  | .acons a as, ρ => (ev a ρ).bind fun p => (evs as p.2).bind fun q => .ok (p.1 :: q.1, q.2)
  | .astar a as, ρ => (ev a ρ).bind fun p => (evs as p.2).bind fun q => match seqD p.1 with
    | some ds => .ok (ds ++ q.1, q.2)
    | none => .bad
  | _, _ => .bad
def evi : E → Env' → R (List D × Env')
  | .rng a b, ρ => (ev a ρ).bind fun p => (ev b p.2).bind fun q => (rngD p.1 q.1).bind fun ds => .ok (ds, q.2)
  | .enm a, ρ => (ev a ρ).bind fun p => (enmD p.1).bind fun ds => .ok (ds, p.2)
  | .zip a b, ρ => (ev a ρ).bind fun p => (ev b p.2).bind fun q => (zipD p.1 q.1).bind fun ds => .ok (ds, q.2)
  | a, ρ => (ev a ρ).bind fun p => (itemsD p.1).bind fun ds => .ok (ds, p.2)
end

/-! ### statements -/
mutual
def asgT : T → D → Env' → R Env'
  | .nm i, d, ρ => .ok (ρ.set i (some d))
  | .tp a, .tup ds, ρ => asgTs a ds ρ
  | .tp a, .lst ds, ρ => asgTs a ds ρ
  | .sub i e, d, ρ => match ρ[i]? with
    | some (some _) => (ev C e ρ).bind fun p => match p.1, p.2[i]? with
      | .int k, some (some (.lst ds)) => match ixN ds.length k with
        | some j => .ok (p.2.set i (some (.lst (ds.set j d))))
        | none => .bad
      | _, _ => .bad
    | _ => .bad
  | _, _, _ => .bad
def asgTs : T → List D → Env' → R Env'
  | .nil, [], ρ => .ok ρ
  | .cons a b, d :: ds, ρ => (asgT a d ρ).bind fun ρ1 => asgTs b ds ρ1
  | _, _, _ => .bad
end
def forLoop (t : N) (body : Env' → R Fl) : List D → Env' → R Fl
  | [], ρ => .ok (.nx ρ)
  | d :: ds, ρ => (bindN t d ρ).bind fun ρ1 => (body ρ1).bind fun f => match f with
    | .nx ρ2 => forLoop t body ds ρ2
    | .rt d ρ2 => .ok (.rt d ρ2)
/-- a test's answer -/
def tru : D → R Bool
  | .bl b => .ok b
  | .lst ds => .ok (!ds.isEmpty)
  | _ => .bad
def whlLoop (test : Env' → R (D × Env')) (body : Env' → R Fl) : Nat → Env' → R Fl
  | 0, _ => .bad
  | n + 1, ρ => (test ρ).bind fun p => (tru p.1).bind fun b => match b with
    | true => (body p.2).bind fun f => match f with
      | .nx ρ2 => whlLoop test body n ρ2
      | .rt d ρ2 => .ok (.rt d ρ2)
    | false => .ok (.nx p.2)
/-- the most turns of a while -/
def turns : Nat := 1000000
def run : S → Env' → R Fl
  | .skip, ρ => .ok (.nx ρ)
  | .seq a b, ρ => (run a ρ).bind fun f => match f with
    | .nx ρ1 => run b ρ1
    | .rt d ρ1 => .ok (.rt d ρ1)
  | .asg t e, ρ => (ev C e ρ).bind fun p => (asgT C t p.1 p.2).bind fun ρ1 => .ok (.nx ρ1)
  | .par t es, ρ => (evs C es ρ).bind fun p => (asgTs C t p.1 p.2).bind fun ρ1 => .ok (.nx ρ1)
  | .iff c a b, ρ => (ev C c ρ).bind fun p => (tru p.1).bind fun k => match k with
    | true => run a p.2
    | false => run b p.2
  | .for t it b, ρ => (evi C it ρ).bind fun p => forLoop t (run b) p.1 p.2
  | .whl c b, ρ => whlLoop (ev C c) (run b) turns ρ
  | .ret e, ρ => (ev C e ρ).bind fun p => .ok (.rt p.1 p.2)
  | .app i e, ρ => match ρ[i]? with
    | some (some (.lst _)) => (ev C e ρ).bind fun p => match p.2[i]? with
      | some (some (.lst ds)) => if ds.length < lim then .ok (.nx (p.2.set i (some (.lst (ds ++ [p.1]))))) else .bad
      | _ => .bad
    | _ => .bad
  | .ext i e, ρ => match ρ[i]? with
    | some (some (.lst _)) => (ev C e ρ).bind fun p => match p.1, p.2[i]? with
      | .lst es, some (some (.lst ds)) => if ds.length + es.length ≤ lim then .ok (.nx (p.2.set i (some (.lst (ds ++ es))))) else .bad
      | _, _ => .bad
    | _ => .bad
  | .drop e, ρ => (ev C e ρ).bind fun p => .ok (.nx p.2)
  | .setf c j e, ρ => (ev C e ρ).bind fun p => match p.2[0]? with
    | some (some (D.obj c' ds)) => if c' = c ∧ j = ds.length then .ok (.nx (p.2.set 0 (some (.obj c (ds ++ [p.1]))))) else .bad
    | _ => .bad
  | .sup, ρ => .ok (.nx ρ)
  | .raise c es, ρ => (evs C es ρ).bind fun p => .ex c p.1
  | .never, _ => .bad
end

/-! ### the program -/
structure FnD where
  np : Nat
  sz : Nat
  ms : List Nat
  mp : List Nat
  own : Bool
  ini : Bool
  body : S
structure LamD where
  np : Nat
  nc : Nat
  sz : Nat
  body : E
structure ClD where
  ini : Nat
  flds : Nat
  attrs : List (Nat × At)
structure Prog where
  fns : List FnD
  lams : List LamD
  cls : List ClD
def Prog.at_ (P : Prog) (c k : Nat) : Option At := match P.cls[c]? with
  | some c => c.attrs.lookup k
  | none => none
/-- the parameters, then nothing -/
def entry (sz : Nat) (ds : List D) : Env' := ds.map some ++ List.replicate (sz - ds.length) none
def endOf (ow : Bool) (mp : List Nat) : Fl → R (D × List D)
  | .nx ρ => match getAll ρ mp with
    | some os => if ow then .bad else .ok (.non, os)
    | none => .bad
  | .rt d ρ => match getAll ρ mp with
    | some os => .ok (d, os)
    | none => .bad
/-- calls at most k deep -/
def calls (P : Prog) : Nat → Calls
  | 0 => ⟨fun _ _ => .bad, fun _ _ => .bad, fun _ _ _ => .bad, P.at_⟩
  | k + 1 =>
    { call := fun f ds => match P.fns[f]? with
        | some F => if ds.length = F.np ∧ F.ini = false then (run (calls P k) F.body (entry F.sz ds)).bind fun fl => endOf F.own F.mp fl else .bad
        | none => .bad
      new := fun c ds => match P.cls[c]? with
        | some c' => match P.fns[c'.ini]? with
          | some F => if ds.length + 1 = F.np ∧ F.ini = true then (run (calls P k) F.body (entry F.sz (.obj c [] :: ds))).bind fun fl => match fl with
              | .nx ρ => match ρ[0]? with
                | some (some (D.obj c2 es)) => if c2 = c ∧ es.length = c'.flds then .ok (.obj c es) else .bad
                | _ => .bad
              | .rt _ _ => .bad
            else .bad
          | none => .bad
        | none => .bad
      lam := fun l cs ds => match P.lams[l]? with
        | some L => if ds.length = L.np ∧ cs.length = L.nc ∧ D.noClos ds = true then (ev (calls P k) L.body (entry L.sz (ds ++ cs))).bind fun p => .ok p.1 else .bad
        | none => .bad
      at_ := P.at_ }
end Pu

set_option Elab.async false
set_option linter.all false
set_option maxRecDepth 100000
set_option maxHeartbeats 2000000
set_option autoImplicit false
/-! Pu, B0: what the head looks at; all definitions that it needs stand here, so that its run may stand early in a text. -/
namespace Pu
open PySem PySem.Spec PyProof.Rows L2
open LamX (CodeO)
abbrev Sig := Nat × Nat × List Str × List Nat

def tyNames : List String := ["NoneType", "bool", "int", "str", "tuple", "list"]

/-- a lambda of the text -/
structure LamI where
  q : Str
  params : Arguments
  body : Expr
  scope : Scope
  ps : List Str
  fr : List Str


/-! ### equality that computes -/
def lEq : List Nat → List Nat → Bool
  | [], [] => true
  | a :: as, b :: bs => Nat.beq a b && lEq as bs
  | _, _ => false
theorem lEq_ok : ∀ {a b : List Nat}, lEq a b = true → a = b
  | [], [], _ => rfl
  | a :: as, b :: bs, h => by
    obtain ⟨h1, h2⟩ := Bool.and_eq_true_iff.mp h
    rw [Nat.eq_of_beq_eq_true h1, lEq_ok h2]
  | [], _ :: _, h => by cases h
  | _ :: _, [], h => by cases h
theorem lEq_refl : ∀ a : List Nat, lEq a a = true
  | [] => rfl
  | a :: as => by
    show (Nat.beq a a && lEq as as) = true
    rw [lEq_refl as, Nat.beq_refl]
    rfl
def sEq (a b : Str) : Bool := lEq a.cps.toList b.cps.toList
theorem sEq_ok {a b : Str} (h : sEq a b = true) : a = b := by
  have := lEq_ok h
  cases a with
  | mk a =>
    cases b with
    | mk b =>
      congr 1
      exact Array.toList_inj.mp this
theorem sEq_ne {a b : Str} (h : sEq a b = false) : a ≠ b := fun z => by
  subst z
  unfold sEq at h
  rw [lEq_refl] at h
  cases h
def look {α : Type} : List (Str × α) → Str → Option α
  | [], _ => none
  | (n, v) :: r, x => match sEq x n with
    | true => some v
    | false => look r x
theorem look_eq {α : Type} : ∀ {l : List (Str × α)} {x : Str}, look l x = l.lookup x
  | [], _ => rfl
  | (n, v) :: r, x => by
    rw [look, List.lookup_cons]
    cases h : sEq x n with
    | true =>
      rw [sEq_ok h, beq_self_eq_true]
    | false =>
      rw [beq_eq_false_iff_ne.mpr (sEq_ne h)]
      exact look_eq
def memS (x : Str) : List Str → Bool
  | [] => false
  | y :: ys => sEq x y || memS x ys
theorem memS_ok {x : Str} : ∀ {l : List Str}, memS x l = true → x ∈ l
  | [], h => by cases h
  | y :: ys, h => by
    rcases Bool.or_eq_true_iff.mp h with h | h
    · rw [sEq_ok h]; exact List.mem_cons_self
    · exact List.mem_cons_of_mem _ (memS_ok h)
def memN (i : Nat) : List Nat → Bool
  | [] => false
  | j :: js => Nat.beq i j || memN i js
theorem memN_iff {i : Nat} : ∀ {l : List Nat}, memN i l = true ↔ i ∈ l
  | [] => ⟨fun h => (nomatch h), fun h => (nomatch h)⟩
  | j :: js => by
    unfold memN
    rw [Bool.or_eq_true, memN_iff, List.mem_cons]
    constructor
    · rintro (h | h)
      · exact .inl (Nat.eq_of_beq_eq_true h)
      · exact .inr h
    · rintro (h | h)
      · exact .inl (by rw [h]; exact Nat.beq_refl _)
      · exact .inr h
theorem memN_not {i : Nat} {l : List Nat} (h : memN i l = false) : i ∉ l := fun z => by
  rw [memN_iff.mpr z] at h
  cases h
def nthIs (l : List Str) (i : Nat) (n : Str) : Bool := match l[i]? with
  | some m => sEq m n
  | none => false
theorem nthIs_ok {l : List Str} {i : Nat} {n : Str} (h : nthIs l i n = true) : l[i]? = some n := by
  unfold nthIs at h
  split at h
  · rename_i m hm
    rw [hm, sEq_ok h]
  · cases h
mutual
def dEq : D → D → Bool
  | .non, .non => true
  | .bl a, .bl b => a == b
  | .int a, .int b => decide (a = b)
  | .str a, .str b => sEq a b
  | .tup a, .tup b => dEqs a b
  | .fn a, .fn b => Nat.beq a b
  | _, _ => false
def dEqs : List D → List D → Bool
  | [], [] => true
  | a :: as, b :: bs => dEq a b && dEqs as bs
  | _, _ => false
end
mutual
theorem dEq_ok : ∀ {a b : D}, dEq a b = true → a = b
  | .non, b, h => by cases b <;> first | rfl | (rw [dEq] at h <;> first | cases h | (intros; contradiction))
  | .bl a, b, h => by
    cases b <;> first
      | (rw [dEq] at h; rw [beq_iff_eq.mp h])
      | (rw [dEq] at h <;> first | cases h | (intros; contradiction))
  | .int a, b, h => by
    cases b <;> first
      | (rw [dEq] at h; rw [of_decide_eq_true h])
      | (rw [dEq] at h <;> first | cases h | (intros; contradiction))
  | .str a, b, h => by
    cases b <;> first
      | (rw [dEq] at h; rw [sEq_ok h])
      | (rw [dEq] at h <;> first | cases h | (intros; contradiction))
  | .tup a, b, h => by
    cases b <;> first
      | (rw [dEq] at h; rw [dEqs_ok h])
      | (rw [dEq] at h <;> first | cases h | (intros; contradiction))
  | .fn a, b, h => by
    cases b <;> first
      | (rw [dEq] at h; rw [Nat.eq_of_beq_eq_true h])
      | (rw [dEq] at h <;> first | cases h | (intros; contradiction))
  | .lst _, b, h => by rw [dEq] at h <;> first | cases h | (intros; contradiction)
  | .obj _ _, b, h => by rw [dEq] at h <;> first | cases h | (intros; contradiction)
  | .clo _ _, b, h => by rw [dEq] at h <;> first | cases h | (intros; contradiction)
theorem dEqs_ok : ∀ {a b : List D}, dEqs a b = true → a = b
  | [], [], _ => rfl
  | a :: as, b :: bs, h => by
    rw [dEqs] at h
    obtain ⟨h1, h2⟩ := Bool.and_eq_true_iff.mp h
    rw [dEq_ok h1, dEqs_ok h2]
  | [], _ :: _, h => by rw [dEqs] at h <;> first | cases h | (intros; contradiction)
  | _ :: _, [], h => by rw [dEqs] at h <;> first | cases h | (intros; contradiction)
end
def kEq : NameKind → NameKind → Bool
  | .local, .local => true
  | .cell, .cell => true
  | .free, .free => true
  | .globalImplicit, .globalImplicit => true
  | _, _ => false

inductive G where
  | fn (f : Nat) | cls (c : Nat) | cst (d : D) | gcd
structure Tab where
  gl : List (Str × G)
  bn : List Str
  sigs : List Sig
  at_ : List (Str × Nat)

/-- a def of the text: its names, its statement, its code, its slots, its parameters, the lambdas within -/
structure FnI where
  x : Str
  q : Str
  st : Stmt
  cdv : Value
  N : List Str
  ps : List Str
  lams : List Nat

/-- where a def's object stands: a global, a class's method, a property's getter -/
inductive At0 where
  | glo (x : Str) | meth (C m : Str) | get (C m : Str)
def At0.ad (K : PySem.W.Frag) : At0 → Addr
  | .glo x => He.ga K x
  | .meth C m => He.ma K (He.ga K C) m
  | .get C m => match PySem.W.recIn K (He.ma K (He.ga K C) m) "property" with
    | some (.ref g :: _) => g
    | _ => 0
def fdOf (K : PySem.W.Frag) (a : Addr) : Option FuncData := match K.lookup a with
  | some u => match u.data with
    | .func fd => some fd
    | _ => none
  | none => none
abbrev FnV := Option (FuncBody × Arguments × Scope × Str × Str × Value × List (Str × Addr) × Addr × Addr)
def fnV (K : PySem.W.Frag) (a : Addr) : FnV := (fdOf K a).map fun d => (d.body, d.params, d.scope, d.qualname, d.name, d.defaults, d.closure, d.builtins, d.globals)
def codeV (K : PySem.W.Frag) (a : Addr) : Value := match fdOf K a with
  | some d => d.code
  | none => .none
def codeA (K : PySem.W.Frag) (a : Addr) : Addr := match codeV K a with
  | .ref c => c
  | _ => 0
structure LawI where
  P : Prog
  T : Tab
  LI : Nat → LamI
  LN : Nat → List Str
  fi : Nat → FnI
  wh : Nat → At0
  cn : Nat → Str
  nC : Nat
  flN : Nat → List Str
  tl : List Nat
namespace LawI
variable (I : LawI) (K : PySem.W.Frag)
def fa (f : Nat) : Addr := (I.wh f).ad K
def fk (f : Nat) : FnI := { I.fi f with cdv := codeV K (I.fa K f) }
def qL (f : Nat) : Str := (I.fi f).q ++ ".<locals>." ++ "<lambda>"
def tb (f : Nat) : Addr × Addr := (codeA K (I.fa K f), He.tabOf K (codeA K (I.fa K f)))
def ca (c : Nat) : Addr := He.ga K (I.cn c)
def valF (f : Nat) : FnV := some (.stmts (defBody (I.fi f).st), defArgs (I.fi f).st, defScope (I.fi f).st, (I.fi f).q, (I.fi f).x, .none, [], builtinsNs, mainGlobals)
def fnB (f : Nat) : Bool := PySem.W.keepIn K (.ref (I.fa K f)) && PySem.W.codeIn K (codeV K (I.fa K f)) (I.fi f).q
end LawI

def cB (K : PySem.W.Frag) : Nat → D → Value → Bool
  | 0, _, _ => false
  | k + 1, d, u => match d with
    | .non => match u with
      | .none => true
      | _ => false
    | .bl b => match u with
      | .bool c => b == c
      | _ => false
    | .int i => match u with
      | .int j _ => decide (i = j)
      | _ => false
    | .str x => match u with
      | .str y _ => sEq x y
      | _ => false
    | .tup ds => match u with
      | .ref a => match K.lookup a with
        | some o => match o.data with
          | .seq its _ => decide (o.cls = .type "tuple") && o.dict.isNone && decide (its.size ≤ sizeLine) && all2' (cB K k) ds its.toList
          | _ => false
        | none => false
      | _ => false
    | _ => false
where all2' (f : D → Value → Bool) : List D → List Value → Bool
  | [], [] => true
  | d :: ds, u :: us => f d u && all2' f ds us
  | _, _ => false

section
variable (I : LawI) (K : PySem.W.Frag)
def nsB (n : Str) (v : Option Value) : Bool := decide (PySem.W.nsIn K mainGlobals n = some v)
def glB : Str × G → Bool
  | (n, .fn f) => nsB K n (some (.ref (I.fa K f)))
  | (n, .cls c) => nsB K n (some (.ref (I.ca K c))) && decide (c < I.nC)
  | (n, .cst d) => match PySem.W.nsIn K mainGlobals n with
    | some (some u) => cB K 8 d u
    | _ => false
  | (n, .gcd) => nsB K n (some (.builtin "math.gcd"))
def clsB (c : Nat) : Bool :=
  PySem.W.plainGet K (I.ca K c) Str.empty && PySem.W.hasDictIn K (I.ca K c) && PySem.W.plainOver K (I.ca K c) && decide (PySem.W.findIn K (.ref (I.ca K c)) "__setattr__" = some (some (.builtin "object.__setattr__"))) &&
  decide (PySem.W.findIn K (.ref (I.ca K c)) "__class__" = some (some (.builtin "object.__class__"))) && decide (PySem.W.specialIn K (.builtin "object.__class__") "__get__" = some (some (.builtin "getset_descriptor.__get__"))) &&
  decide (PySem.W.takesIn K (.builtin "object.__class__") = some true) && decide (PySem.W.mroIn K (I.ca K c) (.type "object") = some true) && ((I.flN c).all fun f => decide (PySem.W.findIn K (.ref (I.ca K c)) f = some none)) &&
  (tyNames.all fun t => decide (PySem.W.kitOne K (.ref (I.ca K c)) (.type t) = some false) && decide (PySem.W.kitOne K (.type t) (.ref (I.ca K c)) = some false)) &&
  (List.range I.nC).all fun c' => decide (PySem.W.kitOne K (.ref (I.ca K c)) (.ref (I.ca K c')) = some (decide (c = c')))
def mkB (c : Nat) : Bool :=
  PySem.W.makesIn K (I.ca K c) && decide (PySem.W.findIn K (.ref (I.ca K c)) "__init__" = some (some (.ref (He.ma K (I.ca K c) "__init__")))) && PySem.W.isFn K (.ref (He.ma K (I.ca K c) "__init__")) && PySem.W.keepIn K (.ref (I.ca K c))
def prB (c : Nat) (n : Str) : Bool :=
  decide (PySem.W.findIn K (.ref (I.ca K c)) n = some (some (.ref (He.ma K (I.ca K c) n)))) && decide (PySem.W.specialIn K (.ref (He.ma K (I.ca K c) n)) "__get__" = some (some (.builtin "property.__get__"))) &&
  decide (PySem.W.takesIn K (.ref (He.ma K (I.ca K c) n)) = some true) && match PySem.W.recIn K (He.ma K (I.ca K c) n) "property" with
    | some (.ref _ :: _) => true
    | _ => false
/-- no two tables are one -/
def tlB : List Nat → Bool
  | [] => true
  | f :: fs => fs.all (fun g => !Nat.beq (I.tb K f).2 (I.tb K g).2) && tlB fs
def chk : Bool :=
  (List.range I.P.fns.length).all (I.fnB K) && I.T.gl.all (glB I K) && I.T.bn.all (fun n => nsB K n none) && (List.range I.nC).all (clsB I K) && (List.range I.P.cls.length).all (mkB I K) &&
  (I.T.at_.all fun p => (List.range I.nC).all fun c => match I.P.at_ c p.2 with
    | some (.prop _) => prB I K c p.1
    | _ => true) && tlB I K I.tl
end

section
variable (I : LawI)
def isCode (o : Obj) : Bool := match o.cls with
  | .type s => s == "code"
  | _ => false
/-- what the objects lead to, code objects and the two great namespaces left aside -/
def stepP (g : Addr → Option Obj) (as : List Addr) : List Addr := as.flatMap fun a => match g a with
  | some o => if isCode o then [] else (He.refsD o).filter fun b => !Nat.beq b mainGlobals && !Nat.beq b builtinsNs
  | none => []
def asP (g : Addr → Option Obj) : Nat → List Addr → List Addr
  | 0, as => as
  | n + 1, as => as ++ asP g n (stepP g as)
def frOf (n : Nat) (g : Addr → Option Obj) : PySem.W.Frag := He.frT g (asP g n [mainGlobals])
def tabB (g : Addr → Option Obj) (K : PySem.W.Frag) : Bool := I.tl.all fun f => PySem.W.codeHdIn K (I.tb K f).1 (I.tb K f).2 && match g (I.tb K f).2 with
  | some o => He.emptyTab o
  | none => false
abbrev AlP := List FnV × Bool
def obsK (g : Addr → Option Obj) (K : PySem.W.Frag) : AlP := ((List.range I.P.fns.length).map fun f => fnV K (I.fa K f), chk I K && tabB I g K)
def obsP (n : Nat) (g : Addr → Option Obj) : AlP := obsK I g (frOf n g)
def valP : AlP := ((List.range I.P.fns.length).map I.valF, true)
structure SaysP (h : Heap) (K : PySem.W.Frag) : Prop where
  fn : ∀ f F, I.P.fns[f]? = some F → fnV K (I.fa K f) = I.valF f
  ch : chk I K = true
  hd : ∀ f ∈ I.tl, PySem.W.codeHdIn K (I.tb K f).1 (I.tb K f).2 = true
  out : ∀ f ∈ I.tl, K.lookup (I.tb K f).2 = none
  em : ∀ f ∈ I.tl, h.get? (I.tb K f).2 = some { cls := .none, data := .fields #[] }
end
theorem saysP_of {I : LawI} {n : Nat} {h : Heap} (e : obsP I n h.get? = valP I) : SaysP I h (frOf n h.get?) := by
  have e1 : (List.range I.P.fns.length).map (fun f => fnV (frOf n h.get?) (I.fa (frOf n h.get?) f)) = (List.range I.P.fns.length).map I.valF := congrArg (fun z : AlP => z.1) e
  have e2 : (chk I (frOf n h.get?) && tabB I h.get? (frOf n h.get?)) = true := congrArg (fun z : AlP => z.2) e
  obtain ⟨h1, h2⟩ := Bool.and_eq_true_iff.mp e2
  have key : ∀ f ∈ I.tl, PySem.W.codeHdIn (frOf n h.get?) (I.tb (frOf n h.get?) f).1 (I.tb (frOf n h.get?) f).2 = true ∧ ∃ o, h.get? (I.tb (frOf n h.get?) f).2 = some o ∧ He.emptyTab o = true := fun f hf => by
    obtain ⟨h3, h4⟩ := Bool.and_eq_true_iff.mp (List.all_eq_true.mp h2 f hf)
    refine ⟨h3, ?_⟩
    split at h4
    · rename_i o ho
      exact ⟨o, ho, h4⟩
    · cases h4
  refine ⟨fun f F hf => ?_, h1, fun f hf => (key f hf).1, fun f hf => ?_, fun f hf => ?_⟩
  · have hlt : f < I.P.fns.length := (List.getElem?_eq_some_iff.mp hf).1
    exact (List.map_inj_left.mp e1) f (List.mem_range.mpr hlt)
  · obtain ⟨_, o, q, z⟩ := key f hf
    exact He.frT_none q z
  · obtain ⟨_, o, q, z⟩ := key f hf
    rw [q, He.emptyTab_eq z]
def hookP (I : LawI) (n : Nat) : PySem.W.Hook where
  α := AlP
  obs := fun s => obsP I n s.heap.get?
  val := fun _ => valP I
  says := fun _ h => ∃ K : PySem.W.Frag, K.In h ∧ SaysP I h K
  of := fun _ _ e => ⟨_, He.frT_in, saysP_of e⟩
  keeps := fun _ _ _ ⟨K, hK, c⟩ k => ⟨K, PySem.W.Frag.In.keeps hK k, ⟨c.fn, c.ch, c.hd, c.out, fun f hf => k _ _ (c.em f hf)⟩⟩
def obP (I : LawI) (n : Nat) (s : PySem.W.SharedT) : AlP := obsP I n (HandSHeadRun.getT s)
theorem obP_eq {I : LawI} {n : Nat} (s : PySem.W.SharedT) : obP I n s = (hookP I n).obs s.abs := by
  have e : HandSHeadRun.getT s = s.abs.heap.get? := funext (HandSHeadRun.getT_eq s)
  unfold obP
  rw [e]
  rfl

def lamsE : Nat → Expr → List Expr
  | 0, _ => []
  | k + 1, e => match e with
    | .Lambda _ _ _ _ => [e]
    | .Call _ es _ _ => es.flatMap (lamsE k)
    | .IfExp a b c _ => lamsE k a ++ lamsE k b ++ lamsE k c
    | .BoolOp _ es _ => es.flatMap (lamsE k)
    | .Tuple es _ _ => es.flatMap (lamsE k)
    | .UnaryOp _ a _ => lamsE k a
    | .Compare a _ es _ => lamsE k a ++ es.flatMap (lamsE k)
    | _ => []
def lamsS : Nat → Stmt → List Expr
  | 0, _ => []
  | k + 1, s => match s with
    | .Return (some e) _ => lamsE k e
    | .Assign _ e _ => lamsE k e
    | .Expr e _ => lamsE k e
    | .If e a b _ => lamsE k e ++ a.flatMap (lamsS k) ++ b.flatMap (lamsS k)
    | .For _ e a b _ => lamsE k e ++ a.flatMap (lamsS k)
    | _ => []
/-- the i-th lambda of a def -/
def lamAt (st : Stmt) (i : Nat) (q : Str) (ps fr : List Str) : LamI := match ((defBody st).flatMap (lamsS 20))[i]? with
  | some (.Lambda a b sc _) => ⟨q, a, b, sc, ps, fr⟩
  | _ => ⟨q, ⟨[], [], none, [], [], none, []⟩, .Constant .none 0 ⟨0, 0, 0, 0⟩, ⟨.function, [], false, false, []⟩, ps, fr⟩

end Pu

set_option Elab.async false
set_option linter.all false
set_option maxRecDepth 100000
set_option maxHeartbeats 0
set_option autoImplicit false
namespace K08
open PySem PySem.Spec PyProof.Rows L2 Pu
def top (i : Nat) : Stmt := PySem.Challenge.pw_ownkinds_k08_whole_even_streets.main.body.getD i (.Pass ⟨0, 0, 0, 0⟩)
def n_law : Nat := 0
def n_law_right : Nat := 1
def n_law_names : Nat := 2
def n_law_of : Nat := 3
def n_law_draw : Nat := 4
def n_law_street : Nat := 5
def n_law_made : Nat := 6
def n_Street_init : Nat := 7
def n_wrong_in_places : Nat := 8
def n_wrong_in : Nat := 9
def n_is_name : Nat := 10
def n_is_word : Nat := 11
def n_are_below : Nat := 12
def n_wrong_in_ties : Nat := 13
def n_is_tie : Nat := 14
def n_is_pair : Nat := 15
def n_is_tuple_of : Nat := 16
def n_is_one_of : Nat := 17
def n_check_want : Nat := 18
def n_is_part : Nat := 19
def n_is_fraction : Nat := 20
def n_is_whole : Nat := 21
def n_Street_places : Nat := 22
def n_Street_ties : Nat := 23
def n_Street_want : Nat := 24
def n_Street_parts : Nat := 25
def n_law_same : Nat := 26
def n_is_even : Nat := 27
def n_check_street : Nat := 28
def n_near_by : Nat := 29
def n_law_beside : Nat := 30
def n_law_bowl : Nat := 31
def c_Street : Nat := 0
def m_wrong_in_places_0 : Nat := 0
def m_wrong_in_ties_0 : Nat := 1
def d_MOST_PLACES : D := .int 7
def d_LEAST_PLACES : D := .int 2
def d_WORDS : D := .tup [.str "all", .str "alike", .str "apart", .str "back", .str "beside", .str "book", .str "case", .str "content", .str "free", .str "home", .str "in", .str "kind", .str "like", .str "lot", .str "mixed", .str "move", .str "new", .str "none", .str "of", .str "open", .str "out", .str "part", .str "place", .str "quit", .str "rest", .str "rule", .str "seat", .str "stand", .str "step", .str "street", .str "swap", .str "take", .str "tie", .str "undo", .str "want", .str "web", .str "yes"]
def d_MOST_LETTERS : D := .int 8
def d_LETTERS : D := .str "abcdefghijklmnopqrstuvwxyz"
def f_law : Pu.FnD := ⟨1, 2, [], [], false, false,
  .ret (.bi .all (.acons (.lc [1] (.nm 1) (.rng (.cst (.int 0)) (.bi .max2 (.acons (.cst (.int 1)) (.acons (.bi .min2 (.acons (.bi .len (.acons (.var 0) (.anil))) (.acons (.cst (.int 3)) (.anil)))) (.anil))))) (.cst (.bl true)) (.callf n_law_right (.acons (.own (.call n_law_bowl (.acons (.var 0) (.acons (.var 1) (.anil))) (.anil) [0, 1] [])) (.anil)))) (.anil)))⟩
def f_law_right : Pu.FnD := ⟨1, 12, [0], [0], false, false,
  .seq (.for (.nm 1) (.rng (.cst (.int 0)) (.cst (.int 4))) (.seq (.asg (.nm 2) (.call n_law_names (.acons (.mref 0) (.acons (.bin .add (.cst (.int 3)) (.call n_law_draw (.acons (.mref 0) (.acons (.cst (.int 5)) (.anil))) (.anil) [0, 1] [(0, 0)])) (.anil))) (.anil) [0, 1] [(0, 0)])) (.seq (.asg (.nm 3) (.bi .tuple (.acons (.bi .sorted (.acons (.lc [9] (.nm 9) (.rng (.cst (.int 0)) (.bi .len (.acons (.var 2) (.anil)))) (.cst (.bl true)) (.bi .tuple (.acons (.bi .sorted (.acons (.lst (.acons (.idx (.var 2) (.var 9)) (.acons (.idx (.var 2) (.bin .sub (.var 9) (.cst (.int 1)))) (.anil)))) (.anil))) (.anil)))) (.anil))) (.anil)))) (.seq (.asg (.nm 4) (.lst (.anil))) (.seq (.for (.nm 5) (.var 2) (.asg (.nm 4) (.bin .add (.var 4) (.lc [10] (.nm 10) (.var 2) (.cmp .lt (.var 5) (.var 10)) (.tup (.acons (.var 5) (.acons (.var 10) (.anil)))))))) (.for (.nm 6) (.tup (.acons (.call n_law_street (.acons (.mref 0) (.acons (.cst (.int 4)) (.anil))) (.anil) [0, 1] [(0, 0)]) (.acons (.call n_law_street (.acons (.mref 0) (.acons (.cst (.int 7)) (.anil))) (.anil) [0, 1] [(0, 0)]) (.acons (.tup (.acons (.var 2) (.acons (.var 3) (.acons (.tup (.acons (.cst (.int 1)) (.acons (.cst (.int 2)) (.anil)))) (.anil))))) (.acons (.tup (.acons (.var 2) (.acons (.bi .tuple (.acons (.bi .sorted (.acons (.var 4) (.anil))) (.anil))) (.acons (.tup (.acons (.cst (.int 1)) (.acons (.cst (.int 3)) (.anil)))) (.anil))))) (.acons (.tup (.acons (.var 2) (.acons (.tup (.anil)) (.acons (.tup (.acons (.cst (.int 1)) (.acons (.cst (.int 1)) (.anil)))) (.anil))))) (.acons (.tup (.acons (.var 2) (.acons (.slc (.var 3) (.cst (.int 1)) (.nop)) (.acons (.tup (.acons (.cst (.int 0)) (.acons (.cst (.int 1)) (.anil)))) (.anil))))) (.anil)))))))) (.seq (.asg (.nm 7) (.call n_law_made (.acons (.var 6) (.anil)) (.anil) [0] [])) (.seq (.asg (.nm 8) (.cmp .eq (.bi .lenset (.acons (.lc [11] (.nm 11) (.rng (.cst (.int 0)) (.bi .len (.acons (.idx (.var 6) (.cst (.int 0))) (.anil)))) (.cst (.bl true)) (.bi .len (.acons (.call n_law_beside (.acons (.var 6) (.acons (.var 11) (.anil))) (.anil) [0, 1] []) (.anil)))) (.anil))) (.cst (.int 1)))) (.iff (.not (.call n_law_same (.acons (.tup (.acons (.call n_is_even (.acons (.var 7) (.anil)) (.anil) [0] []) (.acons (.call n_is_even (.anil) (.acons (.var 7) (.anil)) [0] []) (.anil)))) (.acons (.tup (.acons (.var 8) (.acons (.var 8) (.anil)))) (.anil))) (.anil) [0, 1] [])) (.ret (.cst (.bl false))) (.skip)))))))))) (.ret (.cst (.bl true)))⟩
def f_law_names : Pu.FnD := ⟨2, 12, [0, 5], [0], false, false,
  .seq (.asg (.nm 2) (.cst (.str "all alike apart back beside book case content free home in kind like lot mixed move new none of open out part place"))) (.seq (.asg (.nm 3) (.cst (.str "quit rest rule seat stand step street swap take tie undo want web yes"))) (.seq (.par (.cons (.nm 4) (.cons (.nm 5) (.nil))) (.acons (.bin .add (.me .split (.var 2) (.acons (.cst (.str " ")) (.anil))) (.me .split (.var 3) (.acons (.cst (.str " ")) (.anil)))) (.acons (.own (.lst (.anil))) (.anil)))) (.seq (.for (.nm 6) (.rng (.cst (.int 0)) (.var 1)) (.seq (.asg (.nm 7) (.cst (.str ""))) (.seq (.for (.nm 8) (.rng (.cst (.int 0)) (.call n_law_of (.acons (.mref 0) (.acons (.tup (.acons (.cst (.int 1)) (.acons (.cst (.int 1)) (.acons (.cst (.int 2)) (.acons (.cst (.int 3)) (.acons (.cst (.int 5)) (.acons (.cst (.int 8)) (.anil)))))))) (.anil))) (.anil) [0, 1] [(0, 0)])) (.asg (.nm 7) (.bin .add (.var 7) (.idx (.cst (.str "abcdefghijklmnopqrstuvwxyz")) (.call n_law_draw (.acons (.mref 0) (.acons (.cst (.int 26)) (.anil))) (.anil) [0, 1] [(0, 0)]))))) (.seq (.asg (.nm 9) (.lc [10] (.nm 10) (.bin .add (.lst (.acons (.var 7) (.anil))) (.lc [11] (.nm 11) (.cst (.str "abcdefghijklmnopqrstuvwxyz")) (.cst (.bl true)) (.bin .add (.slc (.var 7) (.nop) (.cst (.int 7))) (.var 11)))) (.cmp .nin (.var 10) (.bin .add (.var 4) (.bor 5))) (.var 10))) (.app 5 (.idx (.var 9) (.cst (.int 0)))))))) (.ret (.bi .tuple (.acons (.bi .sorted (.acons (.bor 5) (.anil))) (.anil)))))))⟩
def f_law_of : Pu.FnD := ⟨2, 2, [0], [0], false, false,
  .ret (.idx (.var 1) (.call n_law_draw (.acons (.mref 0) (.acons (.bi .len (.acons (.var 1) (.anil))) (.anil))) (.anil) [0, 1] [(0, 0)]))⟩
def f_law_draw : Pu.FnD := ⟨2, 4, [0], [0], false, false,
  .seq (.iff (.cmp .gt (.idx (.bor 0) (.cst (.int 0))) (.cst (.int 0))) (.seq (.asg (.tp (.cons (.sub 0 (.cst (.int 0))) (.cons (.nm 3) (.nil)))) (.bi .divmod (.acons (.idx (.bor 0) (.cst (.int 0))) (.acons (.var 1) (.anil))))) (.ret (.var 3))) (.skip)) (.seq (.asg (.sub 0 (.cst (.int 2))) (.bin .add (.idx (.bor 0) (.cst (.int 2))) (.cst (.int 1)))) (.seq (.asg (.nm 2) (.bin .mod (.bi .int (.acons (.bin .add (.bin .mul (.idx (.bor 0) (.cst (.int 1))) (.cst (.int 39373))) (.bin .mul (.cst (.int 17011)) (.idx (.bor 0) (.cst (.int 2))))) (.anil))) (.cst (.int 2147483563)))) (.seq (.asg (.sub 0 (.cst (.int 1))) (.bin .mod (.bi .int (.acons (.bin .add (.bin .mul (.var 2) (.bin .add (.bin .mod (.bi .int (.acons (.var 2) (.anil))) (.cst (.int 4093))) (.cst (.int 30011)))) (.bin .mul (.cst (.int 7)) (.idx (.bor 0) (.cst (.int 2))))) (.anil))) (.cst (.int 2147483563)))) (.ret (.bin .mod (.bi .int (.acons (.bin .fdiv (.idx (.bor 0) (.cst (.int 1))) (.cst (.int 733))) (.anil))) (.var 1))))))⟩
def f_law_street : Pu.FnD := ⟨2, 7, [0], [0], false, false,
  .seq (.par (.cons (.nm 2) (.cons (.nm 3) (.cons (.nm 4) (.nil)))) (.acons (.call n_law_names (.acons (.mref 0) (.acons (.bin .add (.cst (.int 2)) (.call n_law_draw (.acons (.mref 0) (.acons (.bin .sub (.var 1) (.cst (.int 1))) (.anil))) (.anil) [0, 1] [(0, 0)])) (.anil))) (.anil) [0, 1] [(0, 0)]) (.acons (.call n_law_of (.acons (.mref 0) (.acons (.tup (.acons (.cst (.int 2)) (.acons (.cst (.int 3)) (.acons (.cst (.int 5)) (.anil))))) (.anil))) (.anil) [0, 1] [(0, 0)]) (.acons (.lst (.anil)) (.anil))))) (.seq (.for (.nm 5) (.rng (.cst (.int 0)) (.bi .len (.acons (.var 2) (.anil)))) (.asg (.nm 4) (.bin .add (.var 4) (.lc [6] (.nm 6) (.rng (.cst (.int 0)) (.var 5)) (.cmp .lt (.call n_law_draw (.acons (.mref 0) (.acons (.cst (.int 6)) (.anil))) (.anil) [0, 1] [(0, 0)]) (.var 3)) (.tup (.acons (.idx (.var 2) (.var 6)) (.acons (.idx (.var 2) (.var 5)) (.anil)))))))) (.ret (.tup (.acons (.var 2) (.acons (.bi .tuple (.acons (.bi .sorted (.acons (.var 4) (.anil))) (.anil))) (.acons (.call n_law_of (.acons (.mref 0) (.acons (.tup (.acons (.tup (.acons (.cst (.int 0)) (.acons (.cst (.int 1)) (.anil)))) (.acons (.tup (.acons (.cst (.int 1)) (.acons (.cst (.int 2)) (.anil)))) (.acons (.tup (.acons (.cst (.int 1)) (.acons (.cst (.int 2)) (.anil)))) (.acons (.tup (.acons (.cst (.int 1)) (.acons (.cst (.int 3)) (.anil)))) (.acons (.tup (.acons (.cst (.int 2)) (.acons (.cst (.int 3)) (.anil)))) (.acons (.tup (.acons (.cst (.int 1)) (.acons (.cst (.int 1)) (.anil)))) (.acons (.tup (.acons (.cst (.int 1)) (.acons (.cst (.int 4)) (.anil)))) (.acons (.tup (.acons (.cst (.int 3)) (.acons (.cst (.int 5)) (.anil)))) (.anil)))))))))) (.anil))) (.anil) [0, 1] [(0, 0)]) (.anil)))))))⟩
def f_law_made : Pu.FnD := ⟨1, 1, [], [], false, false,
  .ret (.new c_Street (.acons (.idx (.var 0) (.cst (.int 0))) (.acons (.idx (.var 0) (.cst (.int 1))) (.acons (.idx (.var 0) (.cst (.int 2))) (.anil)))) (.anil) [0, 1, 2])⟩
def f_Street_init : Pu.FnD := ⟨4, 5, [0], [0], false, true,
  .seq (.for (.nm 4) (.call n_wrong_in_places (.acons (.var 1) (.anil)) (.anil) [0] []) (.never)) (.seq (.for (.nm 4) (.call n_wrong_in_ties (.acons (.var 1) (.acons (.var 2) (.anil))) (.anil) [0, 1] []) (.never)) (.seq (.drop (.call n_check_want (.acons (.var 3) (.anil)) (.anil) [0] [])) (.setf c_Street 0 (.tup (.acons (.var 1) (.acons (.var 2) (.acons (.var 3) (.anil))))))))⟩
def f_wrong_in_places : Pu.FnD := ⟨1, 1, [], [], false, false,
  .ret (.calll n_wrong_in (.acons (.var 0) (.acons (.cst d_LEAST_PLACES) (.acons (.cst d_MOST_PLACES) (.anil)))) m_wrong_in_places_0 [] (List.range 4))⟩
def f_wrong_in : Pu.FnD := ⟨4, 6, [], [], false, false,
  .seq (.iff (.or (.not (.isi (.var 0) (.b "tuple"))) (.cmp .lt (.bi .len (.acons (.var 0) (.anil))) (.var 1))) (.ret (.lst (.acons (.cst (.non)) (.anil)))) (.skip)) (.seq (.for (.tp (.cons (.nm 4) (.cons (.nm 5) (.nil)))) (.enm (.var 0)) (.iff (.or (.cmp .eq (.var 4) (.var 2)) (.not (.callv 3 (.acons (.slc (.var 0) (.nop) (.var 4)) (.acons (.var 5) (.anil)))))) (.ret (.lst (.acons (.var 4) (.anil)))) (.skip))) (.ret (.lst (.anil))))⟩
def f_is_name : Pu.FnD := ⟨1, 1, [], [], false, false,
  .ret (.and (.call n_is_word (.acons (.var 0) (.anil)) (.anil) [0] []) (.and (.cmp .le (.bi .len (.acons (.var 0) (.anil))) (.cst d_MOST_LETTERS)) (.cmp .nin (.var 0) (.cst d_WORDS))))⟩
def f_is_word : Pu.FnD := ⟨1, 2, [], [], false, false,
  .ret (.and (.isi (.var 0) (.b "str")) (.and (.cmp .ne (.var 0) (.cst (.str ""))) (.bi .all (.acons (.lc [1] (.nm 1) (.var 0) (.cst (.bl true)) (.cmp .inn (.var 1) (.cst d_LETTERS))) (.anil)))))⟩
def f_are_below : Pu.FnD := ⟨2, 2, [], [], false, false,
  .ret (.or (.cmp .eq (.var 0) (.tup (.anil))) (.cmp .lt (.idx (.var 0) (.neg (.cst (.int 1)))) (.var 1)))⟩
def f_wrong_in_ties : Pu.FnD := ⟨2, 2, [], [], false, false,
  .ret (.calll n_wrong_in (.acons (.var 1) (.acons (.cst (.int 0)) (.acons (.cst (.non)) (.anil)))) m_wrong_in_ties_0 [0] (List.range 4))⟩
def f_is_tie : Pu.FnD := ⟨2, 2, [], [], false, false,
  .ret (.and (.call n_is_pair (.acons (.var 1) (.anil)) (.anil) [0] []) (.and (.call n_is_one_of (.acons (.idx (.var 1) (.cst (.int 0))) (.acons (.var 0) (.anil))) (.anil) [0, 1] []) (.and (.call n_is_one_of (.acons (.idx (.var 1) (.cst (.int 1))) (.acons (.var 0) (.anil))) (.anil) [0, 1] []) (.cmp .lt (.idx (.var 1) (.cst (.int 0))) (.idx (.var 1) (.cst (.int 1)))))))⟩
def f_is_pair : Pu.FnD := ⟨1, 1, [], [], false, false,
  .ret (.call n_is_tuple_of (.acons (.var 0) (.acons (.cst (.int 2)) (.anil))) (.anil) [0, 1] [])⟩
def f_is_tuple_of : Pu.FnD := ⟨2, 2, [], [], false, false,
  .ret (.and (.isi (.var 0) (.b "tuple")) (.cmp .eq (.bi .len (.acons (.var 0) (.anil))) (.var 1)))⟩
def f_is_one_of : Pu.FnD := ⟨2, 2, [], [], false, false,
  .ret (.and (.isi (.var 0) (.b "str")) (.cmp .inn (.var 0) (.var 1)))⟩
def f_check_want : Pu.FnD := ⟨1, 1, [], [], false, false,
  .iff (.not (.call n_is_part (.acons (.var 0) (.anil)) (.anil) [0] [])) (.never) (.skip)⟩
def f_is_part : Pu.FnD := ⟨1, 1, [], [], false, false,
  .ret (.and (.call n_is_fraction (.acons (.var 0) (.anil)) (.anil) [0] []) (.cmp2 .le .le (.cst (.int 0)) (.idx (.var 0) (.cst (.int 0))) (.idx (.var 0) (.cst (.int 1)))))⟩
def f_is_fraction : Pu.FnD := ⟨1, 2, [], [], false, false,
  .seq (.iff (.or (.not (.call n_is_pair (.acons (.var 0) (.anil)) (.anil) [0] [])) (.not (.bi .all (.acons (.lc [1] (.nm 1) (.var 0) (.cst (.bl true)) (.call n_is_whole (.acons (.var 1) (.anil)) (.anil) [0] [])) (.anil))))) (.ret (.cst (.bl false))) (.skip)) (.ret (.and (.cmp .gt (.idx (.var 0) (.cst (.int 1))) (.cst (.int 0))) (.cmp .eq (.bi .gcd (.acons (.idx (.var 0) (.cst (.int 0))) (.acons (.idx (.var 0) (.cst (.int 1))) (.anil)))) (.cst (.int 1)))))⟩
def f_is_whole : Pu.FnD := ⟨1, 1, [], [], false, false,
  .ret (.and (.isi (.var 0) (.b "int")) (.not (.isi (.var 0) (.b "bool"))))⟩
def f_Street_places : Pu.FnD := ⟨1, 1, [], [], false, false,
  .ret (.idx (.get (.var 0) c_Street 0) (.cst (.int 0)))⟩
def f_Street_ties : Pu.FnD := ⟨1, 1, [], [], false, false,
  .ret (.idx (.get (.var 0) c_Street 0) (.cst (.int 1)))⟩
def f_Street_want : Pu.FnD := ⟨1, 1, [], [], false, false,
  .ret (.idx (.get (.var 0) c_Street 0) (.cst (.int 2)))⟩
def f_Street_parts : Pu.FnD := ⟨1, 1, [], [], false, false,
  .ret (.get (.var 0) c_Street 0)⟩
def f_law_same : Pu.FnD := ⟨2, 3, [], [], false, false,
  .seq (.iff (.isi (.var 1) (.b "tuple")) (.seq (.iff (.or (.not (.isi (.var 0) (.b "tuple"))) (.cmp .ne (.bi .len (.acons (.var 0) (.anil))) (.bi .len (.acons (.var 1) (.anil))))) (.ret (.cst (.bl false))) (.skip)) (.ret (.bi .all (.acons (.lc [2] (.nm 2) (.rng (.cst (.int 0)) (.bi .len (.acons (.var 1) (.anil)))) (.cst (.bl true)) (.call n_law_same (.acons (.idx (.var 0) (.var 2)) (.acons (.idx (.var 1) (.var 2)) (.anil))) (.anil) [0, 1] [])) (.anil))))) (.skip)) (.seq (.iff (.cmp .isn (.var 1) (.cst (.non))) (.ret (.cmp .isn (.var 0) (.cst (.non)))) (.skip)) (.seq (.iff (.isi (.var 1) (.b "bool")) (.ret (.and (.isi (.var 0) (.b "bool")) (.cmp .eq (.var 0) (.var 1)))) (.skip)) (.seq (.iff (.isi (.var 1) (.b "int")) (.ret (.and (.isi (.var 0) (.b "int")) (.and (.not (.isi (.var 0) (.b "bool"))) (.cmp .eq (.var 0) (.var 1))))) (.skip)) (.seq (.iff (.isi (.var 1) (.b "str")) (.ret (.and (.isi (.var 0) (.b "str")) (.cmp .eq (.var 0) (.var 1)))) (.skip)) (.ret (.cmp .eq (.var 0) (.var 1)))))))⟩
def f_is_even : Pu.FnD := ⟨1, 3, [], [], false, false,
  .seq (.drop (.call n_check_street (.acons (.var 0) (.anil)) (.anil) [0] [])) (.seq (.asg (.nm 1) (.lc [2] (.nm 2) (.call n_near_by (.acons (.var 0) (.anil)) (.anil) [0] []) (.cst (.bl true)) (.bi .len (.acons (.var 2) (.anil))))) (.ret (.cmp .eq (.bi .min (.acons (.var 1) (.anil))) (.bi .max (.acons (.var 1) (.anil))))))⟩
def f_check_street : Pu.FnD := ⟨1, 1, [], [], false, false,
  .iff (.not (.isi (.var 0) (.c c_Street))) (.never) (.skip)⟩
def f_near_by : Pu.FnD := ⟨1, 5, [], [], false, false,
  .seq (.asg (.nm 1) (.lc [2, 3] (.tp (.cons (.nm 2) (.cons (.nm 3) (.nil)))) (.get (.var 0) c_Street 2) (.cst (.bl true)) (.tup (.acons (.me .index (.get (.var 0) c_Street 1) (.acons (.var 2) (.anil))) (.acons (.me .index (.get (.var 0) c_Street 1) (.acons (.var 3) (.anil))) (.anil)))))) (.ret (.lc [4] (.nm 4) (.rng (.cst (.int 0)) (.bi .len (.acons (.get (.var 0) c_Street 1) (.anil)))) (.cst (.bl true)) (.lc [2, 3] (.tp (.cons (.nm 2) (.cons (.nm 3) (.nil)))) (.var 1) (.cmp .inn (.var 4) (.tup (.acons (.var 2) (.acons (.var 3) (.anil))))) (.ite (.cmp .eq (.var 3) (.var 4)) (.var 2) (.var 3)))))⟩
def f_law_beside : Pu.FnD := ⟨2, 4, [], [], false, false,
  .seq (.asg (.nm 2) (.idx (.var 0) (.cst (.int 0)))) (.ret (.lc [3] (.nm 3) (.rng (.cst (.int 0)) (.bi .len (.acons (.var 2) (.anil)))) (.or (.cmp .inn (.tup (.acons (.idx (.var 2) (.var 1)) (.acons (.idx (.var 2) (.var 3)) (.anil)))) (.idx (.var 0) (.cst (.int 1)))) (.cmp .inn (.tup (.acons (.idx (.var 2) (.var 3)) (.acons (.idx (.var 2) (.var 1)) (.anil)))) (.idx (.var 0) (.cst (.int 1))))) (.var 3)))⟩
def f_law_bowl : Pu.FnD := ⟨2, 5, [], [], true, false,
  .seq (.asg (.nm 2) (.bin .add (.cst (.int 771041)) (.bin .mul (.cst (.int 8819)) (.var 1)))) (.seq (.for (.nm 3) (.slc (.var 0) (.nop) (.cst (.int 9))) (.asg (.nm 2) (.bin .mod (.bi .int (.acons (.bin .add (.bin .add (.bin .mul (.var 2) (.cst (.int 48611))) (.bin .mul (.bin .mod (.bi .int (.acons (.var 3) (.anil))) (.cst (.int 2147483053))) (.cst (.int 19)))) (.cst (.int 41))) (.anil))) (.cst (.int 2147483563))))) (.seq (.asg (.nm 4) (.ite (.cmp .lt (.var 1) (.bi .len (.acons (.var 0) (.anil)))) (.bi .int (.acons (.idx (.var 0) (.var 1)) (.anil))) (.cst (.int 0)))) (.seq (.asg (.nm 2) (.bin .mod (.bi .int (.acons (.bin .add (.bin .add (.bin .mul (.var 2) (.cst (.int 53))) (.bin .mul (.bin .mod (.var 4) (.cst (.int 2147483053))) (.cst (.int 27011)))) (.cst (.int 11))) (.anil))) (.cst (.int 2147483563)))) (.ret (.lst (.acons (.ite (.or (.cmp .lt (.var 4) (.cst (.int 0))) (.cmp .ge (.var 4) (.bin .pow (.cst (.int 10)) (.cst (.int 16))))) (.bi .abs (.acons (.var 4) (.anil))) (.cst (.int 0))) (.acons (.var 2) (.acons (.cst (.int 0)) (.anil)))))))))⟩
def l_wrong_in_places_0 : LamD := ⟨2, 0, 2, .and (.call n_is_name (.acons (.var 1) (.anil)) (.anil) [0] []) (.call n_are_below (.acons (.var 0) (.acons (.var 1) (.anil))) (.anil) [0, 1] [])⟩
def l_wrong_in_ties_0 : LamD := ⟨2, 1, 3, .and (.call n_is_tie (.acons (.var 2) (.acons (.var 1) (.anil))) (.anil) [0, 1] []) (.call n_are_below (.acons (.var 0) (.acons (.var 1) (.anil))) (.anil) [0, 1] [])⟩
def P : Prog := ⟨(([f_law, f_law_right, f_law_names, f_law_of, f_law_draw, f_law_street, f_law_made, f_Street_init, f_wrong_in_places, f_wrong_in, f_is_name, f_is_word, f_are_below, f_wrong_in_ties, f_is_tie, f_is_pair, f_is_tuple_of, f_is_one_of, f_check_want, f_is_part, f_is_fraction, f_is_whole, f_Street_places, f_Street_ties, f_Street_want, f_Street_parts, f_law_same, f_is_even, f_check_street, f_near_by] : List (Pu.FnD)) ++ ([f_law_beside, f_law_bowl] : List (Pu.FnD))), [l_wrong_in_places_0, l_wrong_in_ties_0], [⟨7, 1, [(0, .fld 0), (1, .prop n_Street_places), (2, .prop n_Street_ties), (3, .prop n_Street_want), (4, .prop n_Street_parts)]⟩]⟩
def T : Tab := ⟨(([("_law_right", .fn n_law_right), ("_law_bowl", .fn n_law_bowl), ("_law_street", .fn n_law_street), ("_law_same", .fn n_law_same), ("is_even", .fn n_is_even), ("_law_beside", .fn n_law_beside), ("_law_made", .fn n_law_made), ("_law_names", .fn n_law_names), ("_law_draw", .fn n_law_draw), ("_law_of", .fn n_law_of), ("Street", .cls c_Street), ("check_want", .fn n_check_want), ("wrong_in_ties", .fn n_wrong_in_ties), ("wrong_in_places", .fn n_wrong_in_places), ("wrong_in", .fn n_wrong_in), ("are_below", .fn n_are_below), ("is_name", .fn n_is_name), ("MOST_PLACES", .cst d_MOST_PLACES), ("LEAST_PLACES", .cst d_LEAST_PLACES), ("WORDS", .cst d_WORDS), ("MOST_LETTERS", .cst d_MOST_LETTERS), ("is_word", .fn n_is_word), ("LETTERS", .cst d_LETTERS), ("is_tie", .fn n_is_tie), ("is_one_of", .fn n_is_one_of), ("is_pair", .fn n_is_pair), ("is_tuple_of", .fn n_is_tuple_of), ("is_part", .fn n_is_part), ("is_fraction", .fn n_is_fraction), ("gcd", .gcd)] : List (Str × G)) ++ ([("is_whole", .fn n_is_whole), ("near_by", .fn n_near_by), ("check_street", .fn n_check_street), ("law", .fn n_law)] : List (Str × G))), ["all", "range", "max", "min", "len", "tuple", "sorted", "set", "int", "divmod", "enumerate", "isinstance", "str", "bool", "abs"], (([(n_law_bowl, 2, [], [0, 1]), (n_law_street, 2, [], [0, 1]), (n_law_same, 2, [], [0, 1]), (n_is_even, 0, ["street"], [0]), (n_is_even, 1, [], [0]), (n_law_beside, 2, [], [0, 1]), (n_law_made, 1, [], [0]), (n_law_names, 2, [], [0, 1]), (n_law_draw, 2, [], [0, 1]), (n_law_of, 2, [], [0, 1]), (n_Street_init, 4, [], [0, 1, 2, 3]), (n_check_want, 1, [], [0]), (n_wrong_in_ties, 2, [], [0, 1]), (n_wrong_in_places, 1, [], [0]), (n_are_below, 2, [], [0, 1]), (n_is_name, 1, [], [0]), (n_is_word, 1, [], [0]), (n_is_tie, 2, [], [0, 1]), (n_is_one_of, 2, [], [0, 1]), (n_is_pair, 1, [], [0]), (n_is_tuple_of, 2, [], [0, 1]), (n_is_part, 1, [], [0]), (n_is_fraction, 1, [], [0]), (n_is_whole, 1, [], [0]), (n_near_by, 1, [], [0]), (n_check_street, 1, [], [0]), (n_Street_places, 1, [], [0]), (n_Street_ties, 1, [], [0])] : List (Sig))), [("all_told", 0), ("places", 1), ("ties", 2), ("want", 3), ("parts", 4)]⟩
def i_law : FnI := ⟨"law", "law", top 44, .none, ["script", "lap"], ["script"], []⟩
def i_law_right : FnI := ⟨"_law_right", "_law_right", top 43, .none, ["bowl", "lap", "names", "ring", "full", "one", "street", "made", "due", "k", "two", "i"], ["bowl"], []⟩
def i_law_names : FnI := ⟨"_law_names", "_law_names", top 39, .none, ["bowl", "many", "words", "more", "barred", "found", "turn", "name", "k", "some", "each", "last"], ["bowl", "many"], []⟩
def i_law_of : FnI := ⟨"_law_of", "_law_of", top 37, .none, ["bowl", "some"], ["bowl", "some"], []⟩
def i_law_draw : FnI := ⟨"_law_draw", "_law_draw", top 36, .none, ["bowl", "many", "turn", "figure"], ["bowl", "many"], []⟩
def i_law_street : FnI := ⟨"_law_street", "_law_street", top 40, .none, ["bowl", "most", "names", "often", "ties", "j", "i"], ["bowl", "most"], []⟩
def i_law_made : FnI := ⟨"_law_made", "_law_made", top 42, .none, ["street"], ["street"], []⟩
def i_Street_init : FnI := ⟨"__init__", "Street.__init__", inClass (top 30) 0, .none, ["self", "places", "ties", "want", "index"], ["self", "places", "ties", "want"], []⟩
def i_wrong_in_places : FnI := ⟨"wrong_in_places", "wrong_in_places", top 25, .none, ["value"], ["value"], [m_wrong_in_places_0]⟩
def i_wrong_in : FnI := ⟨"wrong_in", "wrong_in", top 17, .none, ["value", "least", "most", "is_right", "index", "each"], ["value", "least", "most", "is_right"], []⟩
def i_is_name : FnI := ⟨"is_name", "is_name", top 14, .none, ["value"], ["value"], []⟩
def i_is_word : FnI := ⟨"is_word", "is_word", top 13, .none, ["value", "sign"], ["value"], []⟩
def i_are_below : FnI := ⟨"are_below", "are_below", top 18, .none, ["ahead", "value"], ["ahead", "value"], []⟩
def i_wrong_in_ties : FnI := ⟨"wrong_in_ties", "wrong_in_ties", top 27, .none, ["places", "value"], ["places", "value"], [m_wrong_in_ties_0]⟩
def i_is_tie : FnI := ⟨"is_tie", "is_tie", top 26, .none, ["places", "value"], ["places", "value"], []⟩
def i_is_pair : FnI := ⟨"is_pair", "is_pair", top 16, .none, ["value"], ["value"], []⟩
def i_is_tuple_of : FnI := ⟨"is_tuple_of", "is_tuple_of", top 15, .none, ["value", "many"], ["value", "many"], []⟩
def i_is_one_of : FnI := ⟨"is_one_of", "is_one_of", top 12, .none, ["value", "words"], ["value", "words"], []⟩
def i_check_want : FnI := ⟨"check_want", "check_want", top 31, .none, ["want"], ["want"], []⟩
def i_is_part : FnI := ⟨"is_part", "is_part", top 21, .none, ["value"], ["value"], []⟩
def i_is_fraction : FnI := ⟨"is_fraction", "is_fraction", top 20, .none, ["value", "each"], ["value"], []⟩
def i_is_whole : FnI := ⟨"is_whole", "is_whole", top 11, .none, ["value"], ["value"], []⟩
def i_Street_places : FnI := ⟨"places", "Street.places", inClass (top 30) 1, .none, ["self"], ["self"], []⟩
def i_Street_ties : FnI := ⟨"ties", "Street.ties", inClass (top 30) 2, .none, ["self"], ["self"], []⟩
def i_Street_want : FnI := ⟨"want", "Street.want", inClass (top 30) 3, .none, ["self"], ["self"], []⟩
def i_Street_parts : FnI := ⟨"parts", "Street.parts", inClass (top 30) 4, .none, ["self"], ["self"], []⟩
def i_law_same : FnI := ⟨"_law_same", "_law_same", top 38, .none, ["told", "due", "k"], ["told", "due"], []⟩
def i_is_even : FnI := ⟨"is_even", "is_even", top 33, .none, ["street", "ties", "near"], ["street"], []⟩
def i_check_street : FnI := ⟨"check_street", "check_street", top 32, .none, ["street"], ["street"], []⟩
def i_near_by : FnI := ⟨"near_by", "near_by", top 28, .none, ["street", "pairs", "one", "other", "at"], ["street"], []⟩
def i_law_beside : FnI := ⟨"_law_beside", "_law_beside", top 41, .none, ["street", "i", "names", "j"], ["street", "i"], []⟩
def i_law_bowl : FnI := ⟨"_law_bowl", "_law_bowl", top 35, .none, ["script", "lap", "stir", "cell", "own"], ["script", "lap"], []⟩
def fi (f : Nat) : FnI := (([i_law, i_law_right, i_law_names, i_law_of, i_law_draw, i_law_street, i_law_made, i_Street_init, i_wrong_in_places, i_wrong_in, i_is_name, i_is_word, i_are_below, i_wrong_in_ties, i_is_tie, i_is_pair, i_is_tuple_of, i_is_one_of, i_check_want, i_is_part, i_is_fraction, i_is_whole, i_Street_places, i_Street_ties, i_Street_want, i_Street_parts, i_law_same, i_is_even, i_check_street, i_near_by] : List (FnI)) ++ ([i_law_beside, i_law_bowl] : List (FnI))).getD f i_law
def LI (l : Nat) : LamI := (([lamAt (top 25) 0 "wrong_in_places.<locals>.<lambda>" ["ahead", "each"] [], lamAt (top 27) 0 "wrong_in_ties.<locals>.<lambda>" ["ahead", "each"] ["places"]] : List (LamI))).getD l (lamAt (top 0) 0 "" [] [])
def LN (l : Nat) : List Str := (([["ahead", "each"], ["ahead", "each", "places"]] : List (List Str))).getD l []
def wh (f : Nat) : At0 := (([.glo "law", .glo "_law_right", .glo "_law_names", .glo "_law_of", .glo "_law_draw", .glo "_law_street", .glo "_law_made", .meth "Street" "__init__", .glo "wrong_in_places", .glo "wrong_in", .glo "is_name", .glo "is_word", .glo "are_below", .glo "wrong_in_ties", .glo "is_tie", .glo "is_pair", .glo "is_tuple_of", .glo "is_one_of", .glo "check_want", .glo "is_part", .glo "is_fraction", .glo "is_whole", .get "Street" "places", .get "Street" "ties", .get "Street" "want", .get "Street" "parts", .glo "_law_same", .glo "is_even", .glo "check_street", .glo "near_by"] : List (At0)) ++ ([.glo "_law_beside", .glo "_law_bowl"] : List (At0))).getD f (.glo "law")
def cn (c : Nat) : Str := (["Street"] : List Str).getD c ""
def flN (c : Nat) : List Str := ([["all_told"]] : List (List Str)).getD c []
def I : LawI := ⟨P, T, LI, LN, fi, wh, cn, 1, flN, [8, 13]⟩
end K08

set_option Elab.async false
set_option linter.all false
set_option maxRecDepth 100000
set_option maxHeartbeats 0
set_option autoImplicit false
namespace K08
open PySem PySem.Spec PyProof.Rows L2 Pu
abbrev RowH : PySem.W.OpenRow := PySem.W.OpenLaw.row PySem.Challenge.rw_ownkinds_k08_whole_even_streets
def loose : List Str := ((["gcd", "__name__", "KindError", "InvalidFraction", "NotAStreet", "InvalidPlaces", "InvalidTies", "LETTERS", "MOST_LETTERS", "WORDS", "is_whole", "is_one_of", "is_word", "is_name", "is_tuple_of", "is_pair", "wrong_in", "are_below", "is_fraction", "is_part", "LEAST_PLACES", "MOST_PLACES", "wrong_in_places", "is_tie", "wrong_in_ties", "near_by", "Street", "check_want", "check_street", "is_even"] : List (Str)) ++ (["_law_bowl", "_law_draw", "_law_of", "_law_same", "_law_names", "_law_street", "_law_beside", "_law_made", "_law_right"] : List (Str)))
theorem run_eq (w : World) : HandSHeadRun.RunEqI RowH (PySem.W.view RowH.prog [0, 44]) (hookP I 5) (obP I 5) 20000 loose w := by
  unfold HandSHeadRun.RunEqI
  kernel_rfl
end K08

set_option Elab.async false
set_option linter.all false
set_option maxRecDepth 100000
set_option maxHeartbeats 2000000
set_option autoImplicit false
/-! Pu, C: operations by values are what the model does. -/
namespace Pu
open PySem PySem.Spec PyProof.Rows L2

/-- a value that stands for d; a list may be one that is still written (it is read as it stands) -/
def RepL (W : W0) (F H : Hp) (d : D) (v : V) : Prop :=
  Rep W F d v ∨ ∃ p ds vs, d = .lst ds ∧ v = .ref p ∧ H p = some (.lst vs) ∧ Reps W F ds vs
def RepLs (W : W0) (F H : Hp) : List D → List V → Prop := Paired (RepL W F H)
/-- what follows an operation that makes new objects alone -/
def Kont (W : W0) (F H : Hp) (r : D) (Q : VK) : Prop := ∀ v F' H', Step F H F' H' → Rep W F' r v → Q v H'

section
variable {W : W0} {F H : Hp} {Q : VK}
theorem RepL.lst_inv {ds : List D} {v : V} (hl : Le F H) (h : RepL W F H (.lst ds) v) : ∃ a vs, v = .ref a ∧ SqL W.K H a vs ∧ Reps W F ds vs := by
  rcases h with h | ⟨p, es, vs, e, rfl, hp, r⟩
  · obtain ⟨a, vs, e, s, r⟩ := h.lst_inv
    exact ⟨a, vs, e, hl.seqL s, r⟩
  · cases e
    exact ⟨p, vs, rfl, .of hp, r⟩
theorem RepL.rep {d : D} {v : V} (h : RepL W F H d v) (n : ∀ ds, d ≠ .lst ds) : Rep W F d v := by
  rcases h with h | ⟨p, es, vs, e, _⟩
  · exact h
  · exact absurd e (n _)
theorem RepL.int {i : Int} {v : V} (h : RepL W F H (.int i) v) : v = .int i := (h.rep fun _ z => nomatch z).int_inv
theorem RepL.str {x : Str} {v : V} (h : RepL W F H (.str x) v) : v = .str x := (h.rep fun _ z => nomatch z).str_inv
theorem RepL.bl {b : Bool} {v : V} (h : RepL W F H (.bl b) v) : v = .bl b := (h.rep fun _ z => nomatch z).bl_inv
theorem RepL.non {v : V} (h : RepL W F H .non v) : v = .non := (h.rep fun _ z => nomatch z).non_inv
theorem RepL.tup_inv {ds : List D} {v : V} (hl : Le F H) (h : RepL W F H (.tup ds) v) : ∃ a vs, v = .ref a ∧ SqT W.K H a vs ∧ Reps W F ds vs := by
  obtain ⟨a, vs, e, s, r⟩ := (h.rep fun _ z => nomatch z).tup_inv
  exact ⟨a, vs, e, hl.seqT s, r⟩
theorem RepL.dp {d : D} {v : V} {p : PyData} (hl : Le F H) (h : RepL W F H d v) (e : d.py = some p) : Dp W.K H v p := by
  rcases h with h | ⟨q, ds, vs, rfl, rfl, hp, r⟩
  · exact h.dp hl e
  · rw [D.py] at e
    split at e
    · rename_i ps hps
      cases e
      exact .lst (.of hp) (r.dps hl hps)
    · cases e
theorem RepL.seq {d : D} {ds : List D} {v : V} (hl : Le F H) (h : RepL W F H d v) (e : seqD d = some ds) : ∃ a vs, v = .ref a ∧ (SqL W.K H a vs ∨ SqT W.K H a vs) ∧ Reps W F ds vs := by
  cases d with
  | lst es =>
    cases e
    obtain ⟨a, vs, e, s, r⟩ := h.lst_inv hl
    exact ⟨a, vs, e, .inl s, r⟩
  | tup es =>
    cases e
    obtain ⟨a, vs, e, s, r⟩ := h.tup_inv hl
    exact ⟨a, vs, e, .inr s, r⟩
  | _ => cases e
theorem Kont.same (hl : Le F H) {r : D} {v : V} (h : Rep W F r v) (k : Kont W F H r Q) : Q v H := k v F H (.refl hl) h
theorem Kont.int (hl : Le F H) {i : Int} (k : Kont W F H (.int i) Q) : Q (.int i) H := k.same hl .int
theorem Kont.bl (hl : Le F H) {b : Bool} (k : Kont W F H (.bl b) Q) : Q (.bl b) H := k.same hl .bl
theorem Kont.str (hl : Le F H) {x : Str} (k : Kont W F H (.str x) Q) : Q (.str x) H := k.same hl .str
theorem Kont.tup (m : W.Mono) (hl : Le F H) {ds : List D} {vs : List V} (r : Reps W F ds vs) (k : Kont W F H (.tup ds) Q) : ∀ p o, H p = none → TupO o → Q (.ref p) (upd H p (.frz o (.tup vs))) := fun p o hp ht =>
  k _ (upd F p (.frz o (.tup vs))) _ (.new hl _ hp) (.tup (.of upd_same ht) (r.mono m (Le.upd (hl.none hp))))
theorem Kont.lst (m : W.Mono) (hl : Le F H) {ds : List D} {vs : List V} (r : Reps W F ds vs) (k : Kont W F H (.lst ds) Q) : ∀ p, H p = none → Q (.ref p) (upd H p (.lst vs)) := fun p hp =>
  k _ (upd F p (.lst vs)) _ (.new hl _ hp) (.lst (.of upd_same) (r.mono m (Le.upd (hl.none hp))))
theorem RepL.reads {X : Cx} {pins : List (Addr × Obj)} {σ : L2.St} {s : Shared} {d : D} {v : V} {u : Value} {p : PyData} (I : Inv X pins σ H s) (hK : X.K = W.K) (hl : Le F H) (h : RepL W F H d v) (e : d.py = some p) (rv : RelV v u) : ∃ as, Reads s.heap u p as :=
  Dp.reads I p v u (by rw [hK]; exact h.dp hl e) rv
end

/-- what every step of the walk knows of its context -/
structure Ok (W : W0) (X : Cx) : Prop where
  k : X.K = W.K
  mg : X.mg = W.mg
  m : W.Mono
  calm : X.calm = true
  un : X.A.units + 200 < cLine
theorem Ok.hd {W : W0} {X : Cx} {pins : List (Addr × Obj)} {σ : L2.St} {H : Hp} {s : Shared} (o : Ok W X) (I : Inv X pins σ H s) : X.A.handled = none := I.ok.hd o.calm

/-- tuple + tuple -/
theorem op_catS {X : Cx} : OpR X (binaryOp .Add) (fun x y H Q => ∃ a b xs ys, x = .ref a ∧ y = .ref b ∧ SqT X.K H a xs ∧ SqT X.K H b ys ∧ xs.length + ys.length ≤ sizeLine ∧
    (xs = [] → Q (.ref b) H) ∧ (ys = [] → Q (.ref a) H) ∧ ∀ p o, H p = none → TupO o → Q (.ref p) (upd H p (.frz o (.tup (xs ++ ys))))) := by
  intro pins s σ H x y v u Q I rx ry h
  obtain ⟨a, b, xs, ys, rfl, rfl, ha, hb, hz, q0, q1, q2⟩ := h
  cases rx
  cases ry
  obtain ⟨its, r1, p1, _⟩ := I.tuple ha
  obtain ⟨its2, r2, p2, _⟩ := I.tuple hb
  by_cases hx : xs = []
  · subst hx
    cases r1
    exact cat_tup0 p1 p2 ⟨.ref b, H, I, rfl, q0 rfl⟩
  · refine HT.cat_tup p1 p2 (fun z => hx (r1.nil_iff.mp z)) (fun z => ⟨.ref a, H, I, rfl, q1 (r2.nil_iff.mp z)⟩) (fun z => ?_) (by rw [← r1.length, ← r2.length]; exact hz)
    exact ⟨.ref s.heap.objs.size, _, tup_laid (t' := s.toks) I (r1.append r2) (by rw [List.length_append]; exact hz), rfl, q2 _ _ (I.hok.fresh (Nat.le_refl _)) ⟨rfl, rfl⟩⟩
def rB (W : W0) (g : D → D → R D) : R2 := fun x y H Q => ∃ F d e r, Le F H ∧ RepL W F H d x ∧ RepL W F H e y ∧ g d e = .ok r ∧ Kont W F H r Q
def bopOf : Bop → Operator
  | .add => .Add | .sub => .Sub | .mul => .Mult | .fdiv => .FloorDiv | .mod => .Mod | .pow => .Pow
section
variable {W : W0} {X : Cx}
/-- list + list -/
theorem op_catL : OpR X (binaryOp .Add) (fun x y H Q => ∃ a b xs ys, x = .ref a ∧ y = .ref b ∧ SqL X.K H a xs ∧ SqL X.K H b ys ∧ xs.length + ys.length ≤ sizeLine ∧ ∀ p, H p = none → Q (.ref p) (upd H p (.lst (xs ++ ys)))) := by
  intro pins s σ H x y v u Q I rx ry h
  obtain ⟨a, b, xs, ys, rfl, rfl, ha, hb, hz, q⟩ := h
  cases rx
  cases ry
  obtain ⟨its, r1, ⟨⟨cls, dd, data, sl⟩, n, ho, hc, hdn, hd⟩, _⟩ := I.list ha
  obtain ⟨its2, r2, ⟨⟨cls2, dd2, data2, sl2⟩, n2, ho2, hc2, hdn2, hd2⟩, _⟩ := I.list hb
  simp only at hc hd hc2 hd2
  subst hc hd hc2 hd2
  have e : its.toArray ++ its2.toArray = (its ++ its2).toArray := by simp
  have l1 := r1.length
  have l2 := r2.length
  refine concat_meets ⟨_, ho, rfl⟩ ⟨_, ho2, rfl⟩ noFill_list_add seq_list_add PySem.F.slot_list_add PySem.F.entry_list_add (PySem.F.args_list_add_2 _ _) (list_addW a b its.toArray its2.toArray n n2 dd dd2 sl sl2 (by simp; omega)) ⟨ho, ho2, ?_⟩
  rw [e]
  exact ⟨.ref _, _, I.lnew (t' := s.toks) (r1.append r2) (by rw [List.length_append]; omega), rfl, q _ I.fresh⟩
theorem mulOk_ok {i j : Int} (h : mulOk i j = true) : IntMulOk i j := by
  unfold mulOk at h
  simp only [Bool.or_eq_true, Bool.and_eq_true, decide_eq_true_eq] at h
  rcases h with (h | h) | h
  · exact CMul.ok (.inl h)
  · exact CMul.ok (.inr h)
  · exact CMulW.ok h
theorem op_mulA : OpR X (binaryOp .Mult) (rI (fun i j => mulOk i j = true) fun i j => .int (i * j)) := opI fun _ _ _ _ _ _ _ hc q => mul_int q (mulOk_ok hc)
theorem op_bin (o : Ok W X) (b : Bop) : OpR X (binaryOp (bopOf b)) (rB W (binD b)) := by
  intro pins s σ H x y v u Q I rx ry h
  obtain ⟨F, d, e, r, hl, hd, he, hg, k⟩ := h
  have hK := o.k
  have hm := o.m
  have hz : sizeLine = lim := sizeLine_eq
  unfold binD at hg
  split at hg
  · cases hg
    exact op_add pins s σ H x y v u Q I rx ry ⟨_, _, hd.int, he.int, k.int hl⟩
  · split at hg
    · rename_i hle
      cases hg
      exact op_add_str pins s σ H x y v u Q I rx ry ⟨_, _, hd.str, he.str, by rw [hz]; exact hle, k.str hl⟩
    · cases hg
  · split at hg
    · rename_i hle
      cases hg
      obtain ⟨a, vs, rfl, s1, r1⟩ := hd.tup_inv hl
      obtain ⟨b, us, rfl, s2, r2⟩ := he.tup_inv hl
      have l1 := r1.length
      have l2 := r2.length
      refine op_catS pins s σ H _ _ v u Q I rx ry ⟨a, b, vs, us, rfl, rfl, by rw [hK]; exact s1, by rw [hK]; exact s2, by rw [l1, l2, hz]; exact hle, fun e => ?_, fun e => ?_, fun p o hp ht => k.tup hm hl (r1.append r2) p o hp ht⟩
      · have e1 : (vs : List V) = [] := e
        rw [e1] at l1
        have e2 := List.eq_nil_of_length_eq_zero l1.symm
        rw [e2] at k
        exact k.same hl (he.rep fun _ z => nomatch z)
      · have e1 : (us : List V) = [] := e
        rw [e1] at l2
        have e2 := List.eq_nil_of_length_eq_zero l2.symm
        rw [e2, List.append_nil] at k
        exact k.same hl (hd.rep fun _ z => nomatch z)
    · cases hg
  · split at hg
    · rename_i hle
      cases hg
      obtain ⟨a, vs, rfl, s1, r1⟩ := hd.lst_inv hl
      obtain ⟨b, us, rfl, s2, r2⟩ := he.lst_inv hl
      exact op_catL pins s σ H _ _ v u Q I rx ry ⟨a, b, vs, us, rfl, rfl, by rw [hK]; exact s1, by rw [hK]; exact s2, by rw [r1.length, r2.length, hz]; exact hle, fun p hp => k.lst hm hl (r1.append r2) p hp⟩
    · cases hg
  · cases hg
    exact op_sub pins s σ H x y v u Q I rx ry ⟨_, _, hd.int, he.int, k.int hl⟩
  · split at hg
    · rename_i hle
      cases hg
      exact op_mulA pins s σ H x y v u Q I rx ry ⟨_, _, hd.int, he.int, hle, k.int hl⟩
    · cases hg
  · split at hg
    · rename_i hle
      cases hg
      exact op_fdivW pins s σ H x y v u Q I rx ry ⟨_, _, hd.int, he.int, hle, k.int hl⟩
    · cases hg
  · split at hg
    · rename_i hle
      cases hg
      exact op_mod pins s σ H x y v u Q I rx ry ⟨_, _, hd.int, he.int, hle, k.int hl⟩
    · cases hg
  · split at hg
    · rename_i hle
      cases hg
      exact op_pow pins s σ H x y v u Q I rx ry ⟨_, _, hd.int, he.int, hle, k.int hl⟩
    · cases hg
  · cases hg

/-! ### comparisons -/
def rC (W : W0) (g : D → D → R Bool) : R2 := fun x y H Q => ∃ F d e r, Le F H ∧ RepL W F H d x ∧ RepL W F H e y ∧ g d e = .ok r ∧ Q (.bl r) H
mutual
theorem py_plain : ∀ {d : D} {p : PyData}, d.py = some p → p.plain = true
  | .non, _, e => by simp only [D.py, Option.some.injEq] at e; subst e; rfl
  | .bl b, _, e => by simp only [D.py, Option.some.injEq] at e; subst e; rfl
  | .int b, _, e => by simp only [D.py, Option.some.injEq] at e; subst e; rfl
  | .str b, _, e => by simp only [D.py, Option.some.injEq] at e; subst e; rfl
  | .tup ds, _, e => by
    rw [D.py] at e
    split at e
    · rename_i ps hp
      cases e
      exact pys_plain hp
    · cases e
  | .lst ds, _, e => by
    rw [D.py] at e
    split at e
    · rename_i ps hp
      cases e
      exact pys_plain hp
    · cases e
  | .obj _ _, _, e => by rw [D.py] at e; cases e
  | .clo _ _, _, e => by rw [D.py] at e; cases e
  | .fn _, _, e => by rw [D.py] at e; cases e
theorem pys_plain : ∀ {ds : List D} {ps : List PyData}, D.pys ds = some ps → PyData.plainAll ps = true
  | [], _, e => by simp only [D.pys, Option.some.injEq] at e; subst e; rfl
  | d :: ds, _, e => by
    rw [D.pys] at e
    split at e
    · rename_i p hp
      split at e
      · rename_i ps hps
        cases e
        show (p.plain && PyData.plainAll ps) = true
        rw [py_plain hp, pys_plain hps]
        rfl
      · cases e
    · cases e
end
theorem dec_V {x y : V} [Decidable (x = y)] {c : Prop} [Decidable c] (h : (x = y) ↔ c) : decide (x = y) = decide c := by
  by_cases q : c
  · rw [decide_eq_true (h.mpr q), decide_eq_true q]
  · rw [decide_eq_false (fun z => q (h.mp z)), decide_eq_false q]
theorem decVi {i j : Int} : decide (V.int i = V.int j) = decide (i = j) := dec_V (by simp)
theorem decVs {i j : Str} : decide (V.str i = V.str j) = decide (i = j) := dec_V (by simp)
theorem decVb {i j : Bool} : decide (V.bl i = V.bl j) = decide (i = j) := dec_V (by simp)
theorem op_eqA (o : Ok W X) : OpR X (compareOp .Eq) (rC W eqD) := by
  intro pins s σ H x y v u Q I rx ry h
  obtain ⟨F, d, e, r, hl, hd, he, hg, q⟩ := h
  unfold eqD at hg
  split at hg
  · cases hg
    rw [hd.int] at rx
    rw [he.int] at ry
    exact op_eq pins s σ H _ _ v u Q I rx ry ⟨rfl, by (first | rw [decVi] | rw [decVs] | rw [decVb]); exact q⟩
  · cases hg
    rw [hd.str] at rx
    rw [he.str] at ry
    exact op_eq pins s σ H _ _ v u Q I rx ry ⟨rfl, by (first | rw [decVi] | rw [decVs] | rw [decVb]); exact q⟩
  · cases hg
    rw [hd.bl] at rx
    rw [he.bl] at ry
    exact op_eq pins s σ H _ _ v u Q I rx ry ⟨rfl, by (first | rw [decVi] | rw [decVs] | rw [decVb]); exact q⟩
  · cases hg
    rw [hd.non] at rx
    rw [he.non] at ry
    exact op_eq pins s σ H _ _ v u Q I rx ry ⟨rfl, by rw [decide_eq_true rfl]; exact q⟩
  · split at hg
    · rename_i p p' hp hp'
      split at hg
      · rename_i hz
        cases hg
        obtain ⟨as, r1⟩ := hd.reads I o.k hl hp rx
        obtain ⟨bs, r2⟩ := he.reads I o.k hl hp' ry
        have := o.un
        exact SeqAt.eq_plain r1 r2 (py_plain hp) (py_plain hp') (by omega) ⟨.bl _, H, I, rfl, q⟩
      · cases hg
    · cases hg
theorem neg_ok {r : R Bool} {b : Bool} (h : r.neg = .ok b) : r = .ok (!b) := by
  cases r with
  | ok a =>
    have e : (!a) = b := by cases h; rfl
    rw [← e, Bool.not_not]
  | ex c ds => cases h
  | bad => cases h
theorem op_neA (o : Ok W X) : OpR X (compareOp .NotEq) (rC W fun a b => (eqD a b).neg) := by
  intro pins s σ H x y v u Q I rx ry h
  obtain ⟨F, d, e, r, hl, hd, he, hg, q⟩ := h
  have hg2 := neg_ok hg
  clear hg
  obtain ⟨r', rfl⟩ : ∃ r', r = !r' := ⟨!r, (Bool.not_not r).symm⟩
  rw [Bool.not_not] at hg2
  have hg := hg2
  unfold eqD at hg
  split at hg
  · cases hg
    rw [hd.int] at rx
    rw [he.int] at ry
    exact op_ne pins s σ H _ _ v u Q I rx ry ⟨rfl, by (first | rw [decVi] | rw [decVs] | rw [decVb]); exact q⟩
  · cases hg
    rw [hd.str] at rx
    rw [he.str] at ry
    exact op_ne pins s σ H _ _ v u Q I rx ry ⟨rfl, by (first | rw [decVi] | rw [decVs] | rw [decVb]); exact q⟩
  · cases hg
    rw [hd.bl] at rx
    rw [he.bl] at ry
    exact op_ne pins s σ H _ _ v u Q I rx ry ⟨rfl, by (first | rw [decVi] | rw [decVs] | rw [decVb]); exact q⟩
  · cases hg
    rw [hd.non] at rx
    rw [he.non] at ry
    exact op_ne pins s σ H _ _ v u Q I rx ry ⟨rfl, by rw [decide_eq_true rfl]; exact q⟩
  · split at hg
    · rename_i p p' hp hp'
      split at hg
      · rename_i hz
        cases hg
        obtain ⟨as, r1⟩ := hd.reads I o.k hl hp rx
        obtain ⟨bs, r2⟩ := he.reads I o.k hl hp' ry
        have := o.un
        exact SeqAt.ne_plain r1 r2 (py_plain hp) (py_plain hp') (by omega) ⟨.bl _, H, I, rfl, q⟩
      · cases hg
    · cases hg
theorem op_ltA (o : Ok W X) : OpR X (compareOp .Lt) (rC W ltD) := by
  intro pins s σ H x y v u Q I rx ry h
  obtain ⟨F, d, e, r, hl, hd, he, hg, q⟩ := h
  unfold ltD at hg
  split at hg
  · cases hg
    exact op_lt pins s σ H x y v u Q I rx ry ⟨_, _, hd.int, he.int, q⟩
  · cases hg
    exact op_lt_str pins s σ H x y v u Q I rx ry ⟨_, _, hd.str, he.str, q⟩
  · rename_i ds es
    split at hg
    · rename_i p p' hp hp'
      split at hg
      · rename_i ha
        cases hg
        obtain ⟨ha, hz⟩ := Bool.and_eq_true_iff.mp ha
        have hz := of_decide_eq_true hz
        have h1 : (D.tup ds).py = some (.tuple p) := by rw [D.py, hp]
        have h3 : (D.tup es).py = some (.tuple p') := by rw [D.py, hp']
        obtain ⟨as, r1⟩ := hd.reads I o.k hl h1 rx
        obtain ⟨bs, r2⟩ := he.reads I o.k hl h3 ry
        have := o.un
        have e1 : PyData.depth (.tuple p) = PyData.depthAll p + 1 := by rw [PyData.depth]
        have e2 : PyData.depth (.tuple p') = PyData.depthAll p' + 1 := by rw [PyData.depth]
        exact PySem.W.lt_data r1 r2 (by rw [PySem.W.alike]; exact ha) (fun z => nomatch z) (by rw [e1, e2]; omega) ⟨.bl _, H, I, rfl, q⟩
      · cases hg
    · cases hg
  · cases hg
theorem inSeq_ok {a : D} {ds : List D} {r : Bool} (h : inSeq a ds = .ok r) : ∃ p ps, a.py = some p ∧ D.pys ds = some ps ∧ min (PyData.depthAll ps) p.depth ≤ 60 ∧ r = ps.any fun z => PyData.eqv z p := by
  unfold inSeq at h
  split at h
  · rename_i p ps h1 h2
    split at h
    · rename_i hz
      cases h
      exact ⟨p, ps, h1, h2, hz, rfl⟩
    · cases h
  · cases h
theorem op_inA (o : Ok W X) : OpR X (compareOp .In) (rC W inD) := by
  intro pins s σ H x y v u Q I rx ry h
  obtain ⟨F, d, e, r, hl, hd, he, hg, q⟩ := h
  have := o.un
  unfold inD at hg
  split at hg
  · split at hg
    · cases hg
      exact op_in_sign pins s σ H x y v u Q I rx ry ⟨_, _, hd.str, he.str, q⟩
    · cases hg
  · obtain ⟨p, ps, h1, h2, hz, rfl⟩ := inSeq_ok hg
    obtain ⟨as, r1⟩ := hd.reads I o.k hl h1 rx
    obtain ⟨bs, r2⟩ := he.reads I o.k hl (show (D.lst _).py = some (.list ps) by rw [D.py, h2]) ry
    exact SeqAt.in_list_data r2 r1 (pys_plain h2) (py_plain h1) (by omega) ⟨.bl _, H, I, rfl, q⟩
  · obtain ⟨p, ps, h1, h2, hz, rfl⟩ := inSeq_ok hg
    obtain ⟨as, r1⟩ := hd.reads I o.k hl h1 rx
    obtain ⟨bs, r2⟩ := he.reads I o.k hl (show (D.tup _).py = some (.tuple ps) by rw [D.py, h2]) ry
    exact SeqAt.in_tuple_data r2 r1 (pys_plain h2) (py_plain h1) (by omega) ⟨.bl _, H, I, rfl, q⟩
  · cases hg
theorem op_ninA (o : Ok W X) : OpR X (compareOp .NotIn) (rC W fun a b => (inD a b).neg) := by
  intro pins s σ H x y v u Q I rx ry h
  obtain ⟨F, d, e, r, hl, hd, he, hg, q⟩ := h
  have hg2 := neg_ok hg
  clear hg
  obtain ⟨r', rfl⟩ : ∃ r', r = !r' := ⟨!r, (Bool.not_not r).symm⟩
  rw [Bool.not_not] at hg2
  have hg := hg2
  have := o.un
  unfold inD at hg
  split at hg
  · split at hg
    · cases hg
      exact op_notIn_sign pins s σ H x y v u Q I rx ry ⟨_, _, hd.str, he.str, q⟩
    · cases hg
  · obtain ⟨p, ps, h1, h2, hz, rfl⟩ := inSeq_ok hg
    obtain ⟨as, r1⟩ := hd.reads I o.k hl h1 rx
    obtain ⟨bs, r2⟩ := he.reads I o.k hl (show (D.lst _).py = some (.list ps) by rw [D.py, h2]) ry
    exact SeqAt.notIn_list_data r2 r1 (pys_plain h2) (py_plain h1) (by omega) ⟨.bl _, H, I, rfl, q⟩
  · obtain ⟨p, ps, h1, h2, hz, rfl⟩ := inSeq_ok hg
    obtain ⟨as, r1⟩ := hd.reads I o.k hl h1 rx
    obtain ⟨bs, r2⟩ := he.reads I o.k hl (show (D.tup _).py = some (.tuple ps) by rw [D.py, h2]) ry
    exact SeqAt.notIn_tuple_data r2 r1 (pys_plain h2) (py_plain h1) (by omega) ⟨.bl _, H, I, rfl, q⟩
  · cases hg
theorem RepL.isNone {F H : Hp} {d : D} {v : V} (h : RepL W F H d v) : decide (v = .non) = isNone d := by
  cases d with
  | non => rw [h.non]; exact decide_eq_true rfl
  | bl b => rw [h.bl]; exact decide_eq_false fun z => nomatch z
  | int b => rw [h.int]; exact decide_eq_false fun z => nomatch z
  | str b => rw [h.str]; exact decide_eq_false fun z => nomatch z
  | tup ds =>
    obtain ⟨a, vs, rfl, _⟩ := (h.rep fun _ z => nomatch z).tup_inv
    exact decide_eq_false fun z => nomatch z
  | lst ds =>
    rcases h with h | ⟨p, es, vs, e, rfl, _⟩
    · obtain ⟨a, vs, rfl, _⟩ := h.lst_inv
      exact decide_eq_false fun z => nomatch z
    · exact decide_eq_false fun z => nomatch z
  | obj c ds =>
    obtain ⟨a, dx, vs, rfl, _⟩ := (h.rep fun _ z => nomatch z).obj_inv
    exact decide_eq_false fun z => nomatch z
  | clo c ds =>
    obtain ⟨a, vs, cs, F0, rfl, _⟩ := (h.rep fun _ z => nomatch z).clo_inv
    exact decide_eq_false fun z => nomatch z
  | fn f => rw [(h.rep fun _ z => nomatch z).fn_inv]; exact decide_eq_false fun z => nomatch z
def copOf : Cop → CmpOp
  | .eq => .Eq | .ne => .NotEq | .lt => .Lt | .le => .LtE | .gt => .Gt | .ge => .GtE | .isn => .Is | .isnt => .IsNot | .inn => .In | .nin => .NotIn
theorem op_cmp (o : Ok W X) (c : Cop) : OpR X (compareOp (copOf c)) (rC W (cmpD c)) := by
  intro pins s σ H x y v u Q I rx ry h
  obtain ⟨F, d, e, r, hl, hd, he, hg, q⟩ := h
  unfold cmpD at hg
  split at hg
  · exact op_eqA o pins s σ H x y v u Q I rx ry ⟨F, _, _, r, hl, hd, he, hg, q⟩
  · exact op_neA o pins s σ H x y v u Q I rx ry ⟨F, _, _, r, hl, hd, he, hg, q⟩
  · exact op_ltA o pins s σ H x y v u Q I rx ry ⟨F, _, _, r, hl, hd, he, hg, q⟩
  · cases hg
    exact op_gt pins s σ H x y v u Q I rx ry ⟨_, _, hd.int, he.int, q⟩
  · cases hg
    exact op_le pins s σ H x y v u Q I rx ry ⟨_, _, hd.int, he.int, q⟩
  · cases hg
    exact op_ge pins s σ H x y v u Q I rx ry ⟨_, _, hd.int, he.int, q⟩
  · cases hg
    exact op_le_str pins s σ H x y v u Q I rx ry ⟨_, _, hd.str, he.str, q⟩
  · cases hg
    exact op_gt_str pins s σ H x y v u Q I rx ry ⟨_, _, hd.str, he.str, q⟩
  · cases hg
    exact op_ge_str pins s σ H x y v u Q I rx ry ⟨_, _, hd.str, he.str, q⟩
  · cases hg
    exact op_isN pins s σ H x y v u Q I rx ry ⟨he.non, by rw [hd.isNone]; exact q⟩
  · cases hg
    exact op_notN pins s σ H x y v u Q I rx ry ⟨he.non, by rw [hd.isNone]; exact q⟩
  · exact op_inA o pins s σ H x y v u Q I rx ry ⟨F, _, _, r, hl, hd, he, hg, q⟩
  · exact op_ninA o pins s σ H x y v u Q I rx ry ⟨F, _, _, r, hl, hd, he, hg, q⟩
  · cases hg
end
end Pu

set_option Elab.async false
set_option linter.all false
set_option maxRecDepth 100000
set_option maxHeartbeats 2000000
set_option autoImplicit false
/-! Pu, D: subscripts, slices, built-in functions and methods by values. -/
namespace Pu
open PySem PySem.Spec PyProof.Rows L2
section
variable {W : W0} {X : Cx} {F H : Hp}
theorem limz : sizeLine = lim := sizeLine_eq
theorem atI_some {α : Type} {xs : List α} {i : Int} {x : α} (h : atI xs i = some x) : ∃ j, ixN xs.length i = some j ∧ xs[j]? = some x := by
  unfold atI at h
  cases e : ixN xs.length i with
  | none => rw [e] at h; cases h
  | some j => rw [e] at h; exact ⟨j, rfl, h⟩
theorem Reps.atI {ds : List D} {vs : List V} {i : Int} {d : D} (h : Reps W F ds vs) (e : L2.atI ds i = some d) : ∃ v, L2.atI vs i = some v ∧ Rep W F d v := by
  obtain ⟨j, e1, e2⟩ := atI_some e
  obtain ⟨v, h1, h2⟩ := h.get e2
  refine ⟨v, ?_, h2⟩
  unfold L2.atI
  rw [h.length, e1]
  exact h1
theorem ix_A (o : Ok W X) : IxR X (rB W idxD) := by
  intro value slice pins s σ H x y v u Q I rx ry h hs
  obtain ⟨F, d, e, r, hl, hd, he, hg, k⟩ := h
  unfold idxD at hg
  split at hg
  · have hg := R.of_ok hg
    obtain ⟨a, vs, rfl, s1, r1⟩ := hd.lst_inv hl
    obtain ⟨z, h1, h2⟩ := r1.atI hg
    exact ix_list value slice pins s σ H _ y v u Q I rx ry ⟨a, vs, _, z, rfl, he.int, by rw [o.k]; exact s1, h1, k.same hl h2⟩ hs
  · have hg := R.of_ok hg
    obtain ⟨a, vs, rfl, s1, r1⟩ := hd.tup_inv hl
    obtain ⟨z, h1, h2⟩ := r1.atI hg
    exact ix_tup value slice pins s σ H _ y v u Q I rx ry ⟨a, vs, _, z, rfl, he.int, by rw [o.k]; exact s1, h1, k.same hl h2⟩ hs
  · split at hg
    · rename_i hz
      have hg := R.of_ok hg
      obtain ⟨c, hc, rfl⟩ := Option.map_eq_some_iff.mp hg
      exact ix_str value slice pins s σ H x y v u Q I rx ry ⟨_, _, c, hd.str, he.int, by rw [limz]; exact hz, hc, k.str hl⟩ hs
    · cases hg
  · cases hg
theorem Reps.cut {ds : List D} {vs : List V} (h : Reps W F ds vs) (lo hi : Option Int) : Reps W F (cutD ds lo hi) (cutV vs lo hi) := by
  unfold cutD cutV
  rw [h.length]
  exact (h.drop _).take _
theorem sl_S {X : Cx} : SlR X (fun x lo hi H Q => ∃ a xs, x = .ref a ∧ SqT X.K H a xs ∧ (HT.sIx xs.length 0 lo = 0 ∧ HT.sIx xs.length xs.length hi = xs.length → Q (.ref a) H) ∧
    ∀ p o, H p = none → TupO o → Q (.ref p) (upd H p (.frz o (.tup (cutV xs lo hi))))) := by
  intro pins s σ H x v vl vu lo hi sl Q I rx hs pl pu h
  obtain ⟨a, xs, rfl, hx, q1, q2⟩ := h
  cases rx
  obtain ⟨its, r, ht, hz⟩ := I.tuple hx
  have hlen : its.toArray.size = xs.length := by rw [List.size_toArray]; exact r.length.symm
  refine ⟨"tuple", _, PyProof.Rows.slot_tuple_getitem.lookup, ht.typeIs, ?_⟩
  by_cases hw : HT.sIx xs.length 0 lo = 0 ∧ HT.sIx xs.length xs.length hi = xs.length
  · exact getItem_tuple_whole ht hs pl pu (by rw [hlen]; exact hw) ⟨.ref a, H, I, rfl, q1 hw⟩
  · refine HT.getItem_tuple_cut ht hs pl pu (by rw [hlen]; exact hw) ?_ (by rw [hlen]; exact hz)
    rw [hlen]
    exact ⟨.ref s.heap.objs.size, _, tup_laid (t' := s.toks) I ((r.drop (HT.sIx xs.length 0 lo)).take (HT.sIx xs.length xs.length hi - HT.sIx xs.length 0 lo)) (Nat.le_trans (cutV_length xs lo hi) hz), rfl, q2 _ _ (I.hok.fresh (Nat.le_refl _)) ⟨rfl, rfl⟩⟩
def rSlc (W : W0) : V → Option Int → Option Int → Hp → VK → Prop := fun x lo hi H Q => ∃ F d r, Le F H ∧ RepL W F H d x ∧ slcD d lo hi = .ok r ∧ Kont W F H r Q
theorem sl_A (o : Ok W X) : SlR X (rSlc W) := by
  intro pins s σ H x v vl vu lo hi sl Q I rx hs pl pu h
  obtain ⟨F, d, r, hl, hd, hg, k⟩ := h
  unfold slcD at hg
  split at hg
  · cases hg
    obtain ⟨a, vs, rfl, s1, r1⟩ := hd.lst_inv hl
    exact sl_list pins s σ H _ v vl vu lo hi sl Q I rx hs pl pu ⟨a, vs, rfl, by rw [o.k]; exact s1, fun p hp => k.lst o.m hl (r1.cut lo hi) p hp⟩
  · cases hg
    obtain ⟨a, vs, rfl, s0, r1⟩ := (hd.rep fun _ z => nomatch z).tup_sld
    have s1 := hl.seqT s0.sq
    refine sl_S pins s σ H _ v vl vu lo hi sl Q I rx hs pl pu ⟨a, vs, rfl, by rw [o.k]; exact s1, fun hw => ?_, fun p o2 hp ht => k.tup o.m hl (r1.cut lo hi) p o2 hp ht⟩
    refine k.same hl (.tup (a := a) (vs := vs) ?_ ?_)
    · exact s0
    · have h2 := r1.cut lo hi
      have e3 : cutV vs lo hi = vs := by
        unfold cutV
        rw [hw.1, hw.2]
        simp
      rw [e3] at h2
      exact h2
  · split at hg
    · rename_i hz
      cases hg
      exact sl_str pins s σ H _ v vl vu lo hi sl Q I rx hs pl pu ⟨_, hd.str, by rw [limz]; exact hz, k.same hl .str⟩
    · cases hg
  · cases hg

/-! ### built-in functions -/
def rG (W : W0) (g : List D → R D) : List V → Hp → VK → Prop := fun xs H Q => ∃ F ds r, Le F H ∧ RepLs W F H ds xs ∧ g ds = .ok r ∧ Kont W F H r Q
theorem RepLs.one {d : D} {xs : List V} (h : RepLs W F H [d] xs) : ∃ x, xs = [x] ∧ RepL W F H d x := by
  cases h with
  | cons r t => cases t; exact ⟨_, rfl, r⟩
theorem RepLs.two {d e : D} {xs : List V} (h : RepLs W F H [d, e] xs) : ∃ x y, xs = [x, y] ∧ RepL W F H d x ∧ RepL W F H e y := by
  cases h with
  | cons r t =>
    obtain ⟨y, rfl, r2⟩ := RepLs.one t
    exact ⟨_, _, rfl, r, r2⟩
theorem intsD_eq : ∀ {ds : List D} {is : List Int}, intsD ds = some is → ds = is.map D.int
  | [], _, h => by unfold intsD at h; cases h; rfl
  | d :: ds, is, h => by
    unfold intsD at h
    split at h
    · rename_i hn
      cases hn
    · rename_i i ds' he
      cases he
      obtain ⟨is', h1, rfl⟩ := Option.map_eq_some_iff.mp h
      rw [intsD_eq h1]
      rfl
    · cases h
theorem boolsD_eq : ∀ {ds : List D} {bs : List Bool}, boolsD ds = some bs → ds = bs.map D.bl
  | [], _, h => by unfold boolsD at h; cases h; rfl
  | d :: ds, is, h => by
    unfold boolsD at h
    split at h
    · rename_i hn
      cases hn
    · rename_i i ds' he
      cases he
      obtain ⟨is', h1, rfl⟩ := Option.map_eq_some_iff.mp h
      rw [boolsD_eq h1]
      rfl
    · cases h
theorem Reps.intsV : ∀ {is : List Int} {vs : List V}, Reps W F (is.map D.int) vs → vs = is.map V.int
  | [], vs, h => h.nil_inv
  | i :: is, vs, h => by
    obtain ⟨v, r, rfl, h1, h2⟩ := h.cons_inv
    rw [h1.int_inv, Reps.intsV h2]
    rfl
theorem Reps.blsV : ∀ {is : List Bool} {vs : List V}, Reps W F (is.map D.bl) vs → vs = is.map V.bl
  | [], vs, h => h.nil_inv
  | i :: is, vs, h => by
    obtain ⟨v, r, rfl, h1, h2⟩ := h.cons_inv
    rw [h1.bl_inv, Reps.blsV h2]
    rfl
theorem seqD_cases {d : D} {ds : List D} (h : seqD d = some ds) : d = .lst ds ∨ d = .tup ds := by
  cases d with
  | lst es => cases h; exact .inl rfl
  | tup es => cases h; exact .inr rfl
  | _ => cases h
theorem preSum_list : ∀ (ns : List Int) (n : Nat), n ≤ ns.length → PySem.preSum (fun i => ns.getD i 0) n = (ns.take n).sum := by
  intro ns n
  induction n with
  | zero => intro _; simp [PySem.preSum]
  | succ n ih =>
    intro h
    rw [PySem.preSum, ih (by omega), List.take_add_one, List.sum_append]
    have : ns[n]? = some ns[n] := List.getElem?_eq_getElem (by omega)
    rw [this]
    simp [List.getD, this]
theorem call_sumA (o : Ok W X) : CallR X (.builtin "sum") (rG W (biD .sum)) := by
  intro pins s σ H xs us Q I r h
  obtain ⟨F, ds, d, hl, hd, hg, k⟩ := h
  unfold biD at hg
  split at hg
  all_goals try contradiction
  rename_i a _
  split at hg
  · rename_i is his
    cases hg
    obtain ⟨x, rfl, hx⟩ := hd.one
    cases hs : seqD a with
    | none => rw [hs] at his; cases his
    | some es =>
      rw [hs] at his
      have e := intsD_eq (show intsD es = some is from his)
      subst e
      have fin : ∀ {h' : Heap} {tk : Nat} {t' : Tok}, (∀ b o, s.heap.get? b = some o → h'.get? b = some o) → EP X pins σ Q (.int is.sum t') { s with heap := h', toks := tk } := fun hk => ⟨.int _, H, I.kept hk, ⟨_, rfl⟩, k.int hl⟩
      rcases seqD_cases hs with rfl | rfl
      · obtain ⟨p, vs, rfl, s1, r1⟩ := hx.lst_inv hl
        rw [r1.intsV] at s1
        exact cr_sum o.calm pins s σ H _ us Q I r ⟨p, is, rfl, by rw [o.k]; exact s1, k.int hl⟩
      · obtain ⟨p, vs, rfl, s1, r1⟩ := hx.tup_inv hl
        rw [r1.intsV] at s1
        rw [Vals.ref1 r]
        obtain ⟨its, rv, hit, _⟩ := I.tuple (by rw [o.k]; exact s1)
        have hi := rv.ints
        have hlen := hi.length
        refine call_sum_walkAnyS (PySem.W.iter_tupleW (A := X.A.in1) (o.hd I) hit fun s₂ e2 Wk st hfp hw hk => ?_)
        refine ⟨_, _, _, _, _, _, _, fun i => is.getD i 0, rfl, Wk, st, hfp, fun i v hv => ?_, fun s' t' m => ?_⟩
        · obtain ⟨z, h1, h2⟩ := rv.get (i := i) (x := .int (is.getD i 0)) (by
            have hlt : i < its.length := by
              have := (Array.getElem?_eq_some_iff.mp hv).1
              simpa using this
            rw [hlen] at hlt
            rw [List.getElem?_map, List.getElem?_eq_getElem hlt]
            simp [List.getD, List.getElem?_eq_getElem hlt])
          have e3 : its[i]? = some v := by simpa using hv
          rw [h1] at e3
          cases e3
          exact h2
        · obtain ⟨h', tk, rfl, hk'⟩ := PySem.W.moved_old e2 rfl m
          have e4 : PySem.preSum (fun i => is.getD i 0) its.toArray.size = is.sum := by
            rw [List.size_toArray, hlen, preSum_list is is.length (Nat.le_refl _), List.take_length]
          rw [e4]
          exact fin hk'
  · cases hg

theorem Reps.list_its (o : Ok W X) {pins : List (Addr × Obj)} {σ : L2.St} {s : Shared} {p : Addr} {vs : List V} (I : Inv X pins σ H s) (h : SqL W.K H p vs) : ∃ its : List Value, Vals vs its ∧ s.heap.IsList p its.toArray ∧ vs.length ≤ lim := by
  obtain ⟨its, rv, hl, hz⟩ := I.list (by rw [o.k]; exact h)
  exact ⟨its, rv, hl.isList, by rw [← limz]; exact hz⟩
theorem Reps.tup_its (o : Ok W X) {pins : List (Addr × Obj)} {σ : L2.St} {s : Shared} {p : Addr} {vs : List V} (I : Inv X pins σ H s) (h : SqT W.K H p vs) : ∃ its : List Value, Vals vs its ∧ s.heap.IsTuple p its.toArray ∧ vs.length ≤ lim := by
  obtain ⟨its, rv, hl, hz⟩ := I.tuple (by rw [o.k]; exact h)
  exact ⟨its, rv, hl, by rw [← limz]; exact hz⟩
theorem pys_bls : ∀ bs : List Bool, D.pys (bs.map D.bl) = some (bs.map PyData.bool)
  | [] => rfl
  | b :: bs => by
    show (match D.py (.bl b) with | some p => (match D.pys (bs.map D.bl) with | some ps => some (p :: ps) | none => none) | none => none) = _
    rw [pys_bls bs]
    rfl
theorem any_bls (bs : List Bool) : (bs.map PyData.bool).any PyData.truthy = bs.any id := by
  rw [List.any_map]
  rfl
theorem all_bls (bs : List Bool) : (bs.map PyData.bool).all PyData.truthy = bs.all id := by
  rw [List.all_map]
  rfl
theorem fits_bls (bs : List Bool) : ∀ x ∈ bs.map PyData.bool, x.fits63 := fun x hx => by
  obtain ⟨b, _, rfl⟩ := List.mem_map.mp hx
  exact True.intro
theorem call_allA (o : Ok W X) : CallR X (.builtin "all") (rG W (biD .all)) := by
  intro pins s σ H xs us Q I r h
  obtain ⟨F, ds, d, hl, hd, hg, k⟩ := h
  unfold biD at hg
  split at hg
  all_goals try contradiction
  rename_i a _
  split at hg
  · rename_i bs his
    cases hg
    obtain ⟨x, rfl, hx⟩ := hd.one
    cases hs : seqD a with
    | none => rw [hs] at his; cases his
    | some es =>
      rw [hs] at his
      have e := boolsD_eq (show boolsD es = some bs from his)
      subst e
      rcases seqD_cases hs with rfl | rfl
      · obtain ⟨p, vs, rfl, s1, r1⟩ := hx.lst_inv hl
        obtain ⟨its, rv, hit, _⟩ := Reps.list_its o I s1
        obtain ⟨as, ra⟩ := r1.readsAll I o.k hl (pys_bls bs) rv
        rw [Vals.ref1 r]
        refine PySem.W.all_list_data (o.hd I) hit (by simpa using ra) (pys_plain (pys_bls bs)) (fits_bls bs) fun h' tk hk => ?_
        rw [all_bls]
        exact ⟨.bl _, H, I.kept hk, rfl, k.bl hl⟩
      · obtain ⟨p, vs, rfl, s1, r1⟩ := hx.tup_inv hl
        obtain ⟨its, rv, hit, _⟩ := Reps.tup_its o I s1
        obtain ⟨as, ra⟩ := r1.readsAll I o.k hl (pys_bls bs) rv
        rw [Vals.ref1 r]
        refine PySem.W.all_tuple_data (o.hd I) hit (by simpa using ra) (pys_plain (pys_bls bs)) (fits_bls bs) fun h' tk hk => ?_
        rw [all_bls]
        exact ⟨.bl _, H, I.kept hk, rfl, k.bl hl⟩
  · cases hg
theorem call_anyA (o : Ok W X) : CallR X (.builtin "any") (rG W (biD .any)) := by
  intro pins s σ H xs us Q I r h
  obtain ⟨F, ds, d, hl, hd, hg, k⟩ := h
  unfold biD at hg
  split at hg
  all_goals try contradiction
  rename_i a _
  split at hg
  · rename_i bs his
    cases hg
    obtain ⟨x, rfl, hx⟩ := hd.one
    cases hs : seqD a with
    | none => rw [hs] at his; cases his
    | some es =>
      rw [hs] at his
      have e := boolsD_eq (show boolsD es = some bs from his)
      subst e
      rcases seqD_cases hs with rfl | rfl
      · obtain ⟨p, vs, rfl, s1, r1⟩ := hx.lst_inv hl
        obtain ⟨its, rv, hit, _⟩ := Reps.list_its o I s1
        obtain ⟨as, ra⟩ := r1.readsAll I o.k hl (pys_bls bs) rv
        rw [Vals.ref1 r]
        refine PySem.W.any_list_data (o.hd I) hit (by simpa using ra) (pys_plain (pys_bls bs)) (fits_bls bs) fun h' tk hk => ?_
        rw [any_bls]
        exact ⟨.bl _, H, I.kept hk, rfl, k.bl hl⟩
      · obtain ⟨p, vs, rfl, s1, r1⟩ := hx.tup_inv hl
        obtain ⟨its, rv, hit, _⟩ := Reps.tup_its o I s1
        obtain ⟨as, ra⟩ := r1.readsAll I o.k hl (pys_bls bs) rv
        rw [Vals.ref1 r]
        refine PySem.W.any_tuple_data (o.hd I) hit (by simpa using ra) (pys_plain (pys_bls bs)) (fits_bls bs) fun h' tk hk => ?_
        rw [any_bls]
        exact ⟨.bl _, H, I.kept hk, rfl, k.bl hl⟩
  · cases hg
theorem call_lenA (o : Ok W X) : CallR X (.builtin "len") (rG W (biD .len)) := by
  intro pins s σ H xs us Q I r h
  obtain ⟨F, ds, d, hl, hd, hg, k⟩ := h
  unfold biD at hg
  split at hg
  all_goals try contradiction
  · cases hg
    obtain ⟨x, rfl, hx⟩ := hd.one
    obtain ⟨p, vs, rfl, s1, r1⟩ := hx.lst_inv hl
    exact call_len_seq pins s σ H _ us Q I r ⟨p, vs, rfl, .inl (by rw [o.k]; exact s1), by rw [r1.length]; exact k.int hl⟩
  · cases hg
    obtain ⟨x, rfl, hx⟩ := hd.one
    obtain ⟨p, vs, rfl, s1, r1⟩ := hx.tup_inv hl
    exact call_len_seq pins s σ H _ us Q I r ⟨p, vs, rfl, .inr (by rw [o.k]; exact s1), by rw [r1.length]; exact k.int hl⟩
  · split at hg
    · rename_i hz
      cases hg
      obtain ⟨x, rfl, hx⟩ := hd.one
      rw [hx.str] at r
      exact call_len_str pins s σ H _ us Q I r ⟨_, rfl, by rw [limz]; exact hz, k.int hl⟩
    · cases hg
theorem call_absA (o : Ok W X) : CallR X (.builtin "abs") (rG W (biD .abs)) := by
  intro pins s σ H xs us Q I r h
  obtain ⟨F, ds, d, hl, hd, hg, k⟩ := h
  unfold biD at hg
  split at hg
  all_goals try contradiction
  cases hg
  obtain ⟨x, rfl, hx⟩ := hd.one
  rw [hx.int] at r
  exact call_abs pins s σ H _ us Q I r ⟨_, rfl, k.int hl⟩
theorem call_intA (o : Ok W X) : CallR X (.type "int") (rG W (biD .int)) := by
  intro pins s σ H xs us Q I r h
  obtain ⟨F, ds, d, hl, hd, hg, k⟩ := h
  unfold biD at hg
  split at hg
  all_goals try contradiction
  · cases hg
    obtain ⟨x, rfl, hx⟩ := hd.one
    rw [hx.int] at r
    exact call_int1 pins s σ H _ us Q I r (.inl ⟨_, rfl, k.int hl⟩)
  · cases hg
    obtain ⟨x, rfl, hx⟩ := hd.one
    rw [hx.bl] at r
    exact call_int1 pins s σ H _ us Q I r (.inr ⟨_, rfl, k.int hl⟩)
theorem call_min2A (o : Ok W X) : CallR X (.builtin "min") (rG W (biD .min2)) := by
  intro pins s σ H xs us Q I r h
  obtain ⟨F, ds, d, hl, hd, hg, k⟩ := h
  unfold biD at hg
  split at hg
  all_goals try contradiction
  cases hg
  obtain ⟨x, y, rfl, hx, hy⟩ := hd.two
  rw [hx.int, hy.int] at r
  exact call_min2 o.calm pins s σ H _ us Q I r ⟨_, _, rfl, k.int hl⟩
theorem call_max2A (o : Ok W X) : CallR X (.builtin "max") (rG W (biD .max2)) := by
  intro pins s σ H xs us Q I r h
  obtain ⟨F, ds, d, hl, hd, hg, k⟩ := h
  unfold biD at hg
  split at hg
  all_goals try contradiction
  cases hg
  obtain ⟨x, y, rfl, hx, hy⟩ := hd.two
  rw [hx.int, hy.int] at r
  exact call_max2 o.calm pins s σ H _ us Q I r ⟨_, _, rfl, k.int hl⟩
theorem call_gcdA (o : Ok W X) : CallR X (.builtin "math.gcd") (rG W (biD .gcd)) := by
  intro pins s σ H xs us Q I r h
  obtain ⟨F, ds, d, hl, hd, hg, k⟩ := h
  unfold biD at hg
  split at hg
  all_goals try contradiction
  cases hg
  obtain ⟨x, y, rfl, hx, hy⟩ := hd.two
  rw [hx.int, hy.int] at r
  exact cr_gcd pins s σ H _ us Q I r ⟨_, _, rfl, k.int hl⟩
theorem cr_divmodS {X : Cx} : CallR X (.builtin "divmod") (fun xs H Q => ∃ i j : Int, xs = [.int i, .int j] ∧ 0 < j ∧ j.natAbs < 1073741824 ∧ ∀ p o, H p = none → TupO o → Q (.ref p) (upd H p (.frz o (.tup [.int (i / j), .int (i % j)])))) := by
  intro pins s σ H xs us Q I r h
  obtain ⟨i, j, rfl, h1, h2, q⟩ := h
  obtain ⟨u, w', rfl, ⟨t, rfl⟩, ⟨t', rfl⟩⟩ := vals2 r
  refine divmod_int (by omega) ?_ (.inl (PyProof.noPylong_small h2))
  rw [Int.fdiv_eq_ediv_of_nonneg i (by omega), Int.fmod_eq_emod_of_nonneg i (by omega)]
  have hn : H s.heap.objs.size = none := I.hok.fresh (Nat.le_refl _)
  refine ⟨.ref s.heap.objs.size, _, tup_laid (t' := s.toks + 1 + 1) (xs := [V.int (i / j), V.int (i % j)]) (its := [Value.int (i / j) s.toks, Value.int (i % j) (s.toks + 1)]) I ?_ ?_, rfl, q _ _ hn ⟨rfl, rfl⟩⟩
  · exact Paired.cons ⟨s.toks, rfl⟩ (.cons ⟨s.toks + 1, rfl⟩ .nil)
  · simp only [List.length_cons, List.length_nil]
    rw [sizeLine_eq]
    decide
theorem call_divmodA (o : Ok W X) : CallR X (.builtin "divmod") (rG W (biD .divmod)) := by
  intro pins s σ H xs us Q I r h
  obtain ⟨F, ds, d, hl, hd, hg, k⟩ := h
  unfold biD at hg
  split at hg
  all_goals try contradiction
  split at hg
  · rename_i hz
    cases hg
    obtain ⟨x, y, rfl, hx, hy⟩ := hd.two
    rw [hx.int, hy.int] at r
    exact cr_divmodS pins s σ H _ us Q I r ⟨_, _, rfl, hz.1, hz.2, k.tup o.m hl (.cons .int (.cons .int .nil))⟩
  · cases hg
theorem call_tupleA (o : Ok W X) : CallR X (.type "tuple") (rG W (biD .tuple)) := by
  intro pins s σ H xs us Q I r h
  obtain ⟨F, ds, d, hl, hd, hg, k⟩ := h
  unfold biD at hg
  split at hg
  all_goals try contradiction
  · cases hg
    obtain ⟨x, rfl, hx⟩ := hd.one
    obtain ⟨p, vs, rfl, s1, r1⟩ := hx.lst_inv hl
    obtain ⟨u, rfl, rx⟩ := vals1 r
    cases rx
    obtain ⟨its, r', pl, hz⟩ := I.list (by rw [o.k]; exact s1)
    have hlen := r'.length
    refine call_tuple_list pl.isList (fun h' kp => ?_) (by simp only [List.size_toArray] <;> omega)
    have I1 : Inv X pins σ H { s with heap := h' } := I.kept (t' := s.toks) kp
    exact ⟨.ref h'.objs.size, _, tup_laid (t' := s.toks) I1 r' hz, rfl, k.tup o.m hl r1 _ _ (I1.hok.fresh (Nat.le_refl _)) ⟨rfl, rfl⟩⟩
  · cases hg
    obtain ⟨x, rfl, hx⟩ := hd.one
    obtain ⟨p, vs, rfl, s1, r1⟩ := hx.tup_inv hl
    exact call_tuple_of pins s σ H _ us Q I r ⟨p, vs, rfl, .inr ⟨by rw [o.k]; exact s1, k.same hl (hx.rep fun _ z => nomatch z)⟩⟩
/-- what follows where a list is new, at any free place -/
def KontL (W : W0) (F H : Hp) (r : D) (Q : VK) : Prop := ∀ es vs, r = .lst es → Reps W F es vs → ∀ p, H p = none → Q (.ref p) (upd H p (.lst vs))
def rGo (W : W0) (g : List D → R D) : List V → Hp → VK → Prop := fun xs H Q => ∃ F ds r, Le F H ∧ RepLs W F H ds xs ∧ g ds = .ok r ∧ KontL W F H r Q
theorem call_listA (o : Ok W X) : CallR X (.type "list") (rGo W (biD .list)) := by
  intro pins s σ H xs us Q I r h
  obtain ⟨F, ds, d, hl, hd, hg, k⟩ := h
  unfold biD at hg
  split at hg
  all_goals try contradiction
  · cases hg
    obtain ⟨x, rfl, hx⟩ := hd.one
    obtain ⟨p, vs, rfl, s1, r1⟩ := hx.lst_inv hl
    exact call_list_of pins s σ H _ us Q I r ⟨p, vs, rfl, .inl (by rw [o.k]; exact s1), fun q hq => k _ vs rfl r1 q hq⟩
  · cases hg
    obtain ⟨x, rfl, hx⟩ := hd.one
    obtain ⟨p, vs, rfl, s1, r1⟩ := hx.tup_inv hl
    exact call_list_of pins s σ H _ us Q I r ⟨p, vs, rfl, .inr (by rw [o.k]; exact s1), fun q hq => k _ vs rfl r1 q hq⟩
end
end Pu

set_option Elab.async false
set_option linter.all false
set_option maxRecDepth 100000
set_option maxHeartbeats 2000000
set_option autoImplicit false
/-! Pu, E: least, greatest, sorted, count, index, split, isinstance by values. -/
namespace Pu
open PySem PySem.Spec PyProof.Rows L2
mutual
theorem py_inj : ∀ {d e : D} {p : PyData}, d.py = some p → e.py = some p → d = e
  | .non, e, _, h1, h2 => by
    simp only [D.py, Option.some.injEq] at h1; subst h1
    cases e <;> rw [D.py] at h2 <;> first | rfl | (cases h2; done) | (split at h2 <;> cases h2)
  | .bl b, e, _, h1, h2 => by
    simp only [D.py, Option.some.injEq] at h1; subst h1
    cases e <;> rw [D.py] at h2 <;> first | (cases h2; rfl) | (cases h2; done) | (split at h2 <;> cases h2)
  | .int b, e, _, h1, h2 => by
    simp only [D.py, Option.some.injEq] at h1; subst h1
    cases e <;> rw [D.py] at h2 <;> first | (cases h2; rfl) | (cases h2; done) | (split at h2 <;> cases h2)
  | .str b, e, _, h1, h2 => by
    simp only [D.py, Option.some.injEq] at h1; subst h1
    cases e <;> rw [D.py] at h2 <;> first | (cases h2; rfl) | (cases h2; done) | (split at h2 <;> cases h2)
  | .tup ds, e, _, h1, h2 => by
    rw [D.py] at h1
    split at h1
    · rename_i ps hp
      cases h1
      cases e with
      | tup es =>
        rw [D.py] at h2
        split at h2
        · rename_i qs hq
          cases h2
          rw [pys_inj hp hq]
        · cases h2
      | lst es => rw [D.py] at h2; split at h2 <;> cases h2
      | _ => rw [D.py] at h2; cases h2
    · cases h1
  | .lst ds, e, _, h1, h2 => by
    rw [D.py] at h1
    split at h1
    · rename_i ps hp
      cases h1
      cases e with
      | lst es =>
        rw [D.py] at h2
        split at h2
        · rename_i qs hq
          cases h2
          rw [pys_inj hp hq]
        · cases h2
      | tup es => rw [D.py] at h2; split at h2 <;> cases h2
      | _ => rw [D.py] at h2; cases h2
    · cases h1
  | .obj _ _, _, _, h1, _ => by rw [D.py] at h1; cases h1
  | .clo _ _, _, _, h1, _ => by rw [D.py] at h1; cases h1
  | .fn _, _, _, h1, _ => by rw [D.py] at h1; cases h1
theorem pys_inj : ∀ {ds es : List D} {ps : List PyData}, D.pys ds = some ps → D.pys es = some ps → ds = es
  | [], es, _, h1, h2 => by
    simp only [D.pys, Option.some.injEq] at h1; subst h1
    cases es with
    | nil => rfl
    | cons e es =>
      rw [D.pys] at h2
      split at h2
      · split at h2 <;> cases h2
      · cases h2
  | d :: ds, es, _, h1, h2 => by
    rw [D.pys] at h1
    split at h1
    · rename_i p hp
      split at h1
      · rename_i ps hps
        cases h1
        cases es with
        | nil => rw [D.pys] at h2; cases h2
        | cons e es =>
          rw [D.pys] at h2
          split at h2
          · rename_i q hq
            split at h2
            · rename_i qs hqs
              cases h2
              rw [py_inj hp hq, pys_inj hps hqs]
            · cases h2
          · cases h2
      · cases h1
    · cases h1
end
theorem pyd_some {d : D} {p : PyData} (h : d.py = some p) : pyd d = p := by unfold pyd; rw [h]; rfl
theorem pys_cons {d : D} {ds : List D} {qs : List PyData} (h : D.pys (d :: ds) = some qs) : ∃ p ps, qs = p :: ps ∧ d.py = some p ∧ D.pys ds = some ps := by
  rw [D.pys] at h
  split at h
  · rename_i p hp
    split at h
    · rename_i ps hps
      cases h
      exact ⟨p, ps, rfl, hp, hps⟩
    · cases h
  · cases h
theorem least_py : ∀ {ds : List D} {d : D} {p : PyData} {ps : List PyData}, d.py = some p → D.pys ds = some ps → (leastD d ds).py = some (PySem.W.minD p ps)
  | [], d, p, ps, h1, h2 => by
    simp only [D.pys, Option.some.injEq] at h2; subst h2
    exact h1
  | e :: ds, d, p, ps, h1, h2 => by
    obtain ⟨q, qs, rfl, h3, h4⟩ := pys_cons h2
    show (leastD (if PySem.W.dataLt (pyd e) (pyd d) then e else d) ds).py = some (PySem.W.minD (if PySem.W.dataLt q p then q else p) qs)
    rw [pyd_some h3, pyd_some h1]
    split
    · exact least_py h3 h4
    · exact least_py h1 h4
theorem most_py : ∀ {ds : List D} {d : D} {p : PyData} {ps : List PyData}, d.py = some p → D.pys ds = some ps → (mostD d ds).py = some (PySem.W.maxD p ps)
  | [], d, p, ps, h1, h2 => by
    simp only [D.pys, Option.some.injEq] at h2; subst h2
    exact h1
  | e :: ds, d, p, ps, h1, h2 => by
    obtain ⟨q, qs, rfl, h3, h4⟩ := pys_cons h2
    show (mostD (if PySem.W.dataLt (pyd d) (pyd e) then e else d) ds).py = some (PySem.W.maxD (if PySem.W.dataLt p q then q else p) qs)
    rw [pyd_some h3, pyd_some h1]
    split
    · exact most_py h3 h4
    · exact most_py h1 h4
theorem depthAll_le : ∀ {ps : List PyData} {n : Nat}, (∀ p ∈ ps, p.depth ≤ n) → PyData.depthAll ps ≤ n
  | [], n, _ => by simp [PyData.depthAll]
  | p :: ps, n, h => by
    rw [PyData.depthAll]
    have h1 := h p List.mem_cons_self
    have h2 := depthAll_le (ps := ps) (n := n) fun q hq => h q (List.mem_cons_of_mem _ hq)
    omega
theorem rank_ok {ps : List PyData} (h : rankOk ps = true) : PySem.W.AlikeAll ps ∧ PyData.depthAll ps ≤ 64 := by
  unfold rankOk at h
  simp only [Bool.and_eq_true, List.all_eq_true] at h
  obtain ⟨⟨h1, h2⟩, h3⟩ := h
  refine ⟨⟨fun x hx y hy => h1 x hx y hy, fun x hx e => ?_⟩, depthAll_le fun p hp => of_decide_eq_true (h3 p hp)⟩
  have := h2 x hx
  rw [e] at this
  cases this
theorem Vals.get' : ∀ {xs : List V} {us : List Value} {i : Nat} {u : Value}, Vals xs us → us[i]? = some u → ∃ x, xs[i]? = some x ∧ RelV x u
  | _, _, _, _, .nil, e => by simp at e
  | _, _, 0, _, .cons r _, e => by simp at e; subst e; exact ⟨_, rfl, r⟩
  | _, _, i + 1, u, .cons _ t, e => by
    obtain ⟨x, h1, h2⟩ := Vals.get' (i := i) (u := u) t (by simpa using e)
    exact ⟨x, by simpa using h1, h2⟩
section
variable {W : W0} {X : Cx} {F H : Hp}
/-- the item that reads as the least one is the least one -/
theorem pick (o : Ok W X) {pins : List (Addr × Obj)} {σ : L2.St} {s : Shared} {ds : List D} {vs : List V} {its : List Value} {ps : List PyData} {i : Nat} {v : Value} {h' : Heap} {m : PyData} {bs : List Addr} {e : D}
    (I : Inv X pins σ H s) (hl : Le F H) (r1 : Reps W F ds vs) (rv : Vals vs its) (hp : D.pys ds = some ps) (hv : its.toArray[i]? = some v) (hr : Reads h' v m bs) (hk : ∀ b o, s.heap.get? b = some o → h'.get? b = some o) (he : e.py = some m) : ∃ z, RelV z v ∧ Rep W F e z := by
  obtain ⟨z, h1, h2⟩ := Vals.get' rv (show its[i]? = some v by simpa using hv)
  obtain ⟨d, h3, h4⟩ := r1.get' h1
  obtain ⟨p, h5, h6⟩ := D.pys_get hp h3
  obtain ⟨as, h7⟩ := h4.reads I o.k hl h6 h2
  have h8 := PySem.W.reads_keeps hk h7
  have e1 := SeqAt.plain_unique p m v as bs (py_plain h6) h8 hr
  subst e1
  rw [py_inj he h6]
  exact ⟨z, h2, h4⟩
theorem call_minA (o : Ok W X) : CallR X (.builtin "min") (rG W (biD .min)) := by
  intro pins s σ H xs us Q I r h
  obtain ⟨F, ds, d, hl, hd, hg, k⟩ := h
  have hu := o.un
  unfold biD at hg
  split at hg
  all_goals try contradiction
  rename_i a _
  split at hg
  · rename_i d0 ds0 hs
    split at hg
    · rename_i ps hps
      split at hg
      · rename_i hrk
        cases hg
        obtain ⟨hal, hdp⟩ := rank_ok hrk
        obtain ⟨p0, ps0, rfl, h1, h2⟩ := pys_cons hps
        obtain ⟨x, rfl, hx⟩ := hd.one
        have hm := least_py h1 h2
        rcases seqD_cases hs with rfl | rfl
        · obtain ⟨p, vs, rfl, s1, r1⟩ := hx.lst_inv hl
          obtain ⟨its, rv, hit, _⟩ := Reps.list_its o I s1
          obtain ⟨as, ra⟩ := r1.readsAll I o.k hl hps rv
          rw [Vals.ref1 r]
          refine PySem.W.min_list_data (o.hd I) hit (by simpa using ra) hal (by omega) fun i v h' tk bs hv hr hk => ?_
          obtain ⟨z, e1, e2⟩ := pick o I hl r1 rv hps hv hr hk hm
          exact ⟨z, H, I.kept hk, e1, k.same hl e2⟩
        · obtain ⟨p, vs, rfl, s1, r1⟩ := hx.tup_inv hl
          obtain ⟨its, rv, hit, _⟩ := Reps.tup_its o I s1
          obtain ⟨as, ra⟩ := r1.readsAll I o.k hl hps rv
          rw [Vals.ref1 r]
          refine PySem.W.min_tuple_data (o.hd I) hit (by simpa using ra) hal (by omega) fun i v h' tk bs hv hr hk => ?_
          obtain ⟨z, e1, e2⟩ := pick o I hl r1 rv hps hv hr hk hm
          exact ⟨z, H, I.kept hk, e1, k.same hl e2⟩
      · cases hg
    · cases hg
  · cases hg
theorem call_maxA (o : Ok W X) : CallR X (.builtin "max") (rG W (biD .max)) := by
  intro pins s σ H xs us Q I r h
  obtain ⟨F, ds, d, hl, hd, hg, k⟩ := h
  have hu := o.un
  unfold biD at hg
  split at hg
  all_goals try contradiction
  rename_i a _
  split at hg
  · rename_i d0 ds0 hs
    split at hg
    · rename_i ps hps
      split at hg
      · rename_i hrk
        cases hg
        obtain ⟨hal, hdp⟩ := rank_ok hrk
        obtain ⟨p0, ps0, rfl, h1, h2⟩ := pys_cons hps
        obtain ⟨x, rfl, hx⟩ := hd.one
        have hm := most_py h1 h2
        rcases seqD_cases hs with rfl | rfl
        · obtain ⟨p, vs, rfl, s1, r1⟩ := hx.lst_inv hl
          obtain ⟨its, rv, hit, _⟩ := Reps.list_its o I s1
          obtain ⟨as, ra⟩ := r1.readsAll I o.k hl hps rv
          rw [Vals.ref1 r]
          refine PySem.W.max_list_data (o.hd I) hit (by simpa using ra) hal (by omega) fun i v h' tk bs hv hr hk => ?_
          obtain ⟨z, e1, e2⟩ := pick o I hl r1 rv hps hv hr hk hm
          exact ⟨z, H, I.kept hk, e1, k.same hl e2⟩
        · obtain ⟨p, vs, rfl, s1, r1⟩ := hx.tup_inv hl
          obtain ⟨its, rv, hit, _⟩ := Reps.tup_its o I s1
          obtain ⟨as, ra⟩ := r1.readsAll I o.k hl hps rv
          rw [Vals.ref1 r]
          refine PySem.W.max_tuple_data (o.hd I) hit (by simpa using ra) hal (by omega) fun i v h' tk bs hv hr hk => ?_
          obtain ⟨z, e1, e2⟩ := pick o I hl r1 rv hps hv hr hk hm
          exact ⟨z, H, I.kept hk, e1, k.same hl e2⟩
      · cases hg
    · cases hg
  · cases hg

/-! ### sorted -/
theorem sort_ok {ps : List PyData} (h : sortOk ps = true) : PySem.W.AllAlike ps ∧ PySem.W.Sortable ps ∧ ∀ p ∈ ps, p.depth ≤ 64 := by
  unfold sortOk at h
  simp only [Bool.and_eq_true, Bool.or_eq_true, List.all_eq_true] at h
  obtain ⟨⟨h1, h2⟩, h3⟩ := h
  refine ⟨fun x hx y hy => h1 x hx y hy, ?_, fun p hp => of_decide_eq_true (h3 p hp)⟩
  rcases h2 with h2 | h2
  · refine .inl fun d hd => ?_
    have := h2 d hd
    split at this
    · exact ⟨_, _, rfl⟩
    · cases this
  · refine .inr fun d hd => ⟨fun e => ?_, fun xs e => ?_⟩
    · have := h2 d hd
      rw [e] at this
      cases this
    · have := h2 d hd
      rw [e] at this
      cases this
theorem pys_map : ∀ {ds : List D} {ps : List PyData}, D.pys ds = some ps → ds.map pyd = ps
  | [], _, h => by simp only [D.pys, Option.some.injEq] at h; subst h; rfl
  | d :: ds, _, h => by
    obtain ⟨p, ps, rfl, h1, h2⟩ := pys_cons h
    rw [List.map_cons, pyd_some h1, pys_map h2]
/-- a value that stands for a datum, both steps in one -/
def RepV (W : W0) (F : Hp) (u : Value) (d : D) : Prop := ∃ v, RelV v u ∧ Rep W F d v
theorem reps_each : ∀ {ds : List D} {vs : List V} {us : List Value}, Reps W F ds vs → Vals vs us → PySem.W.EachIs (RepV W F) us ds
  | [], _, _, h, r => by
    rw [h.nil_inv] at r
    cases r
    exact .nil
  | d :: ds, _, _, h, r => by
    obtain ⟨v, q, rfl, h1, h2⟩ := h.cons_inv
    cases r with
    | cons r1 r2 => exact .cons ⟨v, r1, h1⟩ (reps_each h2 r2)
theorem each_reps : ∀ {ds : List D} {us : List Value}, PySem.W.EachIs (RepV W F) us ds → ∃ vs, Reps W F ds vs ∧ Vals vs us
  | _, _, .nil => ⟨[], .nil, .nil⟩
  | _, _, .cons ⟨v, r1, h1⟩ t => by
    obtain ⟨vs, h2, r2⟩ := each_reps t
    exact ⟨v :: vs, .cons h1 h2, .cons r1 r2⟩
theorem call_sortedA (o : Ok W X) : CallR X (.builtin "sorted") (rGo W (biD .sorted)) := by
  intro pins s σ H xs us Q I r h
  obtain ⟨F, ds, d, hl, hd, hg, k⟩ := h
  have hu := o.un
  unfold biD at hg
  split at hg
  all_goals try contradiction
  rename_i es _
  obtain ⟨fs, hs, hg⟩ := R.bind_ok hg
  cases hg
  unfold sortD at hs
  split at hs
  · rename_i ps hps
    split at hs
    · rename_i hok
      cases hs
      obtain ⟨hal, hsb, hdp⟩ := sort_ok hok
      obtain ⟨x, rfl, hx⟩ := hd.one
      obtain ⟨p, vs, rfl, s1, r1⟩ := hx.lst_inv hl
      obtain ⟨its, rv, hit, hz⟩ := Reps.list_its o I s1
      obtain ⟨as, ra⟩ := r1.readsAll I o.k hl hps rv
      have hmap : es.map pyd = ps := pys_map hps
      rw [Vals.ref1 r]
      refine PySem.W.sorted_data (enc := pyd) (bs := es) (R := RepV W F) hit (reps_each r1 rv) (PySem.W.readsAll_each pyd (as := as) (by rw [hmap]; exact ra)) (by rw [hmap]; exact hal) (by rw [hmap]; exact hsb) (by rw [← r1.length, limz]; exact hz) (fun b hb => ?_) fun out ho eo => ?_
      · have hb2 : pyd b ∈ ps := by rw [← hmap]; exact List.mem_map.mpr ⟨b, hb, rfl⟩
        have := hdp _ hb2
        omega
      · obtain ⟨ws, r2, v2⟩ := each_reps eo
        obtain ⟨ep, he'⟩ := PyProof.Rows.sortedAll_at s.heap its out.toArray
        have hlen : ws.length ≤ sizeLine := by rw [v2.length, ho, ← r1.length, limz]; exact hz
        exact ⟨.ref _, upd H (s.heap.objs.size + 1) (.lst ws), I.laid (t' := s.toks) (fun _ _ => PyProof.Rows.sortedAll_old) (Nat.le_succ _) ⟨hlen, out, ep, v2, he'⟩, rfl, k _ ws rfl r2 _ (I.hok.fresh (Nat.le_succ _))⟩
    · cases hs
  · cases hs
end
end Pu

set_option Elab.async false
set_option linter.all false
set_option maxRecDepth 100000
set_option maxHeartbeats 2000000
set_option autoImplicit false
/-! Pu, F: methods, isinstance, len(set()). -/
namespace Pu
open PySem PySem.Spec PyProof.Rows L2
section
variable {W : W0} {X : Cx} {F H : Hp}
def rM (W : W0) (T : D → Prop) (m : Me) : V → List V → Hp → VK → Prop := fun x xs H Q => ∃ F d ds r, T d ∧ Le F H ∧ RepL W F H d x ∧ RepLs W F H ds xs ∧ meD m d ds = .ok r ∧ Kont W F H r Q
def isLst : D → Prop := fun d => ∃ ds, d = .lst ds
def isTup : D → Prop := fun d => ∃ ds, d = .tup ds
def isStr : D → Prop := fun d => ∃ x, d = .str x
theorem mt_countL (o : Ok W X) : MtR X "list.count" (rM W isLst .count) := by
  intro pins s σ H x xs v us Q I rx rxs h
  obtain ⟨F, d, ds, r, ⟨es, rfl⟩, hl, hd, hds, hg, k⟩ := h
  have hu := o.un
  unfold meD at hg
  split at hg
  all_goals try contradiction
  rename_i a y hm
  cases hm
  split at hg
  · rename_i ds' hs
    cases hs
    split at hg
    · rename_i p ps hp hps
      split at hg
      · rename_i hz
        cases hg
        obtain ⟨z, rfl, hy⟩ := hds.one
        obtain ⟨u, rfl, ru⟩ := rxs.one
        obtain ⟨q, vs, rfl, s1, r1⟩ := hd.lst_inv hl
        cases rx
        obtain ⟨its, rv, hit, _⟩ := Reps.list_its o I s1
        obtain ⟨as, ra⟩ := r1.readsAll I o.k hl hps rv
        obtain ⟨bs, rb⟩ := hy.reads I o.k hl hp ru
        exact SeqAt.count_list_data hit (by simpa using ra) rb (pys_plain hps) (py_plain hp) (by omega) ⟨.int _, H, I.tok _, ⟨_, rfl⟩, k.int hl⟩
      · cases hg
    · cases hg
  · cases hg
theorem mt_countT (o : Ok W X) : MtR X "tuple.count" (rM W isTup .count) := by
  intro pins s σ H x xs v us Q I rx rxs h
  obtain ⟨F, d, ds, r, ⟨es, rfl⟩, hl, hd, hds, hg, k⟩ := h
  have hu := o.un
  unfold meD at hg
  split at hg
  all_goals try contradiction
  rename_i a y hm
  cases hm
  split at hg
  · rename_i ds' hs
    cases hs
    split at hg
    · rename_i p ps hp hps
      split at hg
      · rename_i hz
        cases hg
        obtain ⟨z, rfl, hy⟩ := hds.one
        obtain ⟨u, rfl, ru⟩ := rxs.one
        obtain ⟨q, vs, rfl, s1, r1⟩ := hd.tup_inv hl
        cases rx
        obtain ⟨its, rv, hit, _⟩ := Reps.tup_its o I s1
        obtain ⟨as, ra⟩ := r1.readsAll I o.k hl hps rv
        obtain ⟨bs, rb⟩ := hy.reads I o.k hl hp ru
        exact SeqAt.count_tuple_data hit (by simpa using ra) rb (pys_plain hps) (py_plain hp) (by omega) ⟨.int _, H, I.tok _, ⟨_, rfl⟩, k.int hl⟩
      · cases hg
    · cases hg
  · cases hg
theorem mt_indexT (o : Ok W X) : MtR X "tuple.index" (rM W isTup .index) := by
  intro pins s σ H x xs v us Q I rx rxs h
  obtain ⟨F, d, ds, r, ⟨es, rfl⟩, hl, hd, hds, hg, k⟩ := h
  have hu := o.un
  unfold meD at hg
  split at hg
  all_goals try contradiction
  rename_i a y hm
  cases hm
  split at hg
  · rename_i ds' hs
    cases hs
    split at hg
    · rename_i p ps hp hps
      split at hg
      · rename_i hz
        split at hg
        · rename_i j hj
          cases hg
          obtain ⟨z, rfl, hy⟩ := hds.one
          obtain ⟨u, rfl, ru⟩ := rxs.one
          obtain ⟨q, vs, rfl, s1, r1⟩ := hd.tup_inv hl
          cases rx
          obtain ⟨its, rv, ⟨⟨cls, dd, data, sl⟩, ho, hc, n, hd'⟩, _⟩ := Reps.tup_its o I s1
          simp only at hc hd'
          subst hc hd'
          obtain ⟨as, ra⟩ := r1.readsAll I o.k hl hps rv
          obtain ⟨bs, rb⟩ := hy.reads I o.k hl hp ru
          have ra' : ReadsAll s.heap its.toArray.toList ps as := by simpa using ra
          obtain ⟨h1, h2, h3⟩ := SeqAt.hit_at (d := p) ra' (pys_plain hps) hj
          exact call_meets PySem.F.slot_tuple_index ⟨_, ho, rfl⟩ PySem.F.entry_tuple_index (PySem.F.args_tuple_index_2 _ _) (_root_.TI.tuple_indexAt q its.toArray n dd sl u _ j h1 h2 h3)
            ⟨ho, SeqAt.items_plain ra' rb (pys_plain hps) (py_plain hp) (by omega), ⟨.int _, H, I.tok _, ⟨_, rfl⟩, k.int hl⟩⟩
        · cases hg
      · cases hg
    · cases hg
  · rename_i hs
    cases hs
theorem mt_indexL (o : Ok W X) : MtR X "list.index" (rM W isLst .index) := by
  intro pins s σ H x xs v us Q I rx rxs h
  obtain ⟨F, d, ds, r, ⟨es, rfl⟩, hl, hd, hds, hg, k⟩ := h
  have hu := o.un
  unfold meD at hg
  split at hg
  all_goals try contradiction
  rename_i a y hm
  cases hm
  split at hg
  · rename_i ds' hs
    cases hs
    split at hg
    · rename_i p ps hp hps
      split at hg
      · rename_i hz
        split at hg
        · rename_i j hj
          cases hg
          obtain ⟨z, rfl, hy⟩ := hds.one
          obtain ⟨u, rfl, ru⟩ := rxs.one
          obtain ⟨q, vs, rfl, s1, r1⟩ := hd.lst_inv hl
          cases rx
          obtain ⟨its, rv, ⟨⟨cls, dd, data, sl⟩, ho, hc, n, hd'⟩, hlen⟩ := Reps.list_its o I s1
          simp only at hc hd'
          subst hc hd'
          obtain ⟨as, ra⟩ := r1.readsAll I o.k hl hps rv
          obtain ⟨bs, rb⟩ := hy.reads I o.k hl hp ru
          have ra' : ReadsAll s.heap its.toArray.toList ps as := by simpa using ra
          obtain ⟨h1, h2, h3⟩ := SeqAt.hit_at (d := p) ra' (pys_plain hps) hj
          have hl63 : its.toArray.size ≤ lim := by rw [List.size_toArray, ← rv.length]; exact hlen
          have hz2 : lim = 16777216 := rfl
          exact call_meets PySem.F.slot_list_index ⟨_, ho, rfl⟩ PySem.F.entry_list_index (PySem.F.args_list_index_2 _ _) (SeqAt.list_indexAt q its.toArray n dd sl u _ j h1 (by omega) h2 h3)
            ⟨ho, SeqAt.items_plain ra' rb (pys_plain hps) (py_plain hp) (by omega), ⟨.int _, H, I.tok _, ⟨_, rfl⟩, k.int hl⟩⟩
        · cases hg
      · cases hg
    · cases hg
  · rename_i hs
    cases hs
theorem mt_indexS (o : Ok W X) : MtR X "str.index" (rM W isStr .index) := by
  intro pins s σ H x xs v us Q I rx rxs h
  obtain ⟨F, d, ds, r, ⟨es, rfl⟩, hl, hd, hds, hg, k⟩ := h
  unfold meD at hg
  split at hg
  all_goals try contradiction
  rename_i a y hm
  cases hm
  split at hg
  · rename_i ds' hs
    cases hs
  · unfold txtIndex at hg
    split at hg
    · rename_i a b hm2
      cases hm2
      split at hg
      · rename_i i rest ho
        cases hg
        obtain ⟨z, rfl, hy⟩ := hds.one
        rw [hd.str] at rx
        rw [hy.str] at rxs
        exact mt_sindex pins s σ H _ _ v us Q I rx rxs ⟨_, _, i, rest, rfl, rfl, ho, k.int hl⟩
      · cases hg
    · cases hg
def rMo (W : W0) (T : D → Prop) (m : Me) : V → List V → Hp → VK → Prop := fun x xs H Q => ∃ F d ds r, T d ∧ Le F H ∧ RepL W F H d x ∧ RepLs W F H ds xs ∧ meD m d ds = .ok r ∧ KontL W F H r Q
theorem mt_splitA (o : Ok W X) : MtR X "str.split" (rMo W isStr .split) := by
  intro pins s σ H x xs v us Q I rx rxs h
  obtain ⟨F, d, ds, r, ⟨es, rfl⟩, hl, hd, hds, hg, k⟩ := h
  unfold meD at hg
  split at hg
  all_goals try contradiction
  rename_i a y hm
  cases hm
  split at hg
  · cases hg
  · rename_i hz
    cases hg
    obtain ⟨z, rfl, hy⟩ := hds.one
    rw [hd.str] at rx
    rw [hy.str] at rxs
    refine mt_split pins s σ H _ _ v us Q I rx rxs ⟨_, _, rfl, rfl, ?_, ?_, fun p hp => k _ _ rfl Reps.strs p hp⟩
    · exact beq_eq_false_iff_ne.mpr fun e => hz (.inl e)
    · rw [limz]
      exact Nat.le_of_not_lt fun e => hz (.inr e)

/-! ### isinstance -/
/-- a class of the text, as the top has made it -/
structure ClF (W : W0) (c : Nat) : Prop where
  cl : Cls W.K (W.clA c)
  ha : PySem.W.findIn W.K (.ref (W.clA c)) "__class__" = some (some (.builtin "object.__class__"))
  hn : PySem.W.specialIn W.K (.builtin "object.__class__") "__get__" = some (some (.builtin "getset_descriptor.__get__"))
  htk : PySem.W.takesIn W.K (.builtin "object.__class__") = some true
  hm : PySem.W.mroIn W.K (W.clA c) (.type "object") = some true
  no : ∀ f ∈ W.flN c, NoAttr W.K (W.clA c) f
  isB : ∀ t ∈ tyNames, PySem.W.kitOne W.K (.ref (W.clA c)) (.type t) = some false
  isR : ∀ t ∈ tyNames, PySem.W.kitOne W.K (.type t) (.ref (W.clA c)) = some false
  isC : ∀ c', c' < W.nC → PySem.W.kitOne W.K (.ref (W.clA c)) (.ref (W.clA c')) = some (decide (c = c'))
def tyV (W : W0) : Ty → V
  | .b n => .ty n
  | .c c => .ref (W.clA c)
def tyOk (W : W0) : Ty → Prop
  | .b n => n ∈ ["bool", "int", "str", "tuple", "list"]
  | .c c => c < W.nC
def rIs (W : W0) (t : Ty) : List V → Hp → VK → Prop := fun xs H Q => ∃ F d x r, xs = [x, tyV W t] ∧ Le F H ∧ RepL W F H d x ∧ isiD d t = .ok r ∧ Q (.bl r) H
theorem ty_lst {K : PySem.W.Frag} {H : Hp} {a : Addr} {vs : List V} (h : SqL K H a vs) : TyX K H (.ref a) (.type "list") := by
  rcases h with (h | ⟨o, h⟩) | ⟨o, its, n, h1, h2, _⟩
  · exact .base (.lst h)
  · exact .base (.frz h)
  · exact .kList h1 h2
theorem ty_tup {K : PySem.W.Frag} {H : Hp} {a : Addr} {vs : List V} (h : SqT K H a vs) : TyX K H (.ref a) (.type "tuple") := by
  rcases h with (h | ⟨o, h⟩) | ⟨o, its, n, h1, h2, _⟩
  · exact .base (.tup h)
  · exact .fTuple h
  · exact .kTuple h1 h2
def kitB5 (a b : String) : Bool := decide (kitB a b = some (a == b || (a == "bool" && b == "int")))
theorem kitB_all : (tyNames.all fun a => ["bool", "int", "str", "tuple", "list"].all fun b => kitB5 a b) = true := by decide +kernel
theorem kitB_of {K : PySem.W.Frag} {a b : String} (ha : a ∈ tyNames) (hb : b ∈ ["bool", "int", "str", "tuple", "list"]) : PySem.W.kitOne K (.type a) (.type b) = some (a == b || (a == "bool" && b == "int")) := by
  have h := List.all_eq_true.mp (List.all_eq_true.mp kitB_all a ha) b hb
  exact kit_ty (of_decide_eq_true h)
theorem call_isiA (o : Ok W X) (hC : ∀ c, c < W.nC → ClF W c) (t : Ty) (ht : tyOk W t) : CallR X (.builtin "isinstance") (rIs W t) := by
  intro pins s σ H xs us Q I r h
  obtain ⟨F, d, x, b, rfl, hl, hd, hg, q⟩ := h
  -- the value's type
  have key : ∀ (a : String), a ∈ tyNames → TyX X.K H x (.type a) → (∀ n, t = .b n → (a == n || (a == "bool" && n == "int")) = b) → (∀ c, t = .c c → b = false) → wpAny (model X.prog X.w) X.A (call (.builtin "isinstance") us) (EP X pins σ Q) X.xe s := by
    intro a ha hty h1 h2
    cases t with
    | b n =>
      refine call_isi pins s σ H _ us Q I r ⟨x, .ty n, _, _, b, rfl, .ty n, hty, ?_, q⟩
      rw [kitB_of ha ht, h1 n rfl]
    | c c =>
      refine call_isi pins s σ H _ us Q I r ⟨x, .ref (W.clA c), _, _, b, rfl, .own _, hty, ?_, q⟩
      rw [o.k, (hC c ht).isR a ha, h2 c rfl]
  unfold isiD at hg
  have hty5 : ∀ n, t = .b n → n = "bool" ∨ n = "int" ∨ n = "str" ∨ n = "tuple" ∨ n = "list" := fun n e => by
    subst e
    have h : n ∈ ["bool", "int", "str", "tuple", "list"] := ht
    simpa using h
  have fin : ∀ (a : String), a ∈ tyNames → TyX X.K H x (.type a) → (∀ n, t = .b n → (a == n || (a == "bool" && n == "int")) = b) → (∀ c, t = .c c → b = false) → wpAny (model X.prog X.w) X.A (call (.builtin "isinstance") us) (EP X pins σ Q) X.xe s := key
  cases d with
  | non =>
    refine key "NoneType" (by decide) (by rw [hd.non]; exact .base .non) (fun n e => ?_) (fun c e => ?_)
    · subst e
      cases hg
      rcases hty5 n rfl with rfl | rfl | rfl | rfl | rfl <;> decide +kernel
    · subst e; cases hg; rfl
  | bl k =>
    refine key "bool" (by decide) (by rw [hd.bl]; exact .base (.bl k)) (fun n e => ?_) (fun c e => ?_)
    · subst e
      cases hg
      rcases hty5 n rfl with rfl | rfl | rfl | rfl | rfl <;> decide +kernel
    · subst e; cases hg; rfl
  | int k =>
    refine key "int" (by decide) (by rw [hd.int]; exact .base (.int k)) (fun n e => ?_) (fun c e => ?_)
    · subst e
      cases hg
      rcases hty5 n rfl with rfl | rfl | rfl | rfl | rfl <;> decide +kernel
    · subst e; cases hg; rfl
  | str k =>
    refine key "str" (by decide) (by rw [hd.str]; exact .base (.str k)) (fun n e => ?_) (fun c e => ?_)
    · subst e
      cases hg
      rcases hty5 n rfl with rfl | rfl | rfl | rfl | rfl <;> decide +kernel
    · subst e; cases hg; rfl
  | tup es =>
    obtain ⟨p, vs, ex, s1, r1⟩ := hd.tup_inv hl
    refine key "tuple" (by decide) (by rw [ex, o.k]; exact ty_tup s1) (fun n e => ?_) (fun c e => ?_)
    · subst e
      cases hg
      rcases hty5 n rfl with rfl | rfl | rfl | rfl | rfl <;> decide +kernel
    · subst e; cases hg; rfl
  | lst es =>
    obtain ⟨p, vs, ex, s1, r1⟩ := hd.lst_inv hl
    refine key "list" (by decide) (by rw [ex, o.k]; exact ty_lst s1) (fun n e => ?_) (fun c e => ?_)
    · subst e
      cases hg
      rcases hty5 n rfl with rfl | rfl | rfl | rfl | rfl <;> decide +kernel
    · subst e; cases hg; rfl
  | obj c0 es =>
    obtain ⟨p, dx, vs, ex, s1, _, hc0, r1⟩ := (hd.rep fun _ z => nomatch z).obj_inv
    have f0 := hC c0 hc0
    have hty : TyX X.K H x (.ref (W.clA c0)) := by
      rw [ex, o.k]
      exact .base (.ins (hl _ _ s1) f0.cl f0.ha f0.hn f0.htk f0.hm)
    cases t with
    | b n =>
      cases hg
      have hn : n ∈ tyNames := List.mem_cons_of_mem _ ht
      refine call_isi pins s σ H _ us Q I r ⟨x, .ty n, _, _, false, rfl, .ty n, hty, ?_, q⟩
      rw [o.k, f0.isB n hn]
    | c c =>
      cases hg
      refine call_isi pins s σ H _ us Q I r ⟨x, .ref (W.clA c), _, _, _, rfl, .own _, hty, ?_, q⟩
      rw [o.k, f0.isC c ht]
  | clo l es => cases t <;> cases hg
  | fn f => cases t <;> cases hg
end
end Pu

set_option Elab.async false
set_option linter.all false
set_option maxRecDepth 100000
set_option maxHeartbeats 2000000
set_option autoImplicit false
/-! Pu, G: an environment of pure data and the slots and the heap that stand for it. -/
namespace Pu
open PySem PySem.Spec PyProof.Rows L2

/-- a def's entry: what did not change then, the heap then, the lists that callers lent -/
structure Ent where
  F0 : Hp
  H0 : Hp
  P0 : List Addr
  mp : List Nat
  S0 : L2.St
def NT (o : HO) : Prop := ∀ ps, o ≠ .tbl ps
def Live (ρ : Env') (i : Nat) : Prop := ∃ d, ρ[i]? = some (some d)
/-- what is still written stands at p -/
def MutV (W : W0) (F H : Hp) (d : D) (p : Addr) : Prop :=
  (∃ ds vs, d = .lst ds ∧ H p = some (.lst vs) ∧ Reps W F ds vs) ∨
  ∃ c dx ds vs, d = .obj c ds ∧ H p = some (.ins (W.clA c) dx ((W.flN c).zip vs)) ∧ c < W.nC ∧ ds.length ≤ (W.flN c).length ∧ Reps W F ds vs
structure Rel (W : W0) (ms : List Nat) (e : Ent) (F : Hp) (ρ : Env') (σ : L2.St) (H : Hp) : Prop where
  len : ρ.length = σ.length
  sub : Le F H
  f0 : Le e.F0 F
  nw : ∀ a o, F a = some o → e.F0 a = some o ∨ e.H0 a = none ∨ a ∈ e.P0 ∨ ∃ q, o = LamX.CodeO a q
  sm : ∀ a o, a ∉ e.P0 → NT o → e.H0 a = some o → H a = some o
  al : ∀ a, e.H0 a ≠ none → H a ≠ none
  fro : ∀ i d, i ∉ ms → ρ[i]? = some (some d) → ∃ v, σ[i]? = some (some v) ∧ Rep W F d v
  wri : ∀ i d, i ∈ ms → ρ[i]? = some (some d) → ∃ p, σ[i]? = some (some (.ref p)) ∧ F p = none ∧ MutV W F H d p ∧ (p ∈ e.P0 ∨ e.H0 p = none)
  inj : ∀ i j p, i ∈ ms → j ∈ ms → Live ρ i → Live ρ j → σ[i]? = some (some (.ref p)) → σ[j]? = some (some (.ref p)) → i = j
  tb : NdefX.TabsN W.T H
  tf : ∀ p ∈ W.T, F p.1 = none
  fix : ∀ i ∈ e.mp, σ[i]? = e.S0[i]?

section
variable {W : W0} {ms : List Nat} {e : Ent} {F F' H H' : Hp} {ρ ρ' : Env'} {σ σ' : L2.St}
theorem MutV.mono (m : W.Mono) {d : D} {p : Addr} (h : Le F F') (hp : H' p = H p) (x : MutV W F H d p) : MutV W F' H' d p := by
  rcases x with ⟨ds, vs, e, h1, h2⟩ | ⟨c, dx, ds, vs, e, h1, h3, h4, h2⟩
  · exact .inl ⟨ds, vs, e, hp.trans h1, h2.mono m h⟩
  · exact .inr ⟨c, dx, ds, vs, e, hp.trans h1, h3, h4, h2.mono m h⟩
theorem MutV.some {d : D} {p : Addr} (x : MutV W F H d p) : ∃ o, H p = some o ∧ NT o := by
  rcases x with ⟨ds, vs, e, h1, h2⟩ | ⟨c, dx, ds, vs, e, h1, _⟩
  · exact ⟨_, h1, fun _ z => nomatch z⟩
  · exact ⟨_, h1, fun _ z => nomatch z⟩
theorem NT_of_tabs {T : List NdefX.NTab} (hk : Le H H') (h : NdefX.TabsN T H) : NdefX.TabsN T H' := h.ext hk
/-- F, H grow by new objects -/
theorem Rel.step (m : W.Mono) (r : Rel W ms e F ρ σ H) (s : Step F H F' H') : Rel W ms e F' ρ σ H' where
  len := r.len
  sub := s.sub
  f0 := r.f0.trans s.fr
  nw := fun a o h => by
    rcases s.nw a o h with h | h
    · exact r.nw a o h
    · refine .inr (.inl ?_)
      cases q : e.H0 a with
      | none => rfl
      | some u => exact absurd h (r.al a (by rw [q]; simp))
  sm := fun a o h1 h2 h3 => s.kp _ _ (r.sm a o h1 h2 h3)
  al := fun a h => by
    have := r.al a h
    cases q : H a with
    | none => exact absurd q this
    | some u => rw [s.kp _ _ q]; simp
  fro := fun i d h1 h2 => by
    obtain ⟨v, h3, h4⟩ := r.fro i d h1 h2
    exact ⟨v, h3, h4.mono m s.fr⟩
  wri := fun i d h1 h2 => by
    obtain ⟨p, h3, h4, h5, h6⟩ := r.wri i d h1 h2
    obtain ⟨o, h7, h8⟩ := h5.some
    refine ⟨p, h3, ?_, h5.mono m s.fr ((s.kp _ _ h7).trans h7.symm), h6⟩
    cases q : F' p with
    | none => rfl
    | some u =>
      rcases s.nw p u q with z | z
      · rw [h4] at z; cases z
      · rw [h7] at z; cases z
  inj := r.inj
  tb := r.tb.ext s.kp
  tf := fun p hp => by
    cases q : F' p.1 with
    | none => rfl
    | some u =>
      rcases s.nw _ u q with z | z
      · rw [r.tf p hp] at z; cases z
      · obtain ⟨ps, h1, _⟩ := r.tb p hp
        rw [z] at h1; cases h1
  fix := r.fix
/-- an own list is taken into F -/
theorem Rel.freeze (m : W.Mono) (r : Rel W ms e F ρ σ H) {p : Addr} {o : HO} (nt : NT o) (h1 : H p = some o) (h2 : F p = none) (h3 : e.H0 p = none ∨ p ∈ e.P0) (h4 : ∀ i ∈ ms, Live ρ i → σ[i]? ≠ some (some (.ref p))) : Rel W ms e (upd F p o) ρ σ H where
  len := r.len
  sub := fun a u h => by
    by_cases z : a = p
    · subst z; rw [upd_same] at h; cases h; exact h1
    · rw [upd_ne z] at h; exact r.sub a u h
  f0 := r.f0.trans (Le.upd h2)
  nw := fun a u h => by
    by_cases z : a = p
    · subst z; exact .inr (h3.elim .inl fun w => .inr (.inl w))
    · rw [upd_ne z] at h; exact r.nw a u h
  sm := r.sm
  al := r.al
  fro := fun i d a b => by
    obtain ⟨v, h5, h6⟩ := r.fro i d a b
    exact ⟨v, h5, h6.mono m (Le.upd h2)⟩
  wri := fun i d a b => by
    obtain ⟨q, h5, h6, h7, h8⟩ := r.wri i d a b
    have ne : q ≠ p := fun z => h4 i a ⟨d, b⟩ (by rw [← z]; exact h5)
    exact ⟨q, h5, by rw [upd_ne ne]; exact h6, h7.mono m (Le.upd h2) rfl, h8⟩
  inj := r.inj
  tb := r.tb
  tf := fun q hq => by
    obtain ⟨ps, h5, _⟩ := r.tb q hq
    rw [upd_ne (fun z => by rw [z, h1] at h5; exact nt _ (Option.some.inj h5))]
    exact r.tf q hq
  fix := r.fix
/-- the live written places -/
def lives (ms : List Nat) (ρ : Env') (σ : L2.St) : List Addr := ms.filterMap fun i => match ρ[i]?, σ[i]? with
  | some (some _), some (some (V.ref p)) => some p
  | _, _ => none
theorem mem_lives {p : Addr} : p ∈ lives ms ρ σ ↔ ∃ i ∈ ms, Live ρ i ∧ σ[i]? = some (some (.ref p)) := by
  unfold lives
  rw [List.mem_filterMap]
  constructor
  · rintro ⟨i, hi, h⟩
    split at h
    · rename_i d q h1 h2
      cases h
      exact ⟨i, hi, ⟨d, h1⟩, h2⟩
    · cases h
  · rintro ⟨i, hi, ⟨d, h1⟩, h2⟩
    refine ⟨i, hi, ?_⟩
    rw [h1, h2]
/-- the state as it is, taken for an entry -/
def Ent.here (e : Ent) (ms : List Nat) (F : Hp) (ρ : Env') (σ : L2.St) (H : Hp) : Ent := ⟨F, H, lives ms ρ σ, e.mp, σ⟩
theorem Rel.base (r : Rel W ms e F ρ σ H) : Rel W ms (e.here ms F ρ σ H) F ρ σ H where
  len := r.len
  sub := r.sub
  f0 := .refl _
  nw := fun _ _ h => .inl h
  sm := fun _ _ _ _ h => h
  al := fun _ h => h
  fro := r.fro
  wri := fun i d a b => by
    obtain ⟨p, h1, h2, h3, h4⟩ := r.wri i d a b
    exact ⟨p, h1, h2, h3, .inl (mem_lives.mpr ⟨i, a, ⟨d, b⟩, h1⟩)⟩
  inj := r.inj
  tb := r.tb
  tf := r.tf
  fix := fun _ _ => rfl
/-- what was reached from such an entry is reached from the entry ahead -/
theorem Rel.unbase {ρ1 : Env'} {σ1 : L2.St} {F1 H1 : Hp} (r1 : Rel W ms e F1 ρ1 σ1 H1) (r : Rel W ms (e.here ms F1 ρ1 σ1 H1) F ρ σ H) : Rel W ms e F ρ σ H where
  len := r.len
  sub := r.sub
  f0 := r1.f0.trans r.f0
  nw := fun a o h => by
    rcases r.nw a o h with h | h | h | h
    · exact r1.nw a o h
    · refine .inr (.inl ?_)
      cases q : e.H0 a with
      | none => rfl
      | some u => exact absurd (show H1 a = none from h) (r1.al a (by rw [q]; simp))
    · obtain ⟨j, hj, ⟨d', hd'⟩, hs⟩ := mem_lives.mp h
      obtain ⟨q, e1, _, _, e2⟩ := r1.wri j d' hj hd'
      rw [hs] at e1
      cases e1
      exact .inr (e2.symm.elim .inl fun w => .inr (.inl w))
    · exact .inr (.inr (.inr h))
  sm := fun a o h1 h2 h3 => by
    refine r.sm a o (fun z => ?_) h2 (r1.sm a o h1 h2 h3)
    obtain ⟨i, hi, ⟨d, hd⟩, hs⟩ := mem_lives.mp z
    obtain ⟨p, e1, _, _, e2⟩ := r1.wri i d hi hd
    rw [hs] at e1
    cases e1
    rcases e2 with e2 | e2
    · exact h1 e2
    · rw [e2] at h3; cases h3
  al := fun a h => r.al a (r1.al a h)
  fro := r.fro
  wri := fun i d a b => by
    obtain ⟨p, h1, h2, h3, h4⟩ := r.wri i d a b
    refine ⟨p, h1, h2, h3, ?_⟩
    rcases h4 with h4 | h4
    · obtain ⟨j, hj, ⟨d', hd'⟩, hs⟩ := mem_lives.mp h4
      obtain ⟨q, e1, _, _, e2⟩ := r1.wri j d' hj hd'
      rw [hs] at e1
      cases e1
      exact e2
    · refine .inr ?_
      cases q : e.H0 p with
      | none => rfl
      | some u => exact absurd (show H1 p = none from h4) (r1.al p (by rw [q]; simp))
  inj := r.inj
  tb := r.tb
  tf := r.tf
  fix := fun i hi => (r.fix i hi).trans (r1.fix i hi)
theorem set_get {α : Type} {l : List α} {i j : Nat} {x y : α} (h : (l.set i x)[j]? = some y) : (i = j ∧ y = x ∧ i < l.length) ∨ (i ≠ j ∧ l[j]? = some y) := by
  by_cases e : i = j
  · subst e
    by_cases hl : i < l.length
    · rw [List.getElem?_set_self hl] at h
      cases h
      exact .inl ⟨rfl, rfl, hl⟩
    · rw [List.getElem?_eq_none (by simpa using hl)] at h
      cases h
  · rw [List.getElem?_set_ne e] at h
    exact .inr ⟨e, h⟩
/-- a slot is stored -/
theorem Rel.set (r : Rel W ms e F ρ σ H) {i : Nat} {d : D} {v : V} (hm : i ∉ ms) (hf : i ∉ e.mp) (h : Rep W F d v) : Rel W ms e F (ρ.set i (some d)) (σ.set i (some v)) H where
  len := by rw [List.length_set, List.length_set]; exact r.len
  sub := r.sub
  f0 := r.f0
  nw := r.nw
  sm := r.sm
  al := r.al
  fro := fun j d' a b => by
    rcases set_get b with ⟨rfl, b2, hi⟩ | ⟨ne, b2⟩
    · cases b2
      exact ⟨v, List.getElem?_set_self (by rw [← r.len]; exact hi), h⟩
    · obtain ⟨w, h1, h2⟩ := r.fro j d' a b2
      exact ⟨w, by rw [List.getElem?_set_ne ne]; exact h1, h2⟩
  wri := fun j d' a b => by
    rcases set_get b with ⟨rfl, b2, hi⟩ | ⟨ne, b2⟩
    · exact absurd a hm
    · obtain ⟨p, h1, h2⟩ := r.wri j d' a b2
      exact ⟨p, by rw [List.getElem?_set_ne ne]; exact h1, h2⟩
  inj := fun j k p a b c d' f g => by
    have nj : i ≠ j := fun z => hm (by rw [z]; exact a)
    have nk : i ≠ k := fun z => hm (by rw [z]; exact b)
    rw [List.getElem?_set_ne nj] at f
    rw [List.getElem?_set_ne nk] at g
    obtain ⟨x, c⟩ := c
    obtain ⟨y, d'⟩ := d'
    rw [List.getElem?_set_ne nj] at c
    rw [List.getElem?_set_ne nk] at d'
    exact r.inj j k p a b ⟨x, c⟩ ⟨y, d'⟩ f g
  tb := r.tb
  tf := r.tf
  fix := fun j hj => by rw [List.getElem?_set_ne (fun z => hf (by rw [z]; exact hj))]; exact r.fix j hj
/-- a written slot gets a new list -/
theorem Rel.setOwn (m : W.Mono) (r : Rel W ms e F ρ σ H) {i : Nat} {ds : List D} {vs : List V} {p : Addr} (hm : i ∈ ms) (hf : i ∉ e.mp) (h1 : H p = some (.lst vs)) (h2 : F p = none) (h3 : Reps W F ds vs) (h4 : e.H0 p = none ∨ p ∈ e.P0) (h5 : ∀ j ∈ ms, Live ρ j → σ[j]? ≠ some (some (.ref p))) :
    Rel W ms e F (ρ.set i (some (.lst ds))) (σ.set i (some (.ref p))) H where
  len := by rw [List.length_set, List.length_set]; exact r.len
  sub := r.sub
  f0 := r.f0
  nw := r.nw
  sm := r.sm
  al := r.al
  fro := fun j d' a b => by
    rcases set_get b with ⟨rfl, b2, hi⟩ | ⟨ne, b2⟩
    · exact absurd hm a
    · obtain ⟨w, h6, h7⟩ := r.fro j d' a b2
      exact ⟨w, by rw [List.getElem?_set_ne ne]; exact h6, h7⟩
  wri := fun j d' a b => by
    rcases set_get b with ⟨rfl, b2, hi⟩ | ⟨ne, b2⟩
    · cases b2
      exact ⟨p, List.getElem?_set_self (by rw [← r.len]; exact hi), h2, .inl ⟨ds, vs, rfl, h1, h3⟩, h4.symm⟩
    · obtain ⟨q, h6, h7⟩ := r.wri j d' a b2
      exact ⟨q, by rw [List.getElem?_set_ne ne]; exact h6, h7⟩
  inj := fun j k q a b c d' f g => by
    obtain ⟨x, c⟩ := c
    obtain ⟨y, d'⟩ := d'
    rcases set_get f with ⟨rfl, f2, _⟩ | ⟨nj, f2⟩
    · rcases set_get g with ⟨rfl, g2, _⟩ | ⟨nk, g2⟩
      · rfl
      · cases f2
        rw [List.getElem?_set_ne nk] at d'
        exact absurd g2 (h5 k b ⟨y, d'⟩)
    · rw [List.getElem?_set_ne nj] at c
      rcases set_get g with ⟨rfl, g2, _⟩ | ⟨nk, g2⟩
      · cases g2
        exact absurd f2 (h5 j a ⟨x, c⟩)
      · rw [List.getElem?_set_ne nk] at d'
        exact r.inj j k q a b ⟨x, c⟩ ⟨y, d'⟩ f2 g2
  tb := r.tb
  tf := r.tf
  fix := fun j hj => by rw [List.getElem?_set_ne (fun z => hf (by rw [z]; exact hj))]; exact r.fix j hj
/-- slots forgotten -/
theorem Rel.weak (r : Rel W ms e F ρ σ H) {ρ' : Env'} {σ' : L2.St} (hl : ρ'.length = σ'.length) (h : ∀ (i : Nat) (d : D), ρ'[i]? = some (some d) → ρ[i]? = some (some d) ∧ σ'[i]? = σ[i]?) (hf : ∀ i ∈ e.mp, σ'[i]? = σ[i]?) : Rel W ms e F ρ' σ' H where
  len := hl
  sub := r.sub
  f0 := r.f0
  nw := r.nw
  sm := r.sm
  al := r.al
  fro := fun i d a b => by
    obtain ⟨h1, h2⟩ := h i d b
    rw [h2]
    exact r.fro i d a h1
  wri := fun i d a b => by
    obtain ⟨h1, h2⟩ := h i d b
    rw [h2]
    exact r.wri i d a h1
  inj := fun i j p a b ⟨x, c⟩ ⟨y, d⟩ f g => by
    obtain ⟨h1, h2⟩ := h i x c
    obtain ⟨h3, h4⟩ := h j y d
    rw [h2] at f
    rw [h4] at g
    exact r.inj i j p a b ⟨x, h1⟩ ⟨y, h3⟩ f g
  tb := r.tb
  tf := r.tf
  fix := fun i hi => (hf i hi).trans (r.fix i hi)
/-- a written list is written -/
theorem Rel.write (m : W.Mono) (r : Rel W ms e F ρ σ H) {i : Nat} {d d' : D} {p : Addr} {o : HO} (hm : i ∈ ms) (hl : ρ[i]? = some (some d)) (hs : σ[i]? = some (some (.ref p))) (h1 : NT o) (h2 : MutV W F (upd H p o) d' p) :
    Rel W ms e F (ρ.set i (some d')) σ (upd H p o) := by
  have hi : i < ρ.length := (List.getElem?_eq_some_iff.mp hl).1
  obtain ⟨q, e1, e2, e3, e4⟩ := r.wri i d hm hl
  rw [hs] at e1
  cases e1
  obtain ⟨o0, eo, nt0⟩ := e3.some
  have nF : ∀ a u, F a = some u → a ≠ p := fun a u h z => by rw [z, e2] at h; cases h
  exact {
    len := by rw [List.length_set]; exact r.len
    sub := fun a u h => by rw [upd_ne (nF a u h)]; exact r.sub a u h
    f0 := r.f0
    nw := r.nw
    sm := fun a u h3 h4 h5 => by
      have ne : a ≠ p := fun z => by
        rcases e4 with e4 | e4
        · exact h3 (by rw [z]; exact e4)
        · rw [z, e4] at h5; cases h5
      rw [upd_ne ne]
      exact r.sm a u h3 h4 h5
    al := fun a h => by
      by_cases z : a = p
      · rw [z, upd_same]; simp
      · rw [upd_ne z]; exact r.al a h
    fro := fun j x a b => by
      rcases set_get b with ⟨rfl, b2, hi⟩ | ⟨ne, b2⟩
      · exact absurd hm a
      · exact r.fro j x a b2
    wri := fun j x a b => by
      rcases set_get b with ⟨rfl, b2, hi⟩ | ⟨ne, b2⟩
      · cases b2
        exact ⟨p, hs, e2, h2, e4⟩
      · obtain ⟨q, h6, h7, h8, h9⟩ := r.wri j x a b2
        have nq : q ≠ p := fun z => ne (r.inj i j p hm a ⟨d, hl⟩ ⟨x, b2⟩ hs (by rw [← z]; exact h6))
        exact ⟨q, h6, h7, h8.mono m (.refl _) (upd_ne nq), h9⟩
    inj := fun j k q a b c d' f g => by
      have lv' : ∀ {j : Nat} {x : D}, Live (ρ.set i (some x)) j → Live ρ j := fun {j x} ⟨y, c⟩ => by
        rcases set_get c with ⟨rfl, _⟩ | ⟨_, c2⟩
        · exact ⟨d, hl⟩
        · exact ⟨y, c2⟩
      exact r.inj j k q a b (lv' c) (lv' d') f g
    fix := r.fix
    tf := r.tf
    tb := fun t ht => by
      obtain ⟨ps, h3, h4, h5⟩ := r.tb t ht
      have ne : ∀ b, (∃ ps, H b = some (.tbl ps)) → b ≠ p := fun b ⟨ps, z⟩ q => by
        rw [q, eo] at z
        cases z
        exact nt0 _ rfl
      refine ⟨ps, by rw [upd_ne (ne _ ⟨_, h3⟩)]; exact h3, h4, fun pos cv hc => ?_⟩
      obtain ⟨c, h6, h7⟩ := h5 pos cv hc
      refine ⟨c, h6, ?_⟩
      have nc : c ≠ p := fun q => by
        rw [q, eo] at h7
        cases h7
        rcases e3 with ⟨_, _, _, z, _⟩ | ⟨_, _, _, _, _, z, _⟩
        · rw [eo] at z; cases z
        · rw [eo] at z; cases z
      rw [upd_ne nc]
      exact h7 }
end
end Pu

set_option Elab.async false
set_option linter.all false
set_option maxRecDepth 100000
set_option maxHeartbeats 2000000
set_option autoImplicit false
/-! Pu, H: expressions, one rule for each form. -/
namespace Pu
open PySem PySem.Spec PyProof.Rows L2

/-! ### forms -/
def noStar : Expr → Bool
  | .Starred _ _ => false
  | _ => true
theorem starEach_cons {e : Expr} {es : List Expr} {env : Env} (h : noStar e = true) : starEach (e :: es) env = (false, eval e env) :: starEach es env := by
  cases e <;> first | rfl | cases h
theorem noStars {pos : Pos} {env : Env} : ∀ {es : List Expr}, es.all noStar = true → (backTo pos (starEach es env)).any (·.1) = false
  | [], _ => rfl
  | e :: es, h => by
    rw [List.all_cons, Bool.and_eq_true] at h
    rw [starEach_cons h.1]
    show (false || (backTo pos (starEach es env)).any (·.1)) = false
    rw [noStars h.2]
    rfl
def plainTest : Expr → Bool
  | .UnaryOp .Not _ _ => false
  | .BoolOp _ _ _ => false
  | .IfExp _ _ _ _ => false
  | .Compare _ _ _ _ => false
  | _ => true
theorem isTrue_plain {e : Expr} {env : Env} (h : plainTest e = true) (whole : Sem Value) : isTrue e env whole = (do let v ← whole; standAt e.pos; holding [v] (truthy v)) := by
  cases e <;> first | rfl | (cases h) | skip
  rename_i op a p
  cases op <;> first | rfl | cases h
def plainBase : Expr → Bool
  | .Call _ _ _ _ => false
  | _ => true
theorem base_ok {e : Expr} {f : Str} {env : Env} {whole : Sem Value} (h : plainBase e = true) : attributeBase e f env whole = whole := by
  cases e <;> first | rfl | cases h
def noSlice : Expr → Bool
  | .Slice _ _ _ _ => false
  | _ => true
theorem ix_ok {e : Expr} (h : noSlice e = true) : PlainIx e := by
  intro o i
  cases e <;> first | rfl | cases h
def noSet : Expr → Bool
  | .Set _ _ _ => false
  | _ => true
theorem mark_ok {e : Expr} {op : CmpOp} (h : noSet e = true) : behindInMarks op e = false := by
  cases e <;> first | rfl | cases h
theorem last_ok {b c : Expr} {o1 o2 : CmpOp} (h : noSet c = true) : lastMarks [o1, o2] [b, c] = false := by
  show lastMarks [o2] [c] = false
  exact mark_ok h
theorem folded_ok {e : Expr} {env : Env} (h : noSet e = true) (x : Value) : foldedSetIterable e env x = pure x := by
  cases e <;> first | rfl | cases h

/-! ### readings that are asked for more -/
theorem _root_.L2.PE.imp {X : Cx} {x : Expr} {t t' : TE} (h : PE X x t) (k : ∀ σ H Q, t' σ H Q → t σ H Q) : PE X x t' := ⟨fun pins s σ H Q I z => h.run pins s σ H Q I (k σ H Q z)⟩
theorem _root_.L2.PT.imp {X : Cx} {x : Expr} {t t' : TT} (h : PT X x t) (k : ∀ σ H Q, t' σ H Q → t σ H Q) : PT X x t' := ⟨fun pins s σ H Q I z => h.run pins s σ H Q I (k σ H Q z)⟩
theorem _root_.L2.PW.imp {X : Cx} {x : Expr} {t t' : TT} (h : PW X x t) (k : ∀ σ H Q, t' σ H Q → t σ H Q) : PW X x t' := ⟨fun wh pins s σ H Q I z => h.run wh pins s σ H Q I (k σ H Q z)⟩
theorem _root_.L2.PA.imp {X : Cx} {x : List Expr} {t t' : TA} (h : PA X x t) (k : ∀ σ H Q, t' σ H Q → t σ H Q) : PA X x t' := ⟨fun pos pins s σ H Q I z => h.run pos pins s σ H Q I (k σ H Q z)⟩
theorem _root_.L2.PS.imp {X : Cx} {x : Stmt} {t t' : TS} (h : PS X x t) (k : ∀ D σ H, t' D σ H → t D σ H) : PS X x t' := ⟨fun pins s σ H D I z => h.run pins s σ H D I (k D σ H z)⟩
theorem _root_.L2.PSs.imp {X : Cx} {x : List Stmt} {t t' : TS} (h : PSs X x t) (k : ∀ D σ H, t' D σ H → t D σ H) : PSs X x t' := ⟨fun pins s σ H D I z => h.run pins s σ H D I (k D σ H z)⟩
theorem _root_.L2.PI.imp {X : Cx} {tg x : Expr} {t t' : TI} (h : PI X tg x t) (k : ∀ σ H R, t' σ H R → t σ H R) : PI X tg x t' := ⟨fun pins s σ H R I z => h.run pins s σ H R I (k σ H R z)⟩
theorem _root_.L2.PI.or {X : Cx} {tg x : Expr} {t t' : TI} (h : PI X tg x t) (h' : PI X tg x t') : PI X tg x (fun σ H R => t σ H R ∨ t' σ H R) :=
  ⟨fun pins s σ H R I z => z.elim (h.run pins s σ H R I) (h'.run pins s σ H R I)⟩
theorem _root_.L2.PE.or {X : Cx} {x : Expr} {t t' : TE} (h : PE X x t) (h' : PE X x t') : PE X x (fun σ H Q => t σ H Q ∨ t' σ H Q) :=
  ⟨fun pins s σ H Q I z => z.elim (h.run pins s σ H Q I) (h'.run pins s σ H Q I)⟩

/-! ### the readings -/
section
variable (W : W0) (ms : List Nat) (e : Ent) (C : Calls)
/-- an own list that nobody else has -/
def OwnV (F : Hp) (ρ : Env') (σ : L2.St) (H : Hp) (d : D) (v : V) : Prop :=
  ∃ p ds vs, d = .lst ds ∧ v = .ref p ∧ H p = some (.lst vs) ∧ F p = none ∧ Reps W F ds vs ∧ (e.H0 p = none ∨ p ∈ e.P0) ∧ ∀ i ∈ ms, Live ρ i → σ[i]? ≠ some (some (.ref p))
def tE (a : E) : TE := fun σ H Q => ∃ F ρ d ρ', Rel W ms e F ρ σ H ∧ ev C a ρ = .ok (d, ρ') ∧ ∀ v F' H', Le F F' → Rel W ms e F' ρ' σ H' → Rep W F' d v → Q v H'
def tO (a : E) : TE := fun σ H Q => ∃ F ρ d ρ', Rel W ms e F ρ σ H ∧ ev C a ρ = .ok (d, ρ') ∧ ∀ v F' H', Le F F' → Rel W ms e F' ρ' σ H' → OwnV W ms e F' ρ' σ H' d v → Q v H'
def isBor : E → Bool
  | .bor _ => true
  | _ => false
/-- an operand: a value, or the list of a written slot -/
def Pst (a : E) (F : Hp) (ρ : Env') (σ : L2.St) (d : D) (v : V) : Prop := match a with
  | .bor i => i ∈ ms ∧ σ[i]? = some (some v) ∧ ρ[i]? = some (some d) ∧ ∃ ds, d = .lst ds
  | _ => Rep W F d v
def tL (a : E) : TE := fun σ H Q => ∃ F ρ d ρ', Rel W ms e F ρ σ H ∧ ev C a ρ = .ok (d, ρ') ∧ ∀ v F' H', Le F F' → Rel W ms e F' ρ' σ H' → Pst W ms a F' ρ' σ d v → Q v H'
def tT (a : E) : TT := fun σ H Q => ∃ F ρ d ρ' k, Rel W ms e F ρ σ H ∧ ev C a ρ = .ok (d, ρ') ∧ tru d = .ok k ∧ ∀ F' H', Le F F' → Rel W ms e F' ρ' σ H' → Q k H'
/-- arguments -/
def PstAs : E → Hp → Env' → L2.St → List D → List V → Prop
  | .anil, _, _, _, ds, vs => ds = [] ∧ vs = []
  | .acons (.mref i) as, F, ρ, σ, ds, vs => ∃ v r ds', vs = v :: r ∧ ds = .non :: ds' ∧ i ∈ ms ∧ σ[i]? = some (some v) ∧ PstAs as F ρ σ ds' r
  | .acons a as, F, ρ, σ, ds, vs => ∃ d ds' v r, ds = d :: ds' ∧ vs = v :: r ∧ Pst W ms a F ρ σ d v ∧ PstAs as F ρ σ ds' r
  | .astar _ as, F, ρ, σ, ds, vs => ∃ d1 d2 v1 v2, ds = d1 ++ d2 ∧ vs = v1 ++ v2 ∧ Reps W F d1 v1 ∧ PstAs as F ρ σ d2 v2
  | _, _, _, _, _, _ => False
def tA (as : E) : TA := fun σ H Q => ∃ F ρ ds ρ', Rel W ms e F ρ σ H ∧ evs C as ρ = .ok (ds, ρ') ∧ ∀ vs F' H', Le F F' → Rel W ms e F' ρ' σ H' → PstAs W ms as F' ρ' σ ds vs → Q vs H'
end

section
variable {W : W0} {ms : List Nat} {e : Ent} {C : Calls} {X : Cx} {pos pos' : Pos} {x y z : Expr} {a b c : E} {F F' H H' : Hp} {ρ ρ' : Env'} {σ : L2.St} {d : D} {v : V}

theorem Pst.of (h : isBor a = false) (r : Rep W F d v) : Pst W ms a F ρ σ d v := by
  cases a <;> first | exact r | cases h
theorem Pst.rep (h : isBor a = false) (r : Pst W ms a F ρ σ d v) : Rep W F d v := by
  cases a <;> first | exact r | cases h
theorem Pst.later (m : W.Mono) (p : Pst W ms a F ρ σ d v) (l : Le F F') (q : isBor a = true → ρ' = ρ) : Pst W ms a F' ρ' σ d v := by
  cases ha : isBor a with
  | false => exact .of ha ((p.rep ha).mono m l)
  | true =>
    rw [q ha]
    cases a <;> first | exact p | cases ha
/-- an operand as it stands now -/
theorem Pst.repL (p : Pst W ms a F ρ σ d v) (r : Rel W ms e F ρ σ H) : RepL W F H d v := by
  cases ha : isBor a with
  | false => exact .inl (p.rep ha)
  | true =>
    cases a with
    | bor i =>
      obtain ⟨hm, hs, hr, ds, rfl⟩ := p
      obtain ⟨q, e1, e2, e3, _⟩ := r.wri i _ hm hr
      rw [hs] at e1
      cases e1
      rcases e3 with ⟨es, vs, e4, e5, e6⟩ | ⟨_, _, _, _, e4, _⟩
      · cases e4
        exact .inr ⟨q, ds, vs, rfl, rfl, e5, e6⟩
      · cases e4
    | _ => cases ha
theorem PE.fro (hb : isBor a = false) (h : PE X x (tE W ms e C a)) : PE X x (tL W ms e C a) :=
  h.imp fun σ H Q ⟨F, ρ, d, ρ', r, h, k⟩ => ⟨F, ρ, d, ρ', r, h, fun v F' H' l r' q => k v F' H' l r' (.of hb q)⟩
theorem PE.unfro (hb : isBor a = false) (h : PE X x (tL W ms e C a)) : PE X x (tE W ms e C a) :=
  h.imp fun σ H Q ⟨F, ρ, d, ρ', r, h, k⟩ => ⟨F, ρ, d, ρ', r, h, fun v F' H' l r' q => k v F' H' l r' (q.rep hb)⟩
/-- an own list, no longer to be written -/
theorem froz_imp (m : W.Mono) (σ : L2.St) (H : Hp) (Q : VK) (h : tE W ms e C a σ H Q) : tO W ms e C a σ H Q := by
  obtain ⟨F, ρ, d, ρ', r, h, k⟩ := h
  refine ⟨F, ρ, d, ρ', r, h, fun v F' H' l r' ⟨p, ds, vs, h1, h2, h3, h4, h5, h6, h7⟩ => ?_⟩
  subst h1 h2
  exact k _ (upd F' p (.lst vs)) H' (l.trans (Le.upd h4)) (r'.freeze m (fun _ z => nomatch z) h3 h4 h6 h7) (.lst (.of upd_same) (h5.mono m (Le.upd h4)))
theorem PE.freeze (m : W.Mono) (h : PE X x (tO W ms e C a)) : PE X x (tE W ms e C a) := h.imp fun σ H Q z => froz_imp m σ H Q z

/-! ### what leaves the slots alone -/
def quiet : E → Bool
  | .var _ => true
  | .bor _ => true
  | .cst _ => true
  | .bin _ a b => quiet a && quiet b
  | .neg a => quiet a
  | .cmp _ a b => quiet a && quiet b
  | .idx a b => quiet a && quiet b
  | .slc a b c => quiet a && quiet b && quiet c
  | .nop => true
  | .tup as => quiet as
  | .lst as => quiet as
  | .bi _ as => quiet as
  | .me _ a as => quiet a && quiet as
  | .isi a _ => quiet a
  | .get a _ _ => quiet a
  | .lam _ _ => true
  | .call _ as ks _ mu => quiet as && quiet ks && mu.isEmpty
  | .callv _ as => quiet as
  | .not a => quiet a
  | .anil => true
  | .acons a as => quiet a && quiet as
  | _ => false
def notArgs : E → Bool
  | .anil => false
  | .acons _ _ => false
  | .astar _ _ => false
  | _ => true
theorem evs_bad {C : Calls} {a : E} {ρ : Env'} (h : notArgs a = true) : evs C a ρ = .bad := by
  cases a <;> first | (cases h; done) | (simp [evs])
theorem quiet_ev (C : Calls) : ∀ (a : E), (∀ (ρ ρ' : Env') (d : D), quiet a = true → ev C a ρ = .ok (d, ρ') → ρ' = ρ) ∧ (∀ (ρ ρ' : Env') (ds : List D), quiet a = true → evs C a ρ = .ok (ds, ρ') → ρ' = ρ) ∧ ∀ (ρ ρ' : Env') (o : Option Int), quiet a = true → evp C a ρ = .ok (o, ρ') → ρ' = ρ := by
  have part : ∀ (a : E), (∀ (ρ ρ' : Env') (d : D), quiet a = true → ev C a ρ = .ok (d, ρ') → ρ' = ρ) → ∀ (ρ ρ' : Env') (o : Option Int), quiet a = true → evp C a ρ = .ok (o, ρ') → ρ' = ρ := fun a ih ρ ρ' o q h => by
    by_cases hn : a = .nop
    · subst hn
      rw [evp] at h
      cases h
      rfl
    · rw [evp] at h
      · obtain ⟨p, h1, h2⟩ := R.bind_ok h
        split at h2
        · cases h2; exact ih _ _ _ q h1
        · cases h2
      · exact hn
  have none : ∀ (a : E), notArgs a = true → ∀ (ρ ρ' : Env') (ds : List D), quiet a = true → evs C a ρ = .ok (ds, ρ') → ρ' = ρ := fun a n ρ ρ' ds _ h => by
    rw [evs_bad n] at h
    cases h
  have all : ∀ (a : E), notArgs a = true → (∀ (ρ ρ' : Env') (d : D), quiet a = true → ev C a ρ = .ok (d, ρ') → ρ' = ρ) → (∀ (ρ ρ' : Env') (d : D), quiet a = true → ev C a ρ = .ok (d, ρ') → ρ' = ρ) ∧ (∀ (ρ ρ' : Env') (ds : List D), quiet a = true → evs C a ρ = .ok (ds, ρ') → ρ' = ρ) ∧ ∀ (ρ ρ' : Env') (o : Option Int), quiet a = true → evp C a ρ = .ok (o, ρ') → ρ' = ρ :=
    fun a n h => ⟨h, none a n, part a h⟩
  intro a
  induction a with
  | var i =>
    exact all _ rfl fun ρ ρ' d q h => by
      rw [ev] at h; split at h <;> cases h; rfl
  | bor i =>
    exact all _ rfl fun ρ ρ' d q h => by
      rw [ev] at h; split at h <;> cases h; rfl
  | cst d =>
    exact all _ rfl fun ρ ρ' d q h => by
      rw [ev] at h; cases h; rfl
  | bin o a b iha ihb =>
    exact all _ rfl fun ρ ρ' d q h => by
      rw [ev] at h
      obtain ⟨q1, q2⟩ := Bool.and_eq_true_iff.mp q
      obtain ⟨p, h1, h⟩ := R.bind_ok h
      obtain ⟨u, h2, h⟩ := R.bind_ok h
      obtain ⟨w, h3, h⟩ := R.bind_ok h
      cases h
      exact (ihb.1 _ _ _ q2 h2).trans (iha.1 _ _ _ q1 h1)
  | cmp o a b iha ihb =>
    exact all _ rfl fun ρ ρ' d q h => by
      rw [ev] at h
      obtain ⟨q1, q2⟩ := Bool.and_eq_true_iff.mp q
      obtain ⟨p, h1, h⟩ := R.bind_ok h
      obtain ⟨u, h2, h⟩ := R.bind_ok h
      obtain ⟨w, h3, h⟩ := R.bind_ok h
      cases h
      exact (ihb.1 _ _ _ q2 h2).trans (iha.1 _ _ _ q1 h1)
  | idx a b iha ihb =>
    exact all _ rfl fun ρ ρ' d q h => by
      rw [ev] at h
      obtain ⟨q1, q2⟩ := Bool.and_eq_true_iff.mp q
      obtain ⟨p, h1, h⟩ := R.bind_ok h
      obtain ⟨u, h2, h⟩ := R.bind_ok h
      obtain ⟨w, h3, h⟩ := R.bind_ok h
      cases h
      exact (ihb.1 _ _ _ q2 h2).trans (iha.1 _ _ _ q1 h1)
  | neg a iha =>
    exact all _ rfl fun ρ ρ' d q h => by
      rw [ev] at h
      obtain ⟨p, h1, h⟩ := R.bind_ok h
      split at h <;> cases h
      exact iha.1 _ _ _ q h1
  | not a iha =>
    exact all _ rfl fun ρ ρ' d q h => by
      rw [ev] at h
      obtain ⟨p, h1, h⟩ := R.bind_ok h
      split at h <;> cases h
      exact iha.1 _ _ _ q h1
  | isi a t iha =>
    exact all _ rfl fun ρ ρ' d q h => by
      rw [ev] at h
      obtain ⟨p, h1, h⟩ := R.bind_ok h
      obtain ⟨w, h3, h⟩ := R.bind_ok h
      cases h
      exact iha.1 _ _ _ q h1
  | get a c k iha =>
    exact all _ rfl fun ρ ρ' d q h => by
      rw [ev] at h
      obtain ⟨p, h1, h⟩ := R.bind_ok h
      split at h
      · split at h
        · split at h
          · split at h
            · cases h; exact iha.1 _ _ _ q h1
            · cases h
          · obtain ⟨w, h3, h⟩ := R.bind_ok h
            cases h
            exact iha.1 _ _ _ q h1
          · cases h
        · cases h
      · cases h
  | slc a b c iha ihb ihc =>
    exact all _ rfl fun ρ ρ' d q h => by
      rw [ev] at h
      obtain ⟨q12, q3⟩ := Bool.and_eq_true_iff.mp q
      obtain ⟨q1, q2⟩ := Bool.and_eq_true_iff.mp q12
      obtain ⟨p, h1, h⟩ := R.bind_ok h
      obtain ⟨u, h2, h⟩ := R.bind_ok h
      obtain ⟨w, h3, h⟩ := R.bind_ok h
      obtain ⟨z, h4, h⟩ := R.bind_ok h
      cases h
      exact (ihc.2.2 _ _ _ q3 h3).trans ((ihb.2.2 _ _ _ q2 h2).trans (iha.1 _ _ _ q1 h1))
  | nop =>
    exact all _ rfl fun ρ ρ' d q h => by
      rw [ev] at h; cases h
  | tup as iha =>
    exact all _ rfl fun ρ ρ' d q h => by
      rw [ev] at h
      obtain ⟨p, h1, h⟩ := R.bind_ok h
      split at h <;> cases h
      exact iha.2.1 _ _ _ q h1
  | lst as iha =>
    exact all _ rfl fun ρ ρ' d q h => by
      rw [ev] at h
      obtain ⟨p, h1, h⟩ := R.bind_ok h
      split at h <;> cases h
      exact iha.2.1 _ _ _ q h1
  | bi o as iha =>
    exact all _ rfl fun ρ ρ' d q h => by
      rw [ev] at h
      obtain ⟨p, h1, h⟩ := R.bind_ok h
      obtain ⟨w, h3, h⟩ := R.bind_ok h
      cases h
      exact iha.2.1 _ _ _ q h1
  | me m a as iha ihb =>
    exact all _ rfl fun ρ ρ' d q h => by
      rw [ev] at h
      obtain ⟨q1, q2⟩ := Bool.and_eq_true_iff.mp q
      obtain ⟨p, h1, h⟩ := R.bind_ok h
      obtain ⟨u, h2, h⟩ := R.bind_ok h
      obtain ⟨w, h3, h⟩ := R.bind_ok h
      cases h
      exact (ihb.2.1 _ _ _ q2 h2).trans (iha.1 _ _ _ q1 h1)
  | lam l cs =>
    exact all _ rfl fun ρ ρ' d q h => by
      rw [ev] at h; split at h <;> cases h; rfl
  | call f as ks pm mu iha ihb =>
    exact all _ rfl fun ρ ρ' d q h => by
      rw [ev] at h
      obtain ⟨q12, q2⟩ := Bool.and_eq_true_iff.mp q
      obtain ⟨q1, q4⟩ := Bool.and_eq_true_iff.mp q12
      have q3 : mu = [] := List.isEmpty_iff.mp q2
      subst q3
      obtain ⟨p, h1, h⟩ := R.bind_ok h
      obtain ⟨p2, h12, h⟩ := R.bind_ok h
      split at h
      · split at h
        · obtain ⟨r, h2, h⟩ := R.bind_ok h
          split at h
          · rename_i ρ2 hp
            cases h
            have e1 := (ihb.2.1 _ _ _ q4 h12).trans (iha.2.1 _ _ _ q1 h1)
            cases hr : r.2 with
            | nil => rw [hr] at hp; cases hp; exact e1
            | cons a b => rw [hr] at hp; cases hp
          · cases h
        · cases h
      · cases h
  | callv i as iha =>
    exact all _ rfl fun ρ ρ' d q h => by
      rw [ev] at h
      split at h
      · obtain ⟨p, h1, h⟩ := R.bind_ok h
        obtain ⟨w, h3, h⟩ := R.bind_ok h
        cases h
        exact iha.2.1 _ _ _ q h1
      · obtain ⟨p, h1, h⟩ := R.bind_ok h
        obtain ⟨w, h3, h⟩ := R.bind_ok h
        split at h
        · cases h
          exact iha.2.1 _ _ _ q h1
        · cases h
      · cases h
  | anil =>
    have h0 : ∀ (ρ ρ' : Env') (d : D), quiet .anil = true → ev C .anil ρ = .ok (d, ρ') → ρ' = ρ := fun ρ ρ' d q h => by
      rw [ev] at h; cases h
    exact ⟨h0, fun ρ ρ' ds q h => by (rw [evs] at h; cases h; rfl), part _ h0⟩
  | acons a as iha ihb =>
    have h0 : ∀ (ρ ρ' : Env') (d : D), quiet (.acons a as) = true → ev C (.acons a as) ρ = .ok (d, ρ') → ρ' = ρ := fun ρ ρ' d q h => by
      rw [ev] at h; cases h
    refine ⟨h0, fun ρ ρ' ds q h => ?_, part _ h0⟩
    obtain ⟨q1, q2⟩ := Bool.and_eq_true_iff.mp q
    rw [evs] at h
    · obtain ⟨p, h1, h⟩ := R.bind_ok h
      obtain ⟨u, h2, h⟩ := R.bind_ok h
      cases h
      exact (ihb.2.1 _ _ _ q2 h2).trans (iha.1 _ _ _ q1 h1)
    · intro i z; rw [z] at q1; cases q1
  | _ => exact ⟨fun _ _ _ q => by (cases q), fun _ _ _ q => by (cases q), fun _ _ _ q => by (cases q)⟩
end
end Pu

set_option Elab.async false
set_option linter.all false
set_option maxRecDepth 100000
set_option maxHeartbeats 2000000
set_option autoImplicit false
/-! Pu, I: expressions, one rule for each form. -/
namespace Pu
open PySem PySem.Spec PyProof.Rows L2

def isRef : E → Bool
  | .mref _ => true
  | _ => false
def plainAs : E → Bool
  | .anil => true
  | .acons a as => !isRef a && plainAs as
  | .astar _ as => plainAs as
  | _ => false
def froAs : E → Bool
  | .anil => true
  | .acons a as => !isRef a && !isBor a && froAs as
  | .astar _ as => froAs as
  | _ => false
section
variable {W : W0} {ms : List Nat} {e : Ent} {C : Calls} {X : Cx} {pos pos' pos2 : Pos} {x y z : Expr} {xs : List Expr} {a b c as : E} {F F' H H' : Hp} {ρ ρ' : Env'} {σ : L2.St} {d : D} {ds : List D} {v : V} {vs : List V} {i : Nat} {n : Str}

theorem PstAs.cons (hr : isRef a = false) (p : Pst W ms a F ρ σ d v) (q : PstAs W ms as F ρ σ ds vs) : PstAs W ms (.acons a as) F ρ σ (d :: ds) (v :: vs) := by
  cases a <;> first | exact ⟨_, _, _, _, rfl, rfl, p, q⟩ | cases hr
theorem PstAs.cons_inv (hr : isRef a = false) (p : PstAs W ms (.acons a as) F ρ σ ds vs) : ∃ d ds' v r, ds = d :: ds' ∧ vs = v :: r ∧ Pst W ms a F ρ σ d v ∧ PstAs W ms as F ρ σ ds' r := by
  cases a <;> first | exact p | cases hr
theorem PstAs.repLs (r : Rel W ms e F ρ σ H) : ∀ {as : E} {ds : List D} {vs : List V}, plainAs as = true → PstAs W ms as F ρ σ ds vs → RepLs W F H ds vs
  | .anil, _, _, _, p => by
    obtain ⟨rfl, rfl⟩ := p
    exact .nil
  | .acons a as, _, _, h, p => by
    obtain ⟨h1, h2⟩ := Bool.and_eq_true_iff.mp h
    obtain ⟨d, ds', v, q, rfl, rfl, p1, p2⟩ := p.cons_inv (Bool.not_eq_true' _ |>.mp h1)
    exact .cons (p1.repL r) (PstAs.repLs r h2 p2)
  | .astar a as, _, _, h, p => by
    obtain ⟨d1, d2, v1, v2, rfl, rfl, p1, p2⟩ := p
    have h2 := PstAs.repLs r (as := as) h p2
    clear h p2
    induction d1 generalizing v1 with
    | nil => rw [p1.nil_inv]; exact h2
    | cons d d1 ih =>
      obtain ⟨v, q, rfl, q1, q2⟩ := p1.cons_inv
      exact .cons (.inl q1) (ih _ q2)
theorem PstAs.reps : ∀ {as : E} {ds : List D} {vs : List V}, froAs as = true → PstAs W ms as F ρ σ ds vs → Reps W F ds vs
  | .anil, _, _, _, p => by
    obtain ⟨rfl, rfl⟩ := p
    exact .nil
  | .acons a as, _, _, h, p => by
    obtain ⟨h12, h3⟩ := Bool.and_eq_true_iff.mp h
    obtain ⟨h1, h2⟩ := Bool.and_eq_true_iff.mp h12
    obtain ⟨d, ds', v, q, rfl, rfl, p1, p2⟩ := p.cons_inv (Bool.not_eq_true' _ |>.mp h1)
    exact .cons (p1.rep (Bool.not_eq_true' _ |>.mp h2)) (PstAs.reps h3 p2)
  | .astar a as, _, _, h, p => by
    obtain ⟨d1, d2, v1, v2, rfl, rfl, p1, p2⟩ := p
    exact p1.append (PstAs.reps (as := as) h p2)
theorem froAs_plain : ∀ {as : E}, froAs as = true → plainAs as = true
  | .anil, _ => rfl
  | .acons a as, h => by
    obtain ⟨h12, h3⟩ := Bool.and_eq_true_iff.mp h
    obtain ⟨h1, h2⟩ := Bool.and_eq_true_iff.mp h12
    exact Bool.and_eq_true_iff.mpr ⟨h1, froAs_plain h3⟩
  | .astar a as, h => froAs_plain (as := as) h
theorem q_ev {ρ ρ' : Env'} (h : isBor a = true → quiet b = true) (k : ev C b ρ = .ok (d, ρ')) : isBor a = true → ρ' = ρ := fun z => (quiet_ev C b).1 _ _ _ (h z) k
theorem q_evs {ρ ρ' : Env'} (h : isBor a = true → quiet as = true) (k : evs C as ρ = .ok (ds, ρ')) : isBor a = true → ρ' = ρ := fun z => (quiet_ev C as).2.1 _ _ _ (h z) k

/-! ### arguments -/
theorem s_nil : PA X [] (tA W ms e C .anil) := pa_nil.imp fun σ H Q ⟨F, ρ, ds, ρ', r, h, k⟩ => by
  rw [evs] at h
  cases h
  exact k [] F H (.refl _) r ⟨rfl, rfl⟩
theorem cons_imp (m : W.Mono) (q : isBor a = true → quiet as = true) (hr : isRef a = false) (σ : L2.St) (H : Hp) (Q : List V → Hp → Prop) (h : tA W ms e C (.acons a as) σ H Q) : tCons (tL W ms e C a) (tA W ms e C as) σ H Q := by
  obtain ⟨F, ρ, ds, ρ', r, h, k⟩ := h
  rw [evs] at h
  · obtain ⟨p, h1, h⟩ := R.bind_ok h
    obtain ⟨u, h2, h⟩ := R.bind_ok h
    cases h
    exact ⟨F, ρ, p.1, p.2, r, h1, fun v F1 H1 l1 r1 p1 => ⟨F1, p.2, u.1, u.2, r1, h2, fun vs F2 H2 l2 r2 p2 => k (v :: vs) F2 H2 (l1.trans l2) r2 (.cons hr (p1.later m l2 (q_evs q h2)) p2)⟩⟩
  · intro i z
    rw [z] at hr
    cases hr
theorem s_cons (m : W.Mono) (ha : PE X x (tL W ms e C a)) (hs : PA X xs (tA W ms e C as)) (hn : noStar x = true) (q : isBor a = true → quiet as = true) (hr : isRef a = false) : PA X (x :: xs) (tA W ms e C (.acons a as)) :=
  (pa_cons ha hs (starEach_cons hn)).imp fun σ H Q h => cons_imp m q hr σ H Q h
theorem s_ref (hN : X.N[i]? = some n) (hv : Vis X.env.scope n) (hd : (n == ("__debug__" : Str)) = false) (hc : (n == ("__classdict__" : Str)) = false) (hi : i ∈ ms) (hs : PA X xs (tA W ms e C as)) : PA X (.Name n pos :: xs) (tA W ms e C (.acons (.mref i) as)) :=
  (pa_cons (pe_var hN hv hd hc) hs (starEach_cons rfl)).imp fun σ H Q ⟨F, ρ, ds, ρ', r, h, k⟩ => by
    rw [evs] at h
    split at h
    · rename_i d0 hd0
      obtain ⟨u, h2, h⟩ := R.bind_ok h
      cases h
      obtain ⟨p, e1, _⟩ := r.wri i _ hi hd0
      exact ⟨_, e1, F, ρ, u.1, u.2, r, h2, fun vs F2 H2 l2 r2 p2 => k (_ :: vs) F2 H2 l2 r2 ⟨_, _, _, rfl, rfl, hi, e1, p2⟩⟩
    · cases h
theorem s_star (o : Ok W X) (hb : isBor a = false) (ha : PE X x (tE W ms e C a)) (hs : PA X xs (tA W ms e C as)) : PA X (.Starred x pos :: xs) (tA W ms e C (.astar a as)) :=
  (StX.pa_star ha hs rfl).imp fun σ H Q ⟨F, ρ, ds, ρ', r, h, k⟩ => by
    rw [evs] at h
    obtain ⟨p, h1, h⟩ := R.bind_ok h
    obtain ⟨u, h2, h⟩ := R.bind_ok h
    split at h
    · rename_i es hes
      cases h
      refine ⟨F, ρ, p.1, p.2, r, h1, fun v F1 H1 l1 r1 p1 => ?_⟩
      obtain ⟨q, vs, rfl, s1, rr⟩ := RepL.seq (W := W) r1.sub (.inl p1) hes
      refine ⟨q, vs, rfl, ?_, F1, p.2, u.1, u.2, r1, h2, fun us F2 H2 l2 r2 p2 => k (vs ++ us) F2 H2 (l1.trans l2) r2 ⟨_, _, _, _, rfl, rfl, rr.mono o.m l2, p2⟩⟩
      rw [o.k]
      exact s1.symm
    · cases h
theorem s_knil : PK X [] (tA W ms e C .anil) := ⟨fun pos pins s σ H Q I ⟨F, ρ, ds, ρ', r, h, k⟩ => by
  rw [evs] at h
  cases h
  exact pk_nil.run pos pins s σ H Q I (k [] F H (.refl _) r ⟨rfl, rfl⟩)⟩
theorem s_kcons (m : W.Mono) {kw : Keyword} {kws : List Keyword} (ha : PE X kw.value (tL W ms e C a)) (hs : PK X kws (tA W ms e C as)) (q : isBor a = true → quiet as = true) (hr : isRef a = false) : PK X (kw :: kws) (tA W ms e C (.acons a as)) :=
  ⟨fun pos pins s σ H Q I h => by
    cases kw with
    | mk nm v kp => exact (pk_cons (nm := nm) (kpos := kp) ha hs).run pos pins s σ H Q I (cons_imp m q hr σ H Q h)⟩

/-! ### names, constants -/
theorem s_var (hN : X.N[i]? = some n) (hv : Vis X.env.scope n) (hd : (n == ("__debug__" : Str)) = false) (hc : (n == ("__classdict__" : Str)) = false) (hi : i ∉ ms) : PE X (.Name n pos) (tE W ms e C (.var i)) :=
  (pe_var hN hv hd hc).imp fun σ H Q ⟨F, ρ, d, ρ', r, h, k⟩ => by
    rw [ev] at h
    split at h
    · rename_i d0 hd0
      cases h
      obtain ⟨v, e1, e2⟩ := r.fro i _ hi hd0
      exact ⟨v, e1, k v F H (.refl _) r e2⟩
    · cases h
theorem s_bor (hN : X.N[i]? = some n) (hv : Vis X.env.scope n) (hd : (n == ("__debug__" : Str)) = false) (hc : (n == ("__classdict__" : Str)) = false) (hi : i ∈ ms) : PE X (.Name n pos) (tL W ms e C (.bor i)) :=
  (pe_var hN hv hd hc).imp fun σ H Q ⟨F, ρ, d, ρ', r, h, k⟩ => by
    rw [ev] at h
    split at h
    · rename_i ds0 hd0
      cases h
      obtain ⟨p, e1, _⟩ := r.wri i _ hi hd0
      exact ⟨_, e1, k _ F H (.refl _) r ⟨hi, e1, hd0, _, rfl⟩⟩
    · cases h
theorem live_set {j : Nat} (h : Live (ρ.set i none) j) : i ≠ j ∧ Live ρ j := by
  obtain ⟨d, h⟩ := h
  rcases set_get h with ⟨_, z, _⟩ | ⟨h1, h2⟩
  · cases z
  · exact ⟨h1, d, h2⟩
theorem s_mov (hN : X.N[i]? = some n) (hv : Vis X.env.scope n) (hd : (n == ("__debug__" : Str)) = false) (hc : (n == ("__classdict__" : Str)) = false) (hi : i ∈ ms) : PE X (.Name n pos) (tO W ms e C (.mov i)) :=
  (pe_var hN hv hd hc).imp fun σ H Q ⟨F, ρ, d, ρ', r, h, k⟩ => by
    rw [ev] at h
    split at h
    · rename_i ds0 hd0
      cases h
      obtain ⟨p, e1, e2, e3, e4⟩ := r.wri i _ hi hd0
      rcases e3 with ⟨es, us, e5, e6, e7⟩ | ⟨_, _, _, _, e5, _⟩
      · cases e5
        refine ⟨_, e1, k _ F H (.refl _) (r.weak (by rw [List.length_set]; exact r.len) (fun j d hj => ?_) fun _ _ => rfl) ⟨p, _, us, rfl, rfl, e6, e2, e7, e4.symm, fun j hj lj z => ?_⟩⟩
        · rcases set_get hj with ⟨_, z, _⟩ | ⟨_, h2⟩
          · cases z
          · exact ⟨h2, rfl⟩
        · obtain ⟨h1, h2⟩ := live_set lj
          exact h1 (r.inj i j p hi hj ⟨_, hd0⟩ h2 e1 z)
      · cases e5
    · cases h
theorem s_cstV {p : Expr} (hp : PE X p (tC v)) (h : ∀ F, Rep W F d v) : PE X p (tE W ms e C (.cst d)) :=
  hp.imp fun σ H Q ⟨F, ρ, d', ρ', r, h', k⟩ => by
    rw [ev] at h'
    cases h'
    exact k v F H (.refl _) r (h F)

/-! ### operators -/
theorem s_bin (o : Ok W X) {p : Bop} (ha : PE X x (tL W ms e C a)) (hb : PE X y (tL W ms e C b)) (q : isBor a = true → quiet b = true) : PE X (.BinOp x (bopOf p) y pos) (tE W ms e C (.bin p a b)) :=
  (pe_op (op_bin o p) ha hb).imp fun σ H Q ⟨F, ρ, d, ρ', r, h, k⟩ => by
    rw [ev] at h
    obtain ⟨p, h1, h⟩ := R.bind_ok h
    obtain ⟨u, h2, h⟩ := R.bind_ok h
    obtain ⟨z, h3, h⟩ := R.bind_ok h
    cases h
    exact ⟨F, ρ, p.1, p.2, r, h1, fun v F1 H1 l1 r1 p1 => ⟨F1, p.2, u.1, u.2, r1, h2, fun w F2 H2 l2 r2 p2 => ⟨F2, p.1, u.1, _, r2.sub, (p1.later o.m l2 (q_ev q h2)).repL r2, p2.repL r2, h3,
      fun z F3 H3 s3 rz => k z F3 H3 (l1.trans (l2.trans s3.fr)) (r2.step o.m s3) rz⟩⟩⟩
theorem cmp_imp (o : Ok W X) {p : Cop} (q : isBor a = true → quiet b = true) (σ : L2.St) (H : Hp) (Q : VK) (h : tE W ms e C (.cmp p a b) σ H Q) : tOp (rC W (cmpD p)) (tL W ms e C a) (tL W ms e C b) σ H Q := by
  obtain ⟨F, ρ, d, ρ', r, h, k⟩ := h
  rw [ev] at h
  obtain ⟨p, h1, h⟩ := R.bind_ok h
  obtain ⟨u, h2, h⟩ := R.bind_ok h
  obtain ⟨z, h3, h⟩ := R.bind_ok h
  cases h
  exact ⟨F, ρ, p.1, p.2, r, h1, fun v F1 H1 l1 r1 p1 => ⟨F1, p.2, u.1, u.2, r1, h2, fun w F2 H2 l2 r2 p2 => ⟨F2, p.1, u.1, _, r2.sub, (p1.later o.m l2 (q_ev q h2)).repL r2, p2.repL r2, h3,
      k _ F2 H2 (l1.trans l2) r2 .bl⟩⟩⟩
theorem s_cmp (o : Ok W X) {p : Cop} (ha : PE X x (tL W ms e C a)) (hb : PE X y (tL W ms e C b)) (q : isBor a = true → quiet b = true) (hn : noSet y = true) : PE X (.Compare x [copOf p] [y] pos) (tE W ms e C (.cmp p a b)) :=
  (pe_cmpR (op_cmp o p) ha hb (mark_ok hn)).imp fun σ H Q h => cmp_imp o q σ H Q h
theorem test_of {t : TE} (hb : ∀ (ρ : Env') (d : D) (ρ' : Env'), ev C a ρ = .ok (d, ρ') → ∃ b, d = .bl b) (h : ∀ σ H Q, tE W ms e C a σ H Q → t σ H Q) (σ : L2.St) (H : Hp) (Q : Bool → Hp → Prop) (z : tT W ms e C a σ H Q) : tTest t σ H Q := by
  obtain ⟨F, ρ, d, ρ', k, r, h1, h2, q⟩ := z
  refine h σ H _ ⟨F, ρ, d, ρ', r, h1, fun v F' H' l r' rv => ?_⟩
  obtain ⟨b, rfl⟩ := hb _ _ _ h1
  cases h2
  exact ⟨_, rv.bl_inv, q F' H' l r'⟩
theorem cmp_bool {p : Cop} (ρ : Env') (d : D) (ρ' : Env') (h : ev C (.cmp p a b) ρ = .ok (d, ρ')) : ∃ b, d = .bl b := by
  rw [ev] at h
  obtain ⟨p, h1, h⟩ := R.bind_ok h
  obtain ⟨u, h2, h⟩ := R.bind_ok h
  obtain ⟨z, h3, h⟩ := R.bind_ok h
  cases h
  exact ⟨_, rfl⟩
theorem s_tcmp (o : Ok W X) {p : Cop} (ha : PE X x (tL W ms e C a)) (hb : PE X y (tL W ms e C b)) (q : isBor a = true → quiet b = true) (hn : noSet y = true) : PT X (.Compare x [copOf p] [y] pos) (tT W ms e C (.cmp p a b)) :=
  (pt_cmpR (op_cmp o p) ha hb (mark_ok hn)).imp (test_of cmp_bool (cmp_imp o q))
theorem chain_imp (o : Ok W X) {p p' : Cop} (na : isBor a = false) (nb : isBor b = false) (σ : L2.St) (H : Hp) (Q : VK) (h : tE W ms e C (.cmp2 p p' a b c) σ H Q) : tChain (rC W (cmpD p)) (rC W (cmpD p')) (tL W ms e C a) (tL W ms e C b) (tL W ms e C c) σ H Q := by
  obtain ⟨F, ρ, d, ρ', r, h, k⟩ := h
  rw [ev] at h
  obtain ⟨p, h1, h⟩ := R.bind_ok h
  obtain ⟨u, h2, h⟩ := R.bind_ok h
  obtain ⟨z, h3, h⟩ := R.bind_ok h
  refine ⟨F, ρ, p.1, p.2, r, h1, fun v F1 H1 l1 r1 p1 => ⟨F1, p.2, u.1, u.2, r1, h2, fun w F2 H2 l2 r2 p2 => ⟨F2, p.1, u.1, _, r2.sub, .inl ((p1.rep na).mono o.m l2), p2.repL r2, h3, z, rfl, ?_⟩⟩⟩
  cases z with
  | true =>
    obtain ⟨y, h4, h⟩ := R.bind_ok h
    obtain ⟨z', h5, h⟩ := R.bind_ok h
    cases h
    exact ⟨F2, u.2, y.1, y.2, r2, h4, fun w3 F3 H3 l3 r3 p3 => ⟨F3, u.1, y.1, z', r3.sub, .inl ((p2.rep nb).mono o.m l3), p3.repL r3, h5, k _ F3 H3 (l1.trans (l2.trans l3)) r3 .bl⟩⟩
  | false =>
    cases h
    exact k _ F2 H2 (l1.trans l2) r2 .bl
theorem s_cmp2 (o : Ok W X) {p p' : Cop} (ha : PE X x (tL W ms e C a)) (hb : PE X y (tL W ms e C b)) (hc : PE X z (tL W ms e C c)) (na : isBor a = false) (nb : isBor b = false) (hn : noSet z = true) :
    PE X (.Compare x [copOf p, copOf p'] [y, z] pos) (tE W ms e C (.cmp2 p p' a b c)) :=
  (pe_chain (op_cmp o p) (op_cmp o p') ha hb hc (last_ok hn)).imp fun σ H Q h => chain_imp o na nb σ H Q h
theorem chain_bool {p p' : Cop} (ρ : Env') (d : D) (ρ' : Env') (h : ev C (.cmp2 p p' a b c) ρ = .ok (d, ρ')) : ∃ b, d = .bl b := by
  rw [ev] at h
  obtain ⟨p, h1, h⟩ := R.bind_ok h
  obtain ⟨u, h2, h⟩ := R.bind_ok h
  obtain ⟨z, h3, h⟩ := R.bind_ok h
  cases z with
  | true =>
    obtain ⟨y, h4, h⟩ := R.bind_ok h
    obtain ⟨z', h5, h⟩ := R.bind_ok h
    cases h
    exact ⟨_, rfl⟩
  | false =>
    cases h
    exact ⟨_, rfl⟩
theorem s_tcmp2 (o : Ok W X) {p p' : Cop} (ha : PE X x (tL W ms e C a)) (hb : PE X y (tL W ms e C b)) (hc : PE X z (tL W ms e C c)) (na : isBor a = false) (nb : isBor b = false) (hn : noSet z = true) :
    PT X (.Compare x [copOf p, copOf p'] [y, z] pos) (tT W ms e C (.cmp2 p p' a b c)) :=
  (pt_chain (op_cmp o p) (op_cmp o p') ha hb hc (last_ok hn)).imp (test_of chain_bool (chain_imp o na nb))
theorem s_neg (ha : PE X x (tE W ms e C a)) : PE X (.UnaryOp .USub x pos) (tE W ms e C (.neg a)) :=
  (pe_un un_neg ha).imp fun σ H Q ⟨F, ρ, d, ρ', r, h, k⟩ => by
    rw [ev] at h
    obtain ⟨p, h1, h⟩ := R.bind_ok h
    split at h
    · rename_i i hi
      cases h
      refine ⟨F, ρ, p.1, p.2, r, h1, fun v F1 H1 l1 r1 p1 => ⟨i, ?_, k _ F1 H1 l1 r1 .int⟩⟩
      rw [hi] at p1
      exact p1.int_inv
    · cases h

/-! ### and, or, not, if -/
theorem s_and {rest : List Expr} (ha : PE X x (tE W ms e C a)) (hb : PE X (.BoolOp .And (y :: rest) pos) (tE W ms e C b)) : PE X (.BoolOp .And (x :: y :: rest) pos) (tE W ms e C (.and a b)) :=
  (pe_and ha hb).imp fun σ H Q ⟨F, ρ, d, ρ', r, h, k⟩ => by
    rw [ev] at h
    obtain ⟨p, h1, h⟩ := R.bind_ok h
    refine ⟨F, ρ, p.1, p.2, r, h1, fun v F1 H1 l1 r1 p1 => ?_⟩
    split at h
    · rename_i hp
      rw [hp] at p1
      exact ⟨true, p1.bl_inv, F1, p.2, d, ρ', r1, h, fun v F2 H2 l2 r2 p2 => k v F2 H2 (l1.trans l2) r2 p2⟩
    · rename_i hp
      rw [hp] at p1
      cases h
      exact ⟨false, p1.bl_inv, k _ F1 H1 l1 r1 .bl⟩
    · cases h
theorem s_or {rest : List Expr} (ha : PE X x (tE W ms e C a)) (hb : PE X (.BoolOp .Or (y :: rest) pos) (tE W ms e C b)) : PE X (.BoolOp .Or (x :: y :: rest) pos) (tE W ms e C (.or a b)) :=
  (pe_or ha hb).imp fun σ H Q ⟨F, ρ, d, ρ', r, h, k⟩ => by
    rw [ev] at h
    obtain ⟨p, h1, h⟩ := R.bind_ok h
    refine ⟨F, ρ, p.1, p.2, r, h1, fun v F1 H1 l1 r1 p1 => ?_⟩
    split at h
    · rename_i hp
      rw [hp] at p1
      cases h
      exact ⟨true, p1.bl_inv, k _ F1 H1 l1 r1 .bl⟩
    · rename_i hp
      rw [hp] at p1
      exact ⟨false, p1.bl_inv, F1, p.2, d, ρ', r1, h, fun v F2 H2 l2 r2 p2 => k v F2 H2 (l1.trans l2) r2 p2⟩
    · cases h
theorem s_not (ha : PE X x (tE W ms e C a)) : PE X (.UnaryOp .Not x pos) (tE W ms e C (.not a)) :=
  (pe_not ha).imp fun σ H Q ⟨F, ρ, d, ρ', r, h, k⟩ => by
    rw [ev] at h
    obtain ⟨p, h1, h⟩ := R.bind_ok h
    refine ⟨F, ρ, p.1, p.2, r, h1, fun v F1 H1 l1 r1 p1 => ?_⟩
    split at h
    · rename_i c hp
      rw [hp] at p1
      cases h
      exact ⟨c, p1.bl_inv, k _ F1 H1 l1 r1 .bl⟩
    · cases h
theorem s_tand {rest : List Expr} (ha : PT X x (tT W ms e C a)) (hb : PW X (.BoolOp .And (y :: rest) pos) (tT W ms e C b)) : PW X (.BoolOp .And (x :: y :: rest) pos) (tT W ms e C (.and a b)) :=
  (pw_and ha hb).imp fun σ H Q ⟨F, ρ, d, ρ', k, r, h, ht, q⟩ => by
    rw [ev] at h
    obtain ⟨p, h1, h⟩ := R.bind_ok h
    split at h
    · rename_i hp
      refine ⟨F, ρ, p.1, p.2, true, r, h1, by rw [hp]; rfl, fun F1 H1 l1 r1 => ?_⟩
      show tT W ms e C b σ H1 Q
      exact ⟨F1, p.2, d, ρ', k, r1, h, ht, fun F2 H2 l2 r2 => q F2 H2 (l1.trans l2) r2⟩
    · rename_i hp
      cases h
      cases ht
      refine ⟨F, ρ, p.1, p.2, false, r, h1, by rw [hp]; rfl, fun F1 H1 l1 r1 => ?_⟩
      show Q false H1
      exact q F1 H1 l1 r1
    · cases h
theorem s_tor {rest : List Expr} (ha : PT X x (tT W ms e C a)) (hb : PW X (.BoolOp .Or (y :: rest) pos) (tT W ms e C b)) : PW X (.BoolOp .Or (x :: y :: rest) pos) (tT W ms e C (.or a b)) :=
  (pw_or ha hb).imp fun σ H Q ⟨F, ρ, d, ρ', k, r, h, ht, q⟩ => by
    rw [ev] at h
    obtain ⟨p, h1, h⟩ := R.bind_ok h
    split at h
    · rename_i hp
      cases h
      cases ht
      refine ⟨F, ρ, p.1, p.2, true, r, h1, by rw [hp]; rfl, fun F1 H1 l1 r1 => ?_⟩
      show Q true H1
      exact q F1 H1 l1 r1
    · rename_i hp
      refine ⟨F, ρ, p.1, p.2, false, r, h1, by rw [hp]; rfl, fun F1 H1 l1 r1 => ?_⟩
      show tT W ms e C b σ H1 Q
      exact ⟨F1, p.2, d, ρ', k, r1, h, ht, fun F2 H2 l2 r2 => q F2 H2 (l1.trans l2) r2⟩
    · cases h
theorem s_tnot (ha : PT X x (tT W ms e C a)) : PT X (.UnaryOp .Not x pos) (tT W ms e C (.not a)) :=
  (pt_not ha).imp fun σ H Q ⟨F, ρ, d, ρ', k, r, h, ht, q⟩ => by
    rw [ev] at h
    obtain ⟨p, h1, h⟩ := R.bind_ok h
    split at h
    · rename_i c hp
      cases h
      cases ht
      exact ⟨F, ρ, p.1, p.2, c, r, h1, by rw [hp]; rfl, fun F1 H1 l1 r1 => q F1 H1 l1 r1⟩
    · cases h
/-- a value's truth: a bool, or a list that is not empty -/
theorem s_tval (o : Ok W X) (hp : plainTest x = true) (ha : PE X x (tL W ms e C a)) : PT X x (tT W ms e C a) :=
  (pt_truth ha (fun w => isTrue_plain hp w)).imp fun σ H Q ⟨F, ρ, d, ρ', k, r, h, ht, q⟩ => by
    refine ⟨F, ρ, d, ρ', r, h, fun v F1 H1 l1 r1 p1 => ⟨k, ?_, q F1 H1 l1 r1⟩⟩
    have p2 := p1.repL r1
    cases d with
    | bl b =>
      cases ht
      rw [p2.bl]
      rfl
    | lst ds =>
      cases ht
      obtain ⟨p, vs, rfl, s1, r2⟩ := p2.lst_inv r1.sub
      refine .inl ⟨vs, by rw [o.k]; exact s1, ?_⟩
      have l := r2.length
      cases ds with
      | nil => rw [r2.nil_inv]; rfl
      | cons d ds =>
        obtain ⟨v, q, rfl, _⟩ := r2.cons_inv
        rfl
    | _ => cases ht
theorem s_ite (hc : PT X z (tT W ms e C c)) (ha : PE X x (tE W ms e C a)) (hb : PE X y (tE W ms e C b)) : PE X (.IfExp z x y pos) (tE W ms e C (.ite c a b)) :=
  (pe_ifExp hc ha hb).imp fun σ H Q ⟨F, ρ, d, ρ', r, h, k⟩ => by
    rw [ev] at h
    obtain ⟨p, h1, h⟩ := R.bind_ok h
    split at h
    · rename_i hp
      refine ⟨F, ρ, p.1, p.2, true, r, h1, by rw [hp]; rfl, fun F1 H1 l1 r1 => ?_⟩
      show tE W ms e C a σ H1 Q
      exact ⟨F1, p.2, d, ρ', r1, h, fun v F2 H2 l2 r2 p2 => k v F2 H2 (l1.trans l2) r2 p2⟩
    · rename_i hp
      refine ⟨F, ρ, p.1, p.2, false, r, h1, by rw [hp]; rfl, fun F1 H1 l1 r1 => ?_⟩
      show tE W ms e C b σ H1 Q
      exact ⟨F1, p.2, d, ρ', r1, h, fun v F2 H2 l2 r2 p2 => k v F2 H2 (l1.trans l2) r2 p2⟩
    · cases h
end
end Pu

set_option Elab.async false
set_option linter.all false
set_option maxRecDepth 100000
set_option maxHeartbeats 2000000
set_option autoImplicit false
/-! Pu, J: displays, places, built-in functions and methods, fields. -/
namespace Pu
open PySem PySem.Spec PyProof.Rows L2

section
variable {W : W0} {ms : List Nat} {e : Ent} {C : Calls} {X : Cx} {pos pos' pos2 apos : Pos} {x y z : Expr} {xs es : List Expr} {a b c as : E} {F F' H H' : Hp} {ρ ρ' : Env'} {σ : L2.St} {d : D} {ds : List D} {v : V} {vs : List V} {i : Nat} {n : Str}

/-! ### displays -/
theorem pe_tupS {t : TA} {x1 : Nat} (h : PA X es t) : PE X (.Tuple es x1 pos) (fun σ H Q => t σ H fun xs H1 => xs.length ≤ sizeLine ∧ ∀ p o, H1 p = none → TupO o → Q (.ref p) (upd H1 p (.frz o (.tup xs)))) := by
  refine ⟨fun pins s σ H Q I hq => ?_⟩
  refine wpAny_Tuple_spliced (thn (h.run pos pins s σ H _ I hq) fun us s1 ⟨xs, H1, I1, r, z, q⟩ => ⟨by rw [← r.length]; exact z, ?_⟩)
  exact ⟨.ref s1.heap.objs.size, _, tup_laid (t' := s1.toks) I1 r z, rfl, q _ _ (I1.hok.fresh (Nat.le_refl _)) ⟨rfl, rfl⟩⟩
theorem s_tup (o : Ok W X) {x1 : Nat} (ha : PA X es (tA W ms e C as)) (hf : froAs as = true) : PE X (.Tuple es x1 pos) (tE W ms e C (.tup as)) :=
  (pe_tupS ha).imp fun σ H Q ⟨F, ρ, d, ρ', r, h, k⟩ => by
    rw [ev] at h
    obtain ⟨p, h1, h⟩ := R.bind_ok h
    split at h
    · rename_i hz
      cases h
      refine ⟨F, ρ, p.1, p.2, r, h1, fun vs F1 H1 l1 r1 p1 => ?_⟩
      have q1 := p1.reps hf
      refine ⟨by rw [q1.length, limz]; exact hz, fun q ob hq ht => ?_⟩
      have hF := r1.sub.none hq
      exact k _ (upd F1 q (.frz ob (.tup vs))) _ (l1.trans (Le.upd hF)) (r1.step o.m (.new r1.sub _ hq)) (.tup (.of upd_same ht) (q1.mono o.m (Le.upd hF)))
    · cases h
/-- a new list is own -/
theorem own_new (m : W.Mono) {q : Addr} (r : Rel W ms e F ρ σ H) (hq : H q = none) (rr : Reps W F ds vs) : Rel W ms e F ρ σ (upd H q (.lst vs)) ∧ OwnV W ms e F ρ σ (upd H q (.lst vs)) (.lst ds) (.ref q) := by
  have r2 := r.step m (Step.side r.sub (.lst vs) hq)
  refine ⟨r2, q, ds, vs, rfl, rfl, upd_same, r.sub.none hq, rr, .inl ?_, fun i hi ⟨d, hd⟩ z => ?_⟩
  · cases z : e.H0 q with
    | none => rfl
    | some u => exact absurd hq (r.al q (by rw [z]; simp))
  · obtain ⟨p, h1, h2, h3, _⟩ := r.wri i d hi hd
    rw [z] at h1
    cases h1
    obtain ⟨o, h4, _⟩ := h3.some
    rw [hq] at h4
    cases h4
theorem s_lst (o : Ok W X) (ha : PA X es (tA W ms e C as)) (hf : froAs as = true) : PE X (.List es pos) (tO W ms e C (.lst as)) :=
  (pe_lst ha).imp fun σ H Q ⟨F, ρ, d, ρ', r, h, k⟩ => by
    rw [ev] at h
    obtain ⟨p, h1, h⟩ := R.bind_ok h
    split at h
    · rename_i hz
      cases h
      refine ⟨F, ρ, p.1, p.2, r, h1, fun vs F1 H1 l1 r1 p1 => ?_⟩
      have q1 := p1.reps hf
      refine ⟨by rw [q1.length, limz]; exact hz, fun q hq => ?_⟩
      obtain ⟨r2, o2⟩ := own_new o.m r1 hq q1
      exact k _ F1 _ l1 r2 o2
    · cases h

/-! ### places -/
theorem s_idx (o : Ok W X) (ha : PE X x (tL W ms e C a)) (hb : PE X y (tL W ms e C b)) (q : isBor a = true → quiet b = true) (hn : noSlice y = true) : PE X (.Subscript x y pos) (tE W ms e C (.idx a b)) :=
  (pe_ix (ix_A o) ha hb (ix_ok hn)).imp fun σ H Q ⟨F, ρ, d, ρ', r, h, k⟩ => by
    rw [ev] at h
    obtain ⟨p, h1, h⟩ := R.bind_ok h
    obtain ⟨u, h2, h⟩ := R.bind_ok h
    obtain ⟨z, h3, h⟩ := R.bind_ok h
    cases h
    exact ⟨F, ρ, p.1, p.2, r, h1, fun v F1 H1 l1 r1 p1 => ⟨F1, p.2, u.1, u.2, r1, h2, fun w F2 H2 l2 r2 p2 => ⟨F2, p.1, u.1, _, r2.sub, (p1.later o.m l2 (q_ev q h2)).repL r2, p2.repL r2, h3,
      fun z F3 H3 s3 rz => k z F3 H3 (l1.trans (l2.trans s3.fr)) (r2.step o.m s3) rz⟩⟩⟩
def tP (W : W0) (ms : List Nat) (e : Ent) (C : Calls) (a : E) : TO := fun σ H Q => ∃ F ρ oi ρ', Rel W ms e F ρ σ H ∧ evp C a ρ = .ok (oi, ρ') ∧ ∀ F' H', Le F F' → Rel W ms e F' ρ' σ H' → Q oi H'
theorem PO.imp {x : Option Expr} {t t' : TO} (h : PO X x t) (k : ∀ σ H Q, t' σ H Q → t σ H Q) : PO X x t' := ⟨fun pins s σ H Q I z => h.run pins s σ H Q I (k σ H Q z)⟩
theorem s_pnone : PO X none (tP W ms e C .nop) := PO.imp po_none fun σ H Q ⟨F, ρ, oi, ρ', r, h, k⟩ => by
  rw [evp] at h
  cases h
  exact k F H (.refl _) r
theorem s_psome (ha : PE X x (tE W ms e C a)) (hn : a ≠ .nop) : PO X (some x) (tP W ms e C a) := PO.imp (po_some ha) fun σ H Q ⟨F, ρ, oi, ρ', r, h, k⟩ => by
  rw [evp] at h
  · obtain ⟨p, h1, h⟩ := R.bind_ok h
    refine ⟨F, ρ, p.1, p.2, r, h1, fun v F1 H1 l1 r1 p1 => ?_⟩
    split at h
    · rename_i i hi
      rw [hi] at p1
      cases h
      exact ⟨i, p1.int_inv, k F1 H1 l1 r1⟩
    · cases h
  · exact hn
theorem q_evp {ρ ρ' : Env'} {oi : Option Int} (h : isBor a = true → quiet b = true) (k : evp C b ρ = .ok (oi, ρ')) : isBor a = true → ρ' = ρ := fun z => (quiet_ev C b).2.2 _ _ _ (h z) k
theorem s_slc (o : Ok W X) {lo hi : Option Expr} (ha : PE X x (tL W ms e C a)) (hb : PO X lo (tP W ms e C b)) (hc : PO X hi (tP W ms e C c)) (q : isBor a = true → quiet b = true ∧ quiet c = true) : PE X (.Subscript x (.Slice lo hi none pos2) pos) (tE W ms e C (.slc a b c)) :=
  (pe_slice (sl_A o) ha hb hc).imp fun σ H Q ⟨F, ρ, d, ρ', r, h, k⟩ => by
    rw [ev] at h
    obtain ⟨p, h1, h⟩ := R.bind_ok h
    obtain ⟨u, h2, h⟩ := R.bind_ok h
    obtain ⟨w, h3, h⟩ := R.bind_ok h
    obtain ⟨z, h4, h⟩ := R.bind_ok h
    cases h
    refine ⟨F, ρ, p.1, p.2, r, h1, fun v F1 H1 l1 r1 p1 => ⟨F1, p.2, u.1, u.2, r1, h2, fun F2 H2 l2 r2 => ⟨F2, u.2, w.1, w.2, r2, h3, fun F3 H3 l3 r3 => ⟨F3, p.1, _, r3.sub, ?_, h4,
      fun z F4 H4 s4 rz => k z F4 H4 (l1.trans (l2.trans (l3.trans s4.fr))) (r3.step o.m s4) rz⟩⟩⟩⟩
    exact ((p1.later o.m l2 (q_evp (fun z => (q z).1) h2)).later o.m l3 (q_evp (fun z => (q z).2) h3)).repL r3

/-! ### built-in functions -/
theorem bi_imp (o : Ok W X) {f : Bi} (hp : plainAs as = true) (σ : L2.St) (H : Hp) (Q : VK) (h : tE W ms e C (.bi f as) σ H Q) : tCB (rG W (biD f)) (tA W ms e C as) σ H Q := by
  obtain ⟨F, ρ, d, ρ', r, h, k⟩ := h
  rw [ev] at h
  obtain ⟨p, h1, h⟩ := R.bind_ok h
  obtain ⟨w, h2, h⟩ := R.bind_ok h
  cases h
  exact ⟨F, ρ, p.1, p.2, r, h1, fun vs F1 H1 l1 r1 p1 => ⟨F1, p.1, _, r1.sub, p1.repLs r1 hp, h2, fun z F2 H2 s2 rz => k z F2 H2 (l1.trans s2.fr) (r1.step o.m s2) rz⟩⟩
theorem bio_imp (o : Ok W X) {f : Bi} (hp : plainAs as = true) (hl : ∀ ds d, biD f ds = .ok d → ∃ es, d = .lst es) (σ : L2.St) (H : Hp) (Q : VK) (h : tO W ms e C (.bi f as) σ H Q) : tCB (rGo W (biD f)) (tA W ms e C as) σ H Q := by
  obtain ⟨F, ρ, d, ρ', r, h, k⟩ := h
  rw [ev] at h
  obtain ⟨p, h1, h⟩ := R.bind_ok h
  obtain ⟨w, h2, h⟩ := R.bind_ok h
  cases h
  refine ⟨F, ρ, p.1, p.2, r, h1, fun vs F1 H1 l1 r1 p1 => ⟨F1, p.1, _, r1.sub, p1.repLs r1 hp, h2, fun es us e1 rr q hq => ?_⟩⟩
  subst e1
  obtain ⟨r2, o2⟩ := own_new o.m r1 hq rr
  exact k _ F1 _ l1 r2 o2
/-- a built-in function by its name -/
def biN : Bi → Str
  | .len => "len" | .abs => "abs" | .int => "int" | .min => "min" | .max => "max" | .min2 => "min" | .max2 => "max" | .sum => "sum" | .any => "any" | .all => "all" | .tuple => "tuple" | .list => "list" | .sorted => "sorted" | .divmod => "divmod" | .gcd => "math.gcd" | .lenset => "-"
/-- those that are plain functions of the built-in names -/
def biFun : Bi → Bool
  | .len | .abs | .min | .max | .min2 | .max2 | .sum | .any | .all | .divmod => true
  | _ => false
def biTy : Bi → Bool
  | .int | .tuple => true
  | _ => false
theorem s_biF (o : Ok W X) {f : Bi} (hf : biFun f = true) (hn : n = biN f) (hg : Gl X n) (hm : X.mg n = none) (ha : PA X (x :: xs) (tA W ms e C as)) (hs : noStar x = true) (hs2 : xs.all noStar = true) (hp : plainAs as = true) :
    PE X (.Call (.Name n pos) (x :: xs) [] pos') (tE W ms e C (.bi f as)) := by
  subst hn
  cases f <;> first | (cases hf; done) | skip
  · exact (pe_callB (call_lenA o) hg hm rfl ha (by decide) (by decide) (starEach_cons hs) (noStars hs2)).imp fun σ H Q h => bi_imp o hp σ H Q h
  · exact (pe_callB (call_absA o) hg hm rfl ha (by decide) (by decide) (starEach_cons hs) (noStars hs2)).imp fun σ H Q h => bi_imp o hp σ H Q h
  · exact (pe_callB (call_minA o) hg hm rfl ha (by decide) (by decide) (starEach_cons hs) (noStars hs2)).imp fun σ H Q h => bi_imp o hp σ H Q h
  · exact (pe_callB (call_maxA o) hg hm rfl ha (by decide) (by decide) (starEach_cons hs) (noStars hs2)).imp fun σ H Q h => bi_imp o hp σ H Q h
  · exact (pe_callB (call_min2A o) hg hm rfl ha (by decide) (by decide) (starEach_cons hs) (noStars hs2)).imp fun σ H Q h => bi_imp o hp σ H Q h
  · exact (pe_callB (call_max2A o) hg hm rfl ha (by decide) (by decide) (starEach_cons hs) (noStars hs2)).imp fun σ H Q h => bi_imp o hp σ H Q h
  · exact (pe_callB (call_sumA o) hg hm rfl ha (by decide) (by decide) (starEach_cons hs) (noStars hs2)).imp fun σ H Q h => bi_imp o hp σ H Q h
  · exact (pe_callB (call_anyA o) hg hm rfl ha (by decide) (by decide) (starEach_cons hs) (noStars hs2)).imp fun σ H Q h => bi_imp o hp σ H Q h
  · exact (pe_callB (call_allA o) hg hm rfl ha (by decide) (by decide) (starEach_cons hs) (noStars hs2)).imp fun σ H Q h => bi_imp o hp σ H Q h
  · exact (pe_callB (call_divmodA o) hg hm rfl ha (by decide) (by decide) (starEach_cons hs) (noStars hs2)).imp fun σ H Q h => bi_imp o hp σ H Q h
theorem s_biT (o : Ok W X) {f : Bi} (hf : biTy f = true) (hn : n = biN f) (hg : Gl X n) (hm : X.mg n = none) (ha : PA X (x :: xs) (tA W ms e C as)) (hs : noStar x = true) (hs2 : xs.all noStar = true) (hp : plainAs as = true) :
    PE X (.Call (.Name n pos) (x :: xs) [] pos') (tE W ms e C (.bi f as)) := by
  subst hn
  cases f <;> first | (cases hf; done) | skip
  · exact (pe_callTy (call_intA o) hg hm rfl ha (by decide) (by decide) (starEach_cons hs) (noStars hs2)).imp fun σ H Q h => bi_imp o hp σ H Q h
  · exact (pe_callTy (call_tupleA o) hg hm rfl ha (by decide) (by decide) (starEach_cons hs) (noStars hs2)).imp fun σ H Q h => bi_imp o hp σ H Q h
theorem s_gcd (o : Ok W X) (hg : Gl X n) (hm : X.mg n = some (.builtin "math.gcd")) (hd : (n == ("__debug__" : Str)) = false) (ha : PA X (x :: xs) (tA W ms e C as)) (hs : noStar x = true) (hs2 : xs.all noStar = true) (hp : plainAs as = true) :
    PE X (.Call (.Name n pos) (x :: xs) [] pos') (tE W ms e C (.bi .gcd as)) :=
  (pe_callBfun (call_gcdA o) hg hm ha hd (starEach_cons hs) (noStars hs2)).imp fun σ H Q h => bi_imp o hp σ H Q h
theorem list_lst (ds : List D) (d : D) (h : biD .list ds = .ok d) : ∃ es, d = .lst es := by
  unfold biD at h
  split at h
  all_goals try contradiction
  · cases h; exact ⟨_, rfl⟩
  · cases h; exact ⟨_, rfl⟩
theorem sorted_lst (ds : List D) (d : D) (h : biD .sorted ds = .ok d) : ∃ es, d = .lst es := by
  unfold biD at h
  split at h
  all_goals try contradiction
  obtain ⟨es, _, h⟩ := R.bind_ok h
  cases h
  exact ⟨_, rfl⟩
theorem s_list (o : Ok W X) (hg : Gl X "list") (hm : X.mg "list" = none) (ha : PA X (x :: xs) (tA W ms e C as)) (hs : noStar x = true) (hs2 : xs.all noStar = true) (hp : plainAs as = true) :
    PE X (.Call (.Name "list" pos) (x :: xs) [] pos') (tO W ms e C (.bi .list as)) :=
  (pe_callTy (call_listA o) hg hm rfl ha (by decide) (by decide) (starEach_cons hs) (noStars hs2)).imp fun σ H Q h => bio_imp o hp list_lst σ H Q h
theorem s_sorted (o : Ok W X) (hg : Gl X "sorted") (hm : X.mg "sorted" = none) (ha : PA X (x :: xs) (tA W ms e C as)) (hs : noStar x = true) (hs2 : xs.all noStar = true) (hp : plainAs as = true) :
    PE X (.Call (.Name "sorted" pos) (x :: xs) [] pos') (tO W ms e C (.bi .sorted as)) :=
  (pe_callB (call_sortedA o) hg hm rfl ha (by decide) (by decide) (starEach_cons hs) (noStars hs2)).imp fun σ H Q h => bio_imp o hp sorted_lst σ H Q h

/-! ### len(set(xs)) of whole numbers -/
theorem lenset_inv {ds : List D} {d : D} (h : biD .lenset ds = .ok d) : ∃ is : List Int, ds = [.lst (is.map D.int)] ∧ is.length ≤ 4000 ∧ d = .int ((firstMet (fun i => is.getD i 0) is.length).length : Nat) := by
  unfold biD at h
  split at h
  all_goals try contradiction
  split at h
  · rename_i is his
    split at h
    · rename_i hz
      cases h
      rw [intsD_eq his]
      exact ⟨is, rfl, hz, rfl⟩
    · cases h
  · cases h
theorem reps_intsJ : ∀ {is : List Int} {vs : List V}, Reps W F (is.map D.int) vs → vs = is.map V.int
  | [], vs, h => by
    unfold Reps at h
    exact h
  | i :: is, vs, h => by
    rw [List.map_cons] at h
    unfold Reps at h
    obtain ⟨v, r, rfl, h1, h2⟩ := h
    unfold Rep at h1
    rw [h1, reps_intsJ h2]
    rfl
theorem s_lenset (o : Ok W X) {p p2 q : Pos} (hg : Gl X "len") (hm : X.mg "len" = none) (hg2 : Gl X "set") (hm2 : X.mg "set" = none) (ha : PA X [y] (tA W ms e C as)) (hn : noStar y = true) (hp : plainAs as = true) :
    PE X (.Call (.Name "len" p) [.Call (.Name "set" p2) [y] [] q] [] pos) (tE W ms e C (.bi .lenset as)) := by
  refine ⟨fun pins s σ H Q I h => ?_⟩
  obtain ⟨F, ρ, d, ρ', r, h, k⟩ := h
  rw [ev] at h
  obtain ⟨w, h1, h⟩ := R.bind_ok h
  obtain ⟨z, h2, h⟩ := R.bind_ok h
  cases h
  obtain ⟨is, e1, hl, e2⟩ := lenset_inv h2
  refine Call_ (ld_blt I hg hm boot_len ?_)
  refine PyProof.Rows.callWith_builtin1 (PyProof.Rows.args_cons ?_ rfl) rfl rfl
  refine Call_ (ld_blt I hg2 hm2 boot_set ?_)
  refine PyProof.Rows.callWith_type1 (thn (ha.run q pins s σ H (fun vs H1 => ∃ a, vs = [.ref a] ∧ SqL X.K H1 a (is.map V.int) ∧ Q (.int ((firstMet (fun i => is.getD i 0) is.length).length : Nat)) H1) I ?_) fun us s1 ⟨x, H1, I1, r1, q1⟩ => ?_) (starEach_cons hn) rfl
  · refine ⟨F, ρ, w.1, w.2, r, h1, fun vs F1 H1 l1 r1 p1 => ?_⟩
    have p2 := p1.repLs r1 hp
    rw [e1] at p2
    obtain ⟨v, rfl, p3⟩ := p2.one
    obtain ⟨a, us, rfl, s1, rr⟩ := p3.lst_inv r1.sub
    rw [reps_intsJ rr] at s1
    rw [e2] at k
    exact ⟨a, rfl, by rw [o.k]; exact s1, k _ F1 H1 l1 r1 .int⟩
  · obtain ⟨a, rfl, hq, q1⟩ := q1
    rw [Vals.ref1 r1]
    obtain ⟨its, rv, pl, hz⟩ := I1.list hq
    have hlen : its.toArray.size = is.length := by rw [List.size_toArray, ← rv.length, List.length_map]
    refine call_set_list (I1.ok.hd o.calm) pl.isList (by simpa using RZ.intsAre_vals rv) (by rw [hlen]; unfold scanBound; omega) fun h' tk hS hk => ?_
    refine PyProof.Rows.args_nil ?_
    rw [hlen] at hS
    have hfm := firstMet_length_le (fun i => is.getD i 0) is.length
    obtain ⟨o1, es, ep, t, ho, hex, hd, _, _, _, hf, hn1⟩ := hS
    have I2 : Inv X pins σ H1 { s1 with heap := h', toks := tk } := I1.kept fun b o e => hk b o (Heap.lt_size e) e
    exact PySem.call_len_set ho hex hd hf (by rw [hn1] <;> omega) ⟨.int _, H1, I2.tok _, ⟨_, by rw [hn1]⟩, q1⟩

/-! ### methods -/
def tyD (W : W0) (T : D → Prop) (x : V) (H : Hp) : Prop := ∃ F d, Le F H ∧ T d ∧ RepL W F H d x
theorem tyD_lst (o : Ok W X) : TyOk X "list" (tyD W isLst) := by
  intro pins σ H s x v I rv h
  obtain ⟨F, d, hl, ⟨ds, rfl⟩, hd⟩ := h
  obtain ⟨p, vs, rfl, s1, _⟩ := hd.lst_inv hl
  obtain ⟨its, _, ⟨ob, n, h1, h2, h3, h4⟩, _⟩ := I.list (by rw [o.k]; exact s1)
  cases rv
  exact ⟨⟨ob, h1, h2⟩, fun a z => by cases z; exact ⟨ob, h1, h3⟩⟩
theorem tyD_tup (o : Ok W X) : TyOk X "tuple" (tyD W isTup) := by
  intro pins σ H s x v I rv h
  obtain ⟨F, d, hl, ⟨ds, rfl⟩, hd⟩ := h
  obtain ⟨p, vs, rfl, s1, _⟩ := (hd.rep fun _ z => nomatch z).tup_sld
  cases rv
  rcases hl.sld s1 with ⟨ob, h1, h2, h3⟩ | ⟨ob, its, n, h1, h2, h3, _⟩
  · have h4 : s.heap.get? p = some ob := (I.hok p _ h1).1
    exact ⟨⟨ob, h4, h2⟩, fun a z => by cases z; exact ⟨ob, h4, h3⟩⟩
  · have h4 : s.heap.get? p = some ob := I.kIn _ _ (by rw [o.k]; exact h1)
    exact ⟨⟨ob, h4, h2⟩, fun a z => by cases z; exact ⟨ob, h4, h3⟩⟩
theorem tyD_str (o : Ok W X) : TyOk X "str" (tyD W isStr) := by
  intro pins σ H s x v I rv h
  obtain ⟨F, d, hl, ⟨ds, rfl⟩, hd⟩ := h
  rw [hd.str] at rv
  obtain ⟨t, rfl⟩ := rv
  exact ⟨rfl, fun a z => nomatch z⟩
theorem few1 {env : Env} (hs : noStar y = true) : ((backTo pos (starEach [y] env)).all (fun x => !x.1) && (backToKw pos (keywordEach [] env)).all (fun x => x.1.isSome)
      && decide ([y].length + ([] : List Keyword).length + (if ([] : List Keyword).isEmpty then 0 else 1) < 30)) = true := by
  rw [starEach_cons hs]
  rfl
def meN : Me → Str
  | .count => "count" | .index => "index" | .split => "split"
theorem me_imp (o : Ok W X) {m : Me} (T : D → Prop) (q : isBor a = true → quiet as = true) (hp : plainAs as = true) {F : Hp} {ρ ρ' : Env'} {d : D} {p : D × Env'} (hT : T p.1) {σ : L2.St} {H : Hp} {Q : VK} (r : Rel W ms e F ρ σ H) (h1 : ev C a ρ = .ok p) (h : ((evs C as p.2).bind fun q => (meD m p.1 q.1).bind fun d => R.ok (d, q.2)) = .ok (d, ρ'))
    (k : ∀ v F' H', Le F F' → Rel W ms e F' ρ' σ H' → Rep W F' d v → Q v H') : tMG (tyD W T) (rM W T m) (tL W ms e C a) (tA W ms e C as) σ H Q := by
  obtain ⟨u, h2, h⟩ := R.bind_ok h
  obtain ⟨z, h3, h⟩ := R.bind_ok h
  cases h
  exact ⟨F, ρ, p.1, p.2, r, h1, fun v F1 H1 l1 r1 p1 => ⟨⟨F1, p.1, r1.sub, hT, p1.repL r1⟩, F1, p.2, u.1, u.2, r1, h2, fun ws F2 H2 l2 r2 p2 => ⟨F2, p.1, u.1, _, hT, r2.sub, (p1.later o.m l2 (q_evs q h2)).repL r2, p2.repLs r2 hp, h3,
    fun z F3 H3 s3 rz => k z F3 H3 (l1.trans (l2.trans s3.fr)) (r2.step o.m s3) rz⟩⟩⟩
theorem me_kind {m : Me} {d r : D} {ds : List D} (h : meD m d ds = .ok r) (hm : m = .count ∨ m = .index) : isLst d ∨ isTup d ∨ (isStr d ∧ m = .index) := by
  rcases hm with rfl | rfl
  · unfold meD at h
    split at h
    all_goals try contradiction
    split at h
    · rename_i es he
      rcases seqD_cases he with e | e
      · exact .inl ⟨_, e⟩
      · exact .inr (.inl ⟨_, e⟩)
    · cases h
  · unfold meD at h
    split at h
    all_goals try contradiction
    split at h
    · rename_i es he
      rcases seqD_cases he with e | e
      · exact .inl ⟨_, e⟩
      · exact .inr (.inl ⟨_, e⟩)
    · unfold txtIndex at h
      split at h
      · exact .inr (.inr ⟨⟨_, rfl⟩, rfl⟩)
      · cases h
theorem s_me (o : Ok W X) {m : Me} (hm : m = .count ∨ m = .index) (ha : PE X x (tL W ms e C a)) (hs : PA X [y] (tA W ms e C as)) (hn : noStar y = true) (q : isBor a = true → quiet as = true) (hp : plainAs as = true) (hb : plainBase x = true) (hl : (apos.endLine == pos.line) = true) :
    PE X (.Call (.Attribute x (meN m) apos) [y] [] pos) (tE W ms e C (.me m a as)) := by
  have key : ∀ (σ : L2.St) (H : Hp) (Q : VK), tE W ms e C (.me m a as) σ H Q → (tMG (tyD W isLst) (rM W isLst m) (tL W ms e C a) (tA W ms e C as) σ H Q ∨ tMG (tyD W isTup) (rM W isTup m) (tL W ms e C a) (tA W ms e C as) σ H Q) ∨ (m = .index ∧ tMG (tyD W isStr) (rM W isStr m) (tL W ms e C a) (tA W ms e C as) σ H Q) := fun σ H Q ⟨F, ρ, d, ρ', r, h, k⟩ => by
    rw [ev] at h
    obtain ⟨p, h1, h⟩ := R.bind_ok h
    have h0 := h
    obtain ⟨u, h2, h0⟩ := R.bind_ok h0
    obtain ⟨z, h3, h0⟩ := R.bind_ok h0
    rcases me_kind h3 hm with hT | hT | ⟨hT, hi⟩
    · exact .inl (.inl (me_imp o _ q hp hT r h1 h k))
    · exact .inl (.inr (me_imp o _ q hp hT r h1 h k))
    · exact .inr ⟨hi, me_imp o _ q hp hT r h1 h k⟩
  rcases hm with rfl | rfl
  · exact ((pe_mG (tyD_lst o) PySem.F.plainAttrs_list PySem.F.slot_list_count rfl (mt_countL o) ha hs (base_ok hb) (few1 hn) hl (starEach_cons hn) rfl).or
      (pe_mG (tyD_tup o) PySem.F.plainAttrs_tuple PySem.F.slot_tuple_count rfl (mt_countT o) ha hs (base_ok hb) (few1 hn) hl (starEach_cons hn) rfl)).imp fun σ H Q h => (key σ H Q h).elim id fun z => nomatch z.1
  · exact (((pe_mG (tyD_lst o) PySem.F.plainAttrs_list PySem.F.slot_list_index rfl (mt_indexL o) ha hs (base_ok hb) (few1 hn) hl (starEach_cons hn) rfl).or
      (pe_mG (tyD_tup o) PySem.F.plainAttrs_tuple PySem.F.slot_tuple_index rfl (mt_indexT o) ha hs (base_ok hb) (few1 hn) hl (starEach_cons hn) rfl)).or
      (pe_mG (tyD_str o) PySem.F.plainAttrs_str PySem.F.slot_str_index rfl (mt_indexS o) ha hs (base_ok hb) (few1 hn) hl (starEach_cons hn) rfl)).imp fun σ H Q h => (key σ H Q h).imp id fun z => z.2
theorem split_kind {d r : D} {ds : List D} (h : meD .split d ds = .ok r) : isStr d ∧ ∃ es, r = .lst es := by
  unfold meD at h
  split at h
  all_goals try contradiction
  split at h
  · cases h
  · cases h
    exact ⟨⟨_, rfl⟩, _, rfl⟩
theorem s_split (o : Ok W X) (ha : PE X x (tL W ms e C a)) (hs : PA X [y] (tA W ms e C as)) (hn : noStar y = true) (q : isBor a = true → quiet as = true) (hp : plainAs as = true) (hb : plainBase x = true) (hl : (apos.endLine == pos.line) = true) :
    PE X (.Call (.Attribute x "split" apos) [y] [] pos) (tO W ms e C (.me .split a as)) :=
  (pe_mG (tyD_str o) PySem.F.plainAttrs_str PySem.F.slot_str_split rfl (mt_splitA o) ha hs (base_ok hb) (few1 hn) hl (starEach_cons hn) rfl).imp fun σ H Q ⟨F, ρ, d, ρ', r, h, k⟩ => by
    rw [ev] at h
    obtain ⟨p, h1, h⟩ := R.bind_ok h
    obtain ⟨u, h2, h⟩ := R.bind_ok h
    obtain ⟨z, h3, h⟩ := R.bind_ok h
    cases h
    obtain ⟨hT, es, hes⟩ := split_kind h3
    refine ⟨F, ρ, p.1, p.2, r, h1, fun v F1 H1 l1 r1 p1 => ⟨⟨F1, p.1, r1.sub, hT, p1.repL r1⟩, F1, p.2, u.1, u.2, r1, h2, fun ws F2 H2 l2 r2 p2 => ⟨F2, p.1, u.1, _, hT, r2.sub, (p1.later o.m l2 (q_evs q h2)).repL r2, p2.repLs r2 hp, h3, fun es us e1 rr q hq => ?_⟩⟩⟩
    subst e1
    obtain ⟨r3, o3⟩ := own_new o.m r2 hq rr
    exact k _ F2 _ (l1.trans l2) r3 o3

/-! ### isinstance, fields -/
theorem s_isi (o : Ok W X) (hC : ∀ c, c < W.nC → ClF W c) {t : Ty} (ht : tyOk W t) (hg : Gl X "isinstance") (hm : X.mg "isinstance" = none) (ha : PE X x (tL W ms e C a)) (hy : PE X y (tC (tyV W t))) (hs : noStar x = true) (hs2 : noStar y = true) :
    PE X (.Call (.Name "isinstance" pos) [x, y] [] pos') (tE W ms e C (.isi a t)) :=
  (pe_callB (call_isiA o hC t ht) hg hm rfl (pa_cons ha (pa_cons hy pa_nil (starEach_cons hs2)) (starEach_cons hs)) (by decide) (by decide) (starEach_cons hs) (noStars (by rw [List.all_cons, hs2]; rfl))).imp fun σ H Q ⟨F, ρ, d, ρ', r, h, k⟩ => by
    rw [ev] at h
    obtain ⟨p, h1, h⟩ := R.bind_ok h
    obtain ⟨w, h2, h⟩ := R.bind_ok h
    cases h
    exact ⟨F, ρ, p.1, p.2, r, h1, fun v F1 H1 l1 r1 p1 => ⟨F1, p.1, v, w, rfl, r1.sub, p1.repL r1, h2, k _ F1 H1 l1 r1 .bl⟩⟩
theorem lookup_zip {α : Type} : ∀ {ks : List Str} {vs : List α} {j : Nat} {k : Str} {v : α}, ks.Nodup → ks[j]? = some k → vs[j]? = some v → (ks.zip vs).lookup k = some v
  | [], _, _, _, _, _, h, _ => by simp at h
  | _ :: _, [], _, _, _, _, _, h => by simp at h
  | k0 :: ks, v0 :: vs, 0, k, v, _, h1, h2 => by
    simp at h1 h2
    subst h1 h2
    simp [List.lookup_cons]
  | k0 :: ks, v0 :: vs, j + 1, k, v, nd, h1, h2 => by
    have h3 : ks[j]? = some k := by simpa using h1
    have h4 : vs[j]? = some v := by simpa using h2
    have ne : k ≠ k0 := fun z => by
      subst z
      exact (List.nodup_cons.mp nd).1 (List.mem_of_getElem? h3)
    have : (k == k0) = false := beq_eq_false_iff_ne.mpr ne
    rw [List.zip_cons_cons, List.lookup_cons, this]
    exact lookup_zip (List.nodup_cons.mp nd).2 h3 h4
theorem s_fld {k : Nat} {cc j : Nat} (o : Ok W X) (hC : ∀ c, c < W.nC → ClF W c) (hat : C.at_ cc k = some (.fld j)) (hn : (W.flN cc)[j]? = some n) (nd : (W.flN cc).Nodup) (ha : PE X x (tE W ms e C a)) (hb : plainBase x = true) :
    PE X (.Attribute x n pos) (tE W ms e C (.get a cc k)) :=
  (pe_fld ha (base_ok hb)).imp fun σ H Q ⟨F, ρ, d, ρ', r, h, q⟩ => by
    rw [ev] at h
    obtain ⟨p, h1, h⟩ := R.bind_ok h
    refine ⟨F, ρ, p.1, p.2, r, h1, fun v F1 H1 l1 r1 p1 => ?_⟩
    split at h
    · rename_i c' ds hp
      split at h
      · rename_i hc
        subst hc
        rw [hat] at h
        simp only at h
        split at h
        · rename_i d0 hd0
          cases h
          rw [hp] at p1
          obtain ⟨q1, dx, vs, rfl, e1, e2, e3, e4⟩ := p1.obj_inv
          obtain ⟨w, e5, e6⟩ := e4.get hd0
          refine ⟨q1, _, dx, _, w, rfl, r1.sub _ _ e1, ?_, ?_, lookup_zip nd hn e5, q w F1 H1 l1 r1 e6⟩
          · rw [o.k]; exact (hC _ e3).cl
          · rw [o.k]; exact (hC _ e3).no _ (List.mem_of_getElem? hn)
        · cases h
      · cases h
    · cases h
end
end Pu

set_option Elab.async false
set_option linter.all false
set_option maxRecDepth 100000
set_option maxHeartbeats 2000000
set_option autoImplicit false
/-! Pu, K: what is walked; comprehensions. -/
namespace Pu
open PySem PySem.Spec PyProof.Rows L2
open AutoSeq1 (wpAny_loadPart')

/-! ### enumerate(tuple) -/
theorem meets_enum_T (l : Addr) (items : Array Value) (n : Nat) (dct : Option Addr) (sl : Array (Option Value)) :
    Meets (Builtin.«enumerate.__new__» ⟨[.type "enumerate", .ref l], []⟩) (fun _ R s => s.heap.get? l = some { cls := .type "tuple", dict := dct, data := .seq items n, slots := sl } ∧
      R (.ok (.ret (.ref (s.heap.push { cls := .type "tuple_iterator", data := .fields #[.ref l, .int 0 0] }).objs.size)))
        { s with heap := (s.heap.push { cls := .type "tuple_iterator", data := .fields #[.ref l, .int 0 0] }).push { cls := .type "enumerate", data := .fields #[.none, .bool false, .ref s.heap.objs.size, rawInt 0, .none, .none] } }) :=
  .of_wp fun prog w A R s h => by
    obtain ⟨hp, g, d, tk, os⟩ := s; obtain ⟨hl, h⟩ := h
    have hsub := sub_enumerate
    have hL : Heap.IsTuple (Shared.heap ⟨hp, g, d, tk, os⟩) l items := ⟨_, hl, rfl, n, rfl⟩
    wp_walk using wpAny_loadPart' hl
    refine wpAny_stack_any fun st => wpAny_pure ?_
    split
    · rename_i c _ _ _ _ _
      cases (c == Value.type "enumerate")
      · wp_walk using wpAny_loadPart' hl, wpAny_pyIter_tuple hL
        exact ⟨_, rfl, h⟩
      · wp_walk using wpAny_loadPart' hl, wpAny_pyIter_tuple hL
        exact ⟨_, rfl, h⟩
    · wp_walk using wpAny_loadPart' hl, wpAny_pyIter_tuple hL
      exact ⟨_, rfl, h⟩
theorem call_enum_T {prog : Program} {w : World} {A : Around} {E : Value → Shared → Prop} {s : Shared} {l : Addr} {items : Array Value} {Q : Value → Shared → Prop} (hL : s.heap.IsTuple l items)
    (h : ∀ h', IsEnum h' (s.heap.objs.size + 1) s.heap.objs.size 0 .none → h'.IsTupleIter s.heap.objs.size l 0 → h'.objs.size = s.heap.objs.size + 2 →
      (∀ b o, s.heap.get? b = some o → h'.get? b = some o) → Q (.ref (s.heap.objs.size + 1)) { s with heap := h' }) :
    wpAny (model prog w) A (call (.type "enumerate") [.ref l]) Q E s := by
  obtain ⟨⟨c, dct, dt, sl⟩, hl, hc, n, hd⟩ := hL
  replace hc : c = .type "tuple" := hc
  replace hd : dt = .seq items n := hd
  subst hc hd
  refine callType_new F.called_enumerate (by decide) (F.typeCall_enumerate_1 _) (F.newCall_enumerate_1 _) (fun obj => F.args_object_init_2 obj _) F.entry_enumerate_new
    (meets_enum_T l items n dct sl) ⟨hl, ?_⟩
  have hz : (s.heap.push { cls := .type "tuple_iterator", data := .fields #[.ref l, .int 0 0] }).objs.size = s.heap.objs.size + 1 := Heap.size_push ..
  show _ ∧ _
  rw [hz]
  have he : IsEnum ((s.heap.push { cls := .type "tuple_iterator", data := .fields #[.ref l, .int 0 0] }).push
      { cls := .type "enumerate", data := .fields #[.none, .bool false, .ref s.heap.objs.size, rawInt 0, .none, .none] }) (s.heap.objs.size + 1) s.heap.objs.size 0 .none := by
    have := Heap.get?_push_size (s.heap.push { cls := .type "tuple_iterator", data := .fields #[.ref l, .int 0 0] })
      (o := { cls := .type "enumerate", data := .fields #[.none, .bool false, .ref s.heap.objs.size, rawInt 0, .none, .none] }) rfl
    rw [hz] at this; exact this
  refine ⟨⟨_, he, rfl⟩, h _ he ⟨_, Heap.get?_push_of_some _ (Heap.get?_push_size _ rfl), rfl, rfl⟩ (by rw [Heap.size_push, hz]) fun b o x => Heap.get?_push_of_some _ (Heap.get?_push_of_some _ x)⟩
/-- the tuple at a, each item in a new pair -/
def IteT (K : PySem.W.Frag) (a : Addr) : It :=
  ⟨fun i H => ∃ (xs : List V) (x : V), SqT K H a xs ∧ xs[i]? = some x, fun i H v H' => ∃ T x, v = .ref T ∧ H T = none ∧ H' = upd H T (.tup [.int (i : Nat), x]) ∧ ∀ xs, SqT K H a xs → xs[i]? = some x, fun i H => ∃ xs : List V, SqT K H a xs ∧ xs.length = i⟩
theorem turn_enumT {P : Program} {w : World} {K : PySem.W.Frag} {elts : List Expr} {kk : Nat} {tpos : Pos} (a e it : Addr) (hai : a ≠ it) :
    Turn P w K (.Tuple elts kk tpos) (IteT K a) [e, it] e (fun i h => (∃ old, IsEnum h e it ((i : Nat) : Int) old) ∧ h.IsTupleIter it a i ∧ e ≠ it ∧ e ≠ a) where
  mem := by simp
  obj := fun i h st b hb => by
    obtain ⟨⟨old, he⟩, ⟨o, ho, hc, hd⟩, _⟩ := st
    have e' : b = e ∨ b = it := by simpa using hb
    rcases e' with z | z
    · rw [z]; exact ⟨_, he, fun v q => nomatch q⟩
    · rw [z]; exact ⟨o, ho, fun v q => by rw [hd] at q; cases q⟩
  keep := fun i h h' st k => let ⟨⟨old, he⟩, hi, hne⟩ := st; ⟨⟨old, k e (by simp) _ he⟩, hi.at fun o q => k it (by simp) o q, hne⟩
  item := by
    intro X hP hw hK hc i pins s σ H E I hf st hg
    subst hP hw hK
    obtain ⟨⟨old, he⟩, hit, hne, hea⟩ := st
    obtain ⟨xs, x, hq, hx⟩ := hg
    obtain ⟨its, rv, p, hz⟩ := I.tuple hq
    obtain ⟨u, hu, ru⟩ := rv.get hx
    have hel : e < s.heap.objs.size := Heap.lt_size he
    have hil : it < s.heap.objs.size := by obtain ⟨_, q, _⟩ := hit; exact Heap.lt_size q
    have hlt : i < its.toArray.size := by
      rw [List.size_toArray]
      exact (List.getElem?_eq_some_iff.mp hu).1
    have hh : X.A.in1.handled = none := I.ok.hd hc
    refine wpAny_pyNext_enum_itemD (Draws.tuple hh it a hai its.toArray) he ⟨hit, p⟩ hlt hne (by simp [hne, hea]) fun u' h' tk hP ho hst hT hsz hk => ?_
    have eu : u' = u := by
      have : its.toArray[i]? = some u := by simpa using hu
      rw [this] at hP
      cases hP
      rfl
    subst eu
    refine ⟨_, rfl, wpAny_letOwnedTupleGo_enum (s := { s with heap := h', toks := tk + 1 }) ho fun h'' he' sb => ?_⟩
    have hT2 : h''.get? s.heap.objs.size = some { cls := .type "tuple", data := .seq #[.int i tk, u'] } := (sb.2 _ (Nat.ne_of_gt hel)).trans hT
    have new : ObjOk X.prog X.w (upd H s.heap.objs.size (.tup [.int (i : Nat), x])) h'' s.heap.objs.size (.tup [.int (i : Nat), x]) :=
      ⟨by show 2 ≤ sizeLine; decide, [.int i tk, u'], .cons ⟨_, rfl⟩ (.cons ru .nil), ⟨_, hT2, rfl, _, rfl⟩⟩
    have I1 : Inv X pins σ (upd H s.heap.objs.size (.tup [.int (i : Nat), x])) { s with heap := h'', toks := tk + 1 } :=
      I.turnedNew (ch := [e, it]) (fun b ob hb q => (sb.2 b (fun z => hb (by simp [z]))).trans (hk b ob (fun z => hb (by simp [z])) (fun z => hb (by simp [z])) q)) hf (Nat.le_refl _) new
    refine ⟨.ref s.heap.objs.size, _, I1, rfl, ⟨_, x, rfl, I.hok.fresh (Nat.le_refl _), rfl, fun ys hy => by rw [I.tuple_inj hy hq]; exact hx⟩, ⟨⟨u', ?_⟩, hst.1.at fun o q => (sb.2 it (Ne.symm hne)).trans q, hne, hea⟩, fun b hb => ?_⟩
    · have e1 : ((i + 1 : Nat) : Int) = (i : Int) + 1 := by omega
      rw [e1]; exact he'
    · have hb' : b < s.heap.objs.size := by
        have e' : b = e ∨ b = it := by simpa using hb
        rcases e' with z | z
        · rw [z]; exact hel
        · rw [z]; exact hil
      rw [upd_ne (Nat.ne_of_lt hb')]
      exact (hf b hb).1
  done := by
    intro X hP hw hK hc i pins s σ H E I hf st hg
    subst hP hw hK
    obtain ⟨⟨old, he⟩, hit, hne, hea⟩ := st
    obtain ⟨xs, hq, hx⟩ := hg
    obtain ⟨its, rv, p, hz⟩ := I.tuple hq
    obtain ⟨f0, f1, f2, f3, f4, f5⟩ := hf it (by simp)
    have hl := rv.length
    have hs : its.toArray.size = i := by rw [List.size_toArray]; omega
    have hh : X.A.in1.handled = none := I.ok.hd hc
    exact wpAny_pyNext_enum_endD (Draws.tuple hh it a hai its.toArray) he (by rw [hs]; exact ⟨hit, p⟩) fun h' eb => ⟨rfl, I.turned (t' := s.toks) (fun b o hb q => eb b o hb q) f0 f1 f3 f4 f5⟩
  self := fun A i s Q E st h => let ⟨⟨_, he⟩, _⟩ := st; wpAny_pyIter_enum he h
def iEnumT (K : PySem.W.Frag) (ta : TA) : TI := fun σ H R => ta σ H fun vs H1 => ∃ a xs, vs = [.ref a] ∧ SqT K H1 a xs ∧ R (IteT K a) H1
theorem pi_enumT {X : Cx} {e : Expr} {ta : TA} {p pos tpos : Pos} {elts : List Expr} {kk : Nat} (hg : Gl X "enumerate") (hm : X.mg "enumerate" = none) (ha : PA X [e] ta) (hs : starEach [e] X.env = [(false, eval e X.env)] := by rfl) :
    PI X (.Tuple elts kk tpos) (.Call (.Name "enumerate" p) [e] [] pos) (iEnumT X.K ta) := by
  refine ⟨fun pins s σ H R I h => ?_⟩
  refine Call_ (ld_blt I hg hm boot_enumerate (PyProof.Rows.callWith_type1 (thn (ha.run pos pins s σ H _ I h) fun us s1 ⟨vs, H1, I1, r1, q1⟩ => ?_) hs rfl))
  obtain ⟨a, xs, ex, hq, q⟩ := q1
  subst ex
  cases r1 with
  | cons r rr =>
    cases rr
    cases r
    obtain ⟨its, rv, p', hz⟩ := I1.tuple hq
    obtain ⟨ob, hob, _⟩ := id p'
    have hal : a < s1.heap.objs.size := Heap.lt_size hob
    refine call_enum_T p' fun h' he hit hsz hk => wpAny_pyIter_enum he ?_
    have I2 : Inv X pins σ H1 { s1 with heap := h' } := I1.kept (t' := s1.toks) hk
    refine ⟨s1.heap.objs.size + 1, [s1.heap.objs.size + 1, s1.heap.objs.size], _, _, H1, rfl, I2, turn_enumT a (s1.heap.objs.size + 1) s1.heap.objs.size (Nat.ne_of_lt hal), ⟨⟨.none, he⟩, hit, Nat.succ_ne_self _, Nat.ne_of_gt (Nat.lt_succ_of_lt hal)⟩, fun b hb => ?_, q⟩
    have e' : b = s1.heap.objs.size + 1 ∨ b = s1.heap.objs.size := by simpa using hb
    have hle : s1.heap.objs.size ≤ b := by
      rcases e' with z | z
      · rw [z]; exact Nat.le_add_right _ _
      · rw [z]; exact Nat.le_refl _
    exact I1.fpOk hle (I1.hok.fresh hle)
end Pu

set_option Elab.async false
set_option linter.all false
set_option maxRecDepth 100000
set_option maxHeartbeats 2000000
set_option autoImplicit false
/-! Pu, L: what is walked; names that are bound; comprehensions. -/
namespace Pu
open PySem PySem.Spec PyProof.Rows L2

/-! ### what is walked -/
/-- an item; from enumerate and zip it may be a pair of which nothing else is known -/
def ItR (W : W0) (wk : Bool) (F : Hp) (d : D) (v : V) : Prop := Rep W F d v ∨ (wk = true ∧ ∃ ds a vs, d = .tup ds ∧ v = .ref a ∧ SqT W.K F a vs ∧ Reps W F ds vs)
structure Walks (W : W0) (wk : Bool) (J : It) (F0 : Hp) (ds : List D) : Prop where
  go : ∀ i F H, Le F0 F → Le F H → i < ds.length → J.go i H
  yl : ∀ i d F H x H', Le F0 F → Le F H → ds[i]? = some d → J.yld i H x H' → ∃ F', Step F H F' H' ∧ ItR W wk F' d x
  st : ∀ F H, Le F0 F → Le F H → J.stop ds.length H
def tI (W : W0) (ms : List Nat) (e : Ent) (C : Calls) (wk : Bool) (it : E) : TI := fun σ H R => ∃ F ρ ds ρ', Rel W ms e F ρ σ H ∧ evi C it ρ = .ok (ds, ρ') ∧
  ∀ J F' H', Le F F' → Rel W ms e F' ρ' σ H' → Walks W wk J F' ds → ds.length ≤ lim → R J H'
section
variable {W : W0} {ms : List Nat} {e : Ent} {C : Calls} {X : Cx} {pos pos' pos2 apos : Pos} {x y z tg : Expr} {xs es : List Expr} {a b c as : E} {F F0 F' H H' : Hp} {ρ ρ' : Env'} {σ : L2.St} {d : D} {ds : List D} {v : V} {vs : List V} {i : Nat} {n : Str} {wk : Bool}
theorem len_lt {i : Nat} {α : Type} {l : List α} (h : i < l.length) : ∃ x, l[i]? = some x := ⟨l[i], List.getElem?_eq_getElem h⟩
theorem walks_l (m : W.Mono) {p : Addr} (s : SqL W.K F0 p vs) (r : Reps W F0 ds vs) : Walks W wk (Itl W.K p) F0 ds where
  go := fun i F H l1 l2 h => by
    obtain ⟨x, hx⟩ := len_lt (show i < vs.length by rw [r.length]; exact h)
    exact ⟨vs, x, l2.seqL (l1.seqL s), hx⟩
  yl := fun i d F H x H' l1 l2 h ⟨q1, q2⟩ => by
    subst q1
    obtain ⟨v, h1, h2⟩ := r.get h
    have := q2 _ (l2.seqL (l1.seqL s))
    rw [h1] at this
    cases this
    exact ⟨F, .refl l2, .inl (h2.mono m l1)⟩
  st := fun F H l1 l2 => ⟨vs, l2.seqL (l1.seqL s), by rw [r.length]; exact Nat.le_refl _⟩
theorem walks_t (m : W.Mono) {p : Addr} (s : SqT W.K F0 p vs) (r : Reps W F0 ds vs) : Walks W wk (Itt W.K p) F0 ds where
  go := fun i F H l1 l2 h => by
    obtain ⟨x, hx⟩ := len_lt (show i < vs.length by rw [r.length]; exact h)
    exact ⟨vs, x, l2.seqT (l1.seqT s), hx⟩
  yl := fun i d F H x H' l1 l2 h ⟨q1, q2⟩ => by
    subst q1
    obtain ⟨v, h1, h2⟩ := r.get h
    have := q2 _ (l2.seqT (l1.seqT s))
    rw [h1] at this
    cases this
    exact ⟨F, .refl l2, .inl (h2.mono m l1)⟩
  st := fun F H l1 l2 => ⟨vs, l2.seqT (l1.seqT s), by rw [r.length]; exact Nat.le_refl _⟩
theorem walks_s {t : Str} : Walks W wk (Its t) F0 (signs t) where
  go := fun i F H l1 l2 h => by
    unfold signs at h
    rw [List.length_map, Array.length_toList] at h
    exact h
  yl := fun i d F H x H' l1 l2 h ⟨q1, ch, q2, q3⟩ => by
    subst q1 q3
    unfold signs at h
    rw [List.getElem?_map] at h
    rw [← Array.getElem?_toList] at q2
    rw [q2] at h
    cases h
    exact ⟨F, .refl l2, .inl .str⟩
  st := fun F H l1 l2 => by
    unfold signs
    rw [List.length_map, Array.length_toList]
    exact Nat.le_refl _
theorem walks_r {lo : Int} {k : Nat} : Walks W wk (Itr lo k) F0 ((List.range k).map fun (j : Nat) => .int (lo + (j : Int))) where
  go := fun i F H l1 l2 h => by
    rw [List.length_map, List.length_range] at h
    exact h
  yl := fun i d F H x H' l1 l2 h ⟨q1, q2⟩ => by
    subst q1 q2
    rw [List.getElem?_map] at h
    by_cases hi : i < k
    · rw [List.getElem?_range hi] at h
      cases h
      exact ⟨F, .refl l2, .inl .int⟩
    · rw [List.getElem?_eq_none (by simp; omega)] at h
      cases h
  st := fun F H l1 l2 => by
    rw [List.length_map, List.length_range]
    exact Nat.le_refl _
theorem numbered_get {j : Nat} (h : (numbered ds)[j]? = some d) : ∃ d0, ds[j]? = some d0 ∧ d = .tup [.int (j : Nat), d0] := by
  unfold numbered at h
  rw [List.getElem?_map, List.getElem?_zipIdx] at h
  cases q : ds[j]? with
  | none => rw [q] at h; cases h
  | some d0 =>
    rw [q] at h
    cases h
    exact ⟨d0, rfl, by simp⟩
theorem numbered_len : (numbered ds).length = ds.length := by
  unfold numbered
  simp
theorem pair_new (m : W.Mono) {p : Addr} {d1 d2 : D} {v1 v2 : V} (l2 : Le F H) (hp : H p = none) (r1 : Rep W F d1 v1) (r2 : Rep W F d2 v2) : Step F H (upd F p (.tup [v1, v2])) (upd H p (.tup [v1, v2])) ∧ ItR W true (upd F p (.tup [v1, v2])) (.tup [d1, d2]) (.ref p) :=
  have l := Le.upd (o := .tup [v1, v2]) (l2.none hp)
  ⟨.new l2 _ hp, .inr ⟨rfl, _, p, _, rfl, rfl, .of upd_same, .cons (r1.mono m l) (.cons (r2.mono m l) .nil)⟩⟩
theorem walks_el (m : W.Mono) {p : Addr} (s : SqL W.K F0 p vs) (r : Reps W F0 ds vs) : Walks W true (Ite W.K p) F0 (numbered ds) where
  go := fun i F H l1 l2 h => by
    rw [numbered_len] at h
    obtain ⟨x, hx⟩ := len_lt (show i < vs.length by rw [r.length]; exact h)
    exact ⟨vs, x, l2.seqL (l1.seqL s), hx⟩
  yl := fun i d F H x H' l1 l2 h ⟨T, y, q1, q2, q3, q4⟩ => by
    subst q1 q3
    obtain ⟨d0, h0, rfl⟩ := numbered_get h
    obtain ⟨v, h1, h2⟩ := r.get h0
    have := q4 _ (l2.seqL (l1.seqL s))
    rw [h1] at this
    cases this
    exact ⟨_, pair_new m l2 q2 .int (h2.mono m l1)⟩
  st := fun F H l1 l2 => ⟨vs, l2.seqL (l1.seqL s), by rw [numbered_len, r.length]; exact Nat.le_refl _⟩
theorem walks_et (m : W.Mono) {p : Addr} (s : SqT W.K F0 p vs) (r : Reps W F0 ds vs) : Walks W true (IteT W.K p) F0 (numbered ds) where
  go := fun i F H l1 l2 h => by
    rw [numbered_len] at h
    obtain ⟨x, hx⟩ := len_lt (show i < vs.length by rw [r.length]; exact h)
    exact ⟨vs, x, l2.seqT (l1.seqT s), hx⟩
  yl := fun i d F H x H' l1 l2 h ⟨T, y, q1, q2, q3, q4⟩ => by
    subst q1 q3
    obtain ⟨d0, h0, rfl⟩ := numbered_get h
    obtain ⟨v, h1, h2⟩ := r.get h0
    have := q4 _ (l2.seqT (l1.seqT s))
    rw [h1] at this
    cases this
    exact ⟨_, pair_new m l2 q2 .int (h2.mono m l1)⟩
  st := fun F H l1 l2 => ⟨vs, l2.seqT (l1.seqT s), by rw [numbered_len, r.length]⟩
def paired (ds es : List D) : List D := (ds.zip es).map fun p => .tup [p.1, p.2]
theorem paired_get {es : List D} {j : Nat} (h : (paired ds es)[j]? = some d) : ∃ d1 d2, ds[j]? = some d1 ∧ es[j]? = some d2 ∧ d = .tup [d1, d2] := by
  unfold paired at h
  rw [List.getElem?_map] at h
  obtain ⟨p, hp, rfl⟩ := Option.map_eq_some_iff.mp h
  have := List.getElem?_zip_eq_some.mp hp
  exact ⟨_, _, this.1, this.2, rfl⟩
theorem walks_zl (m : W.Mono) {p q : Addr} {es : List D} {us : List V} (s : SqL W.K F0 p vs) (r : Reps W F0 ds vs) (s' : SqL W.K F0 q us) (r' : Reps W F0 es us) : Walks W true (Itz W.K p q) F0 (paired ds es) where
  go := fun i F H l1 l2 h => by
    unfold paired at h
    rw [List.length_map, List.length_zip] at h
    obtain ⟨x, hx⟩ := len_lt (show i < vs.length by rw [r.length]; omega)
    obtain ⟨y, hy⟩ := len_lt (show i < us.length by rw [r'.length]; omega)
    exact ⟨vs, us, x, y, l2.seqL (l1.seqL s), l2.seqL (l1.seqL s'), hx, hy⟩
  yl := fun i d F H x H' l1 l2 h ⟨T, y, z, q1, q2, q3, q4, q5⟩ => by
    subst q1 q3
    obtain ⟨d1, d2, h1, h2, rfl⟩ := paired_get h
    obtain ⟨v, e1, e2⟩ := r.get h1
    obtain ⟨u, e3, e4⟩ := r'.get h2
    have t1 := q4 _ (l2.seqL (l1.seqL s))
    have t2 := q5 _ (l2.seqL (l1.seqL s'))
    rw [e1] at t1
    rw [e3] at t2
    cases t1
    cases t2
    exact ⟨_, pair_new m l2 q2 (e2.mono m l1) (e4.mono m l1)⟩
  st := fun F H l1 l2 => ⟨vs, us, l2.seqL (l1.seqL s), l2.seqL (l1.seqL s'), by
    unfold paired
    rw [List.length_map, List.length_zip, r.length, r'.length]
    omega⟩
theorem walks_zt (m : W.Mono) {p q : Addr} {es : List D} {us : List V} (s : SqT W.K F0 p vs) (r : Reps W F0 ds vs) (s' : SqT W.K F0 q us) (r' : Reps W F0 es us) : Walks W true (RZ.ItzT W.K p q) F0 (paired ds es) where
  go := fun i F H l1 l2 h => by
    unfold paired at h
    rw [List.length_map, List.length_zip] at h
    obtain ⟨x, hx⟩ := len_lt (show i < vs.length by rw [r.length]; omega)
    obtain ⟨y, hy⟩ := len_lt (show i < us.length by rw [r'.length]; omega)
    exact ⟨vs, us, x, y, l2.seqT (l1.seqT s), l2.seqT (l1.seqT s'), hx, hy⟩
  yl := fun i d F H x H' l1 l2 h ⟨T, y, z, q1, q2, q3, q4, q5⟩ => by
    subst q1 q3
    obtain ⟨d1, d2, h1, h2, rfl⟩ := paired_get h
    obtain ⟨v, e1, e2⟩ := r.get h1
    obtain ⟨u, e3, e4⟩ := r'.get h2
    have t1 := q4 _ (l2.seqT (l1.seqT s))
    have t2 := q5 _ (l2.seqT (l1.seqT s'))
    rw [e1] at t1
    rw [e3] at t2
    cases t1
    cases t2
    exact ⟨_, pair_new m l2 q2 (e2.mono m l1) (e4.mono m l1)⟩
  st := fun F H l1 l2 => ⟨vs, us, l2.seqT (l1.seqT s), l2.seqT (l1.seqT s'), by
    unfold paired
    rw [List.length_map, List.length_zip, r.length, r'.length]
    omega⟩
/-- sequences are never longer than that -/
def Small (K : PySem.W.Frag) (H : Hp) : Prop := ∀ p vs, SqL K H p vs ∨ SqT K H p vs → vs.length ≤ lim
theorem small_of {pins : List (Addr × Obj)} {s : Shared} (I : Inv X pins σ H s) : Small X.K H := fun p vs h => by
  rcases h with h | h
  · obtain ⟨_, _, _, h⟩ := I.list h
    rw [← limz]; exact h
  · obtain ⟨_, _, _, h⟩ := I.tuple h
    rw [← limz]; exact h
theorem PI.lens {t : TI} (h : PI X tg x t) : PI X tg x (fun σ H R => t σ H fun J H' => Small X.K H' → R J H') :=
  ⟨fun pins s σ H R I z => thn (h.run pins s σ H _ I z) fun v s1 q => thn q fun u s2 ⟨it, fp, tn, J, H', e1, I2, e2, e3, e4, e5⟩ => ⟨it, fp, tn, J, H', e1, I2, e2, e3, e4, e5 (small_of I2)⟩⟩
def plainIt : E → Bool
  | .rng _ _ => false
  | .enm _ => false
  | .zip _ _ => false
  | _ => true
theorem evi_plain (h : plainIt a = true) : evi C a ρ = (ev C a ρ).bind fun p => (itemsD p.1).bind fun ds => .ok (ds, p.2) := by
  cases a <;> first | (cases h; done) | (rw [evi] <;> (intros; contradiction)) | rfl
theorem signs_len (t : Str) : (signs t).length = t.length := by
  unfold signs
  rw [List.length_map, Array.length_toList]
  rfl
theorem i_val (o : Ok W X) (hp : plainIt a = true) (ha : PE X x (tE W ms e C a)) : PI X tg x (tI W ms e C wk a) :=
  (PI.lens (((pi_list ha).or (pi_tup ha)).or (pi_str ha))).imp fun σ H Rr ⟨F, ρ, ds, ρ', r, h, k⟩ => by
    rw [evi_plain hp] at h
    obtain ⟨p, h1, h⟩ := R.bind_ok h
    obtain ⟨es, h2, h⟩ := R.bind_ok h
    cases h
    unfold itemsD at h2
    split at h2
    · rename_i ds hd
      cases h2
      refine .inl (.inl ⟨F, ρ, p.1, p.2, r, h1, fun v F1 H1 l1 r1 p1 => ?_⟩)
      rw [hd] at p1
      obtain ⟨q, vs, rfl, s1, rr⟩ := p1.lst_inv
      have s2 := r1.sub.seqL s1
      rw [o.k]
      exact ⟨q, rfl, ⟨vs, s2⟩, fun sm => k _ F1 H1 l1 r1 (walks_l o.m s1 rr) (by rw [← rr.length]; exact sm q vs (.inl s2))⟩
    · rename_i ds hd
      cases h2
      refine .inl (.inr ⟨F, ρ, p.1, p.2, r, h1, fun v F1 H1 l1 r1 p1 => ?_⟩)
      rw [hd] at p1
      obtain ⟨q, vs, rfl, s1, rr⟩ := p1.tup_inv
      have s2 := r1.sub.seqT s1
      rw [o.k]
      exact ⟨q, rfl, ⟨vs, s2⟩, fun sm => k _ F1 H1 l1 r1 (walks_t o.m s1 rr) (by rw [← rr.length]; exact sm q vs (.inr s2))⟩
    · rename_i t hd
      split at h2
      · rename_i hz
        cases h2
        refine .inr ⟨F, ρ, p.1, p.2, r, h1, fun v F1 H1 l1 r1 p1 => ?_⟩
        rw [hd] at p1
        exact ⟨t, p1.str_inv, fun sm => k _ F1 H1 l1 r1 walks_s (by rw [signs_len]; exact hz)⟩
      · cases h2
    · cases h2
theorem rng_ok {da db : D} (h : rngD da db = .ok ds) : ∃ lo hi, da = .int lo ∧ db = .int hi ∧ -(2 ^ 62) ≤ lo ∧ lo < 2 ^ 62 ∧ -(2 ^ 62) ≤ hi ∧ hi < 2 ^ 62 ∧ (hi - lo).toNat ≤ lim ∧ ds = (List.range (hi - lo).toNat).map fun (k : Nat) => D.int (lo + (k : Int)) := by
  unfold rngD at h
  split at h
  · split at h
    · rename_i hz
      cases h
      exact ⟨_, _, rfl, rfl, hz.1, hz.2.1, hz.2.2.1, hz.2.2.2.1, hz.2.2.2.2, rfl⟩
    · cases h
  · cases h
theorem i_rng2 (o : Ok W X) (hg : Gl X "range") (hm : X.mg "range" = none) (hs : noStar x = true) (hs2 : noStar y = true) (ha : PE X x (tE W ms e C a)) (hb : PE X y (tE W ms e C b)) : PI X tg (.Call (.Name "range" pos) [x, y] [] pos') (tI W ms e C wk (.rng a b)) :=
  (pi_range2 hg hm (pa_cons ha (pa_cons hb pa_nil (starEach_cons hs2)) (starEach_cons hs)) (by rw [starEach_cons hs, starEach_cons hs2]; rfl) (by rw [starEach_cons hs2]; rfl)).imp fun σ H Rr ⟨F, ρ, ds, ρ', r, h, k⟩ => by
    rw [evi] at h
    obtain ⟨p, h1, h⟩ := R.bind_ok h
    obtain ⟨u, h2, h⟩ := R.bind_ok h
    obtain ⟨es, h3, h⟩ := R.bind_ok h
    cases h
    obtain ⟨lo, hi, e1, e2, z1, z2, z3, z4, z5, rfl⟩ := rng_ok h3
    refine ⟨F, ρ, p.1, p.2, r, h1, fun v F1 H1 l1 r1 p1 => ⟨F1, p.2, u.1, u.2, r1, h2, fun w F2 H2 l2 r2 p2 => ?_⟩⟩
    rw [e1] at p1
    rw [e2] at p2
    exact ⟨lo, hi, by rw [p1.int_inv, p2.int_inv], ⟨z1, z2, z3, z4⟩, k _ F2 H2 (l1.trans l2) r2 walks_r (by rw [List.length_map, List.length_range]; exact z5)⟩
theorem i_rng1 (o : Ok W X) (hg : Gl X "range") (hm : X.mg "range" = none) (hs2 : noStar y = true) (hb : PE X y (tE W ms e C b)) : PI X tg (.Call (.Name "range" pos) [y] [] pos') (tI W ms e C wk (.rng (.cst (.int 0)) b)) :=
  (pi_range1 hg hm (pa_cons hb pa_nil (starEach_cons hs2)) (by rw [starEach_cons hs2]; rfl)).imp fun σ H Rr ⟨F, ρ, ds, ρ', r, h, k⟩ => by
    rw [evi] at h
    obtain ⟨p, h1, h⟩ := R.bind_ok h
    rw [ev] at h1
    cases h1
    obtain ⟨u, h2, h⟩ := R.bind_ok h
    obtain ⟨es, h3, h⟩ := R.bind_ok h
    cases h
    obtain ⟨lo, hi, e1, e2, z1, z2, z3, z4, z5, rfl⟩ := rng_ok h3
    cases e1
    refine ⟨F, ρ, u.1, u.2, r, h2, fun w F2 H2 l2 r2 p2 => ?_⟩
    rw [e2] at p2
    refine ⟨hi, by rw [p2.int_inv], z3, z4, k _ F2 H2 l2 r2 ?_ (by rw [List.length_map, List.length_range]; exact z5)⟩
    have e4 : (hi - 0).toNat = hi.toNat := by rw [Int.sub_zero]
    rw [e4]
    exact walks_r
theorem i_enm (o : Ok W X) {elts : List Expr} {kk : Nat} (hg : Gl X "enumerate") (hm : X.mg "enumerate" = none) (hs : noStar x = true) (ha : PE X x (tE W ms e C a)) : PI X (.Tuple elts kk pos2) (.Call (.Name "enumerate" pos) [x] [] pos') (tI W ms e C true (.enm a)) :=
  (PI.lens ((pi_enum hg hm (pa_cons ha pa_nil (starEach_cons hs)) (by rw [starEach_cons hs]; rfl)).or (pi_enumT hg hm (pa_cons ha pa_nil (starEach_cons hs)) (by rw [starEach_cons hs]; rfl)))).imp fun σ H Rr ⟨F, ρ, ds, ρ', r, h, k⟩ => by
    rw [evi] at h
    obtain ⟨p, h1, h⟩ := R.bind_ok h
    obtain ⟨es, h2, h⟩ := R.bind_ok h
    cases h
    unfold enmD at h2
    split at h2
    · rename_i ds hd
      cases h2
      refine .inl ⟨F, ρ, p.1, p.2, r, h1, fun v F1 H1 l1 r1 p1 => ?_⟩
      rw [hd] at p1
      obtain ⟨q, vs, rfl, s1, rr⟩ := p1.lst_inv
      have s2 := r1.sub.seqL s1
      rw [o.k]
      exact ⟨q, vs, rfl, s2, fun sm => k _ F1 H1 l1 r1 (walks_el o.m s1 rr) (by rw [numbered_len, ← rr.length]; exact sm q vs (.inl s2))⟩
    · rename_i ds hd
      cases h2
      refine .inr ⟨F, ρ, p.1, p.2, r, h1, fun v F1 H1 l1 r1 p1 => ?_⟩
      rw [hd] at p1
      obtain ⟨q, vs, rfl, s1, rr⟩ := p1.tup_inv
      have s2 := r1.sub.seqT s1
      rw [o.k]
      exact ⟨q, vs, rfl, s2, fun sm => k _ F1 H1 l1 r1 (walks_et o.m s1 rr) (by rw [numbered_len, ← rr.length]; exact sm q vs (.inr s2))⟩
    · cases h2
theorem i_zip (o : Ok W X) {elts : List Expr} {kk : Nat} (hg : Gl X "zip") (hm : X.mg "zip" = none) (hs : noStar x = true) (hs2 : noStar y = true) (ha : PE X x (tE W ms e C a)) (hb : PE X y (tE W ms e C b)) : PI X (.Tuple elts kk pos2) (.Call (.Name "zip" pos) [x, y] [] pos') (tI W ms e C true (.zip a b)) :=
  (PI.lens (RZ.pi_zipA hg hm (pa_cons ha (pa_cons hb pa_nil (starEach_cons hs2)) (starEach_cons hs)) (starEach_cons hs) (noStars (by rw [List.all_cons, hs2]; rfl)))).imp fun σ H Rr ⟨F, ρ, ds, ρ', r, h, k⟩ => by
    rw [evi] at h
    obtain ⟨p, h1, h⟩ := R.bind_ok h
    obtain ⟨u, h2, h⟩ := R.bind_ok h
    obtain ⟨es, h3, h⟩ := R.bind_ok h
    cases h
    refine ⟨F, ρ, p.1, p.2, r, h1, fun v F1 H1 l1 r1 p1 => ⟨F1, p.2, u.1, u.2, r1, h2, fun w F2 H2 l2 r2 p2 => ?_⟩⟩
    have p3 := p1.mono o.m l2
    unfold zipD at h3
    split at h3
    · rename_i ds1 ds2 hd1 hd2
      cases h3
      rw [hd1] at p3
      rw [hd2] at p2
      obtain ⟨q, vs, rfl, s1, rr⟩ := p3.lst_inv
      obtain ⟨q', us, rfl, s1', rr'⟩ := p2.lst_inv
      have s2 := r2.sub.seqL s1
      have s2' := r2.sub.seqL s1'
      rw [o.k]
      refine ⟨q, q', vs, us, rfl, .inl ⟨s2, s2', fun sm => k _ F2 H2 (l1.trans l2) r2 (walks_zl o.m s1 rr s1' rr') ?_⟩⟩
      have := sm q vs (.inl s2)
      rw [rr.length] at this
      rw [List.length_map, List.length_zip]
      omega
    · rename_i ds1 ds2 hd1 hd2
      cases h3
      rw [hd1] at p3
      rw [hd2] at p2
      obtain ⟨q, vs, rfl, s1, rr⟩ := p3.tup_inv
      obtain ⟨q', us, rfl, s1', rr'⟩ := p2.tup_inv
      have s2 := r2.sub.seqT s1
      have s2' := r2.sub.seqT s1'
      rw [o.k]
      refine ⟨q, q', vs, us, rfl, .inr ⟨s2, s2', fun sm => k _ F2 H2 (l1.trans l2) r2 (walks_zt o.m s1 rr s1' rr') ?_⟩⟩
      have := sm q vs (.inr s2)
      rw [rr.length] at this
      rw [List.length_map, List.length_zip]
      omega
    · cases h3

/-! ### names that are bound -/
def nms : N → List Nat
  | .nm i => [i]
  | .nil => []
  | .cons a b => nms a ++ nms b
  | .tp a => nms a
def gN (W : W0) (ms : List Nat) (e : Ent) (wk : Bool) (t : N) : TG := fun v σ H Q => ∃ F ρ d ρ', Rel W ms e F ρ σ H ∧ ItR W wk F d v ∧ bindN t d ρ = .ok ρ' ∧
  ∀ σ', Rel W ms e F ρ' σ' H → (∀ i, i ∉ nms t → σ'[i]? = σ[i]?) → σ'.length = σ.length → Q σ' H
def gNs (W : W0) (ms : List Nat) (e : Ent) (t : N) : TGs := fun vs σ H Q => ∃ F ρ ds ρ', Rel W ms e F ρ σ H ∧ Reps W F ds vs ∧ bindNs t ds ρ = .ok ρ' ∧
  ∀ σ', Rel W ms e F ρ' σ' H → (∀ i, i ∉ nms t → σ'[i]? = σ[i]?) → σ'.length = σ.length → Q σ' H
theorem _root_.L2.PG.imp {t t' : TG} (h : PG X x t) (k : ∀ v σ H Q, t' v σ H Q → t v σ H Q) : PG X x t' := ⟨fun pins s σ H v u Q I r z => h.run pins s σ H v u Q I r (k v σ H Q z)⟩
theorem _root_.L2.PGs.imp {t t' : TGs} (h : PGs X xs t) (k : ∀ v σ H Q, t' v σ H Q → t v σ H Q) : PGs X xs t' := ⟨fun pins s σ H v u Q I r z => h.run pins s σ H v u Q I r (k v σ H Q z)⟩
theorem g_nm (hN : X.N.Nodup) (hi : X.N[i]? = some n) (hx : Loc X.env.scope n) (hf : X.fn n = true ∨ X.env.scope.names.lookup n = some .local) (hm : i ∉ ms) (hp : i ∉ e.mp) : PG X (.Name n pos) (gN W ms e false (.nm i)) :=
  (pg_name hN hi hx hf).imp fun v σ H Q ⟨F, ρ, d, ρ', r, h, hb, k⟩ => by
    rw [bindN] at hb
    cases hb
    rcases h with h | ⟨z, _⟩
    · refine k _ (r.set hm hp h) (fun j hj => List.getElem?_set_ne fun z => hj ?_) (by rw [List.length_set])
      rw [← z]
      exact List.mem_singleton.mpr rfl
    · cases z
theorem each_cons {env : Env} (h : noStar x = true) : (assignEach (x :: es) env) = (false, assign x env) :: (assignEach es env) := by
  cases x <;> first | rfl | cases h
theorem each_len {env : Env} : ∀ {es : List Expr}, es.all noStar = true → (assignEach es env).length = es.length ∧ (assignEach es env).findIdx? (·.1) = none
  | [], _ => ⟨rfl, rfl⟩
  | x :: es, h => by
    rw [List.all_cons, Bool.and_eq_true] at h
    obtain ⟨h1, h2⟩ := each_len (env := env) h.2
    rw [each_cons h.1]
    refine ⟨by rw [List.length_cons, List.length_cons, h1], ?_⟩
    rw [List.findIdx?_cons, h2]
    rfl
theorem gs_nil : PGs X [] (gNs W ms e .nil) := pgs_nil.imp fun vs σ H Q ⟨F, ρ, ds, ρ', r, h, hb, k⟩ => by
  cases ds with
  | nil =>
    rw [bindNs] at hb
    cases hb
    exact ⟨h.nil_inv, k σ r (fun _ _ => rfl) rfl⟩
  | cons d ds => rw [bindNs] at hb <;> first | (cases hb; done) | (intros; contradiction)
theorem gs_cons {ta tb : N} (hs : noStar x = true) (h1 : PG X x (gN W ms e wk ta)) (h2 : PGs X es (gNs W ms e tb)) : PGs X (x :: es) (gNs W ms e (.cons ta tb)) :=
  (pgs_cons h1 h2 (by rw [each_cons hs]; rfl)).imp fun vs σ H Q ⟨F, ρ, ds, ρ', r, h, hb, k⟩ => by
    cases ds with
    | nil => rw [bindNs] at hb <;> first | (cases hb; done) | (intros; contradiction)
    | cons d ds =>
      rw [bindNs] at hb
      obtain ⟨ρ1, hb1, hb2⟩ := R.bind_ok hb
      obtain ⟨v, q, rfl, q1, q2⟩ := h.cons_inv
      refine ⟨v, q, rfl, F, ρ, d, ρ1, r, .inl q1, hb1, fun σ1 r1 n1 l1 => ⟨F, ρ1, ds, ρ', r1, q2, hb2, fun σ2 r2 n2 l2 => k σ2 r2 (fun i hi => ?_) (l2.trans l1)⟩⟩
      have hi' : i ∉ nms ta ++ nms tb := hi
      exact (n2 i fun z => hi' (List.mem_append_right _ z)).trans (n1 i fun z => hi' (List.mem_append_left _ z))
def nLen : N → Nat
  | .cons _ b => nLen b + 1
  | _ => 0
theorem bindNs_len : ∀ {ta : N} {ds : List D} {ρ ρ' : Env'}, bindNs ta ds ρ = .ok ρ' → ds.length = nLen ta
  | .nil, [], _, _, _ => rfl
  | .nil, d :: ds, _, _, h => by rw [bindNs] at h <;> first | (cases h; done) | (intros; contradiction)
  | .cons a b, [], _, _, h => by rw [bindNs] at h <;> first | (cases h; done) | (intros; contradiction)
  | .cons a b, d :: ds, _, _, h => by
    rw [bindNs] at h
    obtain ⟨ρ1, _, h2⟩ := R.bind_ok h
    rw [List.length_cons, bindNs_len h2]
    rfl
  | .nm i, [], _, _, h => by rw [bindNs] at h <;> first | (cases h; done) | (intros; contradiction)
  | .nm i, d :: ds, _, _, h => by rw [bindNs] at h <;> first | (cases h; done) | (intros; contradiction)
  | .tp i, [], _, _, h => by rw [bindNs] at h <;> first | (cases h; done) | (intros; contradiction)
  | .tp i, d :: ds, _, _, h => by rw [bindNs] at h <;> first | (cases h; done) | (intros; contradiction)
theorem g_tp (o : Ok W X) {ta : N} {kk : Nat} (hs : es.all noStar = true) (hl : es.length = nLen ta) (h : PGs X es (gNs W ms e ta)) : PG X (.Tuple es kk pos) (gN W ms e wk (.tp ta)) :=
  (pg_tup (n := es.length) o.calm h (each_len hs).1 (each_len hs).2).imp fun v σ H Q ⟨F, ρ, d, ρ', r, h, hb, k⟩ => by
    cases d with
    | tup ds =>
      rw [bindN] at hb
      have key : ∃ p vs, v = .ref p ∧ SqT W.K F p vs ∧ Reps W F ds vs := by
        rcases h with h | ⟨_, ds', p, vs, e1, e2, e3, e4⟩
        · exact h.tup_inv
        · cases e1
          exact ⟨p, vs, e2, e3, e4⟩
      obtain ⟨p, vs, rfl, s1, rr⟩ := key
      exact ⟨p, vs, rfl, by rw [o.k]; exact r.sub.seqT s1, by rw [rr.length, bindNs_len hb, hl], F, ρ, ds, ρ', r, rr, hb, k⟩
    | _ => rw [bindN] at hb <;> first | (cases hb; done) | (intros; contradiction)
end
end Pu

set_option Elab.async false
set_option linter.all false
set_option maxRecDepth 100000
set_option maxHeartbeats 2000000
set_option autoImplicit false
/-! Pu, M: list comprehensions. -/
namespace Pu
open PySem PySem.Spec PyProof.Rows L2

theorem _root_.L2.PE.ex {X : Cx} {x : Expr} {ι : Type} {t : ι → TE} (h : ∀ i, PE X x (t i)) : PE X x (fun σ H Q => ∃ i, t i σ H Q) := ⟨fun pins s σ H Q I ⟨i, z⟩ => (h i).run pins s σ H Q I z⟩
theorem _root_.L2.PTs.ex {X : Cx} {x : List Expr} {ι : Type} {t : ι → TT} (h : ∀ i, PTs X x (t i)) : PTs X x (fun σ H Q => ∃ i, t i σ H Q) := ⟨fun pins s σ H Q I ⟨i, z⟩ => (h i).run pins s σ H Q I z⟩
theorem _root_.L2.PG.ex {X : Cx} {x : Expr} {ι : Type} {t : ι → TG} (h : ∀ i, PG X x (t i)) : PG X x (fun v σ H Q => ∃ i, t i v σ H Q) := ⟨fun pins s σ H v u Q I r ⟨i, z⟩ => (h i).run pins s σ H v u Q I r z⟩

theorem wipe_get {σ : L2.St} {i : Nat} : ∀ {vs : List Nat}, (wipe σ vs)[i]? = if i ∈ vs ∧ i < σ.length then some none else σ[i]?
  | [] => by simp [wipe]
  | v :: vs => by
    show ((wipe σ vs).set v none)[i]? = _
    by_cases h : v = i
    · subst h
      by_cases hl : v < σ.length
      · rw [List.getElem?_set_self (by rw [wipe_length]; exact hl), if_pos ⟨List.mem_cons_self, hl⟩]
      · rw [if_neg (fun z => hl z.2), List.getElem?_eq_none (by simp [wipe_length]; omega), List.getElem?_eq_none (by omega)]
    · rw [List.getElem?_set_ne h, wipe_get]
      have : (i ∈ v :: vs) ↔ i ∈ vs := by simp [Ne.symm h]
      simp only [this]
theorem wipeE_length {ρ : Env'} : ∀ {vs : List Nat}, (wipeE vs ρ).length = ρ.length
  | [] => rfl
  | v :: vs => by
    show ((wipeE vs ρ).set v none).length = _
    rw [List.length_set, wipeE_length]
theorem wipeE_get {ρ : Env'} {i : Nat} : ∀ {vs : List Nat}, (wipeE vs ρ)[i]? = if i ∈ vs ∧ i < ρ.length then some none else ρ[i]?
  | [] => by simp [wipeE]
  | v :: vs => by
    show ((wipeE vs ρ).set v none)[i]? = _
    by_cases h : v = i
    · subst h
      by_cases hl : v < ρ.length
      · rw [List.getElem?_set_self (by rw [wipeE_length]; exact hl), if_pos ⟨List.mem_cons_self, hl⟩]
      · rw [if_neg (fun z => hl z.2), List.getElem?_eq_none (by simp [wipeE_length]; omega), List.getElem?_eq_none (by omega)]
    · rw [List.getElem?_set_ne h, wipeE_get]
      have : (i ∈ v :: vs) ↔ i ∈ vs := by simp [Ne.symm h]
      simp only [this]
theorem backE_length {ρ ρ' : Env'} : ∀ {vs : List Nat}, (backE ρ vs ρ').length = ρ'.length
  | [] => rfl
  | v :: vs => by
    show ((backE ρ vs ρ').set v _).length = _
    rw [List.length_set, backE_length]
theorem backE_get {ρ ρ' : Env'} {i : Nat} : ∀ {vs : List Nat}, (backE ρ vs ρ')[i]? = if i ∈ vs ∧ i < ρ'.length then some (ρ.getD i none) else ρ'[i]?
  | [] => by simp [backE]
  | v :: vs => by
    show ((backE ρ vs ρ').set v _)[i]? = _
    by_cases h : v = i
    · subst h
      by_cases hl : v < ρ'.length
      · rw [List.getElem?_set_self (by rw [backE_length]; exact hl), if_pos ⟨List.mem_cons_self, hl⟩]
      · rw [if_neg (fun z => hl z.2), List.getElem?_eq_none (by simp [backE_length]; omega), List.getElem?_eq_none (by omega)]
    · rw [List.getElem?_set_ne h, backE_get]
      have : (i ∈ v :: vs) ↔ i ∈ vs := by simp [Ne.symm h]
      simp only [this]
section
variable {W : W0} {ms : List Nat} {e : Ent} {C : Calls} {F F0 F1 F' H H1 H' : Hp} {ρ ρ1 ρ' : Env'} {σ : L2.St} {own : List Nat}
theorem wipe_wipe : wipe (wipe σ own) own = wipe σ own := List.ext_getElem? fun i => by
  rw [wipe_get, wipe_get, wipe_length]
  split
  · rfl
  · rfl
theorem wipe_eq {σ2 : L2.St} (hl : σ2.length = σ.length) (h : ∀ i, i ∉ own → σ2[i]? = (wipe σ own)[i]?) : wipe σ2 own = wipe σ own := List.ext_getElem? fun i => by
  rw [wipe_get, wipe_get, hl]
  by_cases z : i ∈ own
  · by_cases q : i < σ.length
    · rw [if_pos ⟨z, q⟩, if_pos ⟨z, q⟩]
    · rw [if_neg (fun w => q w.2), if_neg (fun w => q w.2), List.getElem?_eq_none (by omega), List.getElem?_eq_none (by omega)]
  · rw [if_neg (fun w => z w.1), if_neg (fun w => z w.1), h i z, wipe_get, if_neg (fun w => z w.1)]
theorem Rel.wiped (r : Rel W ms e F ρ σ H) (hm : ∀ i ∈ e.mp, i ∈ ms) (ho : ∀ i ∈ own, i ∉ ms) : Rel W ms e F (wipeE own ρ) (wipe σ own) H :=
  r.weak (by rw [wipeE_length, wipe_length]; exact r.len) (fun i d h => by
    rw [wipeE_get] at h
    split at h
    · cases h
    · rename_i z
      refine ⟨h, ?_⟩
      rw [wipe_get, if_neg fun w => z ⟨w.1, by rw [r.len]; exact w.2⟩]) fun i hi => by
    rw [wipe_get, if_neg fun w => ho i w.1 (hm i hi)]
theorem live_ms (ho : ∀ i ∈ own, i ∉ ms) {i : Nat} (hi : i ∈ ms) : (wipeE own ρ)[i]? = ρ[i]? ∧ (wipe σ own)[i]? = σ[i]? := by
  rw [wipeE_get, wipe_get, if_neg fun w => ho i w.1 hi, if_neg fun w => ho i w.1 hi]
  exact ⟨rfl, rfl⟩
theorem Rel.back (m : W.Mono) (r1 : Rel W ms e F1 ρ1 σ H1) (r : Rel W ms e F (wipeE own ρ) (wipe σ own) H) (l : Le F1 F) (ho : ∀ i ∈ own, i ∉ ms) : Rel W ms e F (backE ρ1 own ρ) σ H where
  len := by
    have := r.len
    rw [wipeE_length, wipe_length] at this
    rw [backE_length]
    exact this
  sub := r.sub
  f0 := r.f0
  nw := r.nw
  sm := r.sm
  al := r.al
  fro := fun i d a b => by
    rw [backE_get] at b
    split at b
    · rename_i z
      have b2 : ρ1.getD i none = some d := Option.some.inj b
      have b3 : ρ1[i]? = some (some d) := by
        rw [List.getD_eq_getElem?_getD] at b2
        cases q : ρ1[i]? with
        | none => rw [q] at b2; cases b2
        | some u => rw [q] at b2; exact congrArg some b2
      obtain ⟨v, h1, h2⟩ := r1.fro i d a b3
      exact ⟨v, h1, h2.mono m l⟩
    · rename_i z
      obtain ⟨v, h1, h2⟩ := r.fro i d a (by rw [wipeE_get, if_neg z]; exact b)
      rw [wipe_get, if_neg fun w => z ⟨w.1, by
        have := r.len
        rw [wipeE_length, wipe_length] at this
        rw [this]; exact w.2⟩] at h1
      exact ⟨v, h1, h2⟩
  wri := fun i d a b => by
    obtain ⟨e1, e2⟩ := live_ms (ρ := ρ) (σ := σ) ho a
    rw [backE_get, if_neg fun w => ho i w.1 a] at b
    rw [← e2]
    exact r.wri i d a (by rw [e1]; exact b)
  inj := fun i j p a b c d f g => by
    obtain ⟨e1, e2⟩ := live_ms (ρ := ρ) (σ := σ) ho a
    obtain ⟨e3, e4⟩ := live_ms (ρ := ρ) (σ := σ) ho b
    obtain ⟨x, c⟩ := c
    obtain ⟨y, d⟩ := d
    rw [backE_get, if_neg fun w => ho i w.1 a] at c
    rw [backE_get, if_neg fun w => ho j w.1 b] at d
    exact r.inj i j p a b ⟨x, by rw [e1]; exact c⟩ ⟨y, by rw [e3]; exact d⟩ (by rw [e2]; exact f) (by rw [e4]; exact g)
  tb := r.tb
  tf := r.tf
  fix := r1.fix
/-- a list that is nobody's is written -/
theorem Rel.poke (r : Rel W ms e F ρ σ H) {p : Addr} {vs us : List V} (hp : H p = some (.lst vs)) (hF : F p = none) (he : e.H0 p = none) (hn : ∀ i ∈ ms, Live ρ i → σ[i]? ≠ some (some (.ref p))) (m : W.Mono) : Rel W ms e F ρ σ (upd H p (.lst us)) where
  len := r.len
  sub := fun a u h => by
    rw [upd_ne (fun z => by rw [z, hF] at h; cases h)]
    exact r.sub a u h
  f0 := r.f0
  nw := r.nw
  sm := fun a u h1 h2 h3 => by
    rw [upd_ne (fun z => by rw [z, he] at h3; cases h3)]
    exact r.sm a u h1 h2 h3
  al := fun a h => by
    by_cases z : a = p
    · rw [z, upd_same]; simp
    · rw [upd_ne z]; exact r.al a h
  fro := r.fro
  wri := fun i d a b => by
    obtain ⟨q, h1, h2, h3, h4⟩ := r.wri i d a b
    have ne : q ≠ p := fun z => hn i a ⟨d, b⟩ (by rw [← z]; exact h1)
    exact ⟨q, h1, h2, h3.mono m (.refl _) (upd_ne ne), h4⟩
  inj := r.inj
  tb := fun t ht => by
    obtain ⟨ps, h3, h4, h5⟩ := r.tb t ht
    have ne : ∀ b, (∃ ps, H b = some (.tbl ps)) → b ≠ p := fun b ⟨ps, z⟩ q => by
      rw [q, hp] at z
      cases z
    refine ⟨ps, by rw [upd_ne (ne _ ⟨_, h3⟩)]; exact h3, h4, fun pos cv hc => ?_⟩
    obtain ⟨c, h6, h7⟩ := h5 pos cv hc
    refine ⟨c, h6, ?_⟩
    have nc : c ≠ p := fun q => by
      rw [q, hp] at h7
      cases h7
    rw [upd_ne nc]
    exact h7
  tf := r.tf
  fix := r.fix
/-- an address that was there and is not lent is no live slot's -/
theorem Rel.apart (r : Rel W ms e F ρ σ H) {p : Addr} (h0 : e.H0 p ≠ none) (hP : p ∉ e.P0) : ∀ i ∈ ms, Live ρ i → σ[i]? ≠ some (some (.ref p)) := fun i hi ⟨d, hd⟩ z => by
  obtain ⟨q, h1, _, _, h4⟩ := r.wri i d hi hd
  rw [z] at h1
  cases h1
  rcases h4 with h4 | h4
  · exact hP h4
  · exact h0 h4
theorem Rel.nofro (r : Rel W ms e F ρ σ H) {p : Addr} {vs : List V} (h0 : e.H0 p ≠ none) (hF : e.F0 p = none) (hP : p ∉ e.P0) (hH : H p = some (.lst vs)) : F p = none := by
  cases q : F p with
  | none => rfl
  | some o =>
    rcases r.nw p o q with z | z | z | ⟨w, z⟩
    · rw [hF] at z; cases z
    · exact absurd z h0
    · exact absurd z hP
    · have := r.sub _ _ q
      rw [hH, z] at this
      cases this
theorem Rel.fresh_out (r : Rel W ms e F ρ σ H) {p : Addr} (hp : H p = none) : (∀ i ∈ ms, Live ρ i → σ[i]? ≠ some (some (.ref p))) ∧ e.H0 p = none ∧ F p = none := by
  refine ⟨fun i hi ⟨d, hd⟩ z => ?_, ?_, r.sub.none hp⟩
  · obtain ⟨q, h1, h2, h3, _⟩ := r.wri i d hi hd
    rw [z] at h1
    cases h1
    obtain ⟨o, h4, _⟩ := h3.some
    rw [hp] at h4
    cases h4
  · cases z : e.H0 p with
    | none => rfl
    | some u => exact absurd hp (r.al p (by rw [z]; simp))
end
/-- one turn -/
def lcTurn (C : Calls) (t : N) (c elt : E) (d : D) (ρ : Env') : R (Option D × Env') := (bindN t d ρ).bind fun ρ1 => (ev C c ρ1).bind fun k => match k.1 with
  | .bl true => (ev C elt k.2).bind fun e => .ok (some e.1, e.2)
  | .bl false => .ok (none, k.2)
  | _ => .bad
/-! ### slots that an expression leaves alone -/
/-- slot i is none of the names -/
def freeN (i : Nat) (t : N) : Bool := (nms t).all fun j => !Nat.beq j i
def keepB (i : Nat) : E → Bool
  | .var _ => true
  | .bor _ => true
  | .mov j => !Nat.beq j i
  | .mref _ => true
  | .cst _ => true
  | .bin _ a b => keepB i a && keepB i b
  | .neg a => keepB i a
  | .cmp _ a b => keepB i a && keepB i b
  | .cmp2 _ _ a b c => keepB i a && keepB i b && keepB i c
  | .and a b => keepB i a && keepB i b
  | .or a b => keepB i a && keepB i b
  | .not a => keepB i a
  | .ite c a b => keepB i c && keepB i a && keepB i b
  | .tup a => keepB i a
  | .lst a => keepB i a
  | .idx a b => keepB i a && keepB i b
  | .slc a b c => keepB i a && keepB i b && keepB i c
  | .nop => true
  | .call _ a b _ mu => keepB i a && keepB i b && mu.all fun p => !Nat.beq p.2 i
  | .new _ a b _ => keepB i a && keepB i b
  | .callv _ a => keepB i a
  | .calll _ a _ _ _ => keepB i a
  | .callf _ a => keepB i a
  | .bi _ a => keepB i a
  | .me _ a b => keepB i a && keepB i b
  | .isi a _ => keepB i a
  | .get a _ _ => keepB i a
  | .lc own t it c elt => keepB i it && keepB i c && keepB i elt && (own.all fun j => !Nat.beq j i) && freeN i t
  | .lam _ _ => true
  | .anil => true
  | .acons a b => keepB i a && keepB i b
  | .astar a b => keepB i a && keepB i b
  | .own a => keepB i a
  | .rng a b => keepB i a && keepB i b
  | .enm a => keepB i a
  | .zip a b => keepB i a && keepB i b
section
variable {C : Calls} {i : Nat} {ρ : Env'}
theorem allNe {α : Type} {f : α → Nat} {xs : List α} (h : (xs.all fun x => !Nat.beq (f x) i) = true) : ∀ x ∈ xs, f x ≠ i := fun x hx z => by
  have := List.all_eq_true.mp h x hx
  rw [z, Nat.beq_refl] at this
  cases this
theorem kb {α β : Type} {r : R (α × Env')} {f : α × Env' → R (β × Env')} {q : β × Env'} (h1 : ∀ p, r = .ok p → p.2[i]? = ρ[i]?) (h : r.bind f = .ok q) (h2 : ∀ p, f p = .ok q → q.2[i]? = p.2[i]?) : q.2[i]? = ρ[i]? := by
  obtain ⟨p, e1, e2⟩ := R.bind_ok h
  exact (h2 p e2).trans (h1 p e1)
theorem put_keep : ∀ {mu : List (Nat × Nat)} {ds : List D} {ρ ρ' : Env'}, (mu.all fun p => !Nat.beq p.2 i) = true → put mu ds ρ = some ρ' → ρ'[i]? = ρ[i]?
  | [], [], _, _, _, h => by cases h; rfl
  | (_, j) :: r, d :: ds, ρ, ρ', hk, h => by
    rw [put] at h
    rw [List.all_cons, Bool.and_eq_true] at hk
    rw [put_keep hk.2 h, List.getElem?_set_ne]
    intro z
    have := hk.1
    rw [show ((_, j) : Nat × Nat).2 = j from rfl, z, Nat.beq_refl] at this
    cases this
  | [], _ :: _, _, _, _, h => by cases h
  | _ :: _, [], _, _, _, h => by cases h
theorem bindN_keep : ∀ {t : N} , (∀ {d : D} {ρ ρ' : Env'}, i ∉ nms t → bindN t d ρ = .ok ρ' → ρ'[i]? = ρ[i]?) ∧ ∀ {ds : List D} {ρ ρ' : Env'}, i ∉ nms t → bindNs t ds ρ = .ok ρ' → ρ'[i]? = ρ[i]? := by
  intro t
  induction t with
  | nm j =>
    refine ⟨fun {d ρ ρ'} hn h => ?_, fun {ds ρ ρ'} hn h => ?_⟩
    · rw [bindN] at h
      cases h
      exact List.getElem?_set_ne fun z => hn (by rw [z]; exact List.mem_singleton.mpr rfl)
    · rw [bindNs] at h <;> first | (cases h; done) | (intros; contradiction)
  | nil =>
    refine ⟨fun {d ρ ρ'} hn h => ?_, fun {ds ρ ρ'} hn h => ?_⟩
    · rw [bindN] at h <;> first | (cases h; done) | (intros; contradiction)
    · cases ds with
      | nil => rw [bindNs] at h; cases h; rfl
      | cons => rw [bindNs] at h <;> first | (cases h; done) | (intros; contradiction)
  | cons a b iha ihb =>
    refine ⟨fun {d ρ ρ'} hn h => ?_, fun {ds ρ ρ'} hn h => ?_⟩
    · rw [bindN] at h <;> first | (cases h; done) | (intros; contradiction)
    · cases ds with
      | nil => rw [bindNs] at h <;> first | (cases h; done) | (intros; contradiction)
      | cons d ds =>
        rw [bindNs] at h
        obtain ⟨ρ1, h1, h2⟩ := R.bind_ok h
        have hn' : i ∉ nms a ++ nms b := hn
        exact (ihb.2 (fun z => hn' (List.mem_append_right _ z)) h2).trans (iha.1 (fun z => hn' (List.mem_append_left _ z)) h1)
  | tp a iha =>
    refine ⟨fun {d ρ ρ'} hn h => ?_, fun {ds ρ ρ'} hn h => ?_⟩
    · cases d with
      | tup ds => rw [bindN] at h; exact iha.2 hn h
      | _ => rw [bindN] at h <;> first | (cases h; done) | (intros; contradiction)
    · rw [bindNs] at h <;> first | (cases h; done) | (intros; contradiction)
theorem lcLoop_keep {own : List Nat} {turn : D → Env' → R (Option D × Env')} (ho : i ∉ own) (ht : ∀ d ρ q, turn d ρ = .ok q → q.2[i]? = ρ[i]?) : ∀ {ds : List D} {ρ : Env'} {q : List D × Env'}, lcLoop own turn ds ρ = .ok q → q.2[i]? = ρ[i]?
  | [], ρ, q, h => by cases h; rfl
  | d :: ds, ρ, q, h => by
    rw [lcLoop] at h
    obtain ⟨p, h1, h⟩ := R.bind_ok h
    obtain ⟨u, h2, h⟩ := R.bind_ok h
    have e1 := ht _ _ _ h1
    have e2 := lcLoop_keep ho ht h2
    rw [wipeE_get, if_neg (fun z => ho z.1)] at e1 e2
    cases h
    exact e2.trans e1
structure Keeps (C : Calls) (i : Nat) (a : E) : Prop where
  v : ∀ {ρ : Env'} (q : D × Env'), ev C a ρ = .ok q → q.2[i]? = ρ[i]?
  s : ∀ {ρ : Env'} (q : List D × Env'), evs C a ρ = .ok q → q.2[i]? = ρ[i]?
  w : ∀ {ρ : Env'} (q : List D × Env'), evi C a ρ = .ok q → q.2[i]? = ρ[i]?
  p : ∀ {ρ : Env'} (q : Option Int × Env'), evp C a ρ = .ok q → q.2[i]? = ρ[i]?
theorem evp_some {a : E} (h : a ≠ .nop) {q : Option Int × Env'} (z : evp C a ρ = .ok q) : ∃ p, ev C a ρ = .ok p ∧ q.2 = p.2 := by
  cases a <;> first
    | (exact absurd rfl h)
    | (rw [evp] at z
       · obtain ⟨p, h1, z⟩ := R.bind_ok z
         refine ⟨p, h1, ?_⟩
         split at z
         · cases z; rfl
         · cases z
       · intros; contradiction)
    | (rw [evp] at z
       obtain ⟨p, h1, z⟩ := R.bind_ok z
       refine ⟨p, h1, ?_⟩
       split at z
       · cases z; rfl
       · cases z)
theorem Keeps.plain {a : E} (hp : plainIt a = true) (hn : a ≠ .nop) (hs : ∀ ρ q, evs C a ρ = .ok q → False) (h : ∀ (ρ : Env') (q : D × Env'), ev C a ρ = .ok q → q.2[i]? = ρ[i]?) : Keeps C i a :=
  ⟨fun q => h _ q, fun q z => (hs _ q z).elim, fun q z => by
    rw [evi_plain hp] at z
    refine kb (h _) z fun p z => ?_
    obtain ⟨u, _, z⟩ := R.bind_ok z
    cases z
    rfl, fun q z => by
    obtain ⟨p, h1, h2⟩ := evp_some hn z
    rw [h2]
    exact h _ _ h1⟩
theorem turn_keep {t : N} {c elt : E} (hn : i ∉ nms t) (hc : Keeps C i c) (he : Keeps C i elt) : ∀ (d : D) (ρ : Env') (q : Option D × Env'), lcTurn C t c elt d ρ = .ok q → q.2[i]? = ρ[i]? := fun d ρ q h => by
  unfold lcTurn at h
  obtain ⟨ρ1, h1, h⟩ := R.bind_ok h
  refine Eq.trans ?_ (bindN_keep.1 hn h1)
  refine kb (fun p => hc.v p) h fun p h => ?_
  split at h
  · refine kb (fun p => he.v p) h fun p h => ?_
    cases h
    rfl
  · cases h; rfl
  · cases h
theorem keeps : ∀ {a : E}, keepB i a = true → Keeps C i a := by
  intro a
  induction a with
  | var j | bor j =>
    exact fun _ => .plain rfl (fun z => nomatch z) (fun ρ q z => by rw [evs] at z <;> first | (cases z; done) | (intros; contradiction)) fun ρ q h => by
      rw [ev] at h
      split at h <;> first | (cases h; rfl) | cases h
  | mov j =>
    exact fun hk => .plain rfl (fun z => nomatch z) (fun ρ q z => by rw [evs] at z <;> first | (cases z; done) | (intros; contradiction)) fun ρ q h => by
      rw [ev] at h
      split at h
      · cases h
        refine List.getElem?_set_ne fun z => ?_
        rw [keepB, z, Nat.beq_refl] at hk
        cases hk
      · cases h
  | cst d =>
    exact fun _ => .plain rfl (fun z => nomatch z) (fun ρ q z => by rw [evs] at z <;> first | (cases z; done) | (intros; contradiction)) fun ρ q h => by
      rw [ev] at h
      cases h; rfl
  | bin o a b iha ihb =>
    intro hk
    obtain ⟨k1, k2⟩ := Bool.and_eq_true_iff.mp hk
    exact .plain rfl (fun z => nomatch z) (fun ρ q z => by rw [evs] at z <;> first | (cases z; done) | (intros; contradiction)) fun ρ q h => by
      rw [ev] at h
      refine kb (fun p => (iha k1).v p) h fun p h => kb (fun p => (ihb k2).v p) h fun p h => ?_
      obtain ⟨_, _, h⟩ := R.bind_ok h
      cases h; rfl
  | cmp o a b iha ihb =>
    intro hk
    obtain ⟨k1, k2⟩ := Bool.and_eq_true_iff.mp hk
    exact .plain rfl (fun z => nomatch z) (fun ρ q z => by rw [evs] at z <;> first | (cases z; done) | (intros; contradiction)) fun ρ q h => by
      rw [ev] at h
      refine kb (fun p => (iha k1).v p) h fun p h => kb (fun p => (ihb k2).v p) h fun p h => ?_
      obtain ⟨_, _, h⟩ := R.bind_ok h
      cases h; rfl
  | idx a b iha ihb =>
    intro hk
    obtain ⟨k1, k2⟩ := Bool.and_eq_true_iff.mp hk
    exact .plain rfl (fun z => nomatch z) (fun ρ q z => by rw [evs] at z <;> first | (cases z; done) | (intros; contradiction)) fun ρ q h => by
      rw [ev] at h
      refine kb (fun p => (iha k1).v p) h fun p h => kb (fun p => (ihb k2).v p) h fun p h => ?_
      obtain ⟨_, _, h⟩ := R.bind_ok h
      cases h; rfl
  | me m a b iha ihb =>
    intro hk
    obtain ⟨k1, k2⟩ := Bool.and_eq_true_iff.mp hk
    exact .plain rfl (fun z => nomatch z) (fun ρ q z => by rw [evs] at z <;> first | (cases z; done) | (intros; contradiction)) fun ρ q h => by
      rw [ev] at h
      refine kb (fun p => (iha k1).v p) h fun p h => kb (fun p => (ihb k2).s p) h fun p h => ?_
      obtain ⟨_, _, h⟩ := R.bind_ok h
      cases h; rfl
  | neg a iha =>
    exact fun hk => .plain rfl (fun z => nomatch z) (fun ρ q z => by rw [evs] at z <;> first | (cases z; done) | (intros; contradiction)) fun ρ q h => by
      rw [ev] at h
      refine kb (fun p => (iha hk).v p) h fun p h => ?_
      split at h <;> first | (cases h; rfl) | cases h
  | not a iha =>
    exact fun hk => .plain rfl (fun z => nomatch z) (fun ρ q z => by rw [evs] at z <;> first | (cases z; done) | (intros; contradiction)) fun ρ q h => by
      rw [ev] at h
      refine kb (fun p => (iha hk).v p) h fun p h => ?_
      split at h <;> first | (cases h; rfl) | cases h
  | own a iha =>
    exact fun hk => .plain rfl (fun z => nomatch z) (fun ρ q z => by rw [evs] at z <;> first | (cases z; done) | (intros; contradiction)) fun ρ q h => by
      rw [ev] at h
      exact (iha hk).v q h
  | isi a t iha =>
    exact fun hk => .plain rfl (fun z => nomatch z) (fun ρ q z => by rw [evs] at z <;> first | (cases z; done) | (intros; contradiction)) fun ρ q h => by
      rw [ev] at h
      refine kb (fun p => (iha hk).v p) h fun p h => ?_
      obtain ⟨_, _, h⟩ := R.bind_ok h
      cases h; rfl
  | cmp2 o o' a b d iha ihb ihd =>
    intro hk
    obtain ⟨k1, k3⟩ := Bool.and_eq_true_iff.mp hk
    obtain ⟨k1, k2⟩ := Bool.and_eq_true_iff.mp k1
    exact .plain rfl (fun z => nomatch z) (fun ρ q z => by rw [evs] at z <;> first | (cases z; done) | (intros; contradiction)) fun ρ q h => by
      rw [ev] at h
      refine kb (fun p => (iha k1).v p) h fun p h => kb (fun p => (ihb k2).v p) h fun p h => ?_
      obtain ⟨k, _, h⟩ := R.bind_ok h
      cases k with
      | false => cases h; rfl
      | true =>
        refine kb (fun p => (ihd k3).v p) h fun p h => ?_
        obtain ⟨_, _, h⟩ := R.bind_ok h
        cases h; rfl
  | and a b iha ihb =>
    intro hk
    obtain ⟨k1, k2⟩ := Bool.and_eq_true_iff.mp hk
    exact .plain rfl (fun z => nomatch z) (fun ρ q z => by rw [evs] at z <;> first | (cases z; done) | (intros; contradiction)) fun ρ q h => by
      rw [ev] at h
      refine kb (fun p => (iha k1).v p) h fun p h => ?_
      split at h
      · exact (ihb k2).v q h
      · cases h; rfl
      · cases h
  | or a b iha ihb =>
    intro hk
    obtain ⟨k1, k2⟩ := Bool.and_eq_true_iff.mp hk
    exact .plain rfl (fun z => nomatch z) (fun ρ q z => by rw [evs] at z <;> first | (cases z; done) | (intros; contradiction)) fun ρ q h => by
      rw [ev] at h
      refine kb (fun p => (iha k1).v p) h fun p h => ?_
      split at h
      · cases h; rfl
      · exact (ihb k2).v q h
      · cases h
  | ite c a b ihc iha ihb =>
    intro hk
    obtain ⟨k1, k3⟩ := Bool.and_eq_true_iff.mp hk
    obtain ⟨k1, k2⟩ := Bool.and_eq_true_iff.mp k1
    exact .plain rfl (fun z => nomatch z) (fun ρ q z => by rw [evs] at z <;> first | (cases z; done) | (intros; contradiction)) fun ρ q h => by
      rw [ev] at h
      refine kb (fun p => (ihc k1).v p) h fun p h => ?_
      split at h
      · exact (iha k2).v q h
      · exact (ihb k3).v q h
      · cases h
  | tup a iha =>
    exact fun hk => .plain rfl (fun z => nomatch z) (fun ρ q z => by rw [evs] at z <;> first | (cases z; done) | (intros; contradiction)) fun ρ q h => by
      rw [ev] at h
      refine kb (fun p => (iha hk).s p) h fun p h => ?_
      split at h <;> first | (cases h; rfl) | cases h
  | lst a iha =>
    exact fun hk => .plain rfl (fun z => nomatch z) (fun ρ q z => by rw [evs] at z <;> first | (cases z; done) | (intros; contradiction)) fun ρ q h => by
      rw [ev] at h
      refine kb (fun p => (iha hk).s p) h fun p h => ?_
      split at h <;> first | (cases h; rfl) | cases h
  | slc a lo hi iha ihl ihh =>
    intro hk
    obtain ⟨k1, k3⟩ := Bool.and_eq_true_iff.mp hk
    obtain ⟨k1, k2⟩ := Bool.and_eq_true_iff.mp k1
    exact .plain rfl (fun z => nomatch z) (fun ρ q z => by rw [evs] at z <;> first | (cases z; done) | (intros; contradiction)) fun ρ q h => by
      rw [ev] at h
      refine kb (fun p => (iha k1).v p) h fun p h => kb (fun p => (ihl k2).p p) h fun p h => kb (fun p => (ihh k3).p p) h fun p h => ?_
      obtain ⟨_, _, h⟩ := R.bind_ok h
      cases h; rfl
  | nop =>
    exact fun _ => ⟨fun q z => by (rw [ev] at z; cases z), fun q z => by rw [evs] at z <;> first | (cases z; done) | (intros; contradiction), fun q z => by (rw [evi_plain rfl, ev] at z; cases z), fun q z => by (rw [evp] at z; cases z; rfl)⟩
  | call f as ks pm mu iha ihk =>
    intro hk
    obtain ⟨k1, k3⟩ := Bool.and_eq_true_iff.mp hk
    obtain ⟨k1, k2⟩ := Bool.and_eq_true_iff.mp k1
    exact .plain rfl (fun z => nomatch z) (fun ρ q z => by rw [evs] at z <;> first | (cases z; done) | (intros; contradiction)) fun ρ q h => by
      rw [ev] at h
      refine kb (fun p => (iha k1).s p) h fun p h => kb (fun p => (ihk k2).s p) h fun p h => ?_
      split at h
      · split at h
        · obtain ⟨_, _, h⟩ := R.bind_ok h
          split at h
          · rename_i hp
            cases h
            exact put_keep k3 hp
          · cases h
        · cases h
      · cases h
  | new f as ks pm iha ihk =>
    intro hk
    obtain ⟨k1, k2⟩ := Bool.and_eq_true_iff.mp hk
    exact .plain rfl (fun z => nomatch z) (fun ρ q z => by rw [evs] at z <;> first | (cases z; done) | (intros; contradiction)) fun ρ q h => by
      rw [ev] at h
      refine kb (fun p => (iha k1).s p) h fun p h => kb (fun p => (ihk k2).s p) h fun p h => ?_
      split at h
      · obtain ⟨_, _, h⟩ := R.bind_ok h
        cases h; rfl
      · cases h
  | callv j as iha =>
    exact fun hk => .plain rfl (fun z => nomatch z) (fun ρ q z => by rw [evs] at z <;> first | (cases z; done) | (intros; contradiction)) fun ρ q h => by
      rw [ev] at h
      split at h
      · refine kb (fun p => (iha hk).s p) h fun p h => ?_
        obtain ⟨_, _, h⟩ := R.bind_ok h
        cases h; rfl
      · refine kb (fun p => (iha hk).s p) h fun p h => ?_
        obtain ⟨_, _, h⟩ := R.bind_ok h
        split at h <;> first | (cases h; rfl) | cases h
      · cases h
  | calll f as l js pm iha =>
    exact fun hk => .plain rfl (fun z => nomatch z) (fun ρ q z => by rw [evs] at z <;> first | (cases z; done) | (intros; contradiction)) fun ρ q h => by
      rw [ev] at h
      refine kb (fun p => (iha hk).s p) h fun p h => ?_
      split at h
      · split at h
        · obtain ⟨_, _, h⟩ := R.bind_ok h
          split at h <;> first | (cases h; rfl) | cases h
        · cases h
      · cases h
  | callf f as iha =>
    exact fun hk => .plain rfl (fun z => nomatch z) (fun ρ q z => by rw [evs] at z <;> first | (cases z; done) | (intros; contradiction)) fun ρ q h => by
      rw [ev] at h
      refine kb (fun p => (iha hk).s p) h fun p h => ?_
      obtain ⟨_, _, h⟩ := R.bind_ok h
      cases h; rfl
  | bi b as iha =>
    exact fun hk => .plain rfl (fun z => nomatch z) (fun ρ q z => by rw [evs] at z <;> first | (cases z; done) | (intros; contradiction)) fun ρ q h => by
      rw [ev] at h
      refine kb (fun p => (iha hk).s p) h fun p h => ?_
      obtain ⟨_, _, h⟩ := R.bind_ok h
      cases h; rfl
  | get a k j iha =>
    exact fun hk => .plain rfl (fun z => nomatch z) (fun ρ q z => by rw [evs] at z <;> first | (cases z; done) | (intros; contradiction)) fun ρ q h => by
      rw [ev] at h
      refine kb (fun p => (iha hk).v p) h fun p h => ?_
      split at h
      · split at h
        · split at h
          · split at h <;> first | (cases h; rfl) | cases h
          · obtain ⟨_, _, h⟩ := R.bind_ok h
            cases h; rfl
          · cases h
        · cases h
      · cases h
  | lc own t it c elt ihi ihc ihe =>
    intro hk
    obtain ⟨k1, k5⟩ := Bool.and_eq_true_iff.mp hk
    obtain ⟨k1, k4⟩ := Bool.and_eq_true_iff.mp k1
    obtain ⟨k1, k3⟩ := Bool.and_eq_true_iff.mp k1
    obtain ⟨k1, k2⟩ := Bool.and_eq_true_iff.mp k1
    have ho : i ∉ own := fun z => allNe (f := id) k4 i z rfl
    have hn : i ∉ nms t := fun z => allNe (f := id) k5 i z rfl
    exact .plain rfl (fun z => nomatch z) (fun ρ q z => by rw [evs] at z <;> first | (cases z; done) | (intros; contradiction)) fun ρ q h => by
      rw [ev] at h
      refine kb (fun p => (ihi k1).w p) h fun p h => ?_
      obtain ⟨u, h1, h⟩ := R.bind_ok h
      have := lcLoop_keep (turn := lcTurn C t c elt) ho (turn_keep hn (ihc k2) (ihe k3)) h1
      cases h
      rw [backE_get, if_neg fun z => ho z.1]
      exact this
  | lam l caps =>
    exact fun _ => .plain rfl (fun z => nomatch z) (fun ρ q z => by rw [evs] at z <;> first | (cases z; done) | (intros; contradiction)) fun ρ q h => by
      rw [ev] at h
      split at h <;> first | (cases h; rfl) | cases h
  | mref j =>
    exact fun _ => .plain rfl (fun z => nomatch z) (fun ρ q z => by rw [evs] at z <;> first | (cases z; done) | (intros; contradiction)) fun ρ q h => by
      rw [ev] at h
      cases h
  | anil =>
    exact fun _ => ⟨fun q z => by (rw [ev] at z; cases z), fun q z => by (rw [evs] at z; cases z; rfl), fun q z => by (rw [evi_plain rfl, ev] at z; cases z), fun q z => by (obtain ⟨p, h1, _⟩ := evp_some (by simp) z; rw [ev] at h1; cases h1)⟩
  | acons a as iha ihs =>
    intro hk
    obtain ⟨k1, k2⟩ := Bool.and_eq_true_iff.mp hk
    refine ⟨fun q z => by (rw [ev] at z; cases z), fun {ρ} q z => ?_, fun q z => by (rw [evi_plain rfl, ev] at z; cases z), fun q z => by (obtain ⟨p, h1, _⟩ := evp_some (by simp) z; rw [ev] at h1; cases h1)⟩
    by_cases hm : ∃ j, a = .mref j
    · obtain ⟨j, rfl⟩ := hm
      rw [evs] at z
      split at z
      · refine kb (fun p => (ihs k2).s p) z fun p z => ?_
        cases z; rfl
      · cases z
    · rw [evs] at z
      · refine kb (fun p => (iha k1).v p) z fun p z => kb (fun p => (ihs k2).s p) z fun p z => ?_
        cases z; rfl
      · exact fun j w => hm ⟨j, w⟩
  | astar a as iha ihs =>
    intro hk
    obtain ⟨k1, k2⟩ := Bool.and_eq_true_iff.mp hk
    refine ⟨fun q z => by (rw [ev] at z; cases z), fun {ρ} q z => ?_, fun q z => by (rw [evi_plain rfl, ev] at z; cases z), fun q z => by (obtain ⟨p, h1, _⟩ := evp_some (by simp) z; rw [ev] at h1; cases h1)⟩
    rw [evs] at z
    refine kb (fun p => (iha k1).v p) z fun p z => kb (fun p => (ihs k2).s p) z fun p z => ?_
    split at z <;> first | (cases z; rfl) | cases z
  | rng a b iha ihb =>
    intro hk
    obtain ⟨k1, k2⟩ := Bool.and_eq_true_iff.mp hk
    refine ⟨fun q z => by (rw [ev] at z; cases z), fun q z => by rw [evs] at z <;> first | (cases z; done) | (intros; contradiction), fun q z => ?_, fun q z => by (obtain ⟨p, h1, _⟩ := evp_some (by simp) z; rw [ev] at h1; cases h1)⟩
    rw [evi] at z
    refine kb (fun p => (iha k1).v p) z fun p z => kb (fun p => (ihb k2).v p) z fun p z => ?_
    obtain ⟨_, _, z⟩ := R.bind_ok z
    cases z; rfl
  | zip a b iha ihb =>
    intro hk
    obtain ⟨k1, k2⟩ := Bool.and_eq_true_iff.mp hk
    refine ⟨fun q z => by (rw [ev] at z; cases z), fun q z => by rw [evs] at z <;> first | (cases z; done) | (intros; contradiction), fun q z => ?_, fun q z => by (obtain ⟨p, h1, _⟩ := evp_some (by simp) z; rw [ev] at h1; cases h1)⟩
    rw [evi] at z
    refine kb (fun p => (iha k1).v p) z fun p z => kb (fun p => (ihb k2).v p) z fun p z => ?_
    obtain ⟨_, _, z⟩ := R.bind_ok z
    cases z; rfl
  | enm a iha =>
    intro k1
    refine ⟨fun q z => by (rw [ev] at z; cases z), fun q z => by rw [evs] at z <;> first | (cases z; done) | (intros; contradiction), fun q z => ?_, fun q z => by (obtain ⟨p, h1, _⟩ := evp_some (by simp) z; rw [ev] at h1; cases h1)⟩
    rw [evi] at z
    refine kb (fun p => (iha k1).v p) z fun p z => ?_
    obtain ⟨_, _, z⟩ := R.bind_ok z
    cases z; rfl
end

/-! ### what is walked in a comprehension: the slots js keep what they hold -/
section
variable {W : W0} {ms : List Nat} {e : Ent} {C : Calls} {X : Cx}
structure WalkG (W : W0) (ms : List Nat) (e : Ent) (own : List Nat) (σ : L2.St) (wk : Bool) (J : It) (F0 : Hp) (G : Env' → Prop) (ds : List D) : Prop where
  go : ∀ i F ρ H, Le F0 F → Rel W ms e F (wipeE own ρ) (wipe σ own) H → G ρ → i < ds.length → J.go i H
  yl : ∀ i d F ρ H x H', Le F0 F → Rel W ms e F (wipeE own ρ) (wipe σ own) H → G ρ → ds[i]? = some d → J.yld i H x H' → ∃ F', Step F H F' H' ∧ ItR W wk F' d x
  st : ∀ F ρ H, Le F0 F → Rel W ms e F (wipeE own ρ) (wipe σ own) H → G ρ → J.stop ds.length H
def tIG (W : W0) (ms : List Nat) (e : Ent) (C : Calls) (wk : Bool) (own js : List Nat) (it : E) : TI := fun σ H R => ∃ F ρ ds ρ', Rel W ms e F ρ σ H ∧ evi C it ρ = .ok (ds, ρ') ∧
  ∀ J F' H', Le F F' → Rel W ms e F' ρ' σ H' → WalkG W ms e own σ wk J F' (fun ρ => ∀ i ∈ js, ρ[i]? = ρ'[i]?) ds → ds.length ≤ lim → R J H'
theorem i_walk {own js : List Nat} {it : E} {tg x : Expr} {wk : Bool} (h : PI X tg x (tI W ms e C wk it)) : PI X tg x (tIG W ms e C wk own js it) :=
  h.imp fun σ H R ⟨F, ρ, ds, ρ', r, h, k⟩ => ⟨F, ρ, ds, ρ', r, h, fun J F' H' l r' w sm => k J F' H' l r' ⟨fun i F ρ H l r _ => w.go i F H l r.sub, fun i d F ρ H x H' l r _ => w.yl i d F H x H' l r.sub, fun F ρ H l r _ => w.st F H l r.sub⟩ sm⟩
/-- an own list is walked -/
theorem i_bor (o : Ok W X) {own : List Nat} {i : Nat} {tg x : Expr} {wk : Bool} (hi : i ∈ ms) (ho : ∀ i ∈ own, i ∉ ms) (ha : PE X x (tL W ms e C (.bor i))) : PI X tg x (tIG W ms e C wk own [i] (.bor i)) :=
  (PI.lens (pi_list ha)).imp fun σ H Rr ⟨F, ρ, ds, ρ', r, h, k⟩ => by
    rw [evi_plain rfl] at h
    obtain ⟨p, h1, h⟩ := R.bind_ok h
    obtain ⟨es, h2, h⟩ := R.bind_ok h
    cases h
    have hb : ∃ ds, p.1 = .lst ds ∧ ρ[i]? = some (some (.lst ds)) ∧ p.2 = ρ := by
      rw [ev] at h1
      split at h1
      · rename_i ds hd
        cases h1
        exact ⟨ds, rfl, hd, rfl⟩
      · cases h1
    obtain ⟨es', hp1, hd, hp2⟩ := hb
    rw [hp1] at h2
    cases h2
    refine ⟨F, ρ, p.1, p.2, r, h1, fun v F1 H1 l1 r1 p1 => ?_⟩
    obtain ⟨_, hs, _⟩ := p1
    have at_ : ∀ {F2 : Hp} {ρ2 : Env'} {H2 : Hp}, Rel W ms e F2 (wipeE own ρ2) (wipe σ own) H2 → (∀ j ∈ [i], ρ2[j]? = p.2[j]?) → ∃ q vs, v = .ref q ∧ H2 q = some (.lst vs) ∧ Reps W F2 ds vs := fun {F2 ρ2 H2} r2 g => by
      have g := g i (List.mem_singleton.mpr rfl)
      obtain ⟨e1, e2⟩ := live_ms (ρ := ρ2) (σ := σ) ho hi
      obtain ⟨q, h3, _, h4, _⟩ := r2.wri i (.lst ds) hi (by rw [e1, g, hp2]; exact hd)
      rw [e2, hs] at h3
      cases h3
      rcases h4 with ⟨ds, vs, e3, h5, h6⟩ | ⟨c, dx, ds, vs, e3, _⟩
      · cases e3
        exact ⟨q, vs, rfl, h5, h6⟩
      · cases e3
    have now : ∃ q vs, v = .ref q ∧ H1 q = some (.lst vs) ∧ Reps W F1 ds vs := by
      obtain ⟨q, h3, _, h4, _⟩ := r1.wri i (.lst ds) hi (by rw [hp2]; exact hd)
      rw [hs] at h3
      cases h3
      rcases h4 with ⟨ds, vs, e3, h5, h6⟩ | ⟨c, dx, ds, vs, e3, _⟩
      · cases e3
        exact ⟨q, vs, rfl, h5, h6⟩
      · cases e3
    obtain ⟨q, vs, rfl, s1, rr⟩ := now
    rw [o.k]
    have s2 : SqL W.K H1 q vs := .of s1
    refine ⟨q, rfl, ⟨vs, s2⟩, fun sm => k _ F1 H1 l1 r1 ⟨fun j F2 ρ2 H2 l2 r2 g hj => ?_, fun j d F2 ρ2 H2 x H3 l2 r2 g hj ⟨q1, q2⟩ => ?_, fun F2 ρ2 H2 l2 r2 g => ?_⟩ (by rw [← rr.length]; exact sm q vs (.inl s2))⟩
    · obtain ⟨q', us, hq, h3, h4⟩ := at_ r2 g
      cases hq
      obtain ⟨x, hx⟩ := len_lt (show j < us.length by rw [h4.length]; exact hj)
      exact ⟨us, x, .of h3, hx⟩
    · subst q1
      obtain ⟨q', us, hq, h3, h4⟩ := at_ r2 g
      cases hq
      obtain ⟨v, h5, h6⟩ := h4.get hj
      have := q2 _ (.of h3)
      rw [h5] at this
      cases this
      exact ⟨F2, .refl r2.sub, .inl h6⟩
    · obtain ⟨q', us, hq, h3, h4⟩ := at_ r2 g
      cases hq
      exact ⟨us, .of h3, by rw [h4.length]; exact Nat.le_refl _⟩
end

/-! ### the comprehension's loop -/
section
variable {W : W0} {ms : List Nat} {e : Ent} {C : Calls} {X : Cx}
abbrev EntOf (mp : List Nat) := { e : Ent // e.mp = mp }
theorem lc_imp (m : W.Mono) {wk : Bool} {own : List Nat} {t : N} {it c elt : E} (hm : ∀ i ∈ e.mp, i ∈ ms) (ho : ∀ i ∈ own, i ∉ ms) (ht : ∀ i ∈ nms t, i ∈ own) {js : List Nat} (hjo : ∀ i ∈ js, i ∉ own) (hkc : ∀ i ∈ js, keepB i c = true) (hke : ∀ i ∈ js, keepB i elt = true) (σ : L2.St) (H : Hp) (Q : VK) (h : tO W ms e C (.lc own t it c elt) σ H Q) :
    tLc (tIG W ms e C wk own js it) (fun v σ H Q => ∃ e' : EntOf e.mp, gN W ms e'.1 wk t v σ H Q) (fun σ H Q => ∃ e' : EntOf e.mp, tT W ms e'.1 C c σ H Q) (fun σ H Q => ∃ e' : EntOf e.mp, tE W ms e'.1 C elt σ H Q) own σ H Q := by
  obtain ⟨F, ρ, d, ρ', r, h, k⟩ := h
  rw [ev] at h
  obtain ⟨p, h1, h⟩ := R.bind_ok h
  obtain ⟨⟨qs, ρf⟩, h2, h⟩ := R.bind_ok h
  cases h
  replace h2 : lcLoop own (lcTurn C t c elt) p.1 p.2 = .ok (qs, ρf) := h2
  refine ⟨F, ρ, p.1, p.2, r, h1, fun J F1 H1 l1 r1 wks small D hD => ?_⟩
  obtain ⟨nl, he0, hF0⟩ := r1.fresh_out hD
  refine ⟨fun i m H2 => m = p.1.length - i ∧ ∃ F2 ρ2 accD accV rest, Le F1 F2 ∧ Rel W ms e F2 (wipeE own ρ2) (wipe σ own) H2 ∧ H2 D = some (.lst accV) ∧ F2 D = none ∧ Reps W F2 accD accV ∧ accV.length ≤ i ∧ i ≤ p.1.length ∧
    (∀ j ∈ ms, Live (wipeE own ρ2) j → (wipe σ own)[j]? ≠ some (some (.ref D))) ∧ lcLoop own (lcTurn C t c elt) (p.1.drop i) ρ2 = .ok (rest, ρf) ∧ accD ++ rest = qs ∧ ∀ j ∈ js, ρ2[j]? = p.2[j]?, ⟨_, rfl, F1, p.2, [], [], qs, .refl _, ?_, upd_same, hF0, .nil, Nat.le_refl _, Nat.zero_le _, ?_, by simpa using h2, rfl, fun _ _ => rfl⟩, ?_⟩
  · exact (r1.step m (Step.side r1.sub (.lst []) hD)).wiped hm ho
  · intro j hj lj
    obtain ⟨e1, e2⟩ := live_ms (ρ := p.2) (σ := σ) ho hj
    rw [e2]
    obtain ⟨d, hd⟩ := lj
    exact nl j hj ⟨d, by rw [← e1]; exact hd⟩
  · rintro i m2 H2 ⟨rfl, F2, ρ2, accD, accV, rest, l2, r2, hD2, hF2, ra, hla, hip, nl2, hlp, hres, hgs⟩
    by_cases hi : i < p.1.length
    · refine .inr ⟨wks.go i F2 ρ2 H2 l2 r2 hgs hi, fun H' => ∃ m', m' < p.1.length - i ∧ m' = p.1.length - (i + 1) ∧ ∃ F2 ρ2 accD accV rest, Le F1 F2 ∧ Rel W ms e F2 (wipeE own ρ2) (wipe σ own) H' ∧ H' D = some (.lst accV) ∧ F2 D = none ∧ Reps W F2 accD accV ∧ accV.length ≤ i + 1 ∧ i + 1 ≤ p.1.length ∧
        (∀ j ∈ ms, Live (wipeE own ρ2) j → (wipe σ own)[j]? ≠ some (some (.ref D))) ∧ lcLoop own (lcTurn C t c elt) (p.1.drop (i + 1)) ρ2 = .ok (rest, ρf) ∧ accD ++ rest = qs ∧ ∀ j ∈ js, ρ2[j]? = p.2[j]?, fun H' ⟨m', z1, z2, z3⟩ => ⟨m', z1, z2, z3⟩, fun x H3 hy => ?_⟩
      obtain ⟨d, hd⟩ := len_lt hi
      obtain ⟨F3, s3, ir⟩ := wks.yl i d F2 ρ2 H2 x H3 l2 r2 hgs hd hy
      have hdrop : p.1.drop i = d :: p.1.drop (i + 1) := by
        have hd2 : p.1[i] = d := by
          rw [List.getElem?_eq_getElem hi] at hd
          exact Option.some.inj hd
        rw [List.drop_eq_getElem_cons hi, hd2]
      rw [hdrop, lcLoop] at hlp
      obtain ⟨p3, hp3, hlp⟩ := R.bind_ok hlp
      obtain ⟨q3, hq3, hlp⟩ := R.bind_ok hlp
      have hgn : ∀ j ∈ js, (wipeE own p3.2)[j]? = p.2[j]? := fun j hj => by
        have z := turn_keep (fun z => hjo j hj (ht j z)) (keeps (hkc j hj)) (keeps (hke j hj)) _ _ _ hp3
        rw [wipeE_get, if_neg fun z => hjo j hj z.1] at z ⊢
        exact z.trans (hgs j hj)
      unfold lcTurn at hp3
      obtain ⟨ρ3, hb3, hp3⟩ := R.bind_ok hp3
      obtain ⟨k3, hk3, hp3⟩ := R.bind_ok hp3
      -- this turn's entry
      have rb := r2.base
      have hDe : (e.here ms F2 (wipeE own ρ2) (wipe σ own) H2).H0 D ≠ none := fun z => by
        rw [show (e.here ms F2 (wipeE own ρ2) (wipe σ own) H2).H0 D = H2 D from rfl, hD2] at z
        cases z
      have hDP : D ∉ (e.here ms F2 (wipeE own ρ2) (wipe σ own) H2).P0 := fun z => by
        obtain ⟨j, hj, lj, sj⟩ := mem_lives.mp z
        exact nl2 j hj lj sj
      have keepD : ∀ {F4 ρ4 σ4 H4}, Rel W ms (e.here ms F2 (wipeE own ρ2) (wipe σ own) H2) F4 ρ4 σ4 H4 → H4 D = some (.lst accV) := fun r4 => r4.sm D _ hDP (fun _ z => nomatch z) hD2
      have nofD : ∀ {F4 ρ4 σ4 H4}, Rel W ms (e.here ms F2 (wipeE own ρ2) (wipe σ own) H2) F4 ρ4 σ4 H4 → F4 D = none := fun r4 => r4.nofro hDe hF2 hDP (keepD r4)
      refine ⟨⟨e.here ms F2 (wipeE own ρ2) (wipe σ own) H2, rfl⟩, F3, wipeE own ρ2, d, ρ3, rb.step m s3, ir, hb3, fun σ2 rs n2 ls => ?_⟩
      have hw : wipe σ2 own = wipe σ own := wipe_eq (by rw [ls, wipe_length]) fun j hj => n2 j fun z => hj (ht j z)
      refine ⟨hw, ⟨e.here ms F2 (wipeE own ρ2) (wipe σ own) H2, rfl⟩, F3, ρ3, k3.1, k3.2, ?_⟩
      have fin : ∀ {F4 ρ4 H4}, Rel W ms (e.here ms F2 (wipeE own ρ2) (wipe σ own) H2) F4 ρ4 σ2 H4 → Rel W ms e F4 (wipeE own (wipeE own ρ4)) (wipe σ own) H4 ∧ ∀ j ∈ ms, Live (wipeE own (wipeE own ρ4)) j → (wipe σ own)[j]? ≠ some (some (.ref D)) := fun {F4 ρ4 H4} r4 => by
        have r5 := ((r2.unbase r4).wiped hm ho).wiped hm ho
        rw [hw, wipe_wipe] at r5
        have r6 := (r4.wiped hm ho).wiped hm ho
        rw [hw, wipe_wipe] at r6
        exact ⟨r5, r6.apart hDe hDP⟩
      split at hp3
      · rename_i hk
        obtain ⟨e3, he3, hp3⟩ := R.bind_ok hp3
        cases hp3
        cases hlp
        refine ⟨true, rs, hk3, by rw [hk]; rfl, fun F4 H4 l4 r4 => ?_⟩
        show ∃ e' : EntOf e.mp, tE W ms e'.1 C elt σ2 H4 _
        refine ⟨⟨e.here ms F2 (wipeE own ρ2) (wipe σ own) H2, rfl⟩, F4, k3.2, e3.1, e3.2, r4, he3, fun y F5 H5 l5 r5 ry => ⟨accV, keepD r5, ?_, _, ?_, rfl, F5, wipeE own e3.2, accD ++ [e3.1], accV ++ [y], q3.1, ?_, ?_, upd_same, nofD r5, ?_, ?_, hi, ?_, hq3, ?_, hgn⟩⟩
        · rw [limz]; omega
        · omega
        · exact l2.trans (s3.fr.trans (l4.trans l5))
        · obtain ⟨r6, n6⟩ := fin r5
          exact r6.poke (keepD r5) (nofD r5) he0 n6 m
        · exact (ra.mono m (s3.fr.trans (l4.trans l5))).append (.cons ry .nil)
        · rw [List.length_append]
          show accV.length + 1 ≤ i + 1
          omega
        · exact (fin r5).2
        · rw [List.append_assoc]
          exact hres
      · rename_i hk
        cases hp3
        cases hlp
        refine ⟨false, rs, hk3, by rw [hk]; rfl, fun F4 H4 l4 r4 => ?_⟩
        show ∃ m', _
        refine ⟨_, ?_, rfl, F4, wipeE own k3.2, accD, accV, q3.1, ?_, (fin r4).1, keepD r4, nofD r4, ra.mono m (s3.fr.trans l4), by omega, hi, (fin r4).2, hq3, hres, hgn⟩
        · omega
        · exact l2.trans (s3.fr.trans l4)
      · cases hp3
    · have hi2 : i = p.1.length := by omega
      subst hi2
      refine .inl ⟨wks.st F2 ρ2 H2 l2 r2 hgs, ?_⟩
      rw [List.drop_length, lcLoop] at hlp
      cases hlp
      rw [List.append_nil] at hres
      subst hres
      refine k _ F2 H2 (l1.trans l2) (r1.back m r2 l2 ho) ⟨D, _, accV, rfl, rfl, hD2, hF2, ra, .inl he0, fun j hj lj => ?_⟩
      obtain ⟨e1, e2⟩ := live_ms (ρ := ρf) (σ := σ) ho hj
      rw [← e2]
      refine nl2 j hj ?_
      obtain ⟨d, hd⟩ := lj
      rw [backE_get, if_neg fun w => ho j w.1 hj] at hd
      exact ⟨d, by rw [e1]; exact hd⟩
end
end Pu

set_option Elab.async false
set_option linter.all false
set_option maxRecDepth 100000
set_option maxHeartbeats 2000000
set_option autoImplicit false
/-! Pu, N: statements, one rule for each form. -/
namespace Pu
open PySem PySem.Spec PyProof.Rows L2

theorem _root_.L2.PA.ex {X : Cx} {x : List Expr} {ι : Type} {t : ι → TA} (h : ∀ i, PA X x (t i)) : PA X x (fun σ H Q => ∃ i, t i σ H Q) := ⟨fun pos pins s σ H Q I ⟨i, z⟩ => (h i).run pos pins s σ H Q I z⟩

/-! ### several values, own lists among them -/
section
variable (W : W0) (ms : List Nat) (e : Ent) (C : Calls)
def ownVals : E → List V → List V
  | .acons (.own _) as, v :: r => v :: ownVals as r
  | .acons _ as, _ :: r => ownVals as r
  | _, _ => []
def PstB : E → Hp → Env' → L2.St → Hp → List D → List V → Prop
  | .anil, _, _, _, _, ds, vs => ds = [] ∧ vs = []
  | .acons (.own _) as, F, ρ, σ, H, ds, vs => ∃ d ds' v r, ds = d :: ds' ∧ vs = v :: r ∧ OwnV W ms e F ρ σ H d v ∧ v ∉ ownVals as r ∧ PstB as F ρ σ H ds' r
  | .acons _ as, F, ρ, σ, H, ds, vs => ∃ d ds' v r, ds = d :: ds' ∧ vs = v :: r ∧ Rep W F d v ∧ PstB as F ρ σ H ds' r
  | _, _, _, _, _, _, _ => False
def tB (as : E) : TA := fun σ H Q => ∃ F ρ ds ρ', Rel W ms e F ρ σ H ∧ evs C as ρ = .ok (ds, ρ') ∧ ∀ vs F' H', Le F F' → Rel W ms e F' ρ' σ H' → PstB W ms e as F' ρ' σ H' ds vs → Q vs H'
end
def isOwnE : E → Bool
  | .own _ => true
  | _ => false
def setL : List Nat → List V → L2.St → L2.St
  | i :: is, v :: vs, σ => setL is vs (σ.set i (some v))
  | _, _, σ => σ
def setE : List Nat → List D → Env' → Env'
  | i :: is, d :: ds, ρ => setE is ds (ρ.set i (some d))
  | _, _, ρ => ρ
def ownFl : E → List Bool
  | .acons (.own _) as => true :: ownFl as
  | .acons _ as => false :: ownFl as
  | _ => []
def nmsT : T → Option (List Nat)
  | .nil => some []
  | .cons (.nm i) b => (nmsT b).map (i :: ·)
  | _ => none
/-- own values for written slots, others for others -/
def flOk (ms mp : List Nat) : List Nat → List Bool → Bool
  | [], [] => true
  | i :: is, f :: fs => (f == decide (i ∈ ms)) && decide (i ∉ mp) && flOk ms mp is fs
  | _, _ => false
section
variable {W : W0} {ms : List Nat} {e e1 : Ent} {C : Calls} {X : Cx} {pos pos' pos2 apos : Pos} {x y z tg : Expr} {xs es : List Expr} {a b c as : E} {F F0 F1 F' H H1 H' : Hp} {ρ ρ1 ρ' : Env'} {σ σ' : L2.St} {d : D} {ds : List D} {v : V} {vs : List V} {i j : Nat} {n : Str} {wk : Bool} {is : List Nat}

theorem PstB.own (h : isOwnE a = true) (p : OwnV W ms e F ρ σ H d v) (n : v ∉ ownVals as vs) (q : PstB W ms e as F ρ σ H ds vs) : PstB W ms e (.acons a as) F ρ σ H (d :: ds) (v :: vs) := by
  cases a <;> first | (cases h; done) | exact ⟨_, _, _, _, rfl, rfl, p, n, q⟩
theorem PstB.fro (h : isOwnE a = false) (p : Rep W F d v) (q : PstB W ms e as F ρ σ H ds vs) : PstB W ms e (.acons a as) F ρ σ H (d :: ds) (v :: vs) := by
  cases a <;> first | (cases h; done) | exact ⟨_, _, _, _, rfl, rfl, p, q⟩
theorem PstB.inv (p : PstB W ms e (.acons a as) F ρ σ H ds vs) : ∃ d ds' v r, ds = d :: ds' ∧ vs = v :: r ∧ PstB W ms e as F ρ σ H ds' r ∧ ((isOwnE a = true ∧ OwnV W ms e F ρ σ H d v ∧ v ∉ ownVals as r) ∨ (isOwnE a = false ∧ Rep W F d v)) := by
  cases a <;> first
    | (obtain ⟨d, ds', v, r, h1, h2, h3, h4, h5⟩ := p; exact ⟨d, ds', v, r, h1, h2, h5, .inl ⟨rfl, h3, h4⟩⟩)
    | (obtain ⟨d, ds', v, r, h1, h2, h3, h4⟩ := p; exact ⟨d, ds', v, r, h1, h2, h4, .inr ⟨rfl, h3⟩⟩)
theorem ownVals_own (h : isOwnE a = true) : ownVals (.acons a as) (v :: vs) = v :: ownVals as vs := by
  cases a <;> first | (cases h; done) | rfl
theorem ownVals_fro (h : isOwnE a = false) : ownVals (.acons a as) (v :: vs) = ownVals as vs := by
  cases a <;> first | (cases h; done) | rfl
theorem ownFl_cons : ownFl (.acons a as) = isOwnE a :: ownFl as := by
  cases a <;> rfl
theorem evs_cons (h : isRef a = false) : evs C (.acons a as) ρ = (ev C a ρ).bind fun p => (evs C as p.2).bind fun q => .ok (p.1 :: q.1, q.2) := by
  rw [evs]
  intro i z
  rw [z] at h
  cases h
/-- what stands of a list of values under other slots, another entry, a heap that has kept the own lists -/
theorem PstB.other (m : W.Mono) (l : Le F F') : ∀ {as : E} {ds : List D} {vs : List V}, PstB W ms e as F ρ σ H ds vs → (∀ p, V.ref p ∈ ownVals as vs → F p = none → (e.H0 p = none ∨ p ∈ e.P0) → H' p = H p ∧ F' p = none ∧ (e1.H0 p = none ∨ p ∈ e1.P0) ∧ ∀ i ∈ ms, Live ρ' i → σ'[i]? ≠ some (some (.ref p))) → PstB W ms e1 as F' ρ' σ' H' ds vs
  | .anil, _, _, p, _ => p
  | .acons a as, _, _, p, k => by
    obtain ⟨d, ds', v, r, rfl, rfl, q, h⟩ := p.inv
    rcases h with ⟨ha, ⟨pa, es, us, h1, h2, h3, h4, h5, h6, h7⟩, hn⟩ | ⟨ha, hr⟩
    · subst h1 h2
      have q' : PstB W ms e1 as F' ρ' σ' H' ds' r := PstB.other m l q fun p hp => k p (by rw [ownVals_own ha]; exact List.mem_cons_of_mem _ hp)
      obtain ⟨k1, k2, k3, k4⟩ := k pa (by rw [ownVals_own ha]; exact List.mem_cons_self) h4 h6
      exact .own ha ⟨pa, es, us, rfl, rfl, k1.trans h3, k2, h5.mono m l, k3, k4⟩ hn q'
    · exact .fro ha (hr.mono m l) (PstB.other m l q fun p hp => k p (by rw [ownVals_fro ha]; exact hp))
theorem PstB.owns : ∀ {as : E} {ds : List D} {vs : List V}, PstB W ms e as F ρ σ H ds vs → ∀ u ∈ ownVals as vs, ∃ p us, u = .ref p ∧ H p = some (.lst us) ∧ F p = none ∧ (e.H0 p = none ∨ p ∈ e.P0) ∧ ∀ i ∈ ms, Live ρ i → σ[i]? ≠ some (some (.ref p))
  | .anil, _, _, p, u, h => by
    obtain ⟨rfl, rfl⟩ := p
    cases h
  | .acons a as, _, _, p, u, h => by
    obtain ⟨d, ds', v, r, rfl, rfl, q, h2⟩ := p.inv
    rcases h2 with ⟨ha, ⟨pa, es, us, h1, h2, h3, h4, h5, h6, h7⟩, hn⟩ | ⟨ha, hr⟩
    · subst h1 h2
      rw [ownVals_own ha] at h
      rcases List.mem_cons.mp h with rfl | h
      · exact ⟨pa, us, rfl, h3, h4, h6, h7⟩
      · exact q.owns u h
    · rw [ownVals_fro ha] at h
      exact q.owns u h
theorem PstB.length : ∀ {as : E} {ds : List D} {vs : List V}, PstB W ms e as F ρ σ H ds vs → ds.length = (ownFl as).length ∧ vs.length = (ownFl as).length
  | .anil, _, _, p => by
    obtain ⟨rfl, rfl⟩ := p
    exact ⟨rfl, rfl⟩
  | .acons a as, _, _, p => by
    obtain ⟨d, ds', v, r, rfl, rfl, q, _⟩ := p.inv
    obtain ⟨h1, h2⟩ := q.length
    rw [ownFl_cons, List.length_cons, List.length_cons, List.length_cons, h1, h2]
    exact ⟨rfl, rfl⟩
theorem b_nil : PA X [] (tB W ms e C .anil) := pa_nil.imp fun σ H Q ⟨F, ρ, ds, ρ', r, h, k⟩ => by
  rw [evs] at h
  cases h
  exact k [] F H (.refl _) r ⟨rfl, rfl⟩
theorem b_fro (m : W.Mono) (hn : noStar x = true) (hr : isRef a = false) (ho : isOwnE a = false) (ha : PE X x (tE W ms e C a)) (hs : PA X xs (tB W ms e C as)) : PA X (x :: xs) (tB W ms e C (.acons a as)) :=
  (pa_cons ha hs (starEach_cons hn)).imp fun σ H Q ⟨F, ρ, ds, ρ', r, h, k⟩ => by
    rw [evs_cons hr] at h
    obtain ⟨p, h1, h⟩ := R.bind_ok h
    obtain ⟨u, h2, h⟩ := R.bind_ok h
    cases h
    exact ⟨F, ρ, p.1, p.2, r, h1, fun v F1 H1 l1 r1 p1 => ⟨F1, p.2, u.1, u.2, r1, h2, fun vs F2 H2 l2 r2 p2 => k (v :: vs) F2 H2 (l1.trans l2) r2 (.fro ho (p1.mono m l2) p2)⟩⟩
theorem b_own (m : W.Mono) (hn : noStar x = true) (ha : PE X x (tO W ms e C a)) (hs : ∀ e' : EntOf e.mp, PA X xs (tB W ms e'.1 C as)) : PA X (x :: xs) (tB W ms e C (.acons (.own a) as)) :=
  (pa_cons ha (PA.ex hs) (starEach_cons hn)).imp fun σ H Q ⟨F, ρ, ds, ρ', r, h, k⟩ => by
    rw [evs_cons rfl] at h
    obtain ⟨p, h1, h⟩ := R.bind_ok h
    obtain ⟨u, h2, h⟩ := R.bind_ok h
    cases h
    rw [ev] at h1
    refine ⟨F, ρ, p.1, p.2, r, h1, fun v F1 H1 l1 r1 ⟨q, es, us, e1, e2, e3, e4, e5, e6, e7⟩ => ⟨⟨e.here ms F1 p.2 σ H1, rfl⟩, F1, p.2, u.1, u.2, r1.base, h2, fun vs F2 H2 l2 r2 p2 => ?_⟩⟩
    subst e2
    have h0 : (e.here ms F1 p.2 σ H1).H0 q ≠ none := fun z => by
      rw [show (e.here ms F1 p.2 σ H1).H0 q = H1 q from rfl, e3] at z
      cases z
    have hP : q ∉ (e.here ms F1 p.2 σ H1).P0 := fun z => by
      obtain ⟨j, hj, lj, sj⟩ := mem_lives.mp z
      exact e7 j hj lj sj
    have r3 := r1.unbase r2
    have back : ∀ p', ((e.here ms F1 p.2 σ H1).H0 p' = none ∨ p' ∈ (e.here ms F1 p.2 σ H1).P0) → e.H0 p' = none ∨ p' ∈ e.P0 := fun p' h => by
      rcases h with h | h
      · exact .inl (r1.fresh_out h).2.1
      · obtain ⟨j, hj, ⟨d', hd'⟩, sj⟩ := mem_lives.mp h
        obtain ⟨q', g1, _, _, g4⟩ := r1.wri j d' hj hd'
        rw [sj] at g1
        cases g1
        exact g4.symm
    refine k _ F2 H2 (l1.trans l2) r3 (.own rfl ⟨q, es, us, e1, rfl, r2.sm q _ hP (fun _ z => nomatch z) e3, r2.nofro h0 e4 hP (r2.sm q _ hP (fun _ z => nomatch z) e3), e5.mono m l2, e6, r2.apart h0 hP⟩ (fun z => ?_) (p2.other m (.refl _) fun p' hp' hF' he' => ⟨rfl, hF', back p' he', fun j hj lj sj => ?_⟩))
    · obtain ⟨p', _, g1, _, _, g4, _⟩ := p2.owns _ z
      cases g1
      rcases g4 with g4 | g4
      · exact h0 g4
      · exact hP g4
    · obtain ⟨p'', _, g1, _, _, _, g5⟩ := p2.owns _ hp'
      cases g1
      exact g5 j hj lj sj
/-- the values are stored -/
theorem setB (m : W.Mono) : ∀ {as : E} {is : List Nat} {ds : List D} {vs : List V} {ρ : Env'} {σ : L2.St}, Rel W ms e F ρ σ H → PstB W ms e as F ρ σ H ds vs → flOk ms e.mp is (ownFl as) = true → Rel W ms e F (setE is ds ρ) (setL is vs σ) H
  | .anil, is, _, _, ρ, σ, r, p, f => by
    obtain ⟨rfl, rfl⟩ := p
    cases is with
    | nil => exact r
    | cons i is => exact r
  | .acons a as, is, _, _, ρ, σ, r, p, f => by
    rw [ownFl_cons] at f
    obtain ⟨d, ds', v, q, rfl, rfl, p2, h⟩ := p.inv
    cases is with
    | nil => cases f
    | cons i is =>
      obtain ⟨f12, f3⟩ := Bool.and_eq_true_iff.mp f
      obtain ⟨f1, f2⟩ := Bool.and_eq_true_iff.mp f12
      have f2 := of_decide_eq_true f2
      have f1 := beq_iff_eq.mp f1
      show Rel W ms e F (setE is ds' (ρ.set i (some d))) (setL is q (σ.set i (some v))) H
      rcases h with ⟨ha, ⟨pa, es, us, h1, h2, h3, h4, h5, h6, h7⟩, hn⟩ | ⟨ha, hr⟩
      · subst h1 h2
        rw [ha] at f1
        have hm := of_decide_eq_true f1.symm
        refine setB m (r.setOwn m hm f2 h3 h4 h5 h6 h7) (p2.other m (.refl _) fun p' hp' hF' he' => ⟨rfl, hF', he', fun j hj lj sj => ?_⟩) f3
        have ne : p' ≠ pa := fun z => by
          subst z
          exact hn hp'
        obtain ⟨p'', _, g1, _, _, _, g5⟩ := p2.owns _ hp'
        cases g1
        rcases set_get sj with ⟨_, z, _⟩ | ⟨z1, z2⟩
        · cases z
          exact ne rfl
        · obtain ⟨dj, lj⟩ := lj
          rw [List.getElem?_set_ne z1] at lj
          exact g5 j hj ⟨dj, lj⟩ z2
      · rw [ha] at f1
        have hm := of_decide_eq_false f1.symm
        refine setB m (r.set hm f2 hr) (p2.other m (.refl _) fun p' hp' hF' he' => ⟨rfl, hF', he', fun j hj lj sj => ?_⟩) f3
        obtain ⟨p'', _, g1, _, _, _, g5⟩ := p2.owns _ hp'
        cases g1
        have z1 : i ≠ j := fun z => hm (by rw [z]; exact hj)
        rw [List.getElem?_set_ne z1] at sj
        obtain ⟨dj, lj⟩ := lj
        rw [List.getElem?_set_ne z1] at lj
        exact g5 j hj ⟨dj, lj⟩ sj
theorem asgTs_names : ∀ {t : T} {is : List Nat} {ds : List D} {ρ ρ' : Env'}, nmsT t = some is → asgTs C t ds ρ = .ok ρ' → ρ' = setE is ds ρ
  | .nil, is, [], ρ, ρ', h, k => by
    cases h
    rw [asgTs] at k
    cases k
    rfl
  | .nil, is, d :: ds, ρ, ρ', h, k => by rw [asgTs] at k <;> first | (cases k; done) | (intros; contradiction)
  | .cons (.nm i) b, is, [], ρ, ρ', h, k => by rw [asgTs] at k <;> first | (cases k; done) | (intros; contradiction)
  | .cons (.nm i) b, is, d :: ds, ρ, ρ', h, k => by
    rw [nmsT] at h
    obtain ⟨js, h1, rfl⟩ := Option.map_eq_some_iff.mp h
    rw [asgTs] at k
    obtain ⟨ρ1, k1, k2⟩ := R.bind_ok k
    rw [asgT] at k1
    cases k1
    show ρ' = setE js ds (ρ.set i (some d))
    exact asgTs_names h1 k2
  | .cons .nil b, _, _, _, _, h, _ => by cases h
  | .cons (.cons _ _) b, _, _, _, _, h, _ => by cases h
  | .cons (.tp _) b, _, _, _, _, h, _ => by cases h
  | .cons (.sub _ _) b, _, _, _, _, h, _ => by cases h
  | .nm _, _, _, _, _, h, _ => by cases h
  | .tp _, _, _, _, _, h, _ => by cases h
  | .sub _ _, _, _, _, _, h, _ => by cases h

/-! ### the readings of statements -/
def ResV (W : W0) (ms : List Nat) (e : Ent) (ow : Bool) (F : Hp) (ρ : Env') (σ : L2.St) (H : Hp) (d : D) (v : V) : Prop := match ow with
  | true => OwnV W ms e F ρ σ H d v
  | false => Rep W F d v
def Out (W : W0) (ms : List Nat) (e : Ent) (ow : Bool) (D : Ends) (F : Hp) : Fl → Prop
  | .nx ρ' => ∀ σ' F' H', Le F F' → Rel W ms e F' ρ' σ' H' → D.nx σ' H'
  | .rt d ρ' => ∀ v σ' F' H', Le F F' → Rel W ms e F' ρ' σ' H' → ResV W ms e ow F' ρ' σ' H' d v → D.rt v H'
def tS (W : W0) (ms : List Nat) (e : Ent) (C : Calls) (ow : Bool) (s : S) : TS := fun D σ H => ∃ F ρ f, Rel W ms e F ρ σ H ∧ run C s ρ = .ok f ∧ Out W ms e ow D F f
variable {ow : Bool} {s s1 s2 : S} {st : Stmt} {rest body : List Stmt} {D : Ends} {fl : Fl}
theorem Out.le (h : Out W ms e ow D F fl) (l : Le F F') : Out W ms e ow D F' fl := by
  cases fl with
  | nx ρ => exact fun σ' G H' l' => h σ' G H' (l.trans l')
  | rt d ρ => exact fun v σ' G H' l' => h v σ' G H' (l.trans l')
theorem t_pass : PS X (.Pass pos) (tS W ms e C ow .skip) := ps_pass.imp fun D σ H ⟨F, ρ, f, r, h, o⟩ => by
  rw [run] at h
  cases h
  exact o σ F H (.refl _) r
theorem t_doc {t : Str} {k : Nat} : PS X (.Expr (.Constant (.str t) k pos) pos') (tS W ms e C ow .skip) := ps_doc.imp fun D σ H ⟨F, ρ, f, r, h, o⟩ => by
  rw [run] at h
  cases h
  exact o σ F H (.refl _) r
theorem t_nil : PSs X [] (tS W ms e C ow .skip) := pss_nil.imp fun D σ H ⟨F, ρ, f, r, h, o⟩ => by
  rw [run] at h
  cases h
  exact o σ F H (.refl _) r
theorem t_never : PS X st (tS W ms e C ow .never) := ps_never.imp fun D σ H ⟨F, ρ, f, r, h, o⟩ => by
  rw [run] at h
  cases h
theorem t_cons (h1 : PS X st (tS W ms e C ow s1)) (h2 : PSs X rest (tS W ms e C ow s2)) : PSs X (st :: rest) (tS W ms e C ow (.seq s1 s2)) :=
  (pss_cons h1 h2).imp fun D σ H ⟨F, ρ, f, r, h, o⟩ => by
    rw [run] at h
    obtain ⟨f1, h1, h⟩ := R.bind_ok h
    refine ⟨F, ρ, f1, r, h1, ?_⟩
    cases f1 with
    | nx ρ1 => exact fun σ' F' H' l r' => ⟨F', ρ1, f, r', h, o.le l⟩
    | rt d ρ1 =>
      cases h
      exact o
theorem t_one (h1 : PS X st (tS W ms e C ow s1)) : PSs X [st] (tS W ms e C ow s1) := pss_one h1
theorem t_if {cs : List Stmt} (hc : PT X x (tT W ms e C c)) (h1 : PSs X body (tS W ms e C ow s1)) (h2 : PSs X cs (tS W ms e C ow s2)) : PS X (.If x body cs pos) (tS W ms e C ow (.iff c s1 s2)) :=
  (ps_if hc h1 h2).imp fun D σ H ⟨F, ρ, f, r, h, o⟩ => by
    rw [run] at h
    obtain ⟨p, h1, h⟩ := R.bind_ok h
    obtain ⟨k, h2, h⟩ := R.bind_ok h
    refine ⟨F, ρ, p.1, p.2, k, r, h1, h2, fun F1 H1 l1 r1 => ?_⟩
    cases k with
    | true => exact ⟨F1, p.2, f, r1, h, o.le l1⟩
    | false => exact ⟨F1, p.2, f, r1, h, o.le l1⟩
theorem t_ret (h : PE X x (tE W ms e C a)) : PS X (.Return (some x) pos) (tS W ms e C false (.ret a)) :=
  (ps_ret h).imp fun D σ H ⟨F, ρ, f, r, h, o⟩ => by
    rw [run] at h
    obtain ⟨p, h1, h⟩ := R.bind_ok h
    cases h
    exact ⟨F, ρ, p.1, p.2, r, h1, fun v F' H' l r' rv => o v σ F' H' l r' rv⟩
theorem t_retO (h : PE X x (tO W ms e C a)) : PS X (.Return (some x) pos) (tS W ms e C true (.ret a)) :=
  (ps_ret h).imp fun D σ H ⟨F, ρ, f, r, h, o⟩ => by
    rw [run] at h
    obtain ⟨p, h1, h⟩ := R.bind_ok h
    cases h
    exact ⟨F, ρ, p.1, p.2, r, h1, fun v F' H' l r' rv => o v σ F' H' l r' rv⟩
theorem t_retN : PS X (.Return none pos) (tS W ms e C false (.ret (.cst .non))) :=
  ps_retN.imp fun D σ H ⟨F, ρ, f, r, h, o⟩ => by
    rw [run, ev] at h
    cases h
    have q : Rep W F Pu.D.non V.non := Rep.non
    exact o V.non σ F H (.refl _) r q
def noComp : Expr → Bool
  | .ListComp _ _ _ _ => false
  | .SetComp _ _ _ _ => false
  | .DictComp _ _ _ _ _ => false
  | _ => true
theorem sw_no {t : Option Expr} {l : Nat} {env : Env} (h : noComp x = true) : swapsWith x t l env = pure false := by
  cases x <;> first | (cases h; done) | (cases t <;> rfl)
theorem t_drop (h : PE X x (tE W ms e C a)) (hn : noComp x = true) : PS X (.Expr x pos) (tS W ms e C ow (.drop a)) :=
  (ps_expr h (sw_no hn)).imp fun D σ H ⟨F, ρ, f, r, h, o⟩ => by
    rw [run] at h
    obtain ⟨p, h1, h⟩ := R.bind_ok h
    cases h
    exact ⟨F, ρ, p.1, p.2, r, h1, fun v F' H' l r' rv => o σ F' H' l r'⟩

/-! ### stores -/
theorem t_asg (hN : X.N.Nodup) (hi : X.N[i]? = some n) (hx : Loc X.env.scope n) (hf : X.fn n = true ∨ X.env.scope.names.lookup n = some .local) (hm : i ∉ ms) (hp : i ∉ e.mp) (h : PE X x (tE W ms e C a)) (hs : swapsWith x (some (.Name n pos')) pos.line X.env = pure false) :
    PS X (.Assign [.Name n pos'] x pos) (tS W ms e C ow (.asg (.nm i) a)) :=
  (ps_set hN hi hx h hs hf).imp fun D σ H ⟨F, ρ, f, r, h, o⟩ => by
    rw [run] at h
    obtain ⟨p, h1, h⟩ := R.bind_ok h
    rw [asgT] at h
    cases h
    exact ⟨F, ρ, p.1, p.2, r, h1, fun v F' H' l r' rv => o _ F' H' l (r'.set hm hp rv)⟩
theorem t_asgO (m : W.Mono) (hN : X.N.Nodup) (hi : X.N[i]? = some n) (hx : Loc X.env.scope n) (hf : X.fn n = true ∨ X.env.scope.names.lookup n = some .local) (hm : i ∈ ms) (hp : i ∉ e.mp) (h : PE X x (tO W ms e C a)) (hs : swapsWith x (some (.Name n pos')) pos.line X.env = pure false) :
    PS X (.Assign [.Name n pos'] x pos) (tS W ms e C ow (.asg (.nm i) a)) :=
  (ps_set hN hi hx h hs hf).imp fun D σ H ⟨F, ρ, f, r, h, o⟩ => by
    rw [run] at h
    obtain ⟨p, h1, h⟩ := R.bind_ok h
    rw [asgT] at h
    cases h
    refine ⟨F, ρ, p.1, p.2, r, h1, fun v F' H' l r' ⟨q, ds, vs, e1, e2, e3, e4, e5, e6, e7⟩ => ?_⟩
    rw [e1] at o
    subst e2
    exact o _ F' H' l (r'.setOwn m hm hp e3 e4 e5 e6 e7)
theorem sw_not {elt : Expr} {gs : List Comprehension} {scope : Scope} {p : Pos} {l : Nat} {env : Env} (h : env.scope.names.lookup n ≠ some .local) : swapsWith (.ListComp elt gs scope p) (some (.Name n pos')) l env = pure false := by
  have hk : (env.kindOf n == some .local) = false := beq_eq_false_iff_ne.mpr h
  unfold swapsWith
  simp only [hk, Bool.and_false, Bool.false_and]
def gL (is : List Nat) : TGs := fun vs σ H Q => vs.length = is.length ∧ Q (setL is vs σ) H
theorem gl_nil : PGs X [] (gL []) := pgs_nil.imp fun vs σ H Q ⟨h, k⟩ => by
  have : vs = [] := List.eq_nil_of_length_eq_zero h
  subst this
  exact ⟨rfl, k⟩
theorem gl_cons (hn : noStar x = true) (h : PG X x (gName i)) (hs : PGs X es (gL is)) : PGs X (x :: es) (gL (i :: is)) :=
  (pgs_cons h hs (by rw [each_cons hn]; rfl)).imp fun vs σ H Q ⟨h, k⟩ => by
    cases vs with
    | nil => cases h
    | cons v vs => exact ⟨v, vs, rfl, Nat.succ.inj h, k⟩
/-- a, b, .. = x, y, ..: through a tuple -/
theorem t_parT (o : Ok W X) {t : T} {k1 k2 : Nat} (ha : PA X xs (tB W ms e C as)) (hg : PGs X es (gL is)) (ht : nmsT t = some is) (hf : flOk ms e.mp is (ownFl as) = true) (hs : es.all noStar = true) (hl : es.length = is.length) (hz : is.length ≤ 100)
    (hw : swappedStores [.Tuple es k1 pos'] (.Tuple xs k2 pos2) X.env = pure none) : PS X (.Assign [.Tuple es k1 pos'] (.Tuple xs k2 pos2) pos) (tS W ms e C ow (.par t as)) :=
  (ps_asg (pe_tupS ha) (pg_tup (n := es.length) o.calm hg (each_len hs).1 (each_len hs).2) rfl hw rfl).imp fun D σ H ⟨F, ρ, f, r, h, ou⟩ => by
    rw [run] at h
    obtain ⟨p, h1, h⟩ := R.bind_ok h
    obtain ⟨ρ1, h2, h⟩ := R.bind_ok h
    cases h
    rw [asgTs_names ht h2] at ou
    refine ⟨F, ρ, p.1, p.2, r, h1, fun vs F1 H1 l1 r1 p1 => ?_⟩
    have hlen : vs.length = is.length := by
      rw [p1.length.2]
      clear p1 h1 h2 ou ha ht hg hl hz
      generalize ownFl as = fs at hf
      induction is generalizing fs with
      | nil => cases fs with
        | nil => rfl
        | cons f fs => cases hf
      | cons i is ih => cases fs with
        | nil => cases hf
        | cons f fs =>
          rw [List.length_cons, List.length_cons, ih (fs := fs) (Bool.and_eq_true_iff.mp hf).2]
    refine ⟨by rw [hlen, limz]; unfold lim; omega, fun q ob hq hob => ⟨q, vs, rfl, .inl (.inr ⟨ob, upd_same⟩), by rw [hlen, hl], hlen, ?_⟩⟩
    refine ou _ F1 _ l1 (setB o.m (r1.step o.m (Step.side r1.sub _ hq)) (p1.other o.m (.refl _) fun p' hp' hF' he' => ?_) hf)
    obtain ⟨p'', us, g1, g2, _, _, g5⟩ := p1.owns _ hp'
    cases g1
    exact ⟨upd_ne (fun z => by rw [z, hq] at g2; cases g2), hF', he', g5⟩
theorem swap2 {env : Env} {n1 n2 : Str} {p1 p2 pt : Pos} {kt k2 : Nat} (hk : env.scope.kind = .function) (h1 : env.scope.names.lookup n1 = some .local) (h2 : env.scope.names.lookup n2 = some .local) (hl : (p2.line == p1.line) = true) (hne : n1 ≠ n2)
    (ha : noStar x = true) (hb : noStar y = true) (hf : [x, y].all (foldedForSure 8) = false) (hc : [x, y].all (constantsAlone 8) = false) : swappedStores [.Tuple [.Name n1 p1, .Name n2 p2] kt pt] (.Tuple [x, y] k2 pos2) env = pure (some [n1, n2]) := by
  have k1 : env.kindOf n1 = some .local := h1
  have k2' : env.kindOf n2 = some .local := h2
  have hb' : env.blockKind = .function := by unfold Env.blockKind; rw [hk]; rfl
  have st : ([x, y].any fun | .Starred .. => true | _ => false) = false := by
    have s1 : ∀ {x : Expr}, noStar x = true → (match x with | .Starred .. => true | _ => false) = false := fun {x} h => by cases x <;> first | rfl | cases h
    simp only [List.any_cons, List.any_nil, Bool.or_false, Bool.or_eq_false_iff]
    exact ⟨s1 ha, s1 hb⟩
  have hl1 : (p1.line == p1.line) = true := beq_self_eq_true _
  have ed : [n1, n2].eraseDups = [n1, n2] := by
    have : (n2 == n1) = false := beq_eq_false_iff_ne.mpr (Ne.symm hne)
    simp [List.eraseDups_cons, this]
  unfold swappedStores
  simp only [List.length_cons, List.length_nil, hb', st, hf, hc, List.filterMap_cons, List.filterMap_nil, k1, k2', List.head?_cons, Option.map_some, Option.getD_some, Expr.pos, hl, hl1, beq_self_eq_true, Bool.and_self, if_true, ed]
  rw [if_neg (by decide), if_neg (fun z => by
    have z' : ([x, y].any fun | .Starred .. => true | _ => false) = true := z
    rw [st] at z'
    cases z'), if_neg (by decide), if_neg (by decide), if_neg (by decide)]
theorem t_par2 (o : Ok W X) {t : T} {n1 n2 : Str} {p1 p2 pt : Pos} {kt k2 : Nat} (hk : X.env.scope.kind = .function) (hN : X.N.Nodup) (hi : X.N[i]? = some n1) (hj : X.N[j]? = some n2) (h1 : X.env.scope.names.lookup n1 = some .local) (h2 : X.env.scope.names.lookup n2 = some .local) (hl : (p2.line == p1.line) = true) (hne : n1 ≠ n2)
    (hsa : noStar x = true) (hsb : noStar y = true) (hff : [x, y].all (foldedForSure 8) = false) (hcc : [x, y].all (constantsAlone 8) = false)
    (ha : PA X [x, y] (tB W ms e C as)) (ht : nmsT t = some [i, j]) (hf : flOk ms e.mp [i, j] (ownFl as) = true) : PS X (.Assign [.Tuple [.Name n1 p1, .Name n2 p2] kt pt] (.Tuple [x, y] k2 pos2) pos) (tS W ms e C ow (.par t as)) :=
  (ps_par o.calm hN hi hj (fun z => by subst z; rw [hi] at hj; exact hne (Option.some.inj hj)) h1 h2 ha (swap2 hk h1 h2 hl hne hsa hsb hff hcc) rfl).imp fun D σ H ⟨F, ρ, f, r, h, ou⟩ => by
    rw [run] at h
    obtain ⟨p, g1, h⟩ := R.bind_ok h
    obtain ⟨ρ1, g2, h⟩ := R.bind_ok h
    cases h
    rw [asgTs_names ht g2] at ou
    refine ⟨F, ρ, p.1, p.2, r, g1, fun vs F1 H1 l1 r1 q1 => ?_⟩
    have hlen := q1.length.2
    have r2 := setB o.m r1 q1 hf
    have h2 : (ownFl as).length = 2 := by
      clear q1 hlen r2 g1 g2 ou ha
      generalize ownFl as = fs at hf
      match fs, hf with
      | [], hf => cases hf
      | [_], hf => simp [flOk] at hf
      | [_, _], _ => rfl
      | _ :: _ :: _ :: _, hf => simp [flOk] at hf
    rw [h2] at hlen
    match vs, hlen with
    | [v, w], _ => exact ⟨v, w, rfl, ou _ F1 H1 l1 r2⟩
end
end Pu

set_option Elab.async false
set_option linter.all false
set_option maxRecDepth 100000
set_option maxHeartbeats 2000000
set_option autoImplicit false
/-! Pu, O: more statements, loops. -/
namespace Pu
open PySem PySem.Spec PyProof.Rows L2

section
variable {W : W0} {ms : List Nat} {e e1 : Ent} {C : Calls} {X : Cx} {pos pos' pos2 pos3 apos : Pos} {x y z tg iter : Expr} {xs es ifs : List Expr} {a b c as it elt : E} {F F0 F1 F' H H1 H' : Hp} {ρ ρ1 ρ' : Env'} {σ σ' : L2.St} {d : D} {ds : List D} {v : V} {vs : List V} {i j : Nat} {n : Str} {wk : Bool} {is own : List Nat}
variable {ow : Bool} {s s1 s2 : S} {st : Stmt} {rest body : List Stmt} {t : N}

/-! ### comprehensions -/
theorem s_ifs0 : PTs X [] (tT W ms e C (.cst (.bl true))) := ⟨fun pins s σ H Q I ⟨F, ρ, d, ρ', k, r, h, ht, q⟩ => by
  rw [ev] at h
  cases h
  cases ht
  exact pts_nil.run pins s σ H Q I (q F H (.refl _) r)⟩
/-- what holds in the block of a comprehension -/
abbrev InBlk (X : Cx) (scope : Scope) (P : Cx → Prop) : Prop := ∀ (s : Shared) (H : Hp) (C : Addr) (cl : List (Str × Addr)) (fp : List Addr), P (X.blk s H scope (compEnvC scope cl C X.env) fp)
theorem s_lc (o : Ok W X) {scope : Scope} {ow : List (Str × Nat)} (hN : X.N.Nodup) {js : List Nat} (hi : PI X tg iter (tIG W ms e C wk own js it)) (ok : BlkOk X.N X.env.scope scope ow) (how : ow.map (·.2) = own)
    (hg : ∀ e' : EntOf e.mp, InBlk X scope fun Y => PG Y tg (gN W ms e'.1 wk t)) (ht : ∀ e' : EntOf e.mp, InBlk X scope fun Y => PTs Y ifs (tT W ms e'.1 C c)) (he : ∀ e' : EntOf e.mp, InBlk X scope fun Y => PE Y x (tE W ms e'.1 C elt))
    (hs : noSet iter = true) (hm : ∀ i ∈ e.mp, i ∈ ms) (ho : ∀ i ∈ own, i ∉ ms) (hto : ∀ i ∈ nms t, i ∈ own) (hjo : ∀ i ∈ js, i ∉ own) (hkc : ∀ i ∈ js, keepB i c = true) (hke : ∀ i ∈ js, keepB i elt = true) : PE X (.ListComp x [⟨tg, iter, ifs, 0⟩] scope pos) (tO W ms e C (.lc own t it c elt)) := by
  subst how
  exact (pe_lc o.calm hN hi ok (fun s H C cl fp => PG.ex fun e' => hg e' s H C cl fp) (fun s H C cl fp => PTs.ex fun e' => ht e' s H C cl fp) (fun s H C cl fp => PE.ex fun e' => he e' s H C cl fp) (fun x => folded_ok hs x)).imp fun σ H Q h => lc_imp o.m hm ho hto hjo hkc hke σ H Q h
theorem t_lcAny (o : Ok W X) {scope : Scope} {ows : List (Str × Nat)} (hN : X.N.Nodup) (hk : X.env.scope.kind = .function) (hy : X.N[i]? = some n) (hyl : X.env.scope.names.lookup n = some .local) (hl : (pos'.line == pos2.line) = true) (hno : (scope.names.any fun (m, k) => m == n && (k == .local || k == .cell)) = false)
    {js : List Nat} (hi : PI X tg iter (tIG W ms e C wk own js it)) (ok : BlkOk X.N X.env.scope scope ows) (how : ows.map (·.2) = own)
    (hg : ∀ e' : EntOf e.mp, InBlk X scope fun Y => PG Y tg (gN W ms e'.1 wk t)) (ht : ∀ e' : EntOf e.mp, InBlk X scope fun Y => PTs Y ifs (tT W ms e'.1 C c)) (he : ∀ e' : EntOf e.mp, InBlk X scope fun Y => PE Y x (tE W ms e'.1 C elt))
    (hs : noSet iter = true) (hm : ∀ i ∈ e.mp, i ∈ ms) (ho : ∀ i ∈ own, i ∉ ms) (hto : ∀ i ∈ nms t, i ∈ own) (hjo : ∀ i ∈ js, i ∉ own) (hkc : ∀ i ∈ js, keepB i c = true) (hke : ∀ i ∈ js, keepB i elt = true) (hp : i ∉ e.mp) : PS X (.Assign [.Name n pos'] (.ListComp x [⟨tg, iter, ifs, 0⟩] scope pos2) pos) (tS W ms e C ow (.asg (.nm i) (.lc own t it c elt))) := by
  subst how
  refine (ps_setLc o.calm hN hy hyl (sw_true hk hyl hl hno) hi ok (fun s H C cl fp => PG.ex fun e' => hg e' s H C cl fp) (fun s H C cl fp => PTs.ex fun e' => ht e' s H C cl fp) (fun s H C cl fp => PE.ex fun e' => he e' s H C cl fp) (fun x => folded_ok hs x)).imp fun D σ H ⟨F, ρ, f, r, h, ou⟩ => ?_
  rw [run] at h
  obtain ⟨p, h1, h⟩ := R.bind_ok h
  rw [asgT] at h
  cases h
  refine lc_imp o.m hm ho hto hjo hkc hke σ H _ ?_
  by_cases hms : i ∈ ms
  · refine ⟨F, ρ, p.1, p.2, r, h1, fun v F' H' l r' ⟨q, ds, vs, e1, e2, e3, e4, e5, e6, e7⟩ => ?_⟩
    rw [e1] at ou
    subst e2
    exact ou _ F' H' l (r'.setOwn o.m hms hp e3 e4 e5 e6 e7)
  · exact froz_imp o.m σ H _ ⟨F, ρ, p.1, p.2, r, h1, fun v F' H' l r' rv => ou _ F' H' l (r'.set hms hp rv)⟩

/-! ### targets -/
def gT (W : W0) (ms : List Nat) (e : Ent) (C : Calls) (t : T) : TG := fun v σ H Q => ∃ F ρ d ρ', Rel W ms e F ρ σ H ∧ Rep W F d v ∧ asgT C t d ρ = .ok ρ' ∧ ∀ σ' F' H', Le F F' → Rel W ms e F' ρ' σ' H' → Q σ' H'
def gTs (W : W0) (ms : List Nat) (e : Ent) (C : Calls) (t : T) : TGs := fun vs σ H Q => ∃ F ρ ds ρ', Rel W ms e F ρ σ H ∧ Reps W F ds vs ∧ asgTs C t ds ρ = .ok ρ' ∧ ∀ σ' F' H', Le F F' → Rel W ms e F' ρ' σ' H' → Q σ' H'
theorem gt_nm (hN : X.N.Nodup) (hi : X.N[i]? = some n) (hx : Loc X.env.scope n) (hf : X.fn n = true ∨ X.env.scope.names.lookup n = some .local) (hm : i ∉ ms) (hp : i ∉ e.mp) : PG X (.Name n pos) (gT W ms e C (.nm i)) :=
  (pg_name hN hi hx hf).imp fun v σ H Q ⟨F, ρ, d, ρ', r, h, hb, k⟩ => by
    rw [asgT] at hb
    cases hb
    exact k _ F H (.refl _) (r.set hm hp h)
theorem sub_hold {env : Env} (h : noSlice y = true) : ∀ v, assign (.Subscript x y pos) env v = (do
      let ov ← holding [v] (eval x env)
      let iv ← holding [v, ov] (eval y env)
      standAt pos
      holding [v, ov, iv] (setItem ov iv v)
      release [v, ov, iv] []) := by
  intro v
  cases y <;> first | rfl | cases h
theorem gt_sub (o : Ok W X) (hi : X.N[i]? = some n) (hv : Vis X.env.scope n) (hd : (n == ("__debug__" : Str)) = false) (hc : (n == ("__classdict__" : Str)) = false) (hm : i ∈ ms) (hn : noSlice y = true) (ha : PE X y (tE W ms e C a)) : PG X (.Subscript (.Name n pos) y pos') (gT W ms e C (.sub i a)) :=
  (pg_sub (pe_var hi hv hd hc) ha set_list (sub_hold hn)).imp fun v σ H Q ⟨F, ρ, d, ρ', r, h, hb, k⟩ => by
    rw [asgT] at hb
    split at hb
    · rename_i d0 hd0
      obtain ⟨p, h1, hb⟩ := R.bind_ok hb
      split at hb
      · rename_i k0 ds hk0 hds
        split at hb
        · rename_i jj hj
          cases hb
          obtain ⟨q0, g1, _⟩ := r.wri i _ hm hd0
          refine ⟨_, g1, F, ρ, p.1, p.2, r, h1, fun w F1 H1 l1 r1 rw1 => ?_⟩
          rw [hk0] at rw1
          obtain ⟨q, g2, g3, g4, g5⟩ := r1.wri i _ hm hds
          rw [g1] at g2
          cases g2
          rcases g4 with ⟨es, us, g6, g7, g8⟩ | ⟨_, _, _, _, g6, _⟩
          · cases g6
            refine ⟨q0, us, k0, jj, rfl, rw1.int_inv, g7, by rw [g8.length]; exact hj, k σ F1 _ l1 (r1.write o.m hm hds g1 (fun _ z => nomatch z) (.inl ⟨_, _, rfl, upd_same, g8.set jj (h.mono o.m l1)⟩))⟩
          · cases g6
        · cases hb
      · cases hb
    · cases hb
theorem gts_nil : PGs X [] (gTs W ms e C .nil) := pgs_nil.imp fun vs σ H Q ⟨F, ρ, ds, ρ', r, h, hb, k⟩ => by
  cases ds with
  | nil =>
    rw [asgTs] at hb
    cases hb
    exact ⟨h.nil_inv, k σ F H (.refl _) r⟩
  | cons d ds => rw [asgTs] at hb <;> first | (cases hb; done) | (intros; contradiction)
theorem gts_cons (m : W.Mono) {ta tb : T} (hs : noStar x = true) (h1 : PG X x (gT W ms e C ta)) (h2 : PGs X es (gTs W ms e C tb)) : PGs X (x :: es) (gTs W ms e C (.cons ta tb)) :=
  (pgs_cons h1 h2 (by rw [each_cons hs]; rfl)).imp fun vs σ H Q ⟨F, ρ, ds, ρ', r, h, hb, k⟩ => by
    cases ds with
    | nil => rw [asgTs] at hb <;> first | (cases hb; done) | (intros; contradiction)
    | cons d ds =>
      rw [asgTs] at hb
      obtain ⟨ρ1, hb1, hb2⟩ := R.bind_ok hb
      obtain ⟨v, q, rfl, q1, q2⟩ := h.cons_inv
      exact ⟨v, q, rfl, F, ρ, d, ρ1, r, q1, hb1, fun σ1 F1 H1 l1 r1 => ⟨F1, ρ1, ds, ρ', r1, q2.mono m l1, hb2, fun σ2 F2 H2 l2 r2 => k σ2 F2 H2 (l1.trans l2) r2⟩⟩
def tLen : T → Nat
  | .cons _ b => tLen b + 1
  | _ => 0
theorem asgTs_len : ∀ {ta : T} {ds : List D} {ρ ρ' : Env'}, asgTs C ta ds ρ = .ok ρ' → ds.length = tLen ta
  | .nil, [], _, _, _ => rfl
  | .nil, d :: ds, _, _, h => by rw [asgTs] at h <;> first | (cases h; done) | (intros; contradiction)
  | .cons a b, [], _, _, h => by rw [asgTs] at h <;> first | (cases h; done) | (intros; contradiction)
  | .cons a b, d :: ds, _, _, h => by
    rw [asgTs] at h
    obtain ⟨ρ1, _, h2⟩ := R.bind_ok h
    rw [List.length_cons, asgTs_len h2]
    rfl
  | .nm i, [], _, _, h => by rw [asgTs] at h <;> first | (cases h; done) | (intros; contradiction)
  | .nm i, d :: ds, _, _, h => by rw [asgTs] at h <;> first | (cases h; done) | (intros; contradiction)
  | .tp i, [], _, _, h => by rw [asgTs] at h <;> first | (cases h; done) | (intros; contradiction)
  | .tp i, d :: ds, _, _, h => by rw [asgTs] at h <;> first | (cases h; done) | (intros; contradiction)
  | .sub i _, [], _, _, h => by rw [asgTs] at h <;> first | (cases h; done) | (intros; contradiction)
  | .sub i _, d :: ds, _, _, h => by rw [asgTs] at h <;> first | (cases h; done) | (intros; contradiction)
theorem _root_.L2.PG.or {X : Cx} {x : Expr} {t t' : TG} (h : PG X x t) (h' : PG X x t') : PG X x (fun v σ H Q => t v σ H Q ∨ t' v σ H Q) :=
  ⟨fun pins s σ H v u Q I r z => z.elim (h.run pins s σ H v u Q I r) (h'.run pins s σ H v u Q I r)⟩
theorem gt_tp (o : Ok W X) {ta : T} {kk : Nat} (hs : es.all noStar = true) (hl : es.length = tLen ta) (h : PGs X es (gTs W ms e C ta)) : PG X (.Tuple es kk pos) (gT W ms e C (.tp ta)) :=
  ((pg_tup (n := es.length) o.calm h (each_len hs).1 (each_len hs).2).or (pg_lst (n := es.length) o.calm h (each_len hs).1 (each_len hs).2)).imp fun v σ H Q ⟨F, ρ, d, ρ', r, h, hb, k⟩ => by
    cases d with
    | tup ds =>
      rw [asgT] at hb
      obtain ⟨p, vs, rfl, s1, rr⟩ := h.tup_inv
      exact .inl ⟨p, vs, rfl, by rw [o.k]; exact r.sub.seqT s1, by rw [rr.length, asgTs_len hb, hl], F, ρ, ds, ρ', r, rr, hb, k⟩
    | lst ds =>
      rw [asgT] at hb
      obtain ⟨p, vs, rfl, s1, rr⟩ := h.lst_inv
      exact .inr ⟨p, vs, rfl, by rw [o.k]; exact r.sub.seqL s1, by rw [rr.length, asgTs_len hb, hl], F, ρ, ds, ρ', r, rr, hb, k⟩
    | _ => rw [asgT] at hb <;> first | (cases hb; done) | (intros; contradiction)
/-- whether the stores of a tuple's targets are not exchanged -/
def swNone (names : List (Str × NameKind)) (tg val : Expr) : Bool := match tg, val with
  | .Tuple ts _ _, .Tuple vs _ _ =>
    !(ts.length == 2 || ts.length == 3) || vs.length != ts.length || (vs.any fun | .Starred .. => true | _ => false) ||
      ((ts.filterMap fun
        | .Name id pos => if names.lookup id == some .local && pos.line == (ts.head?.map (·.pos.line)).getD 0 then some id else none
        | _ => none).length != ts.length) || vs.all (foldedForSure 8)
  | .List _ _, _ => false
  | _, _ => true
theorem swNone_ok {val : Expr} {env : Env} (hk : env.scope.kind = .function) (h : swNone env.scope.names tg val = true) : swappedStores [tg] val env = pure none := by
  have hb' : env.blockKind = .function := by unfold Env.blockKind; rw [hk]; rfl
  unfold swNone at h
  split at h
  · rename_i ts k1 p1 vs k2 p2
    unfold swappedStores
    simp only [hb']
    split
    · rfl
    · rename_i c1
      split
      · rfl
      · rename_i c2
        split
        · rfl
        · rename_i c3
          split
          · rfl
          · rename_i c4
            exfalso
            simp only [Bool.or_eq_true] at h c1 c3
            rcases h with (((h | h) | h) | h) | h
            · exact c1 (.inl (.inl h))
            · exact c1 (.inl (.inr h))
            · exact c2 h
            · exact c3 (.inl h)
            · exact c4 h
  · cases h
  · rename_i h1 h2
    cases tg <;> first | rfl | (cases val <;> first | rfl | (exfalso; first | exact h1 _ _ _ _ _ _ rfl rfl | exact h2 _ _ rfl | exact h1 _ _ rfl | exact h2 _ _ _ _ _ _ rfl rfl))
theorem sws_no {t : Expr} {l : Nat} {env : Env} (h : noComp x = true) : swapsWithSole [t] x l env = pure false := sw_no h
theorem sws_tup {ts : List Expr} {k1 l : Nat} {env : Env} : swapsWithSole [.Tuple ts k1 pos'] x l env = pure false := by cases x <;> rfl
theorem t_asgG {ts : List Expr} {k1 : Nat} {tt : T} (hk : X.env.scope.kind = .function) (h : PE X x (tE W ms e C a)) (hg : PG X (.Tuple ts k1 pos') (gT W ms e C tt)) (hw : swNone X.env.scope.names (.Tuple ts k1 pos') x = true) :
    PS X (.Assign [.Tuple ts k1 pos'] x pos) (tS W ms e C ow (.asg tt a)) :=
  (ps_asg h hg sws_tup (swNone_ok hk hw) rfl).imp fun D σ H ⟨F, ρ, f, r, h, o⟩ => by
    rw [run] at h
    obtain ⟨p, h1, h⟩ := R.bind_ok h
    obtain ⟨ρ1, h2, h⟩ := R.bind_ok h
    cases h
    exact ⟨F, ρ, p.1, p.2, r, h1, fun v F' H' l r' rv => ⟨F', p.2, p.1, ρ1, r', rv, h2, fun σ2 F2 H2 l2 r2 => o σ2 F2 H2 (l.trans l2) r2⟩⟩
theorem t_asgS {k0 : E} (h : PE X x (tE W ms e C a)) (hg : PG X (.Subscript y z pos') (gT W ms e C (.sub i k0))) (hn : noComp x = true) :
    PS X (.Assign [.Subscript y z pos'] x pos) (tS W ms e C ow (.asg (.sub i k0) a)) :=
  (ps_asg h hg (sws_no hn) (by cases x <;> rfl) rfl).imp fun D σ H ⟨F, ρ, f, r, h, o⟩ => by
    rw [run] at h
    obtain ⟨p, h1, h⟩ := R.bind_ok h
    obtain ⟨ρ1, h2, h⟩ := R.bind_ok h
    cases h
    exact ⟨F, ρ, p.1, p.2, r, h1, fun v F' H' l r' rv => ⟨F', p.2, p.1, ρ1, r', rv, h2, fun σ2 F2 H2 l2 r2 => o σ2 F2 H2 (l.trans l2) r2⟩⟩

/-! ### three at once -/
theorem swap3 {env : Env} {n1 n2 n3 : Str} {p1 p2 p3 pt : Pos} {kt k2 : Nat} (hk : env.scope.kind = .function) (h1 : env.scope.names.lookup n1 = some .local) (h2 : env.scope.names.lookup n2 = some .local) (h3 : env.scope.names.lookup n3 = some .local) (hl : (p2.line == p1.line) = true) (hl3 : (p3.line == p1.line) = true) (hne : n1 ≠ n2) (hne2 : n1 ≠ n3) (hne3 : n2 ≠ n3)
    (ha : noStar x = true) (hb : noStar y = true) (hc' : noStar z = true) (hf : [x, y, z].all (foldedForSure 8) = false) (hc : [x, y, z].all (constantsAlone 8) = false) : swappedStores [.Tuple [.Name n1 p1, .Name n2 p2, .Name n3 p3] kt pt] (.Tuple [x, y, z] k2 pos2) env = pure (some [n1, n2, n3]) := by
  have k1 : env.kindOf n1 = some .local := h1
  have k2' : env.kindOf n2 = some .local := h2
  have k3' : env.kindOf n3 = some .local := h3
  have hb' : env.blockKind = .function := by unfold Env.blockKind; rw [hk]; rfl
  have st : ([x, y, z].any fun | .Starred .. => true | _ => false) = false := by
    have s1 : ∀ {x : Expr}, noStar x = true → (match x with | .Starred .. => true | _ => false) = false := fun {x} h => by cases x <;> first | rfl | cases h
    simp only [List.any_cons, List.any_nil, Bool.or_false, Bool.or_eq_false_iff]
    exact ⟨s1 ha, s1 hb, s1 hc'⟩
  have hl1 : (p1.line == p1.line) = true := beq_self_eq_true _
  have ed : [n1, n2, n3].eraseDups = [n1, n2, n3] := by
    have e1 : (n2 == n1) = false := beq_eq_false_iff_ne.mpr (Ne.symm hne)
    have e2 : (n3 == n1) = false := beq_eq_false_iff_ne.mpr (Ne.symm hne2)
    have e3 : (n3 == n2) = false := beq_eq_false_iff_ne.mpr (Ne.symm hne3)
    simp [List.eraseDups_cons, e1, e2, e3]
  unfold swappedStores
  simp only [List.length_cons, List.length_nil, hb', st, hf, hc, List.filterMap_cons, List.filterMap_nil, k1, k2', k3', List.head?_cons, Option.map_some, Option.getD_some, Expr.pos, hl, hl1, hl3, beq_self_eq_true, Bool.and_self, if_true, ed]
  rw [if_neg (by decide), if_neg (fun w => by
    have z' : ([x, y, z].any fun | .Starred .. => true | _ => false) = true := w
    rw [st] at z'
    cases z'), if_neg (by decide), if_neg (by decide), if_neg (by decide)]
theorem t_par3 (o : Ok W X) {t : T} {l : Nat} {n1 n2 n3 : Str} {p1 p2 p3 pt : Pos} {kt k2 : Nat} (hk : X.env.scope.kind = .function) (hN : X.N.Nodup) (hi : X.N[i]? = some n1) (hj : X.N[j]? = some n2) (hl' : X.N[l]? = some n3)
    (h1 : X.env.scope.names.lookup n1 = some .local) (h2 : X.env.scope.names.lookup n2 = some .local) (h3 : X.env.scope.names.lookup n3 = some .local) (hl : (p2.line == p1.line) = true) (hl3 : (p3.line == p1.line) = true) (hne : n1 ≠ n2) (hne2 : n1 ≠ n3) (hne3 : n2 ≠ n3)
    (hsa : noStar x = true) (hsb : noStar y = true) (hsc : noStar z = true) (hff : [x, y, z].all (foldedForSure 8) = false) (hcc : [x, y, z].all (constantsAlone 8) = false)
    (ha : PA X [x, y, z] (tB W ms e C as)) (ht : nmsT t = some [i, j, l]) (hf : flOk ms e.mp [i, j, l] (ownFl as) = true) : PS X (.Assign [.Tuple [.Name n1 p1, .Name n2 p2, .Name n3 p3] kt pt] (.Tuple [x, y, z] k2 pos2) pos) (tS W ms e C ow (.par t as)) :=
  (ps_par3 o.calm hN hi hj hl' (fun z => by subst z; rw [hi] at hj; exact hne (Option.some.inj hj)) (fun z => by subst z; rw [hi] at hl'; exact hne2 (Option.some.inj hl')) (fun z => by subst z; rw [hj] at hl'; exact hne3 (Option.some.inj hl')) h1 h2 h3 ha (swap3 hk h1 h2 h3 hl hl3 hne hne2 hne3 hsa hsb hsc hff hcc) rfl).imp fun D σ H ⟨F, ρ, f, r, h, ou⟩ => by
    rw [run] at h
    obtain ⟨p, g1, h⟩ := R.bind_ok h
    obtain ⟨ρ1, g2, h⟩ := R.bind_ok h
    cases h
    rw [asgTs_names ht g2] at ou
    refine ⟨F, ρ, p.1, p.2, r, g1, fun vs F1 H1 l1 r1 q1 => ?_⟩
    have hlen := q1.length.2
    have r2 := setB o.m r1 q1 hf
    have h2 : (ownFl as).length = 3 := by
      clear q1 hlen r2 g1 g2 ou ha
      generalize ownFl as = fs at hf
      match fs, hf with
      | [], hf => cases hf
      | [_], hf => simp [flOk] at hf
      | [_, _], hf => simp [flOk] at hf
      | [_, _, _], _ => rfl
      | _ :: _ :: _ :: _ :: _, hf => simp [flOk] at hf
    rw [h2] at hlen
    match vs, hlen with
    | [u, v, w], _ => exact ⟨u, v, w, rfl, ou _ F1 H1 l1 r2⟩

/-! ### append, a field -/
theorem t_app (o : Ok W X) (hi : X.N[i]? = some n) (hv : Vis X.env.scope n) (hd : (n == ("__debug__" : Str)) = false) (hc : (n == ("__classdict__" : Str)) = false) (hm : i ∈ ms) (hn : noStar y = true) (ha : PE X y (tE W ms e C a)) (hl : (apos.endLine == pos2.line) = true) :
    PS X (.Expr (.Call (.Attribute (.Name n pos) "append" apos) [y] [] pos2) pos3) (tS W ms e C ow (.app i a)) :=
  (ps_expr (pe_bm PySem.F.plainAttrs_list PySem.F.slot_list_append rfl mt_append (pe_var hi hv hd hc) (pa_cons ha pa_nil (starEach_cons hn)) (base_ok rfl) (few1 hn) hl (starEach_cons hn) rfl) rfl).imp fun D σ H ⟨F, ρ, f, r, h, ou⟩ => by
    rw [run] at h
    split at h
    · rename_i ds0 hd0
      obtain ⟨p, h1, h⟩ := R.bind_ok h
      split at h
      · rename_i ds hds
        split at h
        · rename_i hz
          cases h
          obtain ⟨q0, g1, g2, g3, _⟩ := r.wri i _ hm hd0
          refine ⟨_, g1, ?_, F, ρ, p.1, p.2, r, h1, fun w F1 H1 l1 r1 rw1 => ?_⟩
          · rcases g3 with ⟨es, us, g6, g7, g8⟩ | ⟨_, _, _, _, g6, _⟩
            · exact .inl ⟨rfl, us, .of g7⟩
            · cases g6
          · obtain ⟨q, k2, k3, k4, k5⟩ := r1.wri i _ hm hds
            rw [g1] at k2
            cases k2
            rcases k4 with ⟨es, us, k6, k7, k8⟩ | ⟨_, _, _, _, k6, _⟩
            · cases k6
              exact ⟨q0, us, w, rfl, rfl, k7, by rw [k8.length, limz]; exact hz, ou σ F1 _ l1 (r1.write o.m hm hds g1 (fun _ z => nomatch z) (.inl ⟨_, _, rfl, upd_same, k8.append (.cons rw1 .nil)⟩))⟩
            · cases k6
        · cases h
      · cases h
    · cases h
theorem putF_zip : ∀ {ks : List Str} {vs : List V} {k : Str}, ks.Nodup → ks[vs.length]? = some k → putF k v (ks.zip vs) = ks.zip (vs ++ [v])
  | [], _, _, _, h => by simp at h
  | k0 :: ks, [], k, _, h => by
    simp at h
    subst h
    simp [putF]
  | k0 :: ks, u :: vs, k, nd, h => by
    have h3 : ks[vs.length]? = some k := by simpa using h
    have ne : k0 ≠ k := fun z => by
      subst z
      exact (List.nodup_cons.mp nd).1 (List.mem_of_getElem? h3)
    rw [List.zip_cons_cons, putF, if_neg ne, putF_zip (List.nodup_cons.mp nd).2 h3]
    rfl
theorem t_setf (o : Ok W X) (hC : ∀ c, c < W.nC → ClF W c) {c0 : Nat} {f : Str} (hi : X.N[0]? = some n) (hv : Vis X.env.scope n) (hd : (n == ("__debug__" : Str)) = false) (hc : (n == ("__classdict__" : Str)) = false) (hm : 0 ∈ ms) (ha : PE X x (tE W ms e C a)) (hn : noComp x = true)
    (hf : (W.flN c0)[j]? = some f) (nd : (W.flN c0).Nodup) (hz : (W.flN c0).length < 1000) : PS X (.Assign [.Attribute (.Name n pos') f pos2] x pos) (tS W ms e C ow (.setf c0 j a)) :=
  (ps_fld (pe_var hi hv hd hc) ha (sw_no hn)).imp fun D σ H ⟨F, ρ, f1, r, h, ou⟩ => by
    rw [run] at h
    obtain ⟨p, h1, h9⟩ := R.bind_ok h
    clear h
    refine ⟨F, ρ, p.1, p.2, r, h1, fun w F1 H1 l1 r1 rw1 => ?_⟩
    split at h9
    · rename_i c1 ds hds
      split at h9
      · rename_i hcj
        obtain ⟨rfl, rfl⟩ := hcj
        cases h9
        obtain ⟨q, k2, k3, k4, k5⟩ := r1.wri 0 _ hm hds
        rcases k4 with ⟨es, us, k6, k7, k8⟩ | ⟨c2, dx, es, us, k6, k7, k8, k9, k10⟩
        · cases k6
        · cases k6
          have hl := k10.length
          have hk : (W.flN c1)[us.length]? = some f := by rw [hl]; exact hf
          have hlt : ds.length < (W.flN c1).length := (List.getElem?_eq_some_iff.mp hf).1
          refine ⟨_, k2, q, _, dx, _, rfl, k7, by rw [o.k]; exact (hC _ k8).cl, by rw [o.k]; exact (hC _ k8).no _ (List.mem_of_getElem? hf), by rw [List.length_zip]; omega, ?_⟩
          rw [putF_zip nd hk]
          exact ou σ F1 _ l1 (r1.write o.m hm hds k2 (fun _ z => nomatch z) (.inr ⟨_, dx, _, us ++ [w], rfl, upd_same, k8, by rw [List.length_append]; exact hlt, k10.append (.cons rw1 .nil)⟩))
      · cases h9
    · cases h9

/-! ### loops -/
theorem t_for (o : Ok W X) (hx : PassesOwn (model X.prog X.w) X.A X.env X.xe) (hs : noSet iter = true) (hi : PI X tg iter (tI W ms e C wk it)) (hg : PG X tg (gN W ms e wk t)) (hb : PSs X body (tS W ms e C ow s)) : PS X (.For tg iter body [] pos) (tS W ms e C ow (.for t it s)) :=
  (ps_for hx o.calm hi hg hb (fun x => folded_ok hs x)).imp fun D σ H ⟨F, ρ, f, r, h, ou⟩ => by
    rw [run] at h
    obtain ⟨p, h1, h⟩ := R.bind_ok h
    refine ⟨F, ρ, p.1, p.2, r, h1, fun J F1 H1 l1 r1 wks small => ⟨fun i m σ2 H2 => m = p.1.length - i ∧ i ≤ p.1.length ∧ ∃ F2 ρ2, Le F1 F2 ∧ Rel W ms e F2 ρ2 σ2 H2 ∧ forLoop t (run C s) (p.1.drop i) ρ2 = .ok f, ⟨_, rfl, Nat.zero_le _, F1, p.2, .refl _, r1, by simpa using h⟩, ?_⟩⟩
    rintro i m σ2 H2 ⟨rfl, hip, F2, ρ2, l2, r2, hlp⟩
    by_cases hi : i < p.1.length
    · refine .inr ⟨wks.go i F2 H2 l2 r2.sub hi, fun σ' H' => i + 1 ≤ p.1.length ∧ ∃ F2 ρ2, Le F1 F2 ∧ Rel W ms e F2 ρ2 σ' H' ∧ forLoop t (run C s) (p.1.drop (i + 1)) ρ2 = .ok f, fun σ' H' ⟨z0, z⟩ => ⟨p.1.length - (i + 1), by omega, rfl, z0, z⟩, fun v H3 hy => ?_⟩
      obtain ⟨d, hd⟩ := len_lt hi
      obtain ⟨F3, s3, ir⟩ := wks.yl i d F2 H2 v H3 l2 r2.sub hd hy
      have hdrop : p.1.drop i = d :: p.1.drop (i + 1) := by
        have hd2 : p.1[i] = d := by
          rw [List.getElem?_eq_getElem hi] at hd
          exact Option.some.inj hd
        rw [List.drop_eq_getElem_cons hi, hd2]
      rw [hdrop, forLoop] at hlp
      obtain ⟨ρ3, hb3, hlp⟩ := R.bind_ok hlp
      obtain ⟨f3, hf3, hlp⟩ := R.bind_ok hlp
      refine ⟨F3, ρ2, d, ρ3, r2.step o.m s3, ir, hb3, fun σ3 r3 _ _ => ⟨F3, ρ3, f3, r3, hf3, ?_⟩⟩
      cases f3 with
      | nx ρ4 => exact fun σ4 F4 H4 l4 r4 => ⟨hi, F4, ρ4, l2.trans (s3.fr.trans l4), r4, hlp⟩
      | rt d4 ρ4 =>
        cases hlp
        exact ou.le (l1.trans (l2.trans s3.fr))
    · have hi2 : i = p.1.length := by omega
      subst hi2
      refine .inl ⟨wks.st F2 H2 l2 r2.sub, ?_⟩
      rw [List.drop_length, forLoop] at hlp
      cases hlp
      exact ou σ2 F2 H2 (l1.trans l2) r2
theorem t_whl (hx : PassesOwn (model X.prog X.w) X.A X.env X.xe) (hc : PT X x (tT W ms e C c)) (hb : PSs X body (tS W ms e C ow s)) : PS X (.While x body [] pos) (tS W ms e C ow (.whl c s)) :=
  (ps_while hx hc hb).imp fun D σ H ⟨F, ρ, f, r, h, ou⟩ => by
    rw [run] at h
    refine ⟨fun m σ2 H2 => ∃ F2 ρ2, Le F F2 ∧ Rel W ms e F2 ρ2 σ2 H2 ∧ whlLoop (ev C c) (run C s) m ρ2 = .ok f, ⟨turns, F, ρ, .refl _, r, h⟩, ?_⟩
    rintro m σ2 H2 ⟨F2, ρ2, l2, r2, hlp⟩
    cases m with
    | zero => rw [whlLoop] at hlp; cases hlp
    | succ m =>
      rw [whlLoop] at hlp
      obtain ⟨p, h1, hlp⟩ := R.bind_ok hlp
      obtain ⟨k, h2, hlp⟩ := R.bind_ok hlp
      refine ⟨F2, ρ2, p.1, p.2, k, r2, h1, h2, fun F3 H3 l3 r3 => ?_⟩
      cases k with
      | true =>
        obtain ⟨f3, hf3, hlp⟩ := R.bind_ok hlp
        show ∃ N : L2.St → Hp → Prop, _
        refine ⟨fun σ' H' => ∃ F2 ρ2, Le F F2 ∧ Rel W ms e F2 ρ2 σ' H' ∧ whlLoop (ev C c) (run C s) m ρ2 = .ok f, fun σ' H' z => ⟨m, Nat.lt_succ_self _, z⟩, F3, p.2, f3, r3, hf3, ?_⟩
        cases f3 with
        | nx ρ4 => exact fun σ4 F4 H4 l4 r4 => ⟨F4, ρ4, l2.trans (l3.trans l4), r4, hlp⟩
        | rt d4 ρ4 =>
          cases hlp
          exact ou.le (l2.trans l3)
      | false =>
        cases hlp
        exact ou σ2 F3 H3 (l2.trans l3) r3
end
end Pu

set_option Elab.async false
set_option linter.all false
set_option maxRecDepth 100000
set_option maxHeartbeats 2000000
set_option autoImplicit false
/-! Pu, P: what defs promise. -/
namespace Pu
open PySem PySem.Spec PyProof.Rows L2

/-- what a def asks of its arguments -/
structure ArgsOk (W : W0) (np : Nat) (mp : List Nat) (F0 : Hp) (ds : List D) (vs : List V) (H : Hp) : Prop where
  lv : vs.length = np
  ld : ds.length = np
  sub : Le F0 H
  tb : NdefX.TabsN W.T H
  tf : ∀ p ∈ W.T, F0 p.1 = none
  fro : ∀ (j : Nat) (d : D) (v : V), j ∉ mp → ds[j]? = some d → vs[j]? = some v → Rep W F0 d v
  mutd : ∀ (j : Nat) (d : D), j ∈ mp → ds[j]? = some d → ∃ p, vs[j]? = some (.ref p) ∧ F0 p = none ∧ MutV W F0 H d p
  inj : ∀ (i j : Nat) (p : Addr), i ∈ mp → j ∈ mp → vs[i]? = some (.ref p) → vs[j]? = some (.ref p) → i = j
/-- what stands after it -/
structure After (W : W0) (mp : List Nat) (F0 : Hp) (vs : List V) (H : Hp) (outs : List D) (F' H' : Hp) : Prop where
  le : Le F0 F'
  sub : Le F' H'
  nw : ∀ a o, F' a = some o → F0 a = some o ∨ H a = none ∨ ∃ q, o = LamX.CodeO a q
  sm : ∀ a o, (∀ j ∈ mp, vs[j]? ≠ some (.ref a)) → NT o → H a = some o → H' a = some o
  al : ∀ a, H a ≠ none → H' a ≠ none
  tb : NdefX.TabsN W.T H'
  tf : ∀ p ∈ W.T, F' p.1 = none
  len : outs.length = mp.length
  mutd : ∀ (k j : Nat) (d : D) (p : Addr), mp[k]? = some j → outs[k]? = some d → vs[j]? = some (.ref p) → F' p = none ∧ MutV W F' H' d p
def Ret (W : W0) (ow : Bool) (H F' H' : Hp) (d : D) (v : V) : Prop := match ow with
  | true => ∃ p ds vs, d = .lst ds ∧ v = .ref p ∧ H' p = some (.lst vs) ∧ F' p = none ∧ Reps W F' ds vs ∧ H p = none
  | false => Rep W F' d v
/-- a def's body at its arguments -/
def raw (P : Prog) : Nat → Nat → List D → R (D × List D)
  | 0, _, _ => .bad
  | k + 1, f, ds => match P.fns[f]? with
    | some F => if ds.length = F.np then (run (calls P k) F.body (entry F.sz ds)).bind fun fl => endOf F.own F.mp fl else .bad
    | none => .bad
theorem raw_call {P : Prog} {k f : Nat} {ds : List D} {r : D × List D} (h : (calls P k).call f ds = .ok r) : raw P k f ds = .ok r := by
  cases k with
  | zero => cases h
  | succ k =>
    have h : (match P.fns[f]? with
        | some F => if ds.length = F.np ∧ F.ini = false then (run (calls P k) F.body (entry F.sz ds)).bind fun fl => endOf F.own F.mp fl else .bad
        | none => .bad) = R.ok r := h
    show (match P.fns[f]? with
        | some F => if ds.length = F.np then (run (calls P k) F.body (entry F.sz ds)).bind fun fl => endOf F.own F.mp fl else .bad
        | none => .bad) = R.ok r
    split at h
    · split at h
      · rename_i z
        rw [if_pos z.1]
        exact h
      · cases h
    · cases h
theorem raw_new {P : Prog} {k c : Nat} {ds : List D} {d : D} (h : (calls P k).new c ds = .ok d) : ∃ cd Fn es, P.cls[c]? = some cd ∧ P.fns[cd.ini]? = some Fn ∧ d = .obj c es ∧ es.length = cd.flds ∧ (Fn.mp = [0] → Fn.own = false → raw P k cd.ini (.obj c [] :: ds) = .ok (.non, [.obj c es])) := by
  cases k with
  | zero => cases h
  | succ k =>
    have h : (match P.cls[c]? with
        | some c' => match P.fns[c'.ini]? with
          | some F => if ds.length + 1 = F.np ∧ F.ini = true then (run (calls P k) F.body (entry F.sz (.obj c [] :: ds))).bind fun fl => match fl with
              | .nx ρ => match ρ[0]? with
                | some (some (D.obj c2 es)) => if c2 = c ∧ es.length = c'.flds then .ok (.obj c es) else .bad
                | _ => .bad
              | .rt _ _ => .bad
            else .bad
          | none => .bad
        | none => .bad) = R.ok d := h
    split at h
    · rename_i cd hcd
      split at h
      · rename_i Fn hFn
        split at h
        · rename_i hz
          obtain ⟨fl, h1, h2⟩ := R.bind_ok h
          split at h2
          · rename_i ρ
            split at h2
            · rename_i c2 es hρ
              split at h2
              · rename_i hc
                obtain ⟨rfl, hl⟩ := hc
                cases h2
                refine ⟨cd, Fn, es, hcd, hFn, rfl, hl, fun hm ho => ?_⟩
                show (match P.fns[cd.ini]? with
                  | some F => if (D.obj c2 [] :: ds).length = F.np then (run (calls P k) F.body (entry F.sz (.obj c2 [] :: ds))).bind fun fl => endOf F.own F.mp fl else .bad
                  | none => .bad) = _
                rw [hFn]
                show (if (D.obj c2 [] :: ds).length = Fn.np then _ else _) = _
                rw [if_pos (by rw [List.length_cons]; exact hz.1), h1]
                show endOf Fn.own Fn.mp (.nx ρ) = _
                rw [hm, ho]
                unfold endOf
                simp [getAll, hρ]
              · cases h2
            · cases h2
          · cases h2
        · cases h
      · cases h
    · cases h
/-- the promise of the def f, calls at most k deep -/
def spD (W : W0) (P : Prog) (k f : Nat) : Sp := fun vs H Q _ => ∃ Fn F0 ds d outs, P.fns[f]? = some Fn ∧ ArgsOk W Fn.np Fn.mp F0 ds vs H ∧ raw P k f ds = .ok (d, outs) ∧ ∀ v F' H', After W Fn.mp F0 vs H outs F' H' → Ret W Fn.own H F' H' d v → Q v H'

section
variable {W : W0} {ms mp : List Nat} {e : Ent} {C : Calls} {F F0 F' H H' : Hp} {ρ ρ' : Env'} {σ σ' : L2.St} {d : D} {ds outs : List D} {v : V} {vs : List V} {np : Nat} {N : List Str}

/-! ### the entry, the end -/
def lent (mp : List Nat) (vs : List V) : List Addr := mp.filterMap fun j => match vs[j]? with
  | some (V.ref p) => some p
  | _ => none
theorem mem_lent {p : Addr} : p ∈ lent mp vs ↔ ∃ j ∈ mp, vs[j]? = some (.ref p) := by
  unfold lent
  rw [List.mem_filterMap]
  constructor
  · rintro ⟨i, hi, h⟩
    split at h
    · rename_i q hq
      cases h
      exact ⟨i, hi, hq⟩
    · cases h
  · rintro ⟨i, hi, h⟩
    refine ⟨i, hi, ?_⟩
    rw [h]
def entOf (mp : List Nat) (F0 H : Hp) (N : List Str) (vs : List V) : Ent := ⟨F0, H, lent mp vs, mp, L2.start N vs⟩
theorem start_get {i : Nat} (h : vs[i]? = some v) : (L2.start N vs)[i]? = some (some v) := by
  unfold L2.start
  rw [List.getElem?_append_left (by rw [List.length_map]; exact (List.getElem?_eq_some_iff.mp h).1), List.getElem?_map, h]
  rfl
theorem entry_get {i sz : Nat} (h : (entry sz ds)[i]? = some (some d)) : ds[i]? = some d := by
  unfold entry at h
  by_cases hi : i < ds.length
  · rw [List.getElem?_append_left (by rw [List.length_map]; exact hi), List.getElem?_map] at h
    obtain ⟨x, h1, h2⟩ := Option.map_eq_some_iff.mp h
    cases h2
    exact h1
  · rw [List.getElem?_append_right (by rw [List.length_map]; omega)] at h
    rw [List.getElem?_replicate] at h
    split at h <;> cases h
theorem rel_start (a : ArgsOk W np mp F0 ds vs H) (h1 : ∀ i ∈ ms, i < np → i ∈ mp) (h2 : ∀ j ∈ mp, j ∈ ms) : Rel W ms (entOf mp F0 H N vs) F0 (entry N.length ds) (L2.start N vs) H where
  len := by
    unfold entry L2.start
    rw [List.length_append, List.length_append, List.length_map, List.length_map, List.length_replicate, List.length_replicate, a.lv, a.ld]
  sub := a.sub
  f0 := .refl _
  nw := fun _ _ h => .inl h
  sm := fun _ _ _ _ h => h
  al := fun _ h => h
  fro := fun i d hi hd => by
    have h3 := entry_get hd
    have hlt : i < vs.length := by
      rw [a.lv, ← a.ld]
      exact (List.getElem?_eq_some_iff.mp h3).1
    obtain ⟨v, hv⟩ := len_lt hlt
    exact ⟨v, start_get hv, a.fro i d v (fun z => hi (h2 i z)) h3 hv⟩
  wri := fun i d hi hd => by
    have h3 := entry_get hd
    have hm := h1 i hi (by rw [← a.ld]; exact (List.getElem?_eq_some_iff.mp h3).1)
    obtain ⟨p, h4, h5, h6⟩ := a.mutd i d hm h3
    exact ⟨p, start_get h4, h5, h6, .inl (mem_lent.mpr ⟨i, hm, h4⟩)⟩
  inj := fun i j p hi hj li lj si sj => by
    obtain ⟨d, li⟩ := li
    obtain ⟨d', lj⟩ := lj
    have h3 := entry_get li
    have h4 := entry_get lj
    have hm := h1 i hi (by rw [← a.ld]; exact (List.getElem?_eq_some_iff.mp h3).1)
    have hm' := h1 j hj (by rw [← a.ld]; exact (List.getElem?_eq_some_iff.mp h4).1)
    obtain ⟨q, q1, _⟩ := a.mutd i d hm h3
    obtain ⟨q', q2, _⟩ := a.mutd j d' hm' h4
    have e1 := start_get (N := N) q1
    have e2 := start_get (N := N) q2
    rw [si] at e1
    rw [sj] at e2
    cases e1
    cases e2
    exact a.inj i j p hm hm' q1 q2
  tb := a.tb
  tf := a.tf
  fix := fun _ _ => rfl
theorem getAll_len : ∀ {is : List Nat} {os : List D}, getAll ρ is = some os → os.length = is.length
  | [], _, h => by
    rw [getAll] at h
    cases h
    rfl
  | i :: is, os, h => by
    rw [getAll] at h
    split at h
    · obtain ⟨r, h1, rfl⟩ := Option.map_eq_some_iff.mp h
      rw [List.length_cons, List.length_cons, getAll_len h1]
    · cases h
theorem getAll_get : ∀ {is : List Nat} {os : List D} {k j : Nat}, getAll ρ is = some os → is[k]? = some j → ∃ d, os[k]? = some d ∧ ρ[j]? = some (some d)
  | [], _, k, j, h, hk => by simp at hk
  | i :: is, os, k, j, h, hk => by
    rw [getAll] at h
    split at h
    · rename_i d hd
      obtain ⟨r, h1, rfl⟩ := Option.map_eq_some_iff.mp h
      cases k with
      | zero =>
        simp at hk
        subst hk
        exact ⟨d, rfl, hd⟩
      | succ k =>
        obtain ⟨d', e1, e2⟩ := getAll_get (k := k) (j := j) h1 (by simpa using hk)
        exact ⟨d', by simpa using e1, e2⟩
    · cases h
theorem rel_end (a : ArgsOk W np mp F0 ds vs H) (h2 : ∀ j ∈ mp, j ∈ ms) (h3 : ∀ j ∈ mp, j < np) (r : Rel W ms (entOf mp F0 H N vs) F' ρ' σ' H') (ho : getAll ρ' mp = some outs) :
    After W mp F0 vs H outs F' H' ∧ ∀ p, p ∈ lent mp vs → ∃ i ∈ ms, Live ρ' i ∧ σ'[i]? = some (some (.ref p)) := by
  have at_ : ∀ (k j : Nat) (d : D) (p : Addr), mp[k]? = some j → outs[k]? = some d → vs[j]? = some (.ref p) → ρ'[j]? = some (some d) ∧ σ'[j]? = some (some (.ref p)) := fun k j d p h4 h5 h6 => by
    obtain ⟨d', e1, e2⟩ := getAll_get ho h4
    rw [h5] at e1
    cases e1
    refine ⟨e2, ?_⟩
    rw [r.fix j (List.mem_of_getElem? h4)]
    exact start_get h6
  have mutd : ∀ (k j : Nat) (d : D) (p : Addr), mp[k]? = some j → outs[k]? = some d → vs[j]? = some (.ref p) → F' p = none ∧ MutV W F' H' d p := fun k j d p h4 h5 h6 => by
    obtain ⟨e2, e3⟩ := at_ k j d p h4 h5 h6
    obtain ⟨q, e4, e5, e6, _⟩ := r.wri j d (h2 j (List.mem_of_getElem? h4)) e2
    rw [e3] at e4
    cases e4
    exact ⟨e5, e6⟩
  have ofl : ∀ p, p ∈ lent mp vs → ∃ (k j : Nat) (d : D), mp[k]? = some j ∧ outs[k]? = some d ∧ vs[j]? = some (V.ref p) := fun p hp => by
    obtain ⟨j, hj, hv⟩ := mem_lent.mp hp
    obtain ⟨k, hk⟩ := List.getElem?_of_mem hj
    obtain ⟨d, e1, _⟩ := getAll_get ho hk
    exact ⟨k, j, d, hk, e1, hv⟩
  refine ⟨⟨r.f0, r.sub, fun a o h => ?_, fun a o h4 h5 h6 => r.sm a o (fun z => ?_) h5 h6, r.al, r.tb, r.tf, getAll_len ho, mutd⟩, fun p hp => ?_⟩
  · rcases r.nw a o h with z | z | z | z
    · exact .inl z
    · exact .inr (.inl z)
    · obtain ⟨k, j, d, e1, e2, e3⟩ := ofl a z
      have := (mutd k j d a e1 e2 e3).1
      rw [h] at this
      cases this
    · exact .inr (.inr z)
  · obtain ⟨j, hj, hv⟩ := mem_lent.mp z
    exact h4 j hj hv
  · obtain ⟨k, j, d, e1, e2, e3⟩ := ofl p hp
    obtain ⟨e4, e5⟩ := at_ k j d p e1 e2 e3
    exact ⟨j, h2 j (List.mem_of_getElem? e1), ⟨d, e4⟩, e5⟩

/-! ### the caller's side -/
theorem put_length : ∀ {mu : List (Nat × Nat)} {os : List D} {ρ ρ' : Env'}, put mu os ρ = some ρ' → ρ'.length = ρ.length
  | [], [], _, _, h => by rw [put] at h; cases h; rfl
  | (_, i) :: r, d :: ds, ρ, ρ', h => by
    rw [put] at h
    rw [put_length h, List.length_set]
  | [], _ :: _, _, _, h => by cases h
  | _ :: _, [], _, _, h => by cases h
theorem put_other : ∀ {mu : List (Nat × Nat)} {os : List D} {ρ ρ' : Env'} {i : Nat}, put mu os ρ = some ρ' → i ∉ mu.map (·.2) → ρ'[i]? = ρ[i]?
  | [], [], _, _, _, h, _ => by rw [put] at h; cases h; rfl
  | (j, i0) :: r, d :: ds, ρ, ρ', i, h, n => by
    rw [put] at h
    rw [put_other h fun z => n (List.mem_cons_of_mem _ z), List.getElem?_set_ne]
    exact fun z => n (by rw [← z]; exact List.mem_cons_self)
  | [], _ :: _, _, _, _, h, _ => by cases h
  | _ :: _, [], _, _, _, h, _ => by cases h
theorem put_at : ∀ {mu : List (Nat × Nat)} {os : List D} {ρ ρ' : Env'} {i : Nat} {d : D}, put mu os ρ = some ρ' → (mu.map (·.2)).Nodup → i ∈ mu.map (·.2) → ρ'[i]? = some (some d) → ∃ (k j : Nat), mu[k]? = some (j, i) ∧ os[k]? = some d
  | [], _, _, _, _, _, _, _, h, _ => by cases h
  | (j, i0) :: r, d0 :: ds, ρ, ρ', i, d, h, nd, hi, hd => by
    rw [put] at h
    rw [List.map_cons] at nd hi
    by_cases z : i ∈ r.map (·.2)
    · obtain ⟨k, j', e1, e2⟩ := put_at h (List.nodup_cons.mp nd).2 z hd
      exact ⟨k + 1, j', by simpa using e1, by simpa using e2⟩
    · rcases List.mem_cons.mp hi with e | e
      · have e : i = i0 := e
        subst e
        rw [put_other h z] at hd
        rcases set_get hd with ⟨_, e3, _⟩ | ⟨e3, _⟩
        · cases e3
          exact ⟨0, j, rfl, rfl⟩
        · exact absurd rfl e3
      · exact absurd e z
  | _ :: _, [], _, _, _, _, h, _, _, _ => by cases h
/-- after a call: mu: which parameter was lent which slot; what else was lent is new -/
theorem Rel.call (m : W.Mono) (r : Rel W ms e F ρ σ H) {mu : List (Nat × Nat)} (nd : (mu.map (·.2)).Nodup) (hs : ∀ q ∈ mu, q.2 ∈ ms) (hl : ∀ q ∈ mu, Live ρ q.2)
    (hv : ∀ q ∈ mu, vs[q.1]? = (σ[q.2]?).bind id) (hk : ∀ (k j i : Nat), mu[k]? = some (j, i) → mp[k]? = some j)
    (ho : ∀ j ∈ mp, ∀ a, vs[j]? = some (.ref a) → (∃ i, (j, i) ∈ mu) ∨ ((e.H0 a = none ∨ a ∈ e.P0) ∧ ∀ i ∈ ms, Live ρ i → σ[i]? ≠ some (some (.ref a))))
    (A : After W mp F vs H outs F' H') {os : List D} (hos : ∀ (k : Nat) (d : D), os[k]? = some d → outs[k]? = some d) (hp : put mu os ρ = some ρ') : Rel W ms e F' ρ' σ H' := by
  have sl : ∀ q ∈ mu, ∃ p, σ[q.2]? = some (some (.ref p)) ∧ vs[q.1]? = some (.ref p) := fun q hq => by
    obtain ⟨d, hd⟩ := hl q hq
    obtain ⟨p, e1, _⟩ := r.wri q.2 d (hs q hq) hd
    refine ⟨p, e1, ?_⟩
    rw [hv q hq, e1]
    rfl
  have live : ∀ i, Live ρ' i → Live ρ i := fun i ⟨d, hd⟩ => by
    by_cases z : i ∈ mu.map (·.2)
    · obtain ⟨q, hq, rfl⟩ := List.mem_map.mp z
      exact hl q hq
    · rw [put_other hp z] at hd
      exact ⟨d, hd⟩
  have lentOf : ∀ j ∈ mp, ∀ a, vs[j]? = some (.ref a) → (∃ i, (j, i) ∈ mu ∧ i ∈ ms ∧ Live ρ i ∧ σ[i]? = some (some (.ref a))) ∨ ((e.H0 a = none ∨ a ∈ e.P0) ∧ ∀ i ∈ ms, Live ρ i → σ[i]? ≠ some (some (.ref a))) := fun j hj a ha => by
    rcases ho j hj a ha with ⟨i, hi⟩ | h
    · obtain ⟨p, e1, e2⟩ := sl _ hi
      rw [ha] at e2
      cases e2
      exact .inl ⟨i, hi, hs _ hi, hl _ hi, e1⟩
    · exact .inr h
  refine ⟨by rw [put_length hp]; exact r.len, A.sub, r.f0.trans A.le, fun a o h => ?_, fun a o h1 h2 h3 => ?_, fun a h => A.al a (r.al a h), fun i d h1 h2 => ?_, fun i d h1 h2 => ?_, fun i j p h1 h2 h3 h4 h5 h6 => r.inj i j p h1 h2 (live i h3) (live j h4) h5 h6, A.tb, A.tf, r.fix⟩
  · rcases A.nw a o h with z | z | z
    · exact r.nw a o z
    · exact .inr (.inl (r.fresh_out z).2.1)
    · exact .inr (.inr (.inr z))
  · refine A.sm a o (fun j hj z => ?_) h2 (r.sm a o h1 h2 h3)
    rcases lentOf j hj a z with ⟨i, _, hi, ⟨d, li⟩, si⟩ | ⟨h | h, _⟩
    · obtain ⟨p, e1, _, _, e4⟩ := r.wri i d hi li
      rw [si] at e1
      cases e1
      rcases e4 with e4 | e4
      · exact h1 e4
      · rw [e4] at h3; cases h3
    · rw [h] at h3; cases h3
    · exact h1 h
  · have n : i ∉ mu.map (·.2) := fun z => by
      obtain ⟨q, hq, rfl⟩ := List.mem_map.mp z
      exact h1 (hs q hq)
    rw [put_other hp n] at h2
    obtain ⟨v, e1, e2⟩ := r.fro i d h1 h2
    exact ⟨v, e1, e2.mono m A.le⟩
  · by_cases z : i ∈ mu.map (·.2)
    · obtain ⟨k, j, e1, e2⟩ := put_at hp nd z h2
      have hq := List.mem_of_getElem? e1
      obtain ⟨p, e3, e4⟩ := sl _ hq
      obtain ⟨e5, e6⟩ := A.mutd k j d p (hk k j i e1) (hos k d e2) e4
      obtain ⟨d0, li⟩ := hl _ hq
      obtain ⟨p', e7, _, _, e8⟩ := r.wri i d0 h1 li
      have e3' : σ[i]? = some (some (.ref p)) := e3
      rw [e3'] at e7
      cases e7
      exact ⟨p, e3, e5, e6, e8⟩
    · rw [put_other hp z] at h2
      obtain ⟨p, e1, e2, e3, e4⟩ := r.wri i d h1 h2
      obtain ⟨o, e5, e6⟩ := e3.some
      have e7 : H' p = some o := A.sm p o (fun j hj w => by
        rcases lentOf j hj p w with ⟨i', hm, hi', li', si'⟩ | ⟨_, h⟩
        · have := r.inj i i' p h1 hi' ⟨d, h2⟩ li' e1 si'
          exact z (List.mem_map.mpr ⟨_, hm, this.symm⟩)
        · exact h i h1 ⟨d, h2⟩ e1) e6 e5
      refine ⟨p, e1, ?_, e3.mono m A.le (e7.trans e5.symm), e4⟩
      cases q : F' p with
      | none => rfl
      | some u =>
        rcases A.nw p u q with w | w | ⟨c, w⟩
        · rw [e2] at w; cases w
        · rw [e5] at w; cases w
        · have w2 := A.sub _ _ q
          rw [e7, w] at w2
          have w3 := Option.some.inj w2
          subst w3
          rcases e3 with ⟨_, _, _, w4, _⟩ | ⟨_, _, _, _, _, w4, _⟩
          · rw [e5] at w4; cases w4
          · rw [e5] at w4; cases w4
/-- what a callee returns, for the caller -/
theorem ret_own (m : W.Mono) (r : Rel W ms e F ρ σ H) (r' : Rel W ms e F' ρ' σ H') (hlv : ∀ i, Live ρ' i → Live ρ i) (h : Ret W true H F' H' d v) : OwnV W ms e F' ρ' σ H' d v := by
  obtain ⟨p, ds, vs, h1, h2, h3, h4, h5, h6⟩ := h
  obtain ⟨nl, h0, _⟩ := r.fresh_out h6
  exact ⟨p, ds, vs, h1, h2, h3, h4, h5, .inl h0, fun i hi li => nl i hi (hlv i li)⟩
end
end Pu

set_option Elab.async false
set_option linter.all false
set_option maxRecDepth 100000
set_option maxHeartbeats 2000000
set_option autoImplicit false
/-! Pu, Q: calls of defs, new instances, properties. -/
namespace Pu
open PySem PySem.Spec PyProof.Rows L2

/-! ### any call by a global name -/
theorem kw_all {pos : Pos} {env : Env} : ∀ {kws : List Keyword}, kws.all (·.arg.isSome) = true → (backToKw pos (keywordEach kws env)).all (·.1.isSome) = true ∧ (backToKw pos (keywordEach kws env)).any (·.1.isNone) = false ∧ (backToKw pos (keywordEach kws env)).filterMap (·.1) = kws.filterMap (·.arg)
  | [], _ => ⟨rfl, rfl, rfl⟩
  | ⟨nm, v, p⟩ :: kws, h => by
    rw [List.all_cons, Bool.and_eq_true] at h
    obtain ⟨h1, h2, h3⟩ := kw_all (pos := pos) (env := env) h.2
    cases nm with
    | none => cases h.1
    | some n =>
      refine ⟨?_, ?_, ?_⟩
      · show (true && (backToKw pos (keywordEach kws env)).all (·.1.isSome)) = true
        rw [h1]
        rfl
      · show (false || (backToKw pos (keywordEach kws env)).any (·.1.isNone)) = false
        rw [h2]
        rfl
      · show n :: (backToKw pos (keywordEach kws env)).filterMap (·.1) = n :: kws.filterMap (·.arg)
        rw [h3]
section
variable {X : Cx} {CX : CXT} {k n : Nat} {f C : Addr} {fd : FuncData} {ps ks : List Str} {sp : Sp} {E : XK} {x : Str} {p pos : Pos} {e : Expr} {es : List Expr} {kws : List Keyword} {t tk : TA} {g : List Value → List Value → List Value} {gV : List V → List V → List V}
theorem pe_cal (F : FnOk X.prog X.w X.K X.mg X.base CX k f fd ps sp) (hr : Room k X.A) (hg : Gl X x) (hm : X.mg x = some (.ref f)) (hk : PySem.W.keepIn X.K (.ref f) = true) (hb : KBn X.K fd ps n ks g gV) (hx : Passes CX X E)
    (ha : PA X (e :: es) t) (hkw : PK X kws tk) (hall : kws.all (·.arg.isSome) = true) (hks : kws.filterMap (·.arg) = ks) (hdb : (x == ("__debug__" : Str)) = false) (he : noStar e = true) (hs : es.all noStar = true) :
    PE X (.Call (.Name x p) (e :: es) kws pos) (tCallN n ks.length sp gV E t tk) := by
  obtain ⟨h1, h2, h3⟩ := kw_all (pos := pos) (env := X.env) hall
  refine pe_callN F hr hg hm hk hb hx ha hkw h1 (h3.trans hks) hdb (starEach_cons he) ?_
  rw [noStars (pos := pos) (env := X.env) (show (e :: es).all noStar = true by rw [List.all_cons, he, hs]; rfl), h2]
  rfl
theorem pe_cal0 (F : FnOk X.prog X.w X.K X.mg X.base CX k f fd ps sp) (hr : Room k X.A) (hg : Gl X x) (hm : X.mg x = some (.ref f)) (hk : PySem.W.keepIn X.K (.ref f) = true) (hb : KBn X.K fd ps 0 ks g gV) (hx : Passes CX X E)
    (hkw : PK X kws tk) (hall : kws.all (·.arg.isSome) = true) (hks : kws.filterMap (·.arg) = ks) (hdb : (x == ("__debug__" : Str)) = false) :
    PE X (.Call (.Name x p) [] kws pos) (tCallN 0 ks.length sp gV E tNil tk) := by
  obtain ⟨h1, h2, h3⟩ := kw_all (pos := pos) (env := X.env) hall
  refine ⟨fun pins s σ H Q I h => ?_⟩
  refine wpAny_Call_Name_kw (ld_glob I hg hm ?_ hdb)
  refine PySem.W.callWith_KW0 (h₀ := X.base) I.ok.mod.kin hk h1 ?_ (by rw [h2]; rfl)
  refine thn (hkw.run pos pins s σ H _ I h) fun ws s2 ⟨zs, H2, I2, rz, l1, l2, q2⟩ => ⟨I2.kIn, ?_⟩
  rw [h3.trans hks]
  exact run_fnN (us := []) (vs := []) F hr hb hx I2 .nil rz rfl l2 q2
theorem pe_mak (M : Mk X.K C f) (F : FnOk X.prog X.w X.K X.mg X.base CX k f fd ps sp) (hr : Room (k + 1) X.A) (hg : Gl X x) (hm : X.mg x = some (.ref C)) (hb : KBn X.K fd ps (n + 1) ks g gV) (hx : Passes CX X E)
    (ha : PA X (e :: es) t) (hkw : PK X kws tk) (hall : kws.all (·.arg.isSome) = true) (hks : kws.filterMap (·.arg) = ks) (hdb : (x == ("__debug__" : Str)) = false) (he : noStar e = true) (hs : es.all noStar = true) :
    PE X (.Call (.Name x p) (e :: es) kws pos) (tMakeN C n ks.length sp gV E t tk) := by
  obtain ⟨h1, h2, h3⟩ := kw_all (pos := pos) (env := X.env) hall
  refine pe_makeN M F hr hg hm hb hx ha hkw h1 (h3.trans hks) hdb (starEach_cons he) ?_
  rw [noStars (pos := pos) (env := X.env) (show (e :: es).all noStar = true by rw [List.all_cons, he, hs]; rfl), h2]
  rfl
theorem pe_mak0 (M : Mk X.K C f) (F : FnOk X.prog X.w X.K X.mg X.base CX k f fd ps sp) (hr : Room (k + 1) X.A) (hg : Gl X x) (hm : X.mg x = some (.ref C)) (hb : KBn X.K fd ps 1 ks g gV) (hx : Passes CX X E)
    (hkw : PK X kws tk) (hall : kws.all (·.arg.isSome) = true) (hks : kws.filterMap (·.arg) = ks) (hdb : (x == ("__debug__" : Str)) = false) :
    PE X (.Call (.Name x p) [] kws pos) (tMakeK C 0 ks.length sp gV E tNil tk) := by
  obtain ⟨h1, h2, h3⟩ := kw_all (pos := pos) (env := X.env) hall
  exact pe_makeK0 M F hr hg hm hb hx hkw h1 (h3.trans hks) hdb (by rw [h2]; rfl)
end

/-! ### how arguments go to parameters -/
def permV {α : Type} (pm : List Nat) (l : List α) : List α := pm.filterMap fun j => l[j]?
theorem permute_ok : ∀ {pm : List Nat} {ds l : List D}, permute pm ds = some l → l.length = pm.length ∧ ∀ (j a : Nat), pm[j]? = some a → l[j]? = ds[a]?
  | [], ds, l, h => by
    unfold permute at h
    rw [List.mapM_nil] at h
    cases h
    exact ⟨rfl, fun j a h => by simp at h⟩
  | a :: pm, ds, l, h => by
    unfold permute at h
    rw [List.mapM_cons] at h
    cases q : ds[a]? with
    | none => rw [q] at h; cases h
    | some d =>
      rw [q] at h
      cases q2 : permute pm ds with
      | none => unfold permute at q2; simp [q2] at h
      | some l2 =>
        obtain ⟨h1, h2⟩ := permute_ok q2
        unfold permute at q2
        simp [q2] at h
        subst h
        refine ⟨by rw [List.length_cons, List.length_cons, h1], fun j b hj => ?_⟩
        cases j with
        | zero =>
          simp at hj
          subst hj
          rw [q]
          rfl
        | succ j => simpa using h2 j b (by simpa using hj)
theorem permV_ok {α : Type} {l : List α} : ∀ {pm : List Nat}, (∀ a ∈ pm, a < l.length) → (permV pm l).length = pm.length ∧ ∀ (j a : Nat), pm[j]? = some a → (permV pm l)[j]? = l[a]?
  | [], _ => ⟨rfl, fun j a h => by simp at h⟩
  | b :: pm, h => by
    obtain ⟨h1, h2⟩ := permV_ok (l := l) (pm := pm) fun a ha => h a (List.mem_cons_of_mem _ ha)
    have hb := List.getElem?_eq_getElem (h b List.mem_cons_self)
    have e : permV (b :: pm) l = l[b]'(h b List.mem_cons_self) :: permV pm l := by
      unfold permV
      rw [List.filterMap_cons, hb]
    rw [e]
    refine ⟨by rw [List.length_cons, List.length_cons, h1], fun j a hj => ?_⟩
    cases j with
    | zero =>
      simp at hj
      subst hj
      rw [hb]
      rfl
    | succ j => simpa using h2 j a (by simpa using hj)
theorem permV_rel {pm : List Nat} {vs : List V} {us : List Value} (r : Vals vs us) : Vals (permV pm vs) (permV pm us) := by
  induction pm with
  | nil => exact .nil
  | cons a pm ih =>
    unfold permV
    rw [List.filterMap_cons, List.filterMap_cons]
    cases h : vs[a]? with
    | none =>
      rw [r.none_of h]
      exact ih
    | some v =>
      obtain ⟨u, h1, h2⟩ := r.get h
      rw [h1]
      exact .cons h2 ih
theorem fill_ok : ∀ {mu : List (Nat × Nat)} {ρ : Env'} {ds l : List D}, fill mu ρ ds = some l → (mu.map (·.1)).Nodup → l.length = ds.length ∧ (∀ q ∈ mu, Live ρ q.2) ∧ (∀ j, j ∉ mu.map (·.1) → l[j]? = ds[j]?) ∧ ∀ (j i : Nat), (j, i) ∈ mu → j < ds.length → l[j]? = (ρ[i]?).bind id
  | [], ρ, ds, l, h, _ => by
    rw [fill] at h
    cases h
    exact ⟨rfl, fun _ z => (nomatch z), fun _ _ => rfl, fun _ _ z => (nomatch z)⟩
  | (j0, i0) :: r, ρ, ds, l, h, nd => by
    rw [fill] at h
    split at h
    · rename_i d hd
      rw [List.map_cons] at nd
      obtain ⟨h1, h2, h3, h4⟩ := fill_ok h (List.nodup_cons.mp nd).2
      refine ⟨by rw [h1, List.length_set], fun q hq => ?_, fun j hj => ?_, fun j i hji hlt => ?_⟩
      · rcases List.mem_cons.mp hq with rfl | hq
        · exact ⟨d, hd⟩
        · exact h2 q hq
      · rw [h3 j fun z => hj (List.mem_cons_of_mem _ z), List.getElem?_set_ne]
        exact fun z => hj (by rw [← z]; exact List.mem_cons_self)
      · rcases List.mem_cons.mp hji with e | e
        · obtain ⟨rfl, rfl⟩ := Prod.mk.inj e
          rw [h3 _ (List.nodup_cons.mp nd).1, List.getElem?_set_self hlt, hd]
          rfl
        · exact h4 j i e (by rw [List.length_set]; exact hlt)
    · cases h
def argK : E → List (Option Nat)
  | .acons (.mref i) as => some i :: argK as
  | .acons _ as => none :: argK as
  | _ => []
/-- arguments that are values or lent slots -/
def plArgs : E → Bool
  | .anil => true
  | .acons a as => !isBor a && plArgs as
  | _ => false
/-- what a call's arguments must be like -/
def callOk (ms : List Nat) (np : Nat) (mp : List Nat) (as ks : E) (pm : List Nat) (mu : List (Nat × Nat)) : Bool :=
  plArgs as && plArgs ks && pm.length == np && mu.map (·.1) == mp && decide mp.Nodup && decide (mu.map (·.2)).Nodup &&
    (mu.all fun q => decide (q.2 ∈ ms) && (pm[q.1]?).bind (fun a => (argK as ++ argK ks)[a]?) == some (some q.2)) &&
    (List.range np).all fun j => decide (j ∈ mp) || (pm[j]?).bind (fun a => (argK as ++ argK ks)[a]?) == some none
section
variable {W : W0} {ms : List Nat} {e : Ent} {C : Calls} {X : Cx} {F F' H H' : Hp} {ρ ρ' : Env'} {σ : L2.St} {as ks : E} {ds es : List D} {vs zs : List V}
theorem argK_ref {a : E} (h : isRef a = false) : argK (.acons a as) = none :: argK as := by
  cases a <;> first | rfl | cases h
theorem PstAs.leF (m : W.Mono) (l : Le F F') : ∀ {as : E} {ds : List D} {vs : List V}, plArgs as = true → PstAs W ms as F ρ σ ds vs → PstAs W ms as F' ρ' σ ds vs
  | .anil, _, _, _, p => p
  | .acons a as, ds, vs, h, p => by
    obtain ⟨h1, h2⟩ := Bool.and_eq_true_iff.mp h
    cases hr : isRef a with
    | true =>
      cases a <;> first | (cases hr; done) | skip
      obtain ⟨v, r, ds', e1, e2, e3, e4, e5⟩ := p
      exact ⟨v, r, ds', e1, e2, e3, e4, PstAs.leF m l h2 e5⟩
    | false =>
      obtain ⟨d, ds', v, q, rfl, rfl, p1, p2⟩ := p.cons_inv hr
      have hb : isBor a = false := Bool.not_eq_true' _ |>.mp h1
      exact .cons hr (.of hb ((p1.rep hb).mono m l)) (PstAs.leF m l h2 p2)
  | .astar _ _, _, _, h, _ => by cases h
/-- one argument -/
theorem PstAs.at : ∀ {as : E} {ds : List D} {vs : List V}, plArgs as = true → PstAs W ms as F ρ σ ds vs → ds.length = (argK as).length ∧ vs.length = (argK as).length ∧ ∀ a : Nat, ((argK as)[a]? = some none → ∃ d v, ds[a]? = some d ∧ vs[a]? = some v ∧ Rep W F d v) ∧ ∀ i, (argK as)[a]? = some (some i) → i ∈ ms ∧ vs[a]? = (σ[i]?).bind id ∧ (σ[i]?).bind id ≠ none
  | .anil, _, _, _, p => by
    obtain ⟨rfl, rfl⟩ := p
    exact ⟨rfl, rfl, fun a => ⟨fun h => by simp [argK] at h, fun i h => by simp [argK] at h⟩⟩
  | .acons a as, ds, vs, h, p => by
    obtain ⟨h1, h2⟩ := Bool.and_eq_true_iff.mp h
    cases hr : isRef a with
    | true =>
      cases a <;> first | (cases hr; done) | skip
      rename_i i0
      obtain ⟨v, r, ds', rfl, rfl, e3, e4, e5⟩ := p
      obtain ⟨l1, l2, k⟩ := PstAs.at h2 e5
      refine ⟨by simp [argK, l1], by simp [argK, l2], fun b => ?_⟩
      cases b with
      | zero =>
        refine ⟨fun z => by simp [argK] at z, fun i z => ?_⟩
        simp [argK] at z
        subst z
        rw [e4]
        exact ⟨e3, rfl, fun z => nomatch z⟩
      | succ b =>
        obtain ⟨k1, k2⟩ := k b
        exact ⟨fun z => by simpa using k1 (by simpa [argK] using z), fun i z => by simpa using k2 i (by simpa [argK] using z)⟩
    | false =>
      obtain ⟨d, ds', v, q, rfl, rfl, p1, p2⟩ := p.cons_inv hr
      have hb : isBor a = false := Bool.not_eq_true' _ |>.mp h1
      obtain ⟨l1, l2, k⟩ := PstAs.at h2 p2
      rw [argK_ref hr]
      refine ⟨by simp [l1], by simp [l2], fun b => ?_⟩
      cases b with
      | zero => exact ⟨fun _ => ⟨d, v, rfl, rfl, p1.rep hb⟩, fun i z => by simp at z⟩
      | succ b =>
        obtain ⟨k1, k2⟩ := k b
        exact ⟨fun z => by simpa using k1 (by simpa using z), fun i z => by simpa using k2 i (by simpa using z)⟩
  | .astar _ _, _, _, h, _ => by cases h
/-- both lists -/
theorem PstAs.both (ha : plArgs as = true) (hk : plArgs ks = true) (p : PstAs W ms as F ρ σ ds vs) (q : PstAs W ms ks F ρ σ es zs) : (ds ++ es).length = (argK as ++ argK ks).length ∧ (vs ++ zs).length = (argK as ++ argK ks).length ∧
    ∀ a : Nat, ((argK as ++ argK ks)[a]? = some none → ∃ d v, (ds ++ es)[a]? = some d ∧ (vs ++ zs)[a]? = some v ∧ Rep W F d v) ∧ ∀ i, (argK as ++ argK ks)[a]? = some (some i) → i ∈ ms ∧ (vs ++ zs)[a]? = (σ[i]?).bind id ∧ (σ[i]?).bind id ≠ none := by
  obtain ⟨l1, l2, k1⟩ := p.at ha
  obtain ⟨l3, l4, k2⟩ := q.at hk
  refine ⟨by simp [l1, l3], by simp [l2, l4], fun a => ?_⟩
  by_cases h : a < (argK as).length
  · rw [List.getElem?_append_left h, List.getElem?_append_left (by rw [l1]; exact h), List.getElem?_append_left (by rw [l2]; exact h)]
    exact k1 a
  · rw [List.getElem?_append_right (by omega), List.getElem?_append_right (by omega), List.getElem?_append_right (by omega), l1, l2]
    exact k2 _
/-- the arguments as the callee asks for them -/
theorem args_ok (m : W.Mono) {np : Nat} {mp pm : List Nat} {mu : List (Nat × Nat)} {dsP dsF : List D} (r : Rel W ms e F ρ σ H) (hc : callOk ms np mp as ks pm mu = true) (p : PstAs W ms as F ρ σ ds vs) (q : PstAs W ms ks F ρ σ es zs)
    (hP : permute pm (ds ++ es) = some dsP) (hF : fill mu ρ dsP = some dsF) : ArgsOk W np mp F dsF (permV pm (vs ++ zs)) H ∧ (mu.map (·.2)).Nodup ∧ (∀ q ∈ mu, q.2 ∈ ms) ∧ (∀ q ∈ mu, Live ρ q.2) ∧ (∀ q ∈ mu, (permV pm (vs ++ zs))[q.1]? = (σ[q.2]?).bind id) ∧ (∀ (k j i : Nat), mu[k]? = some (j, i) → mp[k]? = some j) ∧
    ∀ j ∈ mp, ∃ i, (j, i) ∈ mu := by
  unfold callOk at hc
  simp only [Bool.and_eq_true, beq_iff_eq, decide_eq_true_eq, List.all_eq_true, Bool.or_eq_true, List.mem_range] at hc
  obtain ⟨⟨⟨⟨⟨⟨⟨hA, hK⟩, hlen⟩, hmp⟩, hnd⟩, hnd2⟩, hmu⟩, hfr⟩ := hc
  obtain ⟨lD, lV, at_⟩ := PstAs.both hA hK p q
  obtain ⟨lP, gP⟩ := permute_ok hP
  rw [← hmp] at hnd
  obtain ⟨lF, live, gF1, gF2⟩ := fill_ok hF hnd
  -- each place is taken from a place that is there
  have inr : ∀ (j a : Nat), pm[j]? = some a → a < (argK as ++ argK ks).length := fun j a hj => by
    by_cases z : j ∈ mp
    · rw [← hmp] at z
      obtain ⟨q0, hq, rfl⟩ := List.mem_map.mp z
      have := (hmu q0 hq).2
      rw [hj] at this
      exact (List.getElem?_eq_some_iff.mp this).1
    · have hlt : j < np := by rw [← hlen]; exact (List.getElem?_eq_some_iff.mp hj).1
      rcases hfr j hlt with h | h
      · exact absurd h z
      · rw [hj] at h
        exact (List.getElem?_eq_some_iff.mp h).1
  obtain ⟨lW, gW⟩ := permV_ok (l := vs ++ zs) (pm := pm) fun a ha => by
    obtain ⟨j, hj⟩ := List.getElem?_of_mem ha
    rw [lV]
    exact inr j a hj
  have slot : ∀ q0 ∈ mu, (permV pm (vs ++ zs))[q0.1]? = (σ[q0.2]?).bind id := fun q0 hq => by
    obtain ⟨hm, hk⟩ := hmu q0 hq
    cases hj : pm[q0.1]? with
    | none => rw [hj] at hk; cases hk
    | some a =>
      rw [hj] at hk
      rw [gW _ _ hj]
      exact ((at_ a).2 _ hk).2.1
  refine ⟨⟨by rw [lW, hlen], by rw [lF, lP, hlen], r.sub, r.tb, r.tf, fun j d v hj hd hv => ?_, fun j d hj hd => ?_, fun i j p hi hj hpi hpj => ?_⟩, hnd2, fun q0 hq => (hmu q0 hq).1, live, slot, fun k j i hk => ?_, fun j hj => ?_⟩
  · have hlt : j < np := by
      rw [← hlen, ← lP, ← lF]
      exact (List.getElem?_eq_some_iff.mp hd).1
    rcases hfr j hlt with h | h
    · exact absurd h hj
    · cases hp : pm[j]? with
      | none => rw [hp] at h; cases h
      | some a =>
        rw [hp] at h
        obtain ⟨d', v', e1, e2, e3⟩ := (at_ a).1 h
        rw [gF1 j (by rw [hmp]; exact hj), gP j a hp, e1] at hd
        rw [gW j a hp, e2] at hv
        cases hd
        cases hv
        exact e3
  · rw [← hmp] at hj
    obtain ⟨q0, hq, rfl⟩ := List.mem_map.mp hj
    have hlt : q0.1 < dsP.length := by
      rw [← lF]
      exact (List.getElem?_eq_some_iff.mp hd).1
    rw [gF2 q0.1 q0.2 hq hlt] at hd
    obtain ⟨d0, hd0⟩ := live q0 hq
    rw [hd0] at hd
    cases hd
    obtain ⟨p, e1, e2, e3, _⟩ := r.wri q0.2 _ (hmu q0 hq).1 hd0
    exact ⟨p, by rw [slot q0 hq, e1]; rfl, e2, e3⟩
  · rw [← hmp] at hi hj
    obtain ⟨q0, hq, rfl⟩ := List.mem_map.mp hi
    obtain ⟨q1, hq1, rfl⟩ := List.mem_map.mp hj
    rw [slot q0 hq] at hpi
    rw [slot q1 hq1] at hpj
    have b1 : ∀ {o : Option (Option V)} {x : V}, o.bind id = some x → o = some (some x) := fun {o x} h => by
      cases o with
      | none => cases h
      | some o => exact congrArg some h
    have e := r.inj q0.2 q1.2 p (hmu q0 hq).1 (hmu q1 hq1).1 (live q0 hq) (live q1 hq1) (b1 hpi) (b1 hpj)
    have : q0 = q1 := by
      obtain ⟨k0, h0⟩ := List.getElem?_of_mem hq
      obtain ⟨k1, h1⟩ := List.getElem?_of_mem hq1
      have g0 : (mu.map (·.2))[k0]? = some q0.2 := by rw [List.getElem?_map, h0]; rfl
      have g1 : (mu.map (·.2))[k1]? = some q0.2 := by rw [List.getElem?_map, h1, e]; rfl
      have := (List.getElem?_inj (List.getElem?_eq_some_iff.mp g0).1 hnd2).mp (g0.trans g1.symm)
      subst this
      rw [h0] at h1
      exact Option.some.inj h1
    rw [this]
  · rw [← hmp, List.getElem?_map, hk]
    rfl
  · rw [← hmp] at hj
    obtain ⟨q0, hq, rfl⟩ := List.mem_map.mp hj
    exact ⟨q0.2, hq⟩
theorem put_live {mu : List (Nat × Nat)} {os : List D} (hp : put mu os ρ = some ρ') (hl : ∀ q ∈ mu, Live ρ q.2) (i : Nat) (h : Live ρ' i) : Live ρ i := by
  obtain ⟨d, hd⟩ := h
  by_cases z : i ∈ mu.map (·.2)
  · obtain ⟨q, hq, rfl⟩ := List.mem_map.mp z
    exact hl q hq
  · rw [put_other hp z] at hd
    exact ⟨d, hd⟩
end

/-! ### the rules -/
structure Fns (W : W0) (P : Prog) (sigs : List Sig) (k : Nat) (pr : Program) (w : World) (K : PySem.W.Frag) (mg : Str → Option Value) (base : Heap) : Prop where
  fn : ∀ f Fn, P.fns[f]? = some Fn → ∃ fd ps, FnOk pr w K mg base CX0 (2 * k) (W.fnA f) fd ps (spD W P k f) ∧ PySem.W.keepIn K (.ref (W.fnA f)) = true ∧ ps.length = Fn.np ∧
    ∀ n ks pm, (f, n, ks, pm) ∈ sigs → KBn K fd ps n ks (fun us ws => permV pm (us ++ ws)) (fun vs zs => permV pm (vs ++ zs))
  cls : ∀ c cd, P.cls[c]? = some cd → Mk K (W.clA c) (W.fnA cd.ini) ∧ c < W.nC ∧ (W.flN c).length = cd.flds ∧ ∃ Fn, P.fns[cd.ini]? = some Fn ∧ Fn.mp = [0] ∧ Fn.own = false
section
variable {W : W0} {P : Prog} {sigs : List Sig} {k : Nat} {ms : List Nat} {e : Ent} {X : Cx} {pos pos' : Pos} {x : Expr} {es : List Expr} {kws : List Keyword} {as ks : E} {f c : Nat} {n : Str} {kn : List Str} {pm : List Nat} {mu : List (Nat × Nat)} {Fn : FnD}
theorem call_imp (o : Ok W X) (hF : P.fns[f]? = some Fn) (hc : callOk ms Fn.np Fn.mp as ks pm mu = true) {m1 m2 : Nat} (h1 : m1 = (argK as).length) (h2 : m2 = (argK ks).length) (Res : Hp → Env' → L2.St → Hp → D → V → Prop)
    (hres : ∀ {F2 H2 F' H' ρ2 ρ' d v} {σ : L2.St}, Rel W ms e F2 ρ2 σ H2 → Rel W ms e F' ρ' σ H' → (∀ i, Live ρ' i → Live ρ2 i) → Ret W Fn.own H2 F' H' d v → Res F' ρ' σ H' d v) (σ : L2.St) (H : Hp) (Q : VK)
    (h : ∃ F ρ d ρ', Rel W ms e F ρ σ H ∧ ev (calls P k) (.call f as ks pm mu) ρ = .ok (d, ρ') ∧ ∀ v F' H', Le F F' → Rel W ms e F' ρ' σ H' → Res F' ρ' σ H' d v → Q v H') :
    tCallN m1 m2 (spD W P k f) (fun vs zs => permV pm (vs ++ zs)) E0 (tA W ms e (calls P k) as) (tA W ms e (calls P k) ks) σ H Q := by
  obtain ⟨F, ρ, d, ρ', r, h, kk⟩ := h
  rw [ev] at h
  obtain ⟨p, g1, h⟩ := R.bind_ok h
  obtain ⟨q, g2, h⟩ := R.bind_ok h
  split at h
  · rename_i dsP hP
    split at h
    · rename_i dsF hF'
      obtain ⟨res, g3, h⟩ := R.bind_ok h
      split at h
      · rename_i ρ2 hput
        cases h
        refine ⟨F, ρ, p.1, p.2, r, g1, fun vs F1 H1 l1 r1 p1 => ⟨F1, p.2, q.1, q.2, r1, g2, fun zs F2 H2 l2 r2 p2 => ?_⟩⟩
        have hA : plArgs as = true ∧ plArgs ks = true := by
          unfold callOk at hc
          simp only [Bool.and_eq_true] at hc
          exact ⟨hc.1.1.1.1.1.1.1, hc.1.1.1.1.1.1.2⟩
        have p1' := p1.leF (ρ' := q.2) o.m l2 hA.1
        obtain ⟨a1, a2, a3, a4, a5, a6, a7⟩ := args_ok o.m r2 hc p1' p2 hP hF'
        refine ⟨by rw [h1]; exact (p1'.at hA.1).2.1, by rw [h2]; exact (p2.at hA.2).2.1, Fn, F2, dsF, res.1, res.2, hF, a1, raw_call g3, fun v F' H' A' R' => ?_⟩
        have r3 := r2.call o.m a2 a3 a4 a5 a6 (fun j hj a ha => .inl (a7 j hj)) A' (fun k d h => h) hput
        exact kk v F' H' (l1.trans (l2.trans A'.le)) r3 (hres r2 r3 (put_live hput a4) R')
      · cases h
    · cases h
  · cases h
theorem isFwd {b : Bool} (h : b = false) : ¬ b = true := by rw [h]; exact Bool.false_ne_true
theorem s_call (o : Ok W X) (S : Fns W P sigs k X.prog X.w X.K X.mg X.base) (hr : Room (2 * k) X.A) (hF : P.fns[f]? = some Fn) (how : Fn.own = false) (hsig : (f, es.length, kn, pm) ∈ sigs) (hg : Gl X n) (hm : X.mg n = some (.ref (W.fnA f))) (hd : (n == ("__debug__" : Str)) = false)
    (hc : callOk ms Fn.np Fn.mp as ks pm mu = true) (ha : PA X es (tA W ms e (calls P k) as)) (hk : PK X kws (tA W ms e (calls P k) ks)) (hs : es.all noStar = true) (hall : kws.all (·.arg.isSome) = true) (hkn : kws.filterMap (·.arg) = kn) (hl : es.length = (argK as).length) (hl2 : kn.length = (argK ks).length) :
    PE X (.Call (.Name n pos) es kws pos') (tE W ms e (calls P k) (.call f as ks pm mu)) := by
  obtain ⟨fd, ps, F1, F2, _, F3⟩ := S.fn f Fn hF
  have key := fun σ H Q z => call_imp (k := k) (P := P) (ms := ms) (e := e) o hF hc hl hl2 (fun F' ρ' σ H' d v => Rep W F' d v) (fun {F2 H2 F' H' ρ2 ρ' d v σ} _ _ _ R' => by rw [how] at R'; exact R') σ H Q z
  cases es with
  | cons y ys =>
    rw [List.all_cons, Bool.and_eq_true] at hs
    exact (pe_cal F1 hr hg hm F2 (F3 _ _ _ hsig) pass0 ha hk hall hkn hd hs.1 hs.2).imp key
  | nil =>
    refine (pe_cal0 F1 hr hg hm F2 (F3 _ _ _ hsig) pass0 hk hall hkn hd).imp fun σ H Q z => ?_
    have t := key σ H Q z
    obtain ⟨F, ρ, ds, ρ', r, h, q⟩ := t
    cases as with
    | anil =>
      rw [evs] at h
      cases h
      exact q [] F H (.refl _) r ⟨rfl, rfl⟩
    | acons a as => cases a <;> simp [argK] at hl
    | astar a as => unfold callOk at hc; simp [plArgs] at hc
    | _ => unfold callOk at hc; simp [plArgs] at hc
theorem s_callO (o : Ok W X) (S : Fns W P sigs k X.prog X.w X.K X.mg X.base) (hr : Room (2 * k) X.A) (hF : P.fns[f]? = some Fn) (how : Fn.own = true) (hsig : (f, es.length, kn, pm) ∈ sigs) (hg : Gl X n) (hm : X.mg n = some (.ref (W.fnA f))) (hd : (n == ("__debug__" : Str)) = false)
    (hc : callOk ms Fn.np Fn.mp as ks pm mu = true) (ha : PA X es (tA W ms e (calls P k) as)) (hk : PK X kws (tA W ms e (calls P k) ks)) (hs : es.all noStar = true) (hall : kws.all (·.arg.isSome) = true) (hkn : kws.filterMap (·.arg) = kn) (hl : es.length = (argK as).length) (hl2 : kn.length = (argK ks).length) :
    PE X (.Call (.Name n pos) es kws pos') (tO W ms e (calls P k) (.call f as ks pm mu)) := by
  obtain ⟨fd, ps, F1, F2, _, F3⟩ := S.fn f Fn hF
  have key := fun σ H Q z => call_imp (k := k) (P := P) (ms := ms) (e := e) o hF hc hl hl2 (fun F' ρ' σ H' d v => OwnV W ms e F' ρ' σ H' d v) (fun {F2 H2 F' H' ρ2 ρ' d v σ} r2 r3 hlv R' => by rw [how] at R'; exact ret_own o.m r2 r3 hlv R') σ H Q z
  cases es with
  | cons y ys =>
    rw [List.all_cons, Bool.and_eq_true] at hs
    exact (pe_cal F1 hr hg hm F2 (F3 _ _ _ hsig) pass0 ha hk hall hkn hd hs.1 hs.2).imp key
  | nil =>
    refine (pe_cal0 F1 hr hg hm F2 (F3 _ _ _ hsig) pass0 hk hall hkn hd).imp fun σ H Q z => ?_
    have t := key σ H Q z
    obtain ⟨F, ρ, ds, ρ', r, h, q⟩ := t
    cases as with
    | anil =>
      rw [evs] at h
      cases h
      exact q [] F H (.refl _) r ⟨rfl, rfl⟩
    | acons a as => cases a <;> simp [argK] at hl
    | astar a as => unfold callOk at hc; simp [plArgs] at hc
    | _ => unfold callOk at hc; simp [plArgs] at hc

/-! ### new instances, properties -/
theorem permV_shift {α : Type} {u : α} {l : List α} {pm : List Nat} : permV (0 :: pm.map (· + 1)) (u :: l) = u :: permV pm l := by
  unfold permV
  rw [List.filterMap_cons]
  show u :: List.filterMap _ _ = _
  rw [List.filterMap_map]
  rfl
def newOk (as ks : E) (pm : List Nat) : Bool := plArgs as && plArgs ks && (argK as ++ argK ks).all (· == none) && pm.all (fun a => decide (a < (argK as ++ argK ks).length))
theorem raw_len {ds : List D} {r : D × List D} (hF : P.fns[f]? = some Fn) (h : raw P k f ds = .ok r) : ds.length = Fn.np := by
  cases k with
  | zero => cases h
  | succ k =>
    have h : (match P.fns[f]? with
        | some F => if ds.length = F.np then (run (calls P k) F.body (entry F.sz ds)).bind fun fl => endOf F.own F.mp fl else .bad
        | none => .bad) = R.ok r := h
    rw [hF] at h
    have h : (if ds.length = Fn.np then (run (calls P k) Fn.body (entry Fn.sz ds)).bind fun fl => endOf Fn.own Fn.mp fl else .bad) = R.ok r := h
    split at h
    · assumption
    · cases h
theorem new_imp (o : Ok W X) {cd : ClD} (hcd : P.cls[c]? = some cd) (hF : P.fns[cd.ini]? = some Fn) (hmp : Fn.mp = [0]) (how : Fn.own = false) (hn : c < W.nC) (hfl : (W.flN c).length = cd.flds) (hc : newOk as ks pm = true) {m1 m2 : Nat} (h1 : m1 = (argK as).length) (h2 : m2 = (argK ks).length) (σ : L2.St) (H : Hp) (Q : VK)
    (h : tE W ms e (calls P k) (.new c as ks pm) σ H Q) : tA W ms e (calls P k) as σ H fun vs H1 => tA W ms e (calls P k) ks σ H1 fun zs H2 => vs.length = m1 ∧ zs.length = m2 ∧
      ∀ x dx, H2 x = none → H2 dx = none → dx ≠ x → spD W P k cd.ini (permV (0 :: pm.map (· + 1)) ((.ref x :: vs) ++ zs)) (upd (upd H2 dx (.own x)) x (.ins (W.clA c) dx [])) (fun v H3 => v = .non ∧ Q (.ref x) H3) E0 := by
  obtain ⟨F, ρ, d, ρ', r, h, kk⟩ := h
  rw [ev] at h
  obtain ⟨p, g1, h⟩ := R.bind_ok h
  obtain ⟨q, g2, h⟩ := R.bind_ok h
  split at h
  · rename_i dsP hP
    obtain ⟨d0, g3, h⟩ := R.bind_ok h
    cases h
    obtain ⟨cd', Fn', es, c1, c2, rfl, c4, c5⟩ := raw_new g3
    rw [hcd] at c1
    cases c1
    rw [hF] at c2
    cases c2
    have c5 := c5 hmp how
    simp only [newOk, Bool.and_eq_true, List.all_eq_true, decide_eq_true_eq, beq_iff_eq] at hc
    obtain ⟨⟨⟨hA, hK⟩, hno⟩, hin⟩ := hc
    refine ⟨F, ρ, p.1, p.2, r, g1, fun vs F1 H1 l1 r1 p1 => ⟨F1, p.2, q.1, q.2, r1, g2, fun zs F2 H2 l2 r2 p2 => ?_⟩⟩
    have p1' := p1.leF (ρ' := q.2) o.m l2 hA
    obtain ⟨lD, lV, at_⟩ := PstAs.both hA hK p1' p2
    obtain ⟨lP, gP⟩ := permute_ok hP
    obtain ⟨lW, gW⟩ := permV_ok (l := vs ++ zs) (pm := pm) fun a ha => by rw [lV]; exact hin a ha
    refine ⟨by rw [h1]; exact (p1'.at hA).2.1, by rw [h2]; exact (p2.at hK).2.1, fun x dx hx hdx hne => ?_⟩
    have e0 : (V.ref x :: vs) ++ zs = V.ref x :: (vs ++ zs) := rfl
    rw [e0, permV_shift]
    obtain ⟨nl, hx0, hFx⟩ := r2.fresh_out hx
    have r3 := (r2.step o.m (Step.side r2.sub (.own x) hdx))
    have hx' : upd H2 dx (.own x) x = none := by rw [upd_ne (Ne.symm hne)]; exact hx
    have r4 := r3.step o.m (Step.side r3.sub (.ins (W.clA c) dx []) hx')
    have A0 : ArgsOk W Fn.np Fn.mp F2 (.obj c [] :: dsP) (.ref x :: permV pm (vs ++ zs)) (upd (upd H2 dx (.own x)) x (.ins (W.clA c) dx [])) := by
      rw [hmp]
      refine ⟨?_, raw_len hF c5, r4.sub, r4.tb, r4.tf, fun j d v hj hd hv => ?_, fun j d hj hd => ?_, fun i j p hi hj _ _ => by rw [List.mem_singleton.mp hi, List.mem_singleton.mp hj]⟩
      · rw [← raw_len hF c5, List.length_cons, List.length_cons, lW, lP]
      · cases j with
        | zero => exact absurd (List.mem_singleton.mpr rfl) hj
        | succ j =>
          have hd : dsP[j]? = some d := by simpa using hd
          have hv : (permV pm (vs ++ zs))[j]? = some v := by simpa using hv
          cases hp : pm[j]? with
          | none =>
            have : dsP.length ≤ j := by
              rw [lP]
              exact List.getElem?_eq_none_iff.mp hp
            rw [List.getElem?_eq_none this] at hd
            cases hd
          | some a =>
            have ha : a < (argK as ++ argK ks).length := hin a (List.mem_of_getElem? hp)
            obtain ⟨z, hz⟩ := len_lt ha
            have hz0 := hno z (List.mem_of_getElem? hz)
            subst hz0
            obtain ⟨d', v', e1, e2, e3⟩ := (at_ a).1 hz
            rw [gP j a hp, e1] at hd
            rw [gW j a hp, e2] at hv
            cases hd
            cases hv
            exact e3
      · rw [List.mem_singleton.mp hj] at hd ⊢
        cases hd
        exact ⟨x, rfl, hFx, .inr ⟨c, dx, [], [], rfl, by rw [List.zip_nil_right]; exact upd_same, hn, Nat.zero_le _, .nil⟩⟩
    refine ⟨Fn, F2, _, _, _, hF, A0, c5, fun v F' H' A' R' => ?_⟩
    rw [how] at R'
    have R' : Rep W F' .non v := R'
    refine ⟨R'.non_inv, ?_⟩
    have r5 := r4.call (ρ' := q.2) (mu := []) (os := []) o.m List.nodup_nil (fun _ z => nomatch z) (fun _ z => nomatch z) (fun _ z => nomatch z) (fun k j i z => by simp at z) (fun j hj a ha => by
      rw [hmp] at hj
      rw [List.mem_singleton.mp hj] at ha
      cases ha
      exact .inr ⟨.inl hx0, nl⟩) A' (fun k d z => by simp at z) rfl
    obtain ⟨z1, z2⟩ := A'.mutd 0 0 (.obj c es) x (by rw [hmp]; rfl) rfl rfl
    rcases z2 with ⟨_, _, z2, _⟩ | ⟨c', dx', es', us, z2, z3, z4, z5, z6⟩
    · cases z2
    · cases z2
      have r6 := r5.freeze o.m (fun _ z => by cases z) z3 z1 (.inl hx0) nl
      refine kk _ _ H' (l1.trans (l2.trans (A'.le.trans (Le.upd z1)))) r6 ?_
      unfold Rep
      refine ⟨x, dx', us, rfl, upd_same, ?_, hn, z6.mono o.m (Le.upd z1)⟩
      rw [z6.length, c4, hfl]
  · cases h
theorem s_new (o : Ok W X) (S : Fns W P sigs k X.prog X.w X.K X.mg X.base) (hr : Room (2 * k + 1) X.A) {cd : ClD} (hcd : P.cls[c]? = some cd) (hsig : (cd.ini, es.length + 1, kn, 0 :: pm.map (· + 1)) ∈ sigs) (hg : Gl X n) (hm : X.mg n = some (.ref (W.clA c))) (hd : (n == ("__debug__" : Str)) = false)
    (hc : newOk as ks pm = true) (ha : PA X es (tA W ms e (calls P k) as)) (hk : PK X kws (tA W ms e (calls P k) ks)) (hs : es.all noStar = true) (hall : kws.all (·.arg.isSome) = true) (hkn : kws.filterMap (·.arg) = kn) (hl : es.length = (argK as).length) (hl2 : kn.length = (argK ks).length) :
    PE X (.Call (.Name n pos) es kws pos') (tE W ms e (calls P k) (.new c as ks pm)) := by
  obtain ⟨M, hn, hfl, Fn, hF, hmp, how⟩ := S.cls c cd hcd
  obtain ⟨fd, ps, F1, F2, _, F3⟩ := S.fn cd.ini Fn hF
  have key := fun σ H Q z => new_imp (k := k) (P := P) (ms := ms) (e := e) o hcd hF hmp how hn hfl hc hl hl2 σ H Q z
  cases es with
  | cons y ys =>
    rw [List.all_cons, Bool.and_eq_true] at hs
    exact (pe_mak M F1 hr hg hm (F3 _ _ _ hsig) pass0 ha hk hall hkn hd hs.1 hs.2).imp key
  | nil =>
    refine (pe_mak0 M F1 hr hg hm (F3 _ _ _ hsig) pass0 hk hall hkn hd).imp fun σ H Q z => ?_
    have t := key σ H Q z
    obtain ⟨F, ρ, ds, ρ', r, h, q⟩ := t
    cases as with
    | anil =>
      rw [evs] at h
      cases h
      exact q [] F H (.refl _) r ⟨rfl, rfl⟩
    | acons a as => cases a <;> simp [argK] at hl
    | astar a as => simp [newOk, plArgs] at hc
    | _ => simp [newOk, plArgs] at hc
theorem s_prop (o : Ok W X) (S : Fns W P sigs k X.prog X.w X.K X.mg X.base) (hC : ∀ c, c < W.nC → ClF W c) (hr : Room (2 * k + 1) X.A) {kk : Nat} (hat : P.at_ c kk = some (.prop f)) (hF : P.fns[f]? = some Fn) (hnp : Fn.np = 1) (hmp : Fn.mp = []) (how : Fn.own = false) (hsig : (f, 1, [], [0]) ∈ sigs)
    {pa : Addr} (hp : PropOf X.K (W.clA c) n pa (W.fnA f)) (hcn : c < W.nC) {a : E} (ha : PE X x (tE W ms e (calls P k) a)) (hb : plainBase x = true) : PE X (.Attribute x n pos) (tE W ms e (calls P k) (.get a c kk)) := by
  obtain ⟨fd, ps, F1, F2, F4, F3⟩ := S.fn f Fn hF
  have KB := F3 _ _ _ hsig
  have hcl : Cls X.K (W.clA c) := by rw [o.k]; exact (hC c hcn).cl
  have B : Binds X.K fd ps [] := fun s us hK hl => by
    rw [List.append_nil] at hl ⊢
    have hl1 : us.length = 1 := by rw [hl, F4, hnp]
    match us, hl1 with
    | [u], _ => exact KB.to s [u] [] hK rfl rfl
  refine (pe_prop (E := E0) ha hcl hp F1 hr B .nil pass0 (base_ok hb)).imp fun σ H Q ⟨F, ρ, d, ρ', r, h, q⟩ => ?_
  rw [ev] at h
  obtain ⟨p, h1, h⟩ := R.bind_ok h
  refine ⟨F, ρ, p.1, p.2, r, h1, fun v F1 H1 l1 r1 p1 => ?_⟩
  split at h
  · rename_i c' ds hp'
    split at h
    · rename_i hcc
      subst hcc
      have hat' : (calls P k).at_ c' kk = some (.prop f) := by
        cases k <;> exact hat
      rw [hat'] at h
      simp only at h
      obtain ⟨rs, h2, h⟩ := R.bind_ok h
      cases h
      rw [hp'] at p1
      have p1c := p1
      obtain ⟨q1, dx, vs, rfl, e1, e2, e3, e4⟩ := p1.obj_inv
      refine ⟨q1, dx, _, rfl, r1.sub _ _ e1, Fn, F1, [.obj c' ds], rs.1, rs.2, hF, ?_, raw_call h2, fun v F' H' A' R' => ?_⟩
      · rw [hnp, hmp]
        refine ⟨rfl, rfl, r1.sub, r1.tb, r1.tf, fun j d v _ hd hv => ?_, fun j d hj _ => (nomatch hj), fun i j p hi _ _ _ => (nomatch hi)⟩
        cases j with
        | zero =>
          cases hd
          cases hv
          exact p1c
        | succ j => simp at hd
      · rw [how] at R'
        have r2 := r1.call (ρ' := p.2) (mu := []) (os := []) o.m List.nodup_nil (fun _ z => nomatch z) (fun _ z => nomatch z) (fun _ z => nomatch z) (fun k j i z => by simp at z) (fun j hj a ha => by
          rw [hmp] at hj
          cases hj) A' (fun k d z => by simp at z) rfl
        exact q v F' H' (l1.trans A'.le) r2 R'
    · cases h
  · cases h
end
end Pu

set_option Elab.async false
set_option linter.all false
set_option maxRecDepth 100000
set_option maxHeartbeats 2000000
set_option autoImplicit false
/-! Pu, R: lambdas with parameters, handed to a def. -/
namespace Pu
open PySem PySem.Spec PyProof.Rows L2
open LamX (CodeO)

/-- the function's object -/
def LamO (f : Addr) (L : LamI) (cl : List (Str × Addr)) (c' : Addr) : HO := .ext fun h => ∃ pm ctv, h.get? f = some (PySem.W.kla_obj "<lambda>" L.q L.params L.body L.scope cl pm c' ctv)
/-- a cell that is known to the object -/
def CellO (c : Addr) (o : Obj) : HO := .frz o (.ext fun h => h.get? c = some o)
abbrev Cells := List (Addr × Obj)
def addC (os : Cells) (H : Hp) : Hp := fun a => match os.lookup a with
  | some o => some (CellO a o)
  | none => H a
def subC (os : Cells) (H : Hp) : Hp := fun a => match os.lookup a with
  | some _ => none
  | none => H a
section
variable {os : Cells} {H H' F : Hp} {a : Addr} {o : Obj}
theorem addC_in (h : os.lookup a = some o) : addC os H a = some (CellO a o) := by
  unfold addC
  rw [h]
theorem addC_out (h : os.lookup a = none) : addC os H a = H a := by
  unfold addC
  rw [h]
theorem subC_in (h : os.lookup a = some o) : subC os H a = none := by
  unfold subC
  rw [h]
theorem subC_out (h : os.lookup a = none) : subC os H a = H a := by
  unfold subC
  rw [h]
theorem subC_some {u : HO} (h : subC os H a = some u) : os.lookup a = none ∧ H a = some u := by
  cases q : os.lookup a with
  | none => rw [subC_out q] at h; exact ⟨rfl, h⟩
  | some o => rw [subC_in q] at h; cases h
theorem subC_le : Le (subC os H) H := fun a u h => (subC_some h).2
/-- the heap with cells that are known: nothing else is touched -/
theorem hok_sub {P : Program} {w : World} {h : Heap} (x : HOk P w H h) (hc : ∀ a o, os.lookup a = some o → H a = some (CellO a o)) : HOk P w (subC os H) h := fun a u e => by
  obtain ⟨n, e2⟩ := subC_some e
  refine (x a u e2).stay (fun b v _ z => z) (fun b z => ?_) fun b xs z => ?_
  · cases q : os.lookup b with
    | none => rw [subC_out q]; exact z
    | some o => rw [hc b o q] at z; cases z
  · cases q : os.lookup b with
    | none => rw [subC_out q]; exact z
    | some o => rw [hc b o q] at z; cases z
theorem hok_add {P : Program} {w : World} {h : Heap} (x : HOk P w H h) (hn : ∀ a o, os.lookup a = some o → H a = none) (hg : ∀ a o, os.lookup a = some o → h.get? a = some o) : HOk P w (addC os H) h := fun a u e => by
  cases q : os.lookup a with
  | some ob =>
    rw [addC_in q] at e
    cases e
    have g := hg a ob q
    exact ⟨g, g, ⟨ob, g⟩, fun h1 h2 z k => k _ z⟩
  | none =>
    rw [addC_out q] at e
    refine (x a u e).stay (fun b v _ z => z) (fun b z => ?_) fun b xs z => ?_
    · cases q : os.lookup b with
      | none => rw [addC_out q]; exact z
      | some o => rw [hn b o q] at z; cases z
    · cases q : os.lookup b with
      | none => rw [addC_out q]; exact z
      | some o => rw [hn b o q] at z; cases z
variable {P : Program} {w : World} {K : PySem.W.Frag} {mg : Str → Option Value} {base : Heap} {A : Around} {outer : List Env} {s s' : Shared} {u : Value} {Q Q' : VK}
theorem env0_sub (e : Env0 P w K mg base A outer s H) (hc : ∀ a o, os.lookup a = some o → H a = some (CellO a o)) : Env0 P w K mg base A outer s (subC os H) :=
  ⟨e.frames, e.mod, fun b o z => ⟨(e.bs b o z).1, by
    cases q : os.lookup b with
    | none => rw [subC_out q]; exact (e.bs b o z).2
    | some o => exact subC_in q⟩, e.bsz, e.funs, fun b z => by
    cases q : os.lookup b with
    | none => rw [subC_out q]; exact e.frf b z
    | some o => exact subC_in q, hok_sub e.hok hc, e.bare⟩
theorem env0_add (e : Env0 P w K mg base A outer s H) (hn : ∀ a o, os.lookup a = some o → H a = none ∧ s.heap.get? a = some o ∧ base.get? a = none ∧ a ∉ frs outer) : Env0 P w K mg base A outer s (addC os H) :=
  ⟨e.frames, e.mod, fun b o z => ⟨(e.bs b o z).1, by
    cases q : os.lookup b with
    | none => rw [addC_out q]; exact (e.bs b o z).2
    | some ob => rw [(hn b ob q).2.2.1] at z; cases z⟩, e.bsz, e.funs, fun b z => by
    cases q : os.lookup b with
    | none => rw [addC_out q]; exact e.frf b z
    | some ob => exact absurd z (hn b ob q).2.2.2, hok_add e.hok (fun a o z => (hn a o z).1) fun a o z => (hn a o z).2.1, e.bare⟩
theorem ext_at {h : Heap} (x : HOk P w H h) (e : H a = some (CellO a o)) : h.get? a = some o := (x a _ e).1
/-- cells that were hidden from a callee are shown again -/
theorem ce_add (e0 : Env0 P w K mg base A outer s H) (hc : ∀ a o, os.lookup a = some o → H a = some (CellO a o)) (h : CE outer P w (subC os H) s Q u s') (k : ∀ v H', Q v H' → (∀ a o, os.lookup a = some o → H' a = none) → Q' v (addC os H')) : CE outer P w H s Q' u s' := by
  obtain ⟨v, H', e1, e2, un, hok, rv, q⟩ := h
  have old : ∀ a o, os.lookup a = some o → s.heap.get? a = some o := fun a o z => ext_at e0.hok (hc a o z)
  have nf : ∀ a o, os.lookup a = some o → a ∉ frs outer := fun a o z w => by
    have := e0.frf a w
    rw [hc a o z] at this
    cases this
  have gone : ∀ a o, os.lookup a = some o → H' a = none := fun a o z => un.free a o (old a o z) (subC_in z) (fun y => nomatch (show a ∈ ([] : List Addr) from y))
  have kept : ∀ a o, os.lookup a = some o → s'.heap.get? a = some o := fun a o z => un.keep a o (old a o z) (subC_in z) (nf a o z) (fun y => nomatch (show a ∈ ([] : List Addr) from y))
  have look : ∀ b u, H b = some u → (∀ a o, u ≠ CellO a o) → os.lookup b = none := fun b u z n => by
    cases q : os.lookup b with
    | none => rfl
    | some o =>
      rw [hc b o q] at z
      exact absurd (Option.some.inj z).symm (n b o)
  have look0 : ∀ b, H b = none → os.lookup b = none := fun b z => by
    cases q : os.lookup b with
    | none => rfl
    | some o => rw [hc b o q] at z; cases z
  refine ⟨v, addC os H', e1, e2, ⟨fun b o g n hf hx => un.keep b o g (by rw [subC_out (look0 b n)]; exact n) hf hx, fun b o g n hf hx => un.slot b o g (by rw [subC_out (look0 b n)]; exact n) hf hx, fun b o g n hx => ?_, un.there, fun b xs z => ?_, fun b ob w' z => ?_, fun b ps z => ?_⟩, hok_add hok gone kept, rv, k v H' q gone⟩
  · rw [addC_out (look0 b n)]
    exact un.free b o g (by rw [subC_out (look0 b n)]; exact n) hx
  · have l := look b _ z (fun _ _ y => by cases y)
    rw [addC_out l]
    exact un.tups b xs (by rw [subC_out l]; exact z)
  · cases l : os.lookup b with
    | none =>
      rw [addC_out l]
      exact un.frzs b ob w' (by rw [subC_out l]; exact z)
    | some o2 =>
      rw [hc b o2 l] at z
      rw [addC_in l]
      exact z
  · have l := look b _ z (fun _ _ y => by cases y)
    rw [addC_out l]
    exact un.tbls b ps (by rw [subC_out l]; exact z)
/-- cells that were shown to a callee are hidden again -/
theorem ce_sub (e0 : Env0 P w K mg base A outer s H) (hn : ∀ a o, os.lookup a = some o → H a = none ∧ s.heap.get? a = some o ∧ base.get? a = none ∧ a ∉ frs outer) (h : CE outer P w (addC os H) s Q u s') (k : ∀ v H', Q v H' → (∀ a o, os.lookup a = some o → H' a = some (CellO a o)) ∧ Q' v (subC os H')) : CE outer P w H s Q' u s' := by
  obtain ⟨v, H', e1, e2, un, hok, rv, q⟩ := h
  obtain ⟨kc, q'⟩ := k v H' q
  have look : ∀ b u, H b = some u → os.lookup b = none := fun b u z => by
    cases q : os.lookup b with
    | none => rfl
    | some o => rw [(hn b o q).1] at z; cases z
  refine ⟨v, subC os H', e1, e2, ⟨fun b o g n hf hx => ?_, fun b o g n hf hx => ?_, fun b o g n hx => ?_, un.there, fun b xs z => ?_, fun b ob w' z => ?_, fun b ps z => ?_⟩, hok_sub hok kc, rv, q'⟩
  · cases l : os.lookup b with
    | none => exact un.keep b o g (by rw [addC_out l]; exact n) hf hx
    | some ob =>
      rw [(hn b ob l).2.1] at g
      cases g
      exact ext_at hok (kc b _ l)
  · cases l : os.lookup b with
    | none => exact un.slot b o g (by rw [addC_out l]; exact n) hf hx
    | some ob => exact absurd hf (hn b ob l).2.2.2
  · cases l : os.lookup b with
    | none =>
      rw [subC_out l]
      exact un.free b o g (by rw [addC_out l]; exact n) hx
    | some ob => exact subC_in l
  · rw [subC_out (look b _ z)]
    exact un.tups b xs (by rw [addC_out (look b _ z)]; exact z)
  · rw [subC_out (look b _ z)]
    exact un.frzs b ob w' (by rw [addC_out (look b _ z)]; exact z)
  · rw [subC_out (look b _ z)]
    exact un.tbls b ps (by rw [addC_out (look b _ z)]; exact z)
end

/-! ### a lambda is made -/
theorem lam_new {X : Cx} {pins : List (Addr × Obj)} {σ : L2.St} {H : Hp} {s : Shared} {T : List NdefX.NTab} {nm : Nat → Nat → Str} {c P : Addr} {L : LamI} {pos : Pos} {E : Value → Shared → Prop} {Q : Value → Shared → Prop} (I : Inv X pins σ H s) (TB : LamX.TabB X.base X.mg c P) (hcode : X.env.code = .ref c)
    (hq : L.q = X.env.qual ++ "<lambda>") (hm : (P, nm) ∈ T) (hnm : nm pos.line pos.col = L.q) (hu : ∀ p ∈ T, p.1 = P → p.2 = nm) (hT : NdefX.TabsN T H) (hdef : defaultsOf L.params X.env = ([], [])) (hfree : ∀ y ∈ L.scope.names, y.2 = .free → ∃ c, X.env.cells.lookup y.1 = some c)
    (h : ∀ (f c' : Addr) (H1 : Hp) (s' : Shared), Inv X pins σ H1 s' → (∀ b o, b ≠ P → H b = some o → H1 b = some o) → (∀ b, H1 b = none → H b = none) → NdefX.TabsN T H1 → H f = none → f ≠ c' → (H c' = none ∨ H c' = some (CodeO c' L.q)) → H1 f = some (LamO f L (cloFrom X.env.cells L.scope.names []) c') → H1 c' = some (CodeO c' L.q) → Q (.ref f) s') :
    wpAny (model X.prog X.w) X.A (eval (.Lambda L.params L.body L.scope pos) X.env) Q E s := by
  obtain ⟨ps, hP, ht, ha⟩ := (show NdefX.TabN H P nm from hT _ hm)
  refine PySem.W.kla_eval hdef ?_
  rw [← hq]
  have bP : s.heap.BuiltinsAt X.mg P := TB.bm.keeps I.bk
  have hP' : s.heap.get? P = some { cls := .none, data := .fields ps } := I.hok P _ hP
  cases hc : codeAmong pos ps.toList with
  | none =>
    refine PySem.W.kla_makeFunction (mg := X.mg) (c := c) (P := P) (ps := ps) (closure_ok hfree) I.ok.glob (I.mod.glob.keeps I.bk) hcode (TB.code.keeps I.bk) hP' ht hc TB.gP bP fun c' ctv h' tk hx hge hlt hrec htb => ?_
    obtain ⟨c2, oc, vs, t, e2, hoc, hd, hv⟩ := hrec
    cases e2
    have nC : H c' = none := I.hok.fresh hge
    have nP : P ≠ c' := ne_of_none hP nC
    have I1 := LamX.inv_table (t' := tk) (more := #[rawInt pos.line, rawInt pos.col, .ref c']) (h' := h') I hP (fun b o hb e => hx b o hb e) htb hge ⟨oc, vs, t, hoc, hd, hv⟩
    generalize hH1 : upd (upd H P (.tbl (ps ++ #[rawInt pos.line, rawInt pos.col, .ref c']))) c' (CodeO c' L.q) = H1 at I1
    have at_c : H1 c' = some (CodeO c' L.q) := by rw [← hH1]; exact upd_same
    have at_P : H1 P = some (.tbl (ps ++ #[rawInt pos.line, rawInt pos.col, .ref c'])) := by rw [← hH1, upd_ne nP, upd_same]
    have kept : ∀ b o, b ≠ P → H b = some o → H1 b = some o := fun b o hb e => by
      rw [← hH1, upd_ne (ne_of_none e nC), upd_ne hb]
      exact e
    have keptC : ∀ b q, H b = some (CodeO b q) → H1 b = some (CodeO b q) := fun b q e => kept b _ (fun z => by rw [z, hP] at e; cases e) e
    have less : ∀ b, H1 b = none → H b = none := fun b e => by
      rw [← hH1] at e
      exact NdefX.upd_none (NdefX.upd_none e)
    have nF : H1 h'.objs.size = none := I1.hok.fresh (Nat.le_refl _)
    have hsz : s.heap.objs.size ≤ h'.objs.size := Nat.le_trans hge (Nat.le_of_lt hlt)
    have T1 : NdefX.TabsN T H1 := fun p hp => by
      by_cases hb : p.1 = P
      · rw [hu p hp hb, hb]
        refine ⟨_, at_P, by rw [Array.toList_append]; exact PySem.TriplesOk_snoc _ _ _ _ ht, fun p' cv hcv => ?_⟩
        rw [Array.toList_append] at hcv
        rcases NdefX.among_app2 _ ht hcv with z | ⟨z, z1, z2⟩
        · obtain ⟨c0, e1, e2⟩ := ha p' cv z
          exact ⟨c0, e1, keptC _ _ e2⟩
        · refine ⟨c', z, ?_⟩
          rw [← z1, ← z2, hnm]
          exact at_c
      · obtain ⟨ps', a1, a2, a3⟩ := hT p hp
        refine ⟨ps', kept _ _ hb a1, a2, fun p' cv hcv => ?_⟩
        obtain ⟨c0, e1, e2⟩ := a3 p' cv hcv
        exact ⟨c0, e1, keptC _ _ e2⟩
    have g : (h'.push (PySem.W.kla_obj "<lambda>" L.q L.params L.body L.scope (cloFrom X.env.cells L.scope.names []) ((X.mg "__name__").getD .none) c' ctv)).get? h'.objs.size = some (PySem.W.kla_obj "<lambda>" L.q L.params L.body L.scope (cloFrom X.env.cells L.scope.names []) ((X.mg "__name__").getD .none) c' ctv) := Heap.get?_push_size _ rfl
    have I2 : Inv X pins σ (upd H1 h'.objs.size (LamO h'.objs.size L (cloFrom X.env.cells L.scope.names []) c')) { s with heap := h'.push (PySem.W.kla_obj "<lambda>" L.q L.params L.body L.scope (cloFrom X.env.cells L.scope.names []) ((X.mg "__name__").getD .none) c' ctv), toks := tk } :=
      I1.laid (fun b u e => Heap.get?_push_of_some _ e) (Nat.le_refl _) ⟨⟨_, ctv, g⟩, ⟨_, g⟩, fun h1 h2 ⟨pm, ct, z⟩ st => ⟨pm, ct, st _ z⟩⟩
    have ext : ∀ b o, H1 b = some o → upd H1 h'.objs.size (LamO h'.objs.size L (cloFrom X.env.cells L.scope.names []) c') b = some o := fun b o e => (upd_ne (ne_of_none e nF)).trans e
    exact h h'.objs.size c' _ _ I2 (fun b o hb e => ext b o (kept b o hb e)) (fun b e => less b (NdefX.upd_none e)) (T1.ext ext) (I.hok.fresh hsz) (Nat.ne_of_gt hlt) (.inl nC) upd_same (ext _ _ at_c)
  | some cv =>
    obtain ⟨c', e, hco⟩ := ha pos cv hc
    subst e
    rw [hnm] at hco
    refine PySem.W.kla_makeFunctionHit (mg := X.mg) (c := c) (P := P) (ps := ps) (closure_ok hfree) I.ok.glob (I.mod.glob.keeps I.bk) hcode (TB.code.keeps I.bk) hP' ht hc bP fun ctv h' tk hx hsz => ?_
    have I1 : Inv X pins σ H { s with heap := h', toks := tk } := I.kept hx
    have nF : H h'.objs.size = none := I1.hok.fresh (Nat.le_refl _)
    have g : (h'.push (PySem.W.kla_obj "<lambda>" L.q L.params L.body L.scope (cloFrom X.env.cells L.scope.names []) ((X.mg "__name__").getD .none) c' ctv)).get? h'.objs.size = some (PySem.W.kla_obj "<lambda>" L.q L.params L.body L.scope (cloFrom X.env.cells L.scope.names []) ((X.mg "__name__").getD .none) c' ctv) := Heap.get?_push_size _ rfl
    have I2 : Inv X pins σ (upd H h'.objs.size (LamO h'.objs.size L (cloFrom X.env.cells L.scope.names []) c')) { s with heap := h'.push (PySem.W.kla_obj "<lambda>" L.q L.params L.body L.scope (cloFrom X.env.cells L.scope.names []) ((X.mg "__name__").getD .none) c' ctv), toks := tk } :=
      I1.laid (fun b u e => Heap.get?_push_of_some _ e) (Nat.le_refl _) ⟨⟨_, ctv, g⟩, ⟨_, g⟩, fun h1 h2 ⟨pm, ct, z⟩ st => ⟨pm, ct, st _ z⟩⟩
    have ext : ∀ b o, H b = some o → upd H h'.objs.size (LamO h'.objs.size L (cloFrom X.env.cells L.scope.names []) c') b = some o := fun b o e => (upd_ne (ne_of_none e nF)).trans e
    exact h h'.objs.size c' _ _ I2 (fun b o hb e => ext b o e) (fun b e => NdefX.upd_none e) (hT.ext ext) nF (fun z => by rw [z, hco] at nF; cases nF) (.inr hco) upd_same (ext _ _ hco)
end Pu

set_option Elab.async false
set_option linter.all false
set_option maxRecDepth 100000
set_option maxHeartbeats 2000000
set_option autoImplicit false
/-! Pu, S: closures called, closures handed on. -/
namespace Pu
open PySem PySem.Spec PyProof.Rows L2
open LamX (CodeO)

/-- a closure in the heap: its object, its code, its cells -/
def cloAt (L : LamI) (F : Hp) (a : Addr) (cv : List V) (cs : List Addr) : Prop := ∃ (cl : List (Str × Addr)) (c' : Addr) (os : Cells), F a = some (LamO a L cl c') ∧ F c' = some (CodeO c' L.q) ∧ cs = os.map (·.1) ∧ cv.length = L.fr.length ∧
  (∀ y c, cl.lookup y = some c → ∃ o, os.lookup c = some o) ∧ (∀ c o, os.lookup c = some o → F c = some (CellO c o) ∧ ∃ v, o.data = .cell v) ∧ (∀ x y c, cl.lookup x = some c → cl.lookup y = some c → x = y) ∧
  ∀ (i : Nat) (y : Str), L.fr[i]? = some y → ∃ c o u v, cl.lookup y = some c ∧ os.lookup c = some o ∧ o.data = .cell (some u) ∧ cv[i]? = some v ∧ RelV v u
theorem cloAt.mono {L : LamI} {F H : Hp} {a : Addr} {cv : List V} {cs : List Addr} (l : Le F H) (h : cloAt L F a cv cs) : cloAt L H a cv cs := by
  obtain ⟨cl, c', os, h1, h2, h3, h4, h5, h6, h7, h8⟩ := h
  exact ⟨cl, c', os, l _ _ h1, l _ _ h2, h3, h4, h5, fun c o e => ⟨l _ _ (h6 c o e).1, (h6 c o e).2⟩, h7, h8⟩
theorem mem_of_lookup {os : Cells} {c : Addr} {o : Obj} (h : os.lookup c = some o) : c ∈ os.map (·.1) := by
  induction os with
  | nil => cases h
  | cons p os ih =>
    rw [List.lookup_cons] at h
    rw [List.map_cons]
    cases q : c == p.1 with
    | true => exact List.mem_cons.mpr (.inl (beq_iff_eq.mp q))
    | false =>
      rw [q] at h
      exact List.mem_cons_of_mem _ (ih h)

/-! ### the promise -/
def spL (W : W0) (P : Prog) (k l : Nat) (ws : List (Option V)) : Sp := fun vs H Q _ => ∃ F0 ds caps cv d, Le F0 H ∧ NdefX.TabsN W.T H ∧ (∀ p ∈ W.T, F0 p.1 = none) ∧ Reps W F0 ds vs ∧ ws = cv.map some ∧ Reps W F0 caps cv ∧ (calls P k).lam l caps ds = .ok d ∧
  ∀ v F' H', After W [] F0 vs H [] F' H' → Rep W F' d v → Q v H'
def nfOf (L : LamI) (cl : List (Str × Addr)) (c' : Addr) : NdefX.NF := ⟨"<lambda>", L.q, L.params, [], L.scope, cl, c'⟩
structure LmOk (pr : Program) (w : World) (K : PySem.W.Frag) (mg : Str → Option Value) (base : Heap) (k : Nat) (L : LamI) (sp : List (Option V) → Sp) : Prop where
  run : ∀ (A : Around) (outer : List Env) (s : Shared) (H : Hp) (us : List Value) (vs : List V) (ws : List (Option V)) (Q : VK) (E : XK) (f : Addr) (cl : List (Str × Addr)) (c' : Addr), Room k A → Env0 pr w K mg base A outer s H → H f = some (LamO f L cl c') → H c' = some (CodeO c' L.q) →
    NdefX.CellsAt cl L.fr ws s.heap H → Vals vs us → sp ws vs H Q E → codeAny (model pr w) A (.call (.ref f) ⟨us, []⟩) (CR CX0 outer pr w H s Q E) s
section
variable {pr : Program} {w : World} {K : PySem.W.Frag} {mg : Str → Option Value} {base : Heap} {N : List Str} {L : LamI} {k : Nat} {sp : List (Option V) → Sp}
theorem lam_of (S : NdefX.NScope N L.ps L.fr L.scope) (hb : ∀ (cl : List (Str × Addr)) (pm : Value) (c' : Addr) (ctv : Value) (us : List Value), us.length = L.ps.length → bindArgs (PySem.W.kla_fn "<lambda>" L.q L.params L.body L.scope cl pm (.ref c') ctv) ⟨us, []⟩ = pure (L.ps.zip us))
    (len : ∀ ws vs H Q E, sp ws vs H Q E → vs.length = L.ps.length)
    (hbody : ∀ (A : Around) (outer : List Env) (s : Shared) (H : Hp) (vs : List V) (ws : List (Option V)) (Q : VK) (E : XK) (f : Addr) (cl : List (Str × Addr)) (c' : Addr), Room k (A.deeper (NdefX.envF (nfOf L cl c') f s.heap.objs.size)) → ws.length = L.fr.length → sp ws vs H Q E →
      ∃ t, PE (NdefX.ncx CX0 pr w K mg base N (nfOf L cl c') f A outer s H E).nox L.body t ∧ t (NdefX.startF N vs ws) H Q) :
    LmOk pr w K mg base (k + 1) L sp := by
  refine ⟨fun A outer s H us vs ws Q E f cl c' hr e0 hf hc C r hsp => ?_⟩
  have hl := len _ _ _ _ _ hsp
  have lim : s.heap.NoLimit := e0.mod.nolimit.keeps fun b o e => (e0.bs b o e).1
  obtain ⟨⟨pm, ctv, ho⟩, _, _⟩ := e0.hok f _ hf
  obtain ⟨⟨oc, fs, t, hoc, hdc, hvc⟩, _, _⟩ := e0.hok c' _ hc
  refine PySem.W.kla_callFunE hr.depth ho rfl S.co S.gen rfl ⟨c', oc, fs, t, rfl, hoc, hdc, hvc⟩ ?_
  rw [hb cl pm c' ctv us (by rw [← r.length]; exact hl)]
  refine wpAny_pure (wpAny_newFunctionEnv S.nocell (fun ⟨n, _⟩ hy => S.par n (List.of_mem_zip hy).1) (fun h₁ hns hsb => ⟨lim.fresh _ hsb, ?_⟩) S.kind)
  have kp : ∀ b o, s.heap.get? b = some o → h₁.get? b = some o := fun b o e => hsb.extBut b o (Nat.ne_of_lt (Heap.lt_size e)) (Heap.get?_push_of_some _ e)
  obtain ⟨tt, ht, hq⟩ := hbody A outer s H vs ws Q E f cl c' (hr.deeper _) C.len hsp
  have J : Inv (NdefX.ncx CX0 pr w K mg base N (nfOf L cl c') f A outer s H E) [] (NdefX.startF N vs ws) H { s with heap := h₁, toks := s.toks + (L.ps.zip us).length } := NdefX.inv_startN (F := nfOf L cl c') S hr.hd e0 hl r C hns kp
  refine PySem.W.kla_codeExpr (wpAny_mono (ht.nox.run [] _ _ H Q J hq) (fun v s' hq' => ?_) fun e s' hq' => hq')
  obtain ⟨w', H', J', rv, q⟩ := hq'
  exact ⟨w', H', J'.os, J'.bare, J'.base, J'.hok, rv, q⟩
end
structure Lams (W : W0) (P : Prog) (LI : Nat → LamI) (k : Nat) (pr : Program) (w : World) (K : PySem.W.Frag) (mg : Str → Option Value) (base : Heap) : Prop where
  lam : ∀ l Ld, P.lams[l]? = some Ld → LmOk pr w K mg base (2 * k) (LI l) (spL W P k l)
  clo : ∀ F l a cv cs, W.cloAt F l a cv cs ↔ cloAt (LI l) F a cv cs
  bin : ∀ f Fn, P.fns[f]? = some Fn → ∃ fd ps, FnOk pr w K mg base CX0 (2 * k) (W.fnA f) fd ps (spD W P k f) ∧ PySem.W.keepIn K (.ref (W.fnA f)) = true ∧ Binds K fd ps []

/-! ### values without closures need no cells -/
section
variable {W : W0} {F : Hp} {os : Cells}
mutual
theorem rep_sub (hc : ∀ a o, os.lookup a = some o → F a = some (CellO a o)) : ∀ {d : D} {v : V}, Rep W F d v → D.noClo d = true → Rep W (subC os F) d v
  | .non, _, r, _ => by unfold Rep at r ⊢; exact r
  | .bl _, _, r, _ => by unfold Rep at r ⊢; exact r
  | .int _, _, r, _ => by unfold Rep at r ⊢; exact r
  | .str _, _, r, _ => by unfold Rep at r ⊢; exact r
  | .fn _, _, r, _ => by unfold Rep at r ⊢; exact r
  | .clo _ _, _, _, h => by rw [D.noClo] at h; cases h
  | .tup ds, _, r, h => by
    rw [D.noClo] at h
    unfold Rep at r ⊢
    obtain ⟨a, vs, e, s, q⟩ := r
    refine ⟨a, vs, e, ?_, reps_sub hc q h⟩
    rcases s with ⟨o, s1, s2⟩ | s
    · refine .inl ⟨o, ?_, s2⟩
      cases l : os.lookup a with
      | none => rw [subC_out l]; exact s1
      | some ob => rw [hc a ob l] at s1; cases s1
    · exact .inr s
  | .lst ds, _, r, h => by
    rw [D.noClo] at h
    unfold Rep at r ⊢
    obtain ⟨a, vs, e, s, q⟩ := r
    refine ⟨a, vs, e, ?_, reps_sub hc q h⟩
    rcases s with (s | ⟨o, s⟩) | s
    · refine .inl (.inl ?_)
      cases l : os.lookup a with
      | none => rw [subC_out l]; exact s
      | some ob => rw [hc a ob l] at s; cases s
    · refine .inl (.inr ⟨o, ?_⟩)
      cases l : os.lookup a with
      | none => rw [subC_out l]; exact s
      | some ob => rw [hc a ob l] at s; cases s
    · exact .inr s
  | .obj c ds, _, r, h => by
    rw [D.noClo] at h
    unfold Rep at r ⊢
    obtain ⟨a, dx, vs, e, s, l1, l2, q⟩ := r
    refine ⟨a, dx, vs, e, ?_, l1, l2, reps_sub hc q h⟩
    cases l : os.lookup a with
    | none => rw [subC_out l]; exact s
    | some ob => rw [hc a ob l] at s; cases s
theorem reps_sub (hc : ∀ a o, os.lookup a = some o → F a = some (CellO a o)) : ∀ {ds : List D} {vs : List V}, Reps W F ds vs → D.noClos ds = true → Reps W (subC os F) ds vs
  | [], _, r, _ => by unfold Reps at r ⊢; exact r
  | d :: ds, _, r, h => by
    rw [D.noClos] at h
    obtain ⟨h1, h2⟩ := Bool.and_eq_true_iff.mp h
    unfold Reps at r ⊢
    obtain ⟨v, q, e, r1, r2⟩ := r
    exact ⟨v, q, e, rep_sub hc r1 h1, reps_sub hc r2 h2⟩
end
theorem tabs_sub {T : List NdefX.NTab} {H : Hp} (h : NdefX.TabsN T H) (hc : ∀ a o, os.lookup a = some o → H a = some (CellO a o)) : NdefX.TabsN T (subC os H) := fun p hp => by
  obtain ⟨ps, h1, h2, h3⟩ := h p hp
  have out : ∀ b u, H b = some u → (∀ a o, u ≠ CellO a o) → subC os H b = some u := fun b u e n => by
    cases l : os.lookup b with
    | none => rw [subC_out l]; exact e
    | some o =>
      rw [hc b o l] at e
      exact absurd (Option.some.inj e).symm (n b o)
  refine ⟨ps, out _ _ h1 (fun _ _ z => by cases z), h2, fun pos cv e => ?_⟩
  obtain ⟨c, e1, e2⟩ := h3 pos cv e
  exact ⟨c, e1, out _ _ e2 (fun _ _ z => by cases z)⟩
theorem tabs_add {T : List NdefX.NTab} {H : Hp} (h : NdefX.TabsN T H) (hc : ∀ a o, os.lookup a = some o → H a = none) : NdefX.TabsN T (addC os H) := h.ext fun b o e => by
  cases l : os.lookup b with
  | none => rw [addC_out l]; exact e
  | some ob => rw [hc b ob l] at e; cases e
end

/-! ### a closure is called -/
section
variable {W : W0} {P : Prog} {LI : Nat → LamI} {k : Nat} {ms : List Nat} {e : Ent} {X : Cx} {pos pos' : Pos} {x : Expr} {xs : List Expr} {as : E} {f l i : Nat} {n : Str} {σ : L2.St} {H F : Hp} {s : Shared} {pins : List (Addr × Obj)} {Q : VK}
theorem lam_caps {caps ds : List D} {d : D} (h : (calls P k).lam l caps ds = .ok d) : ∃ Ld, P.lams[l]? = some Ld ∧ ds.length = Ld.np ∧ caps.length = Ld.nc ∧ D.noClos ds = true := by
  cases k with
  | zero => cases h
  | succ k =>
    have h : (match P.lams[l]? with
        | some L => if ds.length = L.np ∧ caps.length = L.nc ∧ D.noClos ds = true then (ev (calls P k) L.body (entry L.sz (ds ++ caps))).bind fun p => .ok p.1 else .bad
        | none => .bad) = R.ok d := h
    split at h
    · rename_i Ld hL
      split at h
      · rename_i hz
        exact ⟨Ld, hL, hz⟩
      · cases h
    · cases h
theorem run_lm (o : Ok W X) (S : Lams W P LI k X.prog X.w X.K X.mg X.base) (hr : Room (2 * k) X.A) (I : Inv X pins σ H s) (hl : Le F H) (ht : NdefX.TabsN W.T H) (htf : ∀ p ∈ W.T, F p.1 = none) {a : Addr} {cv : List V} {cs : List Addr} {F0 : Hp} {caps ds : List D} {d : D} {vs : List V} {us : List Value}
    (hc : W.cloAt F l a cv cs) (h0 : Le F0 F) (hn : ∀ c ∈ cs, F0 c = none) (hcap : Reps W F0 caps cv) (hds : Reps W F ds vs) (r : Vals vs us) (hlam : (calls P k).lam l caps ds = .ok d)
    (hq : ∀ v F' H', After W [] F vs H [] F' H' → Rep W F' d v → Q v H') : wpAny (model X.prog X.w) X.A (call (.ref a) us) (EP X pins σ Q) X.xe s := by
  obtain ⟨cl, c', os, g1, g2, g3, g4, g5, g6, g7, g8⟩ := (S.clo F l a cv cs).mp hc
  obtain ⟨Ld, hL, n1, n2, n3⟩ := lam_caps hlam
  have hF : ∀ a o, os.lookup a = some o → F a = some (CellO a o) := fun a o z => (g6 a o z).1
  have hH : ∀ a o, os.lookup a = some o → H a = some (CellO a o) := fun a o z => hl _ _ (hF a o z)
  have e0 := I.env0
  have e1 := env0_sub e0 hH
  have le1 : Le (subC os F) (subC os H) := fun b u z => by
    obtain ⟨z1, z2⟩ := subC_some z
    rw [subC_out z1]
    exact hl _ _ z2
  have le0 : Le F0 (subC os F) := fun b u z => by
    cases q : os.lookup b with
    | none => rw [subC_out q]; exact h0 _ _ z
    | some ob =>
      rw [hn b (by rw [g3]; exact mem_of_lookup q)] at z
      cases z
  have out : ∀ b u, H b = some u → (∀ a o, u ≠ CellO a o) → subC os H b = some u := fun b u z n => by
    cases q : os.lookup b with
    | none => rw [subC_out q]; exact z
    | some ob =>
      rw [hH b ob q] at z
      exact absurd (Option.some.inj z).symm (n b ob)
  have C : NdefX.CellsAt cl (LI l).fr (cv.map some) s.heap (subC os H) := by
    refine ⟨by rw [List.length_map, g4], fun y c z => ?_, g7, fun j y z => ?_⟩
    · obtain ⟨ob, q⟩ := g5 y c z
      obtain ⟨v, hv⟩ := (g6 c ob q).2
      exact ⟨subC_in q, v, ob, ext_at e0.hok (hH c ob q), hv⟩
    · obtain ⟨c, ob, u, v, q1, q2, q3, q4, q5⟩ := g8 j y z
      refine ⟨c, q1, fun v' hv' => ⟨u, ?_, ob, ext_at e0.hok (hH c ob q2), q3⟩⟩
      rw [List.getElem?_map, q4] at hv'
      cases hv'
      exact q5
  have key := (S.lam l Ld hL).run X.A X.stack s (subC os H) us vs (cv.map some) (fun v H' => ∀ H'', H'' = addC os H' → (∀ a o, os.lookup a = some o → H' a = none) → Q v H'') E0 a cl c' hr e1 (out _ _ (hl _ _ g1) (fun _ _ z => by cases z)) (out _ _ (hl _ _ g2) (fun _ _ z => by cases z)) C r
    ⟨subC os F, ds, caps, cv, d, le1, tabs_sub ht hH, fun p hp => ?_, reps_sub hF hds n3, rfl, hcap.mono o.m le0, hlam, fun v F' H' A R' => ?_⟩
  · refine wpAny_call (codeAny_mono key fun rr s' hq' => ?_)
    cases rr with
    | error e => exact False.elim hq'
    | ok fl =>
      cases fl with
      | ret u => exact I.after (ce_add e0 hH hq' fun v H' q g => q _ rfl g)
      | next => exact False.elim hq'
      | brk => exact False.elim hq'
      | cont => exact False.elim hq'
  · cases q : os.lookup p.1 with
    | none => rw [subC_out q]; exact htf p hp
    | some ob => exact subC_in q
  · rintro H'' rfl gone
    have goneF : ∀ a o, os.lookup a = some o → F' a = none := fun a o z => A.sub.none (gone a o z)
    have up : Le F' (addC os F') := fun b u z => by
      cases q : os.lookup b with
      | none => rw [addC_out q]; exact z
      | some ob => rw [goneF b ob q] at z; cases z
    refine hq v (addC os F') _ ⟨fun b u z => ?_, fun b u z => ?_, fun b u z => ?_, fun b u _ h2 h3 => ?_, fun b z => ?_, tabs_add A.tb gone, fun p hp => ?_, rfl, fun k j d p z => by simp at z⟩ (R'.mono o.m up)
    · cases q : os.lookup b with
      | none => rw [addC_out q]; exact A.le _ _ (by rw [subC_out q]; exact z)
      | some ob =>
        rw [addC_in q, ← z]
        exact (hF b ob q).symm
    · cases q : os.lookup b with
      | none => rw [addC_out q] at z ⊢; exact A.sub _ _ z
      | some ob => rw [addC_in q] at z ⊢; exact z
    · cases q : os.lookup b with
      | none =>
        rw [addC_out q] at z
        rcases A.nw b u z with w | w | w
        · exact .inl (subC_some w).2
        · rw [subC_out q] at w
          exact .inr (.inl w)
        · exact .inr (.inr w)
      | some ob =>
        rw [addC_in q] at z
        rw [← z]
        exact .inl (hF b ob q)
    · cases q : os.lookup b with
      | none => rw [addC_out q]; exact A.sm b u (fun _ w => nomatch w) h2 (by rw [subC_out q]; exact h3)
      | some ob =>
        rw [addC_in q, ← h3]
        exact (hH b ob q).symm
    · cases q : os.lookup b with
      | none => rw [addC_out q]; exact A.al b (by rw [subC_out q]; exact z)
      | some ob => rw [addC_in q]; exact fun w => nomatch w
    · obtain ⟨ps, w, _⟩ := ht p hp
      cases q : os.lookup p.1 with
      | none => rw [addC_out q]; exact A.tf p hp
      | some ob => rw [hH _ ob q] at w; cases w
theorem s_callv (o : Ok W X) (S : Lams W P LI k X.prog X.w X.K X.mg X.base) (hr : Room (2 * k) X.A) (hN : X.N[i]? = some n) (hv : Vis X.env.scope n) (hd : (n == ("__debug__" : Str)) = false) (hc : (n == ("__classdict__" : Str)) = false) (hi : i ∉ ms) (ha : PA X (x :: xs) (tA W ms e (calls P k) as)) (hf : froAs as = true) (hs : noStar x = true) (hs2 : xs.all noStar = true) :
    PE X (.Call (.Name n pos) (x :: xs) [] pos') (tE W ms e (calls P k) (.callv i as)) := by
  refine ⟨fun pins s σ H Q I ⟨F, ρ, d, ρ', r, h, kk⟩ => ?_⟩
  rw [ev] at h
  split at h
  · rename_i l caps hd0
    obtain ⟨p, h1, h⟩ := R.bind_ok h
    obtain ⟨d2, h2, h⟩ := R.bind_ok h
    cases h
    obtain ⟨v, e1, e2⟩ := r.fro i _ hi hd0
    obtain ⟨a, cv, cs, F0, rfl, g1, g2, g3, g4⟩ := e2.clo_inv
    have at_ : ∀ {F' H' : Hp} {s' : Shared}, Le F F' → Le F' H' → Inv X pins σ H' s' → PySem.W.FnAt a s'.heap := fun l1 l2 I' => by
      obtain ⟨cl, c', os, q1, _⟩ := (S.clo _ _ _ _ _).mp g1
      obtain ⟨⟨pm, ctv, z⟩, _, _⟩ := I'.hok a _ (l2 _ _ (l1 _ _ q1))
      exact ⟨_, _, _, _, z⟩
    refine wpAny_Call_Name_kw (thn ((pe_var (pos := pos) hN hv hd hc).run pins s σ H (fun v H1 => v = .ref a ∧ H1 = H) I ⟨.ref a, e1, rfl, rfl⟩) fun u s1 ⟨v, H1, I1, r1, q1⟩ => ?_)
    obtain ⟨ev, eH⟩ := q1
    subst ev
    subst eH
    obtain rfl : u = Value.ref a := r1
    refine PySem.W.callWith_F (first := []) (at_ (.refl _) r.sub I1) (thn (ha.run pos' pins s1 σ _ (fun vs H2 => ∃ F2, Le F F2 ∧ Rel W ms e F2 p.2 σ H2 ∧ Reps W F2 p.1 vs) I1 ⟨F, ρ, p.1, p.2, r, h1, fun vs F2 H2 l2 r2 p2 => ⟨F2, l2, r2, p2.reps hf⟩⟩) fun us s2 ⟨vs, H2, I2, rv, F2, l2, r2, p2⟩ => ⟨at_ l2 r2.sub I2, ?_⟩) (starEach_cons hs) (noStars hs2)
    show wpAny _ _ (call (.ref a) us) _ _ _
    refine run_lm o S hr I2 r2.sub r2.tb r2.tf ((S.clo _ _ _ _ _).mpr (((S.clo _ _ _ _ _).mp g1).mono l2)) (g2.trans l2) g3 g4 p2 rv h2 fun v F' H' A R' => ?_
    exact kk v F' H' (l2.trans A.le) (r2.call (ρ' := p.2) (mu := []) (os := []) (mp := []) o.m List.nodup_nil (fun _ z => nomatch z) (fun _ z => nomatch z) (fun _ z => nomatch z) (fun k j i z => by simp at z) (fun j hj => nomatch hj) A (fun k d z => by simp at z) rfl) R'
  · rename_i f hd0
    obtain ⟨p, h1, h⟩ := R.bind_ok h
    obtain ⟨r0, h2, h⟩ := R.bind_ok h
    split at h
    · rename_i hout
      cases h
      have hout := List.isEmpty_iff.mp hout
      obtain ⟨v, e1, e2⟩ := r.fro i _ hi hd0
      rw [e2.fn_inv] at e1
      have h3 := raw_call h2
      have hFn : ∃ Fn, P.fns[f]? = some Fn := by
        cases k with
        | zero => cases h2
        | succ k =>
          have h2' : (match P.fns[f]? with
            | some F => if p.1.length = F.np ∧ F.ini = false then (run (calls P k) F.body (entry F.sz p.1)).bind fun fl => endOf F.own F.mp fl else .bad
            | none => .bad) = R.ok r0 := h2
          split at h2'
          · exact ⟨_, by assumption⟩
          · cases h2'
      obtain ⟨Fn, hFn⟩ := hFn
      obtain ⟨fd, ps, F1, F2, B⟩ := S.bin f Fn hFn
      have hmp : Fn.mp = [] := by
        cases k with
        | zero => cases h2
        | succ k =>
          have h3' : (match P.fns[f]? with
            | some F => if p.1.length = F.np then (run (calls P k) F.body (entry F.sz p.1)).bind fun fl => endOf F.own F.mp fl else .bad
            | none => .bad) = R.ok r0 := h3
          rw [hFn] at h3'
          have h3' : (if p.1.length = Fn.np then (run (calls P k) Fn.body (entry Fn.sz p.1)).bind fun fl => endOf Fn.own Fn.mp fl else .bad) = R.ok r0 := h3'
          split at h3'
          · obtain ⟨fl, q1, q2⟩ := R.bind_ok h3'
            unfold endOf at q2
            split at q2
            · split at q2
              · rename_i os hos
                split at q2
                · cases q2
                · cases q2
                  have := getAll_len hos
                  rw [show os = [] from hout] at this
                  exact List.eq_nil_of_length_eq_zero this.symm
              · cases q2
            · split at q2
              · rename_i os hos
                cases q2
                have := getAll_len hos
                rw [show os = [] from hout] at this
                exact List.eq_nil_of_length_eq_zero this.symm
              · cases q2
          · cases h3'
      refine (pe_callL (i := i) (dvs := []) (E := E0) F1 hr hN hv F2 B .nil pass0 ha hd hc (starEach_cons hs) (noStars hs2)).run pins s σ H Q I ⟨e1, ?_⟩
      refine ⟨F, ρ, p.1, p.2, r, h1, fun vs F2' H2 l2 r2 p2 => ?_⟩
      show spD W P k f (vs ++ []) H2 Q E0
      rw [List.append_nil]
      have rr := p2.reps hf
      refine ⟨Fn, F2', p.1, r0.1, r0.2, hFn, ?_, h3, fun v F' H' A R' => ?_⟩
      · rw [hmp]
        have hl := raw_len hFn h3
        exact ⟨by rw [rr.length]; exact hl, hl, r2.sub, r2.tb, r2.tf, fun j d v _ hd hv => by
          obtain ⟨v', z1, z2⟩ := rr.get hd
          rw [hv] at z1
          cases z1
          exact z2, fun j d hj => (nomatch hj), fun i j p hi => (nomatch hi)⟩
      · rw [hmp] at A
        have r3 := r2.call (ρ' := p.2) (mu := []) (os := []) (mp := []) o.m List.nodup_nil (fun _ z => nomatch z) (fun _ z => nomatch z) (fun _ z => nomatch z) (fun k j i z => by simp at z) (fun j hj => nomatch hj) A (fun k d z => by simp at z) rfl
        cases ho : Fn.own with
        | false =>
          rw [ho] at R'
          exact kk v F' H' (l2.trans A.le) r3 R'
        | true =>
          rw [ho] at R'
          obtain ⟨q, es, us, q1, q2, q3, q4, q5, q6⟩ := R'
          obtain ⟨nl, h0, _⟩ := r2.fresh_out q6
          rw [q1] at kk
          subst q2
          exact kk _ _ H' (l2.trans (A.le.trans (Le.upd q4))) (r3.freeze o.m (fun _ z => by cases z) q3 q4 (.inl h0) nl) (.lst (.of upd_same) (q5.mono o.m (Le.upd q4)))
    · cases h
  · cases h
end
end Pu

set_option Elab.async false
set_option linter.all false
set_option maxRecDepth 100000
set_option maxHeartbeats 2000000
set_option autoImplicit false
/-! Pu, T: a call that is handed a lambda. -/
namespace Pu
open PySem PySem.Spec PyProof.Rows L2
open LamX (CodeO)

/-! ### the lambda as an argument -/
def LamMade (W : W0) (P : Addr) (L : LamI) (cl : List (Str × Addr)) (H : Hp) (f c' : Addr) (H1 : Hp) : Prop :=
  (∀ b o, b ≠ P → H b = some o → H1 b = some o) ∧ (∀ b, H1 b = none → H b = none) ∧ NdefX.TabsN W.T H1 ∧ H f = none ∧ f ≠ c' ∧ (H c' = none ∨ H c' = some (CodeO c' L.q)) ∧ H1 f = some (LamO f L cl c') ∧ H1 c' = some (CodeO c' L.q)
def tLamE (W : W0) (P : Addr) (L : LamI) (cl : List (Str × Addr)) : TE := fun σ H Q => NdefX.TabsN W.T H ∧ ∀ f c' H1, LamMade W P L cl H f c' H1 → Q (.ref f) H1
theorem pe_lamE {W : W0} {X : Cx} {nm : Nat → Nat → Str} {c P : Addr} {L : LamI} {pos : Pos} (TB : LamX.TabB X.base X.mg c P) (hcode : X.env.code = .ref c) (hq : L.q = X.env.qual ++ "<lambda>") (hm : (P, nm) ∈ W.T) (hnm : nm pos.line pos.col = L.q) (hu : ∀ p ∈ W.T, p.1 = P → p.2 = nm) (hdef : defaultsOf L.params X.env = ([], []))
    (hfree : ∀ y ∈ L.scope.names, y.2 = .free → X.env.scope.names.lookup y.1 = some .cell ∨ X.env.scope.names.lookup y.1 = some .free) : PE X (.Lambda L.params L.body L.scope pos) (tLamE W P L (cloFrom X.env.cells L.scope.names [])) :=
  ⟨fun pins s σ H Q I ⟨hT, k⟩ => lam_new I TB hcode hq hm hnm hu hT hdef (fun y hy h => (hfree y hy h).elim (fun z => I.ok.has _ (.inl z)) fun z => I.ok.has _ (.inr z)) fun f c' H1 s' I1 h1 h2 h3 h4 h5 h6 h7 h8 => ⟨.ref f, H1, I1, rfl, k f c' H1 ⟨h1, h2, h3, h4, h5, h6, h7, h8⟩⟩⟩
section
variable {W : W0} {ms : List Nat} {e : Ent} {C : Calls} {X : Cx} {pos pos' : Pos} {x : Expr} {xs es : List Expr} {a as : E} {σ : L2.St} {H H1 F : Hp} {ρ : Env'} {T : TA} {P f c' : Addr} {L : LamI} {cl : List (Str × Addr)}
def lamF (F : Hp) (L : LamI) (cl : List (Str × Addr)) (f c' : Addr) : Hp := upd (upd F c' (CodeO c' L.q)) f (LamO f L cl c')
theorem lamF_le (r : Rel W ms e F ρ σ H) (h : LamMade W P L cl H f c' H1) : Le F (lamF F L cl f c') := fun a u z => by
  obtain ⟨h1, h2, h3, h4, h5, h6, h7, h8⟩ := h
  have za := r.sub _ _ z
  unfold lamF
  rw [upd_ne (fun w => by rw [w, h4] at za; cases za)]
  by_cases w : a = c'
  · subst w
    rw [upd_same]
    rcases h6 with h6 | h6
    · rw [h6] at za; cases za
    · rw [h6] at za; exact za
  · rw [upd_ne w]; exact z
theorem Rel.lamMade (m : W.Mono) (r : Rel W ms e F ρ σ H) (hP : ∃ nm, (P, nm) ∈ W.T) (h : LamMade W P L cl H f c' H1) : Rel W ms e (lamF F L cl f c') ρ σ H1 := by
  have l := lamF_le r h
  obtain ⟨h1, h2, h3, h4, h5, h6, h7, h8⟩ := h
  obtain ⟨nm, hP⟩ := hP
  obtain ⟨ps, hps, _⟩ := r.tb _ hP
  have nP : ∀ b o, H b = some o → NT o → b ≠ P := fun b o z nt w => by
    rw [w, hps] at z
    exact nt ps (Option.some.inj z).symm
  refine ⟨r.len, fun a u z => ?_, r.f0.trans l, fun a u z => ?_, fun a u q1 q2 q3 => ?_, fun a z w => r.al a z (h2 a w), fun i d q1 q2 => ?_, fun i d q1 q2 => ?_, r.inj, h3, fun p hp => ?_, r.fix⟩
  · unfold lamF at z
    by_cases w : a = f
    · subst w
      rw [upd_same] at z
      cases z
      exact h7
    · rw [upd_ne w] at z
      by_cases w2 : a = c'
      · subst w2
        rw [upd_same] at z
        cases z
        exact h8
      · rw [upd_ne w2] at z
        refine h1 a u (fun y => ?_) (r.sub _ _ z)
        rw [y, r.tf _ hP] at z
        cases z
  · unfold lamF at z
    by_cases w : a = f
    · subst w
      exact .inr (.inl (r.fresh_out h4).2.1)
    · rw [upd_ne w] at z
      by_cases w2 : a = c'
      · subst w2
        rw [upd_same] at z
        cases z
        exact .inr (.inr (.inr ⟨_, rfl⟩))
      · rw [upd_ne w2] at z
        exact r.nw a u z
  · have z := r.sm a u q1 q2 q3
    exact h1 a u (nP a u z q2) z
  · obtain ⟨v, q3, q4⟩ := r.fro i d q1 q2
    exact ⟨v, q3, q4.mono m l⟩
  · obtain ⟨p, q3, q4, q5, q6⟩ := r.wri i d q1 q2
    obtain ⟨o, q7, q8⟩ := q5.some
    have hp : H1 p = some o := h1 p o (nP p o q7 q8) q7
    refine ⟨p, q3, ?_, q5.mono m l (hp.trans q7.symm), q6⟩
    unfold lamF
    rw [upd_ne (fun w => by rw [w, h4] at q7; cases q7), upd_ne (fun w => ?_)]
    · exact q4
    · rcases h6 with h6 | h6
      · rw [w, h6] at q7; cases q7
      · rcases q5 with ⟨_, _, _, w2, _⟩ | ⟨_, _, _, _, _, w2, _⟩
        · rw [w, h6] at w2; cases w2
        · rw [w, h6] at w2; cases w2
  · obtain ⟨ps', w1, _⟩ := r.tb p hp
    unfold lamF
    rw [upd_ne (fun w => by rw [w, h4] at w1; cases w1), upd_ne (fun w => ?_)]
    · exact r.tf p hp
    · rcases h6 with h6 | h6
      · rw [w, h6] at w1; cases w1
      · rw [w, h6] at w1; cases w1
def tApp (W : W0) (ms : List Nat) (e : Ent) (C : Calls) (as : E) (T : TA) : TA := fun σ H Q => tA W ms e C as σ H fun vs H1 => T σ H1 fun ws H2 => Q (vs ++ ws) H2
theorem app_nil (h : PA X es T) : PA X es (tApp W ms e C .anil T) := h.imp fun σ H Q ⟨F, ρ, ds, ρ', r, h, k⟩ => by
  rw [evs] at h
  cases h
  exact k [] F H (.refl _) r ⟨rfl, rfl⟩
theorem app_cons (m : W.Mono) (ha : PE X x (tL W ms e C a)) (hs : PA X xs (tApp W ms e C as T)) (hn : noStar x = true) (q : isBor a = true → quiet as = true) (hr : isRef a = false) : PA X (x :: xs) (tApp W ms e C (.acons a as) T) :=
  (pa_cons ha hs (starEach_cons hn)).imp fun σ H Q h => cons_imp m q hr σ H _ h

/-! ### the call -/
def osOf (h : Heap) (A : List Addr) : Cells := A.filterMap fun c => (h.get? c).map fun o => (c, o)
theorem osOf_look {h : Heap} {c : Addr} : ∀ {A : List Addr}, (osOf h A).lookup c = if c ∈ A then h.get? c else none
  | [] => rfl
  | b :: A => by
    unfold osOf
    rw [List.filterMap_cons]
    cases hb : h.get? b with
    | none =>
      show (osOf h A).lookup c = _
      rw [osOf_look]
      by_cases z : c = b
      · subst z
        rw [hb]
        split <;> split <;> rfl
      · have : (c ∈ b :: A) ↔ c ∈ A := by simp [z]
        simp only [this]
    | some ob =>
      show List.lookup c ((b, ob) :: osOf h A) = _
      rw [List.lookup_cons]
      by_cases z : c = b
      · subst z
        rw [beq_self_eq_true]
        rw [if_pos List.mem_cons_self, hb]
      · rw [beq_eq_false_iff_ne.mpr z]
        show (osOf h A).lookup c = _
        rw [osOf_look]
        have : (c ∈ b :: A) ↔ c ∈ A := by simp [z]
        simp only [this]
def OsOk (os : Cells) (cl : List (Str × Addr)) (fr : List Str) (ws : List (Option V)) (H : Hp) : Prop :=
  (∀ y c, cl.lookup y = some c → ∃ o, os.lookup c = some o) ∧ (∀ c o, os.lookup c = some o → H c = none ∧ ∃ v, o.data = .cell v) ∧
  (∀ (i : Nat) (y : Str), fr[i]? = some y → ∃ c o, cl.lookup y = some c ∧ os.lookup c = some o ∧ ∀ v, ws[i]? = some (some v) → ∃ u, o.data = .cell (some u) ∧ RelV v u) ∧
  ∀ x y c, cl.lookup x = some c → cl.lookup y = some c → x = y
theorem mem_lookup1 {α : Type} {l : List (Str × α)} {y : Str} {c : α} (h : l.lookup y = some c) : (y, c) ∈ l := by
  induction l with
  | nil => cases h
  | cons p l ih =>
    obtain ⟨a, b⟩ := p
    rw [List.lookup_cons] at h
    cases q : y == a with
    | true =>
      rw [q] at h
      cases h
      rw [beq_iff_eq.mp q]
      exact List.mem_cons_self
    | false =>
      rw [q] at h
      exact List.mem_cons_of_mem _ (ih h)
theorem not_mem_look {os : Cells} {c : Addr} (h : os.lookup c = none) : ∀ q ∈ os, q.1 ≠ c := by
  induction os with
  | nil => exact fun q z => nomatch z
  | cons p os ih =>
    rw [List.lookup_cons] at h
    intro q hq
    cases e : c == p.1 with
    | true => rw [e] at h; cases h
    | false =>
      rw [e] at h
      rcases List.mem_cons.mp hq with rfl | hq
      · exact Ne.symm (beq_eq_false_iff_ne.mp e)
      · exact ih h q hq
theorem run_calL {k : Nat} {fd : FuncData} {ps fr : List Str} {sp : Sp} {pins : List (Addr × Obj)} {s : Shared} {ws : List (Option V)} {us : List Value} {vs : List V} {Q : VK} (Fo : FnOk X.prog X.w X.K X.mg X.base CX0 k f fd ps sp) (hr : Room k X.A) (hb : Binds X.K fd ps []) (I : Inv X pins σ H s) (C : NdefX.CellsAt cl fr ws s.heap H)
    (hcl : ∀ y c, cl.lookup y = some c → y ∈ fr ∧ X.env.cells.lookup y = some c) (hfn : ∀ y, X.fn y = true) (r : Vals vs us) (h : ∀ os : Cells, OsOk os cl fr ws H → sp vs (addC os H) (fun v H' => (∀ a o, os.lookup a = some o → H' a = some (CellO a o)) ∧ Q v (subC os H')) E0) :
    wpAny (model X.prog X.w) X.A (call (.ref f) us) (EP X pins σ Q) X.xe s := by
  have mem : ∀ y c, cl.lookup y = some c → c ∈ fr.filterMap fun y => cl.lookup y := fun y c z => List.mem_filterMap.mpr ⟨y, (hcl y c z).1, z⟩
  have there : ∀ y c, cl.lookup y = some c → ∃ o v, s.heap.get? c = some o ∧ o.data = .cell v := fun y c z => by
    obtain ⟨_, v, o, g1, g2⟩ := C.all y c z
    exact ⟨o, v, g1, g2⟩
  have look : ∀ c o, (osOf s.heap (fr.filterMap fun y => cl.lookup y)).lookup c = some o → s.heap.get? c = some o ∧ ∃ y, cl.lookup y = some c := fun c o z => by
    rw [osOf_look] at z
    split at z
    · rename_i hm
      obtain ⟨y, _, hy⟩ := List.mem_filterMap.mp hm
      exact ⟨z, y, hy⟩
    · cases z
  have OK : OsOk (osOf s.heap (fr.filterMap fun y => cl.lookup y)) cl fr ws H := by
    refine ⟨fun y c z => ?_, fun c o z => ?_, fun i y z => ?_, C.inj⟩
    · obtain ⟨o, v, g1, _⟩ := there y c z
      exact ⟨o, by rw [osOf_look, if_pos (mem y c z)]; exact g1⟩
    · obtain ⟨g1, y, hy⟩ := look c o z
      obtain ⟨o', v, g2, g3⟩ := there y c hy
      rw [g1] at g2
      cases g2
      exact ⟨(C.all y c hy).1, v, g3⟩
    · obtain ⟨c, g1, g2⟩ := C.has i y z
      obtain ⟨o, v, g3, g4⟩ := there y c g1
      refine ⟨c, o, g1, by rw [osOf_look, if_pos (mem y c g1)]; exact g3, fun v' hv' => ?_⟩
      obtain ⟨u, g5, o', g6, g7⟩ := g2 v' hv'
      rw [g3] at g6
      cases g6
      exact ⟨u, g7, g5⟩
  have hn : ∀ a o, (osOf s.heap (fr.filterMap fun y => cl.lookup y)).lookup a = some o → H a = none ∧ s.heap.get? a = some o ∧ X.base.get? a = none ∧ a ∉ frs X.stack := fun a o z => by
    obtain ⟨g1, y, hy⟩ := look a o z
    have hx := (hcl y a hy).2
    have hge := I.ok.cab y a (hfn y) hx
    refine ⟨(C.all y a hy).1, g1, ?_, fun w => ?_⟩
    · cases q : X.base.get? a with
      | none => rfl
      | some ob => exact absurd (Nat.lt_of_lt_of_le (Heap.lt_size q) (Nat.le_trans I.ok.bsz hge)) (Nat.lt_irrefl _)
    · rcases List.mem_cons.mp (I.stkSub a w) with w2 | w2
      · exact I.cne y a hx w2
      · obtain ⟨_, ob, ho, _⟩ := I.ok.funs.mem w2
        exact absurd (Nat.lt_of_lt_of_le (Heap.lt_size ho) hge) (Nat.lt_irrefl _)
  have hsp := h _ OK
  have e0 := I.env0
  have hl : us.length = ps.length := by rw [← r.length]; exact Fo.len _ _ _ _ hsp
  have bt := hb s us I.kIn (by rw [List.append_nil]; exact hl)
  rw [List.append_nil] at bt
  refine wpAny_call (codeAny_mono (Fo.run X.A X.stack s (addC _ H) ⟨us, []⟩ us vs _ E0 hr (env0_add e0 hn) bt r hsp) fun rr s' hq' => ?_)
  cases rr with
  | error e => exact False.elim hq'
  | ok fl =>
    cases fl with
    | ret u => exact I.after (ce_sub e0 hn hq' fun v H' q => q)
    | next => exact False.elim hq'
    | brk => exact False.elim hq'
    | cont => exact False.elim hq'
theorem pe_calL {k : Nat} {n : Str} {fd : FuncData} {ps fr : List Str} {js : List Nat} {sp : Sp} {t : TA} (Fo : FnOk X.prog X.w X.K X.mg X.base CX0 k f fd ps sp) (hr : Room k X.A) (hg : Gl X n) (hm : X.mg n = some (.ref f)) (hk : PySem.W.keepIn X.K (.ref f) = true) (hb : Binds X.K fd ps []) (hd : (n == ("__debug__" : Str)) = false)
    (cp : X.Ok → NdefX.Caps X cl fr js) (hcl : ∀ y c, cl.lookup y = some c → y ∈ fr) (hfn : ∀ y, X.fn y = true) (ha : PA X (x :: xs) t) (hs : noStar x = true) (hs2 : xs.all noStar = true) :
    PE X (.Call (.Name n pos) (x :: xs) [] pos') (fun σ H Q => t σ H fun vs H1 => ∀ os : Cells, OsOk os cl fr (js.map (NdefX.slotAt σ)) H1 → sp vs (addC os H1) (fun v H' => (∀ a o, os.lookup a = some o → H' a = some (CellO a o)) ∧ Q v (subC os H')) E0) := by
  refine ⟨fun pins s σ H Q I h => ?_⟩
  refine wpAny_Call_Name_kw (ld_glob I hg hm ?_ hd)
  refine PySem.W.callWith_K (h₀ := X.base) I.ok.mod.kin hk (thn (ha.run pos' pins s σ H _ I h) fun us s1 ⟨vs, H1, I1, r, q⟩ => ⟨I1.kIn, ?_⟩) (starEach_cons hs) (noStars hs2)
  have c := cp I1.ok
  exact run_calL Fo hr hb I1 (NdefX.cells_of I1 c) (fun y a z => ⟨hcl y a z, c.sub y a z⟩) hfn r q
end
section
variable {W : W0} {Pr : Prog} {LI : Nat → LamI} {k : Nat} {ms : List Nat} {e : Ent} {X : Cx} {pos pos' lpos : Pos} {x : Expr} {xs : List Expr} {as : E} {f l : Nat} {js pm : List Nat} {n : Str} {c P : Addr} {Fn : FnD}
theorem getAll_reps {F H : Hp} {ρ : Env'} {σ : L2.St} (r : Rel W ms e F ρ σ H) : ∀ {js : List Nat} {caps : List D}, (∀ j ∈ js, j ∉ ms) → getAll ρ js = some caps → ∃ cv, Reps W F caps cv ∧ js.map (NdefX.slotAt σ) = cv.map some
  | [], caps, _, h => by
    rw [getAll] at h
    cases h
    exact ⟨[], .nil, rfl⟩
  | j :: js, caps, hn, h => by
    rw [getAll] at h
    split at h
    · rename_i d hd
      obtain ⟨r1, h1, rfl⟩ := Option.map_eq_some_iff.mp h
      obtain ⟨cv, e1, e2⟩ := getAll_reps r (fun i hi => hn i (List.mem_cons_of_mem _ hi)) h1
      obtain ⟨v, e3, e4⟩ := r.fro j d (hn j List.mem_cons_self) hd
      exact ⟨v :: cv, .cons e4 e1, by rw [List.map_cons, List.map_cons, e2, NdefX.slotAt_of e3]⟩
    · cases h
theorem s_calll (o : Ok W X) (S : Lams W Pr LI k X.prog X.w X.K X.mg X.base) (hr : Room (2 * k) X.A) (hF : Pr.fns[f]? = some Fn) (hmp : Fn.mp = []) (how : Fn.own = false) (hg : Gl X n) (hm : X.mg n = some (.ref (W.fnA f))) (hd : (n == ("__debug__" : Str)) = false)
    (hPT : ∃ nm, (P, nm) ∈ W.T) (hfree : ∀ y ∈ (LI l).scope.names, y.2 = .free → X.env.scope.names.lookup y.1 = some .cell ∨ X.env.scope.names.lookup y.1 = some .free) (hfr : ∀ y ∈ (LI l).fr, (y, NameKind.free) ∈ (LI l).scope.names) (hfr2 : ∀ y ∈ (LI l).scope.names, y.2 = .free → y.1 ∈ (LI l).fr) (hjs : js.map (fun j => X.N[j]?) = (LI l).fr.map some) (hjm : ∀ j ∈ js, j ∉ ms)
    (hfn : ∀ y, X.fn y = true) (ha : PA X (x :: xs) (tApp W ms e (calls Pr k) as (tCons (tLamE W P (LI l) (cloFrom X.env.cells (LI l).scope.names [])) tNil))) (hpl : froAs as = true) (hpa : plArgs as = true) (hpm : pm = List.range Fn.np) (hlen : (argK as).length + 1 = Fn.np) (hs : noStar x = true) (hs2 : xs.all noStar = true) :
    PE X (.Call (.Name n pos) (x :: xs) [] pos') (tE W ms e (calls Pr k) (.calll f as l js pm)) := by
  obtain ⟨fd, ps, F1, F2, B⟩ := S.bin f Fn hF
  refine (pe_calL F1 hr hg hm F2 B hd (fun ok => NdefX.Caps.made ok hfree hfr hjs) (fun y c z => ?_) hfn ha hs hs2).imp fun σ H Q ⟨F, ρ, d, ρ', r, h, kk⟩ => ?_
  · have := mem_lookup1 z
    rcases cloFrom_mem this with w | ⟨w, _⟩
    · cases w
    · exact hfr2 _ w rfl
  · rw [ev] at h
    obtain ⟨p, h1, h⟩ := R.bind_ok h
    split at h
    · rename_i caps hcaps
      split at h
      · rename_i dsP hP
        obtain ⟨r0, h2, h⟩ := R.bind_ok h
        split at h
        · rename_i hz
          obtain ⟨hout, hno⟩ := hz
          cases h
          refine ⟨F, ρ, p.1, p.2, r, h1, fun vs F1 H1 l1 r1 p1 => ⟨r1.tb, fun g c' H2 made => ?_⟩⟩
          have l2 := lamF_le r1 made
          have r2 := r1.lamMade o.m hPT made
          intro os OK
          obtain ⟨ok1, ok2, ok3, ok4⟩ := OK
          have hH2 : ∀ a ob, os.lookup a = some ob → H2 a = none := fun a ob z => (ok2 a ob z).1
          have hF2 : ∀ a ob, os.lookup a = some ob → lamF F1 (LI l) (cloFrom X.env.cells (LI l).scope.names []) g c' a = none := fun a ob z => r2.sub.none (hH2 a ob z)
          have hF1 : ∀ a ob, os.lookup a = some ob → F1 a = none := fun a ob z => l2.none (hF2 a ob z)
          obtain ⟨cv, q1, q2⟩ := getAll_reps r1 hjm hcaps
          -- the frozen part with the cells
          have l3 : Le (lamF F1 (LI l) (cloFrom X.env.cells (LI l).scope.names []) g c') (addC os (lamF F1 (LI l) (cloFrom X.env.cells (LI l).scope.names []) g c')) := fun b u z => by
            cases q : os.lookup b with
            | none => rw [addC_out q]; exact z
            | some ob => rw [hF2 b ob q] at z; cases z
          have sub3 : Le (addC os (lamF F1 (LI l) (cloFrom X.env.cells (LI l).scope.names []) g c')) (addC os H2) := fun b u z => by
            cases q : os.lookup b with
            | none => rw [addC_out q] at z ⊢; exact r2.sub _ _ z
            | some ob => rw [addC_in q] at z ⊢; exact z
          have hclo : Rep W (addC os (lamF F1 (LI l) (cloFrom X.env.cells (LI l).scope.names []) g c')) (.clo l caps) (.ref g) := by
            unfold Rep
            refine ⟨g, cv, os.map (·.1), F1, rfl, (S.clo _ _ _ _ _).mpr ⟨cloFrom X.env.cells (LI l).scope.names [], c', os, l3 _ _ upd_same, l3 _ _ ?_, rfl, ?_, ok1, fun c ob z => ⟨addC_in z, (ok2 c ob z).2⟩, fun x y c z1 z2 => ?_, fun i y z => ?_⟩, l2.trans l3, fun c hc => ?_, q1⟩
            · obtain ⟨_, _, _, _, ne, _⟩ := made
              unfold lamF
              rw [upd_ne (Ne.symm ne)]
              exact upd_same
            · have := congrArg List.length q2
              rw [List.length_map, List.length_map] at this
              have e2 := congrArg List.length hjs
              rw [List.length_map, List.length_map] at e2
              omega
            · exact ok4 x y c z1 z2
            · obtain ⟨c, ob, g1, g2, g3⟩ := ok3 i y z
              have hi : i < cv.length := by
                have := congrArg List.length q2
                rw [List.length_map, List.length_map] at this
                have e2 := congrArg List.length hjs
                rw [List.length_map, List.length_map] at e2
                have := (List.getElem?_eq_some_iff.mp z).1
                omega
              obtain ⟨v, hv⟩ := len_lt hi
              obtain ⟨u, g4, g5⟩ := g3 v (by rw [q2, List.getElem?_map, hv]; rfl)
              exact ⟨c, ob, u, v, g1, g2, g4, hv, g5⟩
            · obtain ⟨q, hq, rfl⟩ := List.mem_map.mp hc
              cases w : os.lookup q.1 with
              | some ob => exact hF1 _ ob w
              | none => exact absurd rfl (not_mem_look w q hq)
          have lP := (permute_ok hP).1
          have gP := (permute_ok hP).2
          have hr1 := p1.reps hpl
          have hl1 : p.1.length = (argK as).length := (p1.at hpa).1
          have rr : Reps W (addC os (lamF F1 (LI l) (cloFrom X.env.cells (LI l).scope.names []) g c')) (p.1 ++ [.clo l caps]) (vs ++ [.ref g]) := (hr1.mono o.m (l2.trans l3)).append (.cons hclo .nil)
          have hnp : dsP.length = Fn.np := by rw [lP, hpm, List.length_range]
          have tf3 : ∀ q ∈ W.T, addC os (lamF F1 (LI l) (cloFrom X.env.cells (LI l).scope.names []) g c') q.1 = none := fun q hq => by
            obtain ⟨ps', w1, _⟩ := r2.tb q hq
            cases w : os.lookup q.1 with
            | none => rw [addC_out w]; exact r2.tf q hq
            | some ob => rw [hH2 _ ob w] at w1; cases w1
          refine ⟨Fn, addC os (lamF F1 (LI l) (cloFrom X.env.cells (LI l).scope.names []) g c'), dsP, r0.1, r0.2, hF, ?_, raw_call h2, fun v F' H' A R' => ?_⟩
          · rw [hmp]
            refine ⟨by rw [rr.length, List.length_append, hl1]; exact hlen, hnp, sub3, tabs_add r2.tb hH2, tf3, fun j d v _ hd hv => ?_, fun j d hj => (nomatch hj), fun i j p hi => (nomatch hi)⟩
            have hj : j < Fn.np := by rw [← hnp]; exact (List.getElem?_eq_some_iff.mp hd).1
            rw [gP j j (by rw [hpm, List.getElem?_range hj])] at hd
            obtain ⟨v', w1, w2⟩ := rr.get hd
            have hv' : (vs ++ [V.ref g])[j]? = some v := hv
            rw [w1] at hv'
            cases hv'
            exact w2
          · rw [how] at R'
            rw [hmp] at A
            have kept : ∀ a ob, os.lookup a = some ob → H' a = some (CellO a ob) := fun a ob z => A.sm a _ (fun _ w => nomatch w) (fun _ w => by cases w) (addC_in z)
            have keptF : ∀ a ob, os.lookup a = some ob → F' a = some (CellO a ob) := fun a ob z => A.le _ _ (addC_in z)
            have A2 : After W [] (lamF F1 (LI l) (cloFrom X.env.cells (LI l).scope.names []) g c') (vs ++ [V.ref g]) H2 [] (subC os F') (subC os H') := by
              refine ⟨fun b u z => ?_, fun b u z => ?_, fun b u z => ?_, fun b u _ q3 q4 => ?_, fun b z => ?_, tabs_sub A.tb kept, fun q hq => ?_, rfl, fun k j d p z => by simp at z⟩
              · cases w : os.lookup b with
                | none => rw [subC_out w]; exact A.le _ _ (by rw [addC_out w]; exact z)
                | some ob => rw [hF2 b ob w] at z; cases z
              · obtain ⟨w, z2⟩ := subC_some z
                rw [subC_out w]
                exact A.sub _ _ z2
              · obtain ⟨w, z2⟩ := subC_some z
                rcases A.nw b u z2 with w2 | w2 | w2
                · rw [addC_out w] at w2; exact .inl w2
                · rw [addC_out w] at w2; exact .inr (.inl w2)
                · exact .inr (.inr w2)
              · cases w : os.lookup b with
                | none => rw [subC_out w]; exact A.sm b u (fun _ w => nomatch w) q3 (by rw [addC_out w]; exact q4)
                | some ob => rw [hH2 b ob w] at q4; cases q4
              · cases w : os.lookup b with
                | none => rw [subC_out w]; exact A.al b (by rw [addC_out w]; exact z)
                | some ob => exact absurd (hH2 b ob w) z
              · cases w : os.lookup q.1 with
                | none => rw [subC_out w]; exact A.tf q hq
                | some ob => exact subC_in w
            refine ⟨kept, kk v (subC os F') (subC os H') (l1.trans (l2.trans A2.le)) ?_ (rep_sub keptF R' hno)⟩
            exact r2.call (ρ' := p.2) (mu := []) (os := []) (mp := []) o.m List.nodup_nil (fun _ z => nomatch z) (fun _ z => nomatch z) (fun _ z => nomatch z) (fun k j i z => by simp at z) (fun j hj => nomatch hj) A2 (fun k d z => by simp at z) rfl
        · cases h
      · cases h
    · cases h

/-! ### fresh lists lent at once -/
theorem PstB.at : ∀ {as : E} {ds : List D} {vs : List V} {F : Hp} {ρ : Env'} {σ : L2.St} {H : Hp}, PstB W ms e as F ρ σ H ds vs → ∀ j : Nat, ((ownFl as)[j]? = some false → ∃ d v, ds[j]? = some d ∧ vs[j]? = some v ∧ Rep W F d v) ∧ ((ownFl as)[j]? = some true → ∃ d v, ds[j]? = some d ∧ vs[j]? = some v ∧ OwnV W ms e F ρ σ H d v ∧ v ∈ ownVals as vs)
  | .anil, _, _, _, _, _, _, p, j => ⟨fun h => by simp [ownFl] at h, fun h => by simp [ownFl] at h⟩
  | .acons a as, _, _, _, _, _, _, p, j => by
    obtain ⟨d, ds', v, r, rfl, rfl, q, h⟩ := p.inv
    rw [ownFl_cons]
    cases j with
    | zero =>
      rcases h with ⟨ha, ho, hn⟩ | ⟨ha, hr⟩
      · rw [ha, ownVals_own ha]
        exact ⟨fun z => by simp at z, fun _ => ⟨d, v, rfl, rfl, ho, List.mem_cons_self⟩⟩
      · rw [ha]
        exact ⟨fun _ => ⟨d, v, rfl, rfl, hr⟩, fun z => by simp at z⟩
    | succ j =>
      obtain ⟨k1, k2⟩ := PstB.at q j
      refine ⟨fun z => by simpa using k1 (by simpa using z), fun z => ?_⟩
      obtain ⟨d2, v2, e1, e2, e3, e4⟩ := k2 (by simpa using z)
      refine ⟨d2, v2, by simpa using e1, by simpa using e2, e3, ?_⟩
      cases ha : isOwnE a with
      | true => rw [ownVals_own ha]; exact List.mem_cons_of_mem _ e4
      | false => rw [ownVals_fro ha]; exact e4
  | .var _, _, _, _, _, _, _, p, _ => p.elim
  | .bor _, _, _, _, _, _, _, p, _ => p.elim
  | .mov _, _, _, _, _, _, _, p, _ => p.elim
  | .mref _, _, _, _, _, _, _, p, _ => p.elim
  | .cst _, _, _, _, _, _, _, p, _ => p.elim
  | .bin _ _ _, _, _, _, _, _, _, p, _ => p.elim
  | .neg _, _, _, _, _, _, _, p, _ => p.elim
  | .cmp _ _ _, _, _, _, _, _, _, p, _ => p.elim
  | .cmp2 _ _ _ _ _, _, _, _, _, _, _, p, _ => p.elim
  | .and _ _, _, _, _, _, _, _, p, _ => p.elim
  | .or _ _, _, _, _, _, _, _, p, _ => p.elim
  | .not _, _, _, _, _, _, _, p, _ => p.elim
  | .ite _ _ _, _, _, _, _, _, _, p, _ => p.elim
  | .tup _, _, _, _, _, _, _, p, _ => p.elim
  | .lst _, _, _, _, _, _, _, p, _ => p.elim
  | .idx _ _, _, _, _, _, _, _, p, _ => p.elim
  | .slc _ _ _, _, _, _, _, _, _, p, _ => p.elim
  | .nop, _, _, _, _, _, _, p, _ => p.elim
  | .call _ _ _ _ _, _, _, _, _, _, _, p, _ => p.elim
  | .new _ _ _ _, _, _, _, _, _, _, p, _ => p.elim
  | .callv _ _, _, _, _, _, _, _, p, _ => p.elim
  | .calll _ _ _ _ _, _, _, _, _, _, _, p, _ => p.elim
  | .callf _ _, _, _, _, _, _, _, p, _ => p.elim
  | .bi _ _, _, _, _, _, _, _, p, _ => p.elim
  | .me _ _ _, _, _, _, _, _, _, p, _ => p.elim
  | .isi _ _, _, _, _, _, _, _, p, _ => p.elim
  | .get _ _ _, _, _, _, _, _, _, p, _ => p.elim
  | .lc _ _ _ _ _, _, _, _, _, _, _, p, _ => p.elim
  | .lam _ _, _, _, _, _, _, _, p, _ => p.elim
  | .astar _ _, _, _, _, _, _, _, p, _ => p.elim
  | .own _, _, _, _, _, _, _, p, _ => p.elim
  | .rng _ _, _, _, _, _, _, _, p, _ => p.elim
  | .enm _, _, _, _, _, _, _, p, _ => p.elim
  | .zip _ _, _, _, _, _, _, _, p, _ => p.elim
theorem PstB.inj : ∀ {as : E} {ds : List D} {vs : List V} {F : Hp} {ρ : Env'} {σ : L2.St} {H : Hp}, PstB W ms e as F ρ σ H ds vs → ∀ (i j : Nat) (u : V), (ownFl as)[i]? = some true → (ownFl as)[j]? = some true → vs[i]? = some u → vs[j]? = some u → i = j := by
  intro as
  induction as with
  | anil => intro ds vs F ρ σ H p i j u h1; simp [ownFl] at h1
  | acons a as _ ih =>
    intro ds vs F ρ σ H p i j u h1 h2 h3 h4
    obtain ⟨d, ds', v, r, rfl, rfl, q, h⟩ := p.inv
    rw [ownFl_cons] at h1 h2
    have mem : ∀ (j : Nat), (ownFl as)[j]? = some true → r[j]? = some u → u ∈ ownVals as r := fun j z1 z2 => by
      obtain ⟨d2, v2, _, e2, _, e4⟩ := (PstB.at q j).2 z1
      rw [z2] at e2
      cases e2
      exact e4
    cases i with
    | zero =>
      cases j with
      | zero => rfl
      | succ j =>
        have h1 : isOwnE a = true := by simpa using h1
        rcases h with ⟨ha, ho, hn⟩ | ⟨ha, hr⟩
        · have h3 : v = u := by simpa using h3
          subst h3
          exact absurd (mem j (by simpa using h2) (by simpa using h4)) hn
        · rw [ha] at h1; cases h1
    | succ i =>
      cases j with
      | zero =>
        have h2 : isOwnE a = true := by simpa using h2
        rcases h with ⟨ha, ho, hn⟩ | ⟨ha, hr⟩
        · have h4 : v = u := by simpa using h4
          subst h4
          exact absurd (mem i (by simpa using h1) (by simpa using h3)) hn
        · rw [ha] at h2; cases h2
      | succ j => rw [ih q i j u (by simpa using h1) (by simpa using h2) (by simpa using h3) (by simpa using h4)]
  | _ => intros; rename_i p _ _ _ _ _ _ _; exact absurd p (by intro z; exact z.elim)
theorem s_callf (o : Ok W X) (S : Lams W Pr LI k X.prog X.w X.K X.mg X.base) (hr : Room (2 * k) X.A) (hF : Pr.fns[f]? = some Fn) (how : Fn.own = false) (hg : Gl X n) (hm : X.mg n = some (.ref (W.fnA f))) (hd : (n == ("__debug__" : Str)) = false)
    (ha : PA X (x :: xs) (tB W ms e (calls Pr k) as)) (hfl : ownFl as = (List.range Fn.np).map fun j => decide (j ∈ Fn.mp)) (hmp : ∀ j ∈ Fn.mp, j < Fn.np) (hs : noStar x = true) (hs2 : xs.all noStar = true) :
    PE X (.Call (.Name n pos) (x :: xs) [] pos') (tE W ms e (calls Pr k) (.callf f as)) := by
  obtain ⟨fd, ps, F1, F2, B⟩ := S.bin f Fn hF
  refine (pe_call (E := E0) F1 hr hg hm F2 B .nil pass0 ha hd (starEach_cons hs) (noStars hs2)).imp fun σ H Q ⟨F, ρ, d, ρ', r, h, kk⟩ => ?_
  rw [ev] at h
  obtain ⟨p, h1, h⟩ := R.bind_ok h
  obtain ⟨r0, h2, h⟩ := R.bind_ok h
  cases h
  refine ⟨F, ρ, p.1, p.2, r, h1, fun vs F2' H2 l2 r2 p2 => ?_⟩
  show spD W Pr k f (vs ++ []) H2 Q E0
  rw [List.append_nil]
  have hlen := p2.length
  rw [hfl, List.length_map, List.length_range] at hlen
  have fl : ∀ j, j < Fn.np → (ownFl as)[j]? = some (decide (j ∈ Fn.mp)) := fun j hj => by
    rw [hfl, List.getElem?_map, List.getElem?_range hj]
    rfl
  have flT : ∀ j, j ∈ Fn.mp → (ownFl as)[j]? = some true := fun j hj => by
    rw [fl j (hmp j hj), decide_eq_true hj]
  have own : ∀ j, j ∈ Fn.mp → ∃ d v, p.1[j]? = some d ∧ vs[j]? = some v ∧ OwnV W ms e F2' p.2 σ H2 d v := fun j hj => by
    obtain ⟨d, v, e1, e2, e3, _⟩ := (PstB.at p2 j).2 (flT j hj)
    exact ⟨d, v, e1, e2, e3⟩
  refine ⟨Fn, F2', p.1, r0.1, r0.2, hF, ⟨hlen.2, hlen.1, r2.sub, r2.tb, r2.tf, fun j d v hj hd hv => ?_, fun j d hj hd => ?_, fun i j q hi hj h3 h4 => PstB.inj p2 i j _ (flT i hi) (flT j hj) h3 h4⟩, raw_call h2, fun v F' H' A R' => ?_⟩
  · have hlt : j < Fn.np := by
      rw [← hlen.1]
      exact (List.getElem?_eq_some_iff.mp hd).1
    obtain ⟨d2, v2, e1, e2, e3⟩ := (PstB.at p2 j).1 (by rw [fl j hlt, decide_eq_false hj])
    rw [hd] at e1
    rw [hv] at e2
    cases e1
    cases e2
    exact e3
  · obtain ⟨d2, v2, e1, e2, q, es, us, g1, g2, g3, g4, g5, _⟩ := own j hj
    rw [hd] at e1
    cases e1
    subst g2
    exact ⟨q, e2, g4, .inl ⟨es, us, g1, g3, g5⟩⟩
  · rw [how] at R'
    refine kk v F' H' (l2.trans A.le) (r2.call (ρ' := p.2) (mu := []) (os := []) o.m List.nodup_nil (fun _ z => nomatch z) (fun _ z => nomatch z) (fun _ z => nomatch z) (fun k j i z => by simp at z) (fun j hj a hv => ?_) A (fun k d z => by simp at z) rfl) R'
    obtain ⟨d2, v2, e1, e2, q, es, us, g1, g2, g3, g4, g5, g6, g7⟩ := own j hj
    rw [e2] at hv
    subst g2
    cases hv
    exact .inr ⟨g6, g7⟩
end
end Pu

set_option Elab.async false
set_option linter.all false
set_option maxRecDepth 100000
set_option maxHeartbeats 2000000
set_option autoImplicit false
/-! Pu, U: what of the text an expression of the language stands for: a checker. -/
namespace Pu
open PySem PySem.Spec PyProof.Rows L2
open LamX (CodeO)
def bopEq : Bop → Operator → Bool
  | .add, .Add => true
  | .sub, .Sub => true
  | .mul, .Mult => true
  | .fdiv, .FloorDiv => true
  | .mod, .Mod => true
  | .pow, .Pow => true
  | _, _ => false
theorem bopEq_ok {o : Bop} {p : Operator} (h : bopEq o p = true) : p = bopOf o := by
  cases o <;> cases p <;> first | rfl | cases h
def copEq : Cop → CmpOp → Bool
  | .eq, .Eq => true
  | .ne, .NotEq => true
  | .lt, .Lt => true
  | .le, .LtE => true
  | .gt, .Gt => true
  | .ge, .GtE => true
  | .isn, .Is => true
  | .isnt, .IsNot => true
  | .inn, .In => true
  | .nin, .NotIn => true
  | _, _ => false
theorem copEq_ok {o : Cop} {p : CmpOp} (h : copEq o p = true) : p = copOf o := by
  cases o <;> cases p <;> first | rfl | cases h

/-! ### tables, contexts -/
structure Ctx where
  N : List Str
  ms : List Nat
  mp : List Nat
  names : List (Str × NameKind)
  sto : List Str
  top : Bool
  lams : List Nat
inductive Ast where
  | e (x : Expr) | w (x : Expr) | es (xs : List Expr) | ks (kws : List Keyword) | par (xs : List Expr) | app (xs : List Expr) (l : Nat) | non | it (tg x : Expr) (wk : Bool)
def isVis (c : Ctx) (n : Str) : Bool := match look c.names n with
  | some .local => true
  | some .cell => true
  | some .free => true
  | _ => false
def dunder (n : Str) : Bool := sEq n "__debug__" || sEq n "__classdict__"
/-- the name at that slot, read -/
def nameOk (c : Ctx) (i : Nat) (n : Str) : Bool := nthIs c.N i n && isVis c n && !dunder n
/-- a name that is read as a global one -/
def isGl (c : Ctx) (n : Str) : Bool := (match look c.names n with
  | some .globalImplicit => true
  | _ => false) && !dunder n
/-- a name that may be stored -/
def storeOk (c : Ctx) (i : Nat) (n : Str) : Bool := nthIs c.N i n && (match look c.names n with
  | some .local => true
  | some .cell => memS n c.sto
  | _ => false)
def relN (outer names : List (Str × NameKind)) : List (Str × NameKind) := names.map fun p => match p.2 with
  | .free => match look outer p.1 with
    | some .cell => (p.1, .cell)
    | _ => p
  | _ => p
def cellNames (names : List (Str × NameKind)) : List Str := names.filterMap fun p => match p.2 with
  | .cell => some p.1
  | _ => none
/-- the context within a comprehension -/
def Ctx.blk (c : Ctx) (scope : Scope) : Ctx := { c with names := relN c.names scope.names, sto := cellNames scope.names, top := false, lams := [] }
def ownsOf (c : Ctx) (own : List Nat) : List (Str × Nat) := own.filterMap fun i => (c.N[i]?).map fun n => (n, i)
def scOf (c : Ctx) : Scope := ⟨.function, c.names, false, false, []⟩
def gOk : N → Ctx → Bool → Ast → Bool
  | .nm i, c, wk, ast => match ast with
    | .e (.Name n _) => storeOk c i n && !memN i c.ms && !memN i c.mp && !wk
    | _ => false
  | .tp a, c, wk, ast => match ast with
    | .e (.Tuple es _ _) => es.all noStar && Nat.beq es.length (nLen a) && gOk a c false (.es es)
    | _ => false
  | .nil, c, wk, ast => match ast with
    | .es [] => true
    | _ => false
  | .cons a b, c, wk, ast => match ast with
    | .es (x :: xs) => noStar x && gOk a c false (.e x) && gOk b c false (.es xs)
    | _ => false
def borq (a b : E) : Bool := !isBor a || quiet b
def pAst : Option Expr → Ast
  | some x => .e x
  | none => .non
def partNop : E → Bool
  | .nop => true
  | _ => false
def boolRest (op : BoolOp) (y : Expr) (rest : List Expr) (pos : Pos) : Expr := match rest with
  | [] => y
  | _ => .BoolOp op (y :: rest) pos
def wRest (op : BoolOp) (y : Expr) (rest : List Expr) (pos : Pos) : Ast := match rest with
  | [] => .e y
  | _ => .w (.BoolOp op (y :: rest) pos)
def constOk (d : D) : Const → Bool
  | .int i => dEq d (.int i)
  | .bool b => dEq d (.bl b)
  | .none => dEq d .non
  | .str x => dEq d (.str x)
  | _ => false
def cstOk (T : Tab) (c : Ctx) (d : D) : Expr → Bool
  | .Constant k _ _ => constOk d k
  | .Name n _ => isGl c n && (match look T.gl n with
    | some (.cst d') => dEq d d'
    | some (.fn f) => dEq d (.fn f)
    | _ => false)
  | _ => false
def pTest (t : Bool) (x : Expr) : Bool := !t || plainTest x
def itAst (it : E) (tg x : Expr) (wk : Bool) : Ast := match plainIt it with
  | true => .e x
  | false => .it tg x wk
def itWk : E → Bool
  | .enm _ => true
  | .zip _ _ => true
  | _ => false
def tyOkB (T : Tab) (c : Ctx) (n : Str) : Ty → Bool
  | .b s => isGl c n && memS n T.bn && ((s == "int" && sEq n "int") || (s == "bool" && sEq n "bool") || (s == "str" && sEq n "str") || (s == "tuple" && sEq n "tuple") || (s == "list" && sEq n "list"))
  | .c k => isGl c n && (match look T.gl n with
    | some (.cls k') => Nat.beq k k'
    | _ => false)
def isTupleE : Expr → Bool
  | .Tuple _ _ _ => true
  | _ => false
def sigEq (a b : Sig) : Bool := Nat.beq a.1 b.1 && Nat.beq a.2.1 b.2.1 && decide (a.2.2.1 = b.2.2.1) && decide (a.2.2.2 = b.2.2.2)
def hasSig (T : Tab) (s : Sig) : Bool := T.sigs.any (sigEq s)
theorem hasSig_ok {T : Tab} {s : Sig} (h : hasSig T s = true) : s ∈ T.sigs := by
  unfold hasSig at h
  rw [List.any_eq_true] at h
  obtain ⟨x, hx, h⟩ := h
  simp only [sigEq, Bool.and_eq_true, decide_eq_true_eq] at h
  obtain ⟨⟨⟨h1, h2⟩, h3⟩, h4⟩ := h
  obtain ⟨a, b, c, d⟩ := s
  obtain ⟨a', b', c', d'⟩ := x
  have e1 : a = a' := Nat.eq_of_beq_eq_true h1
  have e2 : b = b' := Nat.eq_of_beq_eq_true h2
  subst e1 e2
  have e3 : c = c' := h3
  have e4 : d = d' := h4
  subst e3 e4
  exact hx
def ownP (P : Prog) : E → Bool
  | .lst _ => true
  | .lc _ _ _ _ _ => true
  | .mov _ => true
  | .bi b _ => match b with
    | .list => true
    | .sorted => true
    | _ => false
  | .me m _ _ => match m with
    | .split => true
    | _ => false
  | .call f _ _ _ _ => match P.fns[f]? with
    | some F => F.own
    | none => false
  | .own _ => true
  | _ => false
def all2 {α : Type} (f : α → α → Bool) : List α → List α → Bool
  | [], [] => true
  | a :: as, b :: bs => f a b && all2 f as bs
  | _, _ => false
theorem all2_ok {α : Type} {f : α → α → Bool} (h : ∀ a b, f a b = true → a = b) : ∀ {as bs : List α}, all2 f as bs = true → as = bs
  | [], [], _ => rfl
  | a :: as, b :: bs, k => by
    obtain ⟨k1, k2⟩ := Bool.and_eq_true_iff.mp k
    rw [h a b k1, all2_ok h k2]
  | [], _ :: _, k => by cases k
  | _ :: _, [], k => by cases k
/-- the same expression, of the few forms that stand in lambdas -/
def eqX : Nat → Expr → Expr → Bool
  | 0, _, _ => false
  | k + 1, x, y => match x, y with
    | .Name a p, .Name b q => sEq a b && decide (p = q)
    | .Constant a i p, .Constant b j q => decide (a = b) && decide (i = j) && decide (p = q)
    | .Call f es [] p, .Call g fs [] q => eqX k f g && all2 (eqX k) es fs && decide (p = q)
    | .BoolOp o es p, .BoolOp o' fs q => decide (o = o') && all2 (eqX k) es fs && decide (p = q)
    | .Compare x os es p, .Compare y os' fs q => eqX k x y && decide (os = os') && all2 (eqX k) es fs && decide (p = q)
    | .Attribute x a p, .Attribute y b q => eqX k x y && sEq a b && decide (p = q)
    | .Subscript x a p, .Subscript y b q => eqX k x y && eqX k a b && decide (p = q)
    | .BinOp x o a p, .BinOp y o' b q => eqX k x y && decide (o = o') && eqX k a b && decide (p = q)
    | .UnaryOp o a p, .UnaryOp o' b q => decide (o = o') && eqX k a b && decide (p = q)
    | .Tuple es i p, .Tuple fs j q => all2 (eqX k) es fs && decide (i = j) && decide (p = q)
    | _, _ => false
theorem eqX_ok : ∀ {k : Nat} {x y : Expr}, eqX k x y = true → x = y
  | 0, _, _, h => by cases h
  | k + 1, x, y, h => by
    have ih : ∀ a b, eqX k a b = true → a = b := fun a b => eqX_ok
    unfold eqX at h
    split at h
    all_goals first | (cases h; done) | skip
    all_goals simp only [Bool.and_eq_true, decide_eq_true_eq] at h
    · rw [sEq_ok h.1, h.2]
    · rw [h.1.1, h.1.2, h.2]
    · rw [ih _ _ h.1.1, all2_ok ih h.1.2, h.2]
    · rw [h.1.1, all2_ok ih h.1.2, h.2]
    · rw [ih _ _ h.1.1.1, h.1.1.2, all2_ok ih h.1.2, h.2]
    · rw [ih _ _ h.1.1, sEq_ok h.1.2, h.2]
    · rw [ih _ _ h.1.1, ih _ _ h.1.2, h.2]
    · rw [ih _ _ h.1.1.1, h.1.1.2, ih _ _ h.1.2, h.2]
    · rw [h.1.1, ih _ _ h.1.2, h.2]
    · rw [all2_ok ih h.1.1, h.1.2, h.2]
def eqArg : Arg → Arg → Bool
  | ⟨a, none, p⟩, ⟨b, none, q⟩ => sEq a b && decide (p = q)
  | _, _ => false
theorem eqArg_ok {a b : Arg} (h : eqArg a b = true) : a = b := by
  unfold eqArg at h
  split at h
  · simp only [Bool.and_eq_true, decide_eq_true_eq] at h
    rw [sEq_ok h.1, h.2]
  · cases h
/-- the same plain parameters -/
def eqArgs : Arguments → Arguments → Bool
  | ⟨[], a, none, [], [], none, []⟩, ⟨[], b, none, [], [], none, []⟩ => all2 eqArg a b
  | _, _ => false
theorem eqArgs_ok {a b : Arguments} (h : eqArgs a b = true) : a = b ∧ ∀ env, defaultsOf a env = ([], []) := by
  unfold eqArgs at h
  split at h
  · rw [all2_ok (fun _ _ => eqArg_ok) h]
    exact ⟨rfl, fun env => rfl⟩
  · cases h
def lamOk (LI : Nat → LamI) (c : Ctx) (l : Nat) : Expr → Bool
  | .Lambda ps b sc _ => memN l c.lams && eqArgs ps (LI l).params && eqX 30 b (LI l).body && decide (sc = (LI l).scope)
  | _ => false
/-- the slots whose lists are walked -/
def jsOf : E → List Nat
  | .bor i => [i]
  | _ => []
def walkOk (it k elt : E) : Bool := (jsOf it).all fun i => keepB i k && keepB i elt
/-- len(set(y)) -/
def lsAst : Bi → Ast → Option (Str × Str × Expr)
  | .lenset, .e (.Call (.Name n _) [.Call (.Name n2 _) [y] [] _] [] _) => some (n, n2, y)
  | _, _ => none
section
variable (P : Prog) (T : Tab) (LI : Nat → LamI)
def core : E → Bool → Ctx → Ast → Bool
  | .var i, t, c, ast => match ast with
    | .e (.Name n _) => nameOk c i n && !memN i c.ms
    | _ => false
  | .bor i, t, c, ast => match ast with
    | .e (.Name n _) => nameOk c i n && memN i c.ms
    | _ => false
  | .mov i, t, c, ast => match ast with
    | .e (.Name n _) => nameOk c i n && memN i c.ms
    | _ => false
  | .mref _, _, _, _ => false
  | .cst d, t, c, ast => match ast with
    | .e x => cstOk T c d x
    | _ => false
  | .bin o a b, t, c, ast => match ast with
    | .e (.BinOp x op y _) => bopEq o op && core a false c (.e x) && core b false c (.e y) && borq a b
    | _ => false
  | .neg a, t, c, ast => match ast with
    | .e (.UnaryOp .USub x _) => core a false c (.e x) && !isBor a
    | _ => false
  | .cmp o a b, t, c, ast => match ast with
    | .e (.Compare x [op] [y] _) => copEq o op && core a false c (.e x) && core b false c (.e y) && borq a b && noSet y
    | _ => false
  | .cmp2 o o' a b d, t, c, ast => match ast with
    | .e (.Compare x [op, op'] [y, z] _) => copEq o op && copEq o' op' && core a false c (.e x) && core b false c (.e y) && core d false c (.e z) && !isBor a && !isBor b && noSet z
    | _ => false
  | .and a b, t, c, ast => match ast with
    | .e (.BoolOp .And (x :: y :: rest) pos) => match t with
      | false => core a false c (.e x) && core b false c (.e (boolRest .And y rest pos)) && !isBor a && !isBor b
      | true => core a true c (.e x) && core b true c (wRest .And y rest pos)
    | .w (.BoolOp .And (x :: y :: rest) pos) => core a true c (.e x) && core b true c (wRest .And y rest pos)
    | _ => false
  | .or a b, t, c, ast => match ast with
    | .e (.BoolOp .Or (x :: y :: rest) pos) => match t with
      | false => core a false c (.e x) && core b false c (.e (boolRest .Or y rest pos)) && !isBor a && !isBor b
      | true => core a true c (.e x) && core b true c (wRest .Or y rest pos)
    | .w (.BoolOp .Or (x :: y :: rest) pos) => core a true c (.e x) && core b true c (wRest .Or y rest pos)
    | _ => false
  | .not a, t, c, ast => match ast with
    | .e (.UnaryOp .Not x _) => core a t c (.e x) && (t || !isBor a)
    | _ => false
  | .ite k a b, t, c, ast => match ast with
    | .e (.IfExp z x y _) => !t && core k true c (.e z) && core a false c (.e x) && core b false c (.e y) && !isBor a && !isBor b
    | _ => false
  | .tup as, t, c, ast => match ast with
    | .e (.Tuple es _ _) => core as false c (.es es) && froAs as
    | _ => false
  | .lst as, t, c, ast => match ast with
    | .e (.List es _) => core as false c (.es es) && froAs as
    | _ => false
  | .idx a i, t, c, ast => match ast with
    | .e (.Subscript x y _) => core a false c (.e x) && core i false c (.e y) && borq a i && noSlice y
    | _ => false
  | .slc a lo hi, t, c, ast => match ast with
    | .e (.Subscript x (.Slice l h none _) _) => core a false c (.e x) && core lo false c (pAst l) && core hi false c (pAst h) && borq a lo && borq a hi && !isBor lo && !isBor hi
    | _ => false
  | .nop, t, c, ast => match ast with
    | .non => true
    | _ => false
  | .call f as ks pm mu, t, c, ast => match ast with
    | .e (.Call (.Name n _) es kws _) => isGl c n && (match look T.gl n with
      | some (.fn g) => Nat.beq f g
      | _ => false) && (match P.fns[f]? with
      | some Fn => callOk c.ms Fn.np Fn.mp as ks pm mu
      | none => false) && hasSig T (f, es.length, kws.filterMap (·.arg), pm) && core as false c (.es es) && core ks false c (.ks kws) && es.all noStar && kws.all (·.arg.isSome) && Nat.beq es.length (argK as).length && Nat.beq (kws.filterMap (·.arg)).length (argK ks).length
    | _ => false
  | .new k as ks pm, t, c, ast => match ast with
    | .e (.Call (.Name n _) es kws _) => isGl c n && (match look T.gl n with
      | some (.cls g) => Nat.beq k g
      | _ => false) && (match P.cls[k]? with
      | some cd => hasSig T (cd.ini, es.length + 1, kws.filterMap (·.arg), 0 :: pm.map (· + 1))
      | none => false) && newOk as ks pm && core as false c (.es es) && core ks false c (.ks kws) && es.all noStar && kws.all (·.arg.isSome) && Nat.beq es.length (argK as).length && Nat.beq (kws.filterMap (·.arg)).length (argK ks).length
    | _ => false
  | .callv i as, t, c, ast => match ast with
    | .e (.Call (.Name n _) (x :: xs) [] _) => nameOk c i n && !memN i c.ms && core as false c (.es (x :: xs)) && froAs as && noStar x && xs.all noStar
    | _ => false
  | .calll f as l js pm, t, c, ast => match ast with
    | .e (.Call (.Name n _) (x :: xs) [] _) => c.top && isGl c n && (match look T.gl n with
      | some (.fn g) => Nat.beq f g
      | _ => false) && (match P.fns[f]? with
      | some Fn => Fn.mp.isEmpty && !Fn.own && decide (pm = List.range Fn.np) && Nat.beq ((argK as).length + 1) Fn.np
      | none => false) && core as false c (.app (x :: xs) l) && froAs as && plArgs as && noStar x && xs.all noStar && (js.all fun j => !memN j c.ms) &&
        decide (js.map (fun j => c.N[j]?) = (LI l).fr.map some) && ((LI l).scope.names.all fun y => match y.2 with
          | .free => memS y.1 (LI l).fr && (match look c.names y.1 with
            | some .cell => true
            | some .free => true
            | _ => false)
          | _ => true) && (LI l).fr.all fun y => (LI l).scope.names.any fun p => sEq p.1 y && kEq p.2 .free
    | _ => false
  | .callf f as, t, c, ast => match ast with
    | .e (.Call (.Name n _) (x :: xs) [] _) => isGl c n && (match look T.gl n with
      | some (.fn g) => Nat.beq f g
      | _ => false) && (match P.fns[f]? with
      | some Fn => !Fn.own && (Fn.mp.all fun j => decide (j < Fn.np)) && decide (ownFl as = (List.range Fn.np).map fun j => decide (j ∈ Fn.mp))
      | none => false) && core as false c (.par (x :: xs)) && noStar x && xs.all noStar
    | _ => false
  | .bi b as, t, c, ast => match lsAst b ast with
    | some (n, n2, y) => isGl c n && (memS n T.bn && sEq n "len") && isGl c n2 && (memS n2 T.bn && sEq n2 "set") && core as false c (.es [y]) && noStar y && plainAs as
    | none => match ast with
    | .e (.Call (.Name n _) (x :: xs) [] _) => isGl c n && (match b with
      | .gcd => match look T.gl n with
        | some .gcd => true
        | _ => false
      | .lenset => false
      | b => memS n T.bn && sEq n (biN b)) && core as false c (.es (x :: xs)) && noStar x && xs.all noStar && plainAs as
    | _ => false
  | .me m a as, t, c, ast => match ast with
    | .e (.Call (.Attribute x nm apos) [y] [] pos) => sEq nm (meN m) && core a false c (.e x) && core as false c (.es [y]) && noStar y && borq a as && plainAs as && plainBase x && (apos.endLine == pos.line)
    | _ => false
  | .isi a ty, t, c, ast => match ast with
    | .e (.Call (.Name n _) [x, .Name tn _] [] _) => isGl c n && memS n T.bn && sEq n "isinstance" && tyOkB T c tn ty && core a false c (.e x) && noStar x
    | _ => false
  | .get a k q, t, c, ast => match ast with
    | .e (.Attribute x nm _) => (match look T.at_ nm with
      | some q' => Nat.beq q q'
      | none => false) && core a false c (.e x) && !isBor a && plainBase x && (match P.at_ k q with
      | some (.fld _) => true
      | some (.prop f) => (match P.fns[f]? with
        | some Fn => Nat.beq Fn.np 1 && Fn.mp.isEmpty && !Fn.own
        | none => false) && hasSig T (f, 1, [], [0])
      | none => false)
    | _ => false
  | .lc own g it k elt, t, c, ast => match ast with
    | .e (.ListComp x [⟨tg, iter, ifs, isA⟩] scope _) => decide (isA = 0) && blkC c.N (scOf c) scope (ownsOf c own) && decide ((ownsOf c own).map (·.2) = own) && core it false c (itAst it tg iter (itWk it)) && walkOk it k elt && (!itWk it || isTupleE tg) && gOk g (c.blk scope) (itWk it) (.e tg) &&
        (match ifs with
        | [] => (match k with
          | .cst d => dEq d (.bl true)
          | _ => false)
        | [f] => core k true (c.blk scope) (.e f)
        | _ => false) && core elt false (c.blk scope) (.e x) && !isBor elt && noSet iter && (c.mp.all fun i => memN i c.ms) && (own.all fun i => !memN i c.ms) && (nms g).all fun i => memN i own
    | _ => false
  | .lam _ _, _, _, _ => false
  | .anil, t, c, ast => match ast with
    | .es [] => true
    | .ks [] => true
    | .par [] => true
    | .app [x] l => lamOk LI c l x
    | _ => false
  | .acons a as, t, c, ast => match ast with
    | .es (x :: xs) => (match a with
      | .mref i => (match x with
        | .Name n _ => nameOk c i n && memN i c.ms
        | _ => false)
      | a => core a false c (.e x) && noStar x && borq a as) && core as false c (.es xs)
    | .ks (kw :: kws) => core a false c (.e kw.value) && !isRef a && borq a as && core as false c (.ks kws)
    | .par (x :: xs) => core a false c (.e x) && noStar x && !isRef a && !isBor a && core as false c (.par xs)
    | .app (x :: xs) l => core a false c (.e x) && noStar x && !isRef a && borq a as && core as false c (.app xs l)
    | _ => false
  | .astar a as, t, c, ast => match ast with
    | .es (.Starred x _ :: xs) => core a false c (.e x) && !isBor a && core as false c (.es xs)
    | _ => false
  | .own a, t, c, ast => match ast with
    | .e x => core a false c (.e x) && ownP P a && !isOwnE a
    | _ => false
  | .rng a b, t, c, ast => match ast with
    | .it _ (.Call (.Name n _) [x, y] [] _) _ => isGl c n && memS n T.bn && sEq n "range" && core a false c (.e x) && core b false c (.e y) && noStar x && noStar y && !isBor a && !isBor b
    | .it _ (.Call (.Name n _) [y] [] _) _ => isGl c n && memS n T.bn && sEq n "range" && core b false c (.e y) && noStar y && !isBor b && (match a with
      | .cst d => dEq d (.int 0)
      | _ => false)
    | _ => false
  | .enm a, t, c, ast => match ast with
    | .it tg (.Call (.Name n _) [x] [] _) wk => isTupleE tg && wk && isGl c n && memS n T.bn && sEq n "enumerate" && core a false c (.e x) && noStar x && !isBor a
    | _ => false
  | .zip a b, t, c, ast => match ast with
    | .it tg (.Call (.Name n _) [x, y] [] _) wk => isTupleE tg && wk && isGl c n && memS n T.bn && sEq n "zip" && core a false c (.e x) && core b false c (.e y) && noStar x && noStar y && !isBor a && !isBor b
    | _ => false
end
end Pu

set_option Elab.async false
set_option linter.all false
set_option maxRecDepth 100000
set_option maxHeartbeats 2000000
set_option autoImplicit false
/-! Pu, V: what the checker accepts is so: expressions. -/
namespace Pu
open PySem PySem.Spec PyProof.Rows L2
open LamX (CodeO)

structure Sits (W : W0) (P : Prog) (T : Tab) (LI : Nat → LamI) (k : Nat) (X : Cx) : Prop where
  o : Ok W X
  hC : ∀ c, c < W.nC → ClF W c
  fns : Fns W P T.sigs k X.prog X.w X.K X.mg X.base
  lms : Lams W P LI k X.prog X.w X.K X.mg X.base
  room : Room (2 * k + 1) X.A
  gfn : ∀ n f, look T.gl n = some (.fn f) → W.mg n = some (.ref (W.fnA f))
  gcl : ∀ n c, look T.gl n = some (.cls c) → W.mg n = some (.ref (W.clA c)) ∧ c < W.nC
  gcs : ∀ n d, look T.gl n = some (.cst d) → ∃ u v, W.mg n = some u ∧ RelV v u ∧ ∀ F, Rep W F d v
  ggc : ∀ n, look T.gl n = some .gcd → W.mg n = some (.builtin "math.gcd")
  bn : ∀ n, n ∈ T.bn → W.mg n = none
  fl : ∀ c, c < W.nC → (W.flN c).Nodup ∧ (W.flN c).length < 1000
  afl : ∀ c q j n, P.at_ c q = some (.fld j) → look T.at_ n = some q → (W.flN c)[j]? = some n ∧ c < W.nC
  apr : ∀ c q f n, P.at_ c q = some (.prop f) → look T.at_ n = some q → c < W.nC ∧ ∃ pa, PropOf X.K (W.clA c) n pa (W.fnA f)
structure InC (W : W0) (P : Prog) (T : Tab) (LI : Nat → LamI) (k : Nat) (c : Ctx) (X : Cx) : Prop where
  s : Sits W P T LI k X
  N : X.N = c.N
  nd : c.N.Nodup
  nm : X.env.scope.names = c.names
  kd : X.env.scope.kind = .function
  sto : ∀ y ∈ c.sto, X.fn y = true
  px : PassesOwn (model X.prog X.w) X.A X.env X.xe
  top : c.top = true → ∀ y, X.fn y = true
  lam : ∀ l ∈ c.lams, ∃ cc Pa, LamX.TabB X.base X.mg cc Pa ∧ X.env.code = .ref cc ∧ (Pa, fun _ _ => (LI l).q) ∈ W.T ∧ (∀ p ∈ W.T, p.1 = Pa → p.2 = fun _ _ => (LI l).q) ∧ (LI l).q = X.env.qual ++ "<lambda>"
section
variable {W : W0} {P : Prog} {T : Tab} {LI : Nat → LamI} {k : Nat} {c : Ctx} {X : Cx} {n : Str} {i : Nat} {e : Ent}
theorem dunder_no (h : dunder n = false) : (n == ("__debug__" : Str)) = false ∧ (n == ("__classdict__" : Str)) = false := by
  obtain ⟨h1, h2⟩ := Bool.or_eq_false_iff.mp h
  exact ⟨beq_eq_false_iff_ne.mpr (sEq_ne h1), beq_eq_false_iff_ne.mpr (sEq_ne h2)⟩
theorem name_ok (I : InC W P T LI k c X) (h : nameOk c i n = true) : X.N[i]? = some n ∧ Vis X.env.scope n ∧ (n == ("__debug__" : Str)) = false ∧ (n == ("__classdict__" : Str)) = false := by
  unfold nameOk at h
  obtain ⟨h12, h3⟩ := Bool.and_eq_true_iff.mp h
  obtain ⟨h1, h2⟩ := Bool.and_eq_true_iff.mp h12
  obtain ⟨h4, h5⟩ := dunder_no (Bool.not_eq_true' _ |>.mp h3)
  refine ⟨by rw [I.N]; exact nthIs_ok h1, ?_, h4, h5⟩
  unfold isVis at h2
  rw [look_eq, ← I.nm] at h2
  unfold Vis
  split at h2
  · rename_i z; exact .inl z
  · rename_i z; exact .inr (.inl z)
  · rename_i z; exact .inr (.inr z)
  · cases h2
theorem gl_ok (I : InC W P T LI k c X) (h : isGl c n = true) : Gl X n ∧ (n == ("__debug__" : Str)) = false := by
  unfold isGl at h
  obtain ⟨h1, h2⟩ := Bool.and_eq_true_iff.mp h
  refine ⟨?_, (dunder_no (Bool.not_eq_true' _ |>.mp h2)).1⟩
  rw [look_eq, ← I.nm] at h1
  split at h1
  · rename_i z; exact z
  · cases h1
theorem sto_ok (I : InC W P T LI k c X) (h : storeOk c i n = true) : X.N[i]? = some n ∧ Loc X.env.scope n ∧ (X.fn n = true ∨ X.env.scope.names.lookup n = some .local) := by
  unfold storeOk at h
  obtain ⟨h1, h2⟩ := Bool.and_eq_true_iff.mp h
  refine ⟨by rw [I.N]; exact nthIs_ok h1, ?_⟩
  rw [look_eq, ← I.nm] at h2
  unfold L2.Loc
  split at h2
  · rename_i z; exact ⟨.inl z, .inr z⟩
  · rename_i z; exact ⟨.inr z, .inl (I.sto n (memS_ok h2))⟩
  · cases h2
theorem mg_none (I : InC W P T LI k c X) (h : memS n T.bn = true) : X.mg n = none := by
  rw [I.s.o.mg]
  exact I.s.bn n (memS_ok h)
theorem InC.ndN (I : InC W P T LI k c X) : X.N.Nodup := by rw [I.N]; exact I.nd

/-! ### the block of a comprehension -/
theorem relN_eq {names : List (Str × NameKind)} {env : Env} (hk : env.scope.kind = .function) (hn : env.scope.names = c.names) : (names.map fun (n, k) => if (k == NameKind.free && env.scope.kind == .function && env.kindOf n == some .cell) then (n, NameKind.cell) else (n, k)) = relN c.names names := by
  unfold relN
  refine List.map_congr_left fun p _ => ?_
  obtain ⟨n, k⟩ := p
  have hk' : env.kindOf n = c.names.lookup n := by
    show env.scope.names.lookup n = _
    rw [hn]
  simp only [hk, hk', look_eq]
  cases k with
  | free =>
    simp only [beq_self_eq_true, Bool.true_and]
    cases q : c.names.lookup n with
    | none => rfl
    | some k2 => cases k2 <;> rfl
  | _ => rfl
theorem InC.blk (I : InC W P T LI k c X) {scope : Scope} (hk : scope.kind = .function) (hu : ∀ y ∈ scope.names, scope.names.lookup y.1 = some y.2) : InBlk X scope (InC W P T LI k (c.blk scope)) := fun s H C cl fp => by
  refine ⟨⟨⟨I.s.o.k, I.s.o.mg, I.s.o.m, I.s.o.calm, I.s.o.un⟩, I.s.hC, I.s.fns, I.s.lms, I.s.room, I.s.gfn, I.s.gcl, I.s.gcs, I.s.ggc, I.s.bn, I.s.fl, I.s.afl, I.s.apr⟩, I.N, I.nd, ?_, hk, fun y hy => ?_, .never, fun z => (nomatch z), fun l hl => (nomatch hl)⟩
  · exact relN_eq I.kd I.nm
  · show (scope.names.lookup y == some .cell) = true
    obtain ⟨p, hp, hq⟩ := List.mem_filterMap.mp hy
    obtain ⟨n, kd⟩ := p
    cases kd <;> first | (cases hq; done) | skip
    cases hq
    rw [hu _ hp]
    rfl
theorem blkC_sc {scope : Scope} {ow : List (Str × Nat)} (I : InC W P T LI k c X) (h : blkC c.N (scOf c) scope ow = true) : BlkOk X.N X.env.scope scope ow := by
  obtain ⟨h1, h2, h3, h4, h5⟩ := blkOk_by h
  refine ⟨h1, h2, by rw [I.N]; exact h3, fun y hy hf => ?_, by rw [I.N]; exact h5⟩
  rw [I.nm]
  exact h4 y hy hf

/-! ### names that are bound -/
theorem g_sound (I : InC W P T LI k c X) (he : e.mp = c.mp) : ∀ (t : N) (wk : Bool), (∀ x, gOk t c wk (.e x) = true → PG X x (gN W c.ms e wk t)) ∧ ∀ xs, gOk t c wk (.es xs) = true → PGs X xs (gNs W c.ms e t) := by
  intro t
  induction t with
  | nm i =>
    intro wk
    refine ⟨fun x h => ?_, fun xs h => (by unfold gOk at h; cases h)⟩
    unfold gOk at h
    split at h
    · rename_i n p hx
      cases hx
      simp only [Bool.and_eq_true, Bool.not_eq_true'] at h
      obtain ⟨⟨⟨h1, h2⟩, h3⟩, h4⟩ := h
      obtain ⟨g1, g2, g3⟩ := sto_ok I h1
      rw [h4]
      exact g_nm I.ndN g1 g2 g3 (memN_not h2) (by rw [he]; exact memN_not h3)
    · cases h
  | tp a iha =>
    intro wk
    refine ⟨fun x h => ?_, fun xs h => (by unfold gOk at h; cases h)⟩
    unfold gOk at h
    split at h
    · rename_i es kk p hx
      cases hx
      simp only [Bool.and_eq_true] at h
      obtain ⟨⟨h1, h2⟩, h3⟩ := h
      exact g_tp I.s.o h1 (Nat.eq_of_beq_eq_true h2) ((iha false).2 _ h3)
    · cases h
  | nil =>
    intro wk
    refine ⟨fun x h => (by unfold gOk at h; cases h), fun xs h => ?_⟩
    unfold gOk at h
    split at h
    · rename_i hx
      cases hx
      exact gs_nil
    · cases h
  | cons a b iha ihb =>
    intro wk
    refine ⟨fun x h => (by unfold gOk at h; cases h), fun xs h => ?_⟩
    unfold gOk at h
    split at h
    · rename_i x xs hx
      cases hx
      simp only [Bool.and_eq_true] at h
      obtain ⟨⟨h1, h2⟩, h3⟩ := h
      exact gs_cons h1 ((iha false).1 _ h2) ((ihb false).2 _ h3)
    · cases h
end

/-! ### what is to be shown -/
section
variable (W : W0) (P : Prog) (T : Tab) (LI : Nat → LamI) (k : Nat)
abbrev Hold (c : Ctx) (f : Cx → Ent → Prop) : Prop := ∀ X, InC W P T LI k c X → ∀ e : Ent, e.mp = c.mp → f X e
structure Sound (a : E) : Prop where
  own : ∀ c x, core P T LI a false c (.e x) = true → ownP P a = true → Hold W P T LI k c fun X e => PE X x (tO W c.ms e (calls P k) a)
  opd : ∀ c x, core P T LI a false c (.e x) = true → ownP P a = false → Hold W P T LI k c fun X e => PE X x (tL W c.ms e (calls P k) a)
  tst : ∀ c x, core P T LI a true c (.e x) = true → Hold W P T LI k c fun X e => PT X x (tT W c.ms e (calls P k) a)
  tsw : ∀ c x, core P T LI a true c (.w x) = true → Hold W P T LI k c fun X e => PW X x (tT W c.ms e (calls P k) a)
  es : ∀ c xs, core P T LI a false c (.es xs) = true → Hold W P T LI k c fun X e => PA X xs (tA W c.ms e (calls P k) a)
  ks : ∀ c xs, core P T LI a false c (.ks xs) = true → Hold W P T LI k c fun X e => PK X xs (tA W c.ms e (calls P k) a)
  par : ∀ c xs, core P T LI a false c (.par xs) = true → Hold W P T LI k c fun X e => PA X xs (tB W c.ms e (calls P k) a)
  app : ∀ c xs l, core P T LI a false c (.app xs l) = true → Hold W P T LI k c fun X e => (∀ y ∈ (LI l).scope.names, y.2 = .free → X.env.scope.names.lookup y.1 = some .cell ∨ X.env.scope.names.lookup y.1 = some .free) →
    ∃ Pa, (∃ nm, (Pa, nm) ∈ W.T) ∧ PA X xs (tApp W c.ms e (calls P k) a (tCons (tLamE W Pa (LI l) (cloFrom X.env.cells (LI l).scope.names [])) tNil))
  non : ∀ c, core P T LI a false c .non = true → Hold W P T LI k c fun X e => PO X none (tP W c.ms e (calls P k) a) ∧ a = .nop
  it : ∀ c tg x wk, core P T LI a false c (.it tg x wk) = true → Hold W P T LI k c fun X e => PI X tg x (tI W c.ms e (calls P k) wk a)
end
section
variable {W : W0} {P : Prog} {T : Tab} {LI : Nat → LamI} {k : Nat} {c : Ctx} {X : Cx} {a b d : E} {x y : Expr} {e : Ent}
theorem own_not_bor (h : ownP P a = true) : isBor a = false := by
  cases a <;> first | rfl | (cases h; done)
theorem Sound.op (S : Sound W P T LI k a) (h : core P T LI a false c (.e x) = true) : Hold W P T LI k c fun X e => PE X x (tL W c.ms e (calls P k) a) := fun X I e he => by
  cases q : ownP P a with
  | false => exact S.opd c x h q X I e he
  | true => exact PE.fro (own_not_bor q) (PE.freeze I.s.o.m (S.own c x h q X I e he))
theorem Sound.vl (S : Sound W P T LI k a) (h : core P T LI a false c (.e x) = true) (hb : isBor a = false) : Hold W P T LI k c fun X e => PE X x (tE W c.ms e (calls P k) a) := fun X I e he => PE.unfro hb (S.op h X I e he)
/-- a form that is an expression alone -/
theorem Sound.of (h1 : ∀ c x, core P T LI a false c (.e x) = true → Hold W P T LI k c fun X e => (ownP P a = true → PE X x (tO W c.ms e (calls P k) a)) ∧ (ownP P a = false → PE X x (tL W c.ms e (calls P k) a)))
    (ht : ∀ c x, core P T LI a true c (.e x) = true → core P T LI a false c (.e x) = true ∧ plainTest x = true) (hn : ∀ t c ast, (∀ x, ast ≠ .e x) → core P T LI a t c ast = false) : Sound W P T LI k a := by
  have no : ∀ {t c ast}, (∀ x, ast ≠ .e x) → core P T LI a t c ast = true → False := fun n h => by
    rw [hn _ _ _ n] at h
    cases h
  have S0 : ∀ c x, core P T LI a false c (.e x) = true → Hold W P T LI k c fun X e => PE X x (tL W c.ms e (calls P k) a) := fun c x h X I e he => by
    cases q : ownP P a with
    | false => exact (h1 c x h X I e he).2 q
    | true => exact PE.fro (own_not_bor q) (PE.freeze I.s.o.m ((h1 c x h X I e he).1 q))
  exact ⟨fun c x h q X I e he => (h1 c x h X I e he).1 q, fun c x h q X I e he => (h1 c x h X I e he).2 q, fun c x h X I e he => s_tval I.s.o (ht c x h).2 (S0 c x (ht c x h).1 X I e he),
    fun c x h => (no (fun _ z => by cases z) h).elim, fun c xs h => (no (fun _ z => by cases z) h).elim, fun c xs h => (no (fun _ z => by cases z) h).elim, fun c xs h => (no (fun _ z => by cases z) h).elim, fun c xs l h => (no (fun _ z => by cases z) h).elim, fun c h => (no (fun _ z => by cases z) h).elim, fun c tg x wk h => (no (fun _ z => by cases z) h).elim⟩
/-- one that is a value -/
theorem Sound.val (hb : isBor a = false) (ho : ownP P a = false) (h1 : ∀ c x, core P T LI a false c (.e x) = true → Hold W P T LI k c fun X e => PE X x (tE W c.ms e (calls P k) a))
    (ht : ∀ c x, core P T LI a true c (.e x) = true → core P T LI a false c (.e x) = true ∧ plainTest x = true) (hn : ∀ t c ast, (∀ x, ast ≠ .e x) → core P T LI a t c ast = false) : Sound W P T LI k a :=
  .of (fun c x h X I e he => ⟨fun z => (by rw [ho] at z; cases z), fun _ => PE.fro hb (h1 c x h X I e he)⟩) ht hn
theorem Sound.ownv (ho : ownP P a = true) (h1 : ∀ c x, core P T LI a false c (.e x) = true → Hold W P T LI k c fun X e => PE X x (tO W c.ms e (calls P k) a))
    (ht : ∀ c x, core P T LI a true c (.e x) = true → core P T LI a false c (.e x) = true ∧ plainTest x = true) (hn : ∀ t c ast, (∀ x, ast ≠ .e x) → core P T LI a t c ast = false) : Sound W P T LI k a :=
  .of (fun c x h X I e he => ⟨fun _ => h1 c x h X I e he, fun z => by rw [ho] at z; cases z⟩) ht hn
/-- a form that is none of these -/
theorem Sound.never (h : ∀ t c ast, core P T LI a t c ast = false) : Sound W P T LI k a := by
  have no : ∀ {t c ast}, core P T LI a t c ast = true → False := fun z => by
    rw [h] at z
    cases z
  exact ⟨fun _ _ z => (no z).elim, fun _ _ z => (no z).elim, fun _ _ z => (no z).elim, fun _ _ z => (no z).elim, fun _ _ z => (no z).elim, fun _ _ z => (no z).elim, fun _ _ z => (no z).elim, fun _ _ _ z => (no z).elim, fun _ z => (no z).elim, fun _ _ _ _ z => (no z).elim⟩
theorem borq_ok (h : borq a b = true) : isBor a = true → quiet b = true := fun z => by
  unfold borq at h
  rw [z] at h
  exact h
end

/-! ### the forms -/
section
variable {W : W0} {P : Prog} {T : Tab} {LI : Nat → LamI} {k : Nat} {c : Ctx} {X : Cx} {a b d as ks lo hi it elt kk : E} {i : Nat} {e : Ent}
theorem so_var : Sound W P T LI k (.var i) := by
  refine .val rfl rfl (fun c x h X I e he => ?_) (fun c x h => ⟨h, by unfold core at h; split at h; (rename_i hx; cases hx; rfl); cases h⟩) (fun t c ast h => by cases ast <;> first | rfl | exact absurd rfl (h _))
  unfold core at h
  split at h
  · rename_i n p hx
    cases hx
    simp only [Bool.and_eq_true, Bool.not_eq_true'] at h
    obtain ⟨g1, g2, g3, g4⟩ := name_ok I h.1
    exact s_var g1 g2 g3 g4 (memN_not h.2)
  · cases h
theorem so_bor : Sound W P T LI k (.bor i) := by
  refine .of (fun c x h X I e he => ⟨fun z => (nomatch z), fun _ => ?_⟩) (fun c x h => ⟨h, by unfold core at h; split at h; (rename_i hx; cases hx; rfl); cases h⟩) (fun t c ast h => by cases ast <;> first | rfl | exact absurd rfl (h _))
  unfold core at h
  split at h
  · rename_i n p hx
    cases hx
    simp only [Bool.and_eq_true] at h
    obtain ⟨g1, g2, g3, g4⟩ := name_ok I h.1
    exact s_bor g1 g2 g3 g4 (memN_iff.mp h.2)
  · cases h
theorem so_mov : Sound W P T LI k (.mov i) := by
  refine .ownv rfl (fun c x h X I e he => ?_) (fun c x h => ⟨h, by unfold core at h; split at h; (rename_i hx; cases hx; rfl); cases h⟩) (fun t c ast h => by cases ast <;> first | rfl | exact absurd rfl (h _))
  unfold core at h
  split at h
  · rename_i n p hx
    cases hx
    simp only [Bool.and_eq_true] at h
    obtain ⟨g1, g2, g3, g4⟩ := name_ok I h.1
    exact s_mov g1 g2 g3 g4 (memN_iff.mp h.2)
  · cases h
theorem const_ok {q : Const} {d : D} {i : Nat} {p : Pos} {W : W0} {X : Cx} (h : constOk d q = true) : ∃ v, PE X (.Constant q i p) (tC v) ∧ ∀ F, Rep W F d v := by
  unfold constOk at h
  split at h
  · rw [dEq_ok h]; exact ⟨_, pe_int, fun _ => .int⟩
  · rw [dEq_ok h]; exact ⟨_, pe_bl, fun _ => .bl⟩
  · rw [dEq_ok h]; exact ⟨_, pe_non, fun _ => .non⟩
  · rw [dEq_ok h]; exact ⟨_, pe_str, fun _ => .str⟩
  · cases h
theorem so_cst {d : D} : Sound W P T LI k (.cst d) := by
  refine .val rfl rfl (fun c x h X I e he => ?_) (fun c x h => ⟨h, ?_⟩) (fun t c ast h => by cases ast <;> first | rfl | exact absurd rfl (h _))
  · have h : cstOk T c d x = true := h
    unfold cstOk at h
    split at h
    · obtain ⟨v, h1, h2⟩ := const_ok (W := W) (X := X) h
      exact s_cstV h1 h2
    · simp only [Bool.and_eq_true] at h
      obtain ⟨g1, g2⟩ := gl_ok I h.1
      have h3 := h.2
      split at h3
      · rename_i d' hd
        rw [dEq_ok h3]
        obtain ⟨u, v, q1, q2, q3⟩ := I.s.gcs _ _ hd
        exact s_cstV (pe_glob g1 (by rw [I.s.o.mg]; exact q1) q2 g2) q3
      · rename_i f hf
        rw [dEq_ok h3]
        exact s_cstV (pe_glob (v := V.ref (W.fnA f)) (u := Value.ref (W.fnA f)) g1 (by rw [I.s.o.mg]; exact I.s.gfn _ _ hf) rfl g2) fun _ => .fn
      · cases h3
    · cases h
  · have h : cstOk T c d x = true := h
    unfold cstOk at h
    split at h
    · rfl
    · rfl
    · cases h
theorem so_bin {o : Bop} (Sa : Sound W P T LI k a) (Sb : Sound W P T LI k b) : Sound W P T LI k (.bin o a b) := by
  refine .val rfl rfl (fun c x h X I e he => ?_) (fun c x h => ⟨h, by unfold core at h; split at h; (rename_i hx; cases hx; rfl); cases h⟩) (fun t c ast h => by cases ast <;> first | rfl | exact absurd rfl (h _))
  unfold core at h
  split at h
  · rename_i x op y p hx
    cases hx
    simp only [Bool.and_eq_true] at h
    obtain ⟨⟨⟨h1, h2⟩, h3⟩, h4⟩ := h
    rw [bopEq_ok h1]
    exact s_bin I.s.o (Sa.op h2 X I e he) (Sb.op h3 X I e he) (borq_ok h4)
  · cases h
theorem so_neg (Sa : Sound W P T LI k a) : Sound W P T LI k (.neg a) := by
  refine .val rfl rfl (fun c x h X I e he => ?_) (fun c x h => ⟨h, by unfold core at h; split at h; (rename_i hx; cases hx; rfl); cases h⟩) (fun t c ast h => by cases ast <;> first | rfl | exact absurd rfl (h _))
  unfold core at h
  split at h
  · rename_i x p hx
    cases hx
    simp only [Bool.and_eq_true, Bool.not_eq_true'] at h
    exact s_neg (Sa.vl h.1 h.2 X I e he)
  · cases h
theorem so_cmp {o : Cop} (Sa : Sound W P T LI k a) (Sb : Sound W P T LI k b) : Sound W P T LI k (.cmp o a b) := by
  have key : ∀ t c x, core P T LI (.cmp o a b) t c (.e x) = true → Hold W P T LI k c fun X e => PE X x (tE W c.ms e (calls P k) (.cmp o a b)) ∧ PT X x (tT W c.ms e (calls P k) (.cmp o a b)) := fun t c x h X I e he => by
    unfold core at h
    split at h
    · rename_i x op y p hx
      cases hx
      simp only [Bool.and_eq_true] at h
      obtain ⟨⟨⟨⟨h1, h2⟩, h3⟩, h4⟩, h5⟩ := h
      rw [copEq_ok h1]
      exact ⟨s_cmp I.s.o (Sa.op h2 X I e he) (Sb.op h3 X I e he) (borq_ok h4) h5, s_tcmp I.s.o (Sa.op h2 X I e he) (Sb.op h3 X I e he) (borq_ok h4) h5⟩
    · cases h
  have no : ∀ {t c ast}, (∀ x, ast ≠ .e x) → core P T LI (.cmp o a b) t c ast = true → False := fun {t c ast} n h => by
    cases ast <;> first | (cases h; done) | exact absurd rfl (n _)
  exact ⟨fun _ _ _ z => (nomatch z), fun c x h _ X I e he => PE.fro rfl (key _ c x h X I e he).1, fun c x h X I e he => (key _ c x h X I e he).2, fun c x h => (no (fun _ z => by cases z) h).elim, fun c xs h => (no (fun _ z => by cases z) h).elim, fun c xs h => (no (fun _ z => by cases z) h).elim, fun c xs h => (no (fun _ z => by cases z) h).elim, fun c xs l h => (no (fun _ z => by cases z) h).elim, fun c h => (no (fun _ z => by cases z) h).elim, fun c tg x wk h => (no (fun _ z => by cases z) h).elim⟩
theorem so_cmp2 {o o' : Cop} (Sa : Sound W P T LI k a) (Sb : Sound W P T LI k b) (Sd : Sound W P T LI k d) : Sound W P T LI k (.cmp2 o o' a b d) := by
  have key : ∀ t c x, core P T LI (.cmp2 o o' a b d) t c (.e x) = true → Hold W P T LI k c fun X e => PE X x (tE W c.ms e (calls P k) (.cmp2 o o' a b d)) ∧ PT X x (tT W c.ms e (calls P k) (.cmp2 o o' a b d)) := fun t c x h X I e he => by
    unfold core at h
    split at h
    · rename_i x op op' y z p hx
      cases hx
      simp only [Bool.and_eq_true, Bool.not_eq_true'] at h
      obtain ⟨⟨⟨⟨⟨⟨⟨h1, h2⟩, h3⟩, h4⟩, h5⟩, h6⟩, h7⟩, h8⟩ := h
      rw [copEq_ok h1, copEq_ok h2]
      exact ⟨s_cmp2 I.s.o (Sa.op h3 X I e he) (Sb.op h4 X I e he) (Sd.op h5 X I e he) h6 h7 h8, s_tcmp2 I.s.o (Sa.op h3 X I e he) (Sb.op h4 X I e he) (Sd.op h5 X I e he) h6 h7 h8⟩
    · cases h
  have no : ∀ {t c ast}, (∀ x, ast ≠ .e x) → core P T LI (.cmp2 o o' a b d) t c ast = true → False := fun {t c ast} n h => by
    cases ast <;> first | (cases h; done) | exact absurd rfl (n _)
  exact ⟨fun _ _ _ z => (nomatch z), fun c x h _ X I e he => PE.fro rfl (key _ c x h X I e he).1, fun c x h X I e he => (key _ c x h X I e he).2, fun c x h => (no (fun _ z => by cases z) h).elim, fun c xs h => (no (fun _ z => by cases z) h).elim, fun c xs h => (no (fun _ z => by cases z) h).elim, fun c xs h => (no (fun _ z => by cases z) h).elim, fun c xs l h => (no (fun _ z => by cases z) h).elim, fun c h => (no (fun _ z => by cases z) h).elim, fun c tg x wk h => (no (fun _ z => by cases z) h).elim⟩
end
end Pu

set_option Elab.async false
set_option linter.all false
set_option maxRecDepth 100000
set_option maxHeartbeats 2000000
set_option autoImplicit false
/-! Pu, W: what the checker accepts is so: more expressions. -/
namespace Pu
open PySem PySem.Spec PyProof.Rows L2
open LamX (CodeO)

section
variable {W : W0} {P : Prog} {T : Tab} {LI : Nat → LamI} {k : Nat} {c : Ctx} {X : Cx} {a b d as ks lo hi it elt kk : E} {i : Nat} {e : Ent}
theorem rest_pe {op : BoolOp} {y : Expr} {rest : List Expr} {pos : Pos} {t : TE} (h : PE X (boolRest op y rest pos) t) : PE X (.BoolOp op (y :: rest) pos) t := by
  cases rest with
  | nil => exact pe_one h
  | cons z r => exact h
theorem so_and (Sa : Sound W P T LI k a) (Sb : Sound W P T LI k b) : Sound W P T LI k (.and a b) := by
  have tail : ∀ {c y rest pos}, core P T LI b true c (wRest .And y rest pos) = true → Hold W P T LI k c fun X e => PW X (.BoolOp .And (y :: rest) pos) (tT W c.ms e (calls P k) b) := fun {c y rest pos} h X I e he => by
    cases rest with
    | nil => exact pw_and1 (Sb.tst c y h X I e he)
    | cons z r => exact Sb.tsw c _ h X I e he
  refine ⟨fun _ _ _ z => (nomatch z), fun c x h _ X I e he => PE.fro rfl ?_, fun c x h X I e he => ?_, fun c x h X I e he => ?_, fun c xs h => ?_, fun c xs h => ?_, fun c xs h => ?_, fun c xs l h => ?_, fun c h => ?_, fun c tg x wk h => ?_⟩
  · unfold core at h
    split at h
    · rename_i x y rest pos hx
      cases hx
      simp only [Bool.and_eq_true, Bool.not_eq_true'] at h
      obtain ⟨⟨⟨h1, h2⟩, h3⟩, h4⟩ := h
      exact s_and (Sa.vl h1 h3 X I e he) (rest_pe (Sb.vl h2 h4 X I e he))
    · rename_i hx
      cases hx
    · cases h
  · unfold core at h
    split at h
    · rename_i x y rest pos hx
      cases hx
      simp only [Bool.and_eq_true] at h
      exact (s_tand (Sa.tst _ _ h.1 X I e he) (tail h.2 X I e he)).pt
    · rename_i hx
      cases hx
    · cases h
  · unfold core at h
    split at h
    · rename_i hx
      cases hx
    · rename_i x y rest pos hx
      cases hx
      simp only [Bool.and_eq_true] at h
      exact s_tand (Sa.tst _ _ h.1 X I e he) (tail h.2 X I e he)
    · cases h
  all_goals cases h
theorem so_or (Sa : Sound W P T LI k a) (Sb : Sound W P T LI k b) : Sound W P T LI k (.or a b) := by
  have tail : ∀ {c y rest pos}, core P T LI b true c (wRest .Or y rest pos) = true → Hold W P T LI k c fun X e => PW X (.BoolOp .Or (y :: rest) pos) (tT W c.ms e (calls P k) b) := fun {c y rest pos} h X I e he => by
    cases rest with
    | nil => exact pw_or1 (Sb.tst c y h X I e he)
    | cons z r => exact Sb.tsw c _ h X I e he
  refine ⟨fun _ _ _ z => (nomatch z), fun c x h _ X I e he => PE.fro rfl ?_, fun c x h X I e he => ?_, fun c x h X I e he => ?_, fun c xs h => ?_, fun c xs h => ?_, fun c xs h => ?_, fun c xs l h => ?_, fun c h => ?_, fun c tg x wk h => ?_⟩
  · unfold core at h
    split at h
    · rename_i x y rest pos hx
      cases hx
      simp only [Bool.and_eq_true, Bool.not_eq_true'] at h
      obtain ⟨⟨⟨h1, h2⟩, h3⟩, h4⟩ := h
      exact s_or (Sa.vl h1 h3 X I e he) (rest_pe (Sb.vl h2 h4 X I e he))
    · rename_i hx
      cases hx
    · cases h
  · unfold core at h
    split at h
    · rename_i x y rest pos hx
      cases hx
      simp only [Bool.and_eq_true] at h
      exact (s_tor (Sa.tst _ _ h.1 X I e he) (tail h.2 X I e he)).pt
    · rename_i hx
      cases hx
    · cases h
  · unfold core at h
    split at h
    · rename_i hx
      cases hx
    · rename_i x y rest pos hx
      cases hx
      simp only [Bool.and_eq_true] at h
      exact s_tor (Sa.tst _ _ h.1 X I e he) (tail h.2 X I e he)
    · cases h
  all_goals cases h
theorem so_not (Sa : Sound W P T LI k a) : Sound W P T LI k (.not a) := by
  refine ⟨fun _ _ _ z => (nomatch z), fun c x h _ X I e he => PE.fro rfl ?_, fun c x h X I e he => ?_, fun c x h => ?_, fun c xs h => ?_, fun c xs h => ?_, fun c xs h => ?_, fun c xs l h => ?_, fun c h => ?_, fun c tg x wk h => ?_⟩
  · unfold core at h
    split at h
    · rename_i x p hx
      cases hx
      simp only [Bool.and_eq_true, Bool.false_or, Bool.not_eq_true'] at h
      exact s_not (Sa.vl h.1 h.2 X I e he)
    · cases h
  · unfold core at h
    split at h
    · rename_i x p hx
      cases hx
      simp only [Bool.and_eq_true] at h
      exact s_tnot (Sa.tst _ _ h.1 X I e he)
    · cases h
  all_goals cases h
theorem so_ite (Sk : Sound W P T LI k kk) (Sa : Sound W P T LI k a) (Sb : Sound W P T LI k b) : Sound W P T LI k (.ite kk a b) := by
  refine .val rfl rfl (fun c x h X I e he => ?_) (fun c x h => ?_) (fun t c ast h => by cases ast <;> first | rfl | exact absurd rfl (h _))
  · unfold core at h
    split at h
    · rename_i z x y p hx
      cases hx
      simp only [Bool.and_eq_true, Bool.not_eq_true', Bool.not_false, true_and] at h
      obtain ⟨⟨⟨⟨h1, h2⟩, h3⟩, h4⟩, h5⟩ := h
      exact s_ite (Sk.tst _ _ h1 X I e he) (Sa.vl h2 h4 X I e he) (Sb.vl h3 h5 X I e he)
    · cases h
  · unfold core at h
    split at h
    · simp at h
    · cases h
theorem so_tup (Ss : Sound W P T LI k as) : Sound W P T LI k (.tup as) := by
  refine .val rfl rfl (fun c x h X I e he => ?_) (fun c x h => ⟨h, by unfold core at h; split at h; (rename_i hx; cases hx; rfl); cases h⟩) (fun t c ast h => by cases ast <;> first | rfl | exact absurd rfl (h _))
  unfold core at h
  split at h
  · rename_i es n p hx
    cases hx
    simp only [Bool.and_eq_true] at h
    exact s_tup I.s.o (Ss.es _ _ h.1 X I e he) h.2
  · cases h
theorem so_lst (Ss : Sound W P T LI k as) : Sound W P T LI k (.lst as) := by
  refine .ownv rfl (fun c x h X I e he => ?_) (fun c x h => ⟨h, by unfold core at h; split at h; (rename_i hx; cases hx; rfl); cases h⟩) (fun t c ast h => by cases ast <;> first | rfl | exact absurd rfl (h _))
  unfold core at h
  split at h
  · rename_i es p hx
    cases hx
    simp only [Bool.and_eq_true] at h
    exact s_lst I.s.o (Ss.es _ _ h.1 X I e he) h.2
  · cases h
theorem so_idx (Sa : Sound W P T LI k a) (Sb : Sound W P T LI k b) : Sound W P T LI k (.idx a b) := by
  refine .val rfl rfl (fun c x h X I e he => ?_) (fun c x h => ⟨h, by unfold core at h; split at h; (rename_i hx; cases hx; rfl); cases h⟩) (fun t c ast h => by cases ast <;> first | rfl | exact absurd rfl (h _))
  unfold core at h
  split at h
  · rename_i x y p hx
    cases hx
    simp only [Bool.and_eq_true] at h
    obtain ⟨⟨⟨h1, h2⟩, h3⟩, h4⟩ := h
    exact s_idx I.s.o (Sa.op h1 X I e he) (Sb.op h2 X I e he) (borq_ok h3) h4
  · cases h
theorem so_nop : Sound W P T LI k .nop := by
  refine ⟨fun c x h => ?_, fun c x h => ?_, fun c x h => ?_, fun c x h => ?_, fun c xs h => ?_, fun c xs h => ?_, fun c xs h => ?_, fun c xs l h => ?_, fun c h X I e he => ⟨s_pnone, rfl⟩, fun c tg x wk h => ?_⟩
  all_goals cases h
theorem part_ok (Sa : Sound W P T LI k a) {o : Option Expr} (h : core P T LI a false c (pAst o) = true) (hb : isBor a = false) : Hold W P T LI k c fun X e => PO X o (tP W c.ms e (calls P k) a) := fun X I e he => by
  cases o with
  | none => exact (Sa.non c h X I e he).1
  | some x =>
    refine s_psome (Sa.vl h hb X I e he) (fun z => ?_)
    subst z
    cases h
theorem so_slc (Sa : Sound W P T LI k a) (Sl : Sound W P T LI k lo) (Sh : Sound W P T LI k hi) : Sound W P T LI k (.slc a lo hi) := by
  refine .val rfl rfl (fun c x h X I e he => ?_) (fun c x h => ⟨h, by unfold core at h; split at h; (rename_i hx; cases hx; rfl); cases h⟩) (fun t c ast h => by cases ast <;> first | rfl | exact absurd rfl (h _))
  unfold core at h
  split at h
  · rename_i x l hh p2 p hx
    cases hx
    simp only [Bool.and_eq_true, Bool.not_eq_true'] at h
    obtain ⟨⟨⟨⟨⟨⟨h1, h2⟩, h3⟩, h4⟩, h5⟩, h6⟩, h7⟩ := h
    exact s_slc I.s.o (Sa.op h1 X I e he) (part_ok Sl h2 h6 X I e he) (part_ok Sh h3 h7 X I e he) fun z => ⟨borq_ok h4 z, borq_ok h5 z⟩
  · cases h
theorem so_call {f : Nat} {pm : List Nat} {mu : List (Nat × Nat)} (Ss : Sound W P T LI k as) (Sk : Sound W P T LI k ks) : Sound W P T LI k (.call f as ks pm mu) := by
  refine .of (fun c x h X I e he => ?_) (fun c x h => ⟨h, by unfold core at h; split at h; (rename_i hx; cases hx; rfl); cases h⟩) (fun t c ast h => by cases ast <;> first | rfl | exact absurd rfl (h _))
  unfold core at h
  split at h
  · rename_i n p es kws p2 hx
    cases hx
    simp only [Bool.and_eq_true] at h
    obtain ⟨⟨⟨⟨⟨⟨⟨⟨⟨h1, h2⟩, h3⟩, h4⟩, h5⟩, h6⟩, h7⟩, h8⟩, h9⟩, h10⟩ := h
    obtain ⟨g1, g2⟩ := gl_ok I h1
    split at h2
    · rename_i g hg
      have hfg := Nat.eq_of_beq_eq_true h2
      subst hfg
      split at h3
      · rename_i Fn hF
        have hm : X.mg n = some (.ref (W.fnA f)) := by rw [I.s.o.mg]; exact I.s.gfn _ _ hg
        have ro : ownP P (.call f as ks pm mu) = Fn.own := by
          show (match P.fns[f]? with | some F => F.own | none => false) = Fn.own
          rw [hF]
        rw [ro]
        exact ⟨fun ho => s_callO I.s.o I.s.fns (I.s.room.mono (Nat.le_succ _)) hF ho (hasSig_ok h4) g1 hm g2 h3 (Ss.es _ _ h5 X I e he) (Sk.ks _ _ h6 X I e he) h7 h8 rfl (Nat.eq_of_beq_eq_true h9) (Nat.eq_of_beq_eq_true h10),
          fun ho => PE.fro rfl (s_call I.s.o I.s.fns (I.s.room.mono (Nat.le_succ _)) hF ho (hasSig_ok h4) g1 hm g2 h3 (Ss.es _ _ h5 X I e he) (Sk.ks _ _ h6 X I e he) h7 h8 rfl (Nat.eq_of_beq_eq_true h9) (Nat.eq_of_beq_eq_true h10))⟩
      · cases h3
    · cases h2
  · cases h
theorem so_new {q : Nat} {pm : List Nat} (Ss : Sound W P T LI k as) (Sk : Sound W P T LI k ks) : Sound W P T LI k (.new q as ks pm) := by
  refine .val rfl rfl (fun c x h X I e he => ?_) (fun c x h => ⟨h, by unfold core at h; split at h; (rename_i hx; cases hx; rfl); cases h⟩) (fun t c ast h => by cases ast <;> first | rfl | exact absurd rfl (h _))
  unfold core at h
  split at h
  · rename_i n p es kws p2 hx
    cases hx
    simp only [Bool.and_eq_true] at h
    obtain ⟨⟨⟨⟨⟨⟨⟨⟨⟨h1, h2⟩, h3⟩, h4⟩, h5⟩, h6⟩, h7⟩, h8⟩, h9⟩, h10⟩ := h
    obtain ⟨g1, g2⟩ := gl_ok I h1
    split at h2
    · rename_i g hg
      have hfg := Nat.eq_of_beq_eq_true h2
      subst hfg
      split at h3
      · rename_i cd hcd
        have hm : X.mg n = some (.ref (W.clA q)) := by rw [I.s.o.mg]; exact (I.s.gcl _ _ hg).1
        exact s_new I.s.o I.s.fns I.s.room hcd (hasSig_ok h3) g1 hm g2 h4 (Ss.es _ _ h5 X I e he) (Sk.ks _ _ h6 X I e he) h7 h8 rfl (Nat.eq_of_beq_eq_true h9) (Nat.eq_of_beq_eq_true h10)
      · cases h3
    · cases h2
  · cases h
theorem so_callv (Ss : Sound W P T LI k as) : Sound W P T LI k (.callv i as) := by
  refine .val rfl rfl (fun c x h X I e he => ?_) (fun c x h => ⟨h, by unfold core at h; split at h; (rename_i hx; cases hx; rfl); cases h⟩) (fun t c ast h => by cases ast <;> first | rfl | exact absurd rfl (h _))
  unfold core at h
  split at h
  · rename_i n p x xs p2 hx
    cases hx
    simp only [Bool.and_eq_true, Bool.not_eq_true'] at h
    obtain ⟨⟨⟨⟨⟨h1, h2⟩, h3⟩, h4⟩, h5⟩, h6⟩ := h
    obtain ⟨g1, g2, g3, g4⟩ := name_ok I h1
    exact s_callv I.s.o I.s.lms (I.s.room.mono (Nat.le_succ _)) g1 g2 g3 g4 (memN_not h2) (Ss.es _ _ h3 X I e he) h4 h5 h6
  · cases h
theorem kEq_free {kd : NameKind} (h : kEq kd .free = true) : kd = .free := by
  cases kd <;> first | rfl | cases h
theorem so_callf {f : Nat} (Ss : Sound W P T LI k as) : Sound W P T LI k (.callf f as) := by
  refine .val rfl rfl (fun c x h X I e he => ?_) (fun c x h => ⟨h, by unfold core at h; split at h; (rename_i hx; cases hx; rfl); cases h⟩) (fun t c ast h => by cases ast <;> first | rfl | exact absurd rfl (h _))
  unfold core at h
  split at h
  · rename_i n p x xs p2 hx
    cases hx
    simp only [Bool.and_eq_true] at h
    obtain ⟨⟨⟨⟨⟨h1, h2⟩, h3⟩, h4⟩, h5⟩, h6⟩ := h
    obtain ⟨g1, g2⟩ := gl_ok I h1
    split at h2
    · rename_i g hg
      have hfg := Nat.eq_of_beq_eq_true h2
      subst hfg
      split at h3
      · rename_i Fn hF
        simp only [Bool.and_eq_true, Bool.not_eq_true', decide_eq_true_eq, List.all_eq_true] at h3
        obtain ⟨⟨e1, e2⟩, e3⟩ := h3
        exact s_callf I.s.o I.s.lms (I.s.room.mono (Nat.le_succ _)) hF e1 g1 (by rw [I.s.o.mg]; exact I.s.gfn _ _ hg) g2 (Ss.par _ _ h4 X I e he) e3 e2 h5 h6
      · cases h3
    · cases h2
  · cases h
theorem so_calll {f l : Nat} {js pm : List Nat} (Ss : Sound W P T LI k as) : Sound W P T LI k (.calll f as l js pm) := by
  refine .val rfl rfl (fun c x h X I e he => ?_) (fun c x h => ⟨h, by unfold core at h; split at h; (rename_i hx; cases hx; rfl); cases h⟩) (fun t c ast h => by cases ast <;> first | rfl | exact absurd rfl (h _))
  unfold core at h
  split at h
  · rename_i n p x xs p2 hx
    cases hx
    simp only [Bool.and_eq_true] at h
    obtain ⟨⟨⟨⟨⟨⟨⟨⟨⟨⟨⟨⟨h0, h1⟩, h2⟩, h3⟩, h4⟩, h5⟩, h6⟩, h7⟩, h8⟩, h9⟩, h10⟩, h11⟩, h12⟩ := h
    obtain ⟨g1, g2⟩ := gl_ok I h1
    split at h2
    · rename_i g hg
      have hfg := Nat.eq_of_beq_eq_true h2
      subst hfg
      split at h3
      · rename_i Fn hF
        simp only [Bool.and_eq_true, Bool.not_eq_true', decide_eq_true_eq] at h3
        obtain ⟨⟨⟨e1, e2⟩, e3⟩, e4⟩ := h3
        have hm : X.mg n = some (.ref (W.fnA f)) := by rw [I.s.o.mg]; exact I.s.gfn _ _ hg
        have free1 : ∀ y ∈ (LI l).scope.names, y.2 = .free → y.1 ∈ (LI l).fr ∧ (X.env.scope.names.lookup y.1 = some .cell ∨ X.env.scope.names.lookup y.1 = some .free) := fun y hy hf => by
          have := List.all_eq_true.mp h11 y hy
          rw [hf] at this
          simp only [Bool.and_eq_true] at this
          refine ⟨memS_ok this.1, ?_⟩
          have q := this.2
          rw [look_eq, ← I.nm] at q
          split at q
          · rename_i z; exact .inl z
          · rename_i z; exact .inr z
          · cases q
        obtain ⟨Pa, hPT, hA⟩ := Ss.app _ _ _ h4 X I e he fun y hy hf => (free1 y hy hf).2
        refine s_calll I.s.o I.s.lms (I.s.room.mono (Nat.le_succ _)) hF (List.isEmpty_iff.mp e1) e2 g1 hm g2 hPT (fun y hy hf => (free1 y hy hf).2) (fun y hy => ?_) (fun y hy hf => (free1 y hy hf).1) ?_ (fun j hj => memN_not ?_) (I.top h0) hA h5 h6 e3 (Nat.eq_of_beq_eq_true e4) h7 h8
        · have := List.all_eq_true.mp h12 y hy
          obtain ⟨p, hp, q⟩ := List.any_eq_true.mp this
          simp only [Bool.and_eq_true] at q
          have q1 := sEq_ok q.1
          have q2 := kEq_free q.2
          obtain ⟨pn, pk⟩ := p
          have q1 : pn = y := q1
          have q2 : pk = .free := q2
          subst q1 q2
          exact hp
        · rw [I.N]
          exact of_decide_eq_true h10
        · have := List.all_eq_true.mp h9 j hj
          exact Bool.not_eq_true' _ |>.mp this
      · cases h3
    · cases h2
  · cases h
theorem lsAst_ok {b : Bi} {x : Expr} {n n2 : Str} {y : Expr} (h : lsAst b (.e x) = some (n, n2, y)) : ∃ p1 p2 p3 p4, b = .lenset ∧ x = .Call (.Name n p1) [.Call (.Name n2 p2) [y] [] p3] [] p4 := by
  unfold lsAst at h
  split at h
  · rename_i hx
    cases hx
    cases h
    exact ⟨_, _, _, _, rfl, rfl⟩
  · cases h
theorem so_bi {f : Bi} (Ss : Sound W P T LI k as) : Sound W P T LI k (.bi f as) := by
  refine .of (fun c x h X I e he => ?_) (fun c x h => ⟨h, by
    unfold core at h
    split at h
    · rename_i hx
      obtain ⟨p1, p2, p3, p4, rfl, rfl⟩ := lsAst_ok hx
      rfl
    · split at h
      · rename_i hx
        cases hx
        rfl
      · cases h⟩) (fun t c ast h => by cases f <;> cases ast <;> first | rfl | exact absurd rfl (h _))
  unfold core at h
  split at h
  · rename_i n n2 y hx
    obtain ⟨p1, p2, p3, p4, rfl, rfl⟩ := lsAst_ok hx
    simp only [Bool.and_eq_true] at h
    obtain ⟨⟨⟨⟨⟨⟨h1, z1, z2⟩, h2⟩, z3, z4⟩, h3⟩, h4⟩, h5⟩ := h
    have A := Ss.es _ _ h3 X I e he
    have g1 := (gl_ok I h1).1
    have g2 := (gl_ok I h2).1
    have m1 := mg_none I z1
    have m2 := mg_none I z3
    rw [sEq_ok z2] at g1 m1 ⊢
    rw [sEq_ok z4] at g2 m2 ⊢
    exact ⟨fun z => (nomatch z), fun _ => PE.fro rfl (s_lenset I.s.o g1 m1 g2 m2 A h4 h5)⟩
  split at h
  · rename_i n p x xs p2 hx
    cases hx
    simp only [Bool.and_eq_true] at h
    obtain ⟨⟨⟨⟨⟨h1, h2⟩, h3⟩, h4⟩, h5⟩, h6⟩ := h
    obtain ⟨g1, g2⟩ := gl_ok I h1
    have A := Ss.es _ _ h3 X I e he
    have plain : ∀ (b : Bi), (memS n T.bn && sEq n (biN b)) = true → X.mg n = none ∧ n = biN b := fun b z => by
      obtain ⟨z1, z2⟩ := Bool.and_eq_true_iff.mp z
      exact ⟨mg_none I z1, sEq_ok z2⟩
    cases f with
    | gcd =>
      refine ⟨fun z => (nomatch z), fun _ => PE.fro rfl ?_⟩
      have h2 : (match look T.gl n with
        | some .gcd => true
        | _ => false) = true := h2
      split at h2
      · rename_i hg
        exact s_gcd I.s.o g1 (by rw [I.s.o.mg]; exact I.s.ggc _ hg) g2 A h4 h5 h6
      · cases h2
    | lenset => cases h2
    | list =>
      obtain ⟨z1, z2⟩ := plain .list h2
      refine ⟨fun _ => ?_, fun z => (nomatch z)⟩
      subst z2
      exact s_list I.s.o g1 z1 A h4 h5 h6
    | sorted =>
      obtain ⟨z1, z2⟩ := plain .sorted h2
      refine ⟨fun _ => ?_, fun z => (nomatch z)⟩
      subst z2
      exact s_sorted I.s.o g1 z1 A h4 h5 h6
    | int => obtain ⟨z1, z2⟩ := plain _ h2; exact ⟨fun z => (nomatch z), fun _ => PE.fro rfl (s_biT I.s.o rfl z2 g1 z1 A h4 h5 h6)⟩
    | tuple => obtain ⟨z1, z2⟩ := plain _ h2; exact ⟨fun z => (nomatch z), fun _ => PE.fro rfl (s_biT I.s.o rfl z2 g1 z1 A h4 h5 h6)⟩
    | len => obtain ⟨z1, z2⟩ := plain _ h2; exact ⟨fun z => (nomatch z), fun _ => PE.fro rfl (s_biF I.s.o rfl z2 g1 z1 A h4 h5 h6)⟩
    | abs => obtain ⟨z1, z2⟩ := plain _ h2; exact ⟨fun z => (nomatch z), fun _ => PE.fro rfl (s_biF I.s.o rfl z2 g1 z1 A h4 h5 h6)⟩
    | min => obtain ⟨z1, z2⟩ := plain _ h2; exact ⟨fun z => (nomatch z), fun _ => PE.fro rfl (s_biF I.s.o rfl z2 g1 z1 A h4 h5 h6)⟩
    | max => obtain ⟨z1, z2⟩ := plain _ h2; exact ⟨fun z => (nomatch z), fun _ => PE.fro rfl (s_biF I.s.o rfl z2 g1 z1 A h4 h5 h6)⟩
    | min2 => obtain ⟨z1, z2⟩ := plain _ h2; exact ⟨fun z => (nomatch z), fun _ => PE.fro rfl (s_biF I.s.o rfl z2 g1 z1 A h4 h5 h6)⟩
    | max2 => obtain ⟨z1, z2⟩ := plain _ h2; exact ⟨fun z => (nomatch z), fun _ => PE.fro rfl (s_biF I.s.o rfl z2 g1 z1 A h4 h5 h6)⟩
    | sum => obtain ⟨z1, z2⟩ := plain _ h2; exact ⟨fun z => (nomatch z), fun _ => PE.fro rfl (s_biF I.s.o rfl z2 g1 z1 A h4 h5 h6)⟩
    | any => obtain ⟨z1, z2⟩ := plain _ h2; exact ⟨fun z => (nomatch z), fun _ => PE.fro rfl (s_biF I.s.o rfl z2 g1 z1 A h4 h5 h6)⟩
    | all => obtain ⟨z1, z2⟩ := plain _ h2; exact ⟨fun z => (nomatch z), fun _ => PE.fro rfl (s_biF I.s.o rfl z2 g1 z1 A h4 h5 h6)⟩
    | divmod => obtain ⟨z1, z2⟩ := plain _ h2; exact ⟨fun z => (nomatch z), fun _ => PE.fro rfl (s_biF I.s.o rfl z2 g1 z1 A h4 h5 h6)⟩
  · cases h
theorem so_me {m : Me} (Sa : Sound W P T LI k a) (Ss : Sound W P T LI k as) : Sound W P T LI k (.me m a as) := by
  refine .of (fun c x h X I e he => ?_) (fun c x h => ⟨h, by unfold core at h; split at h; (rename_i hx; cases hx; rfl); cases h⟩) (fun t c ast h => by cases ast <;> first | rfl | exact absurd rfl (h _))
  unfold core at h
  split at h
  · rename_i x nm p y p2 hx
    cases hx
    simp only [Bool.and_eq_true] at h
    obtain ⟨⟨⟨⟨⟨⟨⟨h1, h2⟩, h3⟩, h4⟩, h5⟩, h6⟩, h7⟩, h8⟩ := h
    have h1 := sEq_ok h1
    subst h1
    have A := Sa.op h2 X I e he
    have B := Ss.es _ _ h3 X I e he
    cases m with
    | count => exact ⟨fun z => (nomatch z), fun _ => PE.fro rfl (s_me I.s.o (.inl rfl) A B h4 (borq_ok h5) h6 h7 h8)⟩
    | index => exact ⟨fun z => (nomatch z), fun _ => PE.fro rfl (s_me I.s.o (.inr rfl) A B h4 (borq_ok h5) h6 h7 h8)⟩
    | split => exact ⟨fun _ => s_split I.s.o A B h4 (borq_ok h5) h6 h7 h8, fun z => (nomatch z)⟩
  · cases h
theorem ty_pe (I : InC W P T LI k c X) {n : Str} {p : Pos} {t : Ty} (h : tyOkB T c n t = true) : PE X (.Name n p) (tC (tyV W t)) ∧ tyOk W t := by
  cases t with
  | b s =>
    simp only [tyOkB, Bool.and_eq_true] at h
    obtain ⟨⟨h1, h2⟩, h3⟩ := h
    obtain ⟨g1, g2⟩ := gl_ok I h1
    have hm := mg_none I h2
    have key : ∀ (q : String), (s == q && sEq n q) = true → s = q ∧ n = q := fun q z => by
      obtain ⟨z1, z2⟩ := Bool.and_eq_true_iff.mp z
      exact ⟨beq_iff_eq.mp z1, sEq_ok z2⟩
    simp only [Bool.or_eq_true] at h3
    rcases h3 with (((h3 | h3) | h3) | h3) | h3
    all_goals
      obtain ⟨rfl, rfl⟩ := key _ h3
      exact ⟨pe_bltn g1 hm rfl rfl (by decide) g2, by show _ ∈ ["bool", "int", "str", "tuple", "list"]; decide⟩
  | c q =>
    simp only [tyOkB, Bool.and_eq_true] at h
    obtain ⟨h1, h2⟩ := h
    obtain ⟨g1, g2⟩ := gl_ok I h1
    split at h2
    · rename_i q' hq
      have := Nat.eq_of_beq_eq_true h2
      subst this
      obtain ⟨z1, z2⟩ := I.s.gcl _ _ hq
      exact ⟨pe_glob (v := V.ref (W.clA q)) (u := Value.ref (W.clA q)) g1 (by rw [I.s.o.mg]; exact z1) rfl g2, z2⟩
    · cases h2
theorem so_isi {t : Ty} (Sa : Sound W P T LI k a) : Sound W P T LI k (.isi a t) := by
  refine .val rfl rfl (fun c x h X I e he => ?_) (fun c x h => ⟨h, by unfold core at h; split at h; (rename_i hx; cases hx; rfl); cases h⟩) (fun t c ast h => by cases ast <;> first | rfl | exact absurd rfl (h _))
  unfold core at h
  split at h
  · rename_i n p x tn p2 p3 hx
    cases hx
    simp only [Bool.and_eq_true] at h
    obtain ⟨⟨⟨⟨⟨h1, h2⟩, h3⟩, h4⟩, h5⟩, h6⟩ := h
    obtain ⟨g1, g2⟩ := gl_ok I h1
    have hm := mg_none I h2
    have h3 := sEq_ok h3
    subst h3
    obtain ⟨q1, q2⟩ := ty_pe I (p := p2) h4
    exact s_isi I.s.o I.s.hC q2 g1 hm (Sa.op h5 X I e he) q1 h6 rfl
  · cases h
theorem so_get {q r : Nat} (Sa : Sound W P T LI k a) : Sound W P T LI k (.get a q r) := by
  refine .val rfl rfl (fun c x h X I e he => ?_) (fun c x h => ⟨h, by unfold core at h; split at h; (rename_i hx; cases hx; rfl); cases h⟩) (fun t c ast h => by cases ast <;> first | rfl | exact absurd rfl (h _))
  unfold core at h
  split at h
  · rename_i x nm p hx
    cases hx
    simp only [Bool.and_eq_true, Bool.not_eq_true'] at h
    obtain ⟨⟨⟨⟨h1, h2⟩, h3⟩, h4⟩, h5⟩ := h
    split at h1
    · rename_i r' hr
      have := Nat.eq_of_beq_eq_true h1
      subst this
      split at h5
      · rename_i j hat
        obtain ⟨z1, z2⟩ := I.s.afl _ _ _ _ hat hr
        have hat' : (calls P k).at_ q r = some (.fld j) := by cases k <;> exact hat
        exact s_fld I.s.o I.s.hC hat' z1 (I.s.fl q z2).1 (Sa.vl h2 h3 X I e he) h4
      · rename_i f hat
        simp only [Bool.and_eq_true] at h5
        obtain ⟨h6, h7⟩ := h5
        split at h6
        · rename_i Fn hF
          simp only [Bool.and_eq_true, Bool.not_eq_true'] at h6
          obtain ⟨⟨e1, e2⟩, e3⟩ := h6
          obtain ⟨z1, pa, z2⟩ := I.s.apr _ _ _ _ hat hr
          exact s_prop I.s.o I.s.fns I.s.hC I.s.room hat hF (Nat.eq_of_beq_eq_true e1) (List.isEmpty_iff.mp e2) e3 (hasSig_ok h7) z2 z1 (Sa.vl h2 h3 X I e he) h4
        · cases h6
      · cases h5
    · cases h1
  · cases h
end
end Pu

set_option Elab.async false
set_option linter.all false
set_option maxRecDepth 100000
set_option maxHeartbeats 2000000
set_option autoImplicit false
/-! Pu, X: what the checker accepts is so: lists of arguments, comprehensions; all expressions. -/
namespace Pu
open PySem PySem.Spec PyProof.Rows L2
open LamX (CodeO)

section
variable {W : W0} {P : Prog} {T : Tab} {LI : Nat → LamI} {k : Nat} {c : Ctx} {X : Cx} {a b d as ks lo hi it elt kk : E} {i : Nat} {e : Ent}
theorem so_anil : Sound W P T LI k .anil := by
  refine ⟨fun c x h => ?_, fun c x h => ?_, fun c x h => ?_, fun c x h => ?_, fun c xs h X I e he => ?_, fun c xs h X I e he => ?_, fun c xs h X I e he => ?_, fun c xs l h X I e he hfree => ?_, fun c h => ?_, fun c tg x wk h => ?_⟩
  · cases h
  · cases h
  · cases h
  · cases h
  · unfold core at h
    split at h
    · rename_i hx
      cases hx
      exact s_nil
    · rename_i hx; cases hx
    · rename_i hx; cases hx
    · rename_i hx; cases hx
    · cases h
  · unfold core at h
    split at h
    · rename_i hx; cases hx
    · rename_i hx
      cases hx
      exact s_knil
    · rename_i hx; cases hx
    · rename_i hx; cases hx
    · cases h
  · unfold core at h
    split at h
    · rename_i hx; cases hx
    · rename_i hx; cases hx
    · rename_i hx
      cases hx
      exact b_nil
    · rename_i hx; cases hx
    · cases h
  · unfold core at h
    split at h
    · rename_i hx; cases hx
    · rename_i hx; cases hx
    · rename_i hx; cases hx
    · rename_i x l' hx
      cases hx
      unfold lamOk at h
      split at h
      · rename_i ps b sc pos
        simp only [Bool.and_eq_true, decide_eq_true_eq] at h
        obtain ⟨⟨⟨h1, h2⟩, h3⟩, h4⟩ := h
        obtain ⟨e1, e2⟩ := eqArgs_ok h2
        have e3 := eqX_ok h3
        obtain ⟨cc, Pa, g1, g2, g3, g4, g5⟩ := I.lam l (memN_iff.mp h1)
        rw [e1, e3, h4]
        exact ⟨Pa, ⟨_, g3⟩, app_nil (pa_cons (pe_lamE g1 g2 g5 g3 rfl g4 (by rw [← e1]; exact e2 _) hfree) pa_nil rfl)⟩
      · cases h
    · cases h
  · cases h
  · cases h
theorem so_acons (Sa : Sound W P T LI k a) (Ss : Sound W P T LI k as) : Sound W P T LI k (.acons a as) := by
  refine ⟨fun c x h => ?_, fun c x h => ?_, fun c x h => ?_, fun c x h => ?_, fun c xs h X I e he => ?_, fun c xs h X I e he => ?_, fun c xs h X I e he => ?_, fun c xs l h X I e he hfree => ?_, fun c h => ?_, fun c tg x wk h => ?_⟩
  · cases h
  · cases h
  · cases h
  · cases h
  · unfold core at h
    split at h
    · rename_i x xs hx
      cases hx
      obtain ⟨h1, h2⟩ := Bool.and_eq_true_iff.mp h
      have B := Ss.es _ _ h2 X I e he
      split at h1
      · rename_i i
        split at h1
        · rename_i n p
          simp only [Bool.and_eq_true] at h1
          obtain ⟨g1, g2, g3, g4⟩ := name_ok I h1.1
          exact s_ref g1 g2 g3 g4 (memN_iff.mp h1.2) B
        · cases h1
      · rename_i hr
        simp only [Bool.and_eq_true] at h1
        obtain ⟨⟨h3, h4⟩, h5⟩ := h1
        have hr' : isRef a = false := by
          cases a <;> first | rfl | exact absurd rfl (hr _)
        exact s_cons I.s.o.m (Sa.op h3 X I e he) B h4 (borq_ok h5) hr'
    · rename_i hx; cases hx
    · rename_i hx; cases hx
    · rename_i hx; cases hx
    · cases h
  · unfold core at h
    split at h
    · rename_i hx; cases hx
    · rename_i kw kws hx
      cases hx
      simp only [Bool.and_eq_true, Bool.not_eq_true'] at h
      obtain ⟨⟨⟨h1, h2⟩, h3⟩, h4⟩ := h
      exact s_kcons I.s.o.m (Sa.op h1 X I e he) (Ss.ks _ _ h4 X I e he) (borq_ok h3) h2
    · rename_i hx; cases hx
    · rename_i hx; cases hx
    · cases h
  · unfold core at h
    split at h
    · rename_i hx; cases hx
    · rename_i hx; cases hx
    · rename_i x xs hx
      cases hx
      simp only [Bool.and_eq_true, Bool.not_eq_true'] at h
      obtain ⟨⟨⟨⟨h1, h2⟩, h3⟩, h4⟩, h5⟩ := h
      cases ho : isOwnE a with
      | false => exact b_fro I.s.o.m h2 h3 ho (Sa.vl h1 h4 X I e he) (Ss.par _ _ h5 X I e he)
      | true =>
        cases a <;> first | (cases ho; done) | skip
        rename_i a
        refine b_own I.s.o.m h2 ((Sa.own _ _ h1 rfl X I e he).imp fun σ H Q ⟨F, ρ, d, ρ', r, h, q⟩ => ⟨F, ρ, d, ρ', r, by rw [ev]; exact h, q⟩) fun e' => Ss.par _ _ h5 X I e'.1 (e'.2.trans he)
    · rename_i hx; cases hx
    · cases h
  · unfold core at h
    split at h
    · rename_i hx; cases hx
    · rename_i hx; cases hx
    · rename_i hx; cases hx
    · rename_i x xs l' hx
      cases hx
      simp only [Bool.and_eq_true, Bool.not_eq_true'] at h
      obtain ⟨⟨⟨⟨h1, h2⟩, h3⟩, h4⟩, h5⟩ := h
      obtain ⟨Pa, g1, g2⟩ := Ss.app _ _ _ h5 X I e he hfree
      exact ⟨Pa, g1, app_cons I.s.o.m (Sa.op h1 X I e he) g2 h2 (borq_ok h4) h3⟩
    · cases h
  · cases h
  · cases h
theorem so_astar (Sa : Sound W P T LI k a) (Ss : Sound W P T LI k as) : Sound W P T LI k (.astar a as) := by
  refine ⟨fun c x h => ?_, fun c x h => ?_, fun c x h => ?_, fun c x h => ?_, fun c xs h X I e he => ?_, fun c xs h => ?_, fun c xs h => ?_, fun c xs l h => ?_, fun c h => ?_, fun c tg x wk h => ?_⟩
  · cases h
  · cases h
  · cases h
  · cases h
  · unfold core at h
    split at h
    · rename_i x p xs hx
      cases hx
      simp only [Bool.and_eq_true, Bool.not_eq_true'] at h
      obtain ⟨⟨h1, h2⟩, h3⟩ := h
      exact s_star I.s.o h2 (Sa.vl h1 h2 X I e he) (Ss.es _ _ h3 X I e he)
    · cases h
  all_goals cases h
theorem so_own (Sa : Sound W P T LI k a) : Sound W P T LI k (.own a) := by
  have key : ∀ {t c x}, core P T LI (.own a) t c (.e x) = true → Hold W P T LI k c fun X e => PE X x (tO W c.ms e (calls P k) (.own a)) := fun {t c x} h X I e he => by
    have h : (core P T LI a false c (.e x) && ownP P a && !isOwnE a) = true := h
    simp only [Bool.and_eq_true] at h
    exact (Sa.own _ _ h.1.1 h.1.2 X I e he).imp fun σ H Q ⟨F, ρ, d, ρ', r, h, q⟩ => ⟨F, ρ, d, ρ', r, by rw [ev] at h; exact h, q⟩
  refine ⟨fun c x h _ => key h, fun c x h z => (nomatch z), fun c x h X I e he => ?_, fun c x h => ?_, fun c xs h => ?_, fun c xs h => ?_, fun c xs h => ?_, fun c xs l h => ?_, fun c h => ?_, fun c tg x wk h => ?_⟩
  · have h : (core P T LI a false c (.e x) && ownP P a && !isOwnE a) = true := h
    simp only [Bool.and_eq_true, Bool.not_eq_true'] at h
    have hb := own_not_bor h.1.2
    -- the test is that of the value within
    refine (Sa.tst c x ?_ X I e he).imp fun σ H Q ⟨F, ρ, d, ρ', k, r, h, ht, q⟩ => ⟨F, ρ, d, ρ', k, r, by rw [ev] at h; exact h, ht, q⟩
    have h0 := h.1.1
    have h2 := h.1.2
    cases a <;> first | exact h0 | (cases h2; done)
  all_goals cases h
theorem so_rng (Sa : Sound W P T LI k a) (Sb : Sound W P T LI k b) : Sound W P T LI k (.rng a b) := by
  refine ⟨fun c x h => ?_, fun c x h => ?_, fun c x h => ?_, fun c x h => ?_, fun c xs h => ?_, fun c xs h => ?_, fun c xs h => ?_, fun c xs l h => ?_, fun c h => ?_, fun c tg x wk h X I e he => ?_⟩
  · cases h
  · cases h
  · cases h
  · cases h
  · cases h
  · cases h
  · cases h
  · cases h
  · cases h
  · unfold core at h
    split at h
    · rename_i n p x y p2 hx
      cases hx
      simp only [Bool.and_eq_true, Bool.not_eq_true'] at h
      obtain ⟨⟨⟨⟨⟨⟨⟨⟨h1, h2⟩, h3⟩, h4⟩, h5⟩, h6⟩, h7⟩, h8⟩, h9⟩ := h
      obtain ⟨g1, g2⟩ := gl_ok I h1
      have hm := mg_none I h2
      have h3 := sEq_ok h3
      subst h3
      exact i_rng2 I.s.o g1 hm h6 h7 (Sa.vl h4 h8 X I e he) (Sb.vl h5 h9 X I e he)
    · rename_i n p y p2 hx
      cases hx
      simp only [Bool.and_eq_true, Bool.not_eq_true'] at h
      obtain ⟨⟨⟨⟨⟨⟨h1, h2⟩, h3⟩, h4⟩, h5⟩, h6⟩, h7⟩ := h
      obtain ⟨g1, g2⟩ := gl_ok I h1
      have hm := mg_none I h2
      have h3 := sEq_ok h3
      subst h3
      split at h7
      · rw [dEq_ok h7]
        exact i_rng1 I.s.o g1 hm h5 (Sb.vl h4 h6 X I e he)
      · cases h7
    · cases h
theorem so_enm (Sa : Sound W P T LI k a) : Sound W P T LI k (.enm a) := by
  refine ⟨fun c x h => ?_, fun c x h => ?_, fun c x h => ?_, fun c x h => ?_, fun c xs h => ?_, fun c xs h => ?_, fun c xs h => ?_, fun c xs l h => ?_, fun c h => ?_, fun c tg x wk h X I e he => ?_⟩
  · cases h
  · cases h
  · cases h
  · cases h
  · cases h
  · cases h
  · cases h
  · cases h
  · cases h
  · unfold core at h
    split at h
    · rename_i tg n p x p2 wk hx
      cases hx
      simp only [Bool.and_eq_true, Bool.not_eq_true'] at h
      obtain ⟨⟨⟨⟨⟨⟨⟨h1, h2⟩, h3⟩, h4⟩, h5⟩, h6⟩, h7⟩, h8⟩ := h
      obtain ⟨g1, g2⟩ := gl_ok I h3
      have hm := mg_none I h4
      have h5 := sEq_ok h5
      subst h5
      cases tg <;> first | (cases h1; done) | skip
      rw [h2]
      exact i_enm I.s.o g1 hm h7 (Sa.vl h6 h8 X I e he)
    · cases h
theorem so_zip (Sa : Sound W P T LI k a) (Sb : Sound W P T LI k b) : Sound W P T LI k (.zip a b) := by
  refine ⟨fun c x h => ?_, fun c x h => ?_, fun c x h => ?_, fun c x h => ?_, fun c xs h => ?_, fun c xs h => ?_, fun c xs h => ?_, fun c xs l h => ?_, fun c h => ?_, fun c tg x wk h X I e he => ?_⟩
  · cases h
  · cases h
  · cases h
  · cases h
  · cases h
  · cases h
  · cases h
  · cases h
  · cases h
  · unfold core at h
    split at h
    · rename_i tg n p x y p2 wk hx
      cases hx
      simp only [Bool.and_eq_true, Bool.not_eq_true'] at h
      obtain ⟨⟨⟨⟨⟨⟨⟨⟨⟨⟨h1, h2⟩, h3⟩, h4⟩, h5⟩, h6⟩, h7⟩, h8⟩, h9⟩, h10⟩, h11⟩ := h
      obtain ⟨g1, g2⟩ := gl_ok I h3
      have hm := mg_none I h4
      have h5 := sEq_ok h5
      subst h5
      cases tg <;> first | (cases h1; done) | skip
      rw [h2]
      exact i_zip I.s.o g1 hm h8 h9 (Sa.vl h6 h10 X I e he) (Sb.vl h7 h11 X I e he)
    · cases h

/-! ### what is walked, in all -/
theorem it_sound (Si : Sound W P T LI k it) {tg iter : Expr} {wk : Bool} (h : core P T LI it false c (itAst it tg iter wk) = true) (hb : isBor it = false) (hw : wk = itWk it) (ht : wk = true → isTupleE tg = true) : Hold W P T LI k c fun X e => PI X tg iter (tI W c.ms e (calls P k) wk it) := fun X I e he => by
  unfold itAst at h
  split at h
  · rename_i hp
    exact i_val I.s.o hp (Si.vl h hb X I e he)
  · exact Si.it _ _ _ _ h X I e he

theorem it_soundG (Si : Sound W P T LI k it) {tg iter : Expr} {wk : Bool} {own : List Nat} (h : core P T LI it false c (itAst it tg iter wk) = true) (hw : wk = itWk it) (ht : wk = true → isTupleE tg = true) (ho : ∀ i ∈ own, i ∉ c.ms) : Hold W P T LI k c fun X e => PI X tg iter (tIG W c.ms e (calls P k) wk own (jsOf it) it) := fun X I e he => by
  by_cases hb : isBor it = true
  · cases it <;> first | (cases hb; done) | skip
    rename_i i
    have h' : core P T LI (.bor i) false c (.e iter) = true := h
    refine i_bor I.s.o ?_ ho (Si.op h' X I e he)
    unfold core at h'
    split at h'
    · simp only [Bool.and_eq_true] at h'
      exact memN_iff.mp h'.2
    · cases h'
  · exact i_walk (it_sound Si h (by simpa using hb) hw ht X I e he)
theorem walkOk_ok {it k elt : E} (h : walkOk it k elt = true) : (∀ i ∈ jsOf it, keepB i k = true) ∧ ∀ i ∈ jsOf it, keepB i elt = true :=
  ⟨fun i hi => (Bool.and_eq_true_iff.mp (List.all_eq_true.mp h i hi)).1, fun i hi => (Bool.and_eq_true_iff.mp (List.all_eq_true.mp h i hi)).2⟩
theorem jsOf_own {it : E} {own : List Nat} {x : Ast} (h : core P T LI it false c x = true) (ho : ∀ i ∈ own, i ∉ c.ms) : ∀ i ∈ jsOf it, i ∉ own := fun i hi hw => by
  cases it <;> first | (cases hi; done) | skip
  rename_i j
  cases List.mem_singleton.mp hi
  unfold core at h
  split at h
  · simp only [Bool.and_eq_true] at h
    exact ho i hw (memN_iff.mp h.2)
  · cases h
/-! ### comprehensions -/
theorem so_lc {own : List Nat} {g : N} (Si : Sound W P T LI k it) (Sk : Sound W P T LI k kk) (Se : Sound W P T LI k elt) : Sound W P T LI k (.lc own g it kk elt) := by
  refine .ownv rfl (fun c x h X I e he => ?_) (fun c x h => ⟨h, by unfold core at h; split at h; (rename_i hx; cases hx; rfl); cases h⟩) (fun t c ast h => by cases ast <;> first | rfl | exact absurd rfl (h _))
  unfold core at h
  split at h
  · rename_i x tg iter ifs isA scope p hx
    cases hx
    simp only [Bool.and_eq_true, Bool.not_eq_true', decide_eq_true_eq] at h
    obtain ⟨⟨⟨⟨⟨⟨⟨⟨⟨⟨⟨⟨⟨h1, h2⟩, h3⟩, h4⟩, h5⟩, h6⟩, h7⟩, h8⟩, h9⟩, h10⟩, h11⟩, h12⟩, h13⟩, h14⟩ := h
    subst h1
    have ok := blkC_sc I h2
    have I2 := I.blk ok.kind ok.uniq
    have hm : ∀ i ∈ e.mp, i ∈ c.ms := fun i hi => by
      rw [he] at hi
      exact memN_iff.mp (List.all_eq_true.mp h12 i hi)
    have hos : ∀ i ∈ own, i ∉ c.ms := fun i hi => memN_not (Bool.not_eq_true' _ |>.mp (List.all_eq_true.mp h13 i hi))
    refine s_lc (wk := itWk it) I.s.o I.ndN (it_soundG Si h4 rfl (fun z => ?_) hos X I e he) ok h3 (fun e' s H C cl fp => ?_) (fun e' s H C cl fp => ?_) (fun e' s H C cl fp => ?_) h11 hm hos (fun i hi => ?_) (jsOf_own h4 hos) (walkOk_ok h5).1 (walkOk_ok h5).2
    · rw [z] at h6
      exact h6
    · exact (g_sound (I2 s H C cl fp) (e'.2.trans he) g (itWk it)).1 _ h7
    · split at h8
      · split at h8
        · rename_i d
          rw [dEq_ok h8]
          exact s_ifs0
        · cases h8
      · rename_i f
        exact pts_one (Sk.tst _ _ h8 _ (I2 s H C cl fp) e'.1 (e'.2.trans he))
      · cases h8
    · exact Se.vl h9 h10 _ (I2 s H C cl fp) e'.1 (e'.2.trans he)
    · exact memN_iff.mp (List.all_eq_true.mp h14 i hi)
  · cases h

/-! ### all of them -/
theorem sound : ∀ a : E, Sound W P T LI k a := by
  intro a
  induction a with
  | var i => exact so_var
  | bor i => exact so_bor
  | mov i => exact so_mov
  | mref i => exact .never fun t c ast => rfl
  | cst d => exact so_cst
  | bin o a b iha ihb => exact so_bin iha ihb
  | neg a iha => exact so_neg iha
  | cmp o a b iha ihb => exact so_cmp iha ihb
  | cmp2 o o' a b d iha ihb ihd => exact so_cmp2 iha ihb ihd
  | and a b iha ihb => exact so_and iha ihb
  | or a b iha ihb => exact so_or iha ihb
  | not a iha => exact so_not iha
  | ite q a b ihq iha ihb => exact so_ite ihq iha ihb
  | tup as ih => exact so_tup ih
  | lst as ih => exact so_lst ih
  | idx a b iha ihb => exact so_idx iha ihb
  | slc a b d iha ihb ihd => exact so_slc iha ihb ihd
  | nop => exact so_nop
  | call f as ks pm mu ihs ihk => exact so_call ihs ihk
  | new c as ks pm ihs ihk => exact so_new ihs ihk
  | callv i as ih => exact so_callv ih
  | calll f as l js pm ih => exact so_calll ih
  | callf f as ih => exact so_callf ih
  | bi b as ih => exact so_bi ih
  | me m a as iha ihs => exact so_me iha ihs
  | isi a t ih => exact so_isi ih
  | get a q r ih => exact so_get ih
  | lc own t it q elt ihi ihq ihe => exact so_lc ihi ihq ihe
  | lam l js => exact .never fun t c ast => rfl
  | anil => exact so_anil
  | acons a as iha ihs => exact so_acons iha ihs
  | astar a as iha ihs => exact so_astar iha ihs
  | own a ih => exact so_own ih
  | rng a b iha ihb => exact so_rng iha ihb
  | enm a ih => exact so_enm ih
  | zip a b iha ihb => exact so_zip iha ihb
end
end Pu

set_option Elab.async false
set_option linter.all false
set_option maxRecDepth 100000
set_option maxHeartbeats 2000000
set_option autoImplicit false
/-! Pu, Y: what of the text a statement of the language stands for: a checker, and that what it accepts is so. -/
namespace Pu
open PySem PySem.Spec PyProof.Rows L2
open LamX (CodeO)

inductive SAst where
  | s (x : Stmt) | b (xs : List Stmt)
/-- the one statement -/
def SAst.one : SAst → Option Stmt
  | .s x => some x
  | .b [x] => some x
  | _ => none
def locB (c : Ctx) (n : Str) : Bool := match look c.names n with
  | some .local => true
  | _ => false
/-- whether the list is stored before its comprehension's names come back -/
def swB (c : Ctx) (n : Str) (pos' : Pos) : Expr → Bool
  | .ListComp _ _ s p => locB c n && (pos'.line == p.line) && !(s.names.any fun (m, k) => m == n && (k == .local || k == .cell))
  | _ => false
def noSD : Expr → Bool
  | .SetComp _ _ _ _ => false
  | .DictComp _ _ _ _ _ => false
  | _ => true
def isLc : E → Bool
  | .lc _ _ _ _ _ => true
  | _ => false
/-- names to be stored at those slots -/
def glOk (c : Ctx) : List Nat → List Expr → Bool
  | [], [] => true
  | i :: is, .Name n _ :: es => storeOk c i n && glOk c is es
  | _, _ => false
def par2 (c : Ctx) : List Nat → List Expr → List Expr → Bool
  | [i, j], [.Name n1 p1, .Name n2 p2], [x, y] => nthIs c.N i n1 && nthIs c.N j n2 && locB c n1 && locB c n2 && (p2.line == p1.line) && !sEq n1 n2 && noStar x && noStar y && !([x, y].all (foldedForSure 8)) && !([x, y].all (constantsAlone 8))
  | _, _, _ => false
def par3 (c : Ctx) : List Nat → List Expr → List Expr → Bool
  | [i, j, l], [.Name n1 p1, .Name n2 p2, .Name n3 p3], [x, y, z] => nthIs c.N i n1 && nthIs c.N j n2 && nthIs c.N l n3 && locB c n1 && locB c n2 && locB c n3 && (p2.line == p1.line) && (p3.line == p1.line) && !sEq n1 n2 && !sEq n1 n3 && !sEq n2 n3 && noStar x && noStar y && noStar z && !([x, y, z].all (foldedForSure 8)) && !([x, y, z].all (constantsAlone 8))
  | _, _, _ => false
section
variable (P : Prog) (T : Tab) (LI : Nat → LamI)
def tOk : Pu.T → Ctx → Ast → Bool
  | .nm i, c, ast => match ast with
    | .e (.Name n _) => storeOk c i n && !memN i c.ms && !memN i c.mp
    | _ => false
  | .tp a, c, ast => match ast with
    | .e (.Tuple es _ _) => es.all noStar && Nat.beq es.length (tLen a) && tOk a c (.es es)
    | _ => false
  | .nil, c, ast => match ast with
    | .es [] => true
    | _ => false
  | .cons a b, c, ast => match ast with
    | .es (x :: xs) => noStar x && tOk a c (.e x) && tOk b c (.es xs)
    | _ => false
  | .sub i a, c, ast => match ast with
    | .e (.Subscript (.Name n _) y _) => nameOk c i n && memN i c.ms && noSlice y && core P T LI a false c (.e y) && !isBor a
    | _ => false
/-- a = x -/
def asgOk (c : Ctx) : Pu.T → E → Expr → Expr → Bool
  | .nm i, a, .Name n p, x => storeOk c i n && !memN i c.mp && core P T LI a false c (.e x) && noSD x && (match memN i c.ms with
    | true => ownP P a
    | false => !isBor a) && (match swB c n p x with
    | true => isLc a
    | false => true)
  | .tp t, a, .Tuple es k p, x => core P T LI a false c (.e x) && !isBor a && swNone c.names (.Tuple es k p) x && tOk P T LI (.tp t) c (.e (.Tuple es k p))
  | .sub i k0, a, .Subscript y z p, x => core P T LI a false c (.e x) && !isBor a && noComp x && tOk P T LI (.sub i k0) c (.e (.Subscript y z p))
  | _, _, _, _ => false
def parOk (c : Ctx) (t : Pu.T) (as : E) : Expr → Expr → Bool
  | .Tuple es k1 p1, .Tuple xs k2 p2 => core P T LI as false c (.par xs) && (match nmsT t with
    | some is => flOk c.ms c.mp is (ownFl as) && ((es.all noStar && Nat.beq es.length is.length && decide (is.length ≤ 100) && glOk c is es && swNone c.names (.Tuple es k1 p1) (.Tuple xs k2 p2)) || par2 c is es xs || par3 c is es xs)
    | none => false)
  | _, _ => false
def sfOk (c : Ctx) (c0 j : Nat) (a : E) : Expr → Expr → Bool
  | .Attribute (.Name n _) f _, x => nameOk c 0 n && memN 0 c.ms && core P T LI a false c (.e x) && !isBor a && noComp x && (match look T.at_ f with
    | some q => match P.at_ c0 q with
      | some (.fld j') => Nat.beq j j'
      | _ => false
    | none => false)
  | _, _ => false
def retA (P : Prog) (a : E) : Bool → Bool
  | true => ownP P a
  | false => !isBor a
def retN : E → Bool
  | .cst d => dEq d .non
  | _ => false
def okS : S → Bool → Ctx → SAst → Bool
  | .skip, ow, c, ast => match ast with
    | .b [] => true
    | ast => match ast.one with
      | some (.Pass _) => true
      | some (.Expr (.Constant (.str _) _ _) _) => true
      | _ => false
  | .never, ow, c, ast => ast.one.isSome
  | .seq a b, ow, c, ast => match ast with
    | .b (st :: rest) => okS a ow c (.s st) && okS b ow c (.b rest)
    | _ => false
  | .asg t a, ow, c, ast => match ast.one with
    | some (.Assign [tg] x _) => asgOk P T LI c t a tg x
    | _ => false
  | .par t as, ow, c, ast => match ast.one with
    | some (.Assign [tg] x _) => parOk P T LI c t as tg x
    | _ => false
  | .iff q a b, ow, c, ast => match ast.one with
    | some (.If x body els _) => core P T LI q true c (.e x) && okS a ow c (.b body) && okS b ow c (.b els)
    | _ => false
  | .for t it b, ow, c, ast => match ast.one with
    | some (.For tg iter body [] _) => core P T LI it false c (itAst it tg iter (itWk it)) && !isBor it && (!itWk it || isTupleE tg) && gOk t c (itWk it) (.e tg) && okS b ow c (.b body) && noSet iter
    | _ => false
  | .whl q b, ow, c, ast => match ast.one with
    | some (.While x body [] _) => core P T LI q true c (.e x) && okS b ow c (.b body)
    | _ => false
  | .ret a, ow, c, ast => match ast.one with
    | some (.Return (some x) _) => core P T LI a false c (.e x) && retA P a ow
    | some (.Return none _) => !ow && retN a
    | _ => false
  | .app i a, ow, c, ast => match ast.one with
    | some (.Expr (.Call (.Attribute (.Name n _) at' apos) [y] [] p2) _) => sEq at' "append" && nameOk c i n && memN i c.ms && noStar y && core P T LI a false c (.e y) && !isBor a && (apos.endLine == p2.line)
    | _ => false
  | .drop a, ow, c, ast => match ast.one with
    | some (.Expr x _) => core P T LI a false c (.e x) && !isBor a && noComp x
    | _ => false
  | .setf c0 j a, ow, c, ast => match ast.one with
    | some (.Assign [tg] x _) => sfOk P T LI c c0 j a tg x
    | _ => false
  | _, _, _, _ => false
end

section
variable {W : W0} {P : Prog} {T : Tab} {LI : Nat → LamI} {k : Nat} {c : Ctx} {X : Cx} {a b d as ks lo hi it elt kk : E} {i : Nat} {e : Ent} {n : Str} {x : Expr} {ow : Bool}
theorem locB_ok (I : InC W P T LI k c X) (h : locB c n = true) : X.env.scope.names.lookup n = some .local := by
  unfold locB at h
  rw [look_eq, ← I.nm] at h
  split at h
  · rename_i z; exact z
  · cases h
theorem locB_no (I : InC W P T LI k c X) (h : locB c n = false) : X.env.scope.names.lookup n ≠ some .local := fun z => by
  unfold locB at h
  rw [look_eq, ← I.nm, z] at h
  cases h
theorem swB_ok (I : InC W P T LI k c X) {pos' : Pos} {l : Nat} (h : noSD x = true) (hs : swB c n pos' x = false) : swapsWith x (some (.Name n pos')) l X.env = pure false := by
  cases x <;> first | (cases h; done) | rfl | skip
  rename_i elt gs s p
  unfold swB at hs
  cases hl : locB c n with
  | false => exact sw_not (locB_no I hl)
  | true =>
    rw [hl] at hs
    have hb' : X.env.blockKind = .function := by unfold Env.blockKind; rw [I.kd]; rfl
    have hk : (X.env.kindOf n == some .local) = true := beq_iff_eq.mpr (locB_ok I hl)
    unfold swapsWith
    have hb2 : (X.env.blockKind == ScopeKind.function) = true := by rw [hb']; rfl
    have hs : ((pos'.line == p.line) && !(s.names.any fun (m, k) => m == n && (k == .local || k == .cell))) = false := by
      simpa using hs
    simp only [hk, hb2, Bool.true_and, Expr.pos]
    rw [hs]

/-! ### targets -/
theorem t_sound (I : InC W P T LI k c X) (he : e.mp = c.mp) : ∀ t : Pu.T, (∀ x, tOk P T LI t c (.e x) = true → PG X x (gT W c.ms e (calls P k) t)) ∧ ∀ xs, tOk P T LI t c (.es xs) = true → PGs X xs (gTs W c.ms e (calls P k) t) := by
  intro t
  induction t with
  | nm i =>
    refine ⟨fun x h => ?_, fun xs h => (by unfold tOk at h; cases h)⟩
    unfold tOk at h
    split at h
    · rename_i n p hx
      cases hx
      simp only [Bool.and_eq_true, Bool.not_eq_true'] at h
      obtain ⟨⟨h1, h2⟩, h3⟩ := h
      obtain ⟨g1, g2, g3⟩ := sto_ok I h1
      exact gt_nm I.ndN g1 g2 g3 (memN_not h2) (by rw [he]; exact memN_not h3)
    · cases h
  | tp a iha =>
    refine ⟨fun x h => ?_, fun xs h => (by unfold tOk at h; cases h)⟩
    unfold tOk at h
    split at h
    · rename_i es kk p hx
      cases hx
      simp only [Bool.and_eq_true] at h
      obtain ⟨⟨h1, h2⟩, h3⟩ := h
      exact gt_tp I.s.o h1 (Nat.eq_of_beq_eq_true h2) (iha.2 _ h3)
    · cases h
  | nil =>
    refine ⟨fun x h => (by unfold tOk at h; cases h), fun xs h => ?_⟩
    unfold tOk at h
    split at h
    · rename_i hx
      cases hx
      exact gts_nil
    · cases h
  | cons a b iha ihb =>
    refine ⟨fun x h => (by unfold tOk at h; cases h), fun xs h => ?_⟩
    unfold tOk at h
    split at h
    · rename_i x xs hx
      cases hx
      simp only [Bool.and_eq_true] at h
      obtain ⟨⟨h1, h2⟩, h3⟩ := h
      exact gts_cons I.s.o.m h1 (iha.1 _ h2) (ihb.2 _ h3)
    · cases h
  | sub i a =>
    refine ⟨fun x h => ?_, fun xs h => (by unfold tOk at h; cases h)⟩
    unfold tOk at h
    split at h
    · rename_i n p y p2 hx
      cases hx
      simp only [Bool.and_eq_true, Bool.not_eq_true'] at h
      obtain ⟨⟨⟨⟨h1, h2⟩, h3⟩, h4⟩, h5⟩ := h
      obtain ⟨g1, g2, g3, g4⟩ := name_ok I h1
      exact gt_sub I.s.o g1 g2 g3 g4 (memN_iff.mp h2) h3 ((sound a).vl h4 h5 X I e he)
    · cases h
theorem gl_sound (I : InC W P T LI k c X) : ∀ {is : List Nat} {es : List Expr}, glOk c is es = true → PGs X es (gL is)
  | [], [], _ => gl_nil
  | i :: is, .Name n p :: es, h => by
    obtain ⟨h1, h2⟩ := Bool.and_eq_true_iff.mp h
    obtain ⟨g1, g2, g3⟩ := sto_ok I h1
    exact gl_cons rfl (pg_name I.ndN g1 g2 g3) (gl_sound I h2)

/-! ### stores -/
theorem asg_sound (I : InC W P T LI k c X) (he : e.mp = c.mp) {t : Pu.T} {tg : Expr} {pos : Pos} (h : asgOk P T LI c t a tg x = true) : PS X (.Assign [tg] x pos) (tS W c.ms e (calls P k) ow (.asg t a)) := by
  unfold asgOk at h
  split at h
  · rename_i i n p
    simp only [Bool.and_eq_true, Bool.not_eq_true'] at h
    obtain ⟨⟨⟨⟨⟨h1, h2⟩, h3⟩, h4⟩, h5⟩, h6⟩ := h
    obtain ⟨g1, g2, g3⟩ := sto_ok I h1
    have hp : i ∉ e.mp := by rw [he]; exact memN_not h2
    cases hw : swB c n p x with
    | false =>
      cases hm : memN i c.ms with
      | true =>
        rw [hm] at h5
        exact t_asgO I.s.o.m I.ndN g1 g2 g3 (memN_iff.mp hm) hp ((sound a).own _ _ h3 h5 X I e he) (swB_ok I h4 hw)
      | false =>
        rw [hm] at h5
        exact t_asg I.ndN g1 g2 g3 (memN_not hm) hp ((sound a).vl h3 (Bool.not_eq_true' _ |>.mp h5) X I e he) (swB_ok I h4 hw)
    | true =>
      rw [hw] at h6
      cases a <;> first | (cases h6; done) | skip
      rename_i own g it kk elt
      unfold core at h3
      split at h3
      · rename_i x tg iter ifs isA scope p' hx
        cases hx
        simp only [Bool.and_eq_true, Bool.not_eq_true', decide_eq_true_eq] at h3
        obtain ⟨⟨⟨⟨⟨⟨⟨⟨⟨⟨⟨⟨⟨q1, q2⟩, q3⟩, q4⟩, q5⟩, q6⟩, q7⟩, q8⟩, q9⟩, q10⟩, q11⟩, q12⟩, q13⟩, q14⟩ := h3
        subst q1
        have ok := blkC_sc I q2
        have I2 := I.blk ok.kind ok.uniq
        have hm : ∀ i ∈ e.mp, i ∈ c.ms := fun i hi => by
          rw [he] at hi
          exact memN_iff.mp (List.all_eq_true.mp q12 i hi)
        unfold swB at hw
        simp only [Bool.and_eq_true, Bool.not_eq_true'] at hw
        have hos : ∀ i ∈ own, i ∉ c.ms := fun i hi => memN_not (Bool.not_eq_true' _ |>.mp (List.all_eq_true.mp q13 i hi))
        refine t_lcAny (wk := itWk it) I.s.o I.ndN I.kd g1 (locB_ok I hw.1.1) hw.1.2 hw.2 (it_soundG (sound it) q4 rfl (fun z => ?_) hos X I e he) ok q3 (fun e' s H C cl fp => ?_) (fun e' s H C cl fp => ?_) (fun e' s H C cl fp => ?_) q11 hm hos (fun i hi => ?_) (jsOf_own q4 hos) (walkOk_ok q5).1 (walkOk_ok q5).2 hp
        · rw [z] at q6
          exact q6
        · exact (g_sound (I2 s H C cl fp) (e'.2.trans he) g (itWk it)).1 _ q7
        · split at q8
          · split at q8
            · rename_i d
              rw [dEq_ok q8]
              exact s_ifs0
            · cases q8
          · rename_i f
            exact pts_one ((sound kk).tst _ _ q8 _ (I2 s H C cl fp) e'.1 (e'.2.trans he))
          · cases q8
        · exact (sound elt).vl q9 q10 _ (I2 s H C cl fp) e'.1 (e'.2.trans he)
        · exact memN_iff.mp (List.all_eq_true.mp q14 i hi)
      · cases h3
  · rename_i t es k1 p
    simp only [Bool.and_eq_true, Bool.not_eq_true'] at h
    obtain ⟨⟨⟨h1, h2⟩, h4⟩, h5⟩ := h
    exact t_asgG I.kd ((sound a).vl h1 h2 X I e he) ((t_sound I he _).1 _ h5) (by rw [I.nm]; exact h4)
  · rename_i i k0 y z p
    simp only [Bool.and_eq_true, Bool.not_eq_true'] at h
    obtain ⟨⟨⟨h1, h2⟩, h3⟩, h4⟩ := h
    exact t_asgS ((sound a).vl h1 h2 X I e he) ((t_sound I he _).1 _ h4) h3
  · cases h
theorem par_sound (I : InC W P T LI k c X) (he : e.mp = c.mp) {t : Pu.T} {tg : Expr} {pos : Pos} (h : parOk P T LI c t as tg x = true) : PS X (.Assign [tg] x pos) (tS W c.ms e (calls P k) ow (.par t as)) := by
  unfold parOk at h
  split at h
  · rename_i es k1 p1 xs k2 p2
    obtain ⟨h1, h⟩ := Bool.and_eq_true_iff.mp h
    split at h
    · rename_i is hn
      obtain ⟨h2, h⟩ := Bool.and_eq_true_iff.mp h
      rw [← he] at h2
      have A := (sound as).par _ _ h1 X I e he
      rcases Bool.or_eq_true_iff.mp h with h | h
      · rcases Bool.or_eq_true_iff.mp h with h | h
        · simp only [Bool.and_eq_true, decide_eq_true_eq] at h
          obtain ⟨⟨⟨⟨g1, g2⟩, g3⟩, g4⟩, g5⟩ := h
          exact t_parT I.s.o A (gl_sound I g4) hn h2 g1 (Nat.eq_of_beq_eq_true g2) g3 (swNone_ok I.kd (by rw [I.nm]; exact g5))
        · unfold par2 at h
          split at h
          · rename_i i j n1 q1 n2 q2 y z
            simp only [Bool.and_eq_true, Bool.not_eq_true'] at h
            obtain ⟨⟨⟨⟨⟨⟨⟨⟨⟨g1, g2⟩, g3⟩, g4⟩, g5⟩, g6⟩, g7⟩, g8⟩, g9⟩, g10⟩ := h
            exact t_par2 I.s.o I.kd I.ndN (by rw [I.N]; exact nthIs_ok g1) (by rw [I.N]; exact nthIs_ok g2) (locB_ok I g3) (locB_ok I g4) g5 (sEq_ne g6) g7 g8 g9 g10 A hn h2
          · cases h
      · unfold par3 at h
        split at h
        · rename_i i j l n1 q1 n2 q2 n3 q3 y z w
          simp only [Bool.and_eq_true, Bool.not_eq_true'] at h
          obtain ⟨⟨⟨⟨⟨⟨⟨⟨⟨⟨⟨⟨⟨⟨⟨g1, g2⟩, g3⟩, g4⟩, g5⟩, g6⟩, g7⟩, g8⟩, g9⟩, g10⟩, g11⟩, g12⟩, g13⟩, g14⟩, g15⟩, g16⟩ := h
          exact t_par3 I.s.o I.kd I.ndN (by rw [I.N]; exact nthIs_ok g1) (by rw [I.N]; exact nthIs_ok g2) (by rw [I.N]; exact nthIs_ok g3) (locB_ok I g4) (locB_ok I g5) (locB_ok I g6) g7 g8 (sEq_ne g9) (sEq_ne g10) (sEq_ne g11) g12 g13 g14 g15 g16 A hn h2
        · cases h
    · cases h
  · cases h
theorem sf_sound (I : InC W P T LI k c X) (he : e.mp = c.mp) {c0 j : Nat} {tg : Expr} {pos : Pos} (h : sfOk P T LI c c0 j a tg x = true) : PS X (.Assign [tg] x pos) (tS W c.ms e (calls P k) ow (.setf c0 j a)) := by
  unfold sfOk at h
  split at h
  · rename_i n p f p2
    simp only [Bool.and_eq_true, Bool.not_eq_true'] at h
    obtain ⟨⟨⟨⟨⟨h1, h2⟩, h3⟩, h4⟩, h5⟩, h6⟩ := h
    obtain ⟨g1, g2, g3, g4⟩ := name_ok I h1
    split at h6
    · rename_i q hq
      split at h6
      · rename_i j' hj
        rw [← Nat.eq_of_beq_eq_true h6] at hj
        obtain ⟨z1, z2⟩ := I.s.afl _ _ _ _ hj hq
        obtain ⟨z3, z4⟩ := I.s.fl _ z2
        exact t_setf I.s.o I.s.hC g1 g2 g3 g4 (memN_iff.mp h2) ((sound a).vl h3 h4 X I e he) h5 z1 z3 z4
      · cases h6
    · cases h6
  · cases h

/-! ### all statements -/
theorem one_s {x : Stmt} : (SAst.s x).one = some x := rfl
structure SoundS (W : W0) (P : Prog) (T : Tab) (LI : Nat → LamI) (k : Nat) (s : S) : Prop where
  st : ∀ ow c x, okS P T LI s ow c (.s x) = true → Hold W P T LI k c fun X e => PS X x (tS W c.ms e (calls P k) ow s)
  b : ∀ ow c xs, okS P T LI s ow c (.b xs) = true → Hold W P T LI k c fun X e => PSs X xs (tS W c.ms e (calls P k) ow s)
/-- a form that is one statement -/
theorem SoundS.of {s : S} (h1 : ∀ ow c x, okS P T LI s ow c (.s x) = true → Hold W P T LI k c fun X e => PS X x (tS W c.ms e (calls P k) ow s))
    (h2 : ∀ ow c xs, okS P T LI s ow c (.b xs) = true → ∃ x, xs = [x] ∧ okS P T LI s ow c (.s x) = true) : SoundS W P T LI k s :=
  ⟨h1, fun ow c xs h X I e he => by
    obtain ⟨x, rfl, h'⟩ := h2 ow c xs h
    exact t_one (h1 ow c x h' X I e he)⟩
theorem b_one {f : Option Stmt → Bool} (hn : f none = false) {xs : List Stmt} (h : f (SAst.b xs).one = true) : ∃ x, xs = [x] ∧ f (some x) = true := by
  match xs, h with
  | [], h => rw [show (SAst.b []).one = none from rfl, hn] at h; cases h
  | [x], h => exact ⟨x, rfl, h⟩
  | _ :: _ :: _, h => rw [show (SAst.b (_ :: _ :: _)).one = none from rfl, hn] at h; cases h
theorem soundS : ∀ s : S, SoundS W P T LI k s := by
  intro s
  induction s with
  | skip =>
    refine ⟨fun ow c x h X I e he => ?_, fun ow c xs h X I e he => ?_⟩
    · unfold okS at h
      simp only [one_s] at h
      split at h
      · rename_i hx; cases hx; exact t_pass
      · rename_i hx; cases hx; exact t_doc
      · cases h
    · cases xs with
      | nil => exact t_nil
      | cons x r =>
        cases r with
        | nil =>
          unfold okS at h
          simp only [show (SAst.b [x]).one = some x from rfl] at h
          split at h
          · rename_i hx; cases hx; exact t_one t_pass
          · rename_i hx; cases hx; exact t_one t_doc
          · cases h
        | cons y r => cases h
  | never =>
    exact .of (fun ow c x h X I e he => t_never) fun ow c xs h => by
      unfold okS at h
      obtain ⟨x, h1, h2⟩ := b_one (f := fun o => o.isSome) rfl h
      exact ⟨x, h1, h2⟩
  | seq a b iha ihb =>
    refine ⟨fun ow c x h X I e he => (by unfold okS at h; cases h), fun ow c xs h X I e he => ?_⟩
    unfold okS at h
    split at h
    · rename_i st rest hx
      cases hx
      obtain ⟨h1, h2⟩ := Bool.and_eq_true_iff.mp h
      exact t_cons (iha.st _ _ _ h1 X I e he) (ihb.b _ _ _ h2 X I e he)
    · cases h
  | asg t a =>
    refine .of (fun ow c x h X I e he => ?_) fun ow c xs h => by
      unfold okS at h
      exact b_one (f := fun o => match o with | some (.Assign [tg] x _) => asgOk P T LI c t a tg x | _ => false) rfl h
    unfold okS at h
    simp only [one_s] at h
    split at h
    · rename_i hx; cases hx; exact asg_sound I he h
    · cases h
  | par t as =>
    refine .of (fun ow c x h X I e he => ?_) fun ow c xs h => by
      unfold okS at h
      exact b_one (f := fun o => match o with | some (.Assign [tg] x _) => parOk P T LI c t as tg x | _ => false) rfl h
    unfold okS at h
    simp only [one_s] at h
    split at h
    · rename_i hx; cases hx; exact par_sound I he h
    · cases h
  | iff q a b iha ihb =>
    refine .of (fun ow c x h X I e he => ?_) fun ow c xs h => by
      unfold okS at h
      exact b_one (f := fun o => match o with | some (.If x body els _) => core P T LI q true c (.e x) && okS P T LI a ow c (.b body) && okS P T LI b ow c (.b els) | _ => false) rfl h
    unfold okS at h
    simp only [one_s] at h
    split at h
    · rename_i hx
      cases hx
      simp only [Bool.and_eq_true] at h
      exact t_if ((sound q).tst _ _ h.1.1 X I e he) (iha.b _ _ _ h.1.2 X I e he) (ihb.b _ _ _ h.2 X I e he)
    · cases h
  | «for» t it b ihb =>
    refine .of (fun ow c x h X I e he => ?_) fun ow c xs h => by
      unfold okS at h
      exact b_one (f := fun o => match o with | some (.For tg iter body [] _) => core P T LI it false c (itAst it tg iter (itWk it)) && !isBor it && (!itWk it || isTupleE tg) && gOk t c (itWk it) (.e tg) && okS P T LI b ow c (.b body) && noSet iter | _ => false) rfl h
    unfold okS at h
    simp only [one_s] at h
    split at h
    · rename_i hx
      cases hx
      simp only [Bool.and_eq_true, Bool.not_eq_true'] at h
      obtain ⟨⟨⟨⟨⟨h1, h2⟩, h3⟩, h4⟩, h5⟩, h6⟩ := h
      refine t_for (wk := itWk it) I.s.o I.px h6 (it_sound (sound it) h1 h2 rfl (fun z => ?_) X I e he) ((g_sound I he t (itWk it)).1 _ h4) (ihb.b _ _ _ h5 X I e he)
      rw [z] at h3
      exact h3
    · cases h
  | whl q b ihb =>
    refine .of (fun ow c x h X I e he => ?_) fun ow c xs h => by
      unfold okS at h
      exact b_one (f := fun o => match o with | some (.While x body [] _) => core P T LI q true c (.e x) && okS P T LI b ow c (.b body) | _ => false) rfl h
    unfold okS at h
    simp only [one_s] at h
    split at h
    · rename_i hx
      cases hx
      simp only [Bool.and_eq_true] at h
      exact t_whl I.px ((sound q).tst _ _ h.1 X I e he) (ihb.b _ _ _ h.2 X I e he)
    · cases h
  | ret a =>
    refine .of (fun ow c x h X I e he => ?_) fun ow c xs h => by
      unfold okS at h
      exact b_one (f := fun o => match o with
        | some (.Return (some x) _) => core P T LI a false c (.e x) && retA P a ow
        | some (.Return none _) => !ow && retN a
        | _ => false) rfl h
    unfold okS at h
    simp only [one_s] at h
    split at h
    · rename_i hx
      cases hx
      obtain ⟨h1, h2⟩ := Bool.and_eq_true_iff.mp h
      cases ow with
      | true => exact t_retO ((sound a).own _ _ h1 h2 X I e he)
      | false => exact t_ret ((sound a).vl h1 (Bool.not_eq_true' _ |>.mp h2) X I e he)
    · rename_i hx
      cases hx
      obtain ⟨h1, h2⟩ := Bool.and_eq_true_iff.mp h
      unfold retN at h2
      split at h2
      · rename_i d
        rw [dEq_ok h2]
        cases ow with
        | true => cases h1
        | false => exact t_retN
      · cases h2
    · cases h
  | app i a =>
    refine .of (fun ow c x h X I e he => ?_) fun ow c xs h => by
      unfold okS at h
      exact b_one (f := fun o => match o with
        | some (.Expr (.Call (.Attribute (.Name n _) at' apos) [y] [] p2) _) => sEq at' "append" && nameOk c i n && memN i c.ms && noStar y && core P T LI a false c (.e y) && !isBor a && (apos.endLine == p2.line)
        | _ => false) rfl h
    unfold okS at h
    simp only [one_s] at h
    split at h
    · rename_i hx
      cases hx
      simp only [Bool.and_eq_true, Bool.not_eq_true'] at h
      obtain ⟨⟨⟨⟨⟨⟨h1, h2⟩, h3⟩, h4⟩, h5⟩, h6⟩, h7⟩ := h
      obtain ⟨g1, g2, g3, g4⟩ := name_ok I h2
      have h1 := sEq_ok h1
      subst h1
      exact t_app I.s.o g1 g2 g3 g4 (memN_iff.mp h3) h4 ((sound a).vl h5 h6 X I e he) h7
    · cases h
  | ext i a => exact ⟨fun ow c x h => (by unfold okS at h; cases h), fun ow c x h => (by unfold okS at h; cases h)⟩
  | drop a =>
    refine .of (fun ow c x h X I e he => ?_) fun ow c xs h => by
      unfold okS at h
      exact b_one (f := fun o => match o with
        | some (.Expr x _) => core P T LI a false c (.e x) && !isBor a && noComp x
        | _ => false) rfl h
    unfold okS at h
    simp only [one_s] at h
    split at h
    · rename_i hx
      cases hx
      simp only [Bool.and_eq_true, Bool.not_eq_true'] at h
      exact t_drop ((sound a).vl h.1.1 h.1.2 X I e he) h.2
    · cases h
  | setf c0 j a =>
    refine .of (fun ow c x h X I e he => ?_) fun ow c xs h => by
      unfold okS at h
      exact b_one (f := fun o => match o with
        | some (.Assign [tg] x _) => sfOk P T LI c c0 j a tg x
        | _ => false) rfl h
    unfold okS at h
    simp only [one_s] at h
    split at h
    · rename_i hx
      cases hx
      exact sf_sound I he h
    · cases h
  | sup => exact ⟨fun ow c x h => (by unfold okS at h; cases h), fun ow c x h => (by unfold okS at h; cases h)⟩
  | raise c0 as => exact ⟨fun ow c x h => (by unfold okS at h; cases h), fun ow c x h => (by unfold okS at h; cases h)⟩
end
end Pu

set_option Elab.async false
set_option linter.all false
set_option maxRecDepth 100000
set_option maxHeartbeats 2000000
set_option autoImplicit false
/-! Pu, Z: defs and lambdas keep what is promised of them. -/
namespace Pu
open PySem PySem.Spec PyProof.Rows L2
open LamX (CodeO)

structure FunC (K : PySem.W.Frag) (I : FnI) (f : Addr) (fd : FuncData) : Prop where
  ex : ∃ (oc : Value) (od : Option Addr) (kV doc pm : Value) (an : Option Addr) (ct : Value) (osl : Array (Option Value)),
    fd = PySem.W.fnOf I.x I.q (defArgs I.st) (defBody I.st) (defScope I.st) .none kV doc pm an I.cdv ct ∧ K.lookup f = some ⟨oc, od, .func fd, osl⟩ ∧ PySem.W.codeIn K I.cdv I.q = true
  kp : PySem.W.keepIn K (.ref f) = true
def ctxF (I : FnI) (F : FnD) : Ctx := ⟨I.N, F.ms, F.mp, (defScope I.st).names, cellNames (defScope I.st).names, true, I.lams⟩
def ctxL (L : LamI) (N : List Str) : Ctx := ⟨N, [], [], L.scope.names, [], false, []⟩
def scopeB (N ps : List Str) (sc : Scope) : Bool :=
  decide (sc.kind = .function) && !sc.isCoroutine && !sc.isGenerator && decide N.Nodup && decide (N.take ps.length = ps) && ps.all (fun x => match look sc.names x with
    | some .local => true
    | some .cell => true
    | _ => false) && sc.names.all fun y => match y.2 with
    | .free => false
    | _ => true
theorem scope_by {N ps : List Str} {sc : Scope} (h : scopeB N ps sc = true) : FnScope N ps sc := by
  unfold scopeB at h
  simp only [Bool.and_eq_true, Bool.not_eq_true', decide_eq_true_eq, List.all_eq_true] at h
  obtain ⟨⟨⟨⟨⟨⟨h1, h2⟩, h3⟩, h4⟩, h5⟩, h6⟩, h7⟩ := h
  refine ⟨h1, h2, h3, h4, h5, fun x hx => ?_, fun y hy z => ?_⟩
  · have := h6 x hx
    rw [look_eq] at this
    split at this
    · rename_i q; exact .inl q
    · rename_i q; exact .inr q
    · cases this
  · have := h7 y hy
    rw [z] at this
    cases this
section
variable (P : Prog) (T : Tab) (LI : Nat → LamI)
def okFn (I : FnI) (F : FnD) : Bool :=
  scopeB I.N I.ps (defScope I.st) && Nat.beq F.np I.ps.length && Nat.beq F.sz I.N.length && (F.ms.all fun i => Nat.ble F.np i || memN i F.mp) && (F.mp.all fun j => memN j F.ms && !Nat.ble F.np j) && okS P T LI F.body F.own (ctxF I F) (.b (defBody I.st))
def okLam (L : LamI) (N : List Str) (Ld : LamD) : Bool :=
  NdefX.nscB N L.ps L.fr L.scope && Nat.beq Ld.np L.ps.length && Nat.beq Ld.nc L.fr.length && Nat.beq Ld.sz N.length && core P T LI Ld.body false (ctxL L N) (.e L.body) && !isBor Ld.body
end
/-- all that is so behind the top -/
structure Glo (W : W0) (P : Prog) (T : Tab) (LI : Nat → LamI) (FI : Nat → FnI) (LN : Nat → List Str) (pr : Program) (w : World) (base : Heap) : Prop where
  m : W.Mono
  hC : ∀ c, c < W.nC → ClF W c
  gfn : ∀ n f, look T.gl n = some (.fn f) → W.mg n = some (.ref (W.fnA f))
  gcl : ∀ n c, look T.gl n = some (.cls c) → W.mg n = some (.ref (W.clA c)) ∧ c < W.nC
  gcs : ∀ n d, look T.gl n = some (.cst d) → ∃ u v, W.mg n = some u ∧ RelV v u ∧ ∀ F, Rep W F d v
  ggc : ∀ n, look T.gl n = some .gcd → W.mg n = some (.builtin "math.gcd")
  bn : ∀ n, n ∈ T.bn → W.mg n = none
  fl : ∀ c, c < W.nC → (W.flN c).Nodup ∧ (W.flN c).length < 1000
  afl : ∀ c q j n, P.at_ c q = some (.fld j) → look T.at_ n = some q → (W.flN c)[j]? = some n ∧ c < W.nC
  apr : ∀ c q f n, P.at_ c q = some (.prop f) → look T.at_ n = some q → c < W.nC ∧ ∃ pa, PropOf W.K (W.clA c) n pa (W.fnA f)
  fns : ∀ f F, P.fns[f]? = some F → okFn P T LI (FI f) F = true ∧ (∃ fd, FunC W.K (FI f) (W.fnA f) fd ∧ Binds W.K fd (FI f).ps [] ∧ ∀ n ks pm, (f, n, ks, pm) ∈ T.sigs → KBn W.K fd (FI f).ps n ks (fun us ws => permV pm (us ++ ws)) (fun vs zs => permV pm (vs ++ zs))) ∧
    ∀ l ∈ (FI f).lams, ∃ cc Pa, LamX.TabB base W.mg cc Pa ∧ (FI f).cdv = .ref cc ∧ (Pa, fun _ _ => (LI l).q) ∈ W.T ∧ (∀ p ∈ W.T, p.1 = Pa → p.2 = fun _ _ => (LI l).q) ∧ (LI l).q = (FI f).q ++ ".<locals>." ++ "<lambda>"
  cls : ∀ c cd, P.cls[c]? = some cd → Mk W.K (W.clA c) (W.fnA cd.ini) ∧ c < W.nC ∧ (W.flN c).length = cd.flds ∧ ∃ Fn, P.fns[cd.ini]? = some Fn ∧ Fn.mp = [0] ∧ Fn.own = false
  lam : ∀ l Ld, P.lams[l]? = some Ld → okLam P T LI (LI l) (LN l) Ld = true ∧ ∀ (cl : List (Str × Addr)) (pm : Value) (c' : Addr) (ctv : Value) (us : List Value), us.length = (LI l).ps.length → bindArgs (PySem.W.kla_fn "<lambda>" (LI l).q (LI l).params (LI l).body (LI l).scope cl pm (.ref c') ctv) ⟨us, []⟩ = pure ((LI l).ps.zip us)
  clo : ∀ F l a cv cs, W.cloAt F l a cv cs ↔ cloAt (LI l) F a cv cs
section
variable {W : W0} {P : Prog} {T : Tab} {LI : Nat → LamI} {FI : Nat → FnI} {LN : Nat → List Str} {pr : Program} {w : World} {base : Heap} {k : Nat}
theorem spD_zero {f : Nat} {vs : List V} {H : Hp} {Q : VK} {E : XK} (h : spD W P 0 f vs H Q E) : False := by
  obtain ⟨_, _, _, _, _, _, _, h, _⟩ := h
  cases h
theorem spL_zero {l : Nat} {ws : List (Option V)} {vs : List V} {H : Hp} {Q : VK} {E : XK} (h : spL W P 0 l ws vs H Q E) : False := by
  obtain ⟨_, _, _, _, _, _, _, _, _, _, _, h, _⟩ := h
  cases h
abbrev AllD (W : W0) (P : Prog) (T : Tab) (LI : Nat → LamI) (pr : Program) (w : World) (base : Heap) (k : Nat) : Prop := Fns W P T.sigs k pr w W.K W.mg base ∧ Lams W P LI k pr w W.K W.mg base
theorem all_zero (G : Glo W P T LI FI LN pr w base) : AllD W P T LI pr w base 0 := by
  have F0 : ∀ f fd ps, FnOk pr w W.K W.mg base CX0 (2 * 0) (W.fnA f) fd ps (spD W P 0 f) := fun f fd ps => ⟨fun vs H Q E h => (spD_zero h).elim, fun A outer s H args us vs Q E hr he hb hv hs => (spD_zero hs).elim⟩
  refine ⟨⟨fun f Fn hf => ?_, G.cls⟩, ⟨fun l Ld hl => ⟨fun A outer s H us vs ws Q E f cl c' hr e0 h1 h2 C r hs => (spL_zero hs).elim⟩, G.clo, fun f Fn hf => ?_⟩⟩
  · obtain ⟨h1, ⟨fd, h2, h3, h4⟩, h5⟩ := G.fns f Fn hf
    refine ⟨fd, (FI f).ps, F0 f fd _, h2.kp, ?_, h4⟩
    unfold okFn at h1
    simp only [Bool.and_eq_true] at h1
    exact (Nat.eq_of_beq_eq_true h1.1.1.1.1.2).symm
  · obtain ⟨h1, ⟨fd, h2, h3, h4⟩, h5⟩ := G.fns f Fn hf
    exact ⟨fd, (FI f).ps, F0 f fd _, h2.kp, h3⟩
theorem sits_of (G : Glo W P T LI FI LN pr w base) (ih : AllD W P T LI pr w base k) {X : Cx} (h1 : X.prog = pr) (h2 : X.w = w) (h3 : X.K = W.K) (h4 : X.mg = W.mg) (h5 : X.base = base) (h6 : X.calm = true) (hr : Room (2 * k + 1) X.A) : Sits W P T LI k X := by
  subst h1 h2 h5
  refine ⟨⟨h3, h4, G.m, h6, ?_⟩, G.hC, by rw [h3, h4]; exact ih.1, by rw [h3, h4]; exact ih.2, hr, G.gfn, G.gcl, G.gcs, G.ggc, G.bn, G.fl, G.afl, by rw [h3]; exact G.apr⟩
  have := hr.un
  omega
theorem out_of {ow : Bool} {mp ms : List Nat} {np : Nat} {F0 H : Hp} {N : List Str} {ds outs : List D} {vs : List V} {d : D} {fl : Fl} {Q : VK} (a : ArgsOk W np mp F0 ds vs H) (h2 : ∀ j ∈ mp, j ∈ ms) (h3 : ∀ j ∈ mp, j < np) (he : endOf ow mp fl = .ok (d, outs))
    (hq : ∀ v F' H', After W mp F0 vs H outs F' H' → Ret W ow H F' H' d v → Q v H') : Out W ms (entOf mp F0 H N vs) ow { nx := fun _ H' => Q .non H', rt := Q } F0 fl := by
  cases fl with
  | nx ρ =>
    intro σ' F' H' l r'
    have he : (match getAll ρ mp with
      | some os => if ow = true then R.bad else R.ok (Pu.D.non, os)
      | none => R.bad) = R.ok (d, outs) := he
    split at he
    · rename_i os hos
      cases ow with
      | true => cases he
      | false =>
        cases he
        have q : Rep W F' Pu.D.non V.non := Rep.non
        exact hq _ F' H' (rel_end a h2 h3 r' hos).1 q
    · cases he
  | rt d' ρ =>
    intro v σ' F' H' l r' rv
    have he : (match getAll ρ mp with
      | some os => R.ok (d', os)
      | none => R.bad) = R.ok (d, outs) := he
    split at he
    · rename_i os hos
      cases he
      obtain ⟨A, lv⟩ := rel_end a h2 h3 r' hos
      refine hq v F' H' A ?_
      cases ow with
      | false => exact rv
      | true =>
        obtain ⟨p, es, us, e1, e2, e3, e4, e5, e6, e7⟩ := rv
        refine ⟨p, es, us, e1, e2, e3, e4, e5, ?_⟩
        rcases e6 with e6 | e6
        · exact e6
        · obtain ⟨i, g1, g2, g3⟩ := lv p e6
          exact absurd g3 (e7 i g1 g2)
    · cases he
theorem fn_next (G : Glo W P T LI FI LN pr w base) (ih : AllD W P T LI pr w base k) {f : Nat} {F : FnD} (hf : P.fns[f]? = some F) {fd : FuncData} (hfd : FunC W.K (FI f) (W.fnA f) fd) : FnOk pr w W.K W.mg base CX0 (2 * (k + 1)) (W.fnA f) fd (FI f).ps (spD W P (k + 1) f) := by
  obtain ⟨h1, _, h5⟩ := G.fns f F hf
  obtain ⟨oc, od, kV, doc, pm, an, ct, osl, rfl, lk, hcd⟩ := hfd.ex
  unfold okFn at h1
  simp only [Bool.and_eq_true] at h1
  obtain ⟨⟨⟨⟨⟨a1, a2⟩, a3⟩, a4⟩, a5⟩, a6⟩ := h1
  have a2 := Nat.eq_of_beq_eq_true a2
  have a3 := Nat.eq_of_beq_eq_true a3
  have S := scope_by a1
  have m1 : ∀ i ∈ F.ms, i < F.np → i ∈ F.mp := fun i hi hl => by
    have := List.all_eq_true.mp a4 i hi
    rcases Bool.or_eq_true_iff.mp this with z | z
    · have := Nat.le_of_ble_eq_true z
      omega
    · exact memN_iff.mp z
  have m2 : ∀ j ∈ F.mp, j ∈ F.ms ∧ j < F.np := fun j hj => by
    have := List.all_eq_true.mp a5 j hj
    obtain ⟨z1, z2⟩ := Bool.and_eq_true_iff.mp this
    refine ⟨memN_iff.mp z1, ?_⟩
    rw [Bool.not_eq_true'] at z2
    by_cases z : F.np ≤ j
    · rw [Nat.ble_eq_true_of_le z] at z2
      cases z2
    · omega
  refine fn_of (k := 2 * k + 1) lk hcd S (fun vs H Q E h => ?_) fun A outer s H vs Q E hr hsp => ?_
  · obtain ⟨Fn, F0, ds, d, outs, e1, e2, _, _⟩ := h
    rw [hf] at e1
    cases e1
    rw [← a2]
    exact e2.lv
  · obtain ⟨Fn, F0, ds, d, outs, e1, ao, hraw, hq⟩ := hsp
    rw [hf] at e1
    cases e1
    have I : InC W P T LI k (ctxF (FI f) F) (cxOf CX0 pr w W.K W.mg base (FI f).N (FI f).q (defScope (FI f).st) (W.fnA f) (FI f).cdv A outer s H E).nox := by
      refine ⟨sits_of G ih rfl rfl rfl rfl rfl rfl hr, rfl, S.nd, rfl, S.kind, fun _ _ => rfl, .never, fun _ _ => rfl, fun l hl => ?_⟩
      obtain ⟨cc, Pa, g1, g2, g3, g4, g5⟩ := h5 l hl
      exact ⟨cc, Pa, g1, g2, g3, g4, g5⟩
    refine ⟨_, ((soundS F.body).b F.own _ _ a6 _ I (entOf F.mp F0 H (FI f).N vs) rfl).nox, ?_⟩
    have hraw : (match P.fns[f]? with
      | some F => if ds.length = F.np then (run (calls P k) F.body (entry F.sz ds)).bind fun fl => endOf F.own F.mp fl else .bad
      | none => .bad) = R.ok (d, outs) := hraw
    rw [hf] at hraw
    have hraw : (if ds.length = F.np then (run (calls P k) F.body (entry F.sz ds)).bind fun fl => endOf F.own F.mp fl else .bad) = R.ok (d, outs) := hraw
    rw [if_pos ao.ld] at hraw
    obtain ⟨fl, r1, r2⟩ := R.bind_ok hraw
    rw [a3] at r1
    exact ⟨F0, _, fl, rel_start (ms := F.ms) ao m1 fun j hj => (m2 j hj).1, r1, out_of ao (fun j hj => (m2 j hj).1) (fun j hj => (m2 j hj).2) r2 hq⟩
theorem lam_next (G : Glo W P T LI FI LN pr w base) (ih : AllD W P T LI pr w base k) {l : Nat} {Ld : LamD} (hl : P.lams[l]? = some Ld) : LmOk pr w W.K W.mg base (2 * (k + 1)) (LI l) (spL W P (k + 1) l) := by
  obtain ⟨h1, h2⟩ := G.lam l Ld hl
  unfold okLam at h1
  simp only [Bool.and_eq_true, Bool.not_eq_true'] at h1
  obtain ⟨⟨⟨⟨⟨a1, a2⟩, a3⟩, a4⟩, a5⟩, a6⟩ := h1
  have a2 := Nat.eq_of_beq_eq_true a2
  have a3 := Nat.eq_of_beq_eq_true a3
  have a4 := Nat.eq_of_beq_eq_true a4
  have S := NdefX.nscope_by a1
  have open_ : ∀ {ds caps : List D} {d : D}, (calls P (k + 1)).lam l caps ds = .ok d → ds.length = Ld.np ∧ caps.length = Ld.nc ∧ ∃ ρ', ev (calls P k) Ld.body (entry Ld.sz (ds ++ caps)) = .ok (d, ρ') := fun {ds caps d} h => by
    have h : (match P.lams[l]? with
        | some L => if ds.length = L.np ∧ caps.length = L.nc ∧ D.noClos ds = true then (ev (calls P k) L.body (entry L.sz (ds ++ caps))).bind fun p => .ok p.1 else .bad
        | none => .bad) = R.ok d := h
    rw [hl] at h
    have h : (if ds.length = Ld.np ∧ caps.length = Ld.nc ∧ D.noClos ds = true then (ev (calls P k) Ld.body (entry Ld.sz (ds ++ caps))).bind fun p => .ok p.1 else .bad) = R.ok d := h
    split at h
    · rename_i z
      obtain ⟨p, h3, h4⟩ := R.bind_ok h
      cases h4
      exact ⟨z.1, z.2.1, p.2, h3⟩
    · cases h
  refine lam_of (k := 2 * k + 1) S h2 (fun ws vs H Q E h => ?_) fun A outer s H vs ws Q E f cl c' hr hws hsp => ?_
  · obtain ⟨F0, ds, caps, cv, d, _, _, _, e4, _, _, e7, _⟩ := h
    rw [e4.length, (open_ e7).1, a2]
  · obtain ⟨F0, ds, caps, cv, d, e1, e2, e3, e4, rfl, e6, e7, hq⟩ := hsp
    obtain ⟨l1, l2, ρ', h3⟩ := open_ e7
    have I : InC W P T LI k (ctxL (LI l) (LN l)) (NdefX.ncx CX0 pr w W.K W.mg base (LN l) (nfOf (LI l) cl c') f A outer s H E).nox :=
      ⟨sits_of G ih rfl rfl rfl rfl rfl rfl hr, rfl, S.nd, rfl, S.kind, fun _ z => (nomatch z), .never, fun z => (nomatch z), fun l hl => (nomatch hl)⟩
    have rr : Reps W F0 (ds ++ caps) (vs ++ cv) := e4.append e6
    have ao : ArgsOk W (ds ++ caps).length [] F0 (ds ++ caps) (vs ++ cv) H := ⟨rr.length, rfl, e1, e2, e3, fun j d v _ hd hv => by
      obtain ⟨v', z1, z2⟩ := rr.get hd
      rw [hv] at z1
      cases z1
      exact z2, fun j d hj => (nomatch hj), fun i j p hi => (nomatch hi)⟩
    have es : NdefX.startF (LN l) vs (cv.map some) = L2.start (LN l) (vs ++ cv) := by
      unfold NdefX.startF L2.start
      rw [List.map_append, List.append_assoc, List.length_map, List.length_append, Nat.sub_sub]
    refine ⟨_, ((sound Ld.body).vl a5 a6 _ I (entOf [] F0 H (LN l) (vs ++ cv)) rfl), ?_⟩
    rw [es]
    rw [a4] at h3
    refine ⟨F0, _, d, ρ', rel_start (ms := []) ao (fun _ z => nomatch z) (fun _ z => nomatch z), h3, fun v F' H' l' r' rv => ?_⟩
    obtain ⟨A, _⟩ := rel_end (outs := []) ao (fun _ z => nomatch z) (fun _ z => nomatch z) r' rfl
    exact hq v F' H' ⟨A.le, A.sub, A.nw, fun a o _ h4 h5 => A.sm a o (fun _ z => nomatch z) h4 h5, A.al, A.tb, A.tf, A.len, fun k j d p z => by simp at z⟩ rv
/-- all defs and lambdas, however deep the calls -/
theorem all_ok (G : Glo W P T LI FI LN pr w base) : ∀ k, AllD W P T LI pr w base k
  | 0 => all_zero G
  | k + 1 => by
    have ih := all_ok G k
    refine ⟨⟨fun f Fn hf => ?_, G.cls⟩, ⟨fun l Ld hl => lam_next G ih hl, G.clo, fun f Fn hf => ?_⟩⟩
    · obtain ⟨h1, ⟨fd, h2, h3, h4⟩, h5⟩ := G.fns f Fn hf
      refine ⟨fd, (FI f).ps, fn_next G ih hf h2, h2.kp, ?_, h4⟩
      unfold okFn at h1
      simp only [Bool.and_eq_true] at h1
      exact (Nat.eq_of_beq_eq_true h1.1.1.1.1.2).symm
    · obtain ⟨h1, ⟨fd, h2, h3, h4⟩, h5⟩ := G.fns f Fn hf
      exact ⟨fd, (FI f).ps, fn_next G ih hf h2, h2.kp, h3⟩
end
end Pu

set_option Elab.async false
set_option linter.all false
set_option maxRecDepth 100000
set_option maxHeartbeats 2000000
set_option autoImplicit false
/-! Pu, Z2: what stands behind the top, told by the head. -/
namespace Pu
open PySem PySem.Spec PyProof.Rows L2
open LamX (CodeO)

namespace LawI
variable (I : LawI) (K : PySem.W.Frag)
def W (mg : Str → Option Value) : W0 := ⟨K, mg, I.fa K, I.ca K, I.nC, I.flN, fun F l a cv cs => cloAt (I.LI l) F a cv cs, I.tl.map fun f => ((I.tb K f).2, fun _ _ => I.qL f)⟩
end LawI
theorem fnC_of {I : LawI} {K : PySem.W.Frag} {f : Nat} (h1 : fnV K (I.fa K f) = I.valF f) (h2 : I.fnB K f = true) : ∃ fd, FunC K (I.fk K f) (I.fa K f) fd ∧ ∃ (kV doc pm : Value) (an : Option Addr) (cdv ct : Value), fd = PySem.W.fnOf (I.fi f).x (I.fi f).q (defArgs (I.fi f).st) (defBody (I.fi f).st) (defScope (I.fi f).st) .none kV doc pm an cdv ct := by
  unfold LawI.fnB at h2
  obtain ⟨k1, k2⟩ := Bool.and_eq_true_iff.mp h2
  have key : ∃ fd, fdOf K (I.fa K f) = some fd := by
    cases q : fdOf K (I.fa K f) with
    | none => unfold fnV at h1; rw [q] at h1; cases h1
    | some fd => exact ⟨fd, rfl⟩
  obtain ⟨fd, hfd⟩ := key
  have hc : codeV K (I.fa K f) = fd.code := by unfold codeV; rw [hfd]
  unfold fnV at h1
  rw [hfd] at h1
  unfold fdOf at hfd
  split at hfd
  · rename_i u lk
    obtain ⟨oc, od, dt, osl⟩ := u
    split at hfd
    · rename_i fd2 hd
      cases hfd
      have hd : dt = .func fd := hd
      subst hd
      obtain ⟨n1, n2, n3, n4, n5, n6, n7, n8, n9, n10, n11, n12, n13, n14, n15⟩ := fd
      have e2 : (some (n4, n3, n5, n2, n1, n8, n7, n15, n6) : FnV) = some (.stmts (defBody (I.fi f).st), defArgs (I.fi f).st, defScope (I.fi f).st, (I.fi f).q, (I.fi f).x, .none, [], builtinsNs, mainGlobals) := h1
      simp only [Option.some.injEq, Prod.mk.injEq] at e2
      obtain ⟨g1, g2, g3, g4, g5, g6, g7, g8, g9⟩ := e2
      subst g1 g2 g3 g4 g5 g6 g7 g8 g9
      rw [hc] at k2
      exact ⟨_, ⟨⟨oc, od, n9, n10, n11, n12, n14, osl, by show _ = PySem.W.fnOf _ _ _ _ _ _ _ _ _ _ (codeV K (I.fa K f)) _; rw [hc]; rfl, lk, by show PySem.W.codeIn K (codeV K (I.fa K f)) _ = true; rw [hc]; exact k2⟩, k1⟩, n9, n10, n11, n12, n13, n14, rfl⟩
    · cases hfd
  · cases hfd
theorem look_mem {α : Type} : ∀ {l : List (Str × α)} {x : Str} {v : α}, look l x = some v → (x, v) ∈ l
  | [], x, v, h => by cases h
  | (n, u) :: r, x, v, h => by
    rw [look] at h
    cases q : sEq x n with
    | true =>
      rw [q] at h
      cases h
      rw [sEq_ok q]
      exact List.mem_cons_self
    | false =>
      rw [q] at h
      exact List.mem_cons_of_mem _ (look_mem h)

/-! ### values of the top -/
theorem cB_ok {W : W0} {F : Hp} : ∀ {k : Nat} {d : D} {u : Value}, cB W.K k d u = true → ∃ v, RelV v u ∧ ∀ F, Rep W F d v := by
  intro k
  induction k with
  | zero => intro d u h; cases h
  | succ k ih =>
    intro d u h
    have all : ∀ {ds : List D} {us : List Value}, cB.all2' (cB W.K k) ds us = true → ∃ vs, Vals vs us ∧ ∀ F, Reps W F ds vs := by
      intro ds
      induction ds with
      | nil =>
        intro us h
        cases us with
        | nil => exact ⟨[], .nil, fun F => by unfold Reps; rfl⟩
        | cons u us => cases h
      | cons d ds ihd =>
        intro us h
        cases us with
        | nil => cases h
        | cons u us =>
          obtain ⟨h1, h2⟩ := Bool.and_eq_true_iff.mp h
          obtain ⟨v, r1, r2⟩ := ih h1
          obtain ⟨vs, q1, q2⟩ := ihd h2
          exact ⟨v :: vs, .cons r1 q1, fun F => .cons (r2 F) (q2 F)⟩
    unfold cB at h
    split at h
    · split at h
      · exact ⟨.non, rfl, fun F => .non⟩
      · cases h
    · split at h
      · rename_i b c
        rw [eq_of_beq h]
        exact ⟨.bl _, rfl, fun F => .bl⟩
      · cases h
    · split at h
      · rename_i i j t
        rw [of_decide_eq_true h]
        exact ⟨.int _, ⟨t, rfl⟩, fun F => .int⟩
      · cases h
    · split at h
      · rename_i x y t
        rw [sEq_ok h]
        exact ⟨.str _, ⟨t, rfl⟩, fun F => .str⟩
      · cases h
    · split at h
      · rename_i a
        split at h
        · rename_i o ho
          split at h
          · rename_i its n hd
            simp only [Bool.and_eq_true, decide_eq_true_eq] at h
            obtain ⟨⟨⟨h1, h2⟩, h3⟩, h4⟩ := h
            obtain ⟨vs, q1, q2⟩ := all h4
            refine ⟨.ref a, rfl, fun F => ?_⟩
            unfold Rep
            exact ⟨a, vs, rfl, .inr ⟨o, its, n, ho, h1, Option.isNone_iff_eq_none.mp h2, hd, h3, q1⟩, q2 F⟩
          · cases h
        · cases h
      · cases h
    · cases h
end Pu

set_option Elab.async false
set_option linter.all false
set_option maxRecDepth 100000
set_option maxHeartbeats 2000000
set_option autoImplicit false
/-! Pu, Z3: from the head's facts to all that is so behind the top. -/
namespace Pu
open PySem PySem.Spec PyProof.Rows L2
open LamX (CodeO)

/-- what is so of the text alone -/
structure Stat (I : LawI) : Prop where
  okF : ∀ f F, I.P.fns[f]? = some F → okFn I.P I.T I.LI (I.fi f) F = true
  bnd : ∀ f F, I.P.fns[f]? = some F → ∀ (kV doc pm : Value) (an : Option Addr) (cdv ct : Value) (us : List Value), us.length = (I.fi f).ps.length → bindArgs (PySem.W.fnOf (I.fi f).x (I.fi f).q (defArgs (I.fi f).st) (defBody (I.fi f).st) (defScope (I.fi f).st) .none kV doc pm an cdv ct) ⟨us, []⟩ = pure ((I.fi f).ps.zip us)
  sig : ∀ f n ks pm, (f, n, ks, pm) ∈ I.T.sigs → ∀ (kV doc mo : Value) (an : Option Addr) (cdv ct : Value) (us ws : List Value), us.length = n → ws.length = ks.length →
    bindArgs (PySem.W.fnOf (I.fi f).x (I.fi f).q (defArgs (I.fi f).st) (defBody (I.fi f).st) (defScope (I.fi f).st) .none kV doc mo an cdv ct) ⟨us, ks.zip ws⟩ = pure ((I.fi f).ps.zip (permV pm (us ++ ws)))
  lm : ∀ l Ld, I.P.lams[l]? = some Ld → okLam I.P I.T I.LI (I.LI l) (I.LN l) Ld = true ∧ ∀ (cl : List (Str × Addr)) (pm : Value) (c' : Addr) (ctv : Value) (us : List Value), us.length = (I.LI l).ps.length → bindArgs (PySem.W.kla_fn "<lambda>" (I.LI l).q (I.LI l).params (I.LI l).body (I.LI l).scope cl pm (.ref c') ctv) ⟨us, []⟩ = pure ((I.LI l).ps.zip us)
  cls : ∀ c cd, I.P.cls[c]? = some cd → c < I.nC ∧ (I.flN c).length = cd.flds ∧ I.wh cd.ini = .meth (I.cn c) "__init__" ∧ ∃ Fn, I.P.fns[cd.ini]? = some Fn ∧ Fn.mp = [0] ∧ Fn.own = false
  fl : ∀ c, c < I.nC → (I.flN c).Nodup ∧ (I.flN c).length < 1000
  afl : ∀ c q j n, I.P.at_ c q = some (.fld j) → look I.T.at_ n = some q → (I.flN c)[j]? = some n ∧ c < I.nC
  apr : ∀ c q f n, I.P.at_ c q = some (.prop f) → look I.T.at_ n = some q → c < I.nC ∧ I.wh f = .get (I.cn c) n
  lt : ∀ f F, I.P.fns[f]? = some F → ∀ l ∈ (I.fi f).lams, f ∈ I.tl ∧ (I.LI l).q = I.qL f
section
variable {I : LawI} {K : PySem.W.Frag} {mg : Str → Option Value} {pr : Program} {w : World} {base : Heap}
theorem tl_ne : ∀ {l : List Nat}, tlB I K l = true → ∀ f ∈ l, ∀ g ∈ l, (I.tb K f).2 = (I.tb K g).2 → f = g
  | [], _, f, hf, _, _, _ => by cases hf
  | a :: l, h, f, hf, g, hg, e => by
    obtain ⟨h1, h2⟩ := Bool.and_eq_true_iff.mp h
    have ne : ∀ b ∈ l, (I.tb K a).2 ≠ (I.tb K b).2 := fun b hb z => by
      have := List.all_eq_true.mp h1 b hb
      rw [z, Nat.beq_refl] at this
      cases this
    rcases List.mem_cons.mp hf with hf1 | hf1
    · subst hf1
      rcases List.mem_cons.mp hg with hg1 | hg1
      · exact hg1.symm
      · exact absurd e (ne g hg1)
    · rcases List.mem_cons.mp hg with hg1 | hg1
      · subst hg1
        exact absurd e.symm (ne f hf1)
      · exact tl_ne h2 f hf1 g hg1 e
theorem okFn_fk {f : Nat} {F : FnD} (h : okFn I.P I.T I.LI (I.fi f) F = true) : okFn I.P I.T I.LI (I.fk K f) F = true := h
theorem glo_of (S : Stat I) (hv : ∀ f F, I.P.fns[f]? = some F → fnV K (I.fa K f) = I.valF f) (hc : chk I K = true) (KX : K.In base) (GN : base.Ns mainGlobals mg) (hT : ∀ f ∈ I.tl, LamX.TabB base mg (I.tb K f).1 (I.tb K f).2) :
    Glo (I.W K mg) I.P I.T I.LI (I.fk K) I.LN pr w base := by
  unfold chk at hc
  simp only [Bool.and_eq_true] at hc
  obtain ⟨⟨⟨⟨⟨⟨c1, c2⟩, c3⟩, c4⟩, c5⟩, c6⟩, c7⟩ := hc
  have ns : ∀ {n : Str} {v : Value}, nsB K n (some v) = true → mg n = some v := fun {n v} h => PySem.W.mg_of KX GN (of_decide_eq_true h)
  have hgl : ∀ n g, look I.T.gl n = some g → glB I K (n, g) = true := fun n g h => List.all_eq_true.mp c2 _ (look_mem h)
  have hcl : ∀ c, c < I.nC → clsB I K c = true := fun c h => List.all_eq_true.mp c4 c (List.mem_range.mpr h)
  refine ⟨fun F H l a vs cs l1 h => h.mono l1, fun c h => ?_, fun n f h => ?_, fun n c h => ?_, fun n d h => ?_, fun n h => ?_, fun n h => ?_, S.fl, S.afl, fun c q f n h1 h2 => ?_, fun f F hf => ?_, fun c cd h => ?_, S.lm, fun F l a cv cs => .rfl⟩
  · have := hcl c h
    unfold clsB at this
    simp only [Bool.and_eq_true, decide_eq_true_eq, List.all_eq_true, List.mem_range] at this
    obtain ⟨⟨⟨⟨⟨⟨⟨⟨⟨⟨g1, g2⟩, g3⟩, g4⟩, g5⟩, g6⟩, g7⟩, g8⟩, g9⟩, g10⟩, g11⟩ := this
    exact ⟨⟨g1, g2, g3, g4⟩, g5, g6, g7, g8, g9, fun t ht => (g10 t ht).1, fun t ht => (g10 t ht).2, g11⟩
  · exact ns (hgl n _ h)
  · obtain ⟨h1, h2⟩ := Bool.and_eq_true_iff.mp (hgl n _ h)
    exact ⟨ns h1, of_decide_eq_true h2⟩
  · have h1 : (match PySem.W.nsIn K mainGlobals n with
      | some (some u) => cB K 8 d u
      | _ => false) = true := hgl n _ h
    split at h1
    · rename_i u hu
      obtain ⟨v, r1, r2⟩ := cB_ok (W := I.W K mg) (F := fun _ => none) h1
      exact ⟨u, v, PySem.W.mg_of KX GN hu, r1, r2⟩
    · cases h1
  · exact ns (hgl n _ h)
  · exact PySem.W.mg_none_of KX GN (of_decide_eq_true (List.all_eq_true.mp c3 n h))
  · obtain ⟨z1, z2⟩ := S.apr c q f n h1 h2
    refine ⟨z1, ?_⟩
    have := List.all_eq_true.mp (List.all_eq_true.mp c6 _ (look_mem h2)) c (List.mem_range.mpr z1)
    have this : (match I.P.at_ c q with
      | some (.prop _) => prB I K c n
      | _ => true) = true := this
    rw [h1] at this
    have this : prB I K c n = true := this
    unfold prB at this
    simp only [Bool.and_eq_true, decide_eq_true_eq] at this
    obtain ⟨⟨⟨g1, g2⟩, g3⟩, g4⟩ := this
    refine ⟨He.ma K (I.ca K c) n, g1, g2, g3, ?_⟩
    split at g4
    · rename_i g rest hg
      refine ⟨rest, ?_⟩
      show PySem.W.recIn K (He.ma K (I.ca K c) n) "property" = some (.ref (I.fa K f) :: rest)
      have e : I.fa K f = g := by
        unfold LawI.fa
        rw [z2]
        show (match PySem.W.recIn K (He.ma K (He.ga K (I.cn c)) n) "property" with
          | some (.ref g :: _) => g
          | _ => 0) = g
        rw [show He.ga K (I.cn c) = I.ca K c from rfl, hg]
      rw [e, hg]
    · cases g4
  · have hlt : f < I.P.fns.length := (List.getElem?_eq_some_iff.mp hf).1
    have hB := List.all_eq_true.mp c1 f (List.mem_range.mpr hlt)
    obtain ⟨fd, F1, kV, doc, pm, an, cdv, ct, efd⟩ := fnC_of (hv f F hf) hB
    refine ⟨okFn_fk (S.okF f F hf), ⟨fd, F1, ?_, fun n ks p hs => ⟨fun s us ws _ l1 l2 => ?_, fun r1 r2 => permV_rel (r1.append r2)⟩⟩, fun l hl => ?_⟩
    · rw [efd]
      exact .all (S.bnd f F hf kV doc pm an cdv ct)
    · rw [efd]
      exact .of_eq (S.sig f n ks p hs kV doc pm an cdv ct us ws l1 l2)
    · obtain ⟨z1, z2⟩ := S.lt f F hf l hl
      have hcd : ∃ c, codeV K (I.fa K f) = .ref c := He.codeIn_ref (Bool.and_eq_true_iff.mp hB).2
      obtain ⟨cc, hcc⟩ := hcd
      have ecc : codeA K (I.fa K f) = cc := by unfold codeA; rw [hcc]
      refine ⟨cc, (I.tb K f).2, ?_, hcc, ?_, fun p hp e => ?_, z2⟩
      · have := hT f z1
        rw [show (I.tb K f).1 = codeA K (I.fa K f) from rfl, ecc] at this
        exact this
      · rw [z2]
        exact List.mem_map.mpr ⟨f, z1, rfl⟩
      · obtain ⟨g, hg, rfl⟩ := List.mem_map.mp hp
        rw [z2, tl_ne c7 g hg f z1 e]
  · obtain ⟨z1, z2, z3, z4⟩ := S.cls c cd h
    refine ⟨?_, z1, z2, z4⟩
    have := List.all_eq_true.mp c5 c (List.mem_range.mpr (List.getElem?_eq_some_iff.mp h).1)
    unfold mkB at this
    simp only [Bool.and_eq_true, decide_eq_true_eq] at this
    obtain ⟨⟨⟨g1, g2⟩, g3⟩, g4⟩ := this
    have e : I.fa K cd.ini = He.ma K (I.ca K c) "__init__" := by
      unfold LawI.fa
      rw [z3]
      rfl
    show Mk K (I.ca K c) (I.fa K cd.ini)
    rw [e]
    exact ⟨g1, g2, g3, g4⟩
end
end Pu

set_option Elab.async false
set_option linter.all false
set_option maxRecDepth 100000
set_option maxHeartbeats 2000000
set_option autoImplicit false
/-! Pu, Z4: the head's Hook, the end of a law. -/
namespace Pu
open PySem PySem.Spec PyProof.Rows L2
open LamX (CodeO)

/-- the part of the first heap that the law may read -/
def F0of (H : Hp) : Hp := fun b => match H b with
  | some (.tbl _) => none
  | o => o
theorem F0_le (H : Hp) : Le (F0of H) H := fun a o h => by
  unfold F0of at h
  split at h
  · cases h
  · exact h
theorem F0_at {H : Hp} {a : Addr} {o : HO} (h : H a = some o) (n : ∀ ps, o ≠ .tbl ps) : F0of H a = some o := by
  unfold F0of
  rw [h]
  split
  · rename_i ps z
    exact absurd (Option.some.inj z) (n ps)
  · rfl
theorem F0_tbl {H : Hp} {a : Addr} {ps : Array Value} (h : H a = some (.tbl ps)) : F0of H a = none := by
  unfold F0of
  rw [h]
theorem reps_ints {W : W0} {F : Hp} : ∀ ns : List Int, Reps W F (ns.map Pu.D.int) (ns.map V.int)
  | [] => by unfold Reps; rfl
  | n :: ns => .cons .int (reps_ints ns)
/-- the law's def: its place, its parameter -/
structure Ends0 (I : LawI) (L : Nat) (x : Str) : Prop where
  fn : ∃ F, I.P.fns[L]? = some F ∧ F.np = 1 ∧ F.mp = [] ∧ F.own = false
  gl : look I.T.gl "law" = some (.fn L)
  ps : (I.fi L).ps = [x]
theorem law_at {l : PySem.W.OpenLaw} {w : World} {I : LawI} {K : PySem.W.Frag} {L n k : Nat} {x : Str} {mg : Str → Option Value} {fa : Addr} {h : Heap} (S : Stat I) (E : Ends0 I L x) (KX : K.In h) (Y : SaysP I h K) (GN : h.Ns mainGlobals mg) (hfa : mg ("law" : Str) = some (.ref fa))
    (plain : ∀ ns : List Int, ns.length ≤ n → (∀ z ∈ ns, Builtin.Int.intBits z ≤ 1048576) → (calls I.P (k + 1)).call L [.lst (ns.map Pu.D.int)] = .ok (.bl true, [])) : LamX.LawAtS l w K CX0 (2 * (k + 1)) n x mg fa h := by
  obtain ⟨F, hF, f1, f2, f3⟩ := E.fn
  have hc := Y.ch
  unfold chk at hc
  simp only [Bool.and_eq_true] at hc
  obtain ⟨⟨⟨⟨⟨⟨c1, c2⟩, c3⟩, c4⟩, c5⟩, c6⟩, c7⟩ := hc
  have hlt : L < I.P.fns.length := (List.getElem?_eq_some_iff.mp hF).1
  have hB := List.all_eq_true.mp c1 L (List.mem_range.mpr hlt)
  have efa : fa = I.fa K L := by
    have h1 : nsB K "law" (some (.ref (I.fa K L))) = true := List.all_eq_true.mp c2 _ (look_mem E.gl)
    have h2 := PySem.W.mg_of KX GN (of_decide_eq_true h1)
    rw [hfa] at h2
    cases h2
    rfl
  subst efa
  obtain ⟨fd, F1, kV, doc, pm, an, cdv, ct, efd⟩ := fnC_of (Y.fn L F hF) hB
  refine ⟨fd, I.tl.map (I.tb K), spD (I.W K mg) I.P (k + 1) L, fun p hp => ?_, fun p hp => ?_, fun p hp => ?_, fun s u => ?_, fun H a ns hl hb hH hS => ?_, fun base KB GB hT => ?_⟩
  · obtain ⟨f, hf, rfl⟩ := List.mem_map.mp hp
    exact Y.em f hf
  · obtain ⟨f, hf, rfl⟩ := List.mem_map.mp hp
    exact Y.out f hf
  · obtain ⟨f, hf, rfl⟩ := List.mem_map.mp hp
    exact PySem.W.codeHd_of_K KX (Y.hd f hf)
  · have := S.bnd L F hF kV doc pm an cdv ct [u] (by rw [E.ps]; rfl)
    rw [E.ps] at this
    rw [efd]
    exact .of_eq this
  · refine ⟨F, F0of H, [.lst (ns.map Pu.D.int)], .bl true, [], hF, ?_, raw_call (plain ns hl hb), fun v F' H' A R => ?_⟩
    · have hR : Rep (I.W K mg) (F0of H) (.lst (ns.map Pu.D.int)) (.ref a) := by
        unfold Rep
        refine ⟨a, ns.map V.int, rfl, ?_, reps_ints ns⟩
        rcases hS with (hS | ⟨o, hS⟩) | hS
        · exact .inl (.inl (F0_at hS fun _ z => nomatch z))
        · exact .inl (.inr ⟨o, F0_at hS fun _ z => nomatch z⟩)
        · exact .inr hS
      rw [f1, f2]
      have tT : ∀ p ∈ (I.W K mg).T, H p.1 = some (.tbl #[]) := fun p hp => by
        obtain ⟨f, hf, rfl⟩ := List.mem_map.mp hp
        exact hH (I.tb K f) (List.mem_map.mpr ⟨f, hf, rfl⟩)
      refine ⟨rfl, rfl, F0_le H, fun p hp => ⟨#[], tT p hp, trivial, fun pos cv z => ?_⟩, fun p hp => F0_tbl (tT p hp), fun j d v _ hd hv => ?_, fun j d hj => (nomatch hj), fun i j p hi => (nomatch hi)⟩
      · cases z
      · cases j with
        | zero =>
          cases hd
          cases hv
          exact hR
        | succ j => cases hd
    · rw [f3] at R
      have R : Rep (I.W K mg) F' (.bl true) v := R
      unfold Rep at R
      exact R
  · have G : Glo (I.W K mg) I.P I.T I.LI (I.fk K) I.LN l.prog w base := glo_of S Y.fn Y.ch KB GB fun f hf => hT _ (List.mem_map.mpr ⟨f, hf, rfl⟩)
    have r := fn_next G (all_ok G k) hF F1
    rw [show (I.fk K L).ps = [x] from E.ps] at r
    exact r
end Pu

set_option Elab.async false
set_option linter.all false
set_option maxRecDepth 100000
set_option maxHeartbeats 2000000
set_option autoImplicit false
/-! Pu, Z5: the lambdas of a text by their places. -/
namespace Pu
open PySem PySem.Spec PyProof.Rows L2

end Pu

set_option Elab.async false
set_option linter.all false
set_option maxRecDepth 100000
set_option maxHeartbeats 2000000
set_option autoImplicit false
/-! Pu, Z6: the static facts of a law from checks. -/
namespace Pu
open PySem PySem.Spec PyProof.Rows L2
open LamX (CodeO)

abbrev BndP (I : LawI) (f : Nat) : Prop := ∀ (kV doc pm : Value) (an : Option Addr) (cdv ct : Value) (us : List Value), us.length = (I.fi f).ps.length → bindArgs (PySem.W.fnOf (I.fi f).x (I.fi f).q (defArgs (I.fi f).st) (defBody (I.fi f).st) (defScope (I.fi f).st) .none kV doc pm an cdv ct) ⟨us, []⟩ = pure ((I.fi f).ps.zip us)
abbrev SigP (I : LawI) (f n : Nat) (ks : List Str) (pm : List Nat) : Prop := ∀ (kV doc mo : Value) (an : Option Addr) (cdv ct : Value) (us ws : List Value), us.length = n → ws.length = ks.length →
    bindArgs (PySem.W.fnOf (I.fi f).x (I.fi f).q (defArgs (I.fi f).st) (defBody (I.fi f).st) (defScope (I.fi f).st) .none kV doc mo an cdv ct) ⟨us, ks.zip ws⟩ = pure ((I.fi f).ps.zip (permV pm (us ++ ws)))
abbrev LmP (I : LawI) (l : Nat) : Prop := ∀ (cl : List (Str × Addr)) (pm : Value) (c' : Addr) (ctv : Value) (us : List Value), us.length = (I.LI l).ps.length → bindArgs (PySem.W.kla_fn "<lambda>" (I.LI l).q (I.LI l).params (I.LI l).body (I.LI l).scope cl pm (.ref c') ctv) ⟨us, []⟩ = pure ((I.LI l).ps.zip us)
theorem all_range {p : Nat → Prop} {n : Nat} {L : List Nat} (e : List.range n = L) (h : ∀ x ∈ L, p x) : ∀ i, i < n → p i := fun i hi => h i (by rw [← e]; exact List.mem_range.mpr hi)
theorem all_nil {α : Type} {p : α → Prop} : ∀ x ∈ ([] : List α), p x := fun x h => nomatch h
theorem all_cons {α : Type} {p : α → Prop} {a : α} {l : List α} (h : p a) (t : ∀ x ∈ l, p x) : ∀ x ∈ a :: l, p x := fun x hx => by
  rcases List.mem_cons.mp hx with e | e
  · rw [e]; exact h
  · exact t x e
section
variable (I : LawI)
def okFs : Bool := (List.range I.P.fns.length).all fun f => match I.P.fns[f]? with
  | some F => okFn I.P I.T I.LI (I.fi f) F
  | none => true
def okLs : Bool := (List.range I.P.lams.length).all fun l => match I.P.lams[l]? with
  | some L => okLam I.P I.T I.LI (I.LI l) (I.LN l) L
  | none => true
def okCs : Bool := (List.range I.P.cls.length).all fun c => match I.P.cls[c]? with
  | some cd => decide (c < I.nC) && Nat.beq (I.flN c).length cd.flds && (match I.wh cd.ini with
    | .meth C m => sEq C (I.cn c) && sEq m "__init__"
    | _ => false) && (match I.P.fns[cd.ini]? with
    | some Fn => decide (Fn.mp = [0]) && !Fn.own
    | none => false) && cd.attrs.all fun p => (match p.2 with
      | .fld j => I.T.at_.all fun q => !Nat.beq q.2 p.1 || (match (I.flN c)[j]? with
        | some x => sEq x q.1
        | none => false)
      | .prop f => I.T.at_.all fun q => !Nat.beq q.2 p.1 || (match I.wh f with
        | .get C m => sEq C (I.cn c) && sEq m q.1
        | _ => false))
  | none => true
def okFl : Bool := (List.range I.nC).all fun c => decide (I.flN c).Nodup && decide ((I.flN c).length < 1000)
def okLt : Bool := (List.range I.P.fns.length).all fun f => (I.fi f).lams.all fun l => memN f I.tl && sEq (I.LI l).q (I.qL f)
end
theorem lookup_mem {l : List (Nat × At)} {q : Nat} {v : At} (h : l.lookup q = some v) : (q, v) ∈ l := by
  induction l with
  | nil => cases h
  | cons a l ih =>
    obtain ⟨n, u⟩ := a
    rw [List.lookup_cons] at h
    split at h
    · rename_i e
      cases h
      rw [show q = n from by simpa using e]
      exact List.mem_cons_self
    · exact List.mem_cons_of_mem _ (ih h)
theorem stat_of {I : LawI} {n m : Nat} (hn : I.P.fns.length = n) (hm : I.P.lams.length = m) (b : ∀ f, f < n → BndP I f) (s : ∀ x ∈ I.T.sigs, SigP I x.1 x.2.1 x.2.2.1 x.2.2.2) (l : ∀ x, x < m → LmP I x)
    (h1 : okFs I = true) (h2 : okLs I = true) (h3 : okCs I = true) (h4 : okFl I = true) (h5 : okLt I = true) : Stat I := by
  have lt : ∀ {f F}, I.P.fns[f]? = some F → f < I.P.fns.length := fun h => (List.getElem?_eq_some_iff.mp h).1
  have cls : ∀ c cd, I.P.cls[c]? = some cd → _ := fun c cd h => by
    have := List.all_eq_true.mp h3 c (List.mem_range.mpr (List.getElem?_eq_some_iff.mp h).1)
    rw [h] at this
    exact this
  refine ⟨fun f F h => ?_, fun f F h => b f (hn ▸ lt h), fun f n ks pm h => s _ h, fun x Ld h => ⟨?_, l x (hm ▸ (List.getElem?_eq_some_iff.mp h).1)⟩, fun c cd h => ?_, fun c h => ?_, fun c q j x h1 h2 => ?_, fun c q f x h1 h2 => ?_, fun f F h x hx => ?_⟩
  · have := List.all_eq_true.mp h1 f (List.mem_range.mpr (lt h))
    rw [h] at this
    exact this
  · have := List.all_eq_true.mp h2 x (List.mem_range.mpr (List.getElem?_eq_some_iff.mp h).1)
    rw [h] at this
    exact this
  · have z := cls c cd h
    simp only [Bool.and_eq_true] at z
    obtain ⟨⟨⟨⟨z1, z2⟩, z3⟩, z4⟩, z5⟩ := z
    refine ⟨of_decide_eq_true z1, Nat.eq_of_beq_eq_true z2, ?_, ?_⟩
    · split at z3
      · rename_i C m hw
        obtain ⟨e1, e2⟩ := Bool.and_eq_true_iff.mp z3
        rw [hw, sEq_ok e1, sEq_ok e2]
      · cases z3
    · split at z4
      · rename_i Fn hF
        simp only [Bool.and_eq_true, decide_eq_true_eq, Bool.not_eq_true'] at z4
        exact ⟨Fn, hF, z4.1, z4.2⟩
      · cases z4
  · have := List.all_eq_true.mp h4 c (List.mem_range.mpr h)
    simp only [Bool.and_eq_true, decide_eq_true_eq] at this
    exact ⟨this.1, this.2⟩
  · unfold Prog.at_ at h1
    split at h1
    · rename_i cd hc
      have z := cls c cd hc
      simp only [Bool.and_eq_true] at z
      obtain ⟨⟨⟨⟨z1, z2⟩, z3⟩, z4⟩, z5⟩ := z
      have := List.all_eq_true.mp (List.all_eq_true.mp z5 _ (lookup_mem h1)) _ (look_mem h2)
      simp only [Nat.beq_refl, Bool.not_true, Bool.false_or] at this
      refine ⟨?_, of_decide_eq_true z1⟩
      split at this
      · rename_i y hy
        rw [hy, sEq_ok this]
      · cases this
    · cases h1
  · unfold Prog.at_ at h1
    split at h1
    · rename_i cd hc
      have z := cls c cd hc
      simp only [Bool.and_eq_true] at z
      obtain ⟨⟨⟨⟨z1, z2⟩, z3⟩, z4⟩, z5⟩ := z
      have := List.all_eq_true.mp (List.all_eq_true.mp z5 _ (lookup_mem h1)) _ (look_mem h2)
      simp only [Nat.beq_refl, Bool.not_true, Bool.false_or] at this
      refine ⟨of_decide_eq_true z1, ?_⟩
      split at this
      · rename_i C m hw
        obtain ⟨e1, e2⟩ := Bool.and_eq_true_iff.mp this
        rw [hw, sEq_ok e1, sEq_ok e2]
      · cases this
    · cases h1
  · have := List.all_eq_true.mp (List.all_eq_true.mp h5 f (List.mem_range.mpr (lt h))) x hx
    obtain ⟨e1, e2⟩ := Bool.and_eq_true_iff.mp this
    exact ⟨memN_iff.mp e1, sEq_ok e2⟩
end Pu

set_option Elab.async false
set_option linter.all false
set_option maxRecDepth 100000
set_option maxHeartbeats 2000000
set_option autoImplicit false
/-! Pw, A: the evaluator, read forward. -/
namespace Pu
open PySem L2

/-- it ends well, with such a thing -/
def Yld {α : Type} (r : R α) (Q : α → Prop) : Prop := ∃ a, r = .ok a ∧ Q a
theorem Yld.bind {α β : Type} {r : R α} {f : α → R β} {P : α → Prop} {Q : β → Prop} (h : Yld r P) (k : ∀ a, P a → Yld (f a) Q) : Yld (r.bind f) Q := by
  obtain ⟨a, rfl, p⟩ := h
  exact k a p
theorem Yld.ok {α : Type} {a : α} {Q : α → Prop} (h : Q a) : Yld (.ok a) Q := ⟨a, rfl, h⟩
theorem Yld.imp {α : Type} {r : R α} {P Q : α → Prop} (h : Yld r P) (k : ∀ a, P a → Q a) : Yld r Q := by
  obtain ⟨a, e, p⟩ := h
  exact ⟨a, e, k a p⟩
theorem Yld.eq {α : Type} {r r' : R α} {Q : α → Prop} (h : Yld r Q) (e : r' = r) : Yld r' Q := e ▸ h
theorem R.bind_ok' {α β : Type} {a : α} {f : α → R β} : (R.ok a).bind f = f a := id rfl
theorem R.bind_bind {α β γ : Type} {r : R α} {f : α → R β} {g : β → R γ} : (r.bind f).bind g = r.bind fun a => (f a).bind g := by
  cases r <;> rfl
theorem permute_nil {ds : List D} : permute [] ds = some [] := id rfl
theorem permute_cons {j : Nat} {pm : List Nat} {ds : List D} : permute (j :: pm) ds = ds[j]?.bind fun d => (permute pm ds).map (d :: ·) := by
  unfold permute
  rw [List.mapM_cons]
  cases ds[j]? with
  | none => rfl
  | some d => cases List.mapM (fun j => ds[j]?) pm <;> rfl
/-- a loop that keeps something -/
theorem for_inv {t : N} {body : Env' → R Fl} (I : List D → Env' → Prop) (Q : Fl → Prop) : ∀ {ds : List D} {ρ : Env'}, I ds ρ → (∀ ρ, I [] ρ → Q (.nx ρ)) →
    (∀ d ds ρ, I (d :: ds) ρ → Yld (bindN t d ρ) fun ρ1 => Yld (body ρ1) fun f => (∃ ρ2, f = .nx ρ2 ∧ I ds ρ2) ∨ ∃ v ρ2, f = .rt v ρ2 ∧ Q (.rt v ρ2)) → Yld (forLoop t body ds ρ) Q
  | [], ρ, h, e, _ => .ok (e ρ h)
  | d :: ds, ρ, h, e, s => by
    rw [forLoop]
    refine (s d ds ρ h).bind fun ρ1 h1 => h1.bind fun f h2 => ?_
    rcases h2 with ⟨ρ2, rfl, h2⟩ | ⟨v, ρ2, rfl, h2⟩
    · exact for_inv I Q h2 e s
    · exact .ok h2
/-- a comprehension's loop: what is taken so far, what is left -/
theorem lc_inv {own : List Nat} {turn : D → Env' → R (Option D × Env')} (I : List D → List D → Env' → Prop) : ∀ {ds acc : List D} {ρ : Env'}, I acc ds ρ →
    (∀ acc d ds ρ, I acc (d :: ds) ρ → Yld (turn d (wipeE own ρ)) fun p => I (acc ++ p.1.toList) ds (wipeE own p.2)) → Yld (lcLoop own turn ds ρ) fun q => I (acc ++ q.1) [] q.2
  | [], acc, ρ, h, _ => .ok (by simpa using h)
  | d :: ds, acc, ρ, h, s => by
    rw [lcLoop]
    refine (s acc d ds ρ h).bind fun p hp => (lc_inv I hp s).bind fun q hq => .ok ?_
    cases e : p.1 with
    | none => rw [e] at hq; simpa using hq
    | some x => rw [e] at hq; simpa using hq
/-- a comprehension whose turns tell each item's part by a function -/
theorem lc_map {own : List Nat} {turn : D → Env' → R (Option D × Env')} {ρ0 : Env'} (hw : wipeE own ρ0 = ρ0) (g : D → Option D) : ∀ {ds : List D}, (∀ d ∈ ds, Yld (turn d ρ0) fun p => p.1 = g d ∧ wipeE own p.2 = ρ0) → Yld (lcLoop own turn ds ρ0) fun q => q = (ds.filterMap g, ρ0)
  | [], _ => .ok rfl
  | d :: ds, h => by
    rw [lcLoop, hw]
    refine (h d List.mem_cons_self).bind fun p ⟨h1, h2⟩ => ?_
    rw [h2]
    refine (lc_map hw g fun x hx => h x (List.mem_cons_of_mem _ hx)).bind fun q hq => .ok ?_
    rw [hq, h1, List.filterMap_cons]
    cases g d <;> rfl
theorem call_eq {P : Prog} {k f : Nat} {F : FnD} {ds : List D} (h : P.fns[f]? = some F) (hn : ds.length = F.np) (hi : F.ini = false) : (calls P (k + 1)).call f ds = (run (calls P k) F.body (entry F.sz ds)).bind fun fl => endOf F.own F.mp fl := by
  show (match P.fns[f]? with
    | some F => if ds.length = F.np ∧ F.ini = false then (run (calls P k) F.body (entry F.sz ds)).bind fun fl => endOf F.own F.mp fl else .bad
    | none => .bad) = _
  rw [h]
  show (if ds.length = F.np ∧ F.ini = false then _ else _) = _
  rw [if_pos ⟨hn, hi⟩]
theorem lam_eq {P : Prog} {k l : Nat} {L : LamD} {cs ds : List D} (h : P.lams[l]? = some L) (hn : ds.length = L.np) (hc : cs.length = L.nc) (hd : D.noClos ds = true) : (calls P (k + 1)).lam l cs ds = (ev (calls P k) L.body (entry L.sz (ds ++ cs))).bind fun p => .ok p.1 := by
  show (match P.lams[l]? with
    | some L => if ds.length = L.np ∧ cs.length = L.nc ∧ D.noClos ds = true then (ev (calls P k) L.body (entry L.sz (ds ++ cs))).bind fun p => .ok p.1 else .bad
    | none => .bad) = _
  rw [h]
  show (if ds.length = L.np ∧ cs.length = L.nc ∧ D.noClos ds = true then _ else _) = _
  rw [if_pos ⟨hn, hc, hd⟩]
theorem seq_eq {C : Calls} {a b : S} {ρ : Env'} : run C (.seq a b) ρ = (run C a ρ).bind fun f => match f with
    | .nx ρ1 => run C b ρ1
    | .rt d ρ1 => .ok (.rt d ρ1) := by rw [run]; try rfl
/-- a statement's end that goes on -/
theorem Yld.seq {C : Calls} {a b : S} {ρ : Env'} {Q : Fl → Prop} (h : Yld (run C a ρ) fun f => (∃ ρ1, f = .nx ρ1 ∧ Yld (run C b ρ1) Q) ∨ ∃ d ρ1, f = .rt d ρ1 ∧ Q (.rt d ρ1)) : Yld (run C (.seq a b) ρ) Q := by
  rw [seq_eq]
  refine h.bind fun f hf => ?_
  rcases hf with ⟨ρ1, rfl, h1⟩ | ⟨d, ρ1, rfl, h1⟩
  · exact h1
  · exact .ok h1
end Pu

set_option Elab.async false
set_option linter.all false
set_option maxRecDepth 100000
set_option maxHeartbeats 2000000
set_option autoImplicit false
/-! Pw, B: the evaluator's steps as equations. -/
namespace Pu
open PySem L2

section
variable {i j : Int} {x y : Str} {a b c : Bool} {d : D} {ds es : List D} {α : Type}
theorem tru_bl : tru (.bl b) = .ok b := id rfl
theorem tru_lst : tru (.lst ds) = .ok (!ds.isEmpty) := id rfl
theorem Rof_some {u : α} : R.of (some u) = .ok u := id rfl
theorem Rneg_ok : R.neg (.ok b) = .ok (!b) := id rfl
theorem seqD_l : seqD (.lst ds) = some ds := id rfl
theorem seqD_t : seqD (.tup ds) = some ds := id rfl
theorem itemsD_l : itemsD (.lst ds) = .ok ds := id rfl
theorem itemsD_t : itemsD (.tup ds) = .ok ds := id rfl
theorem itemsD_s (h : x.length ≤ lim) : itemsD (.str x) = .ok (signs x) := if_pos h
theorem add_i : binD .add (.int i) (.int j) = .ok (.int (i + j)) := id rfl
theorem sub_i : binD .sub (.int i) (.int j) = .ok (.int (i - j)) := id rfl
theorem mulOk_l (h1 : -(2 ^ 64) < i) (h2 : i < 2 ^ 64) : mulOk i j = true := by
  unfold mulOk
  rw [decide_eq_true h1, decide_eq_true h2]
  rfl
theorem mulOk_r (h1 : -(2 ^ 64) < j) (h2 : j < 2 ^ 64) : mulOk i j = true := by
  unfold mulOk
  rw [decide_eq_true h1, decide_eq_true h2]
  simp
theorem mul_i (h : mulOk i j = true) : binD .mul (.int i) (.int j) = .ok (.int (i * j)) := if_pos h
theorem fdiv_i (h : 0 < j ∧ j.natAbs.log2 < 9000) : binD .fdiv (.int i) (.int j) = .ok (.int (i / j)) := if_pos h
theorem mod_i (h : 0 < j) : binD .mod (.int i) (.int j) = .ok (.int (i % j)) := if_pos h
theorem pow_i (h : 0 ≤ j ∧ j ≤ 1000000 ∧ i.natAbs < 2 ^ 64) : binD .pow (.int i) (.int j) = .ok (.int (i ^ j.toNat)) := if_pos h
theorem add_s (h : x.length + y.length ≤ lim) : binD .add (.str x) (.str y) = .ok (.str (x ++ y)) := if_pos h
theorem add_l (h : ds.length + es.length ≤ lim) : binD .add (.lst ds) (.lst es) = .ok (.lst (ds ++ es)) := if_pos h
theorem add_t (h : ds.length + es.length ≤ lim) : binD .add (.tup ds) (.tup es) = .ok (.tup (ds ++ es)) := if_pos h
theorem eq_i : cmpD .eq (.int i) (.int j) = .ok (decide (i = j)) := id rfl
theorem ne_i : cmpD .ne (.int i) (.int j) = .ok (!decide (i = j)) := id rfl
theorem eq_s : cmpD .eq (.str x) (.str y) = .ok (decide (x = y)) := id rfl
theorem ne_s : cmpD .ne (.str x) (.str y) = .ok (!decide (x = y)) := id rfl
theorem eq_b : cmpD .eq (.bl a) (.bl b) = .ok (decide (a = b)) := id rfl
theorem lt_i : cmpD .lt (.int i) (.int j) = .ok (decide (i < j)) := id rfl
theorem gt_i : cmpD .gt (.int i) (.int j) = .ok (decide (j < i)) := id rfl
theorem le_i : cmpD .le (.int i) (.int j) = .ok (decide (i ≤ j)) := id rfl
theorem ge_i : cmpD .ge (.int i) (.int j) = .ok (decide (j ≤ i)) := id rfl
theorem le_s : cmpD .le (.str x) (.str y) = .ok (!decide (y.cps.toList < x.cps.toList)) := id rfl
theorem gt_s : cmpD .gt (.str x) (.str y) = .ok (decide (y.cps.toList < x.cps.toList)) := id rfl
theorem ge_s : cmpD .ge (.str x) (.str y) = .ok (!decide (x.cps.toList < y.cps.toList)) := id rfl
theorem lt_s : cmpD .lt (.str x) (.str y) = .ok (decide (x.cps.toList < y.cps.toList)) := id rfl
theorem isn_n : cmpD .isn d .non = .ok (isNone d) := by cases d <;> rfl
theorem isnt_n : cmpD .isnt d .non = .ok (!isNone d) := by cases d <;> rfl
theorem isNone_n : isNone .non = true := id rfl
theorem isNone_i : isNone (.int i) = false := id rfl
theorem isNone_s : isNone (.str x) = false := id rfl
theorem isNone_t : isNone (.tup ds) = false := id rfl
theorem isNone_l : isNone (.lst ds) = false := id rfl
theorem isNone_b : isNone (.bl b) = false := id rfl
theorem isNone_o {k : Nat} : isNone (.obj k ds) = false := id rfl
theorem inn_d {d' : D} : cmpD .inn d d' = inD d d' := id rfl
theorem nin_d {d' : D} : cmpD .nin d d' = (inD d d').neg := id rfl
theorem eq_d {d' : D} : cmpD .eq d d' = eqD d d' := id rfl
theorem ne_d {d' : D} : cmpD .ne d d' = (eqD d d').neg := id rfl
theorem idx_l : idxD (.lst ds) (.int i) = R.of (atI ds i) := id rfl
theorem idx_t : idxD (.tup ds) (.int i) = R.of (atI ds i) := id rfl
theorem idx_s (h : x.length ≤ lim) : idxD (.str x) (.int i) = R.of ((atI x.cps.toList i).map fun c => .str ⟨#[c]⟩) := if_pos h
theorem slc_l {lo hi : Option Int} : slcD (.lst ds) lo hi = .ok (.lst (cutD ds lo hi)) := id rfl
theorem slc_t {lo hi : Option Int} : slcD (.tup ds) lo hi = .ok (.tup (cutD ds lo hi)) := id rfl
theorem slc_s {lo hi : Option Int} (h : x.length ≤ lim) : slcD (.str x) lo hi = .ok (.str ⟨(cutD x.cps.toList lo hi).toArray⟩) := if_pos h
theorem len_l : biD .len [.lst ds] = .ok (.int (ds.length : Nat)) := id rfl
theorem len_t : biD .len [.tup ds] = .ok (.int (ds.length : Nat)) := id rfl
theorem len_s (h : x.length ≤ lim) : biD .len [.str x] = .ok (.int (x.length : Nat)) := if_pos h
theorem abs_i : biD .abs [.int i] = .ok (.int (if i < 0 then -i else i)) := id rfl
theorem int_i : biD .int [.int i] = .ok (.int i) := id rfl
theorem min2_i : biD .min2 [.int i, .int j] = .ok (.int (if j < i then j else i)) := id rfl
theorem max2_i : biD .max2 [.int i, .int j] = .ok (.int (if j > i then j else i)) := id rfl
theorem tuple_l : biD .tuple [.lst ds] = .ok (.tup ds) := id rfl
theorem tuple_t : biD .tuple [.tup ds] = .ok (.tup ds) := id rfl
theorem list_l : biD .list [.lst ds] = .ok (.lst ds) := id rfl
theorem list_t : biD .list [.tup ds] = .ok (.lst ds) := id rfl
theorem sorted_l : biD .sorted [.lst ds] = (sortD ds).bind fun es => .ok (.lst es) := id rfl
theorem divmod_i (h : 0 < j ∧ j.natAbs < 1073741824) : biD .divmod [.int i, .int j] = .ok (.tup [.int (i / j), .int (i % j)]) := if_pos h
theorem gcd_i : biD .gcd [.int i, .int j] = .ok (.int ((Nat.gcd i.natAbs j.natAbs : Nat) : Int)) := id rfl
theorem boolsD_map {l : List α} {f : α → Bool} : boolsD (l.map fun u => D.bl (f u)) = some (l.map f) := by
  induction l with
  | nil => rfl
  | cons u l ih =>
    show (boolsD (l.map fun u => D.bl (f u))).map (f u :: ·) = _
    rw [ih]
    rfl
theorem intsD_map {l : List α} {f : α → Int} : intsD (l.map fun u => D.int (f u)) = some (l.map f) := by
  induction l with
  | nil => rfl
  | cons u l ih =>
    show (intsD (l.map fun u => D.int (f u))).map (f u :: ·) = _
    rw [ih]
    rfl
theorem all_b {l : List α} {f : α → Bool} : biD .all [.lst (l.map fun u => D.bl (f u))] = .ok (.bl (l.all f)) := by
  show (match boolsD (l.map fun u => D.bl (f u)) with
    | some bs => R.ok (D.bl (bs.all id))
    | _ => .bad) = _
  rw [boolsD_map]
  simp [List.all_map]
theorem any_b {l : List α} {f : α → Bool} : biD .any [.lst (l.map fun u => D.bl (f u))] = .ok (.bl (l.any f)) := by
  show (match boolsD (l.map fun u => D.bl (f u)) with
    | some bs => R.ok (D.bl (bs.any id))
    | _ => .bad) = _
  rw [boolsD_map]
  simp [List.any_map]
theorem isi_b {s : String} : isiD (.bl b) (.b s) = .ok (s == "bool" || s == "int") := id rfl
theorem isi_i {s : String} : isiD (.int i) (.b s) = .ok (s == "int") := id rfl
theorem isi_s {s : String} : isiD (.str x) (.b s) = .ok (s == "str") := id rfl
theorem isi_t {s : String} : isiD (.tup ds) (.b s) = .ok (s == "tuple") := id rfl
theorem isi_l {s : String} : isiD (.lst ds) (.b s) = .ok (s == "list") := id rfl
theorem isi_n {s : String} : isiD .non (.b s) = .ok (s == "NoneType") := id rfl
theorem isi_o {s : String} {k : Nat} : isiD (.obj k ds) (.b s) = .ok false := id rfl
theorem isi_oc {k k' : Nat} : isiD (.obj k' ds) (.c k) = .ok (decide (k' = k)) := id rfl
theorem isi_ic {k : Nat} : isiD (.int i) (.c k) = .ok false := id rfl
theorem isi_sc {k : Nat} : isiD (.str x) (.c k) = .ok false := id rfl
theorem isi_tc {k : Nat} : isiD (.tup ds) (.c k) = .ok false := id rfl
theorem atI_nat {l : List α} {n : Nat} : atI l (n : Int) = l[n]? := by
  unfold atI ixN
  rw [if_pos (by omega)]
  by_cases h : (n : Int) < l.length
  · rw [if_pos h]; rfl
  · rw [if_neg h, List.getElem?_eq_none (by omega)]; rfl
theorem atI_0 {l : List α} : atI l 0 = l[0]? := atI_nat (n := 0)
theorem atI_1 {l : List α} : atI l 1 = l[1]? := atI_nat (n := 1)
theorem atI_2 {l : List α} : atI l 2 = l[2]? := atI_nat (n := 2)
theorem atI_3 {l : List α} : atI l 3 = l[3]? := atI_nat (n := 3)
theorem atI_last {l : List α} : atI l (-1) = l.getLast? := by
  unfold atI ixN
  rw [if_neg (by omega)]
  cases l with
  | nil => rfl
  | cons a l =>
    rw [if_pos (by simp only [List.length_cons]; omega), List.getLast?_eq_getElem?]
    show (a :: l)[((-1 : Int) + ((a :: l).length : Nat)).toNat]? = _
    congr 1
    simp only [List.length_cons]
    omega
theorem atI_int {l : List α} (h : 0 ≤ i) : atI l i = l[i.toNat]? := by
  obtain ⟨n, rfl⟩ := Int.eq_ofNat_of_zero_le h
  exact atI_nat
theorem ixN_nat {n k : Nat} (h : k < n) : ixN n (k : Int) = some k := by
  unfold ixN
  rw [if_pos (by omega), if_pos (by omega)]
  rfl
theorem ixN_0 {n : Nat} : ixN (n + 1) 0 = some 0 := ixN_nat (k := 0) (by omega)
theorem ixN_1 {n : Nat} : ixN (n + 2) 1 = some 1 := ixN_nat (k := 1) (by omega)
theorem ixN_2 {n : Nat} : ixN (n + 3) 2 = some 2 := ixN_nat (k := 2) (by omega)
theorem cut_hi {l : List α} {n : Nat} : cutD l none (some (n : Int)) = l.take n := by
  unfold cutD
  show (l.drop 0).take (HT.sIx l.length l.length (some (n : Int)) - 0) = _
  rw [List.drop_zero, Nat.sub_zero, HT.sIx_nat, List.take_eq_take_iff]
  omega
theorem rng_i {lo hi : Int} : rngD (.int lo) (.int hi) = if -(2 ^ 62) ≤ lo ∧ lo < 2 ^ 62 ∧ -(2 ^ 62) ≤ hi ∧ hi < 2 ^ 62 ∧ (hi - lo).toNat ≤ lim then .ok ((List.range (hi - lo).toNat).map fun (k : Nat) => .int (lo + (k : Int))) else .bad := by
  rw [rngD]
theorem rng_n {n : Nat} (h : n ≤ lim) : rngD (.int 0) (.int (n : Int)) = .ok ((List.range n).map fun (k : Nat) => .int (k : Int)) := by
  have e : ((n : Int) - 0).toNat = n := by omega
  have l : lim = 16777216 := by rw [lim]
  rw [rng_i, if_pos (by rw [e]; exact ⟨by omega, by omega, by omega, by omega, h⟩), e]
  simp
theorem asgT_nm {C : Calls} {k : Nat} {ρ : Env'} : asgT C (.nm k) d ρ = .ok (ρ.set k (some d)) := by rw [asgT]
theorem asgT_tp {C : Calls} {t : T} {ρ : Env'} : asgT C (.tp t) (.tup ds) ρ = asgTs C t ds ρ := by rw [asgT]
theorem asgT_tpl {C : Calls} {t : T} {ρ : Env'} : asgT C (.tp t) (.lst ds) ρ = asgTs C t ds ρ := by rw [asgT]
theorem ne_b : cmpD .ne (.bl a) (.bl b) = .ok (!decide (a = b)) := id rfl
theorem asgT_sub {C : Calls} {k : Nat} {e : E} {ρ : Env'} : asgT C (.sub k e) d ρ = match ρ[k]? with
    | some (some _) => (ev C e ρ).bind fun p => match p.1, p.2[k]? with
      | .int k', some (some (.lst ds)) => match ixN ds.length k' with
        | some j => .ok (p.2.set k (some (.lst (ds.set j d))))
        | none => .bad
      | _, _ => .bad
    | _ => .bad := by
  rw [asgT]
  try rfl
theorem asgTs_nil {C : Calls} {ρ : Env'} : asgTs C .nil [] ρ = .ok ρ := by rw [asgTs]
theorem asgTs_cons {C : Calls} {t u : T} {ρ : Env'} : asgTs C (.cons t u) (d :: ds) ρ = (asgT C t d ρ).bind fun ρ1 => asgTs C u ds ρ1 := by rw [asgTs]
theorem bindN_nm {k : Nat} {ρ : Env'} : bindN (.nm k) d ρ = .ok (ρ.set k (some d)) := by rw [bindN]
theorem bindN_tp {t : N} {ρ : Env'} : bindN (.tp t) (.tup ds) ρ = bindNs t ds ρ := by rw [bindN]
theorem bindNs_nil {ρ : Env'} : bindNs .nil [] ρ = .ok ρ := by rw [bindNs]
theorem bindNs_cons {t u : N} {ρ : Env'} : bindNs (.cons t u) (d :: ds) ρ = (bindN t d ρ).bind fun ρ1 => bindNs u ds ρ1 := by rw [bindNs]
theorem sb_int_bool : ("int" == "bool") = false := by decide
theorem sb_int_str : ("int" == "str") = false := by decide
theorem sb_int_tuple : ("int" == "tuple") = false := by decide
theorem sb_int_list : ("int" == "list") = false := by decide
theorem sb_int_NoneType : ("int" == "NoneType") = false := by decide
theorem sb_bool_int : ("bool" == "int") = false := by decide
theorem sb_bool_str : ("bool" == "str") = false := by decide
theorem sb_bool_tuple : ("bool" == "tuple") = false := by decide
theorem sb_bool_list : ("bool" == "list") = false := by decide
theorem sb_bool_NoneType : ("bool" == "NoneType") = false := by decide
theorem sb_str_int : ("str" == "int") = false := by decide
theorem sb_str_bool : ("str" == "bool") = false := by decide
theorem sb_str_tuple : ("str" == "tuple") = false := by decide
theorem sb_str_list : ("str" == "list") = false := by decide
theorem sb_str_NoneType : ("str" == "NoneType") = false := by decide
theorem sb_tuple_int : ("tuple" == "int") = false := by decide
theorem sb_tuple_bool : ("tuple" == "bool") = false := by decide
theorem sb_tuple_str : ("tuple" == "str") = false := by decide
theorem sb_tuple_list : ("tuple" == "list") = false := by decide
theorem sb_tuple_NoneType : ("tuple" == "NoneType") = false := by decide
theorem sb_list_int : ("list" == "int") = false := by decide
theorem sb_list_bool : ("list" == "bool") = false := by decide
theorem sb_list_str : ("list" == "str") = false := by decide
theorem sb_list_tuple : ("list" == "tuple") = false := by decide
theorem sb_list_NoneType : ("list" == "NoneType") = false := by decide
theorem lim_0 : 0 ≤ lim := by rw [lim]; omega
theorem lim_1 : 1 ≤ lim := by rw [lim]; omega
theorem lim_2 : 2 ≤ lim := by rw [lim]; omega
theorem lim_3 : 3 ≤ lim := by rw [lim]; omega
theorem lim_4 : 4 ≤ lim := by rw [lim]; omega
theorem lim_5 : 5 ≤ lim := by rw [lim]; omega
theorem lim_6 : 6 ≤ lim := by rw [lim]; omega
theorem lim_7 : 7 ≤ lim := by rw [lim]; omega
theorem lim_8 : 8 ≤ lim := by rw [lim]; omega
theorem lim_9 : 9 ≤ lim := by rw [lim]; omega
theorem lim_10 : 10 ≤ lim := by rw [lim]; omega
theorem lim_11 : 11 ≤ lim := by rw [lim]; omega
theorem lim_12 : 12 ≤ lim := by rw [lim]; omega
theorem Yld_ok {β : Type} {u : β} {Q : β → Prop} : Yld (.ok u) Q = Q u := propext ⟨fun ⟨_, e, q⟩ => by cases e; exact q, fun q => ⟨u, rfl, q⟩⟩
theorem Yld_eq {β : Type} {r : R β} {u : β} (h : Yld r fun q => q = u) : r = .ok u := by
  obtain ⟨a, e, q⟩ := h
  rw [e, q]
end
end Pu

set_option Elab.async false
set_option linter.all false
set_option maxRecDepth 100000
set_option maxHeartbeats 2000000
set_option autoImplicit false
/-! Pw, C: texts and pairs of texts: in, sorted, their order. -/
namespace Pu
open PySem L2 PyProof.Rows PySem.W

abbrev Slt (a b : Str) : Prop := a.cps.toList < b.cps.toList
def dS (x : Str) : D := .str x
def dPr (p : Str × Str) : D := .tup [.str p.1, .str p.2]
def pPr (p : Str × Str) : PyData := .tuple [.str p.1, .str p.2]
theorem pysOfMap {α : Type} {f : α → D} {g : α → PyData} (h : ∀ a, (f a).py = some (g a)) : ∀ l : List α, D.pys (l.map f) = some (l.map g)
  | [] => by rw [List.map_nil, D.pys]; rfl
  | a :: l => by rw [List.map_cons, D.pys, h a, pysOfMap h l]; rfl
theorem py_s (x : Str) : (dS x).py = some (.str x) := by rw [dS, D.py]
theorem py_pr (p : Str × Str) : (dPr p).py = some (pPr p) := by
  rw [dPr, D.py, D.pys, D.py, D.pys, D.py, D.pys]
  rfl
theorem depth_strs : ∀ l : List Str, PyData.depthAll (l.map PyData.str) ≤ 1
  | [] => by rw [List.map_nil, PyData.depthAll]; omega
  | x :: l => by
    have := depth_strs l
    rw [List.map_cons, PyData.depthAll, PyData.depth]
    omega
theorem eqv_str (x y : Str) : PyData.eqv (.str x) (.str y) = decide (x = y) := by rw [PyData.eqv]; exact Bool.eq_iff_iff.mpr (by simp)
theorem inSeq_s (x : Str) (l : List Str) : inSeq (.str x) (l.map dS) = .ok (decide (x ∈ l)) := by
  unfold inSeq
  rw [pysOfMap py_s]
  have e : (D.str x).py = some (.str x) := by rw [D.py]
  rw [e]
  have h : min (PyData.depthAll (l.map PyData.str)) (PyData.str x).depth ≤ 60 := by
    have := depth_strs l
    omega
  show (if min (PyData.depthAll (l.map PyData.str)) (PyData.str x).depth ≤ 60 then R.ok ((l.map PyData.str).any fun z => PyData.eqv z (.str x)) else .bad) = _
  rw [if_pos h, List.any_map]
  congr 1
  induction l with
  | nil => simp
  | cons a l ih =>
    have ih := ih (by have := depth_strs l; omega)
    rw [List.any_cons, ih]
    simp only [Function.comp, eqv_str, List.mem_cons, eq_comm (a := x)]
    simp [Bool.decide_or]
theorem in_l (x : Str) (l : List Str) : inD (.str x) (.lst (l.map dS)) = .ok (decide (x ∈ l)) := by
  rw [inD]
  exact inSeq_s x l
theorem in_t (x : Str) (l : List Str) : inD (.str x) (.tup (l.map dS)) = .ok (decide (x ∈ l)) := by
  rw [inD]
  exact inSeq_s x l

/-! ### sorted -/
theorem le_trans' {α : Type} {g : α → PyData} (a b c : α) (h1 : dataLe false g a b = true) (h2 : dataLe false g b c = true) : dataLe false g a c = true := by
  rw [dataLe_eq] at *
  simp only [cond_false, Bool.not_eq_true', dataLt] at *
  cases q : lexLt itemOrd (keyToks (g c)) (keyToks (g a)) with
  | false => rfl
  | true =>
    rcases lex_negTrans _ (keyToks (g b)) _ q with z | z
    · rw [z] at h2; cases h2
    · rw [z] at h1; cases h1
theorem le_total' {α : Type} {g : α → PyData} (a b : α) : (dataLe false g a b || dataLe false g b a) = true := by
  rw [dataLe_eq]
  simp only [cond_false, dataLt, Bool.or_eq_true, Bool.not_eq_true']
  cases q : lexLt itemOrd (keyToks (g b)) (keyToks (g a)) with
  | false => exact .inl rfl
  | true =>
    refine .inr ?_
    cases z : lexLt itemOrd (keyToks (g a)) (keyToks (g b)) with
    | false => rfl
    | true =>
      have := lex_trans _ _ _ q z
      rw [lex_irrefl] at this
      cases this
theorem le_strict {α : Type} {g : α → PyData} {a b : α} (h : dataLe false g a b = true) (n : keyToks (g a) ≠ keyToks (g b)) : dataLt (g a) (g b) = true := by
  rw [dataLe_eq] at h
  simp only [cond_false, Bool.not_eq_true', dataLt] at *
  cases q : lexLt itemOrd (keyToks (g a)) (keyToks (g b)) with
  | true => rfl
  | false => exact absurd (lex_total _ _ q h) n
theorem sort_map {α : Type} {f : α → D} {g : α → PyData} (h : ∀ a, (f a).py = some (g a)) {l : List α} (nd : l.Nodup) (ok : sortOk (l.map g) = true) (inj : ∀ a b, keyToks (g a) = keyToks (g b) → a = b) :
    ∃ l' : List α, sortD (l.map f) = .ok (l'.map f) ∧ l'.Perm l ∧ l'.Pairwise fun a b => dataLt (g a) (g b) = true := by
  refine ⟨l.mergeSort (dataLe false g), ?_, List.mergeSort_perm _ _, ?_⟩
  · unfold sortD
    rw [pysOfMap h]
    show (if sortOk (l.map g) = true then R.ok ((l.map f).mergeSort (dataLe false fun d => d.py.getD .none)) else .bad) = _
    rw [if_pos ok]
    congr 1
    symm
    refine List.map_mergeSort fun a _ b _ => ?_
    rw [dataLe_eq, dataLe_eq]
    simp only [h, Option.getD_some]
  · have p := List.pairwise_mergeSort (le := dataLe false g) (fun a b c => le_trans' a b c) (fun a b => le_total' a b) l
    have nd' : (l.mergeSort (dataLe false g)).Nodup := (List.mergeSort_perm _ _).nodup_iff.mpr nd
    exact (p.and nd').imp fun ⟨h1, h2⟩ => le_strict h1 fun z => h2 (inj _ _ z)
theorem sortOk_all {ps : List PyData} (h1 : ∀ p ∈ ps, ∀ q ∈ ps, alike p q = true) (h2 : (∀ p ∈ ps, ∃ x xs, p = .tuple (x :: xs)) ∨ ∀ p ∈ ps, ∃ x, p = .str x) (h3 : ∀ p ∈ ps, p.depth ≤ 64) : sortOk ps = true := by
  unfold sortOk
  simp only [Bool.and_eq_true, Bool.or_eq_true, List.all_eq_true, decide_eq_true_eq]
  refine ⟨⟨h1, ?_⟩, h3⟩
  rcases h2 with h2 | h2
  · refine .inl fun p hp => ?_
    obtain ⟨x, xs, rfl⟩ := h2 p hp
    rfl
  · refine .inr fun p hp => ?_
    obtain ⟨x, rfl⟩ := h2 p hp
    rfl
theorem toks_str (x : Str) : keyToks (.str x) = [.inr x.cps.toList] := by rw [keyToks]
theorem toks_pr (p : Str × Str) : keyToks (pPr p) = [.inl 1, .inr p.1.cps.toList, .inl 1, .inr p.2.cps.toList, .inl 0] := by
  rw [pPr, keyToks, toks_all_cons, toks_all_cons, keyToksAll, toks_str, toks_str]
  rfl
theorem sort_s {l : List Str} (nd : l.Nodup) : ∃ l' : List Str, sortD (l.map dS) = .ok (l'.map dS) ∧ l'.Perm l ∧ l'.Pairwise Slt := by
  have ok : sortOk (l.map PyData.str) = true := by
    refine sortOk_all (fun p hp q hq => ?_) (.inr fun p hp => ?_) fun p hp => ?_
    · obtain ⟨a, _, rfl⟩ := List.mem_map.mp hp
      obtain ⟨b, _, rfl⟩ := List.mem_map.mp hq
      rw [alike]
    · obtain ⟨a, _, rfl⟩ := List.mem_map.mp hp
      exact ⟨a, rfl⟩
    · obtain ⟨a, _, rfl⟩ := List.mem_map.mp hp
      rw [PyData.depth]; omega
  obtain ⟨l', h1, h2, h3⟩ := sort_map (g := PyData.str) py_s nd ok fun a b z => by
    rw [toks_str, toks_str] at z
    exact str_of_cps (Sum.inr.inj (List.cons.inj z).1)
  refine ⟨l', h1, h2, h3.imp fun {a b} z => ?_⟩
  rw [dataLt_str] at z
  exact of_decide_eq_true z
theorem sort_p {l : List (Str × Str)} (nd : l.Nodup) : ∃ l' : List (Str × Str), sortD (l.map dPr) = .ok (l'.map dPr) ∧ l'.Perm l ∧ l'.Pairwise fun a b => dataLt (pPr a) (pPr b) = true := by
  refine sort_map (g := pPr) py_pr nd (sortOk_all (fun p hp q hq => ?_) (.inl fun p hp => ?_) fun p hp => ?_) fun a b z => ?_
  · obtain ⟨a, _, rfl⟩ := List.mem_map.mp hp
    obtain ⟨b, _, rfl⟩ := List.mem_map.mp hq
    simp [pPr, alike, alikeAll]
  · obtain ⟨a, _, rfl⟩ := List.mem_map.mp hp
    exact ⟨_, _, rfl⟩
  · obtain ⟨a, _, rfl⟩ := List.mem_map.mp hp
    simp [pPr, PyData.depth, PyData.depthAll]
  · rw [toks_pr, toks_pr] at z
    simp only [List.cons.injEq, Sum.inr.injEq, true_and, and_true] at z
    exact Prod.ext (str_of_cps z.1) (str_of_cps z.2)
end Pu

set_option Elab.async false
set_option linter.all false
set_option maxRecDepth 100000
set_option maxHeartbeats 2000000
set_option autoImplicit false
/-! Pw, D: names. -/
namespace Pu
open PySem L2

theorem nodup_sub_len {α : Type} [DecidableEq α] : ∀ {l m : List α}, l.Nodup → (∀ x ∈ l, x ∈ m) → l.length ≤ m.length
  | [], _, _, _ => Nat.zero_le _
  | a :: l, m, nd, h => by
    have nd := List.nodup_cons.mp nd
    have ha := h a List.mem_cons_self
    have := nodup_sub_len (l := l) (m := m.erase a) nd.2 fun x hx => (List.mem_erase_of_ne (a := x) (b := a) (fun e => nd.1 (by rw [← e]; exact hx))).mpr (h x (List.mem_cons_of_mem _ hx))
    rw [List.length_erase_of_mem ha] at this
    have : 0 < m.length := List.length_pos_of_mem ha
    rw [List.length_cons]
    omega
/-- a text of one sign -/
def ch (c : Nat) : Str := ⟨#[c]⟩
def abc : List Nat := (List.range 26).map (97 + ·)
/-- the texts with one more letter -/
def more1 (p : Str) : List Str := abc.map fun c => p ++ ch c
theorem str_append (a b : Str) : a ++ b = ⟨a.cps ++ b.cps⟩ := rfl
theorem more1_inj {p : Str} {c d : Nat} (h : p ++ ch c = p ++ ch d) : c = d := by
  rw [str_append, str_append, Str.mk.injEq] at h
  have := Array.append_right_inj p.cps |>.mp h
  simpa [ch] using this
theorem more1_nodup (p : Str) : (more1 p).Nodup := by
  unfold more1
  have h : abc.Nodup := by decide
  rw [List.nodup_iff_pairwise_ne] at h ⊢
  rw [List.pairwise_map]
  exact h.imp fun n z => n (more1_inj z)
theorem more1_pop {p x : Str} (h : x ∈ more1 p) : x.cps.pop = p.cps := by
  obtain ⟨c, _, rfl⟩ := List.mem_map.mp h
  rw [str_append]
  simp [ch]
/-- few texts of W are one letter longer than one text -/
def fewB (W : List Str) (k : Nat) : Bool := W.all fun w => decide ((W.filter fun x => decide (x.cps.pop = w.cps.pop)).length ≤ k)
theorem few_ok {W : List Str} {k : Nat} (h : fewB W k = true) (p : Str) : (W.filter fun x => decide (x.cps.pop = p.cps)).length ≤ k := by
  cases q : W.filter fun x => decide (x.cps.pop = p.cps) with
  | nil => exact Nat.zero_le _
  | cons w r =>
    have hw : w ∈ W.filter fun x => decide (x.cps.pop = p.cps) := by rw [q]; exact List.mem_cons_self
    obtain ⟨h1, h2⟩ := List.mem_filter.mp hw
    have h3 := of_decide_eq_true (List.all_eq_true.mp h w h1)
    rw [of_decide_eq_true h2, q] at h3
    exact h3
theorem some_free {W F : List Str} {k : Nat} (h : fewB W k = true) (hF : k + F.length < 26) (p : Str) : ∃ x ∈ more1 p, x ∉ W ∧ x ∉ F := by
  refine Classical.byContradiction fun n => ?_
  have sub : ∀ x ∈ more1 p, x ∈ (W.filter fun x => decide (x.cps.pop = p.cps)) ++ F := fun x hx => by
    rw [List.mem_append, List.mem_filter]
    by_cases h1 : x ∈ W
    · exact .inl ⟨h1, decide_eq_true (more1_pop hx)⟩
    · by_cases h2 : x ∈ F
      · exact .inr h2
      · exact absurd ⟨x, hx, h1, h2⟩ n
  have := nodup_sub_len (more1_nodup p) sub
  have l := few_ok h p
  rw [List.length_append] at this
  have e : (more1 p).length = 26 := by
    unfold more1
    rw [List.length_map]
    decide
  omega
/-- a name's form -/
structure Nm (W : List Str) (x : Str) : Prop where
  lo : 1 ≤ x.cps.toList.length
  hi : x.cps.toList.length ≤ 8
  az : ∀ c ∈ x.cps.toList, c ∈ abc
  nw : x ∉ W
/-- the first seven signs -/
def cut7 (x : Str) : Str := ⟨(x.cps.toList.take 7).toArray⟩
theorem nm_more {W : List Str} {nm x : Str} (h1 : 1 ≤ nm.cps.toList.length) (h2 : nm.cps.toList.length ≤ 8) (az : ∀ c ∈ nm.cps.toList, c ∈ abc) (hx : x ∈ nm :: more1 (cut7 nm)) (hw : x ∉ W) : Nm W x := by
  rcases List.mem_cons.mp hx with rfl | hx
  · exact ⟨h1, h2, az, hw⟩
  · obtain ⟨c, hc, rfl⟩ := List.mem_map.mp hx
    have e : (cut7 nm ++ ch c).cps.toList = nm.cps.toList.take 7 ++ [c] := by
      rw [str_append]
      simp [cut7, ch]
    refine ⟨?_, ?_, fun d hd => ?_, hw⟩
    · rw [e]; simp
    · rw [e]; simp; omega
    · rw [e] at hd
      rcases List.mem_append.mp hd with hd | hd
      · exact az d (List.mem_of_mem_take hd)
      · rw [List.mem_singleton.mp hd]; exact hc
/-- a comprehension over a list whose turns take or leave an item -/
theorem lc_filter {α : Type} {own : List Nat} {turn : D → Env' → R (Option D × Env')} {ρ0 : Env'} (hw : wipeE own ρ0 = ρ0) (f h : α → D) (p : α → Bool) : ∀ {l : List α}, (∀ a ∈ l, Yld (turn (f a) ρ0) fun q => q.1 = (if p a then some (h a) else none) ∧ wipeE own q.2 = ρ0) →
    lcLoop own turn (l.map f) ρ0 = .ok ((l.filter p).map h, ρ0)
  | [], _ => rfl
  | a :: l, t => by
    obtain ⟨q, e, h1, h2⟩ := t a List.mem_cons_self
    rw [List.map_cons, lcLoop, hw, e, R.bind_ok', h2, lc_filter hw f h p fun x hx => t x (List.mem_cons_of_mem _ hx), R.bind_ok', h1, List.filter_cons]
    cases p a <;> rfl
theorem lc_all {α : Type} {own : List Nat} {turn : D → Env' → R (Option D × Env')} {ρ0 : Env'} (hw : wipeE own ρ0 = ρ0) (f h : α → D) {l : List α} (t : ∀ a ∈ l, Yld (turn (f a) ρ0) fun q => q.1 = some (h a) ∧ wipeE own q.2 = ρ0) :
    lcLoop own turn (l.map f) ρ0 = .ok (l.map h, ρ0) := by
  have := lc_filter hw f h (fun _ => true) (l := l) fun a ha => (t a ha).imp fun q hq => by simpa using hq
  rw [this, List.filter_eq_self.mpr fun _ _ => rfl]
theorem lc_allY {α : Type} {own : List Nat} {turn : D → Env' → R (Option D × Env')} {ρ0 : Env'} (hw : wipeE own ρ0 = ρ0) (f h : α → D) {l : List α} (t : ∀ a ∈ l, Yld (turn (f a) ρ0) fun q => q.1 = some (h a) ∧ wipeE own q.2 = ρ0) :
    Yld (lcLoop own turn (l.map f) ρ0) fun q => q = (l.map h, ρ0) := ⟨_, lc_all hw f h t, rfl⟩
theorem lc_filterY {α : Type} {own : List Nat} {turn : D → Env' → R (Option D × Env')} {ρ0 : Env'} (hw : wipeE own ρ0 = ρ0) (f h : α → D) (p : α → Bool) {l : List α} (t : ∀ a ∈ l, Yld (turn (f a) ρ0) fun q => q.1 = (if p a then some (h a) else none) ∧ wipeE own q.2 = ρ0) :
    Yld (lcLoop own turn (l.map f) ρ0) fun q => q = ((l.filter p).map h, ρ0) := ⟨_, lc_filter hw f h p t, rfl⟩
theorem dS_eq (x : Str) : dS x = .str x := id rfl
theorem filter_some {α : Type} {p : α → Bool} {l : List α} {x : α} (hx : x ∈ l) (hp : p x = true) : ∃ y r, l.filter p = y :: r ∧ y ∈ l ∧ p y = true := by
  cases q : l.filter p with
  | nil =>
    have : x ∈ l.filter p := List.mem_filter.mpr ⟨hx, hp⟩
    rw [q] at this
    cases this
  | cons y r =>
    have : y ∈ l.filter p := by rw [q]; exact List.mem_cons_self
    exact ⟨y, r, rfl, List.mem_filter.mp this⟩
end Pu

set_option Elab.async false
set_option linter.all false
set_option maxRecDepth 100000
set_option maxHeartbeats 2000000
set_option autoImplicit false
/-! Pw, E: loops with draws, new instances, more comparisons. -/
namespace Pu
open PySem L2 PyProof.Rows PySem.W

theorem lc_sub {α : Type} {own : List Nat} {turn : D → Env' → R (Option D × Env')} (J : Env' → Prop) (f h : α → D) : ∀ {l : List α} {ρ : Env'}, J ρ → (∀ a ∈ l, ∀ ρ, J ρ → Yld (turn (f a) (wipeE own ρ)) fun p => (p.1 = none ∨ p.1 = some (h a)) ∧ J (wipeE own p.2)) →
    Yld (lcLoop own turn (l.map f) ρ) fun q => ∃ l' : List α, l'.Sublist l ∧ q.1 = l'.map h ∧ J q.2
  | [], ρ, j, _ => ⟨_, rfl, [], .slnil, rfl, j⟩
  | a :: l, ρ, j, t => by
    rw [List.map_cons, lcLoop]
    refine (t a List.mem_cons_self ρ j).bind fun p ⟨h1, h2⟩ => ?_
    refine (lc_sub J f h h2 fun x hx => t x (List.mem_cons_of_mem _ hx)).bind fun q ⟨l', s, e, j'⟩ => .ok ?_
    rcases h1 with h1 | h1
    · exact ⟨l', s.cons _, by rw [h1]; exact e, j'⟩
    · exact ⟨a :: l', s.cons₂ _, by rw [h1, List.map_cons, e], j'⟩
theorem lc_each {own : List Nat} {turn : D → Env' → R (Option D × Env')} (J : Env' → Prop) (T : D → Prop) : ∀ {l : List D} {ρ : Env'}, J ρ → (∀ a ∈ l, ∀ ρ, J ρ → Yld (turn a (wipeE own ρ)) fun p => (∃ x, p.1 = some x ∧ T x) ∧ J (wipeE own p.2)) →
    Yld (lcLoop own turn l ρ) fun q => q.1.length = l.length ∧ (∀ x ∈ q.1, T x) ∧ J q.2
  | [], ρ, j, _ => ⟨_, rfl, rfl, fun x hx => (nomatch hx), j⟩
  | a :: l, ρ, j, t => by
    rw [lcLoop]
    refine (t a List.mem_cons_self ρ j).bind fun p ⟨⟨x, h1, hx⟩, h2⟩ => ?_
    refine (lc_each J T h2 fun x hx => t x (List.mem_cons_of_mem _ hx)).bind fun q ⟨s, e, j'⟩ => .ok ?_
    rw [h1]
    refine ⟨by rw [List.length_cons, List.length_cons, s], fun y hy => ?_, j'⟩
    rcases List.mem_cons.mp hy with rfl | hy
    · exact hx
    · exact e y hy
theorem new_eq {P : Prog} {k c : Nat} {cd : ClD} {F : FnD} {ds : List D} (h : P.cls[c]? = some cd) (hF : P.fns[cd.ini]? = some F) (hn : ds.length + 1 = F.np) (hi : F.ini = true) : (calls P (k + 1)).new c ds = (run (calls P k) F.body (entry F.sz (.obj c [] :: ds))).bind fun fl => match fl with
              | .nx ρ => match ρ[0]? with
                | some (some (D.obj c2 es)) => if c2 = c ∧ es.length = cd.flds then R.ok (D.obj c es) else R.bad
                | _ => .bad
              | .rt _ _ => .bad := by
  show (match P.cls[c]? with
        | some c' => match P.fns[c'.ini]? with
          | some F => if ds.length + 1 = F.np ∧ F.ini = true then (run (calls P k) F.body (entry F.sz (.obj c [] :: ds))).bind fun fl => match fl with
              | .nx ρ => match ρ[0]? with
                | some (some (D.obj c2 es)) => if c2 = c ∧ es.length = c'.flds then R.ok (D.obj c es) else R.bad
                | _ => .bad
              | .rt _ _ => .bad
            else .bad
          | none => .bad
        | none => .bad) = _
  rw [h]
  show (match P.fns[cd.ini]? with
          | some F => if ds.length + 1 = F.np ∧ F.ini = true then (run (calls P k) F.body (entry F.sz (.obj c [] :: ds))).bind fun fl => match fl with
              | .nx ρ => match ρ[0]? with
                | some (some (D.obj c2 es)) => if c2 = c ∧ es.length = cd.flds then R.ok (D.obj c es) else R.bad
                | _ => .bad
              | .rt _ _ => .bad
            else .bad
          | none => .bad) = _
  rw [hF]
  show (if ds.length + 1 = F.np ∧ F.ini = true then _ else _) = _
  rw [if_pos ⟨hn, hi⟩]
theorem eq_inon (i : Int) : cmpD .eq (.int i) .non = .ok false := by
  show eqD (.int i) .non = _
  unfold eqD
  simp [D.py, PyData.depth, PyData.eqv]
theorem eqD_tup {ds es : List D} {ps qs : List PyData} (h1 : D.pys ds = some ps) (h2 : D.pys es = some qs) (h : min (PyData.depth (.tuple ps)) (PyData.depth (.tuple qs)) ≤ 60) : cmpD .eq (.tup ds) (.tup es) = .ok (PyData.eqv (.tuple ps) (.tuple qs)) := by
  show eqD (.tup ds) (.tup es) = _
  have e1 : (D.tup ds).py = some (.tuple ps) := by rw [D.py, h1]
  have e2 : (D.tup es).py = some (.tuple qs) := by rw [D.py, h2]
  unfold eqD
  simp only [e1, e2]
  rw [if_pos h]
theorem eqD_lst {ds es : List D} {ps qs : List PyData} (h1 : D.pys ds = some ps) (h2 : D.pys es = some qs) (h : min (PyData.depth (.list ps)) (PyData.depth (.list qs)) ≤ 60) : cmpD .eq (.lst ds) (.lst es) = .ok (PyData.eqv (.list ps) (.list qs)) := by
  show eqD (.lst ds) (.lst es) = _
  have e1 : (D.lst ds).py = some (.list ps) := by rw [D.py, h1]
  have e2 : (D.lst es).py = some (.list qs) := by rw [D.py, h2]
  unfold eqD
  simp only [e1, e2]
  rw [if_pos h]
theorem pys_nil : D.pys [] = some [] := by rw [D.pys]
theorem eqv_all_nil (ps : List PyData) : PyData.eqvAll ps [] = ps.isEmpty := by cases ps <;> simp [PyData.eqvAll]
theorem eq_tnil {ds : List D} {ps : List PyData} (h : D.pys ds = some ps) : cmpD .eq (.tup ds) (.tup []) = .ok ds.isEmpty := by
  rw [eqD_tup h pys_nil (by simp [PyData.depth, PyData.depthAll])]
  have e : ds.isEmpty = ps.isEmpty := by
    cases ds with
    | nil => rw [D.pys] at h; cases h; rfl
    | cons d ds =>
      rw [D.pys] at h
      split at h
      · split at h
        · cases h; rfl
        · cases h
      · cases h
  rw [PyData.eqv, eqv_all_nil, e]
theorem eq_lnil {ds : List D} {ps : List PyData} (h : D.pys ds = some ps) : cmpD .eq (.lst ds) (.lst []) = .ok ds.isEmpty := by
  rw [eqD_lst h pys_nil (by simp [PyData.depth, PyData.depthAll])]
  have e : ds.isEmpty = ps.isEmpty := by
    cases ds with
    | nil => rw [D.pys] at h; cases h; rfl
    | cons d ds =>
      rw [D.pys] at h
      split at h
      · split at h
        · cases h; rfl
        · cases h
      · cases h
  rw [PyData.eqv, eqv_all_nil, e]
theorem ne_lnil {ds : List D} {ps : List PyData} (h : D.pys ds = some ps) : cmpD .ne (.lst ds) (.lst []) = .ok (!ds.isEmpty) := by
  have := eq_lnil h
  show (eqD (.lst ds) (.lst [])).neg = _
  rw [show eqD (.lst ds) (.lst []) = cmpD .eq (.lst ds) (.lst []) from rfl, this]
  rfl
theorem lt_pr (a b : Str × Str) : cmpD .lt (dPr a) (dPr b) = .ok (dataLt (pPr a) (pPr b)) := by
  have e : ∀ p : Str × Str, D.pys [.str p.1, .str p.2] = some [.str p.1, .str p.2] := fun p => by
    rw [D.pys, D.py, D.pys, D.py, D.pys]
  show ltD (.tup [.str a.1, .str a.2]) (.tup [.str b.1, .str b.2]) = _
  unfold ltD
  simp only [e]
  rw [if_pos (by simp [alikeAll, alike, PyData.depthAll, PyData.depth])]
  rfl
theorem in_str (c : Nat) (x : Str) : inD (.str (ch c)) (.str x) = .ok (decide (c ∈ x.cps.toList)) := by
  rfl
theorem numbered_get' {ds : List D} {i : Nat} (h : i < ds.length) : (numbered ds).drop i = .tup [.int (i : Nat), ds[i]] :: (numbered ds).drop (i + 1) := by
  have hl : (numbered ds).length = ds.length := by simp [numbered]
  rw [List.drop_eq_getElem_cons (by rw [hl]; exact h)]
  congr 1
  simp [numbered]
theorem numbered_end {ds : List D} : (numbered ds).drop ds.length = [] := by
  rw [List.drop_eq_nil_iff]
  simp [numbered]
theorem noClos_map {α : Type} {f : α → D} (h : ∀ a, D.noClo (f a) = true) : ∀ l : List α, D.noClos (l.map f) = true
  | [] => by rw [List.map_nil, D.noClos]
  | a :: l => by rw [List.map_cons, D.noClos, h a, noClos_map h l]; rfl
end Pu

namespace K08
open PySem PySem.Spec PyProof.Rows L2 Pu
theorem ends0 : Ends0 I n_law "script" := ⟨⟨f_law, by kernel_rfl, rfl, rfl, rfl⟩, by kernel_rfl, by kernel_rfl⟩
theorem b0 : BndP I 0 := fun _ _ _ _ _ _ us hl => match us, hl with
  | [_], _ => by kernel_rfl
theorem b1 : BndP I 1 := fun _ _ _ _ _ _ us hl => match us, hl with
  | [_], _ => by kernel_rfl
theorem b2 : BndP I 2 := fun _ _ _ _ _ _ us hl => match us, hl with
  | [_, _], _ => by kernel_rfl
theorem b3 : BndP I 3 := fun _ _ _ _ _ _ us hl => match us, hl with
  | [_, _], _ => by kernel_rfl
theorem b4 : BndP I 4 := fun _ _ _ _ _ _ us hl => match us, hl with
  | [_, _], _ => by kernel_rfl
theorem b5 : BndP I 5 := fun _ _ _ _ _ _ us hl => match us, hl with
  | [_, _], _ => by kernel_rfl
theorem b6 : BndP I 6 := fun _ _ _ _ _ _ us hl => match us, hl with
  | [_], _ => by kernel_rfl
theorem b7 : BndP I 7 := fun _ _ _ _ _ _ us hl => match us, hl with
  | [_, _, _, _], _ => by kernel_rfl
theorem b8 : BndP I 8 := fun _ _ _ _ _ _ us hl => match us, hl with
  | [_], _ => by kernel_rfl
theorem b9 : BndP I 9 := fun _ _ _ _ _ _ us hl => match us, hl with
  | [_, _, _, _], _ => by kernel_rfl
theorem b10 : BndP I 10 := fun _ _ _ _ _ _ us hl => match us, hl with
  | [_], _ => by kernel_rfl
theorem b11 : BndP I 11 := fun _ _ _ _ _ _ us hl => match us, hl with
  | [_], _ => by kernel_rfl
theorem b12 : BndP I 12 := fun _ _ _ _ _ _ us hl => match us, hl with
  | [_, _], _ => by kernel_rfl
theorem b13 : BndP I 13 := fun _ _ _ _ _ _ us hl => match us, hl with
  | [_, _], _ => by kernel_rfl
theorem b14 : BndP I 14 := fun _ _ _ _ _ _ us hl => match us, hl with
  | [_, _], _ => by kernel_rfl
theorem b15 : BndP I 15 := fun _ _ _ _ _ _ us hl => match us, hl with
  | [_], _ => by kernel_rfl
theorem b16 : BndP I 16 := fun _ _ _ _ _ _ us hl => match us, hl with
  | [_, _], _ => by kernel_rfl
theorem b17 : BndP I 17 := fun _ _ _ _ _ _ us hl => match us, hl with
  | [_, _], _ => by kernel_rfl
theorem b18 : BndP I 18 := fun _ _ _ _ _ _ us hl => match us, hl with
  | [_], _ => by kernel_rfl
theorem b19 : BndP I 19 := fun _ _ _ _ _ _ us hl => match us, hl with
  | [_], _ => by kernel_rfl
theorem b20 : BndP I 20 := fun _ _ _ _ _ _ us hl => match us, hl with
  | [_], _ => by kernel_rfl
theorem b21 : BndP I 21 := fun _ _ _ _ _ _ us hl => match us, hl with
  | [_], _ => by kernel_rfl
theorem b22 : BndP I 22 := fun _ _ _ _ _ _ us hl => match us, hl with
  | [_], _ => by kernel_rfl
theorem b23 : BndP I 23 := fun _ _ _ _ _ _ us hl => match us, hl with
  | [_], _ => by kernel_rfl
theorem b24 : BndP I 24 := fun _ _ _ _ _ _ us hl => match us, hl with
  | [_], _ => by kernel_rfl
theorem b25 : BndP I 25 := fun _ _ _ _ _ _ us hl => match us, hl with
  | [_], _ => by kernel_rfl
theorem b26 : BndP I 26 := fun _ _ _ _ _ _ us hl => match us, hl with
  | [_, _], _ => by kernel_rfl
theorem b27 : BndP I 27 := fun _ _ _ _ _ _ us hl => match us, hl with
  | [_], _ => by kernel_rfl
theorem b28 : BndP I 28 := fun _ _ _ _ _ _ us hl => match us, hl with
  | [_], _ => by kernel_rfl
theorem b29 : BndP I 29 := fun _ _ _ _ _ _ us hl => match us, hl with
  | [_], _ => by kernel_rfl
theorem b30 : BndP I 30 := fun _ _ _ _ _ _ us hl => match us, hl with
  | [_, _], _ => by kernel_rfl
theorem b31 : BndP I 31 := fun _ _ _ _ _ _ us hl => match us, hl with
  | [_, _], _ => by kernel_rfl
theorem s0 : SigP I n_law_bowl 2 [] [0, 1] := fun _ _ _ _ _ _ us ws h1 h2 => match us, ws, h1, h2 with
  | [_, _], [], _, _ => by kernel_rfl
theorem s1 : SigP I n_law_street 2 [] [0, 1] := fun _ _ _ _ _ _ us ws h1 h2 => match us, ws, h1, h2 with
  | [_, _], [], _, _ => by kernel_rfl
theorem s2 : SigP I n_law_same 2 [] [0, 1] := fun _ _ _ _ _ _ us ws h1 h2 => match us, ws, h1, h2 with
  | [_, _], [], _, _ => by kernel_rfl
theorem s3 : SigP I n_is_even 0 ["street"] [0] := fun _ _ _ _ _ _ us ws h1 h2 => match us, ws, h1, h2 with
  | [], [_], _, _ => by kernel_rfl
theorem s4 : SigP I n_is_even 1 [] [0] := fun _ _ _ _ _ _ us ws h1 h2 => match us, ws, h1, h2 with
  | [_], [], _, _ => by kernel_rfl
theorem s5 : SigP I n_law_beside 2 [] [0, 1] := fun _ _ _ _ _ _ us ws h1 h2 => match us, ws, h1, h2 with
  | [_, _], [], _, _ => by kernel_rfl
theorem s6 : SigP I n_law_made 1 [] [0] := fun _ _ _ _ _ _ us ws h1 h2 => match us, ws, h1, h2 with
  | [_], [], _, _ => by kernel_rfl
theorem s7 : SigP I n_law_names 2 [] [0, 1] := fun _ _ _ _ _ _ us ws h1 h2 => match us, ws, h1, h2 with
  | [_, _], [], _, _ => by kernel_rfl
theorem s8 : SigP I n_law_draw 2 [] [0, 1] := fun _ _ _ _ _ _ us ws h1 h2 => match us, ws, h1, h2 with
  | [_, _], [], _, _ => by kernel_rfl
theorem s9 : SigP I n_law_of 2 [] [0, 1] := fun _ _ _ _ _ _ us ws h1 h2 => match us, ws, h1, h2 with
  | [_, _], [], _, _ => by kernel_rfl
theorem s10 : SigP I n_Street_init 4 [] [0, 1, 2, 3] := fun _ _ _ _ _ _ us ws h1 h2 => match us, ws, h1, h2 with
  | [_, _, _, _], [], _, _ => by kernel_rfl
theorem s11 : SigP I n_check_want 1 [] [0] := fun _ _ _ _ _ _ us ws h1 h2 => match us, ws, h1, h2 with
  | [_], [], _, _ => by kernel_rfl
theorem s12 : SigP I n_wrong_in_ties 2 [] [0, 1] := fun _ _ _ _ _ _ us ws h1 h2 => match us, ws, h1, h2 with
  | [_, _], [], _, _ => by kernel_rfl
theorem s13 : SigP I n_wrong_in_places 1 [] [0] := fun _ _ _ _ _ _ us ws h1 h2 => match us, ws, h1, h2 with
  | [_], [], _, _ => by kernel_rfl
theorem s14 : SigP I n_are_below 2 [] [0, 1] := fun _ _ _ _ _ _ us ws h1 h2 => match us, ws, h1, h2 with
  | [_, _], [], _, _ => by kernel_rfl
theorem s15 : SigP I n_is_name 1 [] [0] := fun _ _ _ _ _ _ us ws h1 h2 => match us, ws, h1, h2 with
  | [_], [], _, _ => by kernel_rfl
theorem s16 : SigP I n_is_word 1 [] [0] := fun _ _ _ _ _ _ us ws h1 h2 => match us, ws, h1, h2 with
  | [_], [], _, _ => by kernel_rfl
theorem s17 : SigP I n_is_tie 2 [] [0, 1] := fun _ _ _ _ _ _ us ws h1 h2 => match us, ws, h1, h2 with
  | [_, _], [], _, _ => by kernel_rfl
theorem s18 : SigP I n_is_one_of 2 [] [0, 1] := fun _ _ _ _ _ _ us ws h1 h2 => match us, ws, h1, h2 with
  | [_, _], [], _, _ => by kernel_rfl
theorem s19 : SigP I n_is_pair 1 [] [0] := fun _ _ _ _ _ _ us ws h1 h2 => match us, ws, h1, h2 with
  | [_], [], _, _ => by kernel_rfl
theorem s20 : SigP I n_is_tuple_of 2 [] [0, 1] := fun _ _ _ _ _ _ us ws h1 h2 => match us, ws, h1, h2 with
  | [_, _], [], _, _ => by kernel_rfl
theorem s21 : SigP I n_is_part 1 [] [0] := fun _ _ _ _ _ _ us ws h1 h2 => match us, ws, h1, h2 with
  | [_], [], _, _ => by kernel_rfl
theorem s22 : SigP I n_is_fraction 1 [] [0] := fun _ _ _ _ _ _ us ws h1 h2 => match us, ws, h1, h2 with
  | [_], [], _, _ => by kernel_rfl
theorem s23 : SigP I n_is_whole 1 [] [0] := fun _ _ _ _ _ _ us ws h1 h2 => match us, ws, h1, h2 with
  | [_], [], _, _ => by kernel_rfl
theorem s24 : SigP I n_near_by 1 [] [0] := fun _ _ _ _ _ _ us ws h1 h2 => match us, ws, h1, h2 with
  | [_], [], _, _ => by kernel_rfl
theorem s25 : SigP I n_check_street 1 [] [0] := fun _ _ _ _ _ _ us ws h1 h2 => match us, ws, h1, h2 with
  | [_], [], _, _ => by kernel_rfl
theorem s26 : SigP I n_Street_places 1 [] [0] := fun _ _ _ _ _ _ us ws h1 h2 => match us, ws, h1, h2 with
  | [_], [], _, _ => by kernel_rfl
theorem s27 : SigP I n_Street_ties 1 [] [0] := fun _ _ _ _ _ _ us ws h1 h2 => match us, ws, h1, h2 with
  | [_], [], _, _ => by kernel_rfl
theorem lb0 : LmP I 0 := fun _ _ _ _ us hl => match us, hl with
  | [_, _], _ => by kernel_rfl
theorem lb1 : LmP I 1 := fun _ _ _ _ us hl => match us, hl with
  | [_, _], _ => by kernel_rfl
theorem sigs_eq : I.T.sigs = ([(n_law_bowl, 2, ([] : List Str), [0, 1]), (n_law_street, 2, ([] : List Str), [0, 1]), (n_law_same, 2, ([] : List Str), [0, 1]), (n_is_even, 0, (["street"] : List Str), [0]), (n_is_even, 1, ([] : List Str), [0]), (n_law_beside, 2, ([] : List Str), [0, 1]), (n_law_made, 1, ([] : List Str), [0]), (n_law_names, 2, ([] : List Str), [0, 1]), (n_law_draw, 2, ([] : List Str), [0, 1]), (n_law_of, 2, ([] : List Str), [0, 1]), (n_Street_init, 4, ([] : List Str), [0, 1, 2, 3]), (n_check_want, 1, ([] : List Str), [0]), (n_wrong_in_ties, 2, ([] : List Str), [0, 1]), (n_wrong_in_places, 1, ([] : List Str), [0]), (n_are_below, 2, ([] : List Str), [0, 1]), (n_is_name, 1, ([] : List Str), [0]), (n_is_word, 1, ([] : List Str), [0]), (n_is_tie, 2, ([] : List Str), [0, 1]), (n_is_one_of, 2, ([] : List Str), [0, 1]), (n_is_pair, 1, ([] : List Str), [0]), (n_is_tuple_of, 2, ([] : List Str), [0, 1]), (n_is_part, 1, ([] : List Str), [0]), (n_is_fraction, 1, ([] : List Str), [0]), (n_is_whole, 1, ([] : List Str), [0]), (n_near_by, 1, ([] : List Str), [0]), (n_check_street, 1, ([] : List Str), [0]), (n_Street_places, 1, ([] : List Str), [0]), (n_Street_ties, 1, ([] : List Str), [0])] : List Sig) := by kernel_rfl
theorem okF1 : okFs I = true := by kernel_rfl
theorem okL1 : okLs I = true := by kernel_rfl
theorem okC1 : okCs I = true := by kernel_rfl
theorem okFl1 : okFl I = true := by kernel_rfl
theorem okLt1 : okLt I = true := by kernel_rfl
theorem st : Stat I := stat_of (n := 32) (m := 2) (by kernel_rfl) (by kernel_rfl) (all_range (L := [0, 1, 2, 3, 4, 5, 6, 7, 8, 9, 10, 11, 12, 13, 14, 15, 16, 17, 18, 19, 20, 21, 22, 23, 24, 25, 26, 27, 28, 29, 30, 31]) (by kernel_rfl) (all_cons b0 (all_cons b1 (all_cons b2 (all_cons b3 (all_cons b4 (all_cons b5 (all_cons b6 (all_cons b7 (all_cons b8 (all_cons b9 (all_cons b10 (all_cons b11 (all_cons b12 (all_cons b13 (all_cons b14 (all_cons b15 (all_cons b16 (all_cons b17 (all_cons b18 (all_cons b19 (all_cons b20 (all_cons b21 (all_cons b22 (all_cons b23 (all_cons b24 (all_cons b25 (all_cons b26 (all_cons b27 (all_cons b28 (all_cons b29 (all_cons b30 (all_cons b31 (all_nil))))))))))))))))))))))))))))))))))
  (by rw [sigs_eq]; exact all_cons s0 (all_cons s1 (all_cons s2 (all_cons s3 (all_cons s4 (all_cons s5 (all_cons s6 (all_cons s7 (all_cons s8 (all_cons s9 (all_cons s10 (all_cons s11 (all_cons s12 (all_cons s13 (all_cons s14 (all_cons s15 (all_cons s16 (all_cons s17 (all_cons s18 (all_cons s19 (all_cons s20 (all_cons s21 (all_cons s22 (all_cons s23 (all_cons s24 (all_cons s25 (all_cons s26 (all_cons s27 (all_nil))))))))))))))))))))))))))))) (all_range (L := [0, 1]) (by kernel_rfl) (all_cons lb0 (all_cons lb1 (all_nil)))) okF1 okL1 okC1 okFl1 okLt1
end K08

set_option Elab.async false
set_option linter.all false
set_option maxRecDepth 100000
set_option maxHeartbeats 4000000
set_option autoImplicit false
namespace K08
open PySem Pu
/-! ### draws -/
def Bowl (d : D) : Prop := ∃ a b c : Int, d = .lst [.int a, .int b, .int c]
theorem log733 : (0 : Int) < 733 ∧ (733 : Int).natAbs.log2 < 9000 := by decide
theorem draw_ok {b : D} (hb : Bowl b) {m : Int} (h0 : 0 < m) (h1 : m < 1000) (k : Nat) : ∃ (r : Nat) (b' : D), (calls P (k + 1)).call n_law_draw [b, .int m] = .ok (.int (r : Int), [b']) ∧ (r : Int) < m ∧ Bowl b' := by
  have key : Yld ((calls P (k + 1)).call n_law_draw [b, .int m]) fun p => ∃ (r : Int) (b' : D), p = (.int r, [b']) ∧ 0 ≤ r ∧ r < m ∧ Bowl b' := by
    obtain ⟨a, b, c, rfl⟩ := hb
    rw [call_eq (F := f_law_draw) rfl rfl rfl]
    have hm : 0 < m ∧ m.natAbs < 1073741824 := ⟨h0, by omega⟩
    by_cases ha : 0 < a
    · simp only [f_law_draw, Pu.run, ev, evs, evi, evp, R.bind_ok', entry, endOf, getAll, permute_nil, permute_cons, fill, put, List.map_cons, List.map_nil, List.length_cons, List.length_nil, List.cons_append, List.nil_append, List.replicate_succ, List.replicate_zero, Nat.reduceAdd, Nat.reduceSub, List.getElem?_cons_zero, List.getElem?_cons_succ, List.getElem?_nil, List.set_cons_zero, List.set_cons_succ, Option.bind_some, Option.map_some, wipeE, backE, List.getD_cons_zero, List.getD_cons_succ, and_true, true_and, reduceIte, if_true, if_false, Option.getD_some, Option.getD_none, List.isEmpty_nil, List.isEmpty_cons, Bool.not_true, Bool.not_false, decide_eq_true_eq, gt_iff_lt, Int.reduceLT, Int.reduceLE, Int.reduceAdd, Int.reduceMul, Int.reduceSub, Nat.reduceLT, Nat.reduceLeDiff, Nat.reduceEqDiff, decide_true, decide_false, Bool.false_eq_true, Bool.true_or, Bool.or_true, Bool.and_true, Bool.true_and, Bool.false_and, Bool.and_false, Bool.false_or, Bool.or_false, D.noClo, D.noClos, beq_self_eq_true, tru_bl, tru_lst, Rof_some, Rneg_ok, seqD_l, seqD_t, itemsD_l, itemsD_t, itemsD_s, add_i, sub_i, mul_i, fdiv_i, mod_i, pow_i, add_s, add_l, add_t, eq_i, ne_i, eq_s, ne_s, eq_b, lt_i, gt_i, le_i, ge_i, le_s, gt_s, ge_s, lt_s, isn_n, isnt_n, isNone_n, isNone_i, isNone_s, isNone_t, isNone_l, isNone_b, isNone_o, inn_d, nin_d, idx_l, idx_t, idx_s, slc_l, slc_t, slc_s, len_l, len_t, len_s, abs_i, int_i, min2_i, max2_i, tuple_l, tuple_t, list_l, list_t, sorted_l, divmod_i, gcd_i, isi_b, isi_i, isi_s, isi_t, isi_l, isi_n, isi_o, isi_oc, isi_ic, isi_sc, isi_tc, atI_0, atI_1, atI_2, atI_3, atI_last, ixN_0, ixN_1, ixN_2, cut_hi, rng_n, asgT_nm, asgT_tp, asgT_tpl, ne_b, asgT_sub, asgTs_nil, asgTs_cons, bindN_nm, bindN_tp, bindNs_nil, bindNs_cons, sb_int_bool, sb_int_str, sb_int_tuple, sb_int_list, sb_int_NoneType, sb_bool_int, sb_bool_str, sb_bool_tuple, sb_bool_list, sb_bool_NoneType, sb_str_int, sb_str_bool, sb_str_tuple, sb_str_list, sb_str_NoneType, sb_tuple_int, sb_tuple_bool, sb_tuple_str, sb_tuple_list, sb_tuple_NoneType, sb_list_int, sb_list_bool, sb_list_str, sb_list_tuple, sb_list_NoneType, lim_0, lim_1, lim_2, lim_3, lim_4, lim_5, lim_6, lim_7, lim_8, lim_9, lim_10, lim_11, lim_12, Yld_ok, decide_eq_true ha, hm]
      exact ⟨_, _, rfl, Int.emod_nonneg _ (by omega), Int.emod_lt_of_pos _ h0, _, _, _, rfl⟩
    · have q1 : ∀ i : Int, mulOk i 39373 = true := fun i => mulOk_r (by decide) (by decide)
      have q2 : ∀ i : Int, mulOk 17011 i = true := fun i => mulOk_l (by decide) (by decide)
      have q3 : ∀ i : Int, mulOk 7 i = true := fun i => mulOk_l (by decide) (by decide)
      have q4 : ∀ i j : Int, mulOk (i % 2147483563) j = true := fun i j => mulOk_l (by omega) (by omega)
      simp only [f_law_draw, Pu.run, ev, evs, evi, evp, R.bind_ok', entry, endOf, getAll, permute_nil, permute_cons, fill, put, List.map_cons, List.map_nil, List.length_cons, List.length_nil, List.cons_append, List.nil_append, List.replicate_succ, List.replicate_zero, Nat.reduceAdd, Nat.reduceSub, List.getElem?_cons_zero, List.getElem?_cons_succ, List.getElem?_nil, List.set_cons_zero, List.set_cons_succ, Option.bind_some, Option.map_some, wipeE, backE, List.getD_cons_zero, List.getD_cons_succ, and_true, true_and, reduceIte, if_true, if_false, Option.getD_some, Option.getD_none, List.isEmpty_nil, List.isEmpty_cons, Bool.not_true, Bool.not_false, decide_eq_true_eq, gt_iff_lt, Int.reduceLT, Int.reduceLE, Int.reduceAdd, Int.reduceMul, Int.reduceSub, Nat.reduceLT, Nat.reduceLeDiff, Nat.reduceEqDiff, decide_true, decide_false, Bool.false_eq_true, Bool.true_or, Bool.or_true, Bool.and_true, Bool.true_and, Bool.false_and, Bool.and_false, Bool.false_or, Bool.or_false, D.noClo, D.noClos, beq_self_eq_true, tru_bl, tru_lst, Rof_some, Rneg_ok, seqD_l, seqD_t, itemsD_l, itemsD_t, itemsD_s, add_i, sub_i, mul_i, fdiv_i, mod_i, pow_i, add_s, add_l, add_t, eq_i, ne_i, eq_s, ne_s, eq_b, lt_i, gt_i, le_i, ge_i, le_s, gt_s, ge_s, lt_s, isn_n, isnt_n, isNone_n, isNone_i, isNone_s, isNone_t, isNone_l, isNone_b, isNone_o, inn_d, nin_d, idx_l, idx_t, idx_s, slc_l, slc_t, slc_s, len_l, len_t, len_s, abs_i, int_i, min2_i, max2_i, tuple_l, tuple_t, list_l, list_t, sorted_l, divmod_i, gcd_i, isi_b, isi_i, isi_s, isi_t, isi_l, isi_n, isi_o, isi_oc, isi_ic, isi_sc, isi_tc, atI_0, atI_1, atI_2, atI_3, atI_last, ixN_0, ixN_1, ixN_2, cut_hi, rng_n, asgT_nm, asgT_tp, asgT_tpl, ne_b, asgT_sub, asgTs_nil, asgTs_cons, bindN_nm, bindN_tp, bindNs_nil, bindNs_cons, sb_int_bool, sb_int_str, sb_int_tuple, sb_int_list, sb_int_NoneType, sb_bool_int, sb_bool_str, sb_bool_tuple, sb_bool_list, sb_bool_NoneType, sb_str_int, sb_str_bool, sb_str_tuple, sb_str_list, sb_str_NoneType, sb_tuple_int, sb_tuple_bool, sb_tuple_str, sb_tuple_list, sb_tuple_NoneType, sb_list_int, sb_list_bool, sb_list_str, sb_list_tuple, sb_list_NoneType, lim_0, lim_1, lim_2, lim_3, lim_4, lim_5, lim_6, lim_7, lim_8, lim_9, lim_10, lim_11, lim_12, Yld_ok, decide_eq_false ha, h0, q1, q2, q3, q4, log733]
      exact ⟨_, _, rfl, Int.emod_nonneg _ (by omega), Int.emod_lt_of_pos _ h0, _, _, _, rfl⟩
  obtain ⟨p, e, r, b', rfl, h2, h3, h4⟩ := key
  obtain ⟨n, rfl⟩ := Int.eq_ofNat_of_zero_le h2
  exact ⟨n, b', e, h3, h4⟩
theorem of_t {b : D} (hb : Bowl b) {l : List D} (h0 : 0 < l.length) (h1 : l.length < 1000) (k : Nat) : ∃ x ∈ l, ∃ b', (calls P (k + 2)).call n_law_of [b, .tup l] = .ok (x, [b']) ∧ Bowl b' := by
  obtain ⟨r, b', e, h2, h3⟩ := draw_ok hb (m := (l.length : Int)) (by omega) (by omega) k
  have hr : r < l.length := by omega
  refine ⟨l[r], List.getElem_mem hr, b', ?_, h3⟩
  rw [call_eq (F := f_law_of) rfl rfl rfl]
  simp only [f_law_of, Pu.run, ev, evs, evi, evp, R.bind_ok', entry, endOf, getAll, permute_nil, permute_cons, fill, put, List.map_cons, List.map_nil, List.length_cons, List.length_nil, List.cons_append, List.nil_append, List.replicate_succ, List.replicate_zero, Nat.reduceAdd, Nat.reduceSub, List.getElem?_cons_zero, List.getElem?_cons_succ, List.getElem?_nil, List.set_cons_zero, List.set_cons_succ, Option.bind_some, Option.map_some, wipeE, backE, List.getD_cons_zero, List.getD_cons_succ, and_true, true_and, reduceIte, if_true, if_false, Option.getD_some, Option.getD_none, List.isEmpty_nil, List.isEmpty_cons, Bool.not_true, Bool.not_false, decide_eq_true_eq, gt_iff_lt, Int.reduceLT, Int.reduceLE, Int.reduceAdd, Int.reduceMul, Int.reduceSub, Nat.reduceLT, Nat.reduceLeDiff, Nat.reduceEqDiff, decide_true, decide_false, Bool.false_eq_true, Bool.true_or, Bool.or_true, Bool.and_true, Bool.true_and, Bool.false_and, Bool.and_false, Bool.false_or, Bool.or_false, D.noClo, D.noClos, beq_self_eq_true, tru_bl, tru_lst, Rof_some, Rneg_ok, seqD_l, seqD_t, itemsD_l, itemsD_t, itemsD_s, add_i, sub_i, mul_i, fdiv_i, mod_i, pow_i, add_s, add_l, add_t, eq_i, ne_i, eq_s, ne_s, eq_b, lt_i, gt_i, le_i, ge_i, le_s, gt_s, ge_s, lt_s, isn_n, isnt_n, isNone_n, isNone_i, isNone_s, isNone_t, isNone_l, isNone_b, isNone_o, inn_d, nin_d, idx_l, idx_t, idx_s, slc_l, slc_t, slc_s, len_l, len_t, len_s, abs_i, int_i, min2_i, max2_i, tuple_l, tuple_t, list_l, list_t, sorted_l, divmod_i, gcd_i, isi_b, isi_i, isi_s, isi_t, isi_l, isi_n, isi_o, isi_oc, isi_ic, isi_sc, isi_tc, atI_0, atI_1, atI_2, atI_3, atI_last, ixN_0, ixN_1, ixN_2, cut_hi, rng_n, asgT_nm, asgT_tp, asgT_tpl, ne_b, asgT_sub, asgTs_nil, asgTs_cons, bindN_nm, bindN_tp, bindNs_nil, bindNs_cons, sb_int_bool, sb_int_str, sb_int_tuple, sb_int_list, sb_int_NoneType, sb_bool_int, sb_bool_str, sb_bool_tuple, sb_bool_list, sb_bool_NoneType, sb_str_int, sb_str_bool, sb_str_tuple, sb_str_list, sb_str_NoneType, sb_tuple_int, sb_tuple_bool, sb_tuple_str, sb_tuple_list, sb_tuple_NoneType, sb_list_int, sb_list_bool, sb_list_str, sb_list_tuple, sb_list_NoneType, lim_0, lim_1, lim_2, lim_3, lim_4, lim_5, lim_6, lim_7, lim_8, lim_9, lim_10, lim_11, lim_12, Yld_ok, e, atI_nat, List.getElem?_eq_getElem hr]
theorem of_s {b : D} (hb : Bowl b) {x : Str} (h0 : 0 < x.length) (h1 : x.length < 1000) (k : Nat) : ∃ c ∈ x.cps.toList, ∃ b', (calls P (k + 2)).call n_law_of [b, .str x] = .ok (dS (ch c), [b']) ∧ Bowl b' := by
  obtain ⟨r, b', e, h2, h3⟩ := draw_ok hb (m := (x.length : Int)) (by omega) (by omega) k
  have hr : r < x.cps.toList.length := by
    have : x.cps.toList.length = x.length := by simp [Str.length]
    omega
  have hl : x.length ≤ lim := by rw [lim]; omega
  refine ⟨x.cps.toList[r], List.getElem_mem hr, b', ?_, h3⟩
  rw [call_eq (F := f_law_of) rfl rfl rfl]
  simp only [f_law_of, Pu.run, ev, evs, evi, evp, R.bind_ok', entry, endOf, getAll, permute_nil, permute_cons, fill, put, List.map_cons, List.map_nil, List.length_cons, List.length_nil, List.cons_append, List.nil_append, List.replicate_succ, List.replicate_zero, Nat.reduceAdd, Nat.reduceSub, List.getElem?_cons_zero, List.getElem?_cons_succ, List.getElem?_nil, List.set_cons_zero, List.set_cons_succ, Option.bind_some, Option.map_some, wipeE, backE, List.getD_cons_zero, List.getD_cons_succ, and_true, true_and, reduceIte, if_true, if_false, Option.getD_some, Option.getD_none, List.isEmpty_nil, List.isEmpty_cons, Bool.not_true, Bool.not_false, decide_eq_true_eq, gt_iff_lt, Int.reduceLT, Int.reduceLE, Int.reduceAdd, Int.reduceMul, Int.reduceSub, Nat.reduceLT, Nat.reduceLeDiff, Nat.reduceEqDiff, decide_true, decide_false, Bool.false_eq_true, Bool.true_or, Bool.or_true, Bool.and_true, Bool.true_and, Bool.false_and, Bool.and_false, Bool.false_or, Bool.or_false, D.noClo, D.noClos, beq_self_eq_true, tru_bl, tru_lst, Rof_some, Rneg_ok, seqD_l, seqD_t, itemsD_l, itemsD_t, itemsD_s, add_i, sub_i, mul_i, fdiv_i, mod_i, pow_i, add_s, add_l, add_t, eq_i, ne_i, eq_s, ne_s, eq_b, lt_i, gt_i, le_i, ge_i, le_s, gt_s, ge_s, lt_s, isn_n, isnt_n, isNone_n, isNone_i, isNone_s, isNone_t, isNone_l, isNone_b, isNone_o, inn_d, nin_d, idx_l, idx_t, idx_s, slc_l, slc_t, slc_s, len_l, len_t, len_s, abs_i, int_i, min2_i, max2_i, tuple_l, tuple_t, list_l, list_t, sorted_l, divmod_i, gcd_i, isi_b, isi_i, isi_s, isi_t, isi_l, isi_n, isi_o, isi_oc, isi_ic, isi_sc, isi_tc, atI_0, atI_1, atI_2, atI_3, atI_last, ixN_0, ixN_1, ixN_2, cut_hi, rng_n, asgT_nm, asgT_tp, asgT_tpl, ne_b, asgT_sub, asgTs_nil, asgTs_cons, bindN_nm, bindN_tp, bindNs_nil, bindNs_cons, sb_int_bool, sb_int_str, sb_int_tuple, sb_int_list, sb_int_NoneType, sb_bool_int, sb_bool_str, sb_bool_tuple, sb_bool_list, sb_bool_NoneType, sb_str_int, sb_str_bool, sb_str_tuple, sb_str_list, sb_str_NoneType, sb_tuple_int, sb_tuple_bool, sb_tuple_str, sb_tuple_list, sb_tuple_NoneType, sb_list_int, sb_list_bool, sb_list_str, sb_list_tuple, sb_list_NoneType, lim_0, lim_1, lim_2, lim_3, lim_4, lim_5, lim_6, lim_7, lim_8, lim_9, lim_10, lim_11, lim_12, Yld_ok, e, atI_nat, List.getElem?_eq_getElem hr, hl]
  rfl
end K08

set_option Elab.async false
set_option linter.all false
set_option maxRecDepth 100000
set_option maxHeartbeats 4000000
set_option autoImplicit false
namespace K08
open PySem Pu
/-! ### names -/
def wordsA : List Str := ["all", "alike", "apart", "back", "beside", "book", "case", "content", "free", "home", "in", "kind", "like", "lot", "mixed", "move", "new", "none", "of", "open", "out", "part", "place"]
def wordsB : List Str := ["quit", "rest", "rule", "seat", "stand", "step", "street", "swap", "take", "tie", "undo", "want", "web", "yes"]
def wordsL : List Str := wordsA ++ wordsB
def ownL : List Str := ([] : List Str)
theorem splitA : meD .split (.str "all alike apart back beside book case content free home in kind like lot mixed move new none of open out part place") [.str " "] = .ok (.lst (wordsA.map dS)) := by kernel_rfl
theorem splitB : meD .split (.str "quit rest rule seat stand step street swap take tie undo want web yes") [.str " "] = .ok (.lst (wordsB.map dS)) := by kernel_rfl
theorem few : fewB (wordsL ++ ownL) 6 = true := by decide +kernel
theorem abc_s : (Str.ofString "abcdefghijklmnopqrstuvwxyz").cps.toList = abc := by decide +kernel
theorem abc_l : (Str.ofString "abcdefghijklmnopqrstuvwxyz").length ≤ lim := by decide +kernel
theorem abc_signs : signs (Str.ofString "abcdefghijklmnopqrstuvwxyz") = abc.map fun c => dS (ch c) := by
  unfold signs
  rw [abc_s]
  rfl

theorem cut7_s {nm : Str} (h : nm.cps.toList.length ≤ 8) : slcD (.str nm) none (some 7) = .ok (dS (cut7 nm)) := by
  have hl : nm.length ≤ lim := by
    have : nm.cps.toList.length = nm.length := by simp [Str.length]
    rw [lim]; omega
  rw [slc_s hl, show (some 7 : Option Int) = some ((7 : Nat) : Int) from rfl, cut_hi]
  rfl
structure Found (F : List Str) (n : Nat) : Prop where
  len : F.length = n
  nd : F.Nodup
  nm : ∀ x ∈ F, Nm (wordsL ++ ownL) x
theorem l1_ok : (wordsA.map dS).length + (wordsB.map dS).length ≤ lim := by
  rw [List.length_map, List.length_map, lim]
  have : wordsA.length = 23 := rfl
  have : wordsB.length = 14 := rfl
  omega
theorem names_ok {b : D} (hb : Bowl b) {m : Nat} (hm : m ≤ 7) (k : Nat) : ∃ b' F, (calls P (k + 3)).call n_law_names [b, .int (m : Int)] = .ok (.tup (F.map dS), [b']) ∧ Bowl b' ∧ Found F m ∧ F.Pairwise Slt := by
  have key : Yld ((calls P (k + 3)).call n_law_names [b, .int (m : Int)]) fun p => ∃ b' F, p = (.tup (F.map dS), [b']) ∧ Bowl b' ∧ Found F m ∧ F.Pairwise Slt := by
    rw [call_eq (F := f_law_names) rfl rfl rfl]
    have hr : rngD (.int 0) (.int (m : Int)) = .ok ((List.range m).map fun (k : Nat) => .int (k : Int)) := rng_n (by rw [lim]; omega)
    have l1 := l1_ok
    simp only [f_law_names, Pu.run, ev, evs, evi, evp, R.bind_ok', entry, endOf, getAll, permute_nil, permute_cons, fill, put, List.map_cons, List.map_nil, List.length_cons, List.length_nil, List.cons_append, List.nil_append, List.replicate_succ, List.replicate_zero, Nat.reduceAdd, Nat.reduceSub, List.getElem?_cons_zero, List.getElem?_cons_succ, List.getElem?_nil, List.set_cons_zero, List.set_cons_succ, Option.bind_some, Option.map_some, wipeE, backE, List.getD_cons_zero, List.getD_cons_succ, and_true, true_and, reduceIte, if_true, if_false, Option.getD_some, Option.getD_none, List.isEmpty_nil, List.isEmpty_cons, Bool.not_true, Bool.not_false, decide_eq_true_eq, gt_iff_lt, Int.reduceLT, Int.reduceLE, Int.reduceAdd, Int.reduceMul, Int.reduceSub, Nat.reduceLT, Nat.reduceLeDiff, Nat.reduceEqDiff, decide_true, decide_false, Bool.false_eq_true, Bool.true_or, Bool.or_true, Bool.and_true, Bool.true_and, Bool.false_and, Bool.and_false, Bool.false_or, Bool.or_false, D.noClo, D.noClos, beq_self_eq_true, tru_bl, tru_lst, Rof_some, Rneg_ok, seqD_l, seqD_t, itemsD_l, itemsD_t, itemsD_s, add_i, sub_i, mul_i, fdiv_i, mod_i, pow_i, add_s, add_l, add_t, eq_i, ne_i, eq_s, ne_s, eq_b, lt_i, gt_i, le_i, ge_i, le_s, gt_s, ge_s, lt_s, isn_n, isnt_n, isNone_n, isNone_i, isNone_s, isNone_t, isNone_l, isNone_b, isNone_o, inn_d, nin_d, idx_l, idx_t, idx_s, slc_l, slc_t, slc_s, len_l, len_t, len_s, abs_i, int_i, min2_i, max2_i, tuple_l, tuple_t, list_l, list_t, sorted_l, divmod_i, gcd_i, isi_b, isi_i, isi_s, isi_t, isi_l, isi_n, isi_o, isi_oc, isi_ic, isi_sc, isi_tc, atI_0, atI_1, atI_2, atI_3, atI_last, ixN_0, ixN_1, ixN_2, cut_hi, rng_n, asgT_nm, asgT_tp, asgT_tpl, ne_b, asgT_sub, asgTs_nil, asgTs_cons, bindN_nm, bindN_tp, bindNs_nil, bindNs_cons, sb_int_bool, sb_int_str, sb_int_tuple, sb_int_list, sb_int_NoneType, sb_bool_int, sb_bool_str, sb_bool_tuple, sb_bool_list, sb_bool_NoneType, sb_str_int, sb_str_bool, sb_str_tuple, sb_str_list, sb_str_NoneType, sb_tuple_int, sb_tuple_bool, sb_tuple_str, sb_tuple_list, sb_tuple_NoneType, sb_list_int, sb_list_bool, sb_list_str, sb_list_tuple, sb_list_NoneType, lim_0, lim_1, lim_2, lim_3, lim_4, lim_5, lim_6, lim_7, lim_8, lim_9, lim_10, lim_11, lim_12, Yld_ok, splitA, splitB, l1, hr, ← List.map_append]
    generalize D.str (Str.ofString "all alike apart back beside book case content free home in kind like lot mixed move new none of open out part place") = t1
    generalize D.str (Str.ofString "quit rest rule seat stand step street swap take tie undo want web yes") = t2
    rw [show wordsA ++ wordsB = wordsL from rfl]
    try simp only [R.bind_bind]
    refine Yld.bind (P := fun f => ∃ b' F s6 s7 s8 s9, f = .nx [some b', some (.int (m : Int)), some t1, some t2, some (.lst (wordsL.map dS)), some (.lst (F.map dS)), s6, s7, s8, s9, none, none] ∧ Bowl b' ∧ Found F m) ?loop ?rest
    case rest =>
      rintro f ⟨b', F, s6, s7, s8, s9, rfl, hb', hF⟩
      obtain ⟨F', e1, e2, e3⟩ := sort_s hF.nd
      simp only [Pu.run, ev, evs, evi, evp, R.bind_ok', entry, endOf, getAll, permute_nil, permute_cons, fill, put, List.map_cons, List.map_nil, List.length_cons, List.length_nil, List.cons_append, List.nil_append, List.replicate_succ, List.replicate_zero, Nat.reduceAdd, Nat.reduceSub, List.getElem?_cons_zero, List.getElem?_cons_succ, List.getElem?_nil, List.set_cons_zero, List.set_cons_succ, Option.bind_some, Option.map_some, wipeE, backE, List.getD_cons_zero, List.getD_cons_succ, and_true, true_and, reduceIte, if_true, if_false, Option.getD_some, Option.getD_none, List.isEmpty_nil, List.isEmpty_cons, Bool.not_true, Bool.not_false, decide_eq_true_eq, gt_iff_lt, Int.reduceLT, Int.reduceLE, Int.reduceAdd, Int.reduceMul, Int.reduceSub, Nat.reduceLT, Nat.reduceLeDiff, Nat.reduceEqDiff, decide_true, decide_false, Bool.false_eq_true, Bool.true_or, Bool.or_true, Bool.and_true, Bool.true_and, Bool.false_and, Bool.and_false, Bool.false_or, Bool.or_false, D.noClo, D.noClos, beq_self_eq_true, tru_bl, tru_lst, Rof_some, Rneg_ok, seqD_l, seqD_t, itemsD_l, itemsD_t, itemsD_s, add_i, sub_i, mul_i, fdiv_i, mod_i, pow_i, add_s, add_l, add_t, eq_i, ne_i, eq_s, ne_s, eq_b, lt_i, gt_i, le_i, ge_i, le_s, gt_s, ge_s, lt_s, isn_n, isnt_n, isNone_n, isNone_i, isNone_s, isNone_t, isNone_l, isNone_b, isNone_o, inn_d, nin_d, idx_l, idx_t, idx_s, slc_l, slc_t, slc_s, len_l, len_t, len_s, abs_i, int_i, min2_i, max2_i, tuple_l, tuple_t, list_l, list_t, sorted_l, divmod_i, gcd_i, isi_b, isi_i, isi_s, isi_t, isi_l, isi_n, isi_o, isi_oc, isi_ic, isi_sc, isi_tc, atI_0, atI_1, atI_2, atI_3, atI_last, ixN_0, ixN_1, ixN_2, cut_hi, rng_n, asgT_nm, asgT_tp, asgT_tpl, ne_b, asgT_sub, asgTs_nil, asgTs_cons, bindN_nm, bindN_tp, bindNs_nil, bindNs_cons, sb_int_bool, sb_int_str, sb_int_tuple, sb_int_list, sb_int_NoneType, sb_bool_int, sb_bool_str, sb_bool_tuple, sb_bool_list, sb_bool_NoneType, sb_str_int, sb_str_bool, sb_str_tuple, sb_str_list, sb_str_NoneType, sb_tuple_int, sb_tuple_bool, sb_tuple_str, sb_tuple_list, sb_tuple_NoneType, sb_list_int, sb_list_bool, sb_list_str, sb_list_tuple, sb_list_NoneType, lim_0, lim_1, lim_2, lim_3, lim_4, lim_5, lim_6, lim_7, lim_8, lim_9, lim_10, lim_11, lim_12, Yld_ok, e1]
      exact ⟨b', F', rfl, hb', ⟨e2.length_eq.trans hF.len, e2.nodup_iff.mpr hF.nd, fun x hx => hF.nm x (e2.mem_iff.mp hx)⟩, e3⟩
    refine for_inv (fun ds ρ => ∃ b' F s6 s7 s8 s9, ρ = [some b', some (.int (m : Int)), some t1, some t2, some (.lst (wordsL.map dS)), some (.lst (F.map dS)), s6, s7, s8, s9, none, none] ∧ Bowl b' ∧ ∃ n, Found F n ∧ n + ds.length = m) _ ?h0 ?h1 ?h2
    case h0 => exact ⟨b, [], none, none, none, none, rfl, hb, 0, ⟨rfl, List.nodup_nil, fun x hx => (nomatch hx)⟩, by simp⟩
    case h1 =>
      rintro ρ ⟨b', F, s6, s7, s8, s9, rfl, hb', n, hF, hn⟩
      refine ⟨b', F, s6, s7, s8, s9, rfl, hb', ?_⟩
      rw [List.length_nil, Nat.add_zero] at hn
      rw [← hn]
      exact hF
    case h2 =>
      rintro d ds ρ ⟨b', F, s6, s7, s8, s9, rfl, hb', n, hF, hn⟩
      rw [List.length_cons] at hn
      obtain ⟨x, hx, b1, e1, hb1⟩ := of_t hb' (l := [.int 1, .int 1, .int 2, .int 3, .int 5, .int 8]) (by decide) (by decide) k
      obtain ⟨w, rfl, w1, w2⟩ : ∃ w : Nat, x = .int (w : Int) ∧ 1 ≤ w ∧ w ≤ 8 := by
        simp only [List.mem_cons, List.not_mem_nil, or_false] at hx
        rcases hx with rfl | rfl | rfl | rfl | rfl | rfl
        · exact ⟨1, rfl, by decide, by decide⟩
        · exact ⟨1, rfl, by decide, by decide⟩
        · exact ⟨2, rfl, by decide, by decide⟩
        · exact ⟨3, rfl, by decide, by decide⟩
        · exact ⟨5, rfl, by decide, by decide⟩
        · exact ⟨8, rfl, by decide, by decide⟩
      have hr2 : rngD (.int 0) (.int (w : Int)) = .ok ((List.range w).map fun (k : Nat) => .int (k : Int)) := rng_n (by rw [lim]; omega)
      simp only [Pu.run, ev, evs, evi, evp, R.bind_ok', entry, endOf, getAll, permute_nil, permute_cons, fill, put, List.map_cons, List.map_nil, List.length_cons, List.length_nil, List.cons_append, List.nil_append, List.replicate_succ, List.replicate_zero, Nat.reduceAdd, Nat.reduceSub, List.getElem?_cons_zero, List.getElem?_cons_succ, List.getElem?_nil, List.set_cons_zero, List.set_cons_succ, Option.bind_some, Option.map_some, wipeE, backE, List.getD_cons_zero, List.getD_cons_succ, and_true, true_and, reduceIte, if_true, if_false, Option.getD_some, Option.getD_none, List.isEmpty_nil, List.isEmpty_cons, Bool.not_true, Bool.not_false, decide_eq_true_eq, gt_iff_lt, Int.reduceLT, Int.reduceLE, Int.reduceAdd, Int.reduceMul, Int.reduceSub, Nat.reduceLT, Nat.reduceLeDiff, Nat.reduceEqDiff, decide_true, decide_false, Bool.false_eq_true, Bool.true_or, Bool.or_true, Bool.and_true, Bool.true_and, Bool.false_and, Bool.and_false, Bool.false_or, Bool.or_false, D.noClo, D.noClos, beq_self_eq_true, tru_bl, tru_lst, Rof_some, Rneg_ok, seqD_l, seqD_t, itemsD_l, itemsD_t, itemsD_s, add_i, sub_i, mul_i, fdiv_i, mod_i, pow_i, add_s, add_l, add_t, eq_i, ne_i, eq_s, ne_s, eq_b, lt_i, gt_i, le_i, ge_i, le_s, gt_s, ge_s, lt_s, isn_n, isnt_n, isNone_n, isNone_i, isNone_s, isNone_t, isNone_l, isNone_b, isNone_o, inn_d, nin_d, idx_l, idx_t, idx_s, slc_l, slc_t, slc_s, len_l, len_t, len_s, abs_i, int_i, min2_i, max2_i, tuple_l, tuple_t, list_l, list_t, sorted_l, divmod_i, gcd_i, isi_b, isi_i, isi_s, isi_t, isi_l, isi_n, isi_o, isi_oc, isi_ic, isi_sc, isi_tc, atI_0, atI_1, atI_2, atI_3, atI_last, ixN_0, ixN_1, ixN_2, cut_hi, rng_n, asgT_nm, asgT_tp, asgT_tpl, ne_b, asgT_sub, asgTs_nil, asgTs_cons, bindN_nm, bindN_tp, bindNs_nil, bindNs_cons, sb_int_bool, sb_int_str, sb_int_tuple, sb_int_list, sb_int_NoneType, sb_bool_int, sb_bool_str, sb_bool_tuple, sb_bool_list, sb_bool_NoneType, sb_str_int, sb_str_bool, sb_str_tuple, sb_str_list, sb_str_NoneType, sb_tuple_int, sb_tuple_bool, sb_tuple_str, sb_tuple_list, sb_tuple_NoneType, sb_list_int, sb_list_bool, sb_list_str, sb_list_tuple, sb_list_NoneType, lim_0, lim_1, lim_2, lim_3, lim_4, lim_5, lim_6, lim_7, lim_8, lim_9, lim_10, lim_11, lim_12, Yld_ok, e1, hr2]
      refine Yld.bind (P := fun f => ∃ b2 nm s8, f = .nx [some b2, some (.int (m : Int)), some t1, some t2, some (.lst (wordsL.map dS)), some (.lst (F.map dS)), some d, some (.str nm), s8, s9, none, none] ∧ Bowl b2 ∧ nm.cps.toList.length = w ∧ ∀ c ∈ nm.cps.toList, c ∈ abc) ?inner ?after
      case inner =>
        refine for_inv (fun es ρ => ∃ b2 nm s8, ρ = [some b2, some (.int (m : Int)), some t1, some t2, some (.lst (wordsL.map dS)), some (.lst (F.map dS)), some d, some (.str nm), s8, s9, none, none] ∧ Bowl b2 ∧ nm.cps.toList.length + es.length = w ∧ ∀ c ∈ nm.cps.toList, c ∈ abc) _ ?i0 ?i1 ?i2
        case i0 => exact ⟨b1, "", s8, rfl, hb1, by simp [Str.ofString, cpsOfBytes], fun c hc => (nomatch hc)⟩
        case i1 =>
          rintro ρ ⟨b2, nm, s8, rfl, hb2, hl, ha⟩
          exact ⟨b2, nm, s8, rfl, hb2, hl, ha⟩
        case i2 =>
          rintro e es ρ ⟨b2, nm, s8, rfl, hb2, hl, ha⟩
          rw [List.length_cons] at hl
          obtain ⟨r, b3, e3, h3, hb3⟩ := draw_ok hb2 (m := 26) (by decide) (by decide) (k + 1)
          have hr : r < abc.length := by
            have : abc.length = 26 := by decide
            omega
          have hl2 : nm.length + (ch abc[r]).length ≤ lim := by
            have : nm.cps.toList.length = nm.length := by simp [Str.length]
            have : (ch abc[r]).length = 1 := rfl
            rw [lim]; omega
          have hq : idxD (.str "abcdefghijklmnopqrstuvwxyz") (.int (r : Int)) = .ok (.str (ch abc[r])) := by
            rw [idx_s abc_l, atI_nat, abc_s, List.getElem?_eq_getElem hr]
            rfl
          simp only [Pu.run, ev, evs, evi, evp, R.bind_ok', entry, endOf, getAll, permute_nil, permute_cons, fill, put, List.map_cons, List.map_nil, List.length_cons, List.length_nil, List.cons_append, List.nil_append, List.replicate_succ, List.replicate_zero, Nat.reduceAdd, Nat.reduceSub, List.getElem?_cons_zero, List.getElem?_cons_succ, List.getElem?_nil, List.set_cons_zero, List.set_cons_succ, Option.bind_some, Option.map_some, wipeE, backE, List.getD_cons_zero, List.getD_cons_succ, and_true, true_and, reduceIte, if_true, if_false, Option.getD_some, Option.getD_none, List.isEmpty_nil, List.isEmpty_cons, Bool.not_true, Bool.not_false, decide_eq_true_eq, gt_iff_lt, Int.reduceLT, Int.reduceLE, Int.reduceAdd, Int.reduceMul, Int.reduceSub, Nat.reduceLT, Nat.reduceLeDiff, Nat.reduceEqDiff, decide_true, decide_false, Bool.false_eq_true, Bool.true_or, Bool.or_true, Bool.and_true, Bool.true_and, Bool.false_and, Bool.and_false, Bool.false_or, Bool.or_false, D.noClo, D.noClos, beq_self_eq_true, tru_bl, tru_lst, Rof_some, Rneg_ok, seqD_l, seqD_t, itemsD_l, itemsD_t, itemsD_s, add_i, sub_i, mul_i, fdiv_i, mod_i, pow_i, add_s, add_l, add_t, eq_i, ne_i, eq_s, ne_s, eq_b, lt_i, gt_i, le_i, ge_i, le_s, gt_s, ge_s, lt_s, isn_n, isnt_n, isNone_n, isNone_i, isNone_s, isNone_t, isNone_l, isNone_b, isNone_o, inn_d, nin_d, idx_l, idx_t, idx_s, slc_l, slc_t, slc_s, len_l, len_t, len_s, abs_i, int_i, min2_i, max2_i, tuple_l, tuple_t, list_l, list_t, sorted_l, divmod_i, gcd_i, isi_b, isi_i, isi_s, isi_t, isi_l, isi_n, isi_o, isi_oc, isi_ic, isi_sc, isi_tc, atI_0, atI_1, atI_2, atI_3, atI_last, ixN_0, ixN_1, ixN_2, cut_hi, rng_n, asgT_nm, asgT_tp, asgT_tpl, ne_b, asgT_sub, asgTs_nil, asgTs_cons, bindN_nm, bindN_tp, bindNs_nil, bindNs_cons, sb_int_bool, sb_int_str, sb_int_tuple, sb_int_list, sb_int_NoneType, sb_bool_int, sb_bool_str, sb_bool_tuple, sb_bool_list, sb_bool_NoneType, sb_str_int, sb_str_bool, sb_str_tuple, sb_str_list, sb_str_NoneType, sb_tuple_int, sb_tuple_bool, sb_tuple_str, sb_tuple_list, sb_tuple_NoneType, sb_list_int, sb_list_bool, sb_list_str, sb_list_tuple, sb_list_NoneType, lim_0, lim_1, lim_2, lim_3, lim_4, lim_5, lim_6, lim_7, lim_8, lim_9, lim_10, lim_11, lim_12, Yld_ok, e3, hq, hl2]
          refine .inl ⟨_, rfl, b3, nm ++ ch abc[r], some e, rfl, hb3, ?_, fun c hc => ?_⟩
          · rw [str_append]
            simp [ch] at hl ⊢
            omega
          · have e9 : (nm ++ ch abc[r]).cps.toList = nm.cps.toList ++ [abc[r]] := by
              rw [str_append]
              simp [ch]
            rw [e9] at hc
            rcases List.mem_append.mp hc with hc | hc
            · exact ha c hc
            · rw [List.mem_singleton.mp hc]
              exact List.getElem_mem hr
      case after =>
        rintro f ⟨b2, nm, s8, rfl, hb2, hl, ha⟩
        have h8 : nm.cps.toList.length ≤ 8 := by omega
        have hcl : ∀ c, (cut7 nm).length + (ch c).length ≤ lim := fun c => by
          have e1 : (cut7 nm).length = (nm.cps.toList.take 7).length := by simp [cut7, Str.length]
          have e2 : (ch c).length = 1 := rfl
          rw [e1, e2, List.length_take, lim]; omega
        have hct := cut7_s h8
        obtain ⟨cands, hcs⟩ : ∃ l, l = nm :: more1 (cut7 nm) := ⟨_, rfl⟩
        have hcand : D.str nm :: abc.map (fun c => dS (cut7 nm ++ ch c)) = cands.map dS := by
          rw [hcs, List.map_cons, more1, List.map_map]
          rfl
        have hl1 : 1 + (abc.map fun c => dS (cut7 nm ++ ch c)).length ≤ lim := by
          have : abc.length = 26 := by decide
          rw [List.length_map, lim]
          omega
        have hF7 : F.length ≤ 7 := by rw [hF.len]; omega
        have hl2 : (wordsL.map dS).length + (F.map dS).length ≤ lim := by
          rw [List.length_map, List.length_map, lim]
          have : wordsL.length = 37 := by decide
          omega
        have hl3 : ((wordsL ++ F).map dS).length + (ownL.map dS).length ≤ lim := by
          rw [List.length_map, List.length_map, List.length_append, lim]
          have : wordsL.length = 37 := by decide
          have : ownL.length ≤ 100 := by decide
          omega
        have hl4 : (F.map dS).length < lim := by
          rw [List.length_map, lim]
          omega
        simp only [Pu.run, ev, evs, evi, evp, R.bind_ok', entry, endOf, getAll, permute_nil, permute_cons, fill, put, List.map_cons, List.map_nil, List.length_cons, List.length_nil, List.cons_append, List.nil_append, List.replicate_succ, List.replicate_zero, Nat.reduceAdd, Nat.reduceSub, List.getElem?_cons_zero, List.getElem?_cons_succ, List.getElem?_nil, List.set_cons_zero, List.set_cons_succ, Option.bind_some, Option.map_some, wipeE, backE, List.getD_cons_zero, List.getD_cons_succ, and_true, true_and, reduceIte, if_true, if_false, Option.getD_some, Option.getD_none, List.isEmpty_nil, List.isEmpty_cons, Bool.not_true, Bool.not_false, decide_eq_true_eq, gt_iff_lt, Int.reduceLT, Int.reduceLE, Int.reduceAdd, Int.reduceMul, Int.reduceSub, Nat.reduceLT, Nat.reduceLeDiff, Nat.reduceEqDiff, decide_true, decide_false, Bool.false_eq_true, Bool.true_or, Bool.or_true, Bool.and_true, Bool.true_and, Bool.false_and, Bool.and_false, Bool.false_or, Bool.or_false, D.noClo, D.noClos, beq_self_eq_true, tru_bl, tru_lst, Rof_some, Rneg_ok, seqD_l, seqD_t, itemsD_l, itemsD_t, itemsD_s, add_i, sub_i, mul_i, fdiv_i, mod_i, pow_i, add_s, add_l, add_t, eq_i, ne_i, eq_s, ne_s, eq_b, lt_i, gt_i, le_i, ge_i, le_s, gt_s, ge_s, lt_s, isn_n, isnt_n, isNone_n, isNone_i, isNone_s, isNone_t, isNone_l, isNone_b, isNone_o, inn_d, nin_d, idx_l, idx_t, idx_s, slc_l, slc_t, slc_s, len_l, len_t, len_s, abs_i, int_i, min2_i, max2_i, tuple_l, tuple_t, list_l, list_t, sorted_l, divmod_i, gcd_i, isi_b, isi_i, isi_s, isi_t, isi_l, isi_n, isi_o, isi_oc, isi_ic, isi_sc, isi_tc, atI_0, atI_1, atI_2, atI_3, atI_last, ixN_0, ixN_1, ixN_2, cut_hi, rng_n, asgT_nm, asgT_tp, asgT_tpl, ne_b, asgT_sub, asgTs_nil, asgTs_cons, bindN_nm, bindN_tp, bindNs_nil, bindNs_cons, sb_int_bool, sb_int_str, sb_int_tuple, sb_int_list, sb_int_NoneType, sb_bool_int, sb_bool_str, sb_bool_tuple, sb_bool_list, sb_bool_NoneType, sb_str_int, sb_str_bool, sb_str_tuple, sb_str_list, sb_str_NoneType, sb_tuple_int, sb_tuple_bool, sb_tuple_str, sb_tuple_list, sb_tuple_NoneType, sb_list_int, sb_list_bool, sb_list_str, sb_list_tuple, sb_list_NoneType, lim_0, lim_1, lim_2, lim_3, lim_4, lim_5, lim_6, lim_7, lim_8, lim_9, lim_10, lim_11, lim_12, Yld_ok, abc_l, abc_signs]
        refine Yld.bind (lc_allY rfl (fun c => dS (ch c)) (fun c => dS (cut7 nm ++ ch c)) fun c hc => ?turn1) ?rest1
        case turn1 =>
          simp only [Pu.run, ev, evs, evi, evp, R.bind_ok', entry, endOf, getAll, permute_nil, permute_cons, fill, put, List.map_cons, List.map_nil, List.length_cons, List.length_nil, List.cons_append, List.nil_append, List.replicate_succ, List.replicate_zero, Nat.reduceAdd, Nat.reduceSub, List.getElem?_cons_zero, List.getElem?_cons_succ, List.getElem?_nil, List.set_cons_zero, List.set_cons_succ, Option.bind_some, Option.map_some, wipeE, backE, List.getD_cons_zero, List.getD_cons_succ, and_true, true_and, reduceIte, if_true, if_false, Option.getD_some, Option.getD_none, List.isEmpty_nil, List.isEmpty_cons, Bool.not_true, Bool.not_false, decide_eq_true_eq, gt_iff_lt, Int.reduceLT, Int.reduceLE, Int.reduceAdd, Int.reduceMul, Int.reduceSub, Nat.reduceLT, Nat.reduceLeDiff, Nat.reduceEqDiff, decide_true, decide_false, Bool.false_eq_true, Bool.true_or, Bool.or_true, Bool.and_true, Bool.true_and, Bool.false_and, Bool.and_false, Bool.false_or, Bool.or_false, D.noClo, D.noClos, beq_self_eq_true, tru_bl, tru_lst, Rof_some, Rneg_ok, seqD_l, seqD_t, itemsD_l, itemsD_t, itemsD_s, add_i, sub_i, mul_i, fdiv_i, mod_i, pow_i, add_s, add_l, add_t, eq_i, ne_i, eq_s, ne_s, eq_b, lt_i, gt_i, le_i, ge_i, le_s, gt_s, ge_s, lt_s, isn_n, isnt_n, isNone_n, isNone_i, isNone_s, isNone_t, isNone_l, isNone_b, isNone_o, inn_d, nin_d, idx_l, idx_t, idx_s, slc_l, slc_t, slc_s, len_l, len_t, len_s, abs_i, int_i, min2_i, max2_i, tuple_l, tuple_t, list_l, list_t, sorted_l, divmod_i, gcd_i, isi_b, isi_i, isi_s, isi_t, isi_l, isi_n, isi_o, isi_oc, isi_ic, isi_sc, isi_tc, atI_0, atI_1, atI_2, atI_3, atI_last, ixN_0, ixN_1, ixN_2, cut_hi, rng_n, asgT_nm, asgT_tp, asgT_tpl, ne_b, asgT_sub, asgTs_nil, asgTs_cons, bindN_nm, bindN_tp, bindNs_nil, bindNs_cons, sb_int_bool, sb_int_str, sb_int_tuple, sb_int_list, sb_int_NoneType, sb_bool_int, sb_bool_str, sb_bool_tuple, sb_bool_list, sb_bool_NoneType, sb_str_int, sb_str_bool, sb_str_tuple, sb_str_list, sb_str_NoneType, sb_tuple_int, sb_tuple_bool, sb_tuple_str, sb_tuple_list, sb_tuple_NoneType, sb_list_int, sb_list_bool, sb_list_str, sb_list_tuple, sb_list_NoneType, lim_0, lim_1, lim_2, lim_3, lim_4, lim_5, lim_6, lim_7, lim_8, lim_9, lim_10, lim_11, lim_12, Yld_ok, hct, dS_eq, hcl, Option.some.injEq]
        case rest1 =>
          rintro q rfl
          simp only [Pu.run, ev, evs, evi, evp, R.bind_ok', entry, endOf, getAll, permute_nil, permute_cons, fill, put, List.map_cons, List.map_nil, List.length_cons, List.length_nil, List.cons_append, List.nil_append, List.replicate_succ, List.replicate_zero, Nat.reduceAdd, Nat.reduceSub, List.getElem?_cons_zero, List.getElem?_cons_succ, List.getElem?_nil, List.set_cons_zero, List.set_cons_succ, Option.bind_some, Option.map_some, wipeE, backE, List.getD_cons_zero, List.getD_cons_succ, and_true, true_and, reduceIte, if_true, if_false, Option.getD_some, Option.getD_none, List.isEmpty_nil, List.isEmpty_cons, Bool.not_true, Bool.not_false, decide_eq_true_eq, gt_iff_lt, Int.reduceLT, Int.reduceLE, Int.reduceAdd, Int.reduceMul, Int.reduceSub, Nat.reduceLT, Nat.reduceLeDiff, Nat.reduceEqDiff, decide_true, decide_false, Bool.false_eq_true, Bool.true_or, Bool.or_true, Bool.and_true, Bool.true_and, Bool.false_and, Bool.and_false, Bool.false_or, Bool.or_false, D.noClo, D.noClos, beq_self_eq_true, tru_bl, tru_lst, Rof_some, Rneg_ok, seqD_l, seqD_t, itemsD_l, itemsD_t, itemsD_s, add_i, sub_i, mul_i, fdiv_i, mod_i, pow_i, add_s, add_l, add_t, eq_i, ne_i, eq_s, ne_s, eq_b, lt_i, gt_i, le_i, ge_i, le_s, gt_s, ge_s, lt_s, isn_n, isnt_n, isNone_n, isNone_i, isNone_s, isNone_t, isNone_l, isNone_b, isNone_o, inn_d, nin_d, idx_l, idx_t, idx_s, slc_l, slc_t, slc_s, len_l, len_t, len_s, abs_i, int_i, min2_i, max2_i, tuple_l, tuple_t, list_l, list_t, sorted_l, divmod_i, gcd_i, isi_b, isi_i, isi_s, isi_t, isi_l, isi_n, isi_o, isi_oc, isi_ic, isi_sc, isi_tc, atI_0, atI_1, atI_2, atI_3, atI_last, ixN_0, ixN_1, ixN_2, cut_hi, rng_n, asgT_nm, asgT_tp, asgT_tpl, ne_b, asgT_sub, asgTs_nil, asgTs_cons, bindN_nm, bindN_tp, bindNs_nil, bindNs_cons, sb_int_bool, sb_int_str, sb_int_tuple, sb_int_list, sb_int_NoneType, sb_bool_int, sb_bool_str, sb_bool_tuple, sb_bool_list, sb_bool_NoneType, sb_str_int, sb_str_bool, sb_str_tuple, sb_str_list, sb_str_NoneType, sb_tuple_int, sb_tuple_bool, sb_tuple_str, sb_tuple_list, sb_tuple_NoneType, sb_list_int, sb_list_bool, sb_list_str, sb_list_tuple, sb_list_NoneType, lim_0, lim_1, lim_2, lim_3, lim_4, lim_5, lim_6, lim_7, lim_8, lim_9, lim_10, lim_11, lim_12, Yld_ok, hl1]
          rw [hcand]
          refine Yld.bind (lc_filterY rfl dS dS (fun x => !decide (x ∈ wordsL ++ F ++ ownL)) fun x hx => ?turn2) ?rest2
          case turn2 =>
            by_cases hxi : x ∈ wordsL ++ F ++ ownL
            · simp only [Pu.run, ev, evs, evi, evp, R.bind_ok', entry, endOf, getAll, permute_nil, permute_cons, fill, put, List.map_cons, List.map_nil, List.length_cons, List.length_nil, List.cons_append, List.nil_append, List.replicate_succ, List.replicate_zero, Nat.reduceAdd, Nat.reduceSub, List.getElem?_cons_zero, List.getElem?_cons_succ, List.getElem?_nil, List.set_cons_zero, List.set_cons_succ, Option.bind_some, Option.map_some, wipeE, backE, List.getD_cons_zero, List.getD_cons_succ, and_true, true_and, reduceIte, if_true, if_false, Option.getD_some, Option.getD_none, List.isEmpty_nil, List.isEmpty_cons, Bool.not_true, Bool.not_false, decide_eq_true_eq, gt_iff_lt, Int.reduceLT, Int.reduceLE, Int.reduceAdd, Int.reduceMul, Int.reduceSub, Nat.reduceLT, Nat.reduceLeDiff, Nat.reduceEqDiff, decide_true, decide_false, Bool.false_eq_true, Bool.true_or, Bool.or_true, Bool.and_true, Bool.true_and, Bool.false_and, Bool.and_false, Bool.false_or, Bool.or_false, D.noClo, D.noClos, beq_self_eq_true, tru_bl, tru_lst, Rof_some, Rneg_ok, seqD_l, seqD_t, itemsD_l, itemsD_t, itemsD_s, add_i, sub_i, mul_i, fdiv_i, mod_i, pow_i, add_s, add_l, add_t, eq_i, ne_i, eq_s, ne_s, eq_b, lt_i, gt_i, le_i, ge_i, le_s, gt_s, ge_s, lt_s, isn_n, isnt_n, isNone_n, isNone_i, isNone_s, isNone_t, isNone_l, isNone_b, isNone_o, inn_d, nin_d, idx_l, idx_t, idx_s, slc_l, slc_t, slc_s, len_l, len_t, len_s, abs_i, int_i, min2_i, max2_i, tuple_l, tuple_t, list_l, list_t, sorted_l, divmod_i, gcd_i, isi_b, isi_i, isi_s, isi_t, isi_l, isi_n, isi_o, isi_oc, isi_ic, isi_sc, isi_tc, atI_0, atI_1, atI_2, atI_3, atI_last, ixN_0, ixN_1, ixN_2, cut_hi, rng_n, asgT_nm, asgT_tp, asgT_tpl, ne_b, asgT_sub, asgTs_nil, asgTs_cons, bindN_nm, bindN_tp, bindNs_nil, bindNs_cons, sb_int_bool, sb_int_str, sb_int_tuple, sb_int_list, sb_int_NoneType, sb_bool_int, sb_bool_str, sb_bool_tuple, sb_bool_list, sb_bool_NoneType, sb_str_int, sb_str_bool, sb_str_tuple, sb_str_list, sb_str_NoneType, sb_tuple_int, sb_tuple_bool, sb_tuple_str, sb_tuple_list, sb_tuple_NoneType, sb_list_int, sb_list_bool, sb_list_str, sb_list_tuple, sb_list_NoneType, lim_0, lim_1, lim_2, lim_3, lim_4, lim_5, lim_6, lim_7, lim_8, lim_9, lim_10, lim_11, lim_12, Yld_ok, dS_eq, hl2, ← List.map_append, in_l, decide_eq_true (show (x ∈ wordsL ++ F) by simpa [ownL] using hxi), decide_eq_true hxi]
            · simp only [Pu.run, ev, evs, evi, evp, R.bind_ok', entry, endOf, getAll, permute_nil, permute_cons, fill, put, List.map_cons, List.map_nil, List.length_cons, List.length_nil, List.cons_append, List.nil_append, List.replicate_succ, List.replicate_zero, Nat.reduceAdd, Nat.reduceSub, List.getElem?_cons_zero, List.getElem?_cons_succ, List.getElem?_nil, List.set_cons_zero, List.set_cons_succ, Option.bind_some, Option.map_some, wipeE, backE, List.getD_cons_zero, List.getD_cons_succ, and_true, true_and, reduceIte, if_true, if_false, Option.getD_some, Option.getD_none, List.isEmpty_nil, List.isEmpty_cons, Bool.not_true, Bool.not_false, decide_eq_true_eq, gt_iff_lt, Int.reduceLT, Int.reduceLE, Int.reduceAdd, Int.reduceMul, Int.reduceSub, Nat.reduceLT, Nat.reduceLeDiff, Nat.reduceEqDiff, decide_true, decide_false, Bool.false_eq_true, Bool.true_or, Bool.or_true, Bool.and_true, Bool.true_and, Bool.false_and, Bool.and_false, Bool.false_or, Bool.or_false, D.noClo, D.noClos, beq_self_eq_true, tru_bl, tru_lst, Rof_some, Rneg_ok, seqD_l, seqD_t, itemsD_l, itemsD_t, itemsD_s, add_i, sub_i, mul_i, fdiv_i, mod_i, pow_i, add_s, add_l, add_t, eq_i, ne_i, eq_s, ne_s, eq_b, lt_i, gt_i, le_i, ge_i, le_s, gt_s, ge_s, lt_s, isn_n, isnt_n, isNone_n, isNone_i, isNone_s, isNone_t, isNone_l, isNone_b, isNone_o, inn_d, nin_d, idx_l, idx_t, idx_s, slc_l, slc_t, slc_s, len_l, len_t, len_s, abs_i, int_i, min2_i, max2_i, tuple_l, tuple_t, list_l, list_t, sorted_l, divmod_i, gcd_i, isi_b, isi_i, isi_s, isi_t, isi_l, isi_n, isi_o, isi_oc, isi_ic, isi_sc, isi_tc, atI_0, atI_1, atI_2, atI_3, atI_last, ixN_0, ixN_1, ixN_2, cut_hi, rng_n, asgT_nm, asgT_tp, asgT_tpl, ne_b, asgT_sub, asgTs_nil, asgTs_cons, bindN_nm, bindN_tp, bindNs_nil, bindNs_cons, sb_int_bool, sb_int_str, sb_int_tuple, sb_int_list, sb_int_NoneType, sb_bool_int, sb_bool_str, sb_bool_tuple, sb_bool_list, sb_bool_NoneType, sb_str_int, sb_str_bool, sb_str_tuple, sb_str_list, sb_str_NoneType, sb_tuple_int, sb_tuple_bool, sb_tuple_str, sb_tuple_list, sb_tuple_NoneType, sb_list_int, sb_list_bool, sb_list_str, sb_list_tuple, sb_list_NoneType, lim_0, lim_1, lim_2, lim_3, lim_4, lim_5, lim_6, lim_7, lim_8, lim_9, lim_10, lim_11, lim_12, Yld_ok, dS_eq, hl2, ← List.map_append, in_l, decide_eq_false (show ¬ (x ∈ wordsL ++ F) by simpa [ownL] using hxi), decide_eq_false hxi]
          case rest2 =>
            rintro q rfl
            obtain ⟨x0, hx0, g1, g2⟩ := some_free (F := F) few (by omega) (cut7 nm)
            obtain ⟨x, rest, hf, hxc, hxp⟩ := filter_some (p := fun x => !decide (x ∈ wordsL ++ F ++ ownL)) (l := cands) (x := x0) (by rw [hcs]; exact List.mem_cons_of_mem _ hx0) (by
              simp only [Bool.not_eq_true', decide_eq_false_iff_not, List.mem_append] at g1 ⊢
              intro z
              rcases z with (z | z) | z
              · exact g1 (.inl z)
              · exact g2 z
              · exact g1 (.inr z))
            have hx1 : x ∉ wordsL ++ ownL ∧ x ∉ F := by
              simp only [Bool.not_eq_true', decide_eq_false_iff_not, List.mem_append] at hxp ⊢
              exact ⟨fun z => z.elim (fun z => hxp (.inl (.inl z))) fun z => hxp (.inr z), fun z => hxp (.inl (.inr z))⟩
            rw [hf]
            simp only [Pu.run, ev, evs, evi, evp, R.bind_ok', entry, endOf, getAll, permute_nil, permute_cons, fill, put, List.map_cons, List.map_nil, List.length_cons, List.length_nil, List.cons_append, List.nil_append, List.replicate_succ, List.replicate_zero, Nat.reduceAdd, Nat.reduceSub, List.getElem?_cons_zero, List.getElem?_cons_succ, List.getElem?_nil, List.set_cons_zero, List.set_cons_succ, Option.bind_some, Option.map_some, wipeE, backE, List.getD_cons_zero, List.getD_cons_succ, and_true, true_and, reduceIte, if_true, if_false, Option.getD_some, Option.getD_none, List.isEmpty_nil, List.isEmpty_cons, Bool.not_true, Bool.not_false, decide_eq_true_eq, gt_iff_lt, Int.reduceLT, Int.reduceLE, Int.reduceAdd, Int.reduceMul, Int.reduceSub, Nat.reduceLT, Nat.reduceLeDiff, Nat.reduceEqDiff, decide_true, decide_false, Bool.false_eq_true, Bool.true_or, Bool.or_true, Bool.and_true, Bool.true_and, Bool.false_and, Bool.and_false, Bool.false_or, Bool.or_false, D.noClo, D.noClos, beq_self_eq_true, tru_bl, tru_lst, Rof_some, Rneg_ok, seqD_l, seqD_t, itemsD_l, itemsD_t, itemsD_s, add_i, sub_i, mul_i, fdiv_i, mod_i, pow_i, add_s, add_l, add_t, eq_i, ne_i, eq_s, ne_s, eq_b, lt_i, gt_i, le_i, ge_i, le_s, gt_s, ge_s, lt_s, isn_n, isnt_n, isNone_n, isNone_i, isNone_s, isNone_t, isNone_l, isNone_b, isNone_o, inn_d, nin_d, idx_l, idx_t, idx_s, slc_l, slc_t, slc_s, len_l, len_t, len_s, abs_i, int_i, min2_i, max2_i, tuple_l, tuple_t, list_l, list_t, sorted_l, divmod_i, gcd_i, isi_b, isi_i, isi_s, isi_t, isi_l, isi_n, isi_o, isi_oc, isi_ic, isi_sc, isi_tc, atI_0, atI_1, atI_2, atI_3, atI_last, ixN_0, ixN_1, ixN_2, cut_hi, rng_n, asgT_nm, asgT_tp, asgT_tpl, ne_b, asgT_sub, asgTs_nil, asgTs_cons, bindN_nm, bindN_tp, bindNs_nil, bindNs_cons, sb_int_bool, sb_int_str, sb_int_tuple, sb_int_list, sb_int_NoneType, sb_bool_int, sb_bool_str, sb_bool_tuple, sb_bool_list, sb_bool_NoneType, sb_str_int, sb_str_bool, sb_str_tuple, sb_str_list, sb_str_NoneType, sb_tuple_int, sb_tuple_bool, sb_tuple_str, sb_tuple_list, sb_tuple_NoneType, sb_list_int, sb_list_bool, sb_list_str, sb_list_tuple, sb_list_NoneType, lim_0, lim_1, lim_2, lim_3, lim_4, lim_5, lim_6, lim_7, lim_8, lim_9, lim_10, lim_11, lim_12, Yld_ok, hl4]
            refine .inl ⟨_, rfl, b2, F ++ [x], _, _, _, _, by rw [List.map_append]; rfl, hb2, n + 1, ⟨?_, ?_, ?_⟩, by omega⟩
            · rw [List.length_append, hF.len]; rfl
            · rw [List.nodup_append]
              refine ⟨hF.nd, List.nodup_cons.mpr ⟨fun z => (nomatch z), List.nodup_nil⟩, fun a ha b hb => ?_⟩
              rw [List.mem_singleton.mp hb]
              exact fun z => hx1.2 (z ▸ ha)
            · intro y hy
              rcases List.mem_append.mp hy with hy | hy
              · exact hF.nm y hy
              · rw [List.mem_singleton.mp hy]
                exact nm_more (by omega) h8 ha (by rw [hcs] at hxc; exact hxc) hx1.1
  obtain ⟨p, e, b', F, rfl, h⟩ := key
  exact ⟨b', F, e, h⟩
end K08

set_option Elab.async false
set_option linter.all false
set_option maxRecDepth 100000
set_option maxHeartbeats 4000000
set_option autoImplicit false
namespace K08
open PySem Pu
/-! ### what is a street -/
theorem is_tuple_of_ok (ds : List D) (n : Int) (k : Nat) : (calls P (k + 1)).call n_is_tuple_of [.tup ds, .int n] = .ok (.bl (decide ((ds.length : Int) = n)), []) := by
  rw [call_eq (F := f_is_tuple_of) rfl rfl rfl]
  simp only [f_is_tuple_of, Pu.run, ev, evs, evi, evp, R.bind_ok', entry, endOf, getAll, permute_nil, permute_cons, fill, put, List.map_cons, List.map_nil, List.length_cons, List.length_nil, List.cons_append, List.nil_append, List.replicate_succ, List.replicate_zero, Nat.reduceAdd, Nat.reduceSub, List.getElem?_cons_zero, List.getElem?_cons_succ, List.getElem?_nil, List.set_cons_zero, List.set_cons_succ, Option.bind_some, Option.map_some, wipeE, backE, List.getD_cons_zero, List.getD_cons_succ, and_true, true_and, reduceIte, if_true, if_false, Option.getD_some, Option.getD_none, List.isEmpty_nil, List.isEmpty_cons, Bool.not_true, Bool.not_false, decide_eq_true_eq, gt_iff_lt, Int.reduceLT, Int.reduceLE, Int.reduceAdd, Int.reduceMul, Int.reduceSub, Nat.reduceLT, Nat.reduceLeDiff, Nat.reduceEqDiff, decide_true, decide_false, Bool.false_eq_true, Bool.true_or, Bool.or_true, Bool.and_true, Bool.true_and, Bool.false_and, Bool.and_false, Bool.false_or, Bool.or_false, D.noClo, D.noClos, beq_self_eq_true, tru_bl, tru_lst, Rof_some, Rneg_ok, seqD_l, seqD_t, itemsD_l, itemsD_t, itemsD_s, add_i, sub_i, mul_i, fdiv_i, mod_i, pow_i, add_s, add_l, add_t, eq_i, ne_i, eq_s, ne_s, eq_b, lt_i, gt_i, le_i, ge_i, le_s, gt_s, ge_s, lt_s, isn_n, isnt_n, isNone_n, isNone_i, isNone_s, isNone_t, isNone_l, isNone_b, isNone_o, inn_d, nin_d, idx_l, idx_t, idx_s, slc_l, slc_t, slc_s, len_l, len_t, len_s, abs_i, int_i, min2_i, max2_i, tuple_l, tuple_t, list_l, list_t, sorted_l, divmod_i, gcd_i, isi_b, isi_i, isi_s, isi_t, isi_l, isi_n, isi_o, isi_oc, isi_ic, isi_sc, isi_tc, atI_0, atI_1, atI_2, atI_3, atI_last, ixN_0, ixN_1, ixN_2, cut_hi, rng_n, asgT_nm, asgT_tp, asgT_tpl, ne_b, asgT_sub, asgTs_nil, asgTs_cons, bindN_nm, bindN_tp, bindNs_nil, bindNs_cons, sb_int_bool, sb_int_str, sb_int_tuple, sb_int_list, sb_int_NoneType, sb_bool_int, sb_bool_str, sb_bool_tuple, sb_bool_list, sb_bool_NoneType, sb_str_int, sb_str_bool, sb_str_tuple, sb_str_list, sb_str_NoneType, sb_tuple_int, sb_tuple_bool, sb_tuple_str, sb_tuple_list, sb_tuple_NoneType, sb_list_int, sb_list_bool, sb_list_str, sb_list_tuple, sb_list_NoneType, lim_0, lim_1, lim_2, lim_3, lim_4, lim_5, lim_6, lim_7, lim_8, lim_9, lim_10, lim_11, lim_12, Yld_ok, beq_self_eq_true]
theorem is_pair_ok (a b : D) (k : Nat) : (calls P (k + 2)).call n_is_pair [.tup [a, b]] = .ok (.bl true, []) := by
  rw [call_eq (F := f_is_pair) rfl rfl rfl]
  simp only [f_is_pair, Pu.run, ev, evs, evi, evp, R.bind_ok', entry, endOf, getAll, permute_nil, permute_cons, fill, put, List.map_cons, List.map_nil, List.length_cons, List.length_nil, List.cons_append, List.nil_append, List.replicate_succ, List.replicate_zero, Nat.reduceAdd, Nat.reduceSub, List.getElem?_cons_zero, List.getElem?_cons_succ, List.getElem?_nil, List.set_cons_zero, List.set_cons_succ, Option.bind_some, Option.map_some, wipeE, backE, List.getD_cons_zero, List.getD_cons_succ, and_true, true_and, reduceIte, if_true, if_false, Option.getD_some, Option.getD_none, List.isEmpty_nil, List.isEmpty_cons, Bool.not_true, Bool.not_false, decide_eq_true_eq, gt_iff_lt, Int.reduceLT, Int.reduceLE, Int.reduceAdd, Int.reduceMul, Int.reduceSub, Nat.reduceLT, Nat.reduceLeDiff, Nat.reduceEqDiff, decide_true, decide_false, Bool.false_eq_true, Bool.true_or, Bool.or_true, Bool.and_true, Bool.true_and, Bool.false_and, Bool.and_false, Bool.false_or, Bool.or_false, D.noClo, D.noClos, beq_self_eq_true, tru_bl, tru_lst, Rof_some, Rneg_ok, seqD_l, seqD_t, itemsD_l, itemsD_t, itemsD_s, add_i, sub_i, mul_i, fdiv_i, mod_i, pow_i, add_s, add_l, add_t, eq_i, ne_i, eq_s, ne_s, eq_b, lt_i, gt_i, le_i, ge_i, le_s, gt_s, ge_s, lt_s, isn_n, isnt_n, isNone_n, isNone_i, isNone_s, isNone_t, isNone_l, isNone_b, isNone_o, inn_d, nin_d, idx_l, idx_t, idx_s, slc_l, slc_t, slc_s, len_l, len_t, len_s, abs_i, int_i, min2_i, max2_i, tuple_l, tuple_t, list_l, list_t, sorted_l, divmod_i, gcd_i, isi_b, isi_i, isi_s, isi_t, isi_l, isi_n, isi_o, isi_oc, isi_ic, isi_sc, isi_tc, atI_0, atI_1, atI_2, atI_3, atI_last, ixN_0, ixN_1, ixN_2, cut_hi, rng_n, asgT_nm, asgT_tp, asgT_tpl, ne_b, asgT_sub, asgTs_nil, asgTs_cons, bindN_nm, bindN_tp, bindNs_nil, bindNs_cons, sb_int_bool, sb_int_str, sb_int_tuple, sb_int_list, sb_int_NoneType, sb_bool_int, sb_bool_str, sb_bool_tuple, sb_bool_list, sb_bool_NoneType, sb_str_int, sb_str_bool, sb_str_tuple, sb_str_list, sb_str_NoneType, sb_tuple_int, sb_tuple_bool, sb_tuple_str, sb_tuple_list, sb_tuple_NoneType, sb_list_int, sb_list_bool, sb_list_str, sb_list_tuple, sb_list_NoneType, lim_0, lim_1, lim_2, lim_3, lim_4, lim_5, lim_6, lim_7, lim_8, lim_9, lim_10, lim_11, lim_12, Yld_ok, is_tuple_of_ok]
  rfl
theorem is_one_of_ok (x : Str) (l : List Str) (k : Nat) : (calls P (k + 1)).call n_is_one_of [.str x, .tup (l.map dS)] = .ok (.bl (decide (x ∈ l)), []) := by
  rw [call_eq (F := f_is_one_of) rfl rfl rfl]
  simp only [f_is_one_of, Pu.run, ev, evs, evi, evp, R.bind_ok', entry, endOf, getAll, permute_nil, permute_cons, fill, put, List.map_cons, List.map_nil, List.length_cons, List.length_nil, List.cons_append, List.nil_append, List.replicate_succ, List.replicate_zero, Nat.reduceAdd, Nat.reduceSub, List.getElem?_cons_zero, List.getElem?_cons_succ, List.getElem?_nil, List.set_cons_zero, List.set_cons_succ, Option.bind_some, Option.map_some, wipeE, backE, List.getD_cons_zero, List.getD_cons_succ, and_true, true_and, reduceIte, if_true, if_false, Option.getD_some, Option.getD_none, List.isEmpty_nil, List.isEmpty_cons, Bool.not_true, Bool.not_false, decide_eq_true_eq, gt_iff_lt, Int.reduceLT, Int.reduceLE, Int.reduceAdd, Int.reduceMul, Int.reduceSub, Nat.reduceLT, Nat.reduceLeDiff, Nat.reduceEqDiff, decide_true, decide_false, Bool.false_eq_true, Bool.true_or, Bool.or_true, Bool.and_true, Bool.true_and, Bool.false_and, Bool.and_false, Bool.false_or, Bool.or_false, D.noClo, D.noClos, beq_self_eq_true, tru_bl, tru_lst, Rof_some, Rneg_ok, seqD_l, seqD_t, itemsD_l, itemsD_t, itemsD_s, add_i, sub_i, mul_i, fdiv_i, mod_i, pow_i, add_s, add_l, add_t, eq_i, ne_i, eq_s, ne_s, eq_b, lt_i, gt_i, le_i, ge_i, le_s, gt_s, ge_s, lt_s, isn_n, isnt_n, isNone_n, isNone_i, isNone_s, isNone_t, isNone_l, isNone_b, isNone_o, inn_d, nin_d, idx_l, idx_t, idx_s, slc_l, slc_t, slc_s, len_l, len_t, len_s, abs_i, int_i, min2_i, max2_i, tuple_l, tuple_t, list_l, list_t, sorted_l, divmod_i, gcd_i, isi_b, isi_i, isi_s, isi_t, isi_l, isi_n, isi_o, isi_oc, isi_ic, isi_sc, isi_tc, atI_0, atI_1, atI_2, atI_3, atI_last, ixN_0, ixN_1, ixN_2, cut_hi, rng_n, asgT_nm, asgT_tp, asgT_tpl, ne_b, asgT_sub, asgTs_nil, asgTs_cons, bindN_nm, bindN_tp, bindNs_nil, bindNs_cons, sb_int_bool, sb_int_str, sb_int_tuple, sb_int_list, sb_int_NoneType, sb_bool_int, sb_bool_str, sb_bool_tuple, sb_bool_list, sb_bool_NoneType, sb_str_int, sb_str_bool, sb_str_tuple, sb_str_list, sb_str_NoneType, sb_tuple_int, sb_tuple_bool, sb_tuple_str, sb_tuple_list, sb_tuple_NoneType, sb_list_int, sb_list_bool, sb_list_str, sb_list_tuple, sb_list_NoneType, lim_0, lim_1, lim_2, lim_3, lim_4, lim_5, lim_6, lim_7, lim_8, lim_9, lim_10, lim_11, lim_12, Yld_ok, beq_self_eq_true, in_t]
theorem letters_eq : d_LETTERS = .str "abcdefghijklmnopqrstuvwxyz" := rfl
theorem words_eq : d_WORDS = .tup (wordsL.map dS) := rfl
theorem most_eq : d_MOST_LETTERS = .int 8 := rfl
theorem nm_ne {W : List Str} {x : Str} (h : Nm W x) : x ≠ "" := fun z => by
  have := h.lo
  rw [z] at this
  exact absurd this (by decide)
theorem nm_len {W : List Str} {x : Str} (h : Nm W x) : x.length ≤ 8 := by
  have := h.hi
  simp [Str.length] at this ⊢
  exact this
theorem signs_eq (x : Str) : signs x = x.cps.toList.map fun c => .str (ch c) := rfl
theorem is_word_ok {W : List Str} {x : Str} (h : Nm W x) (k : Nat) : (calls P (k + 1)).call n_is_word [.str x] = .ok (.bl true, []) := by
  rw [call_eq (F := f_is_word) rfl rfl rfl]
  have hl : x.length ≤ lim := by
    have := nm_len h
    rw [lim]; omega
  have key : Yld ((run (calls P k) f_is_word.body (entry f_is_word.sz [.str x])).bind fun fl => endOf f_is_word.own f_is_word.mp fl) fun q => q = (.bl true, []) := by
    simp only [f_is_word, Pu.run, ev, evs, evi, evp, R.bind_ok', entry, endOf, getAll, permute_nil, permute_cons, fill, put, List.map_cons, List.map_nil, List.length_cons, List.length_nil, List.cons_append, List.nil_append, List.replicate_succ, List.replicate_zero, Nat.reduceAdd, Nat.reduceSub, List.getElem?_cons_zero, List.getElem?_cons_succ, List.getElem?_nil, List.set_cons_zero, List.set_cons_succ, Option.bind_some, Option.map_some, wipeE, backE, List.getD_cons_zero, List.getD_cons_succ, and_true, true_and, reduceIte, if_true, if_false, Option.getD_some, Option.getD_none, List.isEmpty_nil, List.isEmpty_cons, Bool.not_true, Bool.not_false, decide_eq_true_eq, gt_iff_lt, Int.reduceLT, Int.reduceLE, Int.reduceAdd, Int.reduceMul, Int.reduceSub, Nat.reduceLT, Nat.reduceLeDiff, Nat.reduceEqDiff, decide_true, decide_false, Bool.false_eq_true, Bool.true_or, Bool.or_true, Bool.and_true, Bool.true_and, Bool.false_and, Bool.and_false, Bool.false_or, Bool.or_false, D.noClo, D.noClos, beq_self_eq_true, tru_bl, tru_lst, Rof_some, Rneg_ok, seqD_l, seqD_t, itemsD_l, itemsD_t, itemsD_s, add_i, sub_i, mul_i, fdiv_i, mod_i, pow_i, add_s, add_l, add_t, eq_i, ne_i, eq_s, ne_s, eq_b, lt_i, gt_i, le_i, ge_i, le_s, gt_s, ge_s, lt_s, isn_n, isnt_n, isNone_n, isNone_i, isNone_s, isNone_t, isNone_l, isNone_b, isNone_o, inn_d, nin_d, idx_l, idx_t, idx_s, slc_l, slc_t, slc_s, len_l, len_t, len_s, abs_i, int_i, min2_i, max2_i, tuple_l, tuple_t, list_l, list_t, sorted_l, divmod_i, gcd_i, isi_b, isi_i, isi_s, isi_t, isi_l, isi_n, isi_o, isi_oc, isi_ic, isi_sc, isi_tc, atI_0, atI_1, atI_2, atI_3, atI_last, ixN_0, ixN_1, ixN_2, cut_hi, rng_n, asgT_nm, asgT_tp, asgT_tpl, ne_b, asgT_sub, asgTs_nil, asgTs_cons, bindN_nm, bindN_tp, bindNs_nil, bindNs_cons, sb_int_bool, sb_int_str, sb_int_tuple, sb_int_list, sb_int_NoneType, sb_bool_int, sb_bool_str, sb_bool_tuple, sb_bool_list, sb_bool_NoneType, sb_str_int, sb_str_bool, sb_str_tuple, sb_str_list, sb_str_NoneType, sb_tuple_int, sb_tuple_bool, sb_tuple_str, sb_tuple_list, sb_tuple_NoneType, sb_list_int, sb_list_bool, sb_list_str, sb_list_tuple, sb_list_NoneType, lim_0, lim_1, lim_2, lim_3, lim_4, lim_5, lim_6, lim_7, lim_8, lim_9, lim_10, lim_11, lim_12, Yld_ok, beq_self_eq_true, decide_eq_false (nm_ne h), hl, signs_eq, letters_eq]
    try simp only [R.bind_bind]
    refine Yld.bind (lc_allY rfl (fun c => .str (ch c)) (fun c => .bl (decide (c ∈ abc))) fun c hc => ?_) fun q hq => ?_
    · simp only [Pu.run, ev, evs, evi, evp, R.bind_ok', entry, endOf, getAll, permute_nil, permute_cons, fill, put, List.map_cons, List.map_nil, List.length_cons, List.length_nil, List.cons_append, List.nil_append, List.replicate_succ, List.replicate_zero, Nat.reduceAdd, Nat.reduceSub, List.getElem?_cons_zero, List.getElem?_cons_succ, List.getElem?_nil, List.set_cons_zero, List.set_cons_succ, Option.bind_some, Option.map_some, wipeE, backE, List.getD_cons_zero, List.getD_cons_succ, and_true, true_and, reduceIte, if_true, if_false, Option.getD_some, Option.getD_none, List.isEmpty_nil, List.isEmpty_cons, Bool.not_true, Bool.not_false, decide_eq_true_eq, gt_iff_lt, Int.reduceLT, Int.reduceLE, Int.reduceAdd, Int.reduceMul, Int.reduceSub, Nat.reduceLT, Nat.reduceLeDiff, Nat.reduceEqDiff, decide_true, decide_false, Bool.false_eq_true, Bool.true_or, Bool.or_true, Bool.and_true, Bool.true_and, Bool.false_and, Bool.and_false, Bool.false_or, Bool.or_false, D.noClo, D.noClos, beq_self_eq_true, tru_bl, tru_lst, Rof_some, Rneg_ok, seqD_l, seqD_t, itemsD_l, itemsD_t, itemsD_s, add_i, sub_i, mul_i, fdiv_i, mod_i, pow_i, add_s, add_l, add_t, eq_i, ne_i, eq_s, ne_s, eq_b, lt_i, gt_i, le_i, ge_i, le_s, gt_s, ge_s, lt_s, isn_n, isnt_n, isNone_n, isNone_i, isNone_s, isNone_t, isNone_l, isNone_b, isNone_o, inn_d, nin_d, idx_l, idx_t, idx_s, slc_l, slc_t, slc_s, len_l, len_t, len_s, abs_i, int_i, min2_i, max2_i, tuple_l, tuple_t, list_l, list_t, sorted_l, divmod_i, gcd_i, isi_b, isi_i, isi_s, isi_t, isi_l, isi_n, isi_o, isi_oc, isi_ic, isi_sc, isi_tc, atI_0, atI_1, atI_2, atI_3, atI_last, ixN_0, ixN_1, ixN_2, cut_hi, rng_n, asgT_nm, asgT_tp, asgT_tpl, ne_b, asgT_sub, asgTs_nil, asgTs_cons, bindN_nm, bindN_tp, bindNs_nil, bindNs_cons, sb_int_bool, sb_int_str, sb_int_tuple, sb_int_list, sb_int_NoneType, sb_bool_int, sb_bool_str, sb_bool_tuple, sb_bool_list, sb_bool_NoneType, sb_str_int, sb_str_bool, sb_str_tuple, sb_str_list, sb_str_NoneType, sb_tuple_int, sb_tuple_bool, sb_tuple_str, sb_tuple_list, sb_tuple_NoneType, sb_list_int, sb_list_bool, sb_list_str, sb_list_tuple, sb_list_NoneType, lim_0, lim_1, lim_2, lim_3, lim_4, lim_5, lim_6, lim_7, lim_8, lim_9, lim_10, lim_11, lim_12, Yld_ok, in_str, abc_s]
    · rw [hq]
      simp only [Pu.run, ev, evs, evi, evp, R.bind_ok', entry, endOf, getAll, permute_nil, permute_cons, fill, put, List.map_cons, List.map_nil, List.length_cons, List.length_nil, List.cons_append, List.nil_append, List.replicate_succ, List.replicate_zero, Nat.reduceAdd, Nat.reduceSub, List.getElem?_cons_zero, List.getElem?_cons_succ, List.getElem?_nil, List.set_cons_zero, List.set_cons_succ, Option.bind_some, Option.map_some, wipeE, backE, List.getD_cons_zero, List.getD_cons_succ, and_true, true_and, reduceIte, if_true, if_false, Option.getD_some, Option.getD_none, List.isEmpty_nil, List.isEmpty_cons, Bool.not_true, Bool.not_false, decide_eq_true_eq, gt_iff_lt, Int.reduceLT, Int.reduceLE, Int.reduceAdd, Int.reduceMul, Int.reduceSub, Nat.reduceLT, Nat.reduceLeDiff, Nat.reduceEqDiff, decide_true, decide_false, Bool.false_eq_true, Bool.true_or, Bool.or_true, Bool.and_true, Bool.true_and, Bool.false_and, Bool.and_false, Bool.false_or, Bool.or_false, D.noClo, D.noClos, beq_self_eq_true, tru_bl, tru_lst, Rof_some, Rneg_ok, seqD_l, seqD_t, itemsD_l, itemsD_t, itemsD_s, add_i, sub_i, mul_i, fdiv_i, mod_i, pow_i, add_s, add_l, add_t, eq_i, ne_i, eq_s, ne_s, eq_b, lt_i, gt_i, le_i, ge_i, le_s, gt_s, ge_s, lt_s, isn_n, isnt_n, isNone_n, isNone_i, isNone_s, isNone_t, isNone_l, isNone_b, isNone_o, inn_d, nin_d, idx_l, idx_t, idx_s, slc_l, slc_t, slc_s, len_l, len_t, len_s, abs_i, int_i, min2_i, max2_i, tuple_l, tuple_t, list_l, list_t, sorted_l, divmod_i, gcd_i, isi_b, isi_i, isi_s, isi_t, isi_l, isi_n, isi_o, isi_oc, isi_ic, isi_sc, isi_tc, atI_0, atI_1, atI_2, atI_3, atI_last, ixN_0, ixN_1, ixN_2, cut_hi, rng_n, asgT_nm, asgT_tp, asgT_tpl, ne_b, asgT_sub, asgTs_nil, asgTs_cons, bindN_nm, bindN_tp, bindNs_nil, bindNs_cons, sb_int_bool, sb_int_str, sb_int_tuple, sb_int_list, sb_int_NoneType, sb_bool_int, sb_bool_str, sb_bool_tuple, sb_bool_list, sb_bool_NoneType, sb_str_int, sb_str_bool, sb_str_tuple, sb_str_list, sb_str_NoneType, sb_tuple_int, sb_tuple_bool, sb_tuple_str, sb_tuple_list, sb_tuple_NoneType, sb_list_int, sb_list_bool, sb_list_str, sb_list_tuple, sb_list_NoneType, lim_0, lim_1, lim_2, lim_3, lim_4, lim_5, lim_6, lim_7, lim_8, lim_9, lim_10, lim_11, lim_12, Yld_ok, all_b]
      simp only [List.all_eq_true, decide_eq_true_eq, Prod.mk.injEq, D.bl.injEq, and_true]
      exact h.az
  exact Yld_eq key
theorem is_name_ok {W : List Str} {x : Str} (h : Nm (wordsL ++ W) x) (k : Nat) : (calls P (k + 2)).call n_is_name [.str x] = .ok (.bl true, []) := by
  rw [call_eq (F := f_is_name) rfl rfl rfl]
  have hl : x.length ≤ lim := by
    have := nm_len h
    rw [lim]; omega
  have h8 : ((x.length : Nat) : Int) ≤ 8 := by
    have := nm_len h
    omega
  have hw : x ∉ wordsL := fun z => h.nw (List.mem_append_left _ z)
  simp only [f_is_name, Pu.run, ev, evs, evi, evp, R.bind_ok', entry, endOf, getAll, permute_nil, permute_cons, fill, put, List.map_cons, List.map_nil, List.length_cons, List.length_nil, List.cons_append, List.nil_append, List.replicate_succ, List.replicate_zero, Nat.reduceAdd, Nat.reduceSub, List.getElem?_cons_zero, List.getElem?_cons_succ, List.getElem?_nil, List.set_cons_zero, List.set_cons_succ, Option.bind_some, Option.map_some, wipeE, backE, List.getD_cons_zero, List.getD_cons_succ, and_true, true_and, reduceIte, if_true, if_false, Option.getD_some, Option.getD_none, List.isEmpty_nil, List.isEmpty_cons, Bool.not_true, Bool.not_false, decide_eq_true_eq, gt_iff_lt, Int.reduceLT, Int.reduceLE, Int.reduceAdd, Int.reduceMul, Int.reduceSub, Nat.reduceLT, Nat.reduceLeDiff, Nat.reduceEqDiff, decide_true, decide_false, Bool.false_eq_true, Bool.true_or, Bool.or_true, Bool.and_true, Bool.true_and, Bool.false_and, Bool.and_false, Bool.false_or, Bool.or_false, D.noClo, D.noClos, beq_self_eq_true, tru_bl, tru_lst, Rof_some, Rneg_ok, seqD_l, seqD_t, itemsD_l, itemsD_t, itemsD_s, add_i, sub_i, mul_i, fdiv_i, mod_i, pow_i, add_s, add_l, add_t, eq_i, ne_i, eq_s, ne_s, eq_b, lt_i, gt_i, le_i, ge_i, le_s, gt_s, ge_s, lt_s, isn_n, isnt_n, isNone_n, isNone_i, isNone_s, isNone_t, isNone_l, isNone_b, isNone_o, inn_d, nin_d, idx_l, idx_t, idx_s, slc_l, slc_t, slc_s, len_l, len_t, len_s, abs_i, int_i, min2_i, max2_i, tuple_l, tuple_t, list_l, list_t, sorted_l, divmod_i, gcd_i, isi_b, isi_i, isi_s, isi_t, isi_l, isi_n, isi_o, isi_oc, isi_ic, isi_sc, isi_tc, atI_0, atI_1, atI_2, atI_3, atI_last, ixN_0, ixN_1, ixN_2, cut_hi, rng_n, asgT_nm, asgT_tp, asgT_tpl, ne_b, asgT_sub, asgTs_nil, asgTs_cons, bindN_nm, bindN_tp, bindNs_nil, bindNs_cons, sb_int_bool, sb_int_str, sb_int_tuple, sb_int_list, sb_int_NoneType, sb_bool_int, sb_bool_str, sb_bool_tuple, sb_bool_list, sb_bool_NoneType, sb_str_int, sb_str_bool, sb_str_tuple, sb_str_list, sb_str_NoneType, sb_tuple_int, sb_tuple_bool, sb_tuple_str, sb_tuple_list, sb_tuple_NoneType, sb_list_int, sb_list_bool, sb_list_str, sb_list_tuple, sb_list_NoneType, lim_0, lim_1, lim_2, lim_3, lim_4, lim_5, lim_6, lim_7, lim_8, lim_9, lim_10, lim_11, lim_12, Yld_ok, is_word_ok h, hl, most_eq, decide_eq_true h8, words_eq, in_t, decide_eq_false hw]
theorem wrong_in_ok {ds : List D} {lo : Int} (hlo : lo ≤ ds.length) (h7 : ds.length < 1000) {most : D} (hm : ∀ i, i < ds.length → cmpD .eq (.int (i : Nat)) most = .ok false) {l : Nat} {caps : List D} (k : Nat)
    (h : ∀ i (hi : i < ds.length), (calls P k).lam l caps [.tup (ds.take i), ds[i]] = .ok (.bl true)) : (calls P (k + 1)).call n_wrong_in [.tup ds, .int lo, most, .clo l caps] = .ok (.lst [], []) := by
  rw [call_eq (F := f_wrong_in) rfl rfl rfl]
  have hlt : ¬ (ds.length : Int) < lo := by omega
  have key : Yld ((run (calls P k) f_wrong_in.body (entry f_wrong_in.sz [.tup ds, .int lo, most, .clo l caps])).bind fun fl => endOf f_wrong_in.own f_wrong_in.mp fl) fun q => q = (.lst [], []) := by
    simp only [f_wrong_in, Pu.run, ev, evs, evi, evp, R.bind_ok', entry, endOf, getAll, permute_nil, permute_cons, fill, put, List.map_cons, List.map_nil, List.length_cons, List.length_nil, List.cons_append, List.nil_append, List.replicate_succ, List.replicate_zero, Nat.reduceAdd, Nat.reduceSub, List.getElem?_cons_zero, List.getElem?_cons_succ, List.getElem?_nil, List.set_cons_zero, List.set_cons_succ, Option.bind_some, Option.map_some, wipeE, backE, List.getD_cons_zero, List.getD_cons_succ, and_true, true_and, reduceIte, if_true, if_false, Option.getD_some, Option.getD_none, List.isEmpty_nil, List.isEmpty_cons, Bool.not_true, Bool.not_false, decide_eq_true_eq, gt_iff_lt, Int.reduceLT, Int.reduceLE, Int.reduceAdd, Int.reduceMul, Int.reduceSub, Nat.reduceLT, Nat.reduceLeDiff, Nat.reduceEqDiff, decide_true, decide_false, Bool.false_eq_true, Bool.true_or, Bool.or_true, Bool.and_true, Bool.true_and, Bool.false_and, Bool.and_false, Bool.false_or, Bool.or_false, D.noClo, D.noClos, beq_self_eq_true, tru_bl, tru_lst, Rof_some, Rneg_ok, seqD_l, seqD_t, itemsD_l, itemsD_t, itemsD_s, add_i, sub_i, mul_i, fdiv_i, mod_i, pow_i, add_s, add_l, add_t, eq_i, ne_i, eq_s, ne_s, eq_b, lt_i, gt_i, le_i, ge_i, le_s, gt_s, ge_s, lt_s, isn_n, isnt_n, isNone_n, isNone_i, isNone_s, isNone_t, isNone_l, isNone_b, isNone_o, inn_d, nin_d, idx_l, idx_t, idx_s, slc_l, slc_t, slc_s, len_l, len_t, len_s, abs_i, int_i, min2_i, max2_i, tuple_l, tuple_t, list_l, list_t, sorted_l, divmod_i, gcd_i, isi_b, isi_i, isi_s, isi_t, isi_l, isi_n, isi_o, isi_oc, isi_ic, isi_sc, isi_tc, atI_0, atI_1, atI_2, atI_3, atI_last, ixN_0, ixN_1, ixN_2, cut_hi, rng_n, asgT_nm, asgT_tp, asgT_tpl, ne_b, asgT_sub, asgTs_nil, asgTs_cons, bindN_nm, bindN_tp, bindNs_nil, bindNs_cons, sb_int_bool, sb_int_str, sb_int_tuple, sb_int_list, sb_int_NoneType, sb_bool_int, sb_bool_str, sb_bool_tuple, sb_bool_list, sb_bool_NoneType, sb_str_int, sb_str_bool, sb_str_tuple, sb_str_list, sb_str_NoneType, sb_tuple_int, sb_tuple_bool, sb_tuple_str, sb_tuple_list, sb_tuple_NoneType, sb_list_int, sb_list_bool, sb_list_str, sb_list_tuple, sb_list_NoneType, lim_0, lim_1, lim_2, lim_3, lim_4, lim_5, lim_6, lim_7, lim_8, lim_9, lim_10, lim_11, lim_12, Yld_ok, beq_self_eq_true, decide_eq_false hlt, enmD]
    try simp only [R.bind_bind]
    refine Yld.bind (P := fun f => ∃ s4 s5, f = .nx [some (.tup ds), some (.int lo), some most, some (.clo l caps), s4, s5]) ?_ ?_
    · refine for_inv (fun es ρ => ∃ i s4 s5, i ≤ ds.length ∧ es = (numbered ds).drop i ∧ ρ = [some (.tup ds), some (.int lo), some most, some (.clo l caps), s4, s5]) _ ⟨0, none, none, by omega, rfl, rfl⟩ ?_ ?_
      · rintro ρ ⟨i, s4, s5, _, _, rfl⟩
        exact ⟨s4, s5, rfl⟩
      · rintro d es ρ ⟨i, s4, s5, hi, he, rfl⟩
        have hi2 : i < ds.length := by
          rcases Nat.lt_or_ge i ds.length with z | z
          · exact z
          · have : i = ds.length := by omega
            rw [this, numbered_end] at he
            cases he
        rw [numbered_get' hi2] at he
        obtain ⟨e1, e2⟩ := List.cons.inj he
        subst e1 e2
        have hc : slcD (.tup ds) none (some (i : Int)) = .ok (.tup (ds.take i)) := by
          rw [slc_t, cut_hi]
        simp only [Pu.run, ev, evs, evi, evp, R.bind_ok', entry, endOf, getAll, permute_nil, permute_cons, fill, put, List.map_cons, List.map_nil, List.length_cons, List.length_nil, List.cons_append, List.nil_append, List.replicate_succ, List.replicate_zero, Nat.reduceAdd, Nat.reduceSub, List.getElem?_cons_zero, List.getElem?_cons_succ, List.getElem?_nil, List.set_cons_zero, List.set_cons_succ, Option.bind_some, Option.map_some, wipeE, backE, List.getD_cons_zero, List.getD_cons_succ, and_true, true_and, reduceIte, if_true, if_false, Option.getD_some, Option.getD_none, List.isEmpty_nil, List.isEmpty_cons, Bool.not_true, Bool.not_false, decide_eq_true_eq, gt_iff_lt, Int.reduceLT, Int.reduceLE, Int.reduceAdd, Int.reduceMul, Int.reduceSub, Nat.reduceLT, Nat.reduceLeDiff, Nat.reduceEqDiff, decide_true, decide_false, Bool.false_eq_true, Bool.true_or, Bool.or_true, Bool.and_true, Bool.true_and, Bool.false_and, Bool.and_false, Bool.false_or, Bool.or_false, D.noClo, D.noClos, beq_self_eq_true, tru_bl, tru_lst, Rof_some, Rneg_ok, seqD_l, seqD_t, itemsD_l, itemsD_t, itemsD_s, add_i, sub_i, mul_i, fdiv_i, mod_i, pow_i, add_s, add_l, add_t, eq_i, ne_i, eq_s, ne_s, eq_b, lt_i, gt_i, le_i, ge_i, le_s, gt_s, ge_s, lt_s, isn_n, isnt_n, isNone_n, isNone_i, isNone_s, isNone_t, isNone_l, isNone_b, isNone_o, inn_d, nin_d, idx_l, idx_t, idx_s, slc_l, slc_t, slc_s, len_l, len_t, len_s, abs_i, int_i, min2_i, max2_i, tuple_l, tuple_t, list_l, list_t, sorted_l, divmod_i, gcd_i, isi_b, isi_i, isi_s, isi_t, isi_l, isi_n, isi_o, isi_oc, isi_ic, isi_sc, isi_tc, atI_0, atI_1, atI_2, atI_3, atI_last, ixN_0, ixN_1, ixN_2, cut_hi, rng_n, asgT_nm, asgT_tp, asgT_tpl, ne_b, asgT_sub, asgTs_nil, asgTs_cons, bindN_nm, bindN_tp, bindNs_nil, bindNs_cons, sb_int_bool, sb_int_str, sb_int_tuple, sb_int_list, sb_int_NoneType, sb_bool_int, sb_bool_str, sb_bool_tuple, sb_bool_list, sb_bool_NoneType, sb_str_int, sb_str_bool, sb_str_tuple, sb_str_list, sb_str_NoneType, sb_tuple_int, sb_tuple_bool, sb_tuple_str, sb_tuple_list, sb_tuple_NoneType, sb_list_int, sb_list_bool, sb_list_str, sb_list_tuple, sb_list_NoneType, lim_0, lim_1, lim_2, lim_3, lim_4, lim_5, lim_6, lim_7, lim_8, lim_9, lim_10, lim_11, lim_12, Yld_ok, hm i hi2, hc, h i hi2]
        exact .inl ⟨_, rfl, i + 1, _, _, by omega, rfl, rfl⟩
    · rintro f ⟨s4, s5, rfl⟩
      simp only [Pu.run, ev, evs, evi, evp, R.bind_ok', entry, endOf, getAll, permute_nil, permute_cons, fill, put, List.map_cons, List.map_nil, List.length_cons, List.length_nil, List.cons_append, List.nil_append, List.replicate_succ, List.replicate_zero, Nat.reduceAdd, Nat.reduceSub, List.getElem?_cons_zero, List.getElem?_cons_succ, List.getElem?_nil, List.set_cons_zero, List.set_cons_succ, Option.bind_some, Option.map_some, wipeE, backE, List.getD_cons_zero, List.getD_cons_succ, and_true, true_and, reduceIte, if_true, if_false, Option.getD_some, Option.getD_none, List.isEmpty_nil, List.isEmpty_cons, Bool.not_true, Bool.not_false, decide_eq_true_eq, gt_iff_lt, Int.reduceLT, Int.reduceLE, Int.reduceAdd, Int.reduceMul, Int.reduceSub, Nat.reduceLT, Nat.reduceLeDiff, Nat.reduceEqDiff, decide_true, decide_false, Bool.false_eq_true, Bool.true_or, Bool.or_true, Bool.and_true, Bool.true_and, Bool.false_and, Bool.and_false, Bool.false_or, Bool.or_false, D.noClo, D.noClos, beq_self_eq_true, tru_bl, tru_lst, Rof_some, Rneg_ok, seqD_l, seqD_t, itemsD_l, itemsD_t, itemsD_s, add_i, sub_i, mul_i, fdiv_i, mod_i, pow_i, add_s, add_l, add_t, eq_i, ne_i, eq_s, ne_s, eq_b, lt_i, gt_i, le_i, ge_i, le_s, gt_s, ge_s, lt_s, isn_n, isnt_n, isNone_n, isNone_i, isNone_s, isNone_t, isNone_l, isNone_b, isNone_o, inn_d, nin_d, idx_l, idx_t, idx_s, slc_l, slc_t, slc_s, len_l, len_t, len_s, abs_i, int_i, min2_i, max2_i, tuple_l, tuple_t, list_l, list_t, sorted_l, divmod_i, gcd_i, isi_b, isi_i, isi_s, isi_t, isi_l, isi_n, isi_o, isi_oc, isi_ic, isi_sc, isi_tc, atI_0, atI_1, atI_2, atI_3, atI_last, ixN_0, ixN_1, ixN_2, cut_hi, rng_n, asgT_nm, asgT_tp, asgT_tpl, ne_b, asgT_sub, asgTs_nil, asgTs_cons, bindN_nm, bindN_tp, bindNs_nil, bindNs_cons, sb_int_bool, sb_int_str, sb_int_tuple, sb_int_list, sb_int_NoneType, sb_bool_int, sb_bool_str, sb_bool_tuple, sb_bool_list, sb_bool_NoneType, sb_str_int, sb_str_bool, sb_str_tuple, sb_str_list, sb_str_NoneType, sb_tuple_int, sb_tuple_bool, sb_tuple_str, sb_tuple_list, sb_tuple_NoneType, sb_list_int, sb_list_bool, sb_list_str, sb_list_tuple, sb_list_NoneType, lim_0, lim_1, lim_2, lim_3, lim_4, lim_5, lim_6, lim_7, lim_8, lim_9, lim_10, lim_11, lim_12, Yld_ok]
  exact Yld_eq key
theorem are_below_0 (x : D) (k : Nat) : (calls P (k + 1)).call n_are_below [.tup [], x] = .ok (.bl true, []) := by
  rw [call_eq (F := f_are_below) rfl rfl rfl]
  simp only [f_are_below, Pu.run, ev, evs, evi, evp, R.bind_ok', entry, endOf, getAll, permute_nil, permute_cons, fill, put, List.map_cons, List.map_nil, List.length_cons, List.length_nil, List.cons_append, List.nil_append, List.replicate_succ, List.replicate_zero, Nat.reduceAdd, Nat.reduceSub, List.getElem?_cons_zero, List.getElem?_cons_succ, List.getElem?_nil, List.set_cons_zero, List.set_cons_succ, Option.bind_some, Option.map_some, wipeE, backE, List.getD_cons_zero, List.getD_cons_succ, and_true, true_and, reduceIte, if_true, if_false, Option.getD_some, Option.getD_none, List.isEmpty_nil, List.isEmpty_cons, Bool.not_true, Bool.not_false, decide_eq_true_eq, gt_iff_lt, Int.reduceLT, Int.reduceLE, Int.reduceAdd, Int.reduceMul, Int.reduceSub, Nat.reduceLT, Nat.reduceLeDiff, Nat.reduceEqDiff, decide_true, decide_false, Bool.false_eq_true, Bool.true_or, Bool.or_true, Bool.and_true, Bool.true_and, Bool.false_and, Bool.and_false, Bool.false_or, Bool.or_false, D.noClo, D.noClos, beq_self_eq_true, tru_bl, tru_lst, Rof_some, Rneg_ok, seqD_l, seqD_t, itemsD_l, itemsD_t, itemsD_s, add_i, sub_i, mul_i, fdiv_i, mod_i, pow_i, add_s, add_l, add_t, eq_i, ne_i, eq_s, ne_s, eq_b, lt_i, gt_i, le_i, ge_i, le_s, gt_s, ge_s, lt_s, isn_n, isnt_n, isNone_n, isNone_i, isNone_s, isNone_t, isNone_l, isNone_b, isNone_o, inn_d, nin_d, idx_l, idx_t, idx_s, slc_l, slc_t, slc_s, len_l, len_t, len_s, abs_i, int_i, min2_i, max2_i, tuple_l, tuple_t, list_l, list_t, sorted_l, divmod_i, gcd_i, isi_b, isi_i, isi_s, isi_t, isi_l, isi_n, isi_o, isi_oc, isi_ic, isi_sc, isi_tc, atI_0, atI_1, atI_2, atI_3, atI_last, ixN_0, ixN_1, ixN_2, cut_hi, rng_n, asgT_nm, asgT_tp, asgT_tpl, ne_b, asgT_sub, asgTs_nil, asgTs_cons, bindN_nm, bindN_tp, bindNs_nil, bindNs_cons, sb_int_bool, sb_int_str, sb_int_tuple, sb_int_list, sb_int_NoneType, sb_bool_int, sb_bool_str, sb_bool_tuple, sb_bool_list, sb_bool_NoneType, sb_str_int, sb_str_bool, sb_str_tuple, sb_str_list, sb_str_NoneType, sb_tuple_int, sb_tuple_bool, sb_tuple_str, sb_tuple_list, sb_tuple_NoneType, sb_list_int, sb_list_bool, sb_list_str, sb_list_tuple, sb_list_NoneType, lim_0, lim_1, lim_2, lim_3, lim_4, lim_5, lim_6, lim_7, lim_8, lim_9, lim_10, lim_11, lim_12, Yld_ok, eq_tnil pys_nil]
theorem are_below_1 {ds : List D} {ps : List PyData} (hp : D.pys ds = some ps) {d x : D} (hl : ds.getLast? = some d) (hx : cmpD .lt d x = .ok true) (k : Nat) : (calls P (k + 1)).call n_are_below [.tup ds, x] = .ok (.bl true, []) := by
  rw [call_eq (F := f_are_below) rfl rfl rfl]
  have he : ds.isEmpty = false := by
    cases ds with
    | nil => cases hl
    | cons => rfl
  simp only [f_are_below, Pu.run, ev, evs, evi, evp, R.bind_ok', entry, endOf, getAll, permute_nil, permute_cons, fill, put, List.map_cons, List.map_nil, List.length_cons, List.length_nil, List.cons_append, List.nil_append, List.replicate_succ, List.replicate_zero, Nat.reduceAdd, Nat.reduceSub, List.getElem?_cons_zero, List.getElem?_cons_succ, List.getElem?_nil, List.set_cons_zero, List.set_cons_succ, Option.bind_some, Option.map_some, wipeE, backE, List.getD_cons_zero, List.getD_cons_succ, and_true, true_and, reduceIte, if_true, if_false, Option.getD_some, Option.getD_none, List.isEmpty_nil, List.isEmpty_cons, Bool.not_true, Bool.not_false, decide_eq_true_eq, gt_iff_lt, Int.reduceLT, Int.reduceLE, Int.reduceAdd, Int.reduceMul, Int.reduceSub, Nat.reduceLT, Nat.reduceLeDiff, Nat.reduceEqDiff, decide_true, decide_false, Bool.false_eq_true, Bool.true_or, Bool.or_true, Bool.and_true, Bool.true_and, Bool.false_and, Bool.and_false, Bool.false_or, Bool.or_false, D.noClo, D.noClos, beq_self_eq_true, tru_bl, tru_lst, Rof_some, Rneg_ok, seqD_l, seqD_t, itemsD_l, itemsD_t, itemsD_s, add_i, sub_i, mul_i, fdiv_i, mod_i, pow_i, add_s, add_l, add_t, eq_i, ne_i, eq_s, ne_s, eq_b, lt_i, gt_i, le_i, ge_i, le_s, gt_s, ge_s, lt_s, isn_n, isnt_n, isNone_n, isNone_i, isNone_s, isNone_t, isNone_l, isNone_b, isNone_o, inn_d, nin_d, idx_l, idx_t, idx_s, slc_l, slc_t, slc_s, len_l, len_t, len_s, abs_i, int_i, min2_i, max2_i, tuple_l, tuple_t, list_l, list_t, sorted_l, divmod_i, gcd_i, isi_b, isi_i, isi_s, isi_t, isi_l, isi_n, isi_o, isi_oc, isi_ic, isi_sc, isi_tc, atI_0, atI_1, atI_2, atI_3, atI_last, ixN_0, ixN_1, ixN_2, cut_hi, rng_n, asgT_nm, asgT_tp, asgT_tpl, ne_b, asgT_sub, asgTs_nil, asgTs_cons, bindN_nm, bindN_tp, bindNs_nil, bindNs_cons, sb_int_bool, sb_int_str, sb_int_tuple, sb_int_list, sb_int_NoneType, sb_bool_int, sb_bool_str, sb_bool_tuple, sb_bool_list, sb_bool_NoneType, sb_str_int, sb_str_bool, sb_str_tuple, sb_str_list, sb_str_NoneType, sb_tuple_int, sb_tuple_bool, sb_tuple_str, sb_tuple_list, sb_tuple_NoneType, sb_list_int, sb_list_bool, sb_list_str, sb_list_tuple, sb_list_NoneType, lim_0, lim_1, lim_2, lim_3, lim_4, lim_5, lim_6, lim_7, lim_8, lim_9, lim_10, lim_11, lim_12, Yld_ok, eq_tnil hp, he, atI_last, hl, hx]
theorem below_take {α : Type} {f : α → D} {g : α → PyData} (hg : ∀ a, (f a).py = some (g a)) {l : List α} {r : α → α → Prop} (hs : l.Pairwise r) (hr : ∀ a b, r a b → cmpD .lt (f a) (f b) = .ok true) {i : Nat} (hi : i < l.length) (k : Nat) : (calls P (k + 1)).call n_are_below [.tup ((l.map f).take i), f l[i]] = .ok (.bl true, []) := by
  cases i with
  | zero => exact are_below_0 _ k
  | succ j =>
    rw [← List.map_take]
    refine are_below_1 (pysOfMap hg _) (d := f l[j]) ?_ (hr _ _ (List.pairwise_iff_getElem.mp hs _ _ (by omega) hi (by omega))) k
    rw [List.getLast?_map, List.getLast?_eq_getElem?, List.length_take, Nat.min_eq_left (by omega), List.getElem?_take_of_lt (by omega), show j + 1 - 1 = j from rfl, List.getElem?_eq_getElem (by omega)]
    rfl
theorem noS (x : Str) : D.noClo (dS x) = true := by rw [dS, D.noClo]
theorem noPr (p : Str × Str) : D.noClo (dPr p) = true := by rw [dPr, D.noClo, D.noClos, D.noClo, D.noClos, D.noClo, D.noClos]; rfl
theorem least_eq : d_LEAST_PLACES = .int 2 := rfl
theorem mostp_eq : d_MOST_PLACES = .int 7 := rfl
/-- names that are no words of the program -/
structure FoundW (F : List Str) (n : Nat) : Prop where
  len : F.length = n
  nd : F.Nodup
  nm : ∀ x ∈ F, Nm (wordsL ++ []) x
theorem Found.w {F : List Str} {n : Nat} (h : Found F n) : FoundW F n := ⟨h.len, h.nd, fun x hx => by
  obtain ⟨a, b, c, d⟩ := h.nm x hx
  exact ⟨a, b, c, fun z => d (List.mem_append_left _ (by simpa using z))⟩⟩
theorem wrong_places_ok {F : List Str} {n : Nat} (hF : FoundW F n) (h2 : 2 ≤ n) (h7 : n ≤ 7) (hs : F.Pairwise Slt) (k : Nat) : (calls P (k + 5)).call n_wrong_in_places [.tup (F.map dS)] = .ok (.lst [], []) := by
  have hn := hF.len
  have hw := wrong_in_ok (ds := F.map dS) (lo := 2) (by rw [List.length_map]; omega) (by rw [List.length_map]; omega) (most := .int 7) (fun i hi => by
    rw [List.length_map] at hi
    rw [eq_i, decide_eq_false (by omega)]) (l := m_wrong_in_places_0) (caps := []) (k + 3) fun i hi => by
      rw [List.length_map] at hi
      rw [lam_eq (L := l_wrong_in_places_0) rfl rfl rfl (by rw [D.noClos, D.noClos, D.noClos, D.noClo, ← List.map_take, noClos_map noS, List.getElem_map, noS]; rfl)]
      have hb := below_take py_s hs (fun a b h => by rw [dS, dS, lt_s, decide_eq_true h]) hi (k + 1)
      have hnm := is_name_ok (hF.nm F[i] (List.getElem_mem hi)) k
      rw [List.getElem_map]
      simp only [l_wrong_in_places_0, Pu.run, ev, evs, evi, evp, R.bind_ok', entry, endOf, getAll, permute_nil, permute_cons, fill, put, List.map_cons, List.map_nil, List.length_cons, List.length_nil, List.cons_append, List.nil_append, List.replicate_succ, List.replicate_zero, Nat.reduceAdd, Nat.reduceSub, List.getElem?_cons_zero, List.getElem?_cons_succ, List.getElem?_nil, List.set_cons_zero, List.set_cons_succ, Option.bind_some, Option.map_some, wipeE, backE, List.getD_cons_zero, List.getD_cons_succ, and_true, true_and, reduceIte, if_true, if_false, Option.getD_some, Option.getD_none, List.isEmpty_nil, List.isEmpty_cons, Bool.not_true, Bool.not_false, decide_eq_true_eq, gt_iff_lt, Int.reduceLT, Int.reduceLE, Int.reduceAdd, Int.reduceMul, Int.reduceSub, Nat.reduceLT, Nat.reduceLeDiff, Nat.reduceEqDiff, decide_true, decide_false, Bool.false_eq_true, Bool.true_or, Bool.or_true, Bool.and_true, Bool.true_and, Bool.false_and, Bool.and_false, Bool.false_or, Bool.or_false, D.noClo, D.noClos, beq_self_eq_true, tru_bl, tru_lst, Rof_some, Rneg_ok, seqD_l, seqD_t, itemsD_l, itemsD_t, itemsD_s, add_i, sub_i, mul_i, fdiv_i, mod_i, pow_i, add_s, add_l, add_t, eq_i, ne_i, eq_s, ne_s, eq_b, lt_i, gt_i, le_i, ge_i, le_s, gt_s, ge_s, lt_s, isn_n, isnt_n, isNone_n, isNone_i, isNone_s, isNone_t, isNone_l, isNone_b, isNone_o, inn_d, nin_d, idx_l, idx_t, idx_s, slc_l, slc_t, slc_s, len_l, len_t, len_s, abs_i, int_i, min2_i, max2_i, tuple_l, tuple_t, list_l, list_t, sorted_l, divmod_i, gcd_i, isi_b, isi_i, isi_s, isi_t, isi_l, isi_n, isi_o, isi_oc, isi_ic, isi_sc, isi_tc, atI_0, atI_1, atI_2, atI_3, atI_last, ixN_0, ixN_1, ixN_2, cut_hi, rng_n, asgT_nm, asgT_tp, asgT_tpl, ne_b, asgT_sub, asgTs_nil, asgTs_cons, bindN_nm, bindN_tp, bindNs_nil, bindNs_cons, sb_int_bool, sb_int_str, sb_int_tuple, sb_int_list, sb_int_NoneType, sb_bool_int, sb_bool_str, sb_bool_tuple, sb_bool_list, sb_bool_NoneType, sb_str_int, sb_str_bool, sb_str_tuple, sb_str_list, sb_str_NoneType, sb_tuple_int, sb_tuple_bool, sb_tuple_str, sb_tuple_list, sb_tuple_NoneType, sb_list_int, sb_list_bool, sb_list_str, sb_list_tuple, sb_list_NoneType, lim_0, lim_1, lim_2, lim_3, lim_4, lim_5, lim_6, lim_7, lim_8, lim_9, lim_10, lim_11, lim_12, Yld_ok, dS_eq] at hb ⊢
      simp only [Pu.run, ev, evs, evi, evp, R.bind_ok', entry, endOf, getAll, permute_nil, permute_cons, fill, put, List.map_cons, List.map_nil, List.length_cons, List.length_nil, List.cons_append, List.nil_append, List.replicate_succ, List.replicate_zero, Nat.reduceAdd, Nat.reduceSub, List.getElem?_cons_zero, List.getElem?_cons_succ, List.getElem?_nil, List.set_cons_zero, List.set_cons_succ, Option.bind_some, Option.map_some, wipeE, backE, List.getD_cons_zero, List.getD_cons_succ, and_true, true_and, reduceIte, if_true, if_false, Option.getD_some, Option.getD_none, List.isEmpty_nil, List.isEmpty_cons, Bool.not_true, Bool.not_false, decide_eq_true_eq, gt_iff_lt, Int.reduceLT, Int.reduceLE, Int.reduceAdd, Int.reduceMul, Int.reduceSub, Nat.reduceLT, Nat.reduceLeDiff, Nat.reduceEqDiff, decide_true, decide_false, Bool.false_eq_true, Bool.true_or, Bool.or_true, Bool.and_true, Bool.true_and, Bool.false_and, Bool.and_false, Bool.false_or, Bool.or_false, D.noClo, D.noClos, beq_self_eq_true, tru_bl, tru_lst, Rof_some, Rneg_ok, seqD_l, seqD_t, itemsD_l, itemsD_t, itemsD_s, add_i, sub_i, mul_i, fdiv_i, mod_i, pow_i, add_s, add_l, add_t, eq_i, ne_i, eq_s, ne_s, eq_b, lt_i, gt_i, le_i, ge_i, le_s, gt_s, ge_s, lt_s, isn_n, isnt_n, isNone_n, isNone_i, isNone_s, isNone_t, isNone_l, isNone_b, isNone_o, inn_d, nin_d, idx_l, idx_t, idx_s, slc_l, slc_t, slc_s, len_l, len_t, len_s, abs_i, int_i, min2_i, max2_i, tuple_l, tuple_t, list_l, list_t, sorted_l, divmod_i, gcd_i, isi_b, isi_i, isi_s, isi_t, isi_l, isi_n, isi_o, isi_oc, isi_ic, isi_sc, isi_tc, atI_0, atI_1, atI_2, atI_3, atI_last, ixN_0, ixN_1, ixN_2, cut_hi, rng_n, asgT_nm, asgT_tp, asgT_tpl, ne_b, asgT_sub, asgTs_nil, asgTs_cons, bindN_nm, bindN_tp, bindNs_nil, bindNs_cons, sb_int_bool, sb_int_str, sb_int_tuple, sb_int_list, sb_int_NoneType, sb_bool_int, sb_bool_str, sb_bool_tuple, sb_bool_list, sb_bool_NoneType, sb_str_int, sb_str_bool, sb_str_tuple, sb_str_list, sb_str_NoneType, sb_tuple_int, sb_tuple_bool, sb_tuple_str, sb_tuple_list, sb_tuple_NoneType, sb_list_int, sb_list_bool, sb_list_str, sb_list_tuple, sb_list_NoneType, lim_0, lim_1, lim_2, lim_3, lim_4, lim_5, lim_6, lim_7, lim_8, lim_9, lim_10, lim_11, lim_12, Yld_ok, hnm, hb]
  rw [call_eq (F := f_wrong_in_places) rfl rfl rfl]
  simp only [f_wrong_in_places, Pu.run, ev, evs, evi, evp, R.bind_ok', entry, endOf, getAll, permute_nil, permute_cons, fill, put, List.map_cons, List.map_nil, List.length_cons, List.length_nil, List.cons_append, List.nil_append, List.replicate_succ, List.replicate_zero, Nat.reduceAdd, Nat.reduceSub, List.getElem?_cons_zero, List.getElem?_cons_succ, List.getElem?_nil, List.set_cons_zero, List.set_cons_succ, Option.bind_some, Option.map_some, wipeE, backE, List.getD_cons_zero, List.getD_cons_succ, and_true, true_and, reduceIte, if_true, if_false, Option.getD_some, Option.getD_none, List.isEmpty_nil, List.isEmpty_cons, Bool.not_true, Bool.not_false, decide_eq_true_eq, gt_iff_lt, Int.reduceLT, Int.reduceLE, Int.reduceAdd, Int.reduceMul, Int.reduceSub, Nat.reduceLT, Nat.reduceLeDiff, Nat.reduceEqDiff, decide_true, decide_false, Bool.false_eq_true, Bool.true_or, Bool.or_true, Bool.and_true, Bool.true_and, Bool.false_and, Bool.and_false, Bool.false_or, Bool.or_false, D.noClo, D.noClos, beq_self_eq_true, tru_bl, tru_lst, Rof_some, Rneg_ok, seqD_l, seqD_t, itemsD_l, itemsD_t, itemsD_s, add_i, sub_i, mul_i, fdiv_i, mod_i, pow_i, add_s, add_l, add_t, eq_i, ne_i, eq_s, ne_s, eq_b, lt_i, gt_i, le_i, ge_i, le_s, gt_s, ge_s, lt_s, isn_n, isnt_n, isNone_n, isNone_i, isNone_s, isNone_t, isNone_l, isNone_b, isNone_o, inn_d, nin_d, idx_l, idx_t, idx_s, slc_l, slc_t, slc_s, len_l, len_t, len_s, abs_i, int_i, min2_i, max2_i, tuple_l, tuple_t, list_l, list_t, sorted_l, divmod_i, gcd_i, isi_b, isi_i, isi_s, isi_t, isi_l, isi_n, isi_o, isi_oc, isi_ic, isi_sc, isi_tc, atI_0, atI_1, atI_2, atI_3, atI_last, ixN_0, ixN_1, ixN_2, cut_hi, rng_n, asgT_nm, asgT_tp, asgT_tpl, ne_b, asgT_sub, asgTs_nil, asgTs_cons, bindN_nm, bindN_tp, bindNs_nil, bindNs_cons, sb_int_bool, sb_int_str, sb_int_tuple, sb_int_list, sb_int_NoneType, sb_bool_int, sb_bool_str, sb_bool_tuple, sb_bool_list, sb_bool_NoneType, sb_str_int, sb_str_bool, sb_str_tuple, sb_str_list, sb_str_NoneType, sb_tuple_int, sb_tuple_bool, sb_tuple_str, sb_tuple_list, sb_tuple_NoneType, sb_list_int, sb_list_bool, sb_list_str, sb_list_tuple, sb_list_NoneType, lim_0, lim_1, lim_2, lim_3, lim_4, lim_5, lim_6, lim_7, lim_8, lim_9, lim_10, lim_11, lim_12, Yld_ok, least_eq, mostp_eq, List.range_succ, List.range_zero, hw]
/-! ties -/
structure TiesOk (F : List Str) (T : List (Str × Str)) : Prop where
  so : T.Pairwise fun a b => PySem.W.dataLt (pPr a) (pPr b) = true
  mem : ∀ t ∈ T, t.1 ∈ F ∧ t.2 ∈ F ∧ Slt t.1 t.2
  len : T.length < 1000
theorem is_tie_ok {F : List Str} {t : Str × Str} (h1 : t.1 ∈ F) (h2 : t.2 ∈ F) (h3 : Slt t.1 t.2) (k : Nat) : (calls P (k + 3)).call n_is_tie [.tup (F.map dS), dPr t] = .ok (.bl true, []) := by
  rw [call_eq (F := f_is_tie) rfl rfl rfl]
  simp only [f_is_tie, Pu.run, ev, evs, evi, evp, R.bind_ok', entry, endOf, getAll, permute_nil, permute_cons, fill, put, List.map_cons, List.map_nil, List.length_cons, List.length_nil, List.cons_append, List.nil_append, List.replicate_succ, List.replicate_zero, Nat.reduceAdd, Nat.reduceSub, List.getElem?_cons_zero, List.getElem?_cons_succ, List.getElem?_nil, List.set_cons_zero, List.set_cons_succ, Option.bind_some, Option.map_some, wipeE, backE, List.getD_cons_zero, List.getD_cons_succ, and_true, true_and, reduceIte, if_true, if_false, Option.getD_some, Option.getD_none, List.isEmpty_nil, List.isEmpty_cons, Bool.not_true, Bool.not_false, decide_eq_true_eq, gt_iff_lt, Int.reduceLT, Int.reduceLE, Int.reduceAdd, Int.reduceMul, Int.reduceSub, Nat.reduceLT, Nat.reduceLeDiff, Nat.reduceEqDiff, decide_true, decide_false, Bool.false_eq_true, Bool.true_or, Bool.or_true, Bool.and_true, Bool.true_and, Bool.false_and, Bool.and_false, Bool.false_or, Bool.or_false, D.noClo, D.noClos, beq_self_eq_true, tru_bl, tru_lst, Rof_some, Rneg_ok, seqD_l, seqD_t, itemsD_l, itemsD_t, itemsD_s, add_i, sub_i, mul_i, fdiv_i, mod_i, pow_i, add_s, add_l, add_t, eq_i, ne_i, eq_s, ne_s, eq_b, lt_i, gt_i, le_i, ge_i, le_s, gt_s, ge_s, lt_s, isn_n, isnt_n, isNone_n, isNone_i, isNone_s, isNone_t, isNone_l, isNone_b, isNone_o, inn_d, nin_d, idx_l, idx_t, idx_s, slc_l, slc_t, slc_s, len_l, len_t, len_s, abs_i, int_i, min2_i, max2_i, tuple_l, tuple_t, list_l, list_t, sorted_l, divmod_i, gcd_i, isi_b, isi_i, isi_s, isi_t, isi_l, isi_n, isi_o, isi_oc, isi_ic, isi_sc, isi_tc, atI_0, atI_1, atI_2, atI_3, atI_last, ixN_0, ixN_1, ixN_2, cut_hi, rng_n, asgT_nm, asgT_tp, asgT_tpl, ne_b, asgT_sub, asgTs_nil, asgTs_cons, bindN_nm, bindN_tp, bindNs_nil, bindNs_cons, sb_int_bool, sb_int_str, sb_int_tuple, sb_int_list, sb_int_NoneType, sb_bool_int, sb_bool_str, sb_bool_tuple, sb_bool_list, sb_bool_NoneType, sb_str_int, sb_str_bool, sb_str_tuple, sb_str_list, sb_str_NoneType, sb_tuple_int, sb_tuple_bool, sb_tuple_str, sb_tuple_list, sb_tuple_NoneType, sb_list_int, sb_list_bool, sb_list_str, sb_list_tuple, sb_list_NoneType, lim_0, lim_1, lim_2, lim_3, lim_4, lim_5, lim_6, lim_7, lim_8, lim_9, lim_10, lim_11, lim_12, Yld_ok, dPr, is_pair_ok, atI_0, atI_1, is_one_of_ok, decide_eq_true h1, decide_eq_true h2, decide_eq_true h3]
theorem wrong_ties_ok {F : List Str} {T : List (Str × Str)} (h : TiesOk F T) (k : Nat) : (calls P (k + 6)).call n_wrong_in_ties [.tup (F.map dS), .tup (T.map dPr)] = .ok (.lst [], []) := by
  have hw := wrong_in_ok (ds := T.map dPr) (lo := 0) (by omega) (by rw [List.length_map]; exact h.len) (most := .non) (fun i hi => eq_inon _) (l := m_wrong_in_ties_0) (caps := [.tup (F.map dS)]) (k + 4) fun i hi => by
      rw [List.length_map] at hi
      rw [lam_eq (L := l_wrong_in_ties_0) rfl rfl rfl (by rw [D.noClos, D.noClos, D.noClos, D.noClo, ← List.map_take, noClos_map noPr, List.getElem_map, noPr]; rfl)]
      have hb := below_take py_pr h.so (fun a b h => by rw [lt_pr, h]) hi (k + 2)
      obtain ⟨g1, g2, g3⟩ := h.mem T[i] (List.getElem_mem hi)
      have hnm := is_tie_ok g1 g2 g3 k
      rw [List.getElem_map]
      simp only [l_wrong_in_ties_0, Pu.run, ev, evs, evi, evp, R.bind_ok', entry, endOf, getAll, permute_nil, permute_cons, fill, put, List.map_cons, List.map_nil, List.length_cons, List.length_nil, List.cons_append, List.nil_append, List.replicate_succ, List.replicate_zero, Nat.reduceAdd, Nat.reduceSub, List.getElem?_cons_zero, List.getElem?_cons_succ, List.getElem?_nil, List.set_cons_zero, List.set_cons_succ, Option.bind_some, Option.map_some, wipeE, backE, List.getD_cons_zero, List.getD_cons_succ, and_true, true_and, reduceIte, if_true, if_false, Option.getD_some, Option.getD_none, List.isEmpty_nil, List.isEmpty_cons, Bool.not_true, Bool.not_false, decide_eq_true_eq, gt_iff_lt, Int.reduceLT, Int.reduceLE, Int.reduceAdd, Int.reduceMul, Int.reduceSub, Nat.reduceLT, Nat.reduceLeDiff, Nat.reduceEqDiff, decide_true, decide_false, Bool.false_eq_true, Bool.true_or, Bool.or_true, Bool.and_true, Bool.true_and, Bool.false_and, Bool.and_false, Bool.false_or, Bool.or_false, D.noClo, D.noClos, beq_self_eq_true, tru_bl, tru_lst, Rof_some, Rneg_ok, seqD_l, seqD_t, itemsD_l, itemsD_t, itemsD_s, add_i, sub_i, mul_i, fdiv_i, mod_i, pow_i, add_s, add_l, add_t, eq_i, ne_i, eq_s, ne_s, eq_b, lt_i, gt_i, le_i, ge_i, le_s, gt_s, ge_s, lt_s, isn_n, isnt_n, isNone_n, isNone_i, isNone_s, isNone_t, isNone_l, isNone_b, isNone_o, inn_d, nin_d, idx_l, idx_t, idx_s, slc_l, slc_t, slc_s, len_l, len_t, len_s, abs_i, int_i, min2_i, max2_i, tuple_l, tuple_t, list_l, list_t, sorted_l, divmod_i, gcd_i, isi_b, isi_i, isi_s, isi_t, isi_l, isi_n, isi_o, isi_oc, isi_ic, isi_sc, isi_tc, atI_0, atI_1, atI_2, atI_3, atI_last, ixN_0, ixN_1, ixN_2, cut_hi, rng_n, asgT_nm, asgT_tp, asgT_tpl, ne_b, asgT_sub, asgTs_nil, asgTs_cons, bindN_nm, bindN_tp, bindNs_nil, bindNs_cons, sb_int_bool, sb_int_str, sb_int_tuple, sb_int_list, sb_int_NoneType, sb_bool_int, sb_bool_str, sb_bool_tuple, sb_bool_list, sb_bool_NoneType, sb_str_int, sb_str_bool, sb_str_tuple, sb_str_list, sb_str_NoneType, sb_tuple_int, sb_tuple_bool, sb_tuple_str, sb_tuple_list, sb_tuple_NoneType, sb_list_int, sb_list_bool, sb_list_str, sb_list_tuple, sb_list_NoneType, lim_0, lim_1, lim_2, lim_3, lim_4, lim_5, lim_6, lim_7, lim_8, lim_9, lim_10, lim_11, lim_12, Yld_ok, hnm, hb]
  rw [call_eq (F := f_wrong_in_ties) rfl rfl rfl]
  simp only [f_wrong_in_ties, Pu.run, ev, evs, evi, evp, R.bind_ok', entry, endOf, getAll, permute_nil, permute_cons, fill, put, List.map_cons, List.map_nil, List.length_cons, List.length_nil, List.cons_append, List.nil_append, List.replicate_succ, List.replicate_zero, Nat.reduceAdd, Nat.reduceSub, List.getElem?_cons_zero, List.getElem?_cons_succ, List.getElem?_nil, List.set_cons_zero, List.set_cons_succ, Option.bind_some, Option.map_some, wipeE, backE, List.getD_cons_zero, List.getD_cons_succ, and_true, true_and, reduceIte, if_true, if_false, Option.getD_some, Option.getD_none, List.isEmpty_nil, List.isEmpty_cons, Bool.not_true, Bool.not_false, decide_eq_true_eq, gt_iff_lt, Int.reduceLT, Int.reduceLE, Int.reduceAdd, Int.reduceMul, Int.reduceSub, Nat.reduceLT, Nat.reduceLeDiff, Nat.reduceEqDiff, decide_true, decide_false, Bool.false_eq_true, Bool.true_or, Bool.or_true, Bool.and_true, Bool.true_and, Bool.false_and, Bool.and_false, Bool.false_or, Bool.or_false, D.noClo, D.noClos, beq_self_eq_true, tru_bl, tru_lst, Rof_some, Rneg_ok, seqD_l, seqD_t, itemsD_l, itemsD_t, itemsD_s, add_i, sub_i, mul_i, fdiv_i, mod_i, pow_i, add_s, add_l, add_t, eq_i, ne_i, eq_s, ne_s, eq_b, lt_i, gt_i, le_i, ge_i, le_s, gt_s, ge_s, lt_s, isn_n, isnt_n, isNone_n, isNone_i, isNone_s, isNone_t, isNone_l, isNone_b, isNone_o, inn_d, nin_d, idx_l, idx_t, idx_s, slc_l, slc_t, slc_s, len_l, len_t, len_s, abs_i, int_i, min2_i, max2_i, tuple_l, tuple_t, list_l, list_t, sorted_l, divmod_i, gcd_i, isi_b, isi_i, isi_s, isi_t, isi_l, isi_n, isi_o, isi_oc, isi_ic, isi_sc, isi_tc, atI_0, atI_1, atI_2, atI_3, atI_last, ixN_0, ixN_1, ixN_2, cut_hi, rng_n, asgT_nm, asgT_tp, asgT_tpl, ne_b, asgT_sub, asgTs_nil, asgTs_cons, bindN_nm, bindN_tp, bindNs_nil, bindNs_cons, sb_int_bool, sb_int_str, sb_int_tuple, sb_int_list, sb_int_NoneType, sb_bool_int, sb_bool_str, sb_bool_tuple, sb_bool_list, sb_bool_NoneType, sb_str_int, sb_str_bool, sb_str_tuple, sb_str_list, sb_str_NoneType, sb_tuple_int, sb_tuple_bool, sb_tuple_str, sb_tuple_list, sb_tuple_NoneType, sb_list_int, sb_list_bool, sb_list_str, sb_list_tuple, sb_list_NoneType, lim_0, lim_1, lim_2, lim_3, lim_4, lim_5, lim_6, lim_7, lim_8, lim_9, lim_10, lim_11, lim_12, Yld_ok, List.range_succ, List.range_zero, hw]
def wants : List D := [.tup [.int 0, .int 1], .tup [.int 1, .int 2], .tup [.int 1, .int 2], .tup [.int 1, .int 3], .tup [.int 2, .int 3], .tup [.int 1, .int 1], .tup [.int 1, .int 4], .tup [.int 3, .int 5]]
theorem is_whole_ok (i : Int) (k : Nat) : (calls P (k + 1)).call n_is_whole [.int i] = .ok (.bl true, []) := by
  rw [call_eq (F := f_is_whole) rfl rfl rfl]
  simp only [f_is_whole, Pu.run, ev, evs, evi, evp, R.bind_ok', entry, endOf, getAll, permute_nil, permute_cons, fill, put, List.map_cons, List.map_nil, List.length_cons, List.length_nil, List.cons_append, List.nil_append, List.replicate_succ, List.replicate_zero, Nat.reduceAdd, Nat.reduceSub, List.getElem?_cons_zero, List.getElem?_cons_succ, List.getElem?_nil, List.set_cons_zero, List.set_cons_succ, Option.bind_some, Option.map_some, wipeE, backE, List.getD_cons_zero, List.getD_cons_succ, and_true, true_and, reduceIte, if_true, if_false, Option.getD_some, Option.getD_none, List.isEmpty_nil, List.isEmpty_cons, Bool.not_true, Bool.not_false, decide_eq_true_eq, gt_iff_lt, Int.reduceLT, Int.reduceLE, Int.reduceAdd, Int.reduceMul, Int.reduceSub, Nat.reduceLT, Nat.reduceLeDiff, Nat.reduceEqDiff, decide_true, decide_false, Bool.false_eq_true, Bool.true_or, Bool.or_true, Bool.and_true, Bool.true_and, Bool.false_and, Bool.and_false, Bool.false_or, Bool.or_false, D.noClo, D.noClos, beq_self_eq_true, tru_bl, tru_lst, Rof_some, Rneg_ok, seqD_l, seqD_t, itemsD_l, itemsD_t, itemsD_s, add_i, sub_i, mul_i, fdiv_i, mod_i, pow_i, add_s, add_l, add_t, eq_i, ne_i, eq_s, ne_s, eq_b, lt_i, gt_i, le_i, ge_i, le_s, gt_s, ge_s, lt_s, isn_n, isnt_n, isNone_n, isNone_i, isNone_s, isNone_t, isNone_l, isNone_b, isNone_o, inn_d, nin_d, idx_l, idx_t, idx_s, slc_l, slc_t, slc_s, len_l, len_t, len_s, abs_i, int_i, min2_i, max2_i, tuple_l, tuple_t, list_l, list_t, sorted_l, divmod_i, gcd_i, isi_b, isi_i, isi_s, isi_t, isi_l, isi_n, isi_o, isi_oc, isi_ic, isi_sc, isi_tc, atI_0, atI_1, atI_2, atI_3, atI_last, ixN_0, ixN_1, ixN_2, cut_hi, rng_n, asgT_nm, asgT_tp, asgT_tpl, ne_b, asgT_sub, asgTs_nil, asgTs_cons, bindN_nm, bindN_tp, bindNs_nil, bindNs_cons, sb_int_bool, sb_int_str, sb_int_tuple, sb_int_list, sb_int_NoneType, sb_bool_int, sb_bool_str, sb_bool_tuple, sb_bool_list, sb_bool_NoneType, sb_str_int, sb_str_bool, sb_str_tuple, sb_str_list, sb_str_NoneType, sb_tuple_int, sb_tuple_bool, sb_tuple_str, sb_tuple_list, sb_tuple_NoneType, sb_list_int, sb_list_bool, sb_list_str, sb_list_tuple, sb_list_NoneType, lim_0, lim_1, lim_2, lim_3, lim_4, lim_5, lim_6, lim_7, lim_8, lim_9, lim_10, lim_11, lim_12, Yld_ok]
theorem is_part_ok {p q : Nat} (h1 : p ≤ q) (h2 : 0 < q) (h3 : Nat.gcd p q = 1) (k : Nat) : (calls P (k + 4)).call n_is_part [.tup [.int (p : Int), .int (q : Int)]] = .ok (.bl true, []) := by
  have hf : (calls P (k + 3)).call n_is_fraction [.tup [.int (p : Int), .int (q : Int)]] = .ok (.bl true, []) := by
    rw [call_eq (F := f_is_fraction) rfl rfl rfl]
    have hq : (0 : Int) < (q : Int) := by omega
    have hg : ((Nat.gcd (p : Int).natAbs (q : Int).natAbs : Nat) : Int) = 1 := by
      rw [Int.natAbs_natCast, Int.natAbs_natCast, h3]
      rfl
    simp only [f_is_fraction, Pu.run, ev, evs, evi, evp, R.bind_ok', entry, endOf, getAll, permute_nil, permute_cons, fill, put, List.map_cons, List.map_nil, List.length_cons, List.length_nil, List.cons_append, List.nil_append, List.replicate_succ, List.replicate_zero, Nat.reduceAdd, Nat.reduceSub, List.getElem?_cons_zero, List.getElem?_cons_succ, List.getElem?_nil, List.set_cons_zero, List.set_cons_succ, Option.bind_some, Option.map_some, wipeE, backE, List.getD_cons_zero, List.getD_cons_succ, and_true, true_and, reduceIte, if_true, if_false, Option.getD_some, Option.getD_none, List.isEmpty_nil, List.isEmpty_cons, Bool.not_true, Bool.not_false, decide_eq_true_eq, gt_iff_lt, Int.reduceLT, Int.reduceLE, Int.reduceAdd, Int.reduceMul, Int.reduceSub, Nat.reduceLT, Nat.reduceLeDiff, Nat.reduceEqDiff, decide_true, decide_false, Bool.false_eq_true, Bool.true_or, Bool.or_true, Bool.and_true, Bool.true_and, Bool.false_and, Bool.and_false, Bool.false_or, Bool.or_false, D.noClo, D.noClos, beq_self_eq_true, tru_bl, tru_lst, Rof_some, Rneg_ok, seqD_l, seqD_t, itemsD_l, itemsD_t, itemsD_s, add_i, sub_i, mul_i, fdiv_i, mod_i, pow_i, add_s, add_l, add_t, eq_i, ne_i, eq_s, ne_s, eq_b, lt_i, gt_i, le_i, ge_i, le_s, gt_s, ge_s, lt_s, isn_n, isnt_n, isNone_n, isNone_i, isNone_s, isNone_t, isNone_l, isNone_b, isNone_o, inn_d, nin_d, idx_l, idx_t, idx_s, slc_l, slc_t, slc_s, len_l, len_t, len_s, abs_i, int_i, min2_i, max2_i, tuple_l, tuple_t, list_l, list_t, sorted_l, divmod_i, gcd_i, isi_b, isi_i, isi_s, isi_t, isi_l, isi_n, isi_o, isi_oc, isi_ic, isi_sc, isi_tc, atI_0, atI_1, atI_2, atI_3, atI_last, ixN_0, ixN_1, ixN_2, cut_hi, rng_n, asgT_nm, asgT_tp, asgT_tpl, ne_b, asgT_sub, asgTs_nil, asgTs_cons, bindN_nm, bindN_tp, bindNs_nil, bindNs_cons, sb_int_bool, sb_int_str, sb_int_tuple, sb_int_list, sb_int_NoneType, sb_bool_int, sb_bool_str, sb_bool_tuple, sb_bool_list, sb_bool_NoneType, sb_str_int, sb_str_bool, sb_str_tuple, sb_str_list, sb_str_NoneType, sb_tuple_int, sb_tuple_bool, sb_tuple_str, sb_tuple_list, sb_tuple_NoneType, sb_list_int, sb_list_bool, sb_list_str, sb_list_tuple, sb_list_NoneType, lim_0, lim_1, lim_2, lim_3, lim_4, lim_5, lim_6, lim_7, lim_8, lim_9, lim_10, lim_11, lim_12, Yld_ok, is_pair_ok, bindN_nm, lcLoop, is_whole_ok, atI_0, atI_1, decide_eq_true hq, hg, show biD .all [.lst [.bl true, .bl true]] = .ok (.bl true) from rfl]
  rw [call_eq (F := f_is_part) rfl rfl rfl]
  have e1 : (0 : Int) ≤ (p : Int) := by omega
  have e2 : (p : Int) ≤ (q : Int) := by omega
  simp only [f_is_part, Pu.run, ev, evs, evi, evp, R.bind_ok', entry, endOf, getAll, permute_nil, permute_cons, fill, put, List.map_cons, List.map_nil, List.length_cons, List.length_nil, List.cons_append, List.nil_append, List.replicate_succ, List.replicate_zero, Nat.reduceAdd, Nat.reduceSub, List.getElem?_cons_zero, List.getElem?_cons_succ, List.getElem?_nil, List.set_cons_zero, List.set_cons_succ, Option.bind_some, Option.map_some, wipeE, backE, List.getD_cons_zero, List.getD_cons_succ, and_true, true_and, reduceIte, if_true, if_false, Option.getD_some, Option.getD_none, List.isEmpty_nil, List.isEmpty_cons, Bool.not_true, Bool.not_false, decide_eq_true_eq, gt_iff_lt, Int.reduceLT, Int.reduceLE, Int.reduceAdd, Int.reduceMul, Int.reduceSub, Nat.reduceLT, Nat.reduceLeDiff, Nat.reduceEqDiff, decide_true, decide_false, Bool.false_eq_true, Bool.true_or, Bool.or_true, Bool.and_true, Bool.true_and, Bool.false_and, Bool.and_false, Bool.false_or, Bool.or_false, D.noClo, D.noClos, beq_self_eq_true, tru_bl, tru_lst, Rof_some, Rneg_ok, seqD_l, seqD_t, itemsD_l, itemsD_t, itemsD_s, add_i, sub_i, mul_i, fdiv_i, mod_i, pow_i, add_s, add_l, add_t, eq_i, ne_i, eq_s, ne_s, eq_b, lt_i, gt_i, le_i, ge_i, le_s, gt_s, ge_s, lt_s, isn_n, isnt_n, isNone_n, isNone_i, isNone_s, isNone_t, isNone_l, isNone_b, isNone_o, inn_d, nin_d, idx_l, idx_t, idx_s, slc_l, slc_t, slc_s, len_l, len_t, len_s, abs_i, int_i, min2_i, max2_i, tuple_l, tuple_t, list_l, list_t, sorted_l, divmod_i, gcd_i, isi_b, isi_i, isi_s, isi_t, isi_l, isi_n, isi_o, isi_oc, isi_ic, isi_sc, isi_tc, atI_0, atI_1, atI_2, atI_3, atI_last, ixN_0, ixN_1, ixN_2, cut_hi, rng_n, asgT_nm, asgT_tp, asgT_tpl, ne_b, asgT_sub, asgTs_nil, asgTs_cons, bindN_nm, bindN_tp, bindNs_nil, bindNs_cons, sb_int_bool, sb_int_str, sb_int_tuple, sb_int_list, sb_int_NoneType, sb_bool_int, sb_bool_str, sb_bool_tuple, sb_bool_list, sb_bool_NoneType, sb_str_int, sb_str_bool, sb_str_tuple, sb_str_list, sb_str_NoneType, sb_tuple_int, sb_tuple_bool, sb_tuple_str, sb_tuple_list, sb_tuple_NoneType, sb_list_int, sb_list_bool, sb_list_str, sb_list_tuple, sb_list_NoneType, lim_0, lim_1, lim_2, lim_3, lim_4, lim_5, lim_6, lim_7, lim_8, lim_9, lim_10, lim_11, lim_12, Yld_ok, hf, atI_0, atI_1, decide_eq_true e1, decide_eq_true e2]
def Want (w : D) : Prop := ∃ p q : Nat, w = .tup [.int (p : Int), .int (q : Int)] ∧ p ≤ q ∧ 0 < q ∧ q ≤ 100 ∧ Nat.gcd p q = 1
theorem wants_ok : ∀ w ∈ wants, Want w := by
  intro w hw
  simp only [wants, List.mem_cons, List.not_mem_nil, or_false] at hw
  rcases hw with rfl | rfl | rfl | rfl | rfl | rfl | rfl | rfl
  · exact ⟨0, 1, rfl, by decide, by decide, by decide, by decide⟩
  · exact ⟨1, 2, rfl, by decide, by decide, by decide, by decide⟩
  · exact ⟨1, 2, rfl, by decide, by decide, by decide, by decide⟩
  · exact ⟨1, 3, rfl, by decide, by decide, by decide, by decide⟩
  · exact ⟨2, 3, rfl, by decide, by decide, by decide, by decide⟩
  · exact ⟨1, 1, rfl, by decide, by decide, by decide, by decide⟩
  · exact ⟨1, 4, rfl, by decide, by decide, by decide, by decide⟩
  · exact ⟨3, 5, rfl, by decide, by decide, by decide, by decide⟩
theorem check_want_ok {w : D} (h : Want w) (k : Nat) : (calls P (k + 5)).call n_check_want [w] = .ok (.non, []) := by
  obtain ⟨p, q, rfl, h1, h2, _, h3⟩ := h
  rw [call_eq (F := f_check_want) rfl rfl rfl]
  simp only [f_check_want, Pu.run, ev, evs, evi, evp, R.bind_ok', entry, endOf, getAll, permute_nil, permute_cons, fill, put, List.map_cons, List.map_nil, List.length_cons, List.length_nil, List.cons_append, List.nil_append, List.replicate_succ, List.replicate_zero, Nat.reduceAdd, Nat.reduceSub, List.getElem?_cons_zero, List.getElem?_cons_succ, List.getElem?_nil, List.set_cons_zero, List.set_cons_succ, Option.bind_some, Option.map_some, wipeE, backE, List.getD_cons_zero, List.getD_cons_succ, and_true, true_and, reduceIte, if_true, if_false, Option.getD_some, Option.getD_none, List.isEmpty_nil, List.isEmpty_cons, Bool.not_true, Bool.not_false, decide_eq_true_eq, gt_iff_lt, Int.reduceLT, Int.reduceLE, Int.reduceAdd, Int.reduceMul, Int.reduceSub, Nat.reduceLT, Nat.reduceLeDiff, Nat.reduceEqDiff, decide_true, decide_false, Bool.false_eq_true, Bool.true_or, Bool.or_true, Bool.and_true, Bool.true_and, Bool.false_and, Bool.and_false, Bool.false_or, Bool.or_false, D.noClo, D.noClos, beq_self_eq_true, tru_bl, tru_lst, Rof_some, Rneg_ok, seqD_l, seqD_t, itemsD_l, itemsD_t, itemsD_s, add_i, sub_i, mul_i, fdiv_i, mod_i, pow_i, add_s, add_l, add_t, eq_i, ne_i, eq_s, ne_s, eq_b, lt_i, gt_i, le_i, ge_i, le_s, gt_s, ge_s, lt_s, isn_n, isnt_n, isNone_n, isNone_i, isNone_s, isNone_t, isNone_l, isNone_b, isNone_o, inn_d, nin_d, idx_l, idx_t, idx_s, slc_l, slc_t, slc_s, len_l, len_t, len_s, abs_i, int_i, min2_i, max2_i, tuple_l, tuple_t, list_l, list_t, sorted_l, divmod_i, gcd_i, isi_b, isi_i, isi_s, isi_t, isi_l, isi_n, isi_o, isi_oc, isi_ic, isi_sc, isi_tc, atI_0, atI_1, atI_2, atI_3, atI_last, ixN_0, ixN_1, ixN_2, cut_hi, rng_n, asgT_nm, asgT_tp, asgT_tpl, ne_b, asgT_sub, asgTs_nil, asgTs_cons, bindN_nm, bindN_tp, bindNs_nil, bindNs_cons, sb_int_bool, sb_int_str, sb_int_tuple, sb_int_list, sb_int_NoneType, sb_bool_int, sb_bool_str, sb_bool_tuple, sb_bool_list, sb_bool_NoneType, sb_str_int, sb_str_bool, sb_str_tuple, sb_str_list, sb_str_NoneType, sb_tuple_int, sb_tuple_bool, sb_tuple_str, sb_tuple_list, sb_tuple_NoneType, sb_list_int, sb_list_bool, sb_list_str, sb_list_tuple, sb_list_NoneType, lim_0, lim_1, lim_2, lim_3, lim_4, lim_5, lim_6, lim_7, lim_8, lim_9, lim_10, lim_11, lim_12, Yld_ok, is_part_ok h1 h2 h3]
/-- a right street: names, ties, want -/
structure StOk (F : List Str) (T : List (Str × Str)) (w : D) (n : Nat) : Prop where
  fo : FoundW F n
  lo : 2 ≤ n
  hi : n ≤ 7
  so : F.Pairwise Slt
  ti : TiesOk F T
  wa : Want w
def streetD (F : List Str) (T : List (Str × Str)) (w : D) : D := .tup [.tup (F.map dS), .tup (T.map dPr), w]
def madeD (F : List Str) (T : List (Str × Str)) (w : D) : D := .obj c_Street [streetD F T w]
theorem never_for {C : Calls} {t : N} {ρ : Env'} : forLoop t (Pu.run C .never) [] ρ = .ok (.nx ρ) := id rfl
theorem new_ok {F : List Str} {T : List (Str × Str)} {w : D} {n : Nat} (h : StOk F T w n) (k : Nat) : (calls P (k + 7)).new c_Street [.tup (F.map dS), .tup (T.map dPr), w] = .ok (madeD F T w) := by
  rw [new_eq (F := f_Street_init) rfl rfl rfl rfl]
  simp only [f_Street_init, Pu.run, ev, evs, evi, evp, R.bind_ok', entry, endOf, getAll, permute_nil, permute_cons, fill, put, List.map_cons, List.map_nil, List.length_cons, List.length_nil, List.cons_append, List.nil_append, List.replicate_succ, List.replicate_zero, Nat.reduceAdd, Nat.reduceSub, List.getElem?_cons_zero, List.getElem?_cons_succ, List.getElem?_nil, List.set_cons_zero, List.set_cons_succ, Option.bind_some, Option.map_some, wipeE, backE, List.getD_cons_zero, List.getD_cons_succ, and_true, true_and, reduceIte, if_true, if_false, Option.getD_some, Option.getD_none, List.isEmpty_nil, List.isEmpty_cons, Bool.not_true, Bool.not_false, decide_eq_true_eq, gt_iff_lt, Int.reduceLT, Int.reduceLE, Int.reduceAdd, Int.reduceMul, Int.reduceSub, Nat.reduceLT, Nat.reduceLeDiff, Nat.reduceEqDiff, decide_true, decide_false, Bool.false_eq_true, Bool.true_or, Bool.or_true, Bool.and_true, Bool.true_and, Bool.false_and, Bool.and_false, Bool.false_or, Bool.or_false, D.noClo, D.noClos, beq_self_eq_true, tru_bl, tru_lst, Rof_some, Rneg_ok, seqD_l, seqD_t, itemsD_l, itemsD_t, itemsD_s, add_i, sub_i, mul_i, fdiv_i, mod_i, pow_i, add_s, add_l, add_t, eq_i, ne_i, eq_s, ne_s, eq_b, lt_i, gt_i, le_i, ge_i, le_s, gt_s, ge_s, lt_s, isn_n, isnt_n, isNone_n, isNone_i, isNone_s, isNone_t, isNone_l, isNone_b, isNone_o, inn_d, nin_d, idx_l, idx_t, idx_s, slc_l, slc_t, slc_s, len_l, len_t, len_s, abs_i, int_i, min2_i, max2_i, tuple_l, tuple_t, list_l, list_t, sorted_l, divmod_i, gcd_i, isi_b, isi_i, isi_s, isi_t, isi_l, isi_n, isi_o, isi_oc, isi_ic, isi_sc, isi_tc, atI_0, atI_1, atI_2, atI_3, atI_last, ixN_0, ixN_1, ixN_2, cut_hi, rng_n, asgT_nm, asgT_tp, asgT_tpl, ne_b, asgT_sub, asgTs_nil, asgTs_cons, bindN_nm, bindN_tp, bindNs_nil, bindNs_cons, sb_int_bool, sb_int_str, sb_int_tuple, sb_int_list, sb_int_NoneType, sb_bool_int, sb_bool_str, sb_bool_tuple, sb_bool_list, sb_bool_NoneType, sb_str_int, sb_str_bool, sb_str_tuple, sb_str_list, sb_str_NoneType, sb_tuple_int, sb_tuple_bool, sb_tuple_str, sb_tuple_list, sb_tuple_NoneType, sb_list_int, sb_list_bool, sb_list_str, sb_list_tuple, sb_list_NoneType, lim_0, lim_1, lim_2, lim_3, lim_4, lim_5, lim_6, lim_7, lim_8, lim_9, lim_10, lim_11, lim_12, Yld_ok, wrong_places_ok h.fo h.lo h.hi h.so, wrong_ties_ok h.ti, check_want_ok h.wa, forLoop]
  rfl
theorem made_ok {F : List Str} {T : List (Str × Str)} {w : D} {n : Nat} (h : StOk F T w n) (k : Nat) : (calls P (k + 8)).call n_law_made [streetD F T w] = .ok (madeD F T w, []) := by
  rw [call_eq (F := f_law_made) rfl rfl rfl]
  simp only [f_law_made, Pu.run, ev, evs, evi, evp, R.bind_ok', entry, endOf, getAll, permute_nil, permute_cons, fill, put, List.map_cons, List.map_nil, List.length_cons, List.length_nil, List.cons_append, List.nil_append, List.replicate_succ, List.replicate_zero, Nat.reduceAdd, Nat.reduceSub, List.getElem?_cons_zero, List.getElem?_cons_succ, List.getElem?_nil, List.set_cons_zero, List.set_cons_succ, Option.bind_some, Option.map_some, wipeE, backE, List.getD_cons_zero, List.getD_cons_succ, and_true, true_and, reduceIte, if_true, if_false, Option.getD_some, Option.getD_none, List.isEmpty_nil, List.isEmpty_cons, Bool.not_true, Bool.not_false, decide_eq_true_eq, gt_iff_lt, Int.reduceLT, Int.reduceLE, Int.reduceAdd, Int.reduceMul, Int.reduceSub, Nat.reduceLT, Nat.reduceLeDiff, Nat.reduceEqDiff, decide_true, decide_false, Bool.false_eq_true, Bool.true_or, Bool.or_true, Bool.and_true, Bool.true_and, Bool.false_and, Bool.and_false, Bool.false_or, Bool.or_false, D.noClo, D.noClos, beq_self_eq_true, tru_bl, tru_lst, Rof_some, Rneg_ok, seqD_l, seqD_t, itemsD_l, itemsD_t, itemsD_s, add_i, sub_i, mul_i, fdiv_i, mod_i, pow_i, add_s, add_l, add_t, eq_i, ne_i, eq_s, ne_s, eq_b, lt_i, gt_i, le_i, ge_i, le_s, gt_s, ge_s, lt_s, isn_n, isnt_n, isNone_n, isNone_i, isNone_s, isNone_t, isNone_l, isNone_b, isNone_o, inn_d, nin_d, idx_l, idx_t, idx_s, slc_l, slc_t, slc_s, len_l, len_t, len_s, abs_i, int_i, min2_i, max2_i, tuple_l, tuple_t, list_l, list_t, sorted_l, divmod_i, gcd_i, isi_b, isi_i, isi_s, isi_t, isi_l, isi_n, isi_o, isi_oc, isi_ic, isi_sc, isi_tc, atI_0, atI_1, atI_2, atI_3, atI_last, ixN_0, ixN_1, ixN_2, cut_hi, rng_n, asgT_nm, asgT_tp, asgT_tpl, ne_b, asgT_sub, asgTs_nil, asgTs_cons, bindN_nm, bindN_tp, bindNs_nil, bindNs_cons, sb_int_bool, sb_int_str, sb_int_tuple, sb_int_list, sb_int_NoneType, sb_bool_int, sb_bool_str, sb_bool_tuple, sb_bool_list, sb_bool_NoneType, sb_str_int, sb_str_bool, sb_str_tuple, sb_str_list, sb_str_NoneType, sb_tuple_int, sb_tuple_bool, sb_tuple_str, sb_tuple_list, sb_tuple_NoneType, sb_list_int, sb_list_bool, sb_list_str, sb_list_tuple, sb_list_NoneType, lim_0, lim_1, lim_2, lim_3, lim_4, lim_5, lim_6, lim_7, lim_8, lim_9, lim_10, lim_11, lim_12, Yld_ok, streetD, atI_0, atI_1, atI_2, new_ok h]
end K08

set_option Elab.async false
set_option linter.all false
set_option maxRecDepth 100000
set_option maxHeartbeats 4000000
set_option autoImplicit false
namespace K08
open PySem Pu
/-! ### streets, seatings are drawn -/
theorem slt_ne {a b : Str} (h : Slt a b) : a ≠ b := fun z => by
  subst z
  exact List.lt_irrefl _ h
theorem nth_slt {F : List Str} (hs : F.Pairwise Slt) {i j : Nat} (hij : i < j) (hj : j < F.length) : Slt (F.getD i "") (F.getD j "") := by
  have := List.pairwise_iff_getElem.mp hs i j (by omega) hj hij
  rw [List.getD_eq_getElem?_getD, List.getD_eq_getElem?_getD, List.getElem?_eq_getElem (by omega), List.getElem?_eq_getElem hj]
  exact this
theorem nth_inj {F : List Str} (hs : F.Pairwise Slt) {i j : Nat} (hi : i < F.length) (hj : j < F.length) (h : F.getD i "" = F.getD j "") : i = j := by
  rcases Nat.lt_trichotomy i j with z | z | z
  · exact absurd h (slt_ne (nth_slt hs z hj))
  · exact z
  · exact absurd h.symm (slt_ne (nth_slt hs z hi))
theorem nth_mem {F : List Str} {i : Nat} (hi : i < F.length) : F.getD i "" ∈ F := by
  rw [List.getD_eq_getElem?_getD, List.getElem?_eq_getElem hi]
  exact List.getElem_mem hi
theorem nth_get {F : List Str} {i : Nat} (hi : i < F.length) : (F.map dS)[i]? = some (dS (F.getD i "")) := by
  rw [List.getElem?_map, List.getD_eq_getElem?_getD, List.getElem?_eq_getElem hi]
  rfl
def prN (F : List Str) (p : Nat × Nat) : Str × Str := (F.getD p.1 "", F.getD p.2 "")
theorem ties_fin {F : List Str} (hs : F.Pairwise Slt) {n : Nat} (hn : F.length = n) {T : List (Nat × Nat)} (nd : T.Nodup) (h : ∀ p ∈ T, p.1 < p.2 ∧ p.2 < n) (hl : T.length < 1000) : (T.map (prN F)).Nodup ∧ ∀ L : List (Str × Str), L.Perm (T.map (prN F)) → (L.Pairwise fun a b => PySem.W.dataLt (pPr a) (pPr b) = true) → TiesOk F L := by
  refine ⟨?_, fun L hp hL => ⟨hL, fun t ht => ?_, by rw [hp.length_eq, List.length_map]; exact hl⟩⟩
  · rw [List.nodup_iff_pairwise_ne] at nd ⊢
    rw [List.pairwise_map]
    refine List.Pairwise.imp_of_mem (fun {p q} hp hq z e => z ?_) nd
    obtain ⟨p1, p2⟩ := h p hp
    obtain ⟨q1, q2⟩ := h q hq
    have e1 := congrArg Prod.fst e
    have e2 := congrArg Prod.snd e
    exact Prod.ext (nth_inj hs (by omega) (by omega) e1) (nth_inj hs (by omega) (by omega) e2)
  · obtain ⟨p, hp', rfl⟩ := List.mem_map.mp (hp.mem_iff.mp ht)
    obtain ⟨p1, p2⟩ := h p hp'
    exact ⟨nth_mem (by omega), nth_mem (by omega), nth_slt hs p1 (by omega)⟩
theorem street_ok {b : D} (hb : Bowl b) {m : Int} (h2 : 2 ≤ m) (h7 : m ≤ 7) (k : Nat) : ∃ (b' : D) (F : List Str) (T : List (Str × Str)) (w : D) (n : Nat), (calls P (k + 4)).call n_law_street [b, .int m] = .ok (streetD F T w, [b']) ∧ Bowl b' ∧ StOk F T w n ∧ (n : Int) ≤ m := by
  have key : Yld ((calls P (k + 4)).call n_law_street [b, .int m]) fun q => ∃ (b' : D) (F : List Str) (T : List (Str × Str)) (w : D) (n : Nat), q = (streetD F T w, [b']) ∧ Bowl b' ∧ StOk F T w n ∧ (n : Int) ≤ m := by
    obtain ⟨r, b1, e1, hr, hb1⟩ := draw_ok hb (m := m - 1) (by omega) (by omega) (k + 2)
    have ec : (2 : Int) + (r : Int) = ((2 + r : Nat) : Int) := by omega
    obtain ⟨b2, F, e2, hb2, hF, hs⟩ := names_ok hb1 (m := 2 + r) (by omega) k
    obtain ⟨x, hx, b3, e3, hb3⟩ := of_t hb2 (l := [.int 2, .int 3, .int 5]) (by decide) (by decide) (k + 1)
    obtain ⟨o, rfl⟩ : ∃ o : Int, x = .int o := by
      simp only [List.mem_cons, List.not_mem_nil, or_false] at hx
      rcases hx with rfl | rfl | rfl <;> exact ⟨_, rfl⟩
    have hn := hF.len
    have hrg : ∀ j : Nat, j ≤ 7 → rngD (.int 0) (.int (j : Int)) = .ok ((List.range j).map fun (k : Nat) => .int (k : Int)) := fun j hj => rng_n (by rw [lim]; omega)
    rw [call_eq (F := f_law_street) rfl rfl rfl]
    simp only [f_law_street, Pu.run, ev, evs, evi, evp, R.bind_ok', entry, endOf, getAll, permute_nil, permute_cons, fill, put, List.map_cons, List.map_nil, List.length_cons, List.length_nil, List.cons_append, List.nil_append, List.replicate_succ, List.replicate_zero, Nat.reduceAdd, Nat.reduceSub, List.getElem?_cons_zero, List.getElem?_cons_succ, List.getElem?_nil, List.set_cons_zero, List.set_cons_succ, Option.bind_some, Option.map_some, wipeE, backE, List.getD_cons_zero, List.getD_cons_succ, and_true, true_and, reduceIte, if_true, if_false, Option.getD_some, Option.getD_none, List.isEmpty_nil, List.isEmpty_cons, Bool.not_true, Bool.not_false, decide_eq_true_eq, gt_iff_lt, Int.reduceLT, Int.reduceLE, Int.reduceAdd, Int.reduceMul, Int.reduceSub, Nat.reduceLT, Nat.reduceLeDiff, Nat.reduceEqDiff, decide_true, decide_false, Bool.false_eq_true, Bool.true_or, Bool.or_true, Bool.and_true, Bool.true_and, Bool.false_and, Bool.and_false, Bool.false_or, Bool.or_false, D.noClo, D.noClos, beq_self_eq_true, tru_bl, tru_lst, Rof_some, Rneg_ok, seqD_l, seqD_t, itemsD_l, itemsD_t, itemsD_s, add_i, sub_i, mul_i, fdiv_i, mod_i, pow_i, add_s, add_l, add_t, eq_i, ne_i, eq_s, ne_s, eq_b, lt_i, gt_i, le_i, ge_i, le_s, gt_s, ge_s, lt_s, isn_n, isnt_n, isNone_n, isNone_i, isNone_s, isNone_t, isNone_l, isNone_b, isNone_o, inn_d, nin_d, idx_l, idx_t, idx_s, slc_l, slc_t, slc_s, len_l, len_t, len_s, abs_i, int_i, min2_i, max2_i, tuple_l, tuple_t, list_l, list_t, sorted_l, divmod_i, gcd_i, isi_b, isi_i, isi_s, isi_t, isi_l, isi_n, isi_o, isi_oc, isi_ic, isi_sc, isi_tc, atI_0, atI_1, atI_2, atI_3, atI_last, ixN_0, ixN_1, ixN_2, cut_hi, rng_n, asgT_nm, asgT_tp, asgT_tpl, ne_b, asgT_sub, asgTs_nil, asgTs_cons, bindN_nm, bindN_tp, bindNs_nil, bindNs_cons, sb_int_bool, sb_int_str, sb_int_tuple, sb_int_list, sb_int_NoneType, sb_bool_int, sb_bool_str, sb_bool_tuple, sb_bool_list, sb_bool_NoneType, sb_str_int, sb_str_bool, sb_str_tuple, sb_str_list, sb_str_NoneType, sb_tuple_int, sb_tuple_bool, sb_tuple_str, sb_tuple_list, sb_tuple_NoneType, sb_list_int, sb_list_bool, sb_list_str, sb_list_tuple, sb_list_NoneType, lim_0, lim_1, lim_2, lim_3, lim_4, lim_5, lim_6, lim_7, lim_8, lim_9, lim_10, lim_11, lim_12, Yld_ok, e1, ec, e2, e3, List.length_map, hrg F.length (by omega)]
    try simp only [R.bind_bind]
    refine Yld.bind (P := fun f => ∃ (b' : D) (T : List (Nat × Nat)) (s5 : Option D), f = .nx [some b', some (.int m), some (.tup (F.map dS)), some (.int o), some (.lst (T.map fun p => dPr (prN F p))), s5, none] ∧ Bowl b' ∧ T.Nodup ∧ (∀ p ∈ T, p.1 < p.2 ∧ p.2 < F.length) ∧ T.length < 1000) ?loop ?rest
    case rest =>
      rintro f ⟨b4, T, s5, rfl, hb4, nd, hT, hl⟩
      obtain ⟨g1, g2⟩ := ties_fin hs rfl nd hT hl
      obtain ⟨L, q1, q2, q3⟩ := sort_p g1
      have q1 : sortD (T.map fun p => dPr (prN F p)) = .ok (L.map dPr) := by
        rw [← q1, List.map_map]
        rfl
      obtain ⟨w, hw, b5, e5, hb5⟩ := of_t hb4 (l := wants) (by decide) (by decide) (k + 1)
      simp only [wants] at e5
      simp only [Pu.run, ev, evs, evi, evp, R.bind_ok', entry, endOf, getAll, permute_nil, permute_cons, fill, put, List.map_cons, List.map_nil, List.length_cons, List.length_nil, List.cons_append, List.nil_append, List.replicate_succ, List.replicate_zero, Nat.reduceAdd, Nat.reduceSub, List.getElem?_cons_zero, List.getElem?_cons_succ, List.getElem?_nil, List.set_cons_zero, List.set_cons_succ, Option.bind_some, Option.map_some, wipeE, backE, List.getD_cons_zero, List.getD_cons_succ, and_true, true_and, reduceIte, if_true, if_false, Option.getD_some, Option.getD_none, List.isEmpty_nil, List.isEmpty_cons, Bool.not_true, Bool.not_false, decide_eq_true_eq, gt_iff_lt, Int.reduceLT, Int.reduceLE, Int.reduceAdd, Int.reduceMul, Int.reduceSub, Nat.reduceLT, Nat.reduceLeDiff, Nat.reduceEqDiff, decide_true, decide_false, Bool.false_eq_true, Bool.true_or, Bool.or_true, Bool.and_true, Bool.true_and, Bool.false_and, Bool.and_false, Bool.false_or, Bool.or_false, D.noClo, D.noClos, beq_self_eq_true, tru_bl, tru_lst, Rof_some, Rneg_ok, seqD_l, seqD_t, itemsD_l, itemsD_t, itemsD_s, add_i, sub_i, mul_i, fdiv_i, mod_i, pow_i, add_s, add_l, add_t, eq_i, ne_i, eq_s, ne_s, eq_b, lt_i, gt_i, le_i, ge_i, le_s, gt_s, ge_s, lt_s, isn_n, isnt_n, isNone_n, isNone_i, isNone_s, isNone_t, isNone_l, isNone_b, isNone_o, inn_d, nin_d, idx_l, idx_t, idx_s, slc_l, slc_t, slc_s, len_l, len_t, len_s, abs_i, int_i, min2_i, max2_i, tuple_l, tuple_t, list_l, list_t, sorted_l, divmod_i, gcd_i, isi_b, isi_i, isi_s, isi_t, isi_l, isi_n, isi_o, isi_oc, isi_ic, isi_sc, isi_tc, atI_0, atI_1, atI_2, atI_3, atI_last, ixN_0, ixN_1, ixN_2, cut_hi, rng_n, asgT_nm, asgT_tp, asgT_tpl, ne_b, asgT_sub, asgTs_nil, asgTs_cons, bindN_nm, bindN_tp, bindNs_nil, bindNs_cons, sb_int_bool, sb_int_str, sb_int_tuple, sb_int_list, sb_int_NoneType, sb_bool_int, sb_bool_str, sb_bool_tuple, sb_bool_list, sb_bool_NoneType, sb_str_int, sb_str_bool, sb_str_tuple, sb_str_list, sb_str_NoneType, sb_tuple_int, sb_tuple_bool, sb_tuple_str, sb_tuple_list, sb_tuple_NoneType, sb_list_int, sb_list_bool, sb_list_str, sb_list_tuple, sb_list_NoneType, lim_0, lim_1, lim_2, lim_3, lim_4, lim_5, lim_6, lim_7, lim_8, lim_9, lim_10, lim_11, lim_12, Yld_ok, q1, e5]
      exact ⟨b5, F, L, w, 2 + r, rfl, hb5, ⟨hF.w, by omega, by omega, hs, g2 L q2 q3, wants_ok w hw⟩, by omega⟩
    case loop =>
      refine for_inv (fun ds ρ => ∃ (b' : D) (T : List (Nat × Nat)) (s5 : Option D) (j : Nat), ds = (List.range' j (F.length - j)).map (fun (k : Nat) => .int (k : Int)) ∧ j ≤ F.length ∧ ρ = [some b', some (.int m), some (.tup (F.map dS)), some (.int o), some (.lst (T.map fun p => dPr (prN F p))), s5, none] ∧ Bowl b' ∧ T.Nodup ∧ (∀ p ∈ T, p.1 < p.2 ∧ p.2 < j) ∧ T.length ≤ 7 * j) _ ?h0 ?h1 ?h2
      case h0 => exact ⟨b3, [], none, 0, by rw [List.range_eq_range', Nat.sub_zero], by omega, rfl, hb3, List.nodup_nil, fun p hp => (nomatch hp), by simp⟩
      case h1 =>
        rintro ρ ⟨b4, T, s5, j, hd, hj, rfl, hb4, nd, hT, hl⟩
        exact ⟨b4, T, s5, rfl, hb4, nd, fun p hp => ⟨(hT p hp).1, by have := (hT p hp).2; omega⟩, by omega⟩
      case h2 =>
        rintro d ds ρ ⟨b4, T, s5, j, hd, hj, rfl, hb4, nd, hT, hl⟩
        have hj2 : j < F.length := by
          rcases Nat.lt_or_ge j F.length with z | z
          · exact z
          · rw [show F.length - j = 0 by omega] at hd
            cases hd
        rw [show F.length - j = (F.length - (j + 1)) + 1 by omega, List.range'_succ, List.map_cons] at hd
        obtain ⟨rfl, rfl⟩ := List.cons.inj hd
        simp only [Pu.run, ev, evs, evi, evp, R.bind_ok', entry, endOf, getAll, permute_nil, permute_cons, fill, put, List.map_cons, List.map_nil, List.length_cons, List.length_nil, List.cons_append, List.nil_append, List.replicate_succ, List.replicate_zero, Nat.reduceAdd, Nat.reduceSub, List.getElem?_cons_zero, List.getElem?_cons_succ, List.getElem?_nil, List.set_cons_zero, List.set_cons_succ, Option.bind_some, Option.map_some, wipeE, backE, List.getD_cons_zero, List.getD_cons_succ, and_true, true_and, reduceIte, if_true, if_false, Option.getD_some, Option.getD_none, List.isEmpty_nil, List.isEmpty_cons, Bool.not_true, Bool.not_false, decide_eq_true_eq, gt_iff_lt, Int.reduceLT, Int.reduceLE, Int.reduceAdd, Int.reduceMul, Int.reduceSub, Nat.reduceLT, Nat.reduceLeDiff, Nat.reduceEqDiff, decide_true, decide_false, Bool.false_eq_true, Bool.true_or, Bool.or_true, Bool.and_true, Bool.true_and, Bool.false_and, Bool.and_false, Bool.false_or, Bool.or_false, D.noClo, D.noClos, beq_self_eq_true, tru_bl, tru_lst, Rof_some, Rneg_ok, seqD_l, seqD_t, itemsD_l, itemsD_t, itemsD_s, add_i, sub_i, mul_i, fdiv_i, mod_i, pow_i, add_s, add_l, add_t, eq_i, ne_i, eq_s, ne_s, eq_b, lt_i, gt_i, le_i, ge_i, le_s, gt_s, ge_s, lt_s, isn_n, isnt_n, isNone_n, isNone_i, isNone_s, isNone_t, isNone_l, isNone_b, isNone_o, inn_d, nin_d, idx_l, idx_t, idx_s, slc_l, slc_t, slc_s, len_l, len_t, len_s, abs_i, int_i, min2_i, max2_i, tuple_l, tuple_t, list_l, list_t, sorted_l, divmod_i, gcd_i, isi_b, isi_i, isi_s, isi_t, isi_l, isi_n, isi_o, isi_oc, isi_ic, isi_sc, isi_tc, atI_0, atI_1, atI_2, atI_3, atI_last, ixN_0, ixN_1, ixN_2, cut_hi, rng_n, asgT_nm, asgT_tp, asgT_tpl, ne_b, asgT_sub, asgTs_nil, asgTs_cons, bindN_nm, bindN_tp, bindNs_nil, bindNs_cons, sb_int_bool, sb_int_str, sb_int_tuple, sb_int_list, sb_int_NoneType, sb_bool_int, sb_bool_str, sb_bool_tuple, sb_bool_list, sb_bool_NoneType, sb_str_int, sb_str_bool, sb_str_tuple, sb_str_list, sb_str_NoneType, sb_tuple_int, sb_tuple_bool, sb_tuple_str, sb_tuple_list, sb_tuple_NoneType, sb_list_int, sb_list_bool, sb_list_str, sb_list_tuple, sb_list_NoneType, lim_0, lim_1, lim_2, lim_3, lim_4, lim_5, lim_6, lim_7, lim_8, lim_9, lim_10, lim_11, lim_12, Yld_ok, hrg j (by omega)]
        try simp only [R.bind_bind]
        refine Yld.bind (lc_sub (fun ρ => ∃ b', Bowl b' ∧ ρ = [some b', some (.int m), some (.tup (F.map dS)), some (.int o), some (.lst (T.map fun p => dPr (prN F p))), some (.int (j : Int)), none]) (fun (k : Nat) => .int (k : Int)) (fun a => dPr (prN F (a, j))) ⟨b4, hb4, rfl⟩ ?turn) ?after
        case turn =>
          rintro a ha ρ ⟨b5, hb5, rfl⟩
          have ha2 : a < j := List.mem_range.mp ha
          obtain ⟨r6, b6, e6, h6, hb6⟩ := draw_ok hb5 (m := 6) (by decide) (by decide) (k + 2)
          by_cases ho : (r6 : Int) < o
          · simp only [Pu.run, ev, evs, evi, evp, R.bind_ok', entry, endOf, getAll, permute_nil, permute_cons, fill, put, List.map_cons, List.map_nil, List.length_cons, List.length_nil, List.cons_append, List.nil_append, List.replicate_succ, List.replicate_zero, Nat.reduceAdd, Nat.reduceSub, List.getElem?_cons_zero, List.getElem?_cons_succ, List.getElem?_nil, List.set_cons_zero, List.set_cons_succ, Option.bind_some, Option.map_some, wipeE, backE, List.getD_cons_zero, List.getD_cons_succ, and_true, true_and, reduceIte, if_true, if_false, Option.getD_some, Option.getD_none, List.isEmpty_nil, List.isEmpty_cons, Bool.not_true, Bool.not_false, decide_eq_true_eq, gt_iff_lt, Int.reduceLT, Int.reduceLE, Int.reduceAdd, Int.reduceMul, Int.reduceSub, Nat.reduceLT, Nat.reduceLeDiff, Nat.reduceEqDiff, decide_true, decide_false, Bool.false_eq_true, Bool.true_or, Bool.or_true, Bool.and_true, Bool.true_and, Bool.false_and, Bool.and_false, Bool.false_or, Bool.or_false, D.noClo, D.noClos, beq_self_eq_true, tru_bl, tru_lst, Rof_some, Rneg_ok, seqD_l, seqD_t, itemsD_l, itemsD_t, itemsD_s, add_i, sub_i, mul_i, fdiv_i, mod_i, pow_i, add_s, add_l, add_t, eq_i, ne_i, eq_s, ne_s, eq_b, lt_i, gt_i, le_i, ge_i, le_s, gt_s, ge_s, lt_s, isn_n, isnt_n, isNone_n, isNone_i, isNone_s, isNone_t, isNone_l, isNone_b, isNone_o, inn_d, nin_d, idx_l, idx_t, idx_s, slc_l, slc_t, slc_s, len_l, len_t, len_s, abs_i, int_i, min2_i, max2_i, tuple_l, tuple_t, list_l, list_t, sorted_l, divmod_i, gcd_i, isi_b, isi_i, isi_s, isi_t, isi_l, isi_n, isi_o, isi_oc, isi_ic, isi_sc, isi_tc, atI_0, atI_1, atI_2, atI_3, atI_last, ixN_0, ixN_1, ixN_2, cut_hi, rng_n, asgT_nm, asgT_tp, asgT_tpl, ne_b, asgT_sub, asgTs_nil, asgTs_cons, bindN_nm, bindN_tp, bindNs_nil, bindNs_cons, sb_int_bool, sb_int_str, sb_int_tuple, sb_int_list, sb_int_NoneType, sb_bool_int, sb_bool_str, sb_bool_tuple, sb_bool_list, sb_bool_NoneType, sb_str_int, sb_str_bool, sb_str_tuple, sb_str_list, sb_str_NoneType, sb_tuple_int, sb_tuple_bool, sb_tuple_str, sb_tuple_list, sb_tuple_NoneType, sb_list_int, sb_list_bool, sb_list_str, sb_list_tuple, sb_list_NoneType, lim_0, lim_1, lim_2, lim_3, lim_4, lim_5, lim_6, lim_7, lim_8, lim_9, lim_10, lim_11, lim_12, Yld_ok, e6, decide_eq_true ho, atI_nat, nth_get hj2, nth_get (show a < F.length by omega)]
            exact ⟨.inr rfl, b6, hb6, rfl⟩
          · simp only [Pu.run, ev, evs, evi, evp, R.bind_ok', entry, endOf, getAll, permute_nil, permute_cons, fill, put, List.map_cons, List.map_nil, List.length_cons, List.length_nil, List.cons_append, List.nil_append, List.replicate_succ, List.replicate_zero, Nat.reduceAdd, Nat.reduceSub, List.getElem?_cons_zero, List.getElem?_cons_succ, List.getElem?_nil, List.set_cons_zero, List.set_cons_succ, Option.bind_some, Option.map_some, wipeE, backE, List.getD_cons_zero, List.getD_cons_succ, and_true, true_and, reduceIte, if_true, if_false, Option.getD_some, Option.getD_none, List.isEmpty_nil, List.isEmpty_cons, Bool.not_true, Bool.not_false, decide_eq_true_eq, gt_iff_lt, Int.reduceLT, Int.reduceLE, Int.reduceAdd, Int.reduceMul, Int.reduceSub, Nat.reduceLT, Nat.reduceLeDiff, Nat.reduceEqDiff, decide_true, decide_false, Bool.false_eq_true, Bool.true_or, Bool.or_true, Bool.and_true, Bool.true_and, Bool.false_and, Bool.and_false, Bool.false_or, Bool.or_false, D.noClo, D.noClos, beq_self_eq_true, tru_bl, tru_lst, Rof_some, Rneg_ok, seqD_l, seqD_t, itemsD_l, itemsD_t, itemsD_s, add_i, sub_i, mul_i, fdiv_i, mod_i, pow_i, add_s, add_l, add_t, eq_i, ne_i, eq_s, ne_s, eq_b, lt_i, gt_i, le_i, ge_i, le_s, gt_s, ge_s, lt_s, isn_n, isnt_n, isNone_n, isNone_i, isNone_s, isNone_t, isNone_l, isNone_b, isNone_o, inn_d, nin_d, idx_l, idx_t, idx_s, slc_l, slc_t, slc_s, len_l, len_t, len_s, abs_i, int_i, min2_i, max2_i, tuple_l, tuple_t, list_l, list_t, sorted_l, divmod_i, gcd_i, isi_b, isi_i, isi_s, isi_t, isi_l, isi_n, isi_o, isi_oc, isi_ic, isi_sc, isi_tc, atI_0, atI_1, atI_2, atI_3, atI_last, ixN_0, ixN_1, ixN_2, cut_hi, rng_n, asgT_nm, asgT_tp, asgT_tpl, ne_b, asgT_sub, asgTs_nil, asgTs_cons, bindN_nm, bindN_tp, bindNs_nil, bindNs_cons, sb_int_bool, sb_int_str, sb_int_tuple, sb_int_list, sb_int_NoneType, sb_bool_int, sb_bool_str, sb_bool_tuple, sb_bool_list, sb_bool_NoneType, sb_str_int, sb_str_bool, sb_str_tuple, sb_str_list, sb_str_NoneType, sb_tuple_int, sb_tuple_bool, sb_tuple_str, sb_tuple_list, sb_tuple_NoneType, sb_list_int, sb_list_bool, sb_list_str, sb_list_tuple, sb_list_NoneType, lim_0, lim_1, lim_2, lim_3, lim_4, lim_5, lim_6, lim_7, lim_8, lim_9, lim_10, lim_11, lim_12, Yld_ok, e6, decide_eq_false ho]
            exact ⟨.inl (by trivial), b6, hb6, rfl⟩
        case after =>
          rintro ⟨q, ρ⟩ ⟨l', hl', hq, b5, hb5, hρ⟩
          simp only at hq hρ
          subst hq hρ
          have l1 : l'.length ≤ j := by
            have := hl'.length_le
            rw [List.length_range] at this
            exact this
          have hlen : (T.map fun p => dPr (prN F p)).length + (l'.map fun a => dPr (prN F (a, j))).length ≤ lim := by
            rw [List.length_map, List.length_map, lim]
            omega
          simp only [Pu.run, ev, evs, evi, evp, R.bind_ok', entry, endOf, getAll, permute_nil, permute_cons, fill, put, List.map_cons, List.map_nil, List.length_cons, List.length_nil, List.cons_append, List.nil_append, List.replicate_succ, List.replicate_zero, Nat.reduceAdd, Nat.reduceSub, List.getElem?_cons_zero, List.getElem?_cons_succ, List.getElem?_nil, List.set_cons_zero, List.set_cons_succ, Option.bind_some, Option.map_some, wipeE, backE, List.getD_cons_zero, List.getD_cons_succ, and_true, true_and, reduceIte, if_true, if_false, Option.getD_some, Option.getD_none, List.isEmpty_nil, List.isEmpty_cons, Bool.not_true, Bool.not_false, decide_eq_true_eq, gt_iff_lt, Int.reduceLT, Int.reduceLE, Int.reduceAdd, Int.reduceMul, Int.reduceSub, Nat.reduceLT, Nat.reduceLeDiff, Nat.reduceEqDiff, decide_true, decide_false, Bool.false_eq_true, Bool.true_or, Bool.or_true, Bool.and_true, Bool.true_and, Bool.false_and, Bool.and_false, Bool.false_or, Bool.or_false, D.noClo, D.noClos, beq_self_eq_true, tru_bl, tru_lst, Rof_some, Rneg_ok, seqD_l, seqD_t, itemsD_l, itemsD_t, itemsD_s, add_i, sub_i, mul_i, fdiv_i, mod_i, pow_i, add_s, add_l, add_t, eq_i, ne_i, eq_s, ne_s, eq_b, lt_i, gt_i, le_i, ge_i, le_s, gt_s, ge_s, lt_s, isn_n, isnt_n, isNone_n, isNone_i, isNone_s, isNone_t, isNone_l, isNone_b, isNone_o, inn_d, nin_d, idx_l, idx_t, idx_s, slc_l, slc_t, slc_s, len_l, len_t, len_s, abs_i, int_i, min2_i, max2_i, tuple_l, tuple_t, list_l, list_t, sorted_l, divmod_i, gcd_i, isi_b, isi_i, isi_s, isi_t, isi_l, isi_n, isi_o, isi_oc, isi_ic, isi_sc, isi_tc, atI_0, atI_1, atI_2, atI_3, atI_last, ixN_0, ixN_1, ixN_2, cut_hi, rng_n, asgT_nm, asgT_tp, asgT_tpl, ne_b, asgT_sub, asgTs_nil, asgTs_cons, bindN_nm, bindN_tp, bindNs_nil, bindNs_cons, sb_int_bool, sb_int_str, sb_int_tuple, sb_int_list, sb_int_NoneType, sb_bool_int, sb_bool_str, sb_bool_tuple, sb_bool_list, sb_bool_NoneType, sb_str_int, sb_str_bool, sb_str_tuple, sb_str_list, sb_str_NoneType, sb_tuple_int, sb_tuple_bool, sb_tuple_str, sb_tuple_list, sb_tuple_NoneType, sb_list_int, sb_list_bool, sb_list_str, sb_list_tuple, sb_list_NoneType, lim_0, lim_1, lim_2, lim_3, lim_4, lim_5, lim_6, lim_7, lim_8, lim_9, lim_10, lim_11, lim_12, Yld_ok, hlen]
          refine .inl ⟨_, rfl, b5, T ++ l'.map fun a => (a, j), _, j + 1, rfl, by omega, by rw [List.map_append, List.map_map]; rfl, hb5, ?_, ?_, ?_⟩
          · rw [List.nodup_append]
            refine ⟨nd, ?_, fun p hp q hq => ?_⟩
            · rw [List.nodup_iff_pairwise_ne, List.pairwise_map]
              have := hl'.nodup List.nodup_range
              rw [List.nodup_iff_pairwise_ne] at this
              exact this.imp fun z e => z (congrArg Prod.fst e)
            · obtain ⟨a, _, rfl⟩ := List.mem_map.mp hq
              intro e
              have := (hT p hp).2
              rw [e] at this
              exact absurd this (by simp)
          · intro p hp
            rcases List.mem_append.mp hp with hp | hp
            · have := hT p hp
              exact ⟨this.1, by omega⟩
            · obtain ⟨a, ha, rfl⟩ := List.mem_map.mp hp
              have := List.mem_range.mp (hl'.subset ha)
              exact ⟨this, by simp⟩
          · rw [List.length_append, List.length_map]
            omega
  obtain ⟨q, e, b', F, T, w, n, rfl, h⟩ := key
  exact ⟨b', F, T, w, n, e, h⟩
end K08

set_option Elab.async false
set_option linter.all false
set_option maxRecDepth 100000
set_option maxHeartbeats 4000000
set_option autoImplicit false
namespace K08
open PySem Pu
/-! ### seatings -/
def kinds4 : List Str := ["a", "b", "c", "-"]
structure SeatOk (S : List Str) (n : Nat) : Prop where
  len : S.length = n
  kd : ∀ x ∈ S, x ∈ kinds4
  ex : ∃ x ∈ S, x ≠ "-"
theorem strs_of {kinds : List Str} : ∀ {l : List D}, (∀ x ∈ l, ∃ s ∈ kinds, x = dS s) → ∃ S : List Str, l = S.map dS ∧ ∀ s ∈ S, s ∈ kinds
  | [], _ => ⟨[], rfl, fun s hs => (nomatch hs)⟩
  | x :: l, h => by
    obtain ⟨S, e, hS⟩ := strs_of fun y hy => h y (List.mem_cons_of_mem _ hy)
    obtain ⟨s, hs, rfl⟩ := h x List.mem_cons_self
    refine ⟨s :: S, by rw [e, List.map_cons], fun t ht => ?_⟩
    rcases List.mem_cons.mp ht with rfl | ht
    · exact hs
    · exact hS t ht
theorem kd_of : ∀ s ∈ (["ab", "abc"] : List Str), 0 < s.length ∧ s.length < 1000 ∧ ∀ c ∈ s.cps.toList, ch c ∈ kinds4 := by decide +kernel
/-! ### the bowl, the law -/
theorem bowl_ok (ns : List Int) (lap : Nat) (k : Nat) : ∃ b, (calls P (k + 1)).call n_law_bowl [.lst (ns.map D.int), .int (lap : Int)] = .ok (b, []) ∧ Bowl b := by
  have key : Yld ((calls P (k + 1)).call n_law_bowl [.lst (ns.map D.int), .int (lap : Int)]) fun q => ∃ b, q = (b, []) ∧ Bowl b := by
    rw [call_eq (F := f_law_bowl) rfl rfl rfl]
    have q1 : ∀ i : Int, mulOk i 48611 = true := fun i => mulOk_r (by decide) (by decide)
    have q2 : ∀ i : Int, mulOk i 19 = true := fun i => mulOk_r (by decide) (by decide)
    have q3 : ∀ i : Int, mulOk 8819 i = true := fun i => mulOk_l (by decide) (by decide)
    have q4 : ∀ i : Int, mulOk i 53 = true := fun i => mulOk_r (by decide) (by decide)
    have q5 : ∀ i : Int, mulOk i 27011 = true := fun i => mulOk_r (by decide) (by decide)
    have q6 : (0 : Int) ≤ 16 ∧ (16 : Int) ≤ 1000000 ∧ (10 : Int).natAbs < 2 ^ 64 := by decide
    have hc : slcD (.lst (ns.map D.int)) none (some 9) = .ok (.lst ((ns.take 9).map D.int)) := by
      rw [slc_l, show (some 9 : Option Int) = some ((9 : Nat) : Int) from rfl, cut_hi, List.map_take]
    simp only [f_law_bowl, Pu.run, ev, evs, evi, evp, R.bind_ok', entry, endOf, getAll, permute_nil, permute_cons, fill, put, List.map_cons, List.map_nil, List.length_cons, List.length_nil, List.cons_append, List.nil_append, List.replicate_succ, List.replicate_zero, Nat.reduceAdd, Nat.reduceSub, List.getElem?_cons_zero, List.getElem?_cons_succ, List.getElem?_nil, List.set_cons_zero, List.set_cons_succ, Option.bind_some, Option.map_some, wipeE, backE, List.getD_cons_zero, List.getD_cons_succ, and_true, true_and, reduceIte, if_true, if_false, Option.getD_some, Option.getD_none, List.isEmpty_nil, List.isEmpty_cons, Bool.not_true, Bool.not_false, decide_eq_true_eq, gt_iff_lt, Int.reduceLT, Int.reduceLE, Int.reduceAdd, Int.reduceMul, Int.reduceSub, Nat.reduceLT, Nat.reduceLeDiff, Nat.reduceEqDiff, decide_true, decide_false, Bool.false_eq_true, Bool.true_or, Bool.or_true, Bool.and_true, Bool.true_and, Bool.false_and, Bool.and_false, Bool.false_or, Bool.or_false, D.noClo, D.noClos, beq_self_eq_true, tru_bl, tru_lst, Rof_some, Rneg_ok, seqD_l, seqD_t, itemsD_l, itemsD_t, itemsD_s, add_i, sub_i, mul_i, fdiv_i, mod_i, pow_i, add_s, add_l, add_t, eq_i, ne_i, eq_s, ne_s, eq_b, lt_i, gt_i, le_i, ge_i, le_s, gt_s, ge_s, lt_s, isn_n, isnt_n, isNone_n, isNone_i, isNone_s, isNone_t, isNone_l, isNone_b, isNone_o, inn_d, nin_d, idx_l, idx_t, idx_s, slc_l, slc_t, slc_s, len_l, len_t, len_s, abs_i, int_i, min2_i, max2_i, tuple_l, tuple_t, list_l, list_t, sorted_l, divmod_i, gcd_i, isi_b, isi_i, isi_s, isi_t, isi_l, isi_n, isi_o, isi_oc, isi_ic, isi_sc, isi_tc, atI_0, atI_1, atI_2, atI_3, atI_last, ixN_0, ixN_1, ixN_2, cut_hi, rng_n, asgT_nm, asgT_tp, asgT_tpl, ne_b, asgT_sub, asgTs_nil, asgTs_cons, bindN_nm, bindN_tp, bindNs_nil, bindNs_cons, sb_int_bool, sb_int_str, sb_int_tuple, sb_int_list, sb_int_NoneType, sb_bool_int, sb_bool_str, sb_bool_tuple, sb_bool_list, sb_bool_NoneType, sb_str_int, sb_str_bool, sb_str_tuple, sb_str_list, sb_str_NoneType, sb_tuple_int, sb_tuple_bool, sb_tuple_str, sb_tuple_list, sb_tuple_NoneType, sb_list_int, sb_list_bool, sb_list_str, sb_list_tuple, sb_list_NoneType, lim_0, lim_1, lim_2, lim_3, lim_4, lim_5, lim_6, lim_7, lim_8, lim_9, lim_10, lim_11, lim_12, Yld_ok, q3, hc]
    try simp only [R.bind_bind]
    refine Yld.bind (P := fun f => ∃ (i : Int) (s3 : Option D), f = .nx [some (.lst (ns.map D.int)), some (.int (lap : Int)), some (.int i), s3, none]) ?loop ?rest
    case loop =>
      refine for_inv (fun ds ρ => ∃ (i : Int) (s3 : Option D), (∀ d ∈ ds, ∃ j : Int, d = .int j) ∧ ρ = [some (.lst (ns.map D.int)), some (.int (lap : Int)), some (.int i), s3, none]) _ ⟨_, none, fun d hd => ?_, rfl⟩ ?_ ?_
      · obtain ⟨j, _, rfl⟩ := List.mem_map.mp hd
        exact ⟨j, rfl⟩
      · rintro ρ ⟨i, s3, _, rfl⟩
        exact ⟨i, s3, rfl⟩
      · rintro d ds ρ ⟨i, s3, hd, rfl⟩
        obtain ⟨j, rfl⟩ := hd d List.mem_cons_self
        simp only [Pu.run, ev, evs, evi, evp, R.bind_ok', entry, endOf, getAll, permute_nil, permute_cons, fill, put, List.map_cons, List.map_nil, List.length_cons, List.length_nil, List.cons_append, List.nil_append, List.replicate_succ, List.replicate_zero, Nat.reduceAdd, Nat.reduceSub, List.getElem?_cons_zero, List.getElem?_cons_succ, List.getElem?_nil, List.set_cons_zero, List.set_cons_succ, Option.bind_some, Option.map_some, wipeE, backE, List.getD_cons_zero, List.getD_cons_succ, and_true, true_and, reduceIte, if_true, if_false, Option.getD_some, Option.getD_none, List.isEmpty_nil, List.isEmpty_cons, Bool.not_true, Bool.not_false, decide_eq_true_eq, gt_iff_lt, Int.reduceLT, Int.reduceLE, Int.reduceAdd, Int.reduceMul, Int.reduceSub, Nat.reduceLT, Nat.reduceLeDiff, Nat.reduceEqDiff, decide_true, decide_false, Bool.false_eq_true, Bool.true_or, Bool.or_true, Bool.and_true, Bool.true_and, Bool.false_and, Bool.and_false, Bool.false_or, Bool.or_false, D.noClo, D.noClos, beq_self_eq_true, tru_bl, tru_lst, Rof_some, Rneg_ok, seqD_l, seqD_t, itemsD_l, itemsD_t, itemsD_s, add_i, sub_i, mul_i, fdiv_i, mod_i, pow_i, add_s, add_l, add_t, eq_i, ne_i, eq_s, ne_s, eq_b, lt_i, gt_i, le_i, ge_i, le_s, gt_s, ge_s, lt_s, isn_n, isnt_n, isNone_n, isNone_i, isNone_s, isNone_t, isNone_l, isNone_b, isNone_o, inn_d, nin_d, idx_l, idx_t, idx_s, slc_l, slc_t, slc_s, len_l, len_t, len_s, abs_i, int_i, min2_i, max2_i, tuple_l, tuple_t, list_l, list_t, sorted_l, divmod_i, gcd_i, isi_b, isi_i, isi_s, isi_t, isi_l, isi_n, isi_o, isi_oc, isi_ic, isi_sc, isi_tc, atI_0, atI_1, atI_2, atI_3, atI_last, ixN_0, ixN_1, ixN_2, cut_hi, rng_n, asgT_nm, asgT_tp, asgT_tpl, ne_b, asgT_sub, asgTs_nil, asgTs_cons, bindN_nm, bindN_tp, bindNs_nil, bindNs_cons, sb_int_bool, sb_int_str, sb_int_tuple, sb_int_list, sb_int_NoneType, sb_bool_int, sb_bool_str, sb_bool_tuple, sb_bool_list, sb_bool_NoneType, sb_str_int, sb_str_bool, sb_str_tuple, sb_str_list, sb_str_NoneType, sb_tuple_int, sb_tuple_bool, sb_tuple_str, sb_tuple_list, sb_tuple_NoneType, sb_list_int, sb_list_bool, sb_list_str, sb_list_tuple, sb_list_NoneType, lim_0, lim_1, lim_2, lim_3, lim_4, lim_5, lim_6, lim_7, lim_8, lim_9, lim_10, lim_11, lim_12, Yld_ok, q1, q2]
        exact .inl ⟨_, rfl, _, _, fun d hd' => hd d (List.mem_cons_of_mem _ hd'), rfl⟩
    case rest =>
      rintro f ⟨i, s3, rfl⟩
      by_cases hl : lap < ns.length
      · have hl' : (lap : Int) < (ns.length : Int) := by omega
        simp only [Pu.run, ev, evs, evi, evp, R.bind_ok', entry, endOf, getAll, permute_nil, permute_cons, fill, put, List.map_cons, List.map_nil, List.length_cons, List.length_nil, List.cons_append, List.nil_append, List.replicate_succ, List.replicate_zero, Nat.reduceAdd, Nat.reduceSub, List.getElem?_cons_zero, List.getElem?_cons_succ, List.getElem?_nil, List.set_cons_zero, List.set_cons_succ, Option.bind_some, Option.map_some, wipeE, backE, List.getD_cons_zero, List.getD_cons_succ, and_true, true_and, reduceIte, if_true, if_false, Option.getD_some, Option.getD_none, List.isEmpty_nil, List.isEmpty_cons, Bool.not_true, Bool.not_false, decide_eq_true_eq, gt_iff_lt, Int.reduceLT, Int.reduceLE, Int.reduceAdd, Int.reduceMul, Int.reduceSub, Nat.reduceLT, Nat.reduceLeDiff, Nat.reduceEqDiff, decide_true, decide_false, Bool.false_eq_true, Bool.true_or, Bool.or_true, Bool.and_true, Bool.true_and, Bool.false_and, Bool.and_false, Bool.false_or, Bool.or_false, D.noClo, D.noClos, beq_self_eq_true, tru_bl, tru_lst, Rof_some, Rneg_ok, seqD_l, seqD_t, itemsD_l, itemsD_t, itemsD_s, add_i, sub_i, mul_i, fdiv_i, mod_i, pow_i, add_s, add_l, add_t, eq_i, ne_i, eq_s, ne_s, eq_b, lt_i, gt_i, le_i, ge_i, le_s, gt_s, ge_s, lt_s, isn_n, isnt_n, isNone_n, isNone_i, isNone_s, isNone_t, isNone_l, isNone_b, isNone_o, inn_d, nin_d, idx_l, idx_t, idx_s, slc_l, slc_t, slc_s, len_l, len_t, len_s, abs_i, int_i, min2_i, max2_i, tuple_l, tuple_t, list_l, list_t, sorted_l, divmod_i, gcd_i, isi_b, isi_i, isi_s, isi_t, isi_l, isi_n, isi_o, isi_oc, isi_ic, isi_sc, isi_tc, atI_0, atI_1, atI_2, atI_3, atI_last, ixN_0, ixN_1, ixN_2, cut_hi, rng_n, asgT_nm, asgT_tp, asgT_tpl, ne_b, asgT_sub, asgTs_nil, asgTs_cons, bindN_nm, bindN_tp, bindNs_nil, bindNs_cons, sb_int_bool, sb_int_str, sb_int_tuple, sb_int_list, sb_int_NoneType, sb_bool_int, sb_bool_str, sb_bool_tuple, sb_bool_list, sb_bool_NoneType, sb_str_int, sb_str_bool, sb_str_tuple, sb_str_list, sb_str_NoneType, sb_tuple_int, sb_tuple_bool, sb_tuple_str, sb_tuple_list, sb_tuple_NoneType, sb_list_int, sb_list_bool, sb_list_str, sb_list_tuple, sb_list_NoneType, lim_0, lim_1, lim_2, lim_3, lim_4, lim_5, lim_6, lim_7, lim_8, lim_9, lim_10, lim_11, lim_12, Yld_ok, List.length_map, decide_eq_true hl', atI_nat, List.getElem?_map, List.getElem?_eq_getElem hl, q4, q5, q6]
        cases decide (ns[lap] < 0) <;> cases decide ((10 : Int) ^ (Int.toNat 16) ≤ ns[lap]) <;> simp only [Pu.run, ev, evs, evi, evp, R.bind_ok', entry, endOf, getAll, permute_nil, permute_cons, fill, put, List.map_cons, List.map_nil, List.length_cons, List.length_nil, List.cons_append, List.nil_append, List.replicate_succ, List.replicate_zero, Nat.reduceAdd, Nat.reduceSub, List.getElem?_cons_zero, List.getElem?_cons_succ, List.getElem?_nil, List.set_cons_zero, List.set_cons_succ, Option.bind_some, Option.map_some, wipeE, backE, List.getD_cons_zero, List.getD_cons_succ, and_true, true_and, reduceIte, if_true, if_false, Option.getD_some, Option.getD_none, List.isEmpty_nil, List.isEmpty_cons, Bool.not_true, Bool.not_false, decide_eq_true_eq, gt_iff_lt, Int.reduceLT, Int.reduceLE, Int.reduceAdd, Int.reduceMul, Int.reduceSub, Nat.reduceLT, Nat.reduceLeDiff, Nat.reduceEqDiff, decide_true, decide_false, Bool.false_eq_true, Bool.true_or, Bool.or_true, Bool.and_true, Bool.true_and, Bool.false_and, Bool.and_false, Bool.false_or, Bool.or_false, D.noClo, D.noClos, beq_self_eq_true, tru_bl, tru_lst, Rof_some, Rneg_ok, seqD_l, seqD_t, itemsD_l, itemsD_t, itemsD_s, add_i, sub_i, mul_i, fdiv_i, mod_i, pow_i, add_s, add_l, add_t, eq_i, ne_i, eq_s, ne_s, eq_b, lt_i, gt_i, le_i, ge_i, le_s, gt_s, ge_s, lt_s, isn_n, isnt_n, isNone_n, isNone_i, isNone_s, isNone_t, isNone_l, isNone_b, isNone_o, inn_d, nin_d, idx_l, idx_t, idx_s, slc_l, slc_t, slc_s, len_l, len_t, len_s, abs_i, int_i, min2_i, max2_i, tuple_l, tuple_t, list_l, list_t, sorted_l, divmod_i, gcd_i, isi_b, isi_i, isi_s, isi_t, isi_l, isi_n, isi_o, isi_oc, isi_ic, isi_sc, isi_tc, atI_0, atI_1, atI_2, atI_3, atI_last, ixN_0, ixN_1, ixN_2, cut_hi, rng_n, asgT_nm, asgT_tp, asgT_tpl, ne_b, asgT_sub, asgTs_nil, asgTs_cons, bindN_nm, bindN_tp, bindNs_nil, bindNs_cons, sb_int_bool, sb_int_str, sb_int_tuple, sb_int_list, sb_int_NoneType, sb_bool_int, sb_bool_str, sb_bool_tuple, sb_bool_list, sb_bool_NoneType, sb_str_int, sb_str_bool, sb_str_tuple, sb_str_list, sb_str_NoneType, sb_tuple_int, sb_tuple_bool, sb_tuple_str, sb_tuple_list, sb_tuple_NoneType, sb_list_int, sb_list_bool, sb_list_str, sb_list_tuple, sb_list_NoneType, lim_0, lim_1, lim_2, lim_3, lim_4, lim_5, lim_6, lim_7, lim_8, lim_9, lim_10, lim_11, lim_12, Yld_ok] <;> exact ⟨_, rfl, _, _, _, rfl⟩
      · have hl' : ¬ (lap : Int) < (ns.length : Int) := by omega
        simp only [Pu.run, ev, evs, evi, evp, R.bind_ok', entry, endOf, getAll, permute_nil, permute_cons, fill, put, List.map_cons, List.map_nil, List.length_cons, List.length_nil, List.cons_append, List.nil_append, List.replicate_succ, List.replicate_zero, Nat.reduceAdd, Nat.reduceSub, List.getElem?_cons_zero, List.getElem?_cons_succ, List.getElem?_nil, List.set_cons_zero, List.set_cons_succ, Option.bind_some, Option.map_some, wipeE, backE, List.getD_cons_zero, List.getD_cons_succ, and_true, true_and, reduceIte, if_true, if_false, Option.getD_some, Option.getD_none, List.isEmpty_nil, List.isEmpty_cons, Bool.not_true, Bool.not_false, decide_eq_true_eq, gt_iff_lt, Int.reduceLT, Int.reduceLE, Int.reduceAdd, Int.reduceMul, Int.reduceSub, Nat.reduceLT, Nat.reduceLeDiff, Nat.reduceEqDiff, decide_true, decide_false, Bool.false_eq_true, Bool.true_or, Bool.or_true, Bool.and_true, Bool.true_and, Bool.false_and, Bool.and_false, Bool.false_or, Bool.or_false, D.noClo, D.noClos, beq_self_eq_true, tru_bl, tru_lst, Rof_some, Rneg_ok, seqD_l, seqD_t, itemsD_l, itemsD_t, itemsD_s, add_i, sub_i, mul_i, fdiv_i, mod_i, pow_i, add_s, add_l, add_t, eq_i, ne_i, eq_s, ne_s, eq_b, lt_i, gt_i, le_i, ge_i, le_s, gt_s, ge_s, lt_s, isn_n, isnt_n, isNone_n, isNone_i, isNone_s, isNone_t, isNone_l, isNone_b, isNone_o, inn_d, nin_d, idx_l, idx_t, idx_s, slc_l, slc_t, slc_s, len_l, len_t, len_s, abs_i, int_i, min2_i, max2_i, tuple_l, tuple_t, list_l, list_t, sorted_l, divmod_i, gcd_i, isi_b, isi_i, isi_s, isi_t, isi_l, isi_n, isi_o, isi_oc, isi_ic, isi_sc, isi_tc, atI_0, atI_1, atI_2, atI_3, atI_last, ixN_0, ixN_1, ixN_2, cut_hi, rng_n, asgT_nm, asgT_tp, asgT_tpl, ne_b, asgT_sub, asgTs_nil, asgTs_cons, bindN_nm, bindN_tp, bindNs_nil, bindNs_cons, sb_int_bool, sb_int_str, sb_int_tuple, sb_int_list, sb_int_NoneType, sb_bool_int, sb_bool_str, sb_bool_tuple, sb_bool_list, sb_bool_NoneType, sb_str_int, sb_str_bool, sb_str_tuple, sb_str_list, sb_str_NoneType, sb_tuple_int, sb_tuple_bool, sb_tuple_str, sb_tuple_list, sb_tuple_NoneType, sb_list_int, sb_list_bool, sb_list_str, sb_list_tuple, sb_list_NoneType, lim_0, lim_1, lim_2, lim_3, lim_4, lim_5, lim_6, lim_7, lim_8, lim_9, lim_10, lim_11, lim_12, Yld_ok, List.length_map, decide_eq_false hl', q4, q5, q6]
        cases decide ((10 : Int) ^ (Int.toNat 16) ≤ 0) <;> simp only [Pu.run, ev, evs, evi, evp, R.bind_ok', entry, endOf, getAll, permute_nil, permute_cons, fill, put, List.map_cons, List.map_nil, List.length_cons, List.length_nil, List.cons_append, List.nil_append, List.replicate_succ, List.replicate_zero, Nat.reduceAdd, Nat.reduceSub, List.getElem?_cons_zero, List.getElem?_cons_succ, List.getElem?_nil, List.set_cons_zero, List.set_cons_succ, Option.bind_some, Option.map_some, wipeE, backE, List.getD_cons_zero, List.getD_cons_succ, and_true, true_and, reduceIte, if_true, if_false, Option.getD_some, Option.getD_none, List.isEmpty_nil, List.isEmpty_cons, Bool.not_true, Bool.not_false, decide_eq_true_eq, gt_iff_lt, Int.reduceLT, Int.reduceLE, Int.reduceAdd, Int.reduceMul, Int.reduceSub, Nat.reduceLT, Nat.reduceLeDiff, Nat.reduceEqDiff, decide_true, decide_false, Bool.false_eq_true, Bool.true_or, Bool.or_true, Bool.and_true, Bool.true_and, Bool.false_and, Bool.and_false, Bool.false_or, Bool.or_false, D.noClo, D.noClos, beq_self_eq_true, tru_bl, tru_lst, Rof_some, Rneg_ok, seqD_l, seqD_t, itemsD_l, itemsD_t, itemsD_s, add_i, sub_i, mul_i, fdiv_i, mod_i, pow_i, add_s, add_l, add_t, eq_i, ne_i, eq_s, ne_s, eq_b, lt_i, gt_i, le_i, ge_i, le_s, gt_s, ge_s, lt_s, isn_n, isnt_n, isNone_n, isNone_i, isNone_s, isNone_t, isNone_l, isNone_b, isNone_o, inn_d, nin_d, idx_l, idx_t, idx_s, slc_l, slc_t, slc_s, len_l, len_t, len_s, abs_i, int_i, min2_i, max2_i, tuple_l, tuple_t, list_l, list_t, sorted_l, divmod_i, gcd_i, isi_b, isi_i, isi_s, isi_t, isi_l, isi_n, isi_o, isi_oc, isi_ic, isi_sc, isi_tc, atI_0, atI_1, atI_2, atI_3, atI_last, ixN_0, ixN_1, ixN_2, cut_hi, rng_n, asgT_nm, asgT_tp, asgT_tpl, ne_b, asgT_sub, asgTs_nil, asgTs_cons, bindN_nm, bindN_tp, bindNs_nil, bindNs_cons, sb_int_bool, sb_int_str, sb_int_tuple, sb_int_list, sb_int_NoneType, sb_bool_int, sb_bool_str, sb_bool_tuple, sb_bool_list, sb_bool_NoneType, sb_str_int, sb_str_bool, sb_str_tuple, sb_str_list, sb_str_NoneType, sb_tuple_int, sb_tuple_bool, sb_tuple_str, sb_tuple_list, sb_tuple_NoneType, sb_list_int, sb_list_bool, sb_list_str, sb_list_tuple, sb_list_NoneType, lim_0, lim_1, lim_2, lim_3, lim_4, lim_5, lim_6, lim_7, lim_8, lim_9, lim_10, lim_11, lim_12, Yld_ok] <;> exact ⟨_, rfl, _, _, _, rfl⟩
  obtain ⟨q, e, b, rfl, h⟩ := key
  exact ⟨b, e, h⟩
theorem law_ok {K : Nat} (right : ∀ b, Bowl b → ∃ outs, (calls P K).call n_law_right [b] = .ok (.bl true, outs)) (hK : 1 ≤ K) (ns : List Int) (hl : ns.length ≤ 63) : (calls P (K + 1)).call n_law [.lst (ns.map Pu.D.int)] = .ok (.bl true, []) := by
  rw [call_eq (F := f_law) rfl rfl rfl]
  obtain ⟨n, hn, hn3⟩ : ∃ n : Nat, (if (1 : Int) < (if (3 : Int) < (ns.length : Int) then 3 else (ns.length : Int)) then (if (3 : Int) < (ns.length : Int) then 3 else (ns.length : Int)) else 1) = (n : Int) ∧ n ≤ 3 := by
    refine ⟨(if (1 : Int) < (if (3 : Int) < (ns.length : Int) then 3 else (ns.length : Int)) then (if (3 : Int) < (ns.length : Int) then 3 else (ns.length : Int)) else 1).toNat, ?_, ?_⟩ <;> split <;> split <;> omega
  have hrg : rngD (.int 0) (.int (n : Int)) = .ok ((List.range n).map fun (k : Nat) => .int (k : Int)) := rng_n (by rw [lim]; omega)
  have key : Yld ((run (calls P K) f_law.body (entry f_law.sz [.lst (ns.map D.int)])).bind fun fl => endOf f_law.own f_law.mp fl) fun q => q = (.bl true, []) := by
    simp only [f_law, Pu.run, ev, evs, evi, evp, R.bind_ok', entry, endOf, getAll, permute_nil, permute_cons, fill, put, List.map_cons, List.map_nil, List.length_cons, List.length_nil, List.cons_append, List.nil_append, List.replicate_succ, List.replicate_zero, Nat.reduceAdd, Nat.reduceSub, List.getElem?_cons_zero, List.getElem?_cons_succ, List.getElem?_nil, List.set_cons_zero, List.set_cons_succ, Option.bind_some, Option.map_some, wipeE, backE, List.getD_cons_zero, List.getD_cons_succ, and_true, true_and, reduceIte, if_true, if_false, Option.getD_some, Option.getD_none, List.isEmpty_nil, List.isEmpty_cons, Bool.not_true, Bool.not_false, decide_eq_true_eq, gt_iff_lt, Int.reduceLT, Int.reduceLE, Int.reduceAdd, Int.reduceMul, Int.reduceSub, Nat.reduceLT, Nat.reduceLeDiff, Nat.reduceEqDiff, decide_true, decide_false, Bool.false_eq_true, Bool.true_or, Bool.or_true, Bool.and_true, Bool.true_and, Bool.false_and, Bool.and_false, Bool.false_or, Bool.or_false, D.noClo, D.noClos, beq_self_eq_true, tru_bl, tru_lst, Rof_some, Rneg_ok, seqD_l, seqD_t, itemsD_l, itemsD_t, itemsD_s, add_i, sub_i, mul_i, fdiv_i, mod_i, pow_i, add_s, add_l, add_t, eq_i, ne_i, eq_s, ne_s, eq_b, lt_i, gt_i, le_i, ge_i, le_s, gt_s, ge_s, lt_s, isn_n, isnt_n, isNone_n, isNone_i, isNone_s, isNone_t, isNone_l, isNone_b, isNone_o, inn_d, nin_d, idx_l, idx_t, idx_s, slc_l, slc_t, slc_s, len_l, len_t, len_s, abs_i, int_i, min2_i, max2_i, tuple_l, tuple_t, list_l, list_t, sorted_l, divmod_i, gcd_i, isi_b, isi_i, isi_s, isi_t, isi_l, isi_n, isi_o, isi_oc, isi_ic, isi_sc, isi_tc, atI_0, atI_1, atI_2, atI_3, atI_last, ixN_0, ixN_1, ixN_2, cut_hi, rng_n, asgT_nm, asgT_tp, asgT_tpl, ne_b, asgT_sub, asgTs_nil, asgTs_cons, bindN_nm, bindN_tp, bindNs_nil, bindNs_cons, sb_int_bool, sb_int_str, sb_int_tuple, sb_int_list, sb_int_NoneType, sb_bool_int, sb_bool_str, sb_bool_tuple, sb_bool_list, sb_bool_NoneType, sb_str_int, sb_str_bool, sb_str_tuple, sb_str_list, sb_str_NoneType, sb_tuple_int, sb_tuple_bool, sb_tuple_str, sb_tuple_list, sb_tuple_NoneType, sb_list_int, sb_list_bool, sb_list_str, sb_list_tuple, sb_list_NoneType, lim_0, lim_1, lim_2, lim_3, lim_4, lim_5, lim_6, lim_7, lim_8, lim_9, lim_10, lim_11, lim_12, Yld_ok, List.length_map, hn, hrg]
    try simp only [R.bind_bind]
    refine Yld.bind (lc_allY rfl (fun (k : Nat) => .int (k : Int)) (fun _ => .bl true) fun lap hlap => ?_) fun q hq => ?_
    · obtain ⟨j, rfl⟩ : ∃ j, K = j + 1 := ⟨K - 1, by omega⟩
      obtain ⟨b, e1, hb⟩ := bowl_ok ns lap j
      obtain ⟨outs, e2⟩ := right b hb
      simp only [Pu.run, ev, evs, evi, evp, R.bind_ok', entry, endOf, getAll, permute_nil, permute_cons, fill, put, List.map_cons, List.map_nil, List.length_cons, List.length_nil, List.cons_append, List.nil_append, List.replicate_succ, List.replicate_zero, Nat.reduceAdd, Nat.reduceSub, List.getElem?_cons_zero, List.getElem?_cons_succ, List.getElem?_nil, List.set_cons_zero, List.set_cons_succ, Option.bind_some, Option.map_some, wipeE, backE, List.getD_cons_zero, List.getD_cons_succ, and_true, true_and, reduceIte, if_true, if_false, Option.getD_some, Option.getD_none, List.isEmpty_nil, List.isEmpty_cons, Bool.not_true, Bool.not_false, decide_eq_true_eq, gt_iff_lt, Int.reduceLT, Int.reduceLE, Int.reduceAdd, Int.reduceMul, Int.reduceSub, Nat.reduceLT, Nat.reduceLeDiff, Nat.reduceEqDiff, decide_true, decide_false, Bool.false_eq_true, Bool.true_or, Bool.or_true, Bool.and_true, Bool.true_and, Bool.false_and, Bool.and_false, Bool.false_or, Bool.or_false, D.noClo, D.noClos, beq_self_eq_true, tru_bl, tru_lst, Rof_some, Rneg_ok, seqD_l, seqD_t, itemsD_l, itemsD_t, itemsD_s, add_i, sub_i, mul_i, fdiv_i, mod_i, pow_i, add_s, add_l, add_t, eq_i, ne_i, eq_s, ne_s, eq_b, lt_i, gt_i, le_i, ge_i, le_s, gt_s, ge_s, lt_s, isn_n, isnt_n, isNone_n, isNone_i, isNone_s, isNone_t, isNone_l, isNone_b, isNone_o, inn_d, nin_d, idx_l, idx_t, idx_s, slc_l, slc_t, slc_s, len_l, len_t, len_s, abs_i, int_i, min2_i, max2_i, tuple_l, tuple_t, list_l, list_t, sorted_l, divmod_i, gcd_i, isi_b, isi_i, isi_s, isi_t, isi_l, isi_n, isi_o, isi_oc, isi_ic, isi_sc, isi_tc, atI_0, atI_1, atI_2, atI_3, atI_last, ixN_0, ixN_1, ixN_2, cut_hi, rng_n, asgT_nm, asgT_tp, asgT_tpl, ne_b, asgT_sub, asgTs_nil, asgTs_cons, bindN_nm, bindN_tp, bindNs_nil, bindNs_cons, sb_int_bool, sb_int_str, sb_int_tuple, sb_int_list, sb_int_NoneType, sb_bool_int, sb_bool_str, sb_bool_tuple, sb_bool_list, sb_bool_NoneType, sb_str_int, sb_str_bool, sb_str_tuple, sb_str_list, sb_str_NoneType, sb_tuple_int, sb_tuple_bool, sb_tuple_str, sb_tuple_list, sb_tuple_NoneType, sb_list_int, sb_list_bool, sb_list_str, sb_list_tuple, sb_list_NoneType, lim_0, lim_1, lim_2, lim_3, lim_4, lim_5, lim_6, lim_7, lim_8, lim_9, lim_10, lim_11, lim_12, Yld_ok, e1, e2]
    · rw [hq]
      simp only [Pu.run, ev, evs, evi, evp, R.bind_ok', entry, endOf, getAll, permute_nil, permute_cons, fill, put, List.map_cons, List.map_nil, List.length_cons, List.length_nil, List.cons_append, List.nil_append, List.replicate_succ, List.replicate_zero, Nat.reduceAdd, Nat.reduceSub, List.getElem?_cons_zero, List.getElem?_cons_succ, List.getElem?_nil, List.set_cons_zero, List.set_cons_succ, Option.bind_some, Option.map_some, wipeE, backE, List.getD_cons_zero, List.getD_cons_succ, and_true, true_and, reduceIte, if_true, if_false, Option.getD_some, Option.getD_none, List.isEmpty_nil, List.isEmpty_cons, Bool.not_true, Bool.not_false, decide_eq_true_eq, gt_iff_lt, Int.reduceLT, Int.reduceLE, Int.reduceAdd, Int.reduceMul, Int.reduceSub, Nat.reduceLT, Nat.reduceLeDiff, Nat.reduceEqDiff, decide_true, decide_false, Bool.false_eq_true, Bool.true_or, Bool.or_true, Bool.and_true, Bool.true_and, Bool.false_and, Bool.and_false, Bool.false_or, Bool.or_false, D.noClo, D.noClos, beq_self_eq_true, tru_bl, tru_lst, Rof_some, Rneg_ok, seqD_l, seqD_t, itemsD_l, itemsD_t, itemsD_s, add_i, sub_i, mul_i, fdiv_i, mod_i, pow_i, add_s, add_l, add_t, eq_i, ne_i, eq_s, ne_s, eq_b, lt_i, gt_i, le_i, ge_i, le_s, gt_s, ge_s, lt_s, isn_n, isnt_n, isNone_n, isNone_i, isNone_s, isNone_t, isNone_l, isNone_b, isNone_o, inn_d, nin_d, idx_l, idx_t, idx_s, slc_l, slc_t, slc_s, len_l, len_t, len_s, abs_i, int_i, min2_i, max2_i, tuple_l, tuple_t, list_l, list_t, sorted_l, divmod_i, gcd_i, isi_b, isi_i, isi_s, isi_t, isi_l, isi_n, isi_o, isi_oc, isi_ic, isi_sc, isi_tc, atI_0, atI_1, atI_2, atI_3, atI_last, ixN_0, ixN_1, ixN_2, cut_hi, rng_n, asgT_nm, asgT_tp, asgT_tpl, ne_b, asgT_sub, asgTs_nil, asgTs_cons, bindN_nm, bindN_tp, bindNs_nil, bindNs_cons, sb_int_bool, sb_int_str, sb_int_tuple, sb_int_list, sb_int_NoneType, sb_bool_int, sb_bool_str, sb_bool_tuple, sb_bool_list, sb_bool_NoneType, sb_str_int, sb_str_bool, sb_str_tuple, sb_str_list, sb_str_NoneType, sb_tuple_int, sb_tuple_bool, sb_tuple_str, sb_tuple_list, sb_tuple_NoneType, sb_list_int, sb_list_bool, sb_list_str, sb_list_tuple, sb_list_NoneType, lim_0, lim_1, lim_2, lim_3, lim_4, lim_5, lim_6, lim_7, lim_8, lim_9, lim_10, lim_11, lim_12, Yld_ok, all_b (f := fun _ => true)]
      simp
  exact Yld_eq key
end K08

set_option Elab.async false
set_option linter.all false
set_option maxRecDepth 100000
set_option maxHeartbeats 4000000
set_option autoImplicit false
namespace K08
open PySem Pu
/-! ### the same, right seatings -/
def smD : Nat → D → Bool
  | _, .int _ => true
  | _, .str _ => true
  | _, .bl _ => true
  | _, .non => true
  | n + 1, .tup ds => decide (ds.length < 1000000) && ds.all (smD n)
  | _, _ => false
theorem all_true {α : Type} (l : List α) : biD .all [.lst (l.map fun _ => .bl true)] = .ok (.bl true) := by
  rw [all_b (f := fun _ => true)]
  simp
theorem same_ok : ∀ (n : Nat) (d : D), smD n d = true → ∀ k, (calls P (k + n + 1)).call n_law_same [d, d] = .ok (.bl true, [])
  | n, .int i, _, k => by
    rw [call_eq (F := f_law_same) rfl rfl rfl]
    simp only [f_law_same, Pu.run, ev, evs, evi, evp, R.bind_ok', entry, endOf, getAll, permute_nil, permute_cons, fill, put, List.map_cons, List.map_nil, List.length_cons, List.length_nil, List.cons_append, List.nil_append, List.replicate_succ, List.replicate_zero, Nat.reduceAdd, Nat.reduceSub, List.getElem?_cons_zero, List.getElem?_cons_succ, List.getElem?_nil, List.set_cons_zero, List.set_cons_succ, Option.bind_some, Option.map_some, wipeE, backE, List.getD_cons_zero, List.getD_cons_succ, and_true, true_and, reduceIte, if_true, if_false, Option.getD_some, Option.getD_none, List.isEmpty_nil, List.isEmpty_cons, Bool.not_true, Bool.not_false, decide_eq_true_eq, gt_iff_lt, Int.reduceLT, Int.reduceLE, Int.reduceAdd, Int.reduceMul, Int.reduceSub, Nat.reduceLT, Nat.reduceLeDiff, Nat.reduceEqDiff, decide_true, decide_false, Bool.false_eq_true, Bool.true_or, Bool.or_true, Bool.and_true, Bool.true_and, Bool.false_and, Bool.and_false, Bool.false_or, Bool.or_false, D.noClo, D.noClos, beq_self_eq_true, tru_bl, tru_lst, Rof_some, Rneg_ok, seqD_l, seqD_t, itemsD_l, itemsD_t, itemsD_s, add_i, sub_i, mul_i, fdiv_i, mod_i, pow_i, add_s, add_l, add_t, eq_i, ne_i, eq_s, ne_s, eq_b, lt_i, gt_i, le_i, ge_i, le_s, gt_s, ge_s, lt_s, isn_n, isnt_n, isNone_n, isNone_i, isNone_s, isNone_t, isNone_l, isNone_b, isNone_o, inn_d, nin_d, idx_l, idx_t, idx_s, slc_l, slc_t, slc_s, len_l, len_t, len_s, abs_i, int_i, min2_i, max2_i, tuple_l, tuple_t, list_l, list_t, sorted_l, divmod_i, gcd_i, isi_b, isi_i, isi_s, isi_t, isi_l, isi_n, isi_o, isi_oc, isi_ic, isi_sc, isi_tc, atI_0, atI_1, atI_2, atI_3, atI_last, ixN_0, ixN_1, ixN_2, cut_hi, rng_n, asgT_nm, asgT_tp, asgT_tpl, ne_b, asgT_sub, asgTs_nil, asgTs_cons, bindN_nm, bindN_tp, bindNs_nil, bindNs_cons, sb_int_bool, sb_int_str, sb_int_tuple, sb_int_list, sb_int_NoneType, sb_bool_int, sb_bool_str, sb_bool_tuple, sb_bool_list, sb_bool_NoneType, sb_str_int, sb_str_bool, sb_str_tuple, sb_str_list, sb_str_NoneType, sb_tuple_int, sb_tuple_bool, sb_tuple_str, sb_tuple_list, sb_tuple_NoneType, sb_list_int, sb_list_bool, sb_list_str, sb_list_tuple, sb_list_NoneType, lim_0, lim_1, lim_2, lim_3, lim_4, lim_5, lim_6, lim_7, lim_8, lim_9, lim_10, lim_11, lim_12, Yld_ok]
  | n, .str x, _, k => by
    rw [call_eq (F := f_law_same) rfl rfl rfl]
    simp only [f_law_same, Pu.run, ev, evs, evi, evp, R.bind_ok', entry, endOf, getAll, permute_nil, permute_cons, fill, put, List.map_cons, List.map_nil, List.length_cons, List.length_nil, List.cons_append, List.nil_append, List.replicate_succ, List.replicate_zero, Nat.reduceAdd, Nat.reduceSub, List.getElem?_cons_zero, List.getElem?_cons_succ, List.getElem?_nil, List.set_cons_zero, List.set_cons_succ, Option.bind_some, Option.map_some, wipeE, backE, List.getD_cons_zero, List.getD_cons_succ, and_true, true_and, reduceIte, if_true, if_false, Option.getD_some, Option.getD_none, List.isEmpty_nil, List.isEmpty_cons, Bool.not_true, Bool.not_false, decide_eq_true_eq, gt_iff_lt, Int.reduceLT, Int.reduceLE, Int.reduceAdd, Int.reduceMul, Int.reduceSub, Nat.reduceLT, Nat.reduceLeDiff, Nat.reduceEqDiff, decide_true, decide_false, Bool.false_eq_true, Bool.true_or, Bool.or_true, Bool.and_true, Bool.true_and, Bool.false_and, Bool.and_false, Bool.false_or, Bool.or_false, D.noClo, D.noClos, beq_self_eq_true, tru_bl, tru_lst, Rof_some, Rneg_ok, seqD_l, seqD_t, itemsD_l, itemsD_t, itemsD_s, add_i, sub_i, mul_i, fdiv_i, mod_i, pow_i, add_s, add_l, add_t, eq_i, ne_i, eq_s, ne_s, eq_b, lt_i, gt_i, le_i, ge_i, le_s, gt_s, ge_s, lt_s, isn_n, isnt_n, isNone_n, isNone_i, isNone_s, isNone_t, isNone_l, isNone_b, isNone_o, inn_d, nin_d, idx_l, idx_t, idx_s, slc_l, slc_t, slc_s, len_l, len_t, len_s, abs_i, int_i, min2_i, max2_i, tuple_l, tuple_t, list_l, list_t, sorted_l, divmod_i, gcd_i, isi_b, isi_i, isi_s, isi_t, isi_l, isi_n, isi_o, isi_oc, isi_ic, isi_sc, isi_tc, atI_0, atI_1, atI_2, atI_3, atI_last, ixN_0, ixN_1, ixN_2, cut_hi, rng_n, asgT_nm, asgT_tp, asgT_tpl, ne_b, asgT_sub, asgTs_nil, asgTs_cons, bindN_nm, bindN_tp, bindNs_nil, bindNs_cons, sb_int_bool, sb_int_str, sb_int_tuple, sb_int_list, sb_int_NoneType, sb_bool_int, sb_bool_str, sb_bool_tuple, sb_bool_list, sb_bool_NoneType, sb_str_int, sb_str_bool, sb_str_tuple, sb_str_list, sb_str_NoneType, sb_tuple_int, sb_tuple_bool, sb_tuple_str, sb_tuple_list, sb_tuple_NoneType, sb_list_int, sb_list_bool, sb_list_str, sb_list_tuple, sb_list_NoneType, lim_0, lim_1, lim_2, lim_3, lim_4, lim_5, lim_6, lim_7, lim_8, lim_9, lim_10, lim_11, lim_12, Yld_ok]
  | n, .bl b, _, k => by
    rw [call_eq (F := f_law_same) rfl rfl rfl]
    simp only [f_law_same, Pu.run, ev, evs, evi, evp, R.bind_ok', entry, endOf, getAll, permute_nil, permute_cons, fill, put, List.map_cons, List.map_nil, List.length_cons, List.length_nil, List.cons_append, List.nil_append, List.replicate_succ, List.replicate_zero, Nat.reduceAdd, Nat.reduceSub, List.getElem?_cons_zero, List.getElem?_cons_succ, List.getElem?_nil, List.set_cons_zero, List.set_cons_succ, Option.bind_some, Option.map_some, wipeE, backE, List.getD_cons_zero, List.getD_cons_succ, and_true, true_and, reduceIte, if_true, if_false, Option.getD_some, Option.getD_none, List.isEmpty_nil, List.isEmpty_cons, Bool.not_true, Bool.not_false, decide_eq_true_eq, gt_iff_lt, Int.reduceLT, Int.reduceLE, Int.reduceAdd, Int.reduceMul, Int.reduceSub, Nat.reduceLT, Nat.reduceLeDiff, Nat.reduceEqDiff, decide_true, decide_false, Bool.false_eq_true, Bool.true_or, Bool.or_true, Bool.and_true, Bool.true_and, Bool.false_and, Bool.and_false, Bool.false_or, Bool.or_false, D.noClo, D.noClos, beq_self_eq_true, tru_bl, tru_lst, Rof_some, Rneg_ok, seqD_l, seqD_t, itemsD_l, itemsD_t, itemsD_s, add_i, sub_i, mul_i, fdiv_i, mod_i, pow_i, add_s, add_l, add_t, eq_i, ne_i, eq_s, ne_s, eq_b, lt_i, gt_i, le_i, ge_i, le_s, gt_s, ge_s, lt_s, isn_n, isnt_n, isNone_n, isNone_i, isNone_s, isNone_t, isNone_l, isNone_b, isNone_o, inn_d, nin_d, idx_l, idx_t, idx_s, slc_l, slc_t, slc_s, len_l, len_t, len_s, abs_i, int_i, min2_i, max2_i, tuple_l, tuple_t, list_l, list_t, sorted_l, divmod_i, gcd_i, isi_b, isi_i, isi_s, isi_t, isi_l, isi_n, isi_o, isi_oc, isi_ic, isi_sc, isi_tc, atI_0, atI_1, atI_2, atI_3, atI_last, ixN_0, ixN_1, ixN_2, cut_hi, rng_n, asgT_nm, asgT_tp, asgT_tpl, ne_b, asgT_sub, asgTs_nil, asgTs_cons, bindN_nm, bindN_tp, bindNs_nil, bindNs_cons, sb_int_bool, sb_int_str, sb_int_tuple, sb_int_list, sb_int_NoneType, sb_bool_int, sb_bool_str, sb_bool_tuple, sb_bool_list, sb_bool_NoneType, sb_str_int, sb_str_bool, sb_str_tuple, sb_str_list, sb_str_NoneType, sb_tuple_int, sb_tuple_bool, sb_tuple_str, sb_tuple_list, sb_tuple_NoneType, sb_list_int, sb_list_bool, sb_list_str, sb_list_tuple, sb_list_NoneType, lim_0, lim_1, lim_2, lim_3, lim_4, lim_5, lim_6, lim_7, lim_8, lim_9, lim_10, lim_11, lim_12, Yld_ok]
  | n, .non, _, k => by
    rw [call_eq (F := f_law_same) rfl rfl rfl]
    simp only [f_law_same, Pu.run, ev, evs, evi, evp, R.bind_ok', entry, endOf, getAll, permute_nil, permute_cons, fill, put, List.map_cons, List.map_nil, List.length_cons, List.length_nil, List.cons_append, List.nil_append, List.replicate_succ, List.replicate_zero, Nat.reduceAdd, Nat.reduceSub, List.getElem?_cons_zero, List.getElem?_cons_succ, List.getElem?_nil, List.set_cons_zero, List.set_cons_succ, Option.bind_some, Option.map_some, wipeE, backE, List.getD_cons_zero, List.getD_cons_succ, and_true, true_and, reduceIte, if_true, if_false, Option.getD_some, Option.getD_none, List.isEmpty_nil, List.isEmpty_cons, Bool.not_true, Bool.not_false, decide_eq_true_eq, gt_iff_lt, Int.reduceLT, Int.reduceLE, Int.reduceAdd, Int.reduceMul, Int.reduceSub, Nat.reduceLT, Nat.reduceLeDiff, Nat.reduceEqDiff, decide_true, decide_false, Bool.false_eq_true, Bool.true_or, Bool.or_true, Bool.and_true, Bool.true_and, Bool.false_and, Bool.and_false, Bool.false_or, Bool.or_false, D.noClo, D.noClos, beq_self_eq_true, tru_bl, tru_lst, Rof_some, Rneg_ok, seqD_l, seqD_t, itemsD_l, itemsD_t, itemsD_s, add_i, sub_i, mul_i, fdiv_i, mod_i, pow_i, add_s, add_l, add_t, eq_i, ne_i, eq_s, ne_s, eq_b, lt_i, gt_i, le_i, ge_i, le_s, gt_s, ge_s, lt_s, isn_n, isnt_n, isNone_n, isNone_i, isNone_s, isNone_t, isNone_l, isNone_b, isNone_o, inn_d, nin_d, idx_l, idx_t, idx_s, slc_l, slc_t, slc_s, len_l, len_t, len_s, abs_i, int_i, min2_i, max2_i, tuple_l, tuple_t, list_l, list_t, sorted_l, divmod_i, gcd_i, isi_b, isi_i, isi_s, isi_t, isi_l, isi_n, isi_o, isi_oc, isi_ic, isi_sc, isi_tc, atI_0, atI_1, atI_2, atI_3, atI_last, ixN_0, ixN_1, ixN_2, cut_hi, rng_n, asgT_nm, asgT_tp, asgT_tpl, ne_b, asgT_sub, asgTs_nil, asgTs_cons, bindN_nm, bindN_tp, bindNs_nil, bindNs_cons, sb_int_bool, sb_int_str, sb_int_tuple, sb_int_list, sb_int_NoneType, sb_bool_int, sb_bool_str, sb_bool_tuple, sb_bool_list, sb_bool_NoneType, sb_str_int, sb_str_bool, sb_str_tuple, sb_str_list, sb_str_NoneType, sb_tuple_int, sb_tuple_bool, sb_tuple_str, sb_tuple_list, sb_tuple_NoneType, sb_list_int, sb_list_bool, sb_list_str, sb_list_tuple, sb_list_NoneType, lim_0, lim_1, lim_2, lim_3, lim_4, lim_5, lim_6, lim_7, lim_8, lim_9, lim_10, lim_11, lim_12, Yld_ok]
  | n + 1, .tup ds, h, k => by
    obtain ⟨hl, h⟩ := Bool.and_eq_true_iff.mp (show (decide (ds.length < 1000000) && ds.all (smD n)) = true from h)
    have hl := of_decide_eq_true hl
    have hrg : rngD (.int 0) (.int (ds.length : Int)) = .ok ((List.range ds.length).map fun (k : Nat) => .int (k : Int)) := rng_n (by rw [lim]; omega)
    rw [call_eq (F := f_law_same) rfl rfl rfl]
    have key : Yld ((run (calls P (k + n + 1)) f_law_same.body (entry f_law_same.sz [.tup ds, .tup ds])).bind fun fl => endOf f_law_same.own f_law_same.mp fl) fun q => q = (.bl true, []) := by
      simp only [f_law_same, Pu.run, ev, evs, evi, evp, R.bind_ok', entry, endOf, getAll, permute_nil, permute_cons, fill, put, List.map_cons, List.map_nil, List.length_cons, List.length_nil, List.cons_append, List.nil_append, List.replicate_succ, List.replicate_zero, Nat.reduceAdd, Nat.reduceSub, List.getElem?_cons_zero, List.getElem?_cons_succ, List.getElem?_nil, List.set_cons_zero, List.set_cons_succ, Option.bind_some, Option.map_some, wipeE, backE, List.getD_cons_zero, List.getD_cons_succ, and_true, true_and, reduceIte, if_true, if_false, Option.getD_some, Option.getD_none, List.isEmpty_nil, List.isEmpty_cons, Bool.not_true, Bool.not_false, decide_eq_true_eq, gt_iff_lt, Int.reduceLT, Int.reduceLE, Int.reduceAdd, Int.reduceMul, Int.reduceSub, Nat.reduceLT, Nat.reduceLeDiff, Nat.reduceEqDiff, decide_true, decide_false, Bool.false_eq_true, Bool.true_or, Bool.or_true, Bool.and_true, Bool.true_and, Bool.false_and, Bool.and_false, Bool.false_or, Bool.or_false, D.noClo, D.noClos, beq_self_eq_true, tru_bl, tru_lst, Rof_some, Rneg_ok, seqD_l, seqD_t, itemsD_l, itemsD_t, itemsD_s, add_i, sub_i, mul_i, fdiv_i, mod_i, pow_i, add_s, add_l, add_t, eq_i, ne_i, eq_s, ne_s, eq_b, lt_i, gt_i, le_i, ge_i, le_s, gt_s, ge_s, lt_s, isn_n, isnt_n, isNone_n, isNone_i, isNone_s, isNone_t, isNone_l, isNone_b, isNone_o, inn_d, nin_d, idx_l, idx_t, idx_s, slc_l, slc_t, slc_s, len_l, len_t, len_s, abs_i, int_i, min2_i, max2_i, tuple_l, tuple_t, list_l, list_t, sorted_l, divmod_i, gcd_i, isi_b, isi_i, isi_s, isi_t, isi_l, isi_n, isi_o, isi_oc, isi_ic, isi_sc, isi_tc, atI_0, atI_1, atI_2, atI_3, atI_last, ixN_0, ixN_1, ixN_2, cut_hi, rng_n, asgT_nm, asgT_tp, asgT_tpl, ne_b, asgT_sub, asgTs_nil, asgTs_cons, bindN_nm, bindN_tp, bindNs_nil, bindNs_cons, sb_int_bool, sb_int_str, sb_int_tuple, sb_int_list, sb_int_NoneType, sb_bool_int, sb_bool_str, sb_bool_tuple, sb_bool_list, sb_bool_NoneType, sb_str_int, sb_str_bool, sb_str_tuple, sb_str_list, sb_str_NoneType, sb_tuple_int, sb_tuple_bool, sb_tuple_str, sb_tuple_list, sb_tuple_NoneType, sb_list_int, sb_list_bool, sb_list_str, sb_list_tuple, sb_list_NoneType, lim_0, lim_1, lim_2, lim_3, lim_4, lim_5, lim_6, lim_7, lim_8, lim_9, lim_10, lim_11, lim_12, Yld_ok, beq_self_eq_true, hrg]
      try simp only [R.bind_bind]
      refine Yld.bind (lc_allY rfl (fun (k : Nat) => .int (k : Int)) (fun _ => .bl true) fun j hj => ?_) fun q hq => ?_
      · have hj := List.mem_range.mp hj
        have := same_ok n ds[j] (List.all_eq_true.mp h _ (List.getElem_mem hj)) k
        simp only [Pu.run, ev, evs, evi, evp, R.bind_ok', entry, endOf, getAll, permute_nil, permute_cons, fill, put, List.map_cons, List.map_nil, List.length_cons, List.length_nil, List.cons_append, List.nil_append, List.replicate_succ, List.replicate_zero, Nat.reduceAdd, Nat.reduceSub, List.getElem?_cons_zero, List.getElem?_cons_succ, List.getElem?_nil, List.set_cons_zero, List.set_cons_succ, Option.bind_some, Option.map_some, wipeE, backE, List.getD_cons_zero, List.getD_cons_succ, and_true, true_and, reduceIte, if_true, if_false, Option.getD_some, Option.getD_none, List.isEmpty_nil, List.isEmpty_cons, Bool.not_true, Bool.not_false, decide_eq_true_eq, gt_iff_lt, Int.reduceLT, Int.reduceLE, Int.reduceAdd, Int.reduceMul, Int.reduceSub, Nat.reduceLT, Nat.reduceLeDiff, Nat.reduceEqDiff, decide_true, decide_false, Bool.false_eq_true, Bool.true_or, Bool.or_true, Bool.and_true, Bool.true_and, Bool.false_and, Bool.and_false, Bool.false_or, Bool.or_false, D.noClo, D.noClos, beq_self_eq_true, tru_bl, tru_lst, Rof_some, Rneg_ok, seqD_l, seqD_t, itemsD_l, itemsD_t, itemsD_s, add_i, sub_i, mul_i, fdiv_i, mod_i, pow_i, add_s, add_l, add_t, eq_i, ne_i, eq_s, ne_s, eq_b, lt_i, gt_i, le_i, ge_i, le_s, gt_s, ge_s, lt_s, isn_n, isnt_n, isNone_n, isNone_i, isNone_s, isNone_t, isNone_l, isNone_b, isNone_o, inn_d, nin_d, idx_l, idx_t, idx_s, slc_l, slc_t, slc_s, len_l, len_t, len_s, abs_i, int_i, min2_i, max2_i, tuple_l, tuple_t, list_l, list_t, sorted_l, divmod_i, gcd_i, isi_b, isi_i, isi_s, isi_t, isi_l, isi_n, isi_o, isi_oc, isi_ic, isi_sc, isi_tc, atI_0, atI_1, atI_2, atI_3, atI_last, ixN_0, ixN_1, ixN_2, cut_hi, rng_n, asgT_nm, asgT_tp, asgT_tpl, ne_b, asgT_sub, asgTs_nil, asgTs_cons, bindN_nm, bindN_tp, bindNs_nil, bindNs_cons, sb_int_bool, sb_int_str, sb_int_tuple, sb_int_list, sb_int_NoneType, sb_bool_int, sb_bool_str, sb_bool_tuple, sb_bool_list, sb_bool_NoneType, sb_str_int, sb_str_bool, sb_str_tuple, sb_str_list, sb_str_NoneType, sb_tuple_int, sb_tuple_bool, sb_tuple_str, sb_tuple_list, sb_tuple_NoneType, sb_list_int, sb_list_bool, sb_list_str, sb_list_tuple, sb_list_NoneType, lim_0, lim_1, lim_2, lim_3, lim_4, lim_5, lim_6, lim_7, lim_8, lim_9, lim_10, lim_11, lim_12, Yld_ok, atI_nat, List.getElem?_eq_getElem hj, this]
      · rw [hq]
        simp only [Pu.run, ev, evs, evi, evp, R.bind_ok', entry, endOf, getAll, permute_nil, permute_cons, fill, put, List.map_cons, List.map_nil, List.length_cons, List.length_nil, List.cons_append, List.nil_append, List.replicate_succ, List.replicate_zero, Nat.reduceAdd, Nat.reduceSub, List.getElem?_cons_zero, List.getElem?_cons_succ, List.getElem?_nil, List.set_cons_zero, List.set_cons_succ, Option.bind_some, Option.map_some, wipeE, backE, List.getD_cons_zero, List.getD_cons_succ, and_true, true_and, reduceIte, if_true, if_false, Option.getD_some, Option.getD_none, List.isEmpty_nil, List.isEmpty_cons, Bool.not_true, Bool.not_false, decide_eq_true_eq, gt_iff_lt, Int.reduceLT, Int.reduceLE, Int.reduceAdd, Int.reduceMul, Int.reduceSub, Nat.reduceLT, Nat.reduceLeDiff, Nat.reduceEqDiff, decide_true, decide_false, Bool.false_eq_true, Bool.true_or, Bool.or_true, Bool.and_true, Bool.true_and, Bool.false_and, Bool.and_false, Bool.false_or, Bool.or_false, D.noClo, D.noClos, beq_self_eq_true, tru_bl, tru_lst, Rof_some, Rneg_ok, seqD_l, seqD_t, itemsD_l, itemsD_t, itemsD_s, add_i, sub_i, mul_i, fdiv_i, mod_i, pow_i, add_s, add_l, add_t, eq_i, ne_i, eq_s, ne_s, eq_b, lt_i, gt_i, le_i, ge_i, le_s, gt_s, ge_s, lt_s, isn_n, isnt_n, isNone_n, isNone_i, isNone_s, isNone_t, isNone_l, isNone_b, isNone_o, inn_d, nin_d, idx_l, idx_t, idx_s, slc_l, slc_t, slc_s, len_l, len_t, len_s, abs_i, int_i, min2_i, max2_i, tuple_l, tuple_t, list_l, list_t, sorted_l, divmod_i, gcd_i, isi_b, isi_i, isi_s, isi_t, isi_l, isi_n, isi_o, isi_oc, isi_ic, isi_sc, isi_tc, atI_0, atI_1, atI_2, atI_3, atI_last, ixN_0, ixN_1, ixN_2, cut_hi, rng_n, asgT_nm, asgT_tp, asgT_tpl, ne_b, asgT_sub, asgTs_nil, asgTs_cons, bindN_nm, bindN_tp, bindNs_nil, bindNs_cons, sb_int_bool, sb_int_str, sb_int_tuple, sb_int_list, sb_int_NoneType, sb_bool_int, sb_bool_str, sb_bool_tuple, sb_bool_list, sb_bool_NoneType, sb_str_int, sb_str_bool, sb_str_tuple, sb_str_list, sb_str_NoneType, sb_tuple_int, sb_tuple_bool, sb_tuple_str, sb_tuple_list, sb_tuple_NoneType, sb_list_int, sb_list_bool, sb_list_str, sb_list_tuple, sb_list_NoneType, lim_0, lim_1, lim_2, lim_3, lim_4, lim_5, lim_6, lim_7, lim_8, lim_9, lim_10, lim_11, lim_12, Yld_ok, all_true]
    exact Yld_eq key
  | 0, .tup ds, h, k => by cases h
  | n, .lst ds, h, k => by cases n <;> cases h
  | n, .obj c ds, h, k => by cases n <;> cases h
  | n, .clo c ds, h, k => by cases n <;> cases h
  | n, .fn f, h, k => by cases n <;> cases h
def kinds3 : List Str := ["a", "b", "c"]
theorem kinds4_eq : [D.str "a", D.str "b", D.str "c", D.str "-"] = kinds4.map dS := rfl
theorem kinds4_len : (kinds4.map dS).length ≤ lim := by
  rw [List.length_map, lim]
  decide
theorem places_ok {F : List Str} {T : List (Str × Str)} {w : D} (k : Nat) : (calls P (k + 1)).call n_Street_places [madeD F T w] = .ok (.tup (F.map dS), []) := by
  rw [call_eq (F := f_Street_places) rfl rfl rfl]
  simp only [f_Street_places, Pu.run, ev, evs, evi, evp, R.bind_ok', entry, endOf, getAll, permute_nil, permute_cons, fill, put, List.map_cons, List.map_nil, List.length_cons, List.length_nil, List.cons_append, List.nil_append, List.replicate_succ, List.replicate_zero, Nat.reduceAdd, Nat.reduceSub, List.getElem?_cons_zero, List.getElem?_cons_succ, List.getElem?_nil, List.set_cons_zero, List.set_cons_succ, Option.bind_some, Option.map_some, wipeE, backE, List.getD_cons_zero, List.getD_cons_succ, and_true, true_and, reduceIte, if_true, if_false, Option.getD_some, Option.getD_none, List.isEmpty_nil, List.isEmpty_cons, Bool.not_true, Bool.not_false, decide_eq_true_eq, gt_iff_lt, Int.reduceLT, Int.reduceLE, Int.reduceAdd, Int.reduceMul, Int.reduceSub, Nat.reduceLT, Nat.reduceLeDiff, Nat.reduceEqDiff, decide_true, decide_false, Bool.false_eq_true, Bool.true_or, Bool.or_true, Bool.and_true, Bool.true_and, Bool.false_and, Bool.and_false, Bool.false_or, Bool.or_false, D.noClo, D.noClos, beq_self_eq_true, tru_bl, tru_lst, Rof_some, Rneg_ok, seqD_l, seqD_t, itemsD_l, itemsD_t, itemsD_s, add_i, sub_i, mul_i, fdiv_i, mod_i, pow_i, add_s, add_l, add_t, eq_i, ne_i, eq_s, ne_s, eq_b, lt_i, gt_i, le_i, ge_i, le_s, gt_s, ge_s, lt_s, isn_n, isnt_n, isNone_n, isNone_i, isNone_s, isNone_t, isNone_l, isNone_b, isNone_o, inn_d, nin_d, idx_l, idx_t, idx_s, slc_l, slc_t, slc_s, len_l, len_t, len_s, abs_i, int_i, min2_i, max2_i, tuple_l, tuple_t, list_l, list_t, sorted_l, divmod_i, gcd_i, isi_b, isi_i, isi_s, isi_t, isi_l, isi_n, isi_o, isi_oc, isi_ic, isi_sc, isi_tc, atI_0, atI_1, atI_2, atI_3, atI_last, ixN_0, ixN_1, ixN_2, cut_hi, rng_n, asgT_nm, asgT_tp, asgT_tpl, ne_b, asgT_sub, asgTs_nil, asgTs_cons, bindN_nm, bindN_tp, bindNs_nil, bindNs_cons, sb_int_bool, sb_int_str, sb_int_tuple, sb_int_list, sb_int_NoneType, sb_bool_int, sb_bool_str, sb_bool_tuple, sb_bool_list, sb_bool_NoneType, sb_str_int, sb_str_bool, sb_str_tuple, sb_str_list, sb_str_NoneType, sb_tuple_int, sb_tuple_bool, sb_tuple_str, sb_tuple_list, sb_tuple_NoneType, sb_list_int, sb_list_bool, sb_list_str, sb_list_tuple, sb_list_NoneType, lim_0, lim_1, lim_2, lim_3, lim_4, lim_5, lim_6, lim_7, lim_8, lim_9, lim_10, lim_11, lim_12, Yld_ok, madeD, streetD, show (calls P k).at_ c_Street 0 = some (.fld 0) by cases k <;> rfl, atI_0]
theorem check_street_ok {F : List Str} {T : List (Str × Str)} {w : D} (k : Nat) : (calls P (k + 1)).call n_check_street [madeD F T w] = .ok (.non, []) := by
  rw [call_eq (F := f_check_street) rfl rfl rfl]
  simp only [f_check_street, Pu.run, ev, evs, evi, evp, R.bind_ok', entry, endOf, getAll, permute_nil, permute_cons, fill, put, List.map_cons, List.map_nil, List.length_cons, List.length_nil, List.cons_append, List.nil_append, List.replicate_succ, List.replicate_zero, Nat.reduceAdd, Nat.reduceSub, List.getElem?_cons_zero, List.getElem?_cons_succ, List.getElem?_nil, List.set_cons_zero, List.set_cons_succ, Option.bind_some, Option.map_some, wipeE, backE, List.getD_cons_zero, List.getD_cons_succ, and_true, true_and, reduceIte, if_true, if_false, Option.getD_some, Option.getD_none, List.isEmpty_nil, List.isEmpty_cons, Bool.not_true, Bool.not_false, decide_eq_true_eq, gt_iff_lt, Int.reduceLT, Int.reduceLE, Int.reduceAdd, Int.reduceMul, Int.reduceSub, Nat.reduceLT, Nat.reduceLeDiff, Nat.reduceEqDiff, decide_true, decide_false, Bool.false_eq_true, Bool.true_or, Bool.or_true, Bool.and_true, Bool.true_and, Bool.false_and, Bool.and_false, Bool.false_or, Bool.or_false, D.noClo, D.noClos, beq_self_eq_true, tru_bl, tru_lst, Rof_some, Rneg_ok, seqD_l, seqD_t, itemsD_l, itemsD_t, itemsD_s, add_i, sub_i, mul_i, fdiv_i, mod_i, pow_i, add_s, add_l, add_t, eq_i, ne_i, eq_s, ne_s, eq_b, lt_i, gt_i, le_i, ge_i, le_s, gt_s, ge_s, lt_s, isn_n, isnt_n, isNone_n, isNone_i, isNone_s, isNone_t, isNone_l, isNone_b, isNone_o, inn_d, nin_d, idx_l, idx_t, idx_s, slc_l, slc_t, slc_s, len_l, len_t, len_s, abs_i, int_i, min2_i, max2_i, tuple_l, tuple_t, list_l, list_t, sorted_l, divmod_i, gcd_i, isi_b, isi_i, isi_s, isi_t, isi_l, isi_n, isi_o, isi_oc, isi_ic, isi_sc, isi_tc, atI_0, atI_1, atI_2, atI_3, atI_last, ixN_0, ixN_1, ixN_2, cut_hi, rng_n, asgT_nm, asgT_tp, asgT_tpl, ne_b, asgT_sub, asgTs_nil, asgTs_cons, bindN_nm, bindN_tp, bindNs_nil, bindNs_cons, sb_int_bool, sb_int_str, sb_int_tuple, sb_int_list, sb_int_NoneType, sb_bool_int, sb_bool_str, sb_bool_tuple, sb_bool_list, sb_bool_NoneType, sb_str_int, sb_str_bool, sb_str_tuple, sb_str_list, sb_str_NoneType, sb_tuple_int, sb_tuple_bool, sb_tuple_str, sb_tuple_list, sb_tuple_NoneType, sb_list_int, sb_list_bool, sb_list_str, sb_list_tuple, sb_list_NoneType, lim_0, lim_1, lim_2, lim_3, lim_4, lim_5, lim_6, lim_7, lim_8, lim_9, lim_10, lim_11, lim_12, Yld_ok, madeD]
end K08

set_option Elab.async false
set_option linter.all false
set_option maxRecDepth 100000
set_option maxHeartbeats 4000000
set_option autoImplicit false
namespace K08
open PySem Pu
/-! ### who is beside whom -/
def nmF (F : List Str) (i : Nat) : Str := F.getD i ""
def nb (F : List Str) (T : List (Str × Str)) (i : Nat) : List Nat := (List.range F.length).filter fun j => decide ((nmF F i, nmF F j) ∈ T ∨ (nmF F j, nmF F i) ∈ T)
def ixT (F : List Str) (t : Str × Str) : Nat × Nat := (F.idxOf t.1, F.idxOf t.2)
def nearL (F : List Str) (T : List (Str × Str)) (i : Nat) : List Nat := ((T.map (ixT F)).filter fun p => decide (p.1 = i) || decide (p.2 = i)).map fun p => if p.2 = i then p.1 else p.2
theorem ix_lt {F : List Str} {x : Str} (h : x ∈ F) : F.idxOf x < F.length := List.idxOf_lt_length_of_mem h
theorem ix_get {F : List Str} {x : Str} (h : x ∈ F) : nmF F (F.idxOf x) = x := by
  rw [nmF, List.getD_eq_getElem?_getD, List.getElem?_eq_getElem (ix_lt h)]
  exact List.getElem_idxOf (ix_lt h)
theorem ix_nm {F : List Str} (hs : F.Pairwise Slt) {i : Nat} (hi : i < F.length) : F.idxOf (nmF F i) = i :=
  nth_inj hs (ix_lt (nth_mem hi)) hi (ix_get (nth_mem hi))
section
variable {F : List Str} {T : List (Str × Str)}
theorem ix_two (hs : F.Pairwise Slt) (h : TiesOk F T) {t : Str × Str} (ht : t ∈ T) : (ixT F t).1 < (ixT F t).2 ∧ (ixT F t).2 < F.length ∧ t = (nmF F (ixT F t).1, nmF F (ixT F t).2) := by
  obtain ⟨h1, h2, h3⟩ := h.mem t ht
  have l1 := ix_lt h1
  have l2 := ix_lt h2
  refine ⟨?_, l2, Prod.ext (ix_get h1).symm (ix_get h2).symm⟩
  rcases Nat.lt_trichotomy (F.idxOf t.1) (F.idxOf t.2) with z | z | z
  · exact z
  · have e : t.1 = t.2 := by
      have e1 := ix_get h1
      rw [z, ix_get h2] at e1
      exact e1.symm
    rw [e] at h3
    exact absurd h3 (List.lt_irrefl _)
  · have q := nth_slt hs z l1
    have e1 : F.getD (F.idxOf t.1) "" = t.1 := ix_get h1
    have e2 : F.getD (F.idxOf t.2) "" = t.2 := ix_get h2
    rw [e1, e2] at q
    exact absurd (List.lt_trans q h3) (List.lt_irrefl _)
theorem tie_iff (hs : F.Pairwise Slt) (h : TiesOk F T) {i j : Nat} (hi : i < F.length) (hj : j < F.length) : (i, j) ∈ T.map (ixT F) ↔ (nmF F i, nmF F j) ∈ T := by
  constructor
  · intro z
    obtain ⟨t, ht, e⟩ := List.mem_map.mp z
    obtain ⟨_, _, g⟩ := ix_two hs h ht
    rw [e] at g
    rw [← g]
    exact ht
  · intro z
    refine List.mem_map.mpr ⟨_, z, ?_⟩
    exact Prod.ext (ix_nm hs hi) (ix_nm hs hj)
theorem ties_nodup (h : TiesOk F T) (hs : F.Pairwise Slt) : (T.map (ixT F)).Nodup := by
  rw [List.nodup_iff_pairwise_ne, List.pairwise_map]
  refine List.Pairwise.imp_of_mem (fun {a b} ha hb z e => ?_) h.so
  obtain ⟨_, _, g1⟩ := ix_two hs h ha
  obtain ⟨_, _, g2⟩ := ix_two hs h hb
  rw [e] at g1
  rw [← g2] at g1
  subst g1
  unfold PySem.W.dataLt at z
  rw [PyProof.Rows.lex_irrefl] at z
  cases z
theorem near_perm (hs : F.Pairwise Slt) (h : TiesOk F T) {i : Nat} (hi : i < F.length) : (nearL F T i).Perm (nb F T i) := by
  have two : ∀ p ∈ T.map (ixT F), p.1 < p.2 ∧ p.2 < F.length := fun p hp => by
    obtain ⟨t, ht, rfl⟩ := List.mem_map.mp hp
    exact ⟨(ix_two hs h ht).1, (ix_two hs h ht).2.1⟩
  refine (List.perm_ext_iff_of_nodup ?_ (List.Pairwise.filter _ List.nodup_range)).mpr fun j => ?_
  · unfold nearL
    rw [List.nodup_iff_pairwise_ne, List.pairwise_map]
    have nd := (ties_nodup h hs).filter fun p => decide (p.1 = i) || decide (p.2 = i)
    try rw [List.nodup_iff_pairwise_ne] at nd
    refine List.Pairwise.imp_of_mem (fun {p q} hp hq z e => z ?_) nd
    obtain ⟨p0, p1⟩ := List.mem_filter.mp hp
    obtain ⟨q0, q1⟩ := List.mem_filter.mp hq
    have tp := two p p0
    have tq := two q q0
    simp only [Bool.or_eq_true, decide_eq_true_eq] at p1 q1
    obtain ⟨pa, pb⟩ := p
    obtain ⟨qa, qb⟩ := q
    simp only at p1 q1 e tp tq
    split at e <;> split at e <;> simp only [Prod.mk.injEq] <;> omega
  · unfold nearL
    try unfold nb
    rw [List.mem_map, List.mem_filter, List.mem_range, decide_eq_true_eq]
    constructor
    · rintro ⟨p, hp, rfl⟩
      obtain ⟨p0, p1⟩ := List.mem_filter.mp hp
      have tp := two p p0
      simp only [Bool.or_eq_true, decide_eq_true_eq] at p1
      obtain ⟨a, b⟩ := p
      simp only at p1 tp
      by_cases z : b = i
      · subst z
        simp only [if_true]
        exact ⟨by omega, .inr ((tie_iff hs h (by omega) (by omega)).mp p0)⟩
      · have z2 : a = i := by omega
        subst z2
        simp only [if_neg z]
        exact ⟨by omega, .inl ((tie_iff hs h (by omega) (by omega)).mp p0)⟩
    · rintro ⟨hj, z | z⟩
      · have m := (tie_iff hs h hi hj).mpr z
        have t := two _ m
        simp only at t
        exact ⟨(i, j), List.mem_filter.mpr ⟨m, by simp⟩, by rw [if_neg (by simp only; omega)]⟩
      · have m := (tie_iff hs h hj hi).mpr z
        exact ⟨(j, i), List.mem_filter.mpr ⟨m, by simp⟩, by rw [if_pos rfl]⟩
end
/-- people beside, of one's own kind -/
def sAt (S : List Str) (i : Nat) : Str := S.getD i ""
def ppl (F : List Str) (T : List (Str × Str)) (S : List Str) (i : Nat) : List Nat := (nb F T i).filter fun j => !decide (sAt S j = "-")
def ownC (F : List Str) (T : List (Str × Str)) (S : List Str) (i : Nat) : Nat := ((ppl F T S i).filter fun j => decide (sAt S j = sAt S i)).length
def cont (F : List Str) (T : List (Str × Str)) (S : List Str) (p q : Nat) (i : Nat) : Bool := decide (p * (ppl F T S i).length ≤ ownC F T S i * q)
theorem s_get {S : List Str} {i : Nat} (hi : i < S.length) : (S.map dS)[i]? = some (dS (sAt S i)) := nth_get hi
theorem nb_lt {F : List Str} {T : List (Str × Str)} {i j : Nat} (h : j ∈ nb F T i) : j < F.length := List.mem_range.mp (List.mem_filter.mp h).1
theorem ppl_lt {F : List Str} {T : List (Str × Str)} {S : List Str} {i j : Nat} (h : j ∈ ppl F T S i) : j < F.length := nb_lt (List.mem_filter.mp h).1
/-! ### by the package -/
theorem index_ok {F : List Str} (hs : F.Pairwise Slt) {x : Str} (hx : x ∈ F) : meD .index (.tup (F.map dS)) [.str x] = .ok (.int (F.idxOf x : Nat)) := by
  have h : min (PyData.depthAll (F.map PyData.str)) (PyData.str x).depth ≤ 60 := by
    have := depth_strs F
    omega
  have e : (D.str x).py = some (.str x) := by rw [D.py]
  have fi : (F.map PyData.str).findIdx? (fun z => PyData.eqv z (.str x)) = some (F.idxOf x) := by
    rw [List.findIdx?_map]
    have q : ((fun z => PyData.eqv z (.str x)) ∘ PyData.str) = fun y => y == x := by
      funext y
      show PyData.eqv (.str y) (.str x) = _
      rw [eqv_str]
      exact Bool.eq_iff_iff.mpr (by simp)
    rw [q, List.findIdx?_eq_some_iff_findIdx_eq]
    exact ⟨ix_lt hx, rfl⟩
  show (match (D.str x).py, D.pys (F.map dS) with
      | some p, some ps => if min (PyData.depthAll ps) p.depth ≤ 60 then (match ps.findIdx? fun z => PyData.eqv z p with
        | some j => R.ok (D.int (j : Nat))
        | none => .bad) else .bad
      | _, _ => .bad) = _
  rw [e, pysOfMap py_s]
  simp only []
  rw [if_pos h, fi]
theorem in_i2 (i a b : Int) : inD (.int i) (.tup [.int a, .int b]) = .ok (decide (a = i) || decide (b = i)) := by
  rw [inD]
  unfold inSeq
  simp only [D.py, D.pys]
  rw [if_pos (by simp [PyData.depthAll, PyData.depth])]
  simp [PyData.eqv]
  exact Bool.eq_iff_iff.mpr (by simp)
def dI (i : Nat) : D := .int (i : Int)
def dII (p : Nat × Nat) : D := .tup [.int (p.1 : Int), .int (p.2 : Int)]
def nearD (F : List Str) (T : List (Str × Str)) : D := .lst ((List.range F.length).map fun i => .lst ((nearL F T i).map dI))
theorem ties_g {F : List Str} {T : List (Str × Str)} {w : D} (k : Nat) : (calls P (k + 1)).call n_Street_ties [madeD F T w] = .ok (.tup (T.map dPr), []) := by
  rw [call_eq (F := f_Street_ties) rfl rfl rfl]
  simp only [f_Street_ties, Pu.run, ev, evs, evi, evp, R.bind_ok', entry, endOf, getAll, permute_nil, permute_cons, fill, put, List.map_cons, List.map_nil, List.length_cons, List.length_nil, List.cons_append, List.nil_append, List.replicate_succ, List.replicate_zero, Nat.reduceAdd, Nat.reduceSub, List.getElem?_cons_zero, List.getElem?_cons_succ, List.getElem?_nil, List.set_cons_zero, List.set_cons_succ, Option.bind_some, Option.map_some, wipeE, backE, List.getD_cons_zero, List.getD_cons_succ, and_true, true_and, reduceIte, if_true, if_false, Option.getD_some, Option.getD_none, List.isEmpty_nil, List.isEmpty_cons, Bool.not_true, Bool.not_false, decide_eq_true_eq, gt_iff_lt, Int.reduceLT, Int.reduceLE, Int.reduceAdd, Int.reduceMul, Int.reduceSub, Nat.reduceLT, Nat.reduceLeDiff, Nat.reduceEqDiff, decide_true, decide_false, Bool.false_eq_true, Bool.true_or, Bool.or_true, Bool.and_true, Bool.true_and, Bool.false_and, Bool.and_false, Bool.false_or, Bool.or_false, D.noClo, D.noClos, beq_self_eq_true, tru_bl, tru_lst, Rof_some, Rneg_ok, seqD_l, seqD_t, itemsD_l, itemsD_t, itemsD_s, add_i, sub_i, mul_i, fdiv_i, mod_i, pow_i, add_s, add_l, add_t, eq_i, ne_i, eq_s, ne_s, eq_b, lt_i, gt_i, le_i, ge_i, le_s, gt_s, ge_s, lt_s, isn_n, isnt_n, isNone_n, isNone_i, isNone_s, isNone_t, isNone_l, isNone_b, isNone_o, inn_d, nin_d, idx_l, idx_t, idx_s, slc_l, slc_t, slc_s, len_l, len_t, len_s, abs_i, int_i, min2_i, max2_i, tuple_l, tuple_t, list_l, list_t, sorted_l, divmod_i, gcd_i, isi_b, isi_i, isi_s, isi_t, isi_l, isi_n, isi_o, isi_oc, isi_ic, isi_sc, isi_tc, atI_0, atI_1, atI_2, atI_3, atI_last, ixN_0, ixN_1, ixN_2, cut_hi, rng_n, asgT_nm, asgT_tp, asgT_tpl, ne_b, asgT_sub, asgTs_nil, asgTs_cons, bindN_nm, bindN_tp, bindNs_nil, bindNs_cons, sb_int_bool, sb_int_str, sb_int_tuple, sb_int_list, sb_int_NoneType, sb_bool_int, sb_bool_str, sb_bool_tuple, sb_bool_list, sb_bool_NoneType, sb_str_int, sb_str_bool, sb_str_tuple, sb_str_list, sb_str_NoneType, sb_tuple_int, sb_tuple_bool, sb_tuple_str, sb_tuple_list, sb_tuple_NoneType, sb_list_int, sb_list_bool, sb_list_str, sb_list_tuple, sb_list_NoneType, lim_0, lim_1, lim_2, lim_3, lim_4, lim_5, lim_6, lim_7, lim_8, lim_9, lim_10, lim_11, lim_12, Yld_ok, madeD, streetD, show (calls P k).at_ c_Street 0 = some (.fld 0) by cases k <;> rfl, atI_1]
theorem want_g {F : List Str} {T : List (Str × Str)} {w : D} (k : Nat) : (calls P (k + 1)).call n_Street_want [madeD F T w] = .ok (w, []) := by
  rw [call_eq (F := f_Street_want) rfl rfl rfl]
  simp only [f_Street_want, Pu.run, ev, evs, evi, evp, R.bind_ok', entry, endOf, getAll, permute_nil, permute_cons, fill, put, List.map_cons, List.map_nil, List.length_cons, List.length_nil, List.cons_append, List.nil_append, List.replicate_succ, List.replicate_zero, Nat.reduceAdd, Nat.reduceSub, List.getElem?_cons_zero, List.getElem?_cons_succ, List.getElem?_nil, List.set_cons_zero, List.set_cons_succ, Option.bind_some, Option.map_some, wipeE, backE, List.getD_cons_zero, List.getD_cons_succ, and_true, true_and, reduceIte, if_true, if_false, Option.getD_some, Option.getD_none, List.isEmpty_nil, List.isEmpty_cons, Bool.not_true, Bool.not_false, decide_eq_true_eq, gt_iff_lt, Int.reduceLT, Int.reduceLE, Int.reduceAdd, Int.reduceMul, Int.reduceSub, Nat.reduceLT, Nat.reduceLeDiff, Nat.reduceEqDiff, decide_true, decide_false, Bool.false_eq_true, Bool.true_or, Bool.or_true, Bool.and_true, Bool.true_and, Bool.false_and, Bool.and_false, Bool.false_or, Bool.or_false, D.noClo, D.noClos, beq_self_eq_true, tru_bl, tru_lst, Rof_some, Rneg_ok, seqD_l, seqD_t, itemsD_l, itemsD_t, itemsD_s, add_i, sub_i, mul_i, fdiv_i, mod_i, pow_i, add_s, add_l, add_t, eq_i, ne_i, eq_s, ne_s, eq_b, lt_i, gt_i, le_i, ge_i, le_s, gt_s, ge_s, lt_s, isn_n, isnt_n, isNone_n, isNone_i, isNone_s, isNone_t, isNone_l, isNone_b, isNone_o, inn_d, nin_d, idx_l, idx_t, idx_s, slc_l, slc_t, slc_s, len_l, len_t, len_s, abs_i, int_i, min2_i, max2_i, tuple_l, tuple_t, list_l, list_t, sorted_l, divmod_i, gcd_i, isi_b, isi_i, isi_s, isi_t, isi_l, isi_n, isi_o, isi_oc, isi_ic, isi_sc, isi_tc, atI_0, atI_1, atI_2, atI_3, atI_last, ixN_0, ixN_1, ixN_2, cut_hi, rng_n, asgT_nm, asgT_tp, asgT_tpl, ne_b, asgT_sub, asgTs_nil, asgTs_cons, bindN_nm, bindN_tp, bindNs_nil, bindNs_cons, sb_int_bool, sb_int_str, sb_int_tuple, sb_int_list, sb_int_NoneType, sb_bool_int, sb_bool_str, sb_bool_tuple, sb_bool_list, sb_bool_NoneType, sb_str_int, sb_str_bool, sb_str_tuple, sb_str_list, sb_str_NoneType, sb_tuple_int, sb_tuple_bool, sb_tuple_str, sb_tuple_list, sb_tuple_NoneType, sb_list_int, sb_list_bool, sb_list_str, sb_list_tuple, sb_list_NoneType, lim_0, lim_1, lim_2, lim_3, lim_4, lim_5, lim_6, lim_7, lim_8, lim_9, lim_10, lim_11, lim_12, Yld_ok, madeD, streetD, show (calls P k).at_ c_Street 0 = some (.fld 0) by cases k <;> rfl, atI_2]
theorem near_by_ok {F : List Str} {T : List (Str × Str)} {w : D} {n : Nat} (h : StOk F T w n) (k : Nat) : (calls P (k + 2)).call n_near_by [madeD F T w] = .ok (nearD F T, []) := by
  rw [call_eq (F := f_near_by) rfl rfl rfl]
  have hn := h.fo.len
  have hhi := h.hi
  have p1 : (calls P (k + 1)).call n_Street_places [.obj c_Street [streetD F T w]] = .ok (.tup (F.map dS), []) := places_ok k
  have p2 : (calls P (k + 1)).call n_Street_ties [.obj c_Street [streetD F T w]] = .ok (.tup (T.map dPr), []) := ties_g k
  have a1 : (calls P (k + 1)).at_ c_Street 1 = some (.prop n_Street_places) := rfl
  have a2 : (calls P (k + 1)).at_ c_Street 2 = some (.prop n_Street_ties) := rfl
  have hrg : rngD (.int 0) (.int (F.length : Int)) = .ok ((List.range F.length).map fun (k : Nat) => .int (k : Int)) := rng_n (by rw [lim]; omega)
  have key : Yld ((run (calls P (k + 1)) f_near_by.body (entry f_near_by.sz [madeD F T w])).bind fun fl => endOf f_near_by.own f_near_by.mp fl) fun q => q = (nearD F T, []) := by
    simp only [f_near_by, Pu.run, ev, evs, evi, evp, R.bind_ok', entry, endOf, getAll, permute_nil, permute_cons, fill, put, List.map_cons, List.map_nil, List.length_cons, List.length_nil, List.cons_append, List.nil_append, List.replicate_succ, List.replicate_zero, Nat.reduceAdd, Nat.reduceSub, List.getElem?_cons_zero, List.getElem?_cons_succ, List.getElem?_nil, List.set_cons_zero, List.set_cons_succ, Option.bind_some, Option.map_some, wipeE, backE, List.getD_cons_zero, List.getD_cons_succ, and_true, true_and, reduceIte, if_true, if_false, Option.getD_some, Option.getD_none, List.isEmpty_nil, List.isEmpty_cons, Bool.not_true, Bool.not_false, decide_eq_true_eq, gt_iff_lt, Int.reduceLT, Int.reduceLE, Int.reduceAdd, Int.reduceMul, Int.reduceSub, Nat.reduceLT, Nat.reduceLeDiff, Nat.reduceEqDiff, decide_true, decide_false, Bool.false_eq_true, Bool.true_or, Bool.or_true, Bool.and_true, Bool.true_and, Bool.false_and, Bool.and_false, Bool.false_or, Bool.or_false, D.noClo, D.noClos, beq_self_eq_true, tru_bl, tru_lst, Rof_some, Rneg_ok, seqD_l, seqD_t, itemsD_l, itemsD_t, itemsD_s, add_i, sub_i, mul_i, fdiv_i, mod_i, pow_i, add_s, add_l, add_t, eq_i, ne_i, eq_s, ne_s, eq_b, lt_i, gt_i, le_i, ge_i, le_s, gt_s, ge_s, lt_s, isn_n, isnt_n, isNone_n, isNone_i, isNone_s, isNone_t, isNone_l, isNone_b, isNone_o, inn_d, nin_d, idx_l, idx_t, idx_s, slc_l, slc_t, slc_s, len_l, len_t, len_s, abs_i, int_i, min2_i, max2_i, tuple_l, tuple_t, list_l, list_t, sorted_l, divmod_i, gcd_i, isi_b, isi_i, isi_s, isi_t, isi_l, isi_n, isi_o, isi_oc, isi_ic, isi_sc, isi_tc, atI_0, atI_1, atI_2, atI_3, atI_last, ixN_0, ixN_1, ixN_2, cut_hi, rng_n, asgT_nm, asgT_tp, asgT_tpl, ne_b, asgT_sub, asgTs_nil, asgTs_cons, bindN_nm, bindN_tp, bindNs_nil, bindNs_cons, sb_int_bool, sb_int_str, sb_int_tuple, sb_int_list, sb_int_NoneType, sb_bool_int, sb_bool_str, sb_bool_tuple, sb_bool_list, sb_bool_NoneType, sb_str_int, sb_str_bool, sb_str_tuple, sb_str_list, sb_str_NoneType, sb_tuple_int, sb_tuple_bool, sb_tuple_str, sb_tuple_list, sb_tuple_NoneType, sb_list_int, sb_list_bool, sb_list_str, sb_list_tuple, sb_list_NoneType, lim_0, lim_1, lim_2, lim_3, lim_4, lim_5, lim_6, lim_7, lim_8, lim_9, lim_10, lim_11, lim_12, Yld_ok, madeD, a1, a2, p1, p2]
    try simp only [R.bind_bind]
    refine Yld.bind (lc_allY rfl dPr (fun t => dII (ixT F t)) fun t ht => ?_) fun q hq => ?_
    · obtain ⟨g1, g2, _⟩ := h.ti.mem t ht
      simp only [Pu.run, ev, evs, evi, evp, R.bind_ok', entry, endOf, getAll, permute_nil, permute_cons, fill, put, List.map_cons, List.map_nil, List.length_cons, List.length_nil, List.cons_append, List.nil_append, List.replicate_succ, List.replicate_zero, Nat.reduceAdd, Nat.reduceSub, List.getElem?_cons_zero, List.getElem?_cons_succ, List.getElem?_nil, List.set_cons_zero, List.set_cons_succ, Option.bind_some, Option.map_some, wipeE, backE, List.getD_cons_zero, List.getD_cons_succ, and_true, true_and, reduceIte, if_true, if_false, Option.getD_some, Option.getD_none, List.isEmpty_nil, List.isEmpty_cons, Bool.not_true, Bool.not_false, decide_eq_true_eq, gt_iff_lt, Int.reduceLT, Int.reduceLE, Int.reduceAdd, Int.reduceMul, Int.reduceSub, Nat.reduceLT, Nat.reduceLeDiff, Nat.reduceEqDiff, decide_true, decide_false, Bool.false_eq_true, Bool.true_or, Bool.or_true, Bool.and_true, Bool.true_and, Bool.false_and, Bool.and_false, Bool.false_or, Bool.or_false, D.noClo, D.noClos, beq_self_eq_true, tru_bl, tru_lst, Rof_some, Rneg_ok, seqD_l, seqD_t, itemsD_l, itemsD_t, itemsD_s, add_i, sub_i, mul_i, fdiv_i, mod_i, pow_i, add_s, add_l, add_t, eq_i, ne_i, eq_s, ne_s, eq_b, lt_i, gt_i, le_i, ge_i, le_s, gt_s, ge_s, lt_s, isn_n, isnt_n, isNone_n, isNone_i, isNone_s, isNone_t, isNone_l, isNone_b, isNone_o, inn_d, nin_d, idx_l, idx_t, idx_s, slc_l, slc_t, slc_s, len_l, len_t, len_s, abs_i, int_i, min2_i, max2_i, tuple_l, tuple_t, list_l, list_t, sorted_l, divmod_i, gcd_i, isi_b, isi_i, isi_s, isi_t, isi_l, isi_n, isi_o, isi_oc, isi_ic, isi_sc, isi_tc, atI_0, atI_1, atI_2, atI_3, atI_last, ixN_0, ixN_1, ixN_2, cut_hi, rng_n, asgT_nm, asgT_tp, asgT_tpl, ne_b, asgT_sub, asgTs_nil, asgTs_cons, bindN_nm, bindN_tp, bindNs_nil, bindNs_cons, sb_int_bool, sb_int_str, sb_int_tuple, sb_int_list, sb_int_NoneType, sb_bool_int, sb_bool_str, sb_bool_tuple, sb_bool_list, sb_bool_NoneType, sb_str_int, sb_str_bool, sb_str_tuple, sb_str_list, sb_str_NoneType, sb_tuple_int, sb_tuple_bool, sb_tuple_str, sb_tuple_list, sb_tuple_NoneType, sb_list_int, sb_list_bool, sb_list_str, sb_list_tuple, sb_list_NoneType, lim_0, lim_1, lim_2, lim_3, lim_4, lim_5, lim_6, lim_7, lim_8, lim_9, lim_10, lim_11, lim_12, Yld_ok, dPr, a1, p1, index_ok h.so g1, index_ok h.so g2]
      first | exact ⟨rfl, rfl⟩ | rfl
    · rw [hq]
      simp only [Pu.run, ev, evs, evi, evp, R.bind_ok', entry, endOf, getAll, permute_nil, permute_cons, fill, put, List.map_cons, List.map_nil, List.length_cons, List.length_nil, List.cons_append, List.nil_append, List.replicate_succ, List.replicate_zero, Nat.reduceAdd, Nat.reduceSub, List.getElem?_cons_zero, List.getElem?_cons_succ, List.getElem?_nil, List.set_cons_zero, List.set_cons_succ, Option.bind_some, Option.map_some, wipeE, backE, List.getD_cons_zero, List.getD_cons_succ, and_true, true_and, reduceIte, if_true, if_false, Option.getD_some, Option.getD_none, List.isEmpty_nil, List.isEmpty_cons, Bool.not_true, Bool.not_false, decide_eq_true_eq, gt_iff_lt, Int.reduceLT, Int.reduceLE, Int.reduceAdd, Int.reduceMul, Int.reduceSub, Nat.reduceLT, Nat.reduceLeDiff, Nat.reduceEqDiff, decide_true, decide_false, Bool.false_eq_true, Bool.true_or, Bool.or_true, Bool.and_true, Bool.true_and, Bool.false_and, Bool.and_false, Bool.false_or, Bool.or_false, D.noClo, D.noClos, beq_self_eq_true, tru_bl, tru_lst, Rof_some, Rneg_ok, seqD_l, seqD_t, itemsD_l, itemsD_t, itemsD_s, add_i, sub_i, mul_i, fdiv_i, mod_i, pow_i, add_s, add_l, add_t, eq_i, ne_i, eq_s, ne_s, eq_b, lt_i, gt_i, le_i, ge_i, le_s, gt_s, ge_s, lt_s, isn_n, isnt_n, isNone_n, isNone_i, isNone_s, isNone_t, isNone_l, isNone_b, isNone_o, inn_d, nin_d, idx_l, idx_t, idx_s, slc_l, slc_t, slc_s, len_l, len_t, len_s, abs_i, int_i, min2_i, max2_i, tuple_l, tuple_t, list_l, list_t, sorted_l, divmod_i, gcd_i, isi_b, isi_i, isi_s, isi_t, isi_l, isi_n, isi_o, isi_oc, isi_ic, isi_sc, isi_tc, atI_0, atI_1, atI_2, atI_3, atI_last, ixN_0, ixN_1, ixN_2, cut_hi, rng_n, asgT_nm, asgT_tp, asgT_tpl, ne_b, asgT_sub, asgTs_nil, asgTs_cons, bindN_nm, bindN_tp, bindNs_nil, bindNs_cons, sb_int_bool, sb_int_str, sb_int_tuple, sb_int_list, sb_int_NoneType, sb_bool_int, sb_bool_str, sb_bool_tuple, sb_bool_list, sb_bool_NoneType, sb_str_int, sb_str_bool, sb_str_tuple, sb_str_list, sb_str_NoneType, sb_tuple_int, sb_tuple_bool, sb_tuple_str, sb_tuple_list, sb_tuple_NoneType, sb_list_int, sb_list_bool, sb_list_str, sb_list_tuple, sb_list_NoneType, lim_0, lim_1, lim_2, lim_3, lim_4, lim_5, lim_6, lim_7, lim_8, lim_9, lim_10, lim_11, lim_12, Yld_ok, a1, a2, p1, p2, List.length_map, hrg]
      try simp only [R.bind_bind]
      refine Yld.bind (lc_allY rfl (fun (k : Nat) => .int (k : Int)) (fun i => .lst ((nearL F T i).map dI)) fun i hi => ?_) fun q hq => ?_
      · have em : T.map (fun t => dII (ixT F t)) = (T.map (ixT F)).map dII := by rw [List.map_map]; rfl
        simp only [Pu.run, ev, evs, evi, evp, R.bind_ok', entry, endOf, getAll, permute_nil, permute_cons, fill, put, List.map_cons, List.map_nil, List.length_cons, List.length_nil, List.cons_append, List.nil_append, List.replicate_succ, List.replicate_zero, Nat.reduceAdd, Nat.reduceSub, List.getElem?_cons_zero, List.getElem?_cons_succ, List.getElem?_nil, List.set_cons_zero, List.set_cons_succ, Option.bind_some, Option.map_some, wipeE, backE, List.getD_cons_zero, List.getD_cons_succ, and_true, true_and, reduceIte, if_true, if_false, Option.getD_some, Option.getD_none, List.isEmpty_nil, List.isEmpty_cons, Bool.not_true, Bool.not_false, decide_eq_true_eq, gt_iff_lt, Int.reduceLT, Int.reduceLE, Int.reduceAdd, Int.reduceMul, Int.reduceSub, Nat.reduceLT, Nat.reduceLeDiff, Nat.reduceEqDiff, decide_true, decide_false, Bool.false_eq_true, Bool.true_or, Bool.or_true, Bool.and_true, Bool.true_and, Bool.false_and, Bool.and_false, Bool.false_or, Bool.or_false, D.noClo, D.noClos, beq_self_eq_true, tru_bl, tru_lst, Rof_some, Rneg_ok, seqD_l, seqD_t, itemsD_l, itemsD_t, itemsD_s, add_i, sub_i, mul_i, fdiv_i, mod_i, pow_i, add_s, add_l, add_t, eq_i, ne_i, eq_s, ne_s, eq_b, lt_i, gt_i, le_i, ge_i, le_s, gt_s, ge_s, lt_s, isn_n, isnt_n, isNone_n, isNone_i, isNone_s, isNone_t, isNone_l, isNone_b, isNone_o, inn_d, nin_d, idx_l, idx_t, idx_s, slc_l, slc_t, slc_s, len_l, len_t, len_s, abs_i, int_i, min2_i, max2_i, tuple_l, tuple_t, list_l, list_t, sorted_l, divmod_i, gcd_i, isi_b, isi_i, isi_s, isi_t, isi_l, isi_n, isi_o, isi_oc, isi_ic, isi_sc, isi_tc, atI_0, atI_1, atI_2, atI_3, atI_last, ixN_0, ixN_1, ixN_2, cut_hi, rng_n, asgT_nm, asgT_tp, asgT_tpl, ne_b, asgT_sub, asgTs_nil, asgTs_cons, bindN_nm, bindN_tp, bindNs_nil, bindNs_cons, sb_int_bool, sb_int_str, sb_int_tuple, sb_int_list, sb_int_NoneType, sb_bool_int, sb_bool_str, sb_bool_tuple, sb_bool_list, sb_bool_NoneType, sb_str_int, sb_str_bool, sb_str_tuple, sb_str_list, sb_str_NoneType, sb_tuple_int, sb_tuple_bool, sb_tuple_str, sb_tuple_list, sb_tuple_NoneType, sb_list_int, sb_list_bool, sb_list_str, sb_list_tuple, sb_list_NoneType, lim_0, lim_1, lim_2, lim_3, lim_4, lim_5, lim_6, lim_7, lim_8, lim_9, lim_10, lim_11, lim_12, Yld_ok]
        rw [em]
        try simp only [R.bind_bind]
        refine Yld.bind (lc_filterY rfl dII (fun p => dI (if p.2 = i then p.1 else p.2)) (fun p => decide (p.1 = i) || decide (p.2 = i)) fun p hp => ?_) fun q hq => ?_
        · obtain ⟨a, b⟩ := p
          have ea : decide ((a : Int) = (i : Int)) = decide (a = i) := Bool.eq_iff_iff.mpr (by simp only [decide_eq_true_eq]; omega)
          have eb : decide ((b : Int) = (i : Int)) = decide (b = i) := Bool.eq_iff_iff.mpr (by simp only [decide_eq_true_eq]; omega)
          by_cases za : a = i
          · by_cases zb : b = i
            · simp only [Pu.run, ev, evs, evi, evp, R.bind_ok', entry, endOf, getAll, permute_nil, permute_cons, fill, put, List.map_cons, List.map_nil, List.length_cons, List.length_nil, List.cons_append, List.nil_append, List.replicate_succ, List.replicate_zero, Nat.reduceAdd, Nat.reduceSub, List.getElem?_cons_zero, List.getElem?_cons_succ, List.getElem?_nil, List.set_cons_zero, List.set_cons_succ, Option.bind_some, Option.map_some, wipeE, backE, List.getD_cons_zero, List.getD_cons_succ, and_true, true_and, reduceIte, if_true, if_false, Option.getD_some, Option.getD_none, List.isEmpty_nil, List.isEmpty_cons, Bool.not_true, Bool.not_false, decide_eq_true_eq, gt_iff_lt, Int.reduceLT, Int.reduceLE, Int.reduceAdd, Int.reduceMul, Int.reduceSub, Nat.reduceLT, Nat.reduceLeDiff, Nat.reduceEqDiff, decide_true, decide_false, Bool.false_eq_true, Bool.true_or, Bool.or_true, Bool.and_true, Bool.true_and, Bool.false_and, Bool.and_false, Bool.false_or, Bool.or_false, D.noClo, D.noClos, beq_self_eq_true, tru_bl, tru_lst, Rof_some, Rneg_ok, seqD_l, seqD_t, itemsD_l, itemsD_t, itemsD_s, add_i, sub_i, mul_i, fdiv_i, mod_i, pow_i, add_s, add_l, add_t, eq_i, ne_i, eq_s, ne_s, eq_b, lt_i, gt_i, le_i, ge_i, le_s, gt_s, ge_s, lt_s, isn_n, isnt_n, isNone_n, isNone_i, isNone_s, isNone_t, isNone_l, isNone_b, isNone_o, inn_d, nin_d, idx_l, idx_t, idx_s, slc_l, slc_t, slc_s, len_l, len_t, len_s, abs_i, int_i, min2_i, max2_i, tuple_l, tuple_t, list_l, list_t, sorted_l, divmod_i, gcd_i, isi_b, isi_i, isi_s, isi_t, isi_l, isi_n, isi_o, isi_oc, isi_ic, isi_sc, isi_tc, atI_0, atI_1, atI_2, atI_3, atI_last, ixN_0, ixN_1, ixN_2, cut_hi, rng_n, asgT_nm, asgT_tp, asgT_tpl, ne_b, asgT_sub, asgTs_nil, asgTs_cons, bindN_nm, bindN_tp, bindNs_nil, bindNs_cons, sb_int_bool, sb_int_str, sb_int_tuple, sb_int_list, sb_int_NoneType, sb_bool_int, sb_bool_str, sb_bool_tuple, sb_bool_list, sb_bool_NoneType, sb_str_int, sb_str_bool, sb_str_tuple, sb_str_list, sb_str_NoneType, sb_tuple_int, sb_tuple_bool, sb_tuple_str, sb_tuple_list, sb_tuple_NoneType, sb_list_int, sb_list_bool, sb_list_str, sb_list_tuple, sb_list_NoneType, lim_0, lim_1, lim_2, lim_3, lim_4, lim_5, lim_6, lim_7, lim_8, lim_9, lim_10, lim_11, lim_12, Yld_ok, dII, dI, in_i2, ea, eb, decide_eq_true za, decide_eq_true zb, if_pos zb]
            · simp only [Pu.run, ev, evs, evi, evp, R.bind_ok', entry, endOf, getAll, permute_nil, permute_cons, fill, put, List.map_cons, List.map_nil, List.length_cons, List.length_nil, List.cons_append, List.nil_append, List.replicate_succ, List.replicate_zero, Nat.reduceAdd, Nat.reduceSub, List.getElem?_cons_zero, List.getElem?_cons_succ, List.getElem?_nil, List.set_cons_zero, List.set_cons_succ, Option.bind_some, Option.map_some, wipeE, backE, List.getD_cons_zero, List.getD_cons_succ, and_true, true_and, reduceIte, if_true, if_false, Option.getD_some, Option.getD_none, List.isEmpty_nil, List.isEmpty_cons, Bool.not_true, Bool.not_false, decide_eq_true_eq, gt_iff_lt, Int.reduceLT, Int.reduceLE, Int.reduceAdd, Int.reduceMul, Int.reduceSub, Nat.reduceLT, Nat.reduceLeDiff, Nat.reduceEqDiff, decide_true, decide_false, Bool.false_eq_true, Bool.true_or, Bool.or_true, Bool.and_true, Bool.true_and, Bool.false_and, Bool.and_false, Bool.false_or, Bool.or_false, D.noClo, D.noClos, beq_self_eq_true, tru_bl, tru_lst, Rof_some, Rneg_ok, seqD_l, seqD_t, itemsD_l, itemsD_t, itemsD_s, add_i, sub_i, mul_i, fdiv_i, mod_i, pow_i, add_s, add_l, add_t, eq_i, ne_i, eq_s, ne_s, eq_b, lt_i, gt_i, le_i, ge_i, le_s, gt_s, ge_s, lt_s, isn_n, isnt_n, isNone_n, isNone_i, isNone_s, isNone_t, isNone_l, isNone_b, isNone_o, inn_d, nin_d, idx_l, idx_t, idx_s, slc_l, slc_t, slc_s, len_l, len_t, len_s, abs_i, int_i, min2_i, max2_i, tuple_l, tuple_t, list_l, list_t, sorted_l, divmod_i, gcd_i, isi_b, isi_i, isi_s, isi_t, isi_l, isi_n, isi_o, isi_oc, isi_ic, isi_sc, isi_tc, atI_0, atI_1, atI_2, atI_3, atI_last, ixN_0, ixN_1, ixN_2, cut_hi, rng_n, asgT_nm, asgT_tp, asgT_tpl, ne_b, asgT_sub, asgTs_nil, asgTs_cons, bindN_nm, bindN_tp, bindNs_nil, bindNs_cons, sb_int_bool, sb_int_str, sb_int_tuple, sb_int_list, sb_int_NoneType, sb_bool_int, sb_bool_str, sb_bool_tuple, sb_bool_list, sb_bool_NoneType, sb_str_int, sb_str_bool, sb_str_tuple, sb_str_list, sb_str_NoneType, sb_tuple_int, sb_tuple_bool, sb_tuple_str, sb_tuple_list, sb_tuple_NoneType, sb_list_int, sb_list_bool, sb_list_str, sb_list_tuple, sb_list_NoneType, lim_0, lim_1, lim_2, lim_3, lim_4, lim_5, lim_6, lim_7, lim_8, lim_9, lim_10, lim_11, lim_12, Yld_ok, dII, dI, in_i2, ea, eb, decide_eq_true za, decide_eq_false zb, if_neg zb]
          · by_cases zb : b = i
            · simp only [Pu.run, ev, evs, evi, evp, R.bind_ok', entry, endOf, getAll, permute_nil, permute_cons, fill, put, List.map_cons, List.map_nil, List.length_cons, List.length_nil, List.cons_append, List.nil_append, List.replicate_succ, List.replicate_zero, Nat.reduceAdd, Nat.reduceSub, List.getElem?_cons_zero, List.getElem?_cons_succ, List.getElem?_nil, List.set_cons_zero, List.set_cons_succ, Option.bind_some, Option.map_some, wipeE, backE, List.getD_cons_zero, List.getD_cons_succ, and_true, true_and, reduceIte, if_true, if_false, Option.getD_some, Option.getD_none, List.isEmpty_nil, List.isEmpty_cons, Bool.not_true, Bool.not_false, decide_eq_true_eq, gt_iff_lt, Int.reduceLT, Int.reduceLE, Int.reduceAdd, Int.reduceMul, Int.reduceSub, Nat.reduceLT, Nat.reduceLeDiff, Nat.reduceEqDiff, decide_true, decide_false, Bool.false_eq_true, Bool.true_or, Bool.or_true, Bool.and_true, Bool.true_and, Bool.false_and, Bool.and_false, Bool.false_or, Bool.or_false, D.noClo, D.noClos, beq_self_eq_true, tru_bl, tru_lst, Rof_some, Rneg_ok, seqD_l, seqD_t, itemsD_l, itemsD_t, itemsD_s, add_i, sub_i, mul_i, fdiv_i, mod_i, pow_i, add_s, add_l, add_t, eq_i, ne_i, eq_s, ne_s, eq_b, lt_i, gt_i, le_i, ge_i, le_s, gt_s, ge_s, lt_s, isn_n, isnt_n, isNone_n, isNone_i, isNone_s, isNone_t, isNone_l, isNone_b, isNone_o, inn_d, nin_d, idx_l, idx_t, idx_s, slc_l, slc_t, slc_s, len_l, len_t, len_s, abs_i, int_i, min2_i, max2_i, tuple_l, tuple_t, list_l, list_t, sorted_l, divmod_i, gcd_i, isi_b, isi_i, isi_s, isi_t, isi_l, isi_n, isi_o, isi_oc, isi_ic, isi_sc, isi_tc, atI_0, atI_1, atI_2, atI_3, atI_last, ixN_0, ixN_1, ixN_2, cut_hi, rng_n, asgT_nm, asgT_tp, asgT_tpl, ne_b, asgT_sub, asgTs_nil, asgTs_cons, bindN_nm, bindN_tp, bindNs_nil, bindNs_cons, sb_int_bool, sb_int_str, sb_int_tuple, sb_int_list, sb_int_NoneType, sb_bool_int, sb_bool_str, sb_bool_tuple, sb_bool_list, sb_bool_NoneType, sb_str_int, sb_str_bool, sb_str_tuple, sb_str_list, sb_str_NoneType, sb_tuple_int, sb_tuple_bool, sb_tuple_str, sb_tuple_list, sb_tuple_NoneType, sb_list_int, sb_list_bool, sb_list_str, sb_list_tuple, sb_list_NoneType, lim_0, lim_1, lim_2, lim_3, lim_4, lim_5, lim_6, lim_7, lim_8, lim_9, lim_10, lim_11, lim_12, Yld_ok, dII, dI, in_i2, ea, eb, decide_eq_false za, decide_eq_true zb, if_pos zb]
            · simp only [Pu.run, ev, evs, evi, evp, R.bind_ok', entry, endOf, getAll, permute_nil, permute_cons, fill, put, List.map_cons, List.map_nil, List.length_cons, List.length_nil, List.cons_append, List.nil_append, List.replicate_succ, List.replicate_zero, Nat.reduceAdd, Nat.reduceSub, List.getElem?_cons_zero, List.getElem?_cons_succ, List.getElem?_nil, List.set_cons_zero, List.set_cons_succ, Option.bind_some, Option.map_some, wipeE, backE, List.getD_cons_zero, List.getD_cons_succ, and_true, true_and, reduceIte, if_true, if_false, Option.getD_some, Option.getD_none, List.isEmpty_nil, List.isEmpty_cons, Bool.not_true, Bool.not_false, decide_eq_true_eq, gt_iff_lt, Int.reduceLT, Int.reduceLE, Int.reduceAdd, Int.reduceMul, Int.reduceSub, Nat.reduceLT, Nat.reduceLeDiff, Nat.reduceEqDiff, decide_true, decide_false, Bool.false_eq_true, Bool.true_or, Bool.or_true, Bool.and_true, Bool.true_and, Bool.false_and, Bool.and_false, Bool.false_or, Bool.or_false, D.noClo, D.noClos, beq_self_eq_true, tru_bl, tru_lst, Rof_some, Rneg_ok, seqD_l, seqD_t, itemsD_l, itemsD_t, itemsD_s, add_i, sub_i, mul_i, fdiv_i, mod_i, pow_i, add_s, add_l, add_t, eq_i, ne_i, eq_s, ne_s, eq_b, lt_i, gt_i, le_i, ge_i, le_s, gt_s, ge_s, lt_s, isn_n, isnt_n, isNone_n, isNone_i, isNone_s, isNone_t, isNone_l, isNone_b, isNone_o, inn_d, nin_d, idx_l, idx_t, idx_s, slc_l, slc_t, slc_s, len_l, len_t, len_s, abs_i, int_i, min2_i, max2_i, tuple_l, tuple_t, list_l, list_t, sorted_l, divmod_i, gcd_i, isi_b, isi_i, isi_s, isi_t, isi_l, isi_n, isi_o, isi_oc, isi_ic, isi_sc, isi_tc, atI_0, atI_1, atI_2, atI_3, atI_last, ixN_0, ixN_1, ixN_2, cut_hi, rng_n, asgT_nm, asgT_tp, asgT_tpl, ne_b, asgT_sub, asgTs_nil, asgTs_cons, bindN_nm, bindN_tp, bindNs_nil, bindNs_cons, sb_int_bool, sb_int_str, sb_int_tuple, sb_int_list, sb_int_NoneType, sb_bool_int, sb_bool_str, sb_bool_tuple, sb_bool_list, sb_bool_NoneType, sb_str_int, sb_str_bool, sb_str_tuple, sb_str_list, sb_str_NoneType, sb_tuple_int, sb_tuple_bool, sb_tuple_str, sb_tuple_list, sb_tuple_NoneType, sb_list_int, sb_list_bool, sb_list_str, sb_list_tuple, sb_list_NoneType, lim_0, lim_1, lim_2, lim_3, lim_4, lim_5, lim_6, lim_7, lim_8, lim_9, lim_10, lim_11, lim_12, Yld_ok, dII, dI, in_i2, ea, eb, decide_eq_false za, decide_eq_false zb, if_neg zb]
        · rw [hq]
          simp only [Pu.run, ev, evs, evi, evp, R.bind_ok', entry, endOf, getAll, permute_nil, permute_cons, fill, put, List.map_cons, List.map_nil, List.length_cons, List.length_nil, List.cons_append, List.nil_append, List.replicate_succ, List.replicate_zero, Nat.reduceAdd, Nat.reduceSub, List.getElem?_cons_zero, List.getElem?_cons_succ, List.getElem?_nil, List.set_cons_zero, List.set_cons_succ, Option.bind_some, Option.map_some, wipeE, backE, List.getD_cons_zero, List.getD_cons_succ, and_true, true_and, reduceIte, if_true, if_false, Option.getD_some, Option.getD_none, List.isEmpty_nil, List.isEmpty_cons, Bool.not_true, Bool.not_false, decide_eq_true_eq, gt_iff_lt, Int.reduceLT, Int.reduceLE, Int.reduceAdd, Int.reduceMul, Int.reduceSub, Nat.reduceLT, Nat.reduceLeDiff, Nat.reduceEqDiff, decide_true, decide_false, Bool.false_eq_true, Bool.true_or, Bool.or_true, Bool.and_true, Bool.true_and, Bool.false_and, Bool.and_false, Bool.false_or, Bool.or_false, D.noClo, D.noClos, beq_self_eq_true, tru_bl, tru_lst, Rof_some, Rneg_ok, seqD_l, seqD_t, itemsD_l, itemsD_t, itemsD_s, add_i, sub_i, mul_i, fdiv_i, mod_i, pow_i, add_s, add_l, add_t, eq_i, ne_i, eq_s, ne_s, eq_b, lt_i, gt_i, le_i, ge_i, le_s, gt_s, ge_s, lt_s, isn_n, isnt_n, isNone_n, isNone_i, isNone_s, isNone_t, isNone_l, isNone_b, isNone_o, inn_d, nin_d, idx_l, idx_t, idx_s, slc_l, slc_t, slc_s, len_l, len_t, len_s, abs_i, int_i, min2_i, max2_i, tuple_l, tuple_t, list_l, list_t, sorted_l, divmod_i, gcd_i, isi_b, isi_i, isi_s, isi_t, isi_l, isi_n, isi_o, isi_oc, isi_ic, isi_sc, isi_tc, atI_0, atI_1, atI_2, atI_3, atI_last, ixN_0, ixN_1, ixN_2, cut_hi, rng_n, asgT_nm, asgT_tp, asgT_tpl, ne_b, asgT_sub, asgTs_nil, asgTs_cons, bindN_nm, bindN_tp, bindNs_nil, bindNs_cons, sb_int_bool, sb_int_str, sb_int_tuple, sb_int_list, sb_int_NoneType, sb_bool_int, sb_bool_str, sb_bool_tuple, sb_bool_list, sb_bool_NoneType, sb_str_int, sb_str_bool, sb_str_tuple, sb_str_list, sb_str_NoneType, sb_tuple_int, sb_tuple_bool, sb_tuple_str, sb_tuple_list, sb_tuple_NoneType, sb_list_int, sb_list_bool, sb_list_str, sb_list_tuple, sb_list_NoneType, lim_0, lim_1, lim_2, lim_3, lim_4, lim_5, lim_6, lim_7, lim_8, lim_9, lim_10, lim_11, lim_12, Yld_ok, nearL, List.map_map, Function.comp_def]
      · rw [hq]
        simp only [Pu.run, ev, evs, evi, evp, R.bind_ok', entry, endOf, getAll, permute_nil, permute_cons, fill, put, List.map_cons, List.map_nil, List.length_cons, List.length_nil, List.cons_append, List.nil_append, List.replicate_succ, List.replicate_zero, Nat.reduceAdd, Nat.reduceSub, List.getElem?_cons_zero, List.getElem?_cons_succ, List.getElem?_nil, List.set_cons_zero, List.set_cons_succ, Option.bind_some, Option.map_some, wipeE, backE, List.getD_cons_zero, List.getD_cons_succ, and_true, true_and, reduceIte, if_true, if_false, Option.getD_some, Option.getD_none, List.isEmpty_nil, List.isEmpty_cons, Bool.not_true, Bool.not_false, decide_eq_true_eq, gt_iff_lt, Int.reduceLT, Int.reduceLE, Int.reduceAdd, Int.reduceMul, Int.reduceSub, Nat.reduceLT, Nat.reduceLeDiff, Nat.reduceEqDiff, decide_true, decide_false, Bool.false_eq_true, Bool.true_or, Bool.or_true, Bool.and_true, Bool.true_and, Bool.false_and, Bool.and_false, Bool.false_or, Bool.or_false, D.noClo, D.noClos, beq_self_eq_true, tru_bl, tru_lst, Rof_some, Rneg_ok, seqD_l, seqD_t, itemsD_l, itemsD_t, itemsD_s, add_i, sub_i, mul_i, fdiv_i, mod_i, pow_i, add_s, add_l, add_t, eq_i, ne_i, eq_s, ne_s, eq_b, lt_i, gt_i, le_i, ge_i, le_s, gt_s, ge_s, lt_s, isn_n, isnt_n, isNone_n, isNone_i, isNone_s, isNone_t, isNone_l, isNone_b, isNone_o, inn_d, nin_d, idx_l, idx_t, idx_s, slc_l, slc_t, slc_s, len_l, len_t, len_s, abs_i, int_i, min2_i, max2_i, tuple_l, tuple_t, list_l, list_t, sorted_l, divmod_i, gcd_i, isi_b, isi_i, isi_s, isi_t, isi_l, isi_n, isi_o, isi_oc, isi_ic, isi_sc, isi_tc, atI_0, atI_1, atI_2, atI_3, atI_last, ixN_0, ixN_1, ixN_2, cut_hi, rng_n, asgT_nm, asgT_tp, asgT_tpl, ne_b, asgT_sub, asgTs_nil, asgTs_cons, bindN_nm, bindN_tp, bindNs_nil, bindNs_cons, sb_int_bool, sb_int_str, sb_int_tuple, sb_int_list, sb_int_NoneType, sb_bool_int, sb_bool_str, sb_bool_tuple, sb_bool_list, sb_bool_NoneType, sb_str_int, sb_str_bool, sb_str_tuple, sb_str_list, sb_str_NoneType, sb_tuple_int, sb_tuple_bool, sb_tuple_str, sb_tuple_list, sb_tuple_NoneType, sb_list_int, sb_list_bool, sb_list_str, sb_list_tuple, sb_list_NoneType, lim_0, lim_1, lim_2, lim_3, lim_4, lim_5, lim_6, lim_7, lim_8, lim_9, lim_10, lim_11, lim_12, Yld_ok, nearD]
  exact Yld_eq key
end K08

set_option Elab.async false
set_option linter.all false
set_option maxRecDepth 100000
set_option maxHeartbeats 4000000
set_option autoImplicit false
namespace K08
open PySem Pu
section
variable {F : List Str} {T : List (Str × Str)} {w : D} {n : Nat} {S : List Str} {i : Nat}
/-! by the law -/
theorem eqv_pr (a b : Str × Str) : PyData.eqv (pPr a) (pPr b) = decide (a = b) := by
  rw [pPr, pPr, PyData.eqv, PySem.W.eqv_all_cons, PySem.W.eqv_all_cons, eqv_str, eqv_str, eqv_all_nil]
  exact Bool.eq_iff_iff.mpr (by simp [Prod.ext_iff])
theorem depth_prs : ∀ l : List (Str × Str), PyData.depthAll (l.map pPr) ≤ 3
  | [] => by rw [List.map_nil, PyData.depthAll]; omega
  | x :: l => by
    have := depth_prs l
    rw [List.map_cons, PyData.depthAll, pPr, PyData.depth]
    simp [PyData.depthAll, PyData.depth]
    omega
theorem in_p (t : Str × Str) (l : List (Str × Str)) : inD (dPr t) (.tup (l.map dPr)) = .ok (decide (t ∈ l)) := by
  have h : min (PyData.depthAll (l.map pPr)) (pPr t).depth ≤ 60 := by
    have := depth_prs l
    omega
  rw [inD]
  unfold inSeq
  rw [pysOfMap py_pr, py_pr]
  simp only []
  rw [if_pos h, List.any_map]
  congr 1
  clear h
  induction l with
  | nil => simp
  | cons a l ih =>
    rw [List.any_cons, ih]
    simp only [Function.comp, eqv_pr, List.mem_cons, eq_comm (a := t)]
    simp [Bool.decide_or]
theorem law_beside_ok (h : StOk F T w n) (hi : i < n) (k : Nat) : (calls P (k + 1)).call n_law_beside [streetD F T w, .int (i : Int)] = .ok (.lst ((nb F T i).map dI), []) := by
  have hn := h.fo.len
  have h7 := h.hi
  rw [call_eq (F := f_law_beside) rfl rfl rfl]
  have hrg : rngD (.int 0) (.int (F.length : Int)) = .ok ((List.range F.length).map fun (k : Nat) => .int (k : Int)) := rng_n (by rw [lim]; omega)
  have key : Yld ((run (calls P k) f_law_beside.body (entry f_law_beside.sz [streetD F T w, .int (i : Int)])).bind fun fl => endOf f_law_beside.own f_law_beside.mp fl) fun q => q = (.lst ((nb F T i).map dI), []) := by
    simp only [f_law_beside, Pu.run, ev, evs, evi, evp, R.bind_ok', entry, endOf, getAll, permute_nil, permute_cons, fill, put, List.map_cons, List.map_nil, List.length_cons, List.length_nil, List.cons_append, List.nil_append, List.replicate_succ, List.replicate_zero, Nat.reduceAdd, Nat.reduceSub, List.getElem?_cons_zero, List.getElem?_cons_succ, List.getElem?_nil, List.set_cons_zero, List.set_cons_succ, Option.bind_some, Option.map_some, wipeE, backE, List.getD_cons_zero, List.getD_cons_succ, and_true, true_and, reduceIte, if_true, if_false, Option.getD_some, Option.getD_none, List.isEmpty_nil, List.isEmpty_cons, Bool.not_true, Bool.not_false, decide_eq_true_eq, gt_iff_lt, Int.reduceLT, Int.reduceLE, Int.reduceAdd, Int.reduceMul, Int.reduceSub, Nat.reduceLT, Nat.reduceLeDiff, Nat.reduceEqDiff, decide_true, decide_false, Bool.false_eq_true, Bool.true_or, Bool.or_true, Bool.and_true, Bool.true_and, Bool.false_and, Bool.and_false, Bool.false_or, Bool.or_false, D.noClo, D.noClos, beq_self_eq_true, tru_bl, tru_lst, Rof_some, Rneg_ok, seqD_l, seqD_t, itemsD_l, itemsD_t, itemsD_s, add_i, sub_i, mul_i, fdiv_i, mod_i, pow_i, add_s, add_l, add_t, eq_i, ne_i, eq_s, ne_s, eq_b, lt_i, gt_i, le_i, ge_i, le_s, gt_s, ge_s, lt_s, isn_n, isnt_n, isNone_n, isNone_i, isNone_s, isNone_t, isNone_l, isNone_b, isNone_o, inn_d, nin_d, idx_l, idx_t, idx_s, slc_l, slc_t, slc_s, len_l, len_t, len_s, abs_i, int_i, min2_i, max2_i, tuple_l, tuple_t, list_l, list_t, sorted_l, divmod_i, gcd_i, isi_b, isi_i, isi_s, isi_t, isi_l, isi_n, isi_o, isi_oc, isi_ic, isi_sc, isi_tc, atI_0, atI_1, atI_2, atI_3, atI_last, ixN_0, ixN_1, ixN_2, cut_hi, rng_n, asgT_nm, asgT_tp, asgT_tpl, ne_b, asgT_sub, asgTs_nil, asgTs_cons, bindN_nm, bindN_tp, bindNs_nil, bindNs_cons, sb_int_bool, sb_int_str, sb_int_tuple, sb_int_list, sb_int_NoneType, sb_bool_int, sb_bool_str, sb_bool_tuple, sb_bool_list, sb_bool_NoneType, sb_str_int, sb_str_bool, sb_str_tuple, sb_str_list, sb_str_NoneType, sb_tuple_int, sb_tuple_bool, sb_tuple_str, sb_tuple_list, sb_tuple_NoneType, sb_list_int, sb_list_bool, sb_list_str, sb_list_tuple, sb_list_NoneType, lim_0, lim_1, lim_2, lim_3, lim_4, lim_5, lim_6, lim_7, lim_8, lim_9, lim_10, lim_11, lim_12, Yld_ok, streetD, atI_0, List.length_map, hrg]
    try simp only [R.bind_bind]
    refine Yld.bind (lc_filterY rfl (fun (k : Nat) => .int (k : Int)) dI (fun j => decide ((nmF F i, nmF F j) ∈ T ∨ (nmF F j, nmF F i) ∈ T)) fun j hj => ?_) fun q hq => ?_
    · have hj := List.mem_range.mp hj
      have e1 := in_p (nmF F i, nmF F j) T
      have e2 := in_p (nmF F j, nmF F i) T
      simp only [dPr] at e1 e2
      by_cases z1 : (nmF F i, nmF F j) ∈ T
      · simp only [Pu.run, ev, evs, evi, evp, R.bind_ok', entry, endOf, getAll, permute_nil, permute_cons, fill, put, List.map_cons, List.map_nil, List.length_cons, List.length_nil, List.cons_append, List.nil_append, List.replicate_succ, List.replicate_zero, Nat.reduceAdd, Nat.reduceSub, List.getElem?_cons_zero, List.getElem?_cons_succ, List.getElem?_nil, List.set_cons_zero, List.set_cons_succ, Option.bind_some, Option.map_some, wipeE, backE, List.getD_cons_zero, List.getD_cons_succ, and_true, true_and, reduceIte, if_true, if_false, Option.getD_some, Option.getD_none, List.isEmpty_nil, List.isEmpty_cons, Bool.not_true, Bool.not_false, decide_eq_true_eq, gt_iff_lt, Int.reduceLT, Int.reduceLE, Int.reduceAdd, Int.reduceMul, Int.reduceSub, Nat.reduceLT, Nat.reduceLeDiff, Nat.reduceEqDiff, decide_true, decide_false, Bool.false_eq_true, Bool.true_or, Bool.or_true, Bool.and_true, Bool.true_and, Bool.false_and, Bool.and_false, Bool.false_or, Bool.or_false, D.noClo, D.noClos, beq_self_eq_true, tru_bl, tru_lst, Rof_some, Rneg_ok, seqD_l, seqD_t, itemsD_l, itemsD_t, itemsD_s, add_i, sub_i, mul_i, fdiv_i, mod_i, pow_i, add_s, add_l, add_t, eq_i, ne_i, eq_s, ne_s, eq_b, lt_i, gt_i, le_i, ge_i, le_s, gt_s, ge_s, lt_s, isn_n, isnt_n, isNone_n, isNone_i, isNone_s, isNone_t, isNone_l, isNone_b, isNone_o, inn_d, nin_d, idx_l, idx_t, idx_s, slc_l, slc_t, slc_s, len_l, len_t, len_s, abs_i, int_i, min2_i, max2_i, tuple_l, tuple_t, list_l, list_t, sorted_l, divmod_i, gcd_i, isi_b, isi_i, isi_s, isi_t, isi_l, isi_n, isi_o, isi_oc, isi_ic, isi_sc, isi_tc, atI_0, atI_1, atI_2, atI_3, atI_last, ixN_0, ixN_1, ixN_2, cut_hi, rng_n, asgT_nm, asgT_tp, asgT_tpl, ne_b, asgT_sub, asgTs_nil, asgTs_cons, bindN_nm, bindN_tp, bindNs_nil, bindNs_cons, sb_int_bool, sb_int_str, sb_int_tuple, sb_int_list, sb_int_NoneType, sb_bool_int, sb_bool_str, sb_bool_tuple, sb_bool_list, sb_bool_NoneType, sb_str_int, sb_str_bool, sb_str_tuple, sb_str_list, sb_str_NoneType, sb_tuple_int, sb_tuple_bool, sb_tuple_str, sb_tuple_list, sb_tuple_NoneType, sb_list_int, sb_list_bool, sb_list_str, sb_list_tuple, sb_list_NoneType, lim_0, lim_1, lim_2, lim_3, lim_4, lim_5, lim_6, lim_7, lim_8, lim_9, lim_10, lim_11, lim_12, Yld_ok, atI_nat, atI_1, nth_get hj, nth_get (show i < F.length by omega), dS_eq, show ∀ i, F.getD i "" = nmF F i from fun _ => rfl, e1, decide_eq_true z1, decide_eq_true (show (nmF F i, nmF F j) ∈ T ∨ (nmF F j, nmF F i) ∈ T from .inl z1), dI]
      · by_cases z2 : (nmF F j, nmF F i) ∈ T
        · simp only [Pu.run, ev, evs, evi, evp, R.bind_ok', entry, endOf, getAll, permute_nil, permute_cons, fill, put, List.map_cons, List.map_nil, List.length_cons, List.length_nil, List.cons_append, List.nil_append, List.replicate_succ, List.replicate_zero, Nat.reduceAdd, Nat.reduceSub, List.getElem?_cons_zero, List.getElem?_cons_succ, List.getElem?_nil, List.set_cons_zero, List.set_cons_succ, Option.bind_some, Option.map_some, wipeE, backE, List.getD_cons_zero, List.getD_cons_succ, and_true, true_and, reduceIte, if_true, if_false, Option.getD_some, Option.getD_none, List.isEmpty_nil, List.isEmpty_cons, Bool.not_true, Bool.not_false, decide_eq_true_eq, gt_iff_lt, Int.reduceLT, Int.reduceLE, Int.reduceAdd, Int.reduceMul, Int.reduceSub, Nat.reduceLT, Nat.reduceLeDiff, Nat.reduceEqDiff, decide_true, decide_false, Bool.false_eq_true, Bool.true_or, Bool.or_true, Bool.and_true, Bool.true_and, Bool.false_and, Bool.and_false, Bool.false_or, Bool.or_false, D.noClo, D.noClos, beq_self_eq_true, tru_bl, tru_lst, Rof_some, Rneg_ok, seqD_l, seqD_t, itemsD_l, itemsD_t, itemsD_s, add_i, sub_i, mul_i, fdiv_i, mod_i, pow_i, add_s, add_l, add_t, eq_i, ne_i, eq_s, ne_s, eq_b, lt_i, gt_i, le_i, ge_i, le_s, gt_s, ge_s, lt_s, isn_n, isnt_n, isNone_n, isNone_i, isNone_s, isNone_t, isNone_l, isNone_b, isNone_o, inn_d, nin_d, idx_l, idx_t, idx_s, slc_l, slc_t, slc_s, len_l, len_t, len_s, abs_i, int_i, min2_i, max2_i, tuple_l, tuple_t, list_l, list_t, sorted_l, divmod_i, gcd_i, isi_b, isi_i, isi_s, isi_t, isi_l, isi_n, isi_o, isi_oc, isi_ic, isi_sc, isi_tc, atI_0, atI_1, atI_2, atI_3, atI_last, ixN_0, ixN_1, ixN_2, cut_hi, rng_n, asgT_nm, asgT_tp, asgT_tpl, ne_b, asgT_sub, asgTs_nil, asgTs_cons, bindN_nm, bindN_tp, bindNs_nil, bindNs_cons, sb_int_bool, sb_int_str, sb_int_tuple, sb_int_list, sb_int_NoneType, sb_bool_int, sb_bool_str, sb_bool_tuple, sb_bool_list, sb_bool_NoneType, sb_str_int, sb_str_bool, sb_str_tuple, sb_str_list, sb_str_NoneType, sb_tuple_int, sb_tuple_bool, sb_tuple_str, sb_tuple_list, sb_tuple_NoneType, sb_list_int, sb_list_bool, sb_list_str, sb_list_tuple, sb_list_NoneType, lim_0, lim_1, lim_2, lim_3, lim_4, lim_5, lim_6, lim_7, lim_8, lim_9, lim_10, lim_11, lim_12, Yld_ok, atI_nat, atI_1, nth_get hj, nth_get (show i < F.length by omega), dS_eq, show ∀ i, F.getD i "" = nmF F i from fun _ => rfl, e1, e2, decide_eq_false z1, decide_eq_true z2, decide_eq_true (show (nmF F i, nmF F j) ∈ T ∨ (nmF F j, nmF F i) ∈ T from .inr z2), dI]
        · simp only [Pu.run, ev, evs, evi, evp, R.bind_ok', entry, endOf, getAll, permute_nil, permute_cons, fill, put, List.map_cons, List.map_nil, List.length_cons, List.length_nil, List.cons_append, List.nil_append, List.replicate_succ, List.replicate_zero, Nat.reduceAdd, Nat.reduceSub, List.getElem?_cons_zero, List.getElem?_cons_succ, List.getElem?_nil, List.set_cons_zero, List.set_cons_succ, Option.bind_some, Option.map_some, wipeE, backE, List.getD_cons_zero, List.getD_cons_succ, and_true, true_and, reduceIte, if_true, if_false, Option.getD_some, Option.getD_none, List.isEmpty_nil, List.isEmpty_cons, Bool.not_true, Bool.not_false, decide_eq_true_eq, gt_iff_lt, Int.reduceLT, Int.reduceLE, Int.reduceAdd, Int.reduceMul, Int.reduceSub, Nat.reduceLT, Nat.reduceLeDiff, Nat.reduceEqDiff, decide_true, decide_false, Bool.false_eq_true, Bool.true_or, Bool.or_true, Bool.and_true, Bool.true_and, Bool.false_and, Bool.and_false, Bool.false_or, Bool.or_false, D.noClo, D.noClos, beq_self_eq_true, tru_bl, tru_lst, Rof_some, Rneg_ok, seqD_l, seqD_t, itemsD_l, itemsD_t, itemsD_s, add_i, sub_i, mul_i, fdiv_i, mod_i, pow_i, add_s, add_l, add_t, eq_i, ne_i, eq_s, ne_s, eq_b, lt_i, gt_i, le_i, ge_i, le_s, gt_s, ge_s, lt_s, isn_n, isnt_n, isNone_n, isNone_i, isNone_s, isNone_t, isNone_l, isNone_b, isNone_o, inn_d, nin_d, idx_l, idx_t, idx_s, slc_l, slc_t, slc_s, len_l, len_t, len_s, abs_i, int_i, min2_i, max2_i, tuple_l, tuple_t, list_l, list_t, sorted_l, divmod_i, gcd_i, isi_b, isi_i, isi_s, isi_t, isi_l, isi_n, isi_o, isi_oc, isi_ic, isi_sc, isi_tc, atI_0, atI_1, atI_2, atI_3, atI_last, ixN_0, ixN_1, ixN_2, cut_hi, rng_n, asgT_nm, asgT_tp, asgT_tpl, ne_b, asgT_sub, asgTs_nil, asgTs_cons, bindN_nm, bindN_tp, bindNs_nil, bindNs_cons, sb_int_bool, sb_int_str, sb_int_tuple, sb_int_list, sb_int_NoneType, sb_bool_int, sb_bool_str, sb_bool_tuple, sb_bool_list, sb_bool_NoneType, sb_str_int, sb_str_bool, sb_str_tuple, sb_str_list, sb_str_NoneType, sb_tuple_int, sb_tuple_bool, sb_tuple_str, sb_tuple_list, sb_tuple_NoneType, sb_list_int, sb_list_bool, sb_list_str, sb_list_tuple, sb_list_NoneType, lim_0, lim_1, lim_2, lim_3, lim_4, lim_5, lim_6, lim_7, lim_8, lim_9, lim_10, lim_11, lim_12, Yld_ok, atI_nat, atI_1, nth_get hj, nth_get (show i < F.length by omega), dS_eq, show ∀ i, F.getD i "" = nmF F i from fun _ => rfl, e1, e2, decide_eq_false z1, decide_eq_false z2, decide_eq_false (show ¬ ((nmF F i, nmF F j) ∈ T ∨ (nmF F j, nmF F i) ∈ T) from fun z => z.elim z1 z2), dI]
    · rw [hq]
      simp only [Pu.run, ev, evs, evi, evp, R.bind_ok', entry, endOf, getAll, permute_nil, permute_cons, fill, put, List.map_cons, List.map_nil, List.length_cons, List.length_nil, List.cons_append, List.nil_append, List.replicate_succ, List.replicate_zero, Nat.reduceAdd, Nat.reduceSub, List.getElem?_cons_zero, List.getElem?_cons_succ, List.getElem?_nil, List.set_cons_zero, List.set_cons_succ, Option.bind_some, Option.map_some, wipeE, backE, List.getD_cons_zero, List.getD_cons_succ, and_true, true_and, reduceIte, if_true, if_false, Option.getD_some, Option.getD_none, List.isEmpty_nil, List.isEmpty_cons, Bool.not_true, Bool.not_false, decide_eq_true_eq, gt_iff_lt, Int.reduceLT, Int.reduceLE, Int.reduceAdd, Int.reduceMul, Int.reduceSub, Nat.reduceLT, Nat.reduceLeDiff, Nat.reduceEqDiff, decide_true, decide_false, Bool.false_eq_true, Bool.true_or, Bool.or_true, Bool.and_true, Bool.true_and, Bool.false_and, Bool.and_false, Bool.false_or, Bool.or_false, D.noClo, D.noClos, beq_self_eq_true, tru_bl, tru_lst, Rof_some, Rneg_ok, seqD_l, seqD_t, itemsD_l, itemsD_t, itemsD_s, add_i, sub_i, mul_i, fdiv_i, mod_i, pow_i, add_s, add_l, add_t, eq_i, ne_i, eq_s, ne_s, eq_b, lt_i, gt_i, le_i, ge_i, le_s, gt_s, ge_s, lt_s, isn_n, isnt_n, isNone_n, isNone_i, isNone_s, isNone_t, isNone_l, isNone_b, isNone_o, inn_d, nin_d, idx_l, idx_t, idx_s, slc_l, slc_t, slc_s, len_l, len_t, len_s, abs_i, int_i, min2_i, max2_i, tuple_l, tuple_t, list_l, list_t, sorted_l, divmod_i, gcd_i, isi_b, isi_i, isi_s, isi_t, isi_l, isi_n, isi_o, isi_oc, isi_ic, isi_sc, isi_tc, atI_0, atI_1, atI_2, atI_3, atI_last, ixN_0, ixN_1, ixN_2, cut_hi, rng_n, asgT_nm, asgT_tp, asgT_tpl, ne_b, asgT_sub, asgTs_nil, asgTs_cons, bindN_nm, bindN_tp, bindNs_nil, bindNs_cons, sb_int_bool, sb_int_str, sb_int_tuple, sb_int_list, sb_int_NoneType, sb_bool_int, sb_bool_str, sb_bool_tuple, sb_bool_list, sb_bool_NoneType, sb_str_int, sb_str_bool, sb_str_tuple, sb_str_list, sb_str_NoneType, sb_tuple_int, sb_tuple_bool, sb_tuple_str, sb_tuple_list, sb_tuple_NoneType, sb_list_int, sb_list_bool, sb_list_str, sb_list_tuple, sb_list_NoneType, lim_0, lim_1, lim_2, lim_3, lim_4, lim_5, lim_6, lim_7, lim_8, lim_9, lim_10, lim_11, lim_12, Yld_ok, nb]
  exact Yld_eq key
end
end K08

set_option Elab.async false
set_option linter.all false
set_option maxRecDepth 100000
set_option maxHeartbeats 4000000
set_option autoImplicit false
namespace K08
open PySem Pu
/-! helpers -/
theorem for_acc {α β : Type} {t : N} {body : Env' → R Fl} (f : α → D) (g : α → List β) (E : List β → Env' → Prop) (B : Nat) : ∀ {l : List α} {acc : List β} {ρ : Env'}, (acc ++ l.flatMap g).length ≤ B → E acc ρ →
    (∀ a ∈ l, ∀ acc ρ, (acc ++ g a).length ≤ B → E acc ρ → Yld (bindN t (f a) ρ) fun ρ1 => Yld (body ρ1) fun fl => ∃ ρ2, fl = .nx ρ2 ∧ E (acc ++ g a) ρ2) → Yld (forLoop t body (l.map f) ρ) fun fl => ∃ ρ2, fl = .nx ρ2 ∧ E (acc ++ l.flatMap g) ρ2
  | [], acc, ρ, _, h, _ => .ok ⟨ρ, rfl, by simpa using h⟩
  | a :: l, acc, ρ, hB, h, s => by
    rw [List.map_cons, forLoop]
    rw [List.flatMap_cons, ← List.append_assoc] at hB ⊢
    refine (s a List.mem_cons_self acc ρ (by rw [List.length_append] at hB; omega) h).bind fun ρ1 h1 => h1.bind fun fl ⟨ρ2, e, h2⟩ => ?_
    subst e
    exact for_acc f g E B hB h2 fun x hx => s x (List.mem_cons_of_mem _ hx)
theorem flat_len {α β : Type} {g : α → List β} {c : Nat} : ∀ {l : List α}, (∀ a ∈ l, (g a).length ≤ c) → (l.flatMap g).length ≤ l.length * c
  | [], _ => by simp
  | a :: l, h => by
    have := flat_len fun x hx => h x (List.mem_cons_of_mem _ hx)
    have := h a List.mem_cons_self
    rw [List.flatMap_cons, List.length_append, List.length_cons, Nat.succ_mul]
    omega
theorem lt_str {a b : Str} (h : Slt a b) : PySem.W.dataLt (.str a) (.str b) = true := by
  rw [PySem.W.dataLt_str, decide_eq_true h]
theorem al_str (a b : Str) : PySem.W.alike (.str a) (.str b) = true := by rw [PySem.W.alike]
theorem tr_cons (x y : Str) (xs ys : List PyData) : PyProof.Rows.lexLt PyProof.Rows.itemOrd (PySem.W.keyToksAll (.str x :: xs)) (PySem.W.keyToksAll (.str y :: ys)) = if x = y then PyProof.Rows.lexLt PyProof.Rows.itemOrd (PySem.W.keyToksAll xs) (PySem.W.keyToksAll ys) else PySem.W.dataLt (.str x) (.str y) := by
  rw [PySem.W.dataLt_cons (al_str x y), eqv_str]
  by_cases z : x = y
  · rw [if_pos z, if_pos (decide_eq_true z)]
  · rw [if_neg z, if_neg (by simpa using z)]
theorem cut_lo {α : Type} {l : List α} {s : Nat} : cutD l (some (s : Int)) none = l.drop s := by
  unfold cutD
  rw [HT.sIx_nat, HT.sIx_none]
  rcases Nat.le_total s l.length with z | z
  · rw [Nat.min_eq_left z, List.take_of_length_le (by rw [List.length_drop]; exact Nat.le_refl _)]
  · rw [Nat.min_eq_right z, List.drop_length, List.drop_of_length_le z]
    simp
section
variable {F : List Str}
/-! every tie -/
def fullG (F : List Str) (a : Str) : List (Str × Str) := (F.filter fun b => decide (a.cps.toList < b.cps.toList)).map fun b => (a, b)
def fullT (F : List Str) : List (Str × Str) := F.flatMap (fullG F)
theorem full_mem {a b : Str} : (a, b) ∈ fullT F ↔ a ∈ F ∧ b ∈ F ∧ Slt a b := by
  unfold fullT fullG
  rw [List.mem_flatMap]
  constructor
  · rintro ⟨x, hx, h⟩
    obtain ⟨y, hy, e⟩ := List.mem_map.mp h
    cases e
    obtain ⟨y1, y2⟩ := List.mem_filter.mp hy
    exact ⟨hx, y1, of_decide_eq_true y2⟩
  · rintro ⟨h1, h2, h3⟩
    exact ⟨a, h1, List.mem_map.mpr ⟨b, List.mem_filter.mpr ⟨h2, decide_eq_true h3⟩, rfl⟩⟩
theorem pr_lt1 {a b : Str × Str} (h : Slt a.1 b.1) : PySem.W.dataLt (pPr a) (pPr b) = true := by
  rw [pPr, pPr, PySem.W.dataLt_tuple, tr_cons, if_neg (slt_ne h)]
  exact lt_str h
theorem pr_lt2 {a b : Str × Str} (e : a.1 = b.1) (h : Slt a.2 b.2) : PySem.W.dataLt (pPr a) (pPr b) = true := by
  rw [pPr, pPr, PySem.W.dataLt_tuple, tr_cons, if_pos e, tr_cons, if_neg (slt_ne h)]
  exact lt_str h
theorem fullG_len (a : Str) : (fullG F a).length ≤ F.length := by
  unfold fullG
  rw [List.length_map]
  exact List.length_filter_le _ _
theorem full_ok (hs : F.Pairwise Slt) (h7 : F.length ≤ 7) : TiesOk F (fullT F) := by
  refine ⟨?_, fun t ht => full_mem.mp ht, ?_⟩
  · unfold fullT
    rw [List.pairwise_flatMap]
    refine ⟨fun a _ => ?_, hs.imp fun {a b} hab x hx y hy => ?_⟩
    · unfold fullG
      rw [List.pairwise_map]
      exact List.Pairwise.imp (R := Slt) (fun {x y} z => pr_lt2 (a := (a, x)) (b := (a, y)) rfl z) (hs.filter _)
    · unfold fullG at hx hy
      obtain ⟨x', _, rfl⟩ := List.mem_map.mp hx
      obtain ⟨y', _, rfl⟩ := List.mem_map.mp hy
      exact pr_lt1 hab
  · have := flat_len (g := fullG F) (c := 7) (l := F) fun a _ => Nat.le_trans (fullG_len a) h7
    unfold fullT
    omega
end
/-! ### even streets -/
theorem ints_fold_min : ∀ (l : List Int) (a : Int), ∃ m : Int, (l.map D.int).foldl (fun a y => if PySem.W.dataLt (pyd y) (pyd a) then y else a) (D.int a) = D.int m ∧ (m = a ∨ m ∈ l) ∧ m ≤ a ∧ ∀ x ∈ l, m ≤ x
  | [], a => ⟨a, rfl, .inl rfl, Int.le_refl a, fun x hx => (nomatch hx)⟩
  | y :: l, a => by
    have e : PySem.W.dataLt (pyd (D.int y)) (pyd (D.int a)) = decide (y < a) := by
      rw [pyd, pyd, D.py, D.py]
      exact PySem.W.dataLt_int y a
    rw [List.map_cons, List.foldl_cons, e]
    by_cases h : y < a
    · rw [decide_eq_true h, if_pos rfl]
      obtain ⟨m, e1, e2, e3, e4⟩ := ints_fold_min l y
      refine ⟨m, e1, .inr ?_, by omega, fun x hx => ?_⟩
      · rcases e2 with rfl | e2
        · exact List.mem_cons_self
        · exact List.mem_cons_of_mem _ e2
      · rcases List.mem_cons.mp hx with rfl | hx
        · exact e3
        · exact e4 x hx
    · rw [decide_eq_false h, if_neg (by simp)]
      obtain ⟨m, e1, e2, e3, e4⟩ := ints_fold_min l a
      refine ⟨m, e1, ?_, e3, fun x hx => ?_⟩
      · rcases e2 with rfl | e2
        · exact .inl rfl
        · exact .inr (List.mem_cons_of_mem _ e2)
      · rcases List.mem_cons.mp hx with rfl | hx
        · omega
        · exact e4 x hx
theorem ints_fold_max : ∀ (l : List Int) (a : Int), ∃ m : Int, (l.map D.int).foldl (fun a y => if PySem.W.dataLt (pyd a) (pyd y) then y else a) (D.int a) = D.int m ∧ (m = a ∨ m ∈ l) ∧ a ≤ m ∧ ∀ x ∈ l, x ≤ m
  | [], a => ⟨a, rfl, .inl rfl, Int.le_refl a, fun x hx => (nomatch hx)⟩
  | y :: l, a => by
    have e : PySem.W.dataLt (pyd (D.int a)) (pyd (D.int y)) = decide (a < y) := by
      rw [pyd, pyd, D.py, D.py]
      exact PySem.W.dataLt_int a y
    rw [List.map_cons, List.foldl_cons, e]
    by_cases h : a < y
    · rw [decide_eq_true h, if_pos rfl]
      obtain ⟨m, e1, e2, e3, e4⟩ := ints_fold_max l y
      refine ⟨m, e1, .inr ?_, by omega, fun x hx => ?_⟩
      · rcases e2 with rfl | e2
        · exact List.mem_cons_self
        · exact List.mem_cons_of_mem _ e2
      · rcases List.mem_cons.mp hx with rfl | hx
        · exact e3
        · exact e4 x hx
    · rw [decide_eq_false h, if_neg (by simp)]
      obtain ⟨m, e1, e2, e3, e4⟩ := ints_fold_max l a
      refine ⟨m, e1, ?_, e3, fun x hx => ?_⟩
      · rcases e2 with rfl | e2
        · exact .inl rfl
        · exact .inr (List.mem_cons_of_mem _ e2)
      · rcases List.mem_cons.mp hx with rfl | hx
        · omega
        · exact e4 x hx
theorem pys_ints (l : List Int) : D.pys (l.map D.int) = some (l.map PyData.int) := pysOfMap (fun i => by rw [D.py]) l
theorem rank_ints (l : List Int) : rankOk (l.map PyData.int) = true := by
  unfold rankOk
  rw [Bool.and_eq_true_iff, Bool.and_eq_true_iff]
  refine ⟨⟨?_, ?_⟩, ?_⟩
  · refine List.all_eq_true.mpr fun p hp => List.all_eq_true.mpr fun q hq => ?_
    obtain ⟨a, _, rfl⟩ := List.mem_map.mp hp
    obtain ⟨b, _, rfl⟩ := List.mem_map.mp hq
    rw [PySem.W.alike]
  · refine List.all_eq_true.mpr fun p hp => ?_
    obtain ⟨a, _, rfl⟩ := List.mem_map.mp hp
    rfl
  · refine List.all_eq_true.mpr fun p hp => ?_
    obtain ⟨a, _, rfl⟩ := List.mem_map.mp hp
    exact decide_eq_true (by rw [PyData.depth]; omega)
theorem min_ints {l : List Int} (h : l ≠ []) : ∃ m, biD .min [.lst (l.map D.int)] = .ok (.int m) ∧ m ∈ l ∧ ∀ x ∈ l, m ≤ x := by
  cases l with
  | nil => exact absurd rfl h
  | cons a l =>
    obtain ⟨m, e1, e2, e3, e4⟩ := ints_fold_min l a
    refine ⟨m, ?_, ?_, fun x hx => ?_⟩
    · show (match D.pys ((a :: l).map D.int) with
        | some ps => if rankOk ps then R.ok (leastD (.int a) (l.map D.int)) else .bad
        | none => .bad) = _
      rw [pys_ints]
      show (if rankOk ((a :: l).map PyData.int) = true then R.ok (leastD (.int a) (l.map D.int)) else .bad) = _
      rw [rank_ints, if_pos rfl]
      exact congrArg R.ok e1
    · rcases e2 with rfl | e2
      · exact List.mem_cons_self
      · exact List.mem_cons_of_mem _ e2
    · rcases List.mem_cons.mp hx with rfl | hx
      · exact e3
      · exact e4 x hx
theorem max_ints {l : List Int} (h : l ≠ []) : ∃ m, biD .max [.lst (l.map D.int)] = .ok (.int m) ∧ m ∈ l ∧ ∀ x ∈ l, x ≤ m := by
  cases l with
  | nil => exact absurd rfl h
  | cons a l =>
    obtain ⟨m, e1, e2, e3, e4⟩ := ints_fold_max l a
    refine ⟨m, ?_, ?_, fun x hx => ?_⟩
    · show (match D.pys ((a :: l).map D.int) with
        | some ps => if rankOk ps then R.ok (mostD (.int a) (l.map D.int)) else .bad
        | none => .bad) = _
      rw [pys_ints]
      show (if rankOk ((a :: l).map PyData.int) = true then R.ok (mostD (.int a) (l.map D.int)) else .bad) = _
      rw [rank_ints, if_pos rfl]
      exact congrArg R.ok e1
    · rcases e2 with rfl | e2
      · exact List.mem_cons_self
      · exact List.mem_cons_of_mem _ e2
    · rcases List.mem_cons.mp hx with rfl | hx
      · exact e3
      · exact e4 x hx
/-- all numbers are one -/
def evenB (l : List Int) : Bool := l.all fun x => l.all fun y => decide (x = y)
theorem even_iff {l : List Int} : evenB l = true ↔ ∀ x ∈ l, ∀ y ∈ l, x = y := by
  unfold evenB
  rw [List.all_eq_true]
  constructor
  · intro h x hx y hy
    exact of_decide_eq_true (List.all_eq_true.mp (h x hx) y hy)
  · intro h x hx
    exact List.all_eq_true.mpr fun y hy => decide_eq_true (h x hx y hy)
theorem met_nodup (val : Nat → Int) : ∀ i, (PyProof.Rows.firstMet val i).Nodup
  | 0 => List.nodup_nil
  | i + 1 => by
    rw [PyProof.Rows.firstMet_succ]
    unfold PyProof.Rows.step_dedup
    have ih := met_nodup val i
    split
    · exact ih
    · rename_i h
      rw [List.nodup_append]
      refine ⟨ih, by simp, fun a ha b hb e => h ?_⟩
      rw [List.mem_singleton] at hb
      subst hb
      subst e
      exact List.any_eq_true.mpr ⟨_, ha, by simp⟩
theorem met_mem (l : List Int) (x : Int) : x ∈ PyProof.Rows.firstMet (fun i => l.getD i 0) l.length ↔ x ∈ l := by
  have e := PyProof.Rows.firstMet_any (fun i => l.getD i 0) l.length x
  have hm : (List.range l.length).map (fun i => l.getD i 0) = l := by
    refine List.ext_getElem (by simp) fun i h1 h2 => ?_
    rw [List.getElem_map, List.getElem_range, List.getD_eq_getElem?_getD, List.getElem?_eq_getElem h2]
    rfl
  rw [hm] at e
  have k : ∀ l : List Int, l.any (· == x) = true ↔ x ∈ l := fun l => by simp
  rw [← k, ← k, e]
theorem lenset_even {l : List Int} (h : l ≠ []) : decide (((PyProof.Rows.firstMet (fun i => l.getD i 0) l.length).length : Int) = 1) = evenB l := by
  have nd := met_nodup (fun i => l.getD i 0) l.length
  have hm := met_mem l
  generalize PyProof.Rows.firstMet (fun i => l.getD i 0) l.length = M at *
  refine Bool.eq_iff_iff.mpr ?_
  rw [decide_eq_true_eq, even_iff]
  constructor
  · intro hl x hx y hy
    have hl : M.length = 1 := by omega
    match M, hl with
    | [c], _ =>
      have := List.mem_singleton.mp ((hm x).mpr hx)
      have := List.mem_singleton.mp ((hm y).mpr hy)
      omega
  · intro ha
    match M, nd with
    | [], _ =>
      cases l with
      | nil => exact absurd rfl h
      | cons a l => exact absurd ((hm a).mpr List.mem_cons_self) (by simp)
    | [c], _ => rfl
    | c :: c' :: M, nd =>
      have e := ha c ((hm c).mp List.mem_cons_self) c' ((hm c').mp (List.mem_cons_of_mem _ List.mem_cons_self))
      rw [e, List.nodup_cons] at nd
      exact absurd List.mem_cons_self nd.1
theorem minmax_even {l : List Int} {m M : Int} (h1 : m ∈ l) (h2 : ∀ x ∈ l, m ≤ x) (h3 : M ∈ l) (h4 : ∀ x ∈ l, x ≤ M) : decide (m = M) = evenB l := by
  refine Bool.eq_iff_iff.mpr ?_
  rw [decide_eq_true_eq, even_iff]
  constructor
  · intro e x hx y hy
    have := h2 x hx
    have := h4 x hx
    have := h2 y hy
    have := h4 y hy
    omega
  · intro h
    exact h m h1 M h3
def degs (F : List Str) (T : List (Str × Str)) : List Int := (List.range F.length).map fun i => ((nb F T i).length : Int)
section
variable {F : List Str} {T : List (Str × Str)} {w : D} {n : Nat}
theorem degs_ne (h : StOk F T w n) : degs F T ≠ [] := by
  have := h.lo
  have := h.fo.len
  intro z
  have e := congrArg List.length z
  unfold degs at e
  rw [List.length_map, List.length_range, List.length_nil] at e
  omega
theorem is_even_ok (h : StOk F T w n) (k : Nat) : (calls P (k + 3)).call n_is_even [madeD F T w] = .ok (.bl (evenB (degs F T)), []) := by
  have hn := h.fo.len
  have hb := near_by_ok h k
  obtain ⟨m, m1, m2, m3⟩ := min_ints (degs_ne h)
  obtain ⟨M, M1, M2, M3⟩ := max_ints (degs_ne h)
  have he := minmax_even m2 m3 M2 M3
  have hd : ((List.range F.length).map fun i => D.int ((nearL F T i).length : Int)) = (degs F T).map D.int := by
    unfold degs
    rw [List.map_map]
    refine List.map_congr_left fun i hi => ?_
    show D.int _ = D.int _
    rw [(near_perm h.so h.ti (List.mem_range.mp hi)).length_eq]
  rw [call_eq (F := f_is_even) rfl rfl rfl]
  have key : Yld ((run (calls P (k + 2)) f_is_even.body (entry f_is_even.sz [madeD F T w])).bind fun fl => endOf f_is_even.own f_is_even.mp fl) fun q' => q' = (.bl (evenB (degs F T)), []) := by
    simp only [f_is_even, Pu.run, ev, evs, evi, evp, R.bind_ok', entry, endOf, getAll, permute_nil, permute_cons, fill, put, List.map_cons, List.map_nil, List.length_cons, List.length_nil, List.cons_append, List.nil_append, List.replicate_succ, List.replicate_zero, Nat.reduceAdd, Nat.reduceSub, List.getElem?_cons_zero, List.getElem?_cons_succ, List.getElem?_nil, List.set_cons_zero, List.set_cons_succ, Option.bind_some, Option.map_some, wipeE, backE, List.getD_cons_zero, List.getD_cons_succ, and_true, true_and, reduceIte, if_true, if_false, Option.getD_some, Option.getD_none, List.isEmpty_nil, List.isEmpty_cons, Bool.not_true, Bool.not_false, decide_eq_true_eq, gt_iff_lt, Int.reduceLT, Int.reduceLE, Int.reduceAdd, Int.reduceMul, Int.reduceSub, Nat.reduceLT, Nat.reduceLeDiff, Nat.reduceEqDiff, decide_true, decide_false, Bool.false_eq_true, Bool.true_or, Bool.or_true, Bool.and_true, Bool.true_and, Bool.false_and, Bool.and_false, Bool.false_or, Bool.or_false, D.noClo, D.noClos, beq_self_eq_true, tru_bl, tru_lst, Rof_some, Rneg_ok, seqD_l, seqD_t, itemsD_l, itemsD_t, itemsD_s, add_i, sub_i, mul_i, fdiv_i, mod_i, pow_i, add_s, add_l, add_t, eq_i, ne_i, eq_s, ne_s, eq_b, lt_i, gt_i, le_i, ge_i, le_s, gt_s, ge_s, lt_s, isn_n, isnt_n, isNone_n, isNone_i, isNone_s, isNone_t, isNone_l, isNone_b, isNone_o, inn_d, nin_d, idx_l, idx_t, idx_s, slc_l, slc_t, slc_s, len_l, len_t, len_s, abs_i, int_i, min2_i, max2_i, tuple_l, tuple_t, list_l, list_t, sorted_l, divmod_i, gcd_i, isi_b, isi_i, isi_s, isi_t, isi_l, isi_n, isi_o, isi_oc, isi_ic, isi_sc, isi_tc, atI_0, atI_1, atI_2, atI_3, atI_last, ixN_0, ixN_1, ixN_2, cut_hi, rng_n, asgT_nm, asgT_tp, asgT_tpl, ne_b, asgT_sub, asgTs_nil, asgTs_cons, bindN_nm, bindN_tp, bindNs_nil, bindNs_cons, sb_int_bool, sb_int_str, sb_int_tuple, sb_int_list, sb_int_NoneType, sb_bool_int, sb_bool_str, sb_bool_tuple, sb_bool_list, sb_bool_NoneType, sb_str_int, sb_str_bool, sb_str_tuple, sb_str_list, sb_str_NoneType, sb_tuple_int, sb_tuple_bool, sb_tuple_str, sb_tuple_list, sb_tuple_NoneType, sb_list_int, sb_list_bool, sb_list_str, sb_list_tuple, sb_list_NoneType, lim_0, lim_1, lim_2, lim_3, lim_4, lim_5, lim_6, lim_7, lim_8, lim_9, lim_10, lim_11, lim_12, Yld_ok, check_street_ok, hb, nearD]
    try simp only [R.bind_bind]
    refine Yld.bind (lc_allY rfl (fun i => D.lst ((nearL F T i).map dI)) (fun i => D.int ((nearL F T i).length : Int)) fun i hi => ?_) fun q' hq' => ?_
    · simp only [Pu.run, ev, evs, evi, evp, R.bind_ok', entry, endOf, getAll, permute_nil, permute_cons, fill, put, List.map_cons, List.map_nil, List.length_cons, List.length_nil, List.cons_append, List.nil_append, List.replicate_succ, List.replicate_zero, Nat.reduceAdd, Nat.reduceSub, List.getElem?_cons_zero, List.getElem?_cons_succ, List.getElem?_nil, List.set_cons_zero, List.set_cons_succ, Option.bind_some, Option.map_some, wipeE, backE, List.getD_cons_zero, List.getD_cons_succ, and_true, true_and, reduceIte, if_true, if_false, Option.getD_some, Option.getD_none, List.isEmpty_nil, List.isEmpty_cons, Bool.not_true, Bool.not_false, decide_eq_true_eq, gt_iff_lt, Int.reduceLT, Int.reduceLE, Int.reduceAdd, Int.reduceMul, Int.reduceSub, Nat.reduceLT, Nat.reduceLeDiff, Nat.reduceEqDiff, decide_true, decide_false, Bool.false_eq_true, Bool.true_or, Bool.or_true, Bool.and_true, Bool.true_and, Bool.false_and, Bool.and_false, Bool.false_or, Bool.or_false, D.noClo, D.noClos, beq_self_eq_true, tru_bl, tru_lst, Rof_some, Rneg_ok, seqD_l, seqD_t, itemsD_l, itemsD_t, itemsD_s, add_i, sub_i, mul_i, fdiv_i, mod_i, pow_i, add_s, add_l, add_t, eq_i, ne_i, eq_s, ne_s, eq_b, lt_i, gt_i, le_i, ge_i, le_s, gt_s, ge_s, lt_s, isn_n, isnt_n, isNone_n, isNone_i, isNone_s, isNone_t, isNone_l, isNone_b, isNone_o, inn_d, nin_d, idx_l, idx_t, idx_s, slc_l, slc_t, slc_s, len_l, len_t, len_s, abs_i, int_i, min2_i, max2_i, tuple_l, tuple_t, list_l, list_t, sorted_l, divmod_i, gcd_i, isi_b, isi_i, isi_s, isi_t, isi_l, isi_n, isi_o, isi_oc, isi_ic, isi_sc, isi_tc, atI_0, atI_1, atI_2, atI_3, atI_last, ixN_0, ixN_1, ixN_2, cut_hi, rng_n, asgT_nm, asgT_tp, asgT_tpl, ne_b, asgT_sub, asgTs_nil, asgTs_cons, bindN_nm, bindN_tp, bindNs_nil, bindNs_cons, sb_int_bool, sb_int_str, sb_int_tuple, sb_int_list, sb_int_NoneType, sb_bool_int, sb_bool_str, sb_bool_tuple, sb_bool_list, sb_bool_NoneType, sb_str_int, sb_str_bool, sb_str_tuple, sb_str_list, sb_str_NoneType, sb_tuple_int, sb_tuple_bool, sb_tuple_str, sb_tuple_list, sb_tuple_NoneType, sb_list_int, sb_list_bool, sb_list_str, sb_list_tuple, sb_list_NoneType, lim_0, lim_1, lim_2, lim_3, lim_4, lim_5, lim_6, lim_7, lim_8, lim_9, lim_10, lim_11, lim_12, Yld_ok, List.length_map]
      try exact ⟨rfl, rfl⟩
    · rw [hq', hd]
      simp only [Pu.run, ev, evs, evi, evp, R.bind_ok', entry, endOf, getAll, permute_nil, permute_cons, fill, put, List.map_cons, List.map_nil, List.length_cons, List.length_nil, List.cons_append, List.nil_append, List.replicate_succ, List.replicate_zero, Nat.reduceAdd, Nat.reduceSub, List.getElem?_cons_zero, List.getElem?_cons_succ, List.getElem?_nil, List.set_cons_zero, List.set_cons_succ, Option.bind_some, Option.map_some, wipeE, backE, List.getD_cons_zero, List.getD_cons_succ, and_true, true_and, reduceIte, if_true, if_false, Option.getD_some, Option.getD_none, List.isEmpty_nil, List.isEmpty_cons, Bool.not_true, Bool.not_false, decide_eq_true_eq, gt_iff_lt, Int.reduceLT, Int.reduceLE, Int.reduceAdd, Int.reduceMul, Int.reduceSub, Nat.reduceLT, Nat.reduceLeDiff, Nat.reduceEqDiff, decide_true, decide_false, Bool.false_eq_true, Bool.true_or, Bool.or_true, Bool.and_true, Bool.true_and, Bool.false_and, Bool.and_false, Bool.false_or, Bool.or_false, D.noClo, D.noClos, beq_self_eq_true, tru_bl, tru_lst, Rof_some, Rneg_ok, seqD_l, seqD_t, itemsD_l, itemsD_t, itemsD_s, add_i, sub_i, mul_i, fdiv_i, mod_i, pow_i, add_s, add_l, add_t, eq_i, ne_i, eq_s, ne_s, eq_b, lt_i, gt_i, le_i, ge_i, le_s, gt_s, ge_s, lt_s, isn_n, isnt_n, isNone_n, isNone_i, isNone_s, isNone_t, isNone_l, isNone_b, isNone_o, inn_d, nin_d, idx_l, idx_t, idx_s, slc_l, slc_t, slc_s, len_l, len_t, len_s, abs_i, int_i, min2_i, max2_i, tuple_l, tuple_t, list_l, list_t, sorted_l, divmod_i, gcd_i, isi_b, isi_i, isi_s, isi_t, isi_l, isi_n, isi_o, isi_oc, isi_ic, isi_sc, isi_tc, atI_0, atI_1, atI_2, atI_3, atI_last, ixN_0, ixN_1, ixN_2, cut_hi, rng_n, asgT_nm, asgT_tp, asgT_tpl, ne_b, asgT_sub, asgTs_nil, asgTs_cons, bindN_nm, bindN_tp, bindNs_nil, bindNs_cons, sb_int_bool, sb_int_str, sb_int_tuple, sb_int_list, sb_int_NoneType, sb_bool_int, sb_bool_str, sb_bool_tuple, sb_bool_list, sb_bool_NoneType, sb_str_int, sb_str_bool, sb_str_tuple, sb_str_list, sb_str_NoneType, sb_tuple_int, sb_tuple_bool, sb_tuple_str, sb_tuple_list, sb_tuple_NoneType, sb_list_int, sb_list_bool, sb_list_str, sb_list_tuple, sb_list_NoneType, lim_0, lim_1, lim_2, lim_3, lim_4, lim_5, lim_6, lim_7, lim_8, lim_9, lim_10, lim_11, lim_12, Yld_ok, m1, M1, he]
  exact Yld_eq key
end
/-! told streets -/
theorem ties_perm {F : List Str} {T L : List (Str × Str)} (h : TiesOk F T) (hp : L.Perm T) (hs : L.Pairwise fun a b => PySem.W.dataLt (pPr a) (pPr b) = true) : TiesOk F L := ⟨hs, fun t ht => h.mem t (hp.mem_iff.mp ht), by rw [hp.length_eq]; exact h.len⟩
theorem ties_drop {F : List Str} {T : List (Str × Str)} (h : TiesOk F T) : TiesOk F (T.drop 1) := ⟨h.so.drop, fun t ht => h.mem t (List.mem_of_mem_drop ht), by
  have := h.len
  rw [List.length_drop]
  omega⟩
theorem ties_bare (F : List Str) : TiesOk F [] := ⟨List.Pairwise.nil, fun t ht => (nomatch ht), by simp⟩
theorem slt_asy {a b : Str} (h1 : Slt a b) (h2 : Slt b a) : a = b := absurd (List.lt_trans h1 h2) (List.lt_irrefl _)
theorem sort_two {a b : Str} (h : Slt a b) (l : List Str) (hl : l.Perm [a, b]) : sortD (l.map dS) = .ok (([a, b] : List Str).map dS) := by
  have nd : l.Nodup := hl.nodup_iff.mpr (by
    rw [List.nodup_cons, List.mem_singleton]
    exact ⟨slt_ne h, by simp⟩)
  obtain ⟨l', e1, e2, e3⟩ := sort_s nd
  have : l' = [a, b] := List.Perm.eq_of_pairwise (fun a b _ _ h1 h2 => slt_asy h1 h2) e3 (by
    rw [List.pairwise_cons]
    exact ⟨fun y hy => by rw [List.mem_singleton.mp hy]; exact h, by simp⟩) (e2.trans hl)
  rw [e1, this]
/-- the ring's ties by numbers -/
def ringN (n : Nat) (k : Nat) : Nat × Nat := if k = 0 then (0, n - 1) else (k - 1, k)
theorem ring_nodup {n : Nat} (h : 3 ≤ n) : ((List.range n).map (ringN n)).Nodup := by
  rw [List.nodup_iff_pairwise_ne, List.pairwise_map]
  refine List.Pairwise.imp_of_mem (fun {a b} ha hb hlt e => ?_) List.pairwise_lt_range
  have ha := List.mem_range.mp ha
  have hb := List.mem_range.mp hb
  unfold ringN at e
  have hb0 : b ≠ 0 := by omega
  rw [if_neg hb0] at e
  by_cases ha0 : a = 0
  · rw [if_pos ha0] at e
    have e1 := congrArg Prod.fst e
    have e2 := congrArg Prod.snd e
    simp only at e1 e2
    omega
  · rw [if_neg ha0] at e
    have e2 := congrArg Prod.snd e
    simp only at e2
    omega
theorem ring_lt {n : Nat} (h : 3 ≤ n) : ∀ p ∈ (List.range n).map (ringN n), p.1 < p.2 ∧ p.2 < n := fun p hp => by
  obtain ⟨k, hk, rfl⟩ := List.mem_map.mp hp
  have hk := List.mem_range.mp hk
  unfold ringN
  by_cases z : k = 0
  · rw [if_pos z]
    exact ⟨by simp only; omega, by simp only; omega⟩
  · rw [if_neg z]
    exact ⟨by simp only; omega, by simp only; omega⟩
def Str' (x : D) : Prop := ∃ F T w n, StOk F T w n ∧ x = streetD F T w
end K08

set_option Elab.async false
set_option linter.all false
set_option maxRecDepth 100000
set_option maxHeartbeats 4000000
set_option autoImplicit false
namespace K08
open PySem Pu
theorem so_nodup {T : List (Str × Str)} (h : T.Pairwise fun a b => PySem.W.dataLt (pPr a) (pPr b) = true) : T.Nodup := by
  rw [List.nodup_iff_pairwise_ne]
  refine h.imp fun {a b} z e => ?_
  subst e
  unfold PySem.W.dataLt at z
  rw [PyProof.Rows.lex_irrefl] at z
  cases z
theorem lenset_ok {l : List Int} (h : l.length ≤ 4000) : biD .lenset [.lst (l.map D.int)] = .ok (.int ((PyProof.Rows.firstMet (fun i => l.getD i 0) l.length).length : Nat)) := by
  have e : intsD (l.map D.int) = some l := by
    have := intsD_map (l := l) (f := fun i => i)
    rw [List.map_id'] at this
    exact this
  show (match intsD (l.map D.int) with
    | some is => if is.length ≤ 4000 then R.ok (D.int ((PyProof.Rows.firstMet (fun i => is.getD i 0) is.length).length : Nat)) else .bad
    | none => .bad) = _
  rw [e]
  exact if_pos h
theorem wantW (p q : Nat) (h1 : p ≤ q) (h2 : 0 < q) (h3 : q ≤ 100) (h4 : Nat.gcd p q = 1) : Want (.tup [.int (p : Int), .int (q : Int)]) := ⟨p, q, rfl, h1, h2, h3, h4⟩
theorem stok_t {F : List Str} {T : List (Str × Str)} {w : D} {n : Nat} (hF : FoundW F n) (h2 : 2 ≤ n) (h7 : n ≤ 7) (hs : F.Pairwise Slt) (hT : TiesOk F T) (hw : Want w) : StOk F T w n := ⟨hF, h2, h7, hs, hT, hw⟩
theorem right_ok {b : D} (hb : Bowl b) (k : Nat) : ∃ outs, (calls P (k + 12)).call n_law_right [b] = .ok (.bl true, outs) := by
  have key : Yld ((calls P (k + 12)).call n_law_right [b]) fun q => ∃ outs, q = (.bl true, outs) := by
    rw [call_eq (F := f_law_right) rfl rfl rfl]
    have hrg : rngD (.int 0) (.int 4) = .ok ((List.range 4).map fun (k : Nat) => .int (k : Int)) := rng_n (n := 4) (by rw [lim]; omega)
    simp only [f_law_right, Pu.run, ev, evs, evi, evp, R.bind_ok', entry, endOf, getAll, permute_nil, permute_cons, fill, put, List.map_cons, List.map_nil, List.length_cons, List.length_nil, List.cons_append, List.nil_append, List.replicate_succ, List.replicate_zero, Nat.reduceAdd, Nat.reduceSub, List.getElem?_cons_zero, List.getElem?_cons_succ, List.getElem?_nil, List.set_cons_zero, List.set_cons_succ, Option.bind_some, Option.map_some, wipeE, backE, List.getD_cons_zero, List.getD_cons_succ, and_true, true_and, reduceIte, if_true, if_false, Option.getD_some, Option.getD_none, List.isEmpty_nil, List.isEmpty_cons, Bool.not_true, Bool.not_false, decide_eq_true_eq, gt_iff_lt, Int.reduceLT, Int.reduceLE, Int.reduceAdd, Int.reduceMul, Int.reduceSub, Nat.reduceLT, Nat.reduceLeDiff, Nat.reduceEqDiff, decide_true, decide_false, Bool.false_eq_true, Bool.true_or, Bool.or_true, Bool.and_true, Bool.true_and, Bool.false_and, Bool.and_false, Bool.false_or, Bool.or_false, D.noClo, D.noClos, beq_self_eq_true, tru_bl, tru_lst, Rof_some, Rneg_ok, seqD_l, seqD_t, itemsD_l, itemsD_t, itemsD_s, add_i, sub_i, mul_i, fdiv_i, mod_i, pow_i, add_s, add_l, add_t, eq_i, ne_i, eq_s, ne_s, eq_b, lt_i, gt_i, le_i, ge_i, le_s, gt_s, ge_s, lt_s, isn_n, isnt_n, isNone_n, isNone_i, isNone_s, isNone_t, isNone_l, isNone_b, isNone_o, inn_d, nin_d, idx_l, idx_t, idx_s, slc_l, slc_t, slc_s, len_l, len_t, len_s, abs_i, int_i, min2_i, max2_i, tuple_l, tuple_t, list_l, list_t, sorted_l, divmod_i, gcd_i, isi_b, isi_i, isi_s, isi_t, isi_l, isi_n, isi_o, isi_oc, isi_ic, isi_sc, isi_tc, atI_0, atI_1, atI_2, atI_3, atI_last, ixN_0, ixN_1, ixN_2, cut_hi, rng_n, asgT_nm, asgT_tp, asgT_tpl, ne_b, asgT_sub, asgTs_nil, asgTs_cons, bindN_nm, bindN_tp, bindNs_nil, bindNs_cons, sb_int_bool, sb_int_str, sb_int_tuple, sb_int_list, sb_int_NoneType, sb_bool_int, sb_bool_str, sb_bool_tuple, sb_bool_list, sb_bool_NoneType, sb_str_int, sb_str_bool, sb_str_tuple, sb_str_list, sb_str_NoneType, sb_tuple_int, sb_tuple_bool, sb_tuple_str, sb_tuple_list, sb_tuple_NoneType, sb_list_int, sb_list_bool, sb_list_str, sb_list_tuple, sb_list_NoneType, lim_0, lim_1, lim_2, lim_3, lim_4, lim_5, lim_6, lim_7, lim_8, lim_9, lim_10, lim_11, lim_12, Yld_ok, hrg]
    try simp only [R.bind_bind]
    refine Yld.bind (P := fun f => ∃ (b' : D) (r : Env'), f = .nx (some b' :: r)) ?loop ?rest
    case rest =>
      rintro f ⟨b', r, rfl⟩
      simp only [Pu.run, ev, evs, evi, evp, R.bind_ok', entry, endOf, getAll, permute_nil, permute_cons, fill, put, List.map_cons, List.map_nil, List.length_cons, List.length_nil, List.cons_append, List.nil_append, List.replicate_succ, List.replicate_zero, Nat.reduceAdd, Nat.reduceSub, List.getElem?_cons_zero, List.getElem?_cons_succ, List.getElem?_nil, List.set_cons_zero, List.set_cons_succ, Option.bind_some, Option.map_some, wipeE, backE, List.getD_cons_zero, List.getD_cons_succ, and_true, true_and, reduceIte, if_true, if_false, Option.getD_some, Option.getD_none, List.isEmpty_nil, List.isEmpty_cons, Bool.not_true, Bool.not_false, decide_eq_true_eq, gt_iff_lt, Int.reduceLT, Int.reduceLE, Int.reduceAdd, Int.reduceMul, Int.reduceSub, Nat.reduceLT, Nat.reduceLeDiff, Nat.reduceEqDiff, decide_true, decide_false, Bool.false_eq_true, Bool.true_or, Bool.or_true, Bool.and_true, Bool.true_and, Bool.false_and, Bool.and_false, Bool.false_or, Bool.or_false, D.noClo, D.noClos, beq_self_eq_true, tru_bl, tru_lst, Rof_some, Rneg_ok, seqD_l, seqD_t, itemsD_l, itemsD_t, itemsD_s, add_i, sub_i, mul_i, fdiv_i, mod_i, pow_i, add_s, add_l, add_t, eq_i, ne_i, eq_s, ne_s, eq_b, lt_i, gt_i, le_i, ge_i, le_s, gt_s, ge_s, lt_s, isn_n, isnt_n, isNone_n, isNone_i, isNone_s, isNone_t, isNone_l, isNone_b, isNone_o, inn_d, nin_d, idx_l, idx_t, idx_s, slc_l, slc_t, slc_s, len_l, len_t, len_s, abs_i, int_i, min2_i, max2_i, tuple_l, tuple_t, list_l, list_t, sorted_l, divmod_i, gcd_i, isi_b, isi_i, isi_s, isi_t, isi_l, isi_n, isi_o, isi_oc, isi_ic, isi_sc, isi_tc, atI_0, atI_1, atI_2, atI_3, atI_last, ixN_0, ixN_1, ixN_2, cut_hi, rng_n, asgT_nm, asgT_tp, asgT_tpl, ne_b, asgT_sub, asgTs_nil, asgTs_cons, bindN_nm, bindN_tp, bindNs_nil, bindNs_cons, sb_int_bool, sb_int_str, sb_int_tuple, sb_int_list, sb_int_NoneType, sb_bool_int, sb_bool_str, sb_bool_tuple, sb_bool_list, sb_bool_NoneType, sb_str_int, sb_str_bool, sb_str_tuple, sb_str_list, sb_str_NoneType, sb_tuple_int, sb_tuple_bool, sb_tuple_str, sb_tuple_list, sb_tuple_NoneType, sb_list_int, sb_list_bool, sb_list_str, sb_list_tuple, sb_list_NoneType, lim_0, lim_1, lim_2, lim_3, lim_4, lim_5, lim_6, lim_7, lim_8, lim_9, lim_10, lim_11, lim_12, Yld_ok]
      exact ⟨_, rfl⟩
    case loop =>
      refine for_inv (fun ds ρ => ∃ (b' : D) (s1 s2 s3 s4 s5 s6 s7 s8 : Option D), ρ = [some b', s1, s2, s3, s4, s5, s6, s7, s8, none, none, none] ∧ Bowl b') _ ⟨b, none, none, none, none, none, none, none, none, rfl, hb⟩ ?_ ?_
      · rintro ρ ⟨b', s1, s2, s3, s4, s5, s6, s7, s8, rfl, _⟩
        exact ⟨b', _, rfl⟩
      · rintro d ds ρ ⟨b0, s1, s2, s3, s4, s5, s6, s7, s8, rfl, hb0⟩
        obtain ⟨r, b1, e1, hr, hb1⟩ := draw_ok hb0 (m := 5) (by omega) (by omega) (k + 10)
        have ec : (3 : Int) + (r : Int) = ((3 + r : Nat) : Int) := by omega
        obtain ⟨b2, F, e2, hb2, hF, hs⟩ := names_ok hb1 (m := 3 + r) (by omega) (k + 8)
        have hlen := hF.len
        have hFw : FoundW F F.length := by rw [hlen]; exact hF.w
        have hrn : rngD (.int 0) (.int (F.length : Int)) = .ok ((List.range F.length).map fun (k : Nat) => .int (k : Int)) := rng_n (by rw [lim]; omega)
        have hn3 : 3 ≤ F.length := by omega
        have hn7 : F.length ≤ 7 := by omega
        simp only [Pu.run, ev, evs, evi, evp, R.bind_ok', entry, endOf, getAll, permute_nil, permute_cons, fill, put, List.map_cons, List.map_nil, List.length_cons, List.length_nil, List.cons_append, List.nil_append, List.replicate_succ, List.replicate_zero, Nat.reduceAdd, Nat.reduceSub, List.getElem?_cons_zero, List.getElem?_cons_succ, List.getElem?_nil, List.set_cons_zero, List.set_cons_succ, Option.bind_some, Option.map_some, wipeE, backE, List.getD_cons_zero, List.getD_cons_succ, and_true, true_and, reduceIte, if_true, if_false, Option.getD_some, Option.getD_none, List.isEmpty_nil, List.isEmpty_cons, Bool.not_true, Bool.not_false, decide_eq_true_eq, gt_iff_lt, Int.reduceLT, Int.reduceLE, Int.reduceAdd, Int.reduceMul, Int.reduceSub, Nat.reduceLT, Nat.reduceLeDiff, Nat.reduceEqDiff, decide_true, decide_false, Bool.false_eq_true, Bool.true_or, Bool.or_true, Bool.and_true, Bool.true_and, Bool.false_and, Bool.and_false, Bool.false_or, Bool.or_false, D.noClo, D.noClos, beq_self_eq_true, tru_bl, tru_lst, Rof_some, Rneg_ok, seqD_l, seqD_t, itemsD_l, itemsD_t, itemsD_s, add_i, sub_i, mul_i, fdiv_i, mod_i, pow_i, add_s, add_l, add_t, eq_i, ne_i, eq_s, ne_s, eq_b, lt_i, gt_i, le_i, ge_i, le_s, gt_s, ge_s, lt_s, isn_n, isnt_n, isNone_n, isNone_i, isNone_s, isNone_t, isNone_l, isNone_b, isNone_o, inn_d, nin_d, idx_l, idx_t, idx_s, slc_l, slc_t, slc_s, len_l, len_t, len_s, abs_i, int_i, min2_i, max2_i, tuple_l, tuple_t, list_l, list_t, sorted_l, divmod_i, gcd_i, isi_b, isi_i, isi_s, isi_t, isi_l, isi_n, isi_o, isi_oc, isi_ic, isi_sc, isi_tc, atI_0, atI_1, atI_2, atI_3, atI_last, ixN_0, ixN_1, ixN_2, cut_hi, rng_n, asgT_nm, asgT_tp, asgT_tpl, ne_b, asgT_sub, asgTs_nil, asgTs_cons, bindN_nm, bindN_tp, bindNs_nil, bindNs_cons, sb_int_bool, sb_int_str, sb_int_tuple, sb_int_list, sb_int_NoneType, sb_bool_int, sb_bool_str, sb_bool_tuple, sb_bool_list, sb_bool_NoneType, sb_str_int, sb_str_bool, sb_str_tuple, sb_str_list, sb_str_NoneType, sb_tuple_int, sb_tuple_bool, sb_tuple_str, sb_tuple_list, sb_tuple_NoneType, sb_list_int, sb_list_bool, sb_list_str, sb_list_tuple, sb_list_NoneType, lim_0, lim_1, lim_2, lim_3, lim_4, lim_5, lim_6, lim_7, lim_8, lim_9, lim_10, lim_11, lim_12, Yld_ok, e1, ec, e2, List.length_map, hrn]
        try simp only [R.bind_bind]
        refine Yld.bind (lc_allY rfl (fun (k : Nat) => D.int (k : Int)) (fun j => dPr (prN F (ringN F.length j))) fun j hj => ?_) fun q' hq' => ?_
        · have hj := List.mem_range.mp hj
          cases j with
          | zero =>
            have g0 : (F.map dS)[0]? = some (.str (nmF F 0)) := nth_get (by omega)
            have g1 : (F.map dS).getLast? = some (.str (nmF F (F.length - 1))) := by
              rw [List.getLast?_eq_getElem?, List.length_map]
              exact nth_get (by omega)
            have e : ((0 : Nat) : Int) - 1 = -1 := rfl
            have hso : sortD [.str (nmF F 0), .str (nmF F (F.length - 1))] = .ok [.str (nmF F 0), .str (nmF F (F.length - 1))] := sort_two (nth_slt hs (show 0 < F.length - 1 by omega) (by omega)) [nmF F 0, nmF F (F.length - 1)] (List.Perm.refl _)
            simp only [Pu.run, ev, evs, evi, evp, R.bind_ok', entry, endOf, getAll, permute_nil, permute_cons, fill, put, List.map_cons, List.map_nil, List.length_cons, List.length_nil, List.cons_append, List.nil_append, List.replicate_succ, List.replicate_zero, Nat.reduceAdd, Nat.reduceSub, List.getElem?_cons_zero, List.getElem?_cons_succ, List.getElem?_nil, List.set_cons_zero, List.set_cons_succ, Option.bind_some, Option.map_some, wipeE, backE, List.getD_cons_zero, List.getD_cons_succ, and_true, true_and, reduceIte, if_true, if_false, Option.getD_some, Option.getD_none, List.isEmpty_nil, List.isEmpty_cons, Bool.not_true, Bool.not_false, decide_eq_true_eq, gt_iff_lt, Int.reduceLT, Int.reduceLE, Int.reduceAdd, Int.reduceMul, Int.reduceSub, Nat.reduceLT, Nat.reduceLeDiff, Nat.reduceEqDiff, decide_true, decide_false, Bool.false_eq_true, Bool.true_or, Bool.or_true, Bool.and_true, Bool.true_and, Bool.false_and, Bool.and_false, Bool.false_or, Bool.or_false, D.noClo, D.noClos, beq_self_eq_true, tru_bl, tru_lst, Rof_some, Rneg_ok, seqD_l, seqD_t, itemsD_l, itemsD_t, itemsD_s, add_i, sub_i, mul_i, fdiv_i, mod_i, pow_i, add_s, add_l, add_t, eq_i, ne_i, eq_s, ne_s, eq_b, lt_i, gt_i, le_i, ge_i, le_s, gt_s, ge_s, lt_s, isn_n, isnt_n, isNone_n, isNone_i, isNone_s, isNone_t, isNone_l, isNone_b, isNone_o, inn_d, nin_d, idx_l, idx_t, idx_s, slc_l, slc_t, slc_s, len_l, len_t, len_s, abs_i, int_i, min2_i, max2_i, tuple_l, tuple_t, list_l, list_t, sorted_l, divmod_i, gcd_i, isi_b, isi_i, isi_s, isi_t, isi_l, isi_n, isi_o, isi_oc, isi_ic, isi_sc, isi_tc, atI_0, atI_1, atI_2, atI_3, atI_last, ixN_0, ixN_1, ixN_2, cut_hi, rng_n, asgT_nm, asgT_tp, asgT_tpl, ne_b, asgT_sub, asgTs_nil, asgTs_cons, bindN_nm, bindN_tp, bindNs_nil, bindNs_cons, sb_int_bool, sb_int_str, sb_int_tuple, sb_int_list, sb_int_NoneType, sb_bool_int, sb_bool_str, sb_bool_tuple, sb_bool_list, sb_bool_NoneType, sb_str_int, sb_str_bool, sb_str_tuple, sb_str_list, sb_str_NoneType, sb_tuple_int, sb_tuple_bool, sb_tuple_str, sb_tuple_list, sb_tuple_NoneType, sb_list_int, sb_list_bool, sb_list_str, sb_list_tuple, sb_list_NoneType, lim_0, lim_1, lim_2, lim_3, lim_4, lim_5, lim_6, lim_7, lim_8, lim_9, lim_10, lim_11, lim_12, Yld_ok, atI_nat, g0, e, atI_last, g1, hso]
            rfl
          | succ j =>
            have g0 : (F.map dS)[j + 1]? = some (.str (nmF F (j + 1))) := nth_get (by omega)
            have g1 : (F.map dS)[j]? = some (.str (nmF F j)) := nth_get (by omega)
            have e : ((j + 1 : Nat) : Int) - 1 = (j : Int) := by omega
            have hso : sortD [.str (nmF F (j + 1)), .str (nmF F j)] = .ok [.str (nmF F j), .str (nmF F (j + 1))] := sort_two (nth_slt hs (show j < j + 1 by omega) (by omega)) [nmF F (j + 1), nmF F j] (List.Perm.swap _ _ _)
            simp only [Pu.run, ev, evs, evi, evp, R.bind_ok', entry, endOf, getAll, permute_nil, permute_cons, fill, put, List.map_cons, List.map_nil, List.length_cons, List.length_nil, List.cons_append, List.nil_append, List.replicate_succ, List.replicate_zero, Nat.reduceAdd, Nat.reduceSub, List.getElem?_cons_zero, List.getElem?_cons_succ, List.getElem?_nil, List.set_cons_zero, List.set_cons_succ, Option.bind_some, Option.map_some, wipeE, backE, List.getD_cons_zero, List.getD_cons_succ, and_true, true_and, reduceIte, if_true, if_false, Option.getD_some, Option.getD_none, List.isEmpty_nil, List.isEmpty_cons, Bool.not_true, Bool.not_false, decide_eq_true_eq, gt_iff_lt, Int.reduceLT, Int.reduceLE, Int.reduceAdd, Int.reduceMul, Int.reduceSub, Nat.reduceLT, Nat.reduceLeDiff, Nat.reduceEqDiff, decide_true, decide_false, Bool.false_eq_true, Bool.true_or, Bool.or_true, Bool.and_true, Bool.true_and, Bool.false_and, Bool.and_false, Bool.false_or, Bool.or_false, D.noClo, D.noClos, beq_self_eq_true, tru_bl, tru_lst, Rof_some, Rneg_ok, seqD_l, seqD_t, itemsD_l, itemsD_t, itemsD_s, add_i, sub_i, mul_i, fdiv_i, mod_i, pow_i, add_s, add_l, add_t, eq_i, ne_i, eq_s, ne_s, eq_b, lt_i, gt_i, le_i, ge_i, le_s, gt_s, ge_s, lt_s, isn_n, isnt_n, isNone_n, isNone_i, isNone_s, isNone_t, isNone_l, isNone_b, isNone_o, inn_d, nin_d, idx_l, idx_t, idx_s, slc_l, slc_t, slc_s, len_l, len_t, len_s, abs_i, int_i, min2_i, max2_i, tuple_l, tuple_t, list_l, list_t, sorted_l, divmod_i, gcd_i, isi_b, isi_i, isi_s, isi_t, isi_l, isi_n, isi_o, isi_oc, isi_ic, isi_sc, isi_tc, atI_0, atI_1, atI_2, atI_3, atI_last, ixN_0, ixN_1, ixN_2, cut_hi, rng_n, asgT_nm, asgT_tp, asgT_tpl, ne_b, asgT_sub, asgTs_nil, asgTs_cons, bindN_nm, bindN_tp, bindNs_nil, bindNs_cons, sb_int_bool, sb_int_str, sb_int_tuple, sb_int_list, sb_int_NoneType, sb_bool_int, sb_bool_str, sb_bool_tuple, sb_bool_list, sb_bool_NoneType, sb_str_int, sb_str_bool, sb_str_tuple, sb_str_list, sb_str_NoneType, sb_tuple_int, sb_tuple_bool, sb_tuple_str, sb_tuple_list, sb_tuple_NoneType, sb_list_int, sb_list_bool, sb_list_str, sb_list_tuple, sb_list_NoneType, lim_0, lim_1, lim_2, lim_3, lim_4, lim_5, lim_6, lim_7, lim_8, lim_9, lim_10, lim_11, lim_12, Yld_ok, e, atI_nat, g0, g1, hso]
            rfl
        rw [hq']
        obtain ⟨t1, t2⟩ := ties_fin hs rfl (ring_nodup hn3) (ring_lt hn3) (by rw [List.length_map, List.length_range]; omega)
        obtain ⟨L, q1, q2, q3⟩ := sort_p t1
        have hring := t2 L q2 q3
        have q1 : sortD ((List.range F.length).map fun j => dPr (prN F (ringN F.length j))) = .ok (L.map dPr) := by
          rw [← q1, List.map_map, List.map_map]
          rfl
        simp only [Pu.run, ev, evs, evi, evp, R.bind_ok', entry, endOf, getAll, permute_nil, permute_cons, fill, put, List.map_cons, List.map_nil, List.length_cons, List.length_nil, List.cons_append, List.nil_append, List.replicate_succ, List.replicate_zero, Nat.reduceAdd, Nat.reduceSub, List.getElem?_cons_zero, List.getElem?_cons_succ, List.getElem?_nil, List.set_cons_zero, List.set_cons_succ, Option.bind_some, Option.map_some, wipeE, backE, List.getD_cons_zero, List.getD_cons_succ, and_true, true_and, reduceIte, if_true, if_false, Option.getD_some, Option.getD_none, List.isEmpty_nil, List.isEmpty_cons, Bool.not_true, Bool.not_false, decide_eq_true_eq, gt_iff_lt, Int.reduceLT, Int.reduceLE, Int.reduceAdd, Int.reduceMul, Int.reduceSub, Nat.reduceLT, Nat.reduceLeDiff, Nat.reduceEqDiff, decide_true, decide_false, Bool.false_eq_true, Bool.true_or, Bool.or_true, Bool.and_true, Bool.true_and, Bool.false_and, Bool.and_false, Bool.false_or, Bool.or_false, D.noClo, D.noClos, beq_self_eq_true, tru_bl, tru_lst, Rof_some, Rneg_ok, seqD_l, seqD_t, itemsD_l, itemsD_t, itemsD_s, add_i, sub_i, mul_i, fdiv_i, mod_i, pow_i, add_s, add_l, add_t, eq_i, ne_i, eq_s, ne_s, eq_b, lt_i, gt_i, le_i, ge_i, le_s, gt_s, ge_s, lt_s, isn_n, isnt_n, isNone_n, isNone_i, isNone_s, isNone_t, isNone_l, isNone_b, isNone_o, inn_d, nin_d, idx_l, idx_t, idx_s, slc_l, slc_t, slc_s, len_l, len_t, len_s, abs_i, int_i, min2_i, max2_i, tuple_l, tuple_t, list_l, list_t, sorted_l, divmod_i, gcd_i, isi_b, isi_i, isi_s, isi_t, isi_l, isi_n, isi_o, isi_oc, isi_ic, isi_sc, isi_tc, atI_0, atI_1, atI_2, atI_3, atI_last, ixN_0, ixN_1, ixN_2, cut_hi, rng_n, asgT_nm, asgT_tp, asgT_tpl, ne_b, asgT_sub, asgTs_nil, asgTs_cons, bindN_nm, bindN_tp, bindNs_nil, bindNs_cons, sb_int_bool, sb_int_str, sb_int_tuple, sb_int_list, sb_int_NoneType, sb_bool_int, sb_bool_str, sb_bool_tuple, sb_bool_list, sb_bool_NoneType, sb_str_int, sb_str_bool, sb_str_tuple, sb_str_list, sb_str_NoneType, sb_tuple_int, sb_tuple_bool, sb_tuple_str, sb_tuple_list, sb_tuple_NoneType, sb_list_int, sb_list_bool, sb_list_str, sb_list_tuple, sb_list_NoneType, lim_0, lim_1, lim_2, lim_3, lim_4, lim_5, lim_6, lim_7, lim_8, lim_9, lim_10, lim_11, lim_12, Yld_ok, q1]
        try simp only [R.bind_bind]
        refine Yld.bind (for_acc dS (fullG F) (fun acc ρ => ∃ (s5 : Option D), ρ = [some b2, some d, some (.tup (F.map dS)), some (.tup (L.map dPr)), some (.lst (acc.map dPr)), s5, s6, s7, s8, none, none, none]) 49 (l := F) (acc := []) ?_ ⟨s5, rfl⟩ ?_) ?_
        · have := flat_len (g := fullG F) (c := 7) (l := F) fun a _ => Nat.le_trans (fullG_len a) (by omega)
          rw [List.nil_append]
          omega
        · rintro a ha acc ρ hB ⟨s5, rfl⟩
          simp only [Pu.run, ev, evs, evi, evp, R.bind_ok', entry, endOf, getAll, permute_nil, permute_cons, fill, put, List.map_cons, List.map_nil, List.length_cons, List.length_nil, List.cons_append, List.nil_append, List.replicate_succ, List.replicate_zero, Nat.reduceAdd, Nat.reduceSub, List.getElem?_cons_zero, List.getElem?_cons_succ, List.getElem?_nil, List.set_cons_zero, List.set_cons_succ, Option.bind_some, Option.map_some, wipeE, backE, List.getD_cons_zero, List.getD_cons_succ, and_true, true_and, reduceIte, if_true, if_false, Option.getD_some, Option.getD_none, List.isEmpty_nil, List.isEmpty_cons, Bool.not_true, Bool.not_false, decide_eq_true_eq, gt_iff_lt, Int.reduceLT, Int.reduceLE, Int.reduceAdd, Int.reduceMul, Int.reduceSub, Nat.reduceLT, Nat.reduceLeDiff, Nat.reduceEqDiff, decide_true, decide_false, Bool.false_eq_true, Bool.true_or, Bool.or_true, Bool.and_true, Bool.true_and, Bool.false_and, Bool.and_false, Bool.false_or, Bool.or_false, D.noClo, D.noClos, beq_self_eq_true, tru_bl, tru_lst, Rof_some, Rneg_ok, seqD_l, seqD_t, itemsD_l, itemsD_t, itemsD_s, add_i, sub_i, mul_i, fdiv_i, mod_i, pow_i, add_s, add_l, add_t, eq_i, ne_i, eq_s, ne_s, eq_b, lt_i, gt_i, le_i, ge_i, le_s, gt_s, ge_s, lt_s, isn_n, isnt_n, isNone_n, isNone_i, isNone_s, isNone_t, isNone_l, isNone_b, isNone_o, inn_d, nin_d, idx_l, idx_t, idx_s, slc_l, slc_t, slc_s, len_l, len_t, len_s, abs_i, int_i, min2_i, max2_i, tuple_l, tuple_t, list_l, list_t, sorted_l, divmod_i, gcd_i, isi_b, isi_i, isi_s, isi_t, isi_l, isi_n, isi_o, isi_oc, isi_ic, isi_sc, isi_tc, atI_0, atI_1, atI_2, atI_3, atI_last, ixN_0, ixN_1, ixN_2, cut_hi, rng_n, asgT_nm, asgT_tp, asgT_tpl, ne_b, asgT_sub, asgTs_nil, asgTs_cons, bindN_nm, bindN_tp, bindNs_nil, bindNs_cons, sb_int_bool, sb_int_str, sb_int_tuple, sb_int_list, sb_int_NoneType, sb_bool_int, sb_bool_str, sb_bool_tuple, sb_bool_list, sb_bool_NoneType, sb_str_int, sb_str_bool, sb_str_tuple, sb_str_list, sb_str_NoneType, sb_tuple_int, sb_tuple_bool, sb_tuple_str, sb_tuple_list, sb_tuple_NoneType, sb_list_int, sb_list_bool, sb_list_str, sb_list_tuple, sb_list_NoneType, lim_0, lim_1, lim_2, lim_3, lim_4, lim_5, lim_6, lim_7, lim_8, lim_9, lim_10, lim_11, lim_12, Yld_ok]
          try simp only [R.bind_bind]
          refine Yld.bind (lc_filterY rfl dS (fun b => dPr (a, b)) (fun b => decide (a.cps.toList < b.cps.toList)) fun x hx => ?_) fun q' hq' => ?_
          · cases hc : decide (a.cps.toList < x.cps.toList) with
            | true =>
              simp only [Pu.run, ev, evs, evi, evp, R.bind_ok', entry, endOf, getAll, permute_nil, permute_cons, fill, put, List.map_cons, List.map_nil, List.length_cons, List.length_nil, List.cons_append, List.nil_append, List.replicate_succ, List.replicate_zero, Nat.reduceAdd, Nat.reduceSub, List.getElem?_cons_zero, List.getElem?_cons_succ, List.getElem?_nil, List.set_cons_zero, List.set_cons_succ, Option.bind_some, Option.map_some, wipeE, backE, List.getD_cons_zero, List.getD_cons_succ, and_true, true_and, reduceIte, if_true, if_false, Option.getD_some, Option.getD_none, List.isEmpty_nil, List.isEmpty_cons, Bool.not_true, Bool.not_false, decide_eq_true_eq, gt_iff_lt, Int.reduceLT, Int.reduceLE, Int.reduceAdd, Int.reduceMul, Int.reduceSub, Nat.reduceLT, Nat.reduceLeDiff, Nat.reduceEqDiff, decide_true, decide_false, Bool.false_eq_true, Bool.true_or, Bool.or_true, Bool.and_true, Bool.true_and, Bool.false_and, Bool.and_false, Bool.false_or, Bool.or_false, D.noClo, D.noClos, beq_self_eq_true, tru_bl, tru_lst, Rof_some, Rneg_ok, seqD_l, seqD_t, itemsD_l, itemsD_t, itemsD_s, add_i, sub_i, mul_i, fdiv_i, mod_i, pow_i, add_s, add_l, add_t, eq_i, ne_i, eq_s, ne_s, eq_b, lt_i, gt_i, le_i, ge_i, le_s, gt_s, ge_s, lt_s, isn_n, isnt_n, isNone_n, isNone_i, isNone_s, isNone_t, isNone_l, isNone_b, isNone_o, inn_d, nin_d, idx_l, idx_t, idx_s, slc_l, slc_t, slc_s, len_l, len_t, len_s, abs_i, int_i, min2_i, max2_i, tuple_l, tuple_t, list_l, list_t, sorted_l, divmod_i, gcd_i, isi_b, isi_i, isi_s, isi_t, isi_l, isi_n, isi_o, isi_oc, isi_ic, isi_sc, isi_tc, atI_0, atI_1, atI_2, atI_3, atI_last, ixN_0, ixN_1, ixN_2, cut_hi, rng_n, asgT_nm, asgT_tp, asgT_tpl, ne_b, asgT_sub, asgTs_nil, asgTs_cons, bindN_nm, bindN_tp, bindNs_nil, bindNs_cons, sb_int_bool, sb_int_str, sb_int_tuple, sb_int_list, sb_int_NoneType, sb_bool_int, sb_bool_str, sb_bool_tuple, sb_bool_list, sb_bool_NoneType, sb_str_int, sb_str_bool, sb_str_tuple, sb_str_list, sb_str_NoneType, sb_tuple_int, sb_tuple_bool, sb_tuple_str, sb_tuple_list, sb_tuple_NoneType, sb_list_int, sb_list_bool, sb_list_str, sb_list_tuple, sb_list_NoneType, lim_0, lim_1, lim_2, lim_3, lim_4, lim_5, lim_6, lim_7, lim_8, lim_9, lim_10, lim_11, lim_12, Yld_ok, dS_eq, hc, dPr]
              try exact ⟨rfl, rfl⟩
            | false =>
              simp only [Pu.run, ev, evs, evi, evp, R.bind_ok', entry, endOf, getAll, permute_nil, permute_cons, fill, put, List.map_cons, List.map_nil, List.length_cons, List.length_nil, List.cons_append, List.nil_append, List.replicate_succ, List.replicate_zero, Nat.reduceAdd, Nat.reduceSub, List.getElem?_cons_zero, List.getElem?_cons_succ, List.getElem?_nil, List.set_cons_zero, List.set_cons_succ, Option.bind_some, Option.map_some, wipeE, backE, List.getD_cons_zero, List.getD_cons_succ, and_true, true_and, reduceIte, if_true, if_false, Option.getD_some, Option.getD_none, List.isEmpty_nil, List.isEmpty_cons, Bool.not_true, Bool.not_false, decide_eq_true_eq, gt_iff_lt, Int.reduceLT, Int.reduceLE, Int.reduceAdd, Int.reduceMul, Int.reduceSub, Nat.reduceLT, Nat.reduceLeDiff, Nat.reduceEqDiff, decide_true, decide_false, Bool.false_eq_true, Bool.true_or, Bool.or_true, Bool.and_true, Bool.true_and, Bool.false_and, Bool.and_false, Bool.false_or, Bool.or_false, D.noClo, D.noClos, beq_self_eq_true, tru_bl, tru_lst, Rof_some, Rneg_ok, seqD_l, seqD_t, itemsD_l, itemsD_t, itemsD_s, add_i, sub_i, mul_i, fdiv_i, mod_i, pow_i, add_s, add_l, add_t, eq_i, ne_i, eq_s, ne_s, eq_b, lt_i, gt_i, le_i, ge_i, le_s, gt_s, ge_s, lt_s, isn_n, isnt_n, isNone_n, isNone_i, isNone_s, isNone_t, isNone_l, isNone_b, isNone_o, inn_d, nin_d, idx_l, idx_t, idx_s, slc_l, slc_t, slc_s, len_l, len_t, len_s, abs_i, int_i, min2_i, max2_i, tuple_l, tuple_t, list_l, list_t, sorted_l, divmod_i, gcd_i, isi_b, isi_i, isi_s, isi_t, isi_l, isi_n, isi_o, isi_oc, isi_ic, isi_sc, isi_tc, atI_0, atI_1, atI_2, atI_3, atI_last, ixN_0, ixN_1, ixN_2, cut_hi, rng_n, asgT_nm, asgT_tp, asgT_tpl, ne_b, asgT_sub, asgTs_nil, asgTs_cons, bindN_nm, bindN_tp, bindNs_nil, bindNs_cons, sb_int_bool, sb_int_str, sb_int_tuple, sb_int_list, sb_int_NoneType, sb_bool_int, sb_bool_str, sb_bool_tuple, sb_bool_list, sb_bool_NoneType, sb_str_int, sb_str_bool, sb_str_tuple, sb_str_list, sb_str_NoneType, sb_tuple_int, sb_tuple_bool, sb_tuple_str, sb_tuple_list, sb_tuple_NoneType, sb_list_int, sb_list_bool, sb_list_str, sb_list_tuple, sb_list_NoneType, lim_0, lim_1, lim_2, lim_3, lim_4, lim_5, lim_6, lim_7, lim_8, lim_9, lim_10, lim_11, lim_12, Yld_ok, dS_eq, hc]
              try exact ⟨rfl, rfl⟩
          · have hg : (F.filter fun b => decide (a.cps.toList < b.cps.toList)).map (fun b => dPr (a, b)) = (fullG F a).map dPr := by
              unfold fullG
              rw [List.map_map]
              rfl
            have hl : (acc.map dPr).length + ((fullG F a).map dPr).length ≤ lim := by
              rw [List.length_append] at hB
              rw [List.length_map, List.length_map, lim]
              omega
            rw [hq', hg]
            simp only [Pu.run, ev, evs, evi, evp, R.bind_ok', entry, endOf, getAll, permute_nil, permute_cons, fill, put, List.map_cons, List.map_nil, List.length_cons, List.length_nil, List.cons_append, List.nil_append, List.replicate_succ, List.replicate_zero, Nat.reduceAdd, Nat.reduceSub, List.getElem?_cons_zero, List.getElem?_cons_succ, List.getElem?_nil, List.set_cons_zero, List.set_cons_succ, Option.bind_some, Option.map_some, wipeE, backE, List.getD_cons_zero, List.getD_cons_succ, and_true, true_and, reduceIte, if_true, if_false, Option.getD_some, Option.getD_none, List.isEmpty_nil, List.isEmpty_cons, Bool.not_true, Bool.not_false, decide_eq_true_eq, gt_iff_lt, Int.reduceLT, Int.reduceLE, Int.reduceAdd, Int.reduceMul, Int.reduceSub, Nat.reduceLT, Nat.reduceLeDiff, Nat.reduceEqDiff, decide_true, decide_false, Bool.false_eq_true, Bool.true_or, Bool.or_true, Bool.and_true, Bool.true_and, Bool.false_and, Bool.and_false, Bool.false_or, Bool.or_false, D.noClo, D.noClos, beq_self_eq_true, tru_bl, tru_lst, Rof_some, Rneg_ok, seqD_l, seqD_t, itemsD_l, itemsD_t, itemsD_s, add_i, sub_i, mul_i, fdiv_i, mod_i, pow_i, add_s, add_l, add_t, eq_i, ne_i, eq_s, ne_s, eq_b, lt_i, gt_i, le_i, ge_i, le_s, gt_s, ge_s, lt_s, isn_n, isnt_n, isNone_n, isNone_i, isNone_s, isNone_t, isNone_l, isNone_b, isNone_o, inn_d, nin_d, idx_l, idx_t, idx_s, slc_l, slc_t, slc_s, len_l, len_t, len_s, abs_i, int_i, min2_i, max2_i, tuple_l, tuple_t, list_l, list_t, sorted_l, divmod_i, gcd_i, isi_b, isi_i, isi_s, isi_t, isi_l, isi_n, isi_o, isi_oc, isi_ic, isi_sc, isi_tc, atI_0, atI_1, atI_2, atI_3, atI_last, ixN_0, ixN_1, ixN_2, cut_hi, rng_n, asgT_nm, asgT_tp, asgT_tpl, ne_b, asgT_sub, asgTs_nil, asgTs_cons, bindN_nm, bindN_tp, bindNs_nil, bindNs_cons, sb_int_bool, sb_int_str, sb_int_tuple, sb_int_list, sb_int_NoneType, sb_bool_int, sb_bool_str, sb_bool_tuple, sb_bool_list, sb_bool_NoneType, sb_str_int, sb_str_bool, sb_str_tuple, sb_str_list, sb_str_NoneType, sb_tuple_int, sb_tuple_bool, sb_tuple_str, sb_tuple_list, sb_tuple_NoneType, sb_list_int, sb_list_bool, sb_list_str, sb_list_tuple, sb_list_NoneType, lim_0, lim_1, lim_2, lim_3, lim_4, lim_5, lim_6, lim_7, lim_8, lim_9, lim_10, lim_11, lim_12, Yld_ok, hl, ← List.map_append]
            exact ⟨_, rfl, _, rfl⟩
        · rintro fl ⟨ρ2, rfl, s5', rfl⟩
          have e9 : ([] ++ F.flatMap (fullG F)) = fullT F := rfl
          rw [e9]
          have hfull := full_ok hs hn7
          obtain ⟨M, q4, q5, q6⟩ := sort_p (so_nodup hfull.so)
          have hfull2 := ties_perm hfull q5 q6
          obtain ⟨b3, F1, T1, w1, n1, e3, hb3, hst1, _⟩ := street_ok hb2 (m := 4) (by decide) (by decide) (k + 7)
          obtain ⟨b4, F2, T2, w2, n2, e4, hb4, hst2, _⟩ := street_ok hb3 (m := 7) (by decide) (by decide) (k + 7)
          have hcut : cutD (L.map dPr) (some 1) none = (L.drop 1).map dPr := by
            have := cut_lo (l := L.map dPr) (s := 1)
            rw [List.map_drop]
            exact this
          simp only [Pu.run, ev, evs, evi, evp, R.bind_ok', entry, endOf, getAll, permute_nil, permute_cons, fill, put, List.map_cons, List.map_nil, List.length_cons, List.length_nil, List.cons_append, List.nil_append, List.replicate_succ, List.replicate_zero, Nat.reduceAdd, Nat.reduceSub, List.getElem?_cons_zero, List.getElem?_cons_succ, List.getElem?_nil, List.set_cons_zero, List.set_cons_succ, Option.bind_some, Option.map_some, wipeE, backE, List.getD_cons_zero, List.getD_cons_succ, and_true, true_and, reduceIte, if_true, if_false, Option.getD_some, Option.getD_none, List.isEmpty_nil, List.isEmpty_cons, Bool.not_true, Bool.not_false, decide_eq_true_eq, gt_iff_lt, Int.reduceLT, Int.reduceLE, Int.reduceAdd, Int.reduceMul, Int.reduceSub, Nat.reduceLT, Nat.reduceLeDiff, Nat.reduceEqDiff, decide_true, decide_false, Bool.false_eq_true, Bool.true_or, Bool.or_true, Bool.and_true, Bool.true_and, Bool.false_and, Bool.and_false, Bool.false_or, Bool.or_false, D.noClo, D.noClos, beq_self_eq_true, tru_bl, tru_lst, Rof_some, Rneg_ok, seqD_l, seqD_t, itemsD_l, itemsD_t, itemsD_s, add_i, sub_i, mul_i, fdiv_i, mod_i, pow_i, add_s, add_l, add_t, eq_i, ne_i, eq_s, ne_s, eq_b, lt_i, gt_i, le_i, ge_i, le_s, gt_s, ge_s, lt_s, isn_n, isnt_n, isNone_n, isNone_i, isNone_s, isNone_t, isNone_l, isNone_b, isNone_o, inn_d, nin_d, idx_l, idx_t, idx_s, slc_l, slc_t, slc_s, len_l, len_t, len_s, abs_i, int_i, min2_i, max2_i, tuple_l, tuple_t, list_l, list_t, sorted_l, divmod_i, gcd_i, isi_b, isi_i, isi_s, isi_t, isi_l, isi_n, isi_o, isi_oc, isi_ic, isi_sc, isi_tc, atI_0, atI_1, atI_2, atI_3, atI_last, ixN_0, ixN_1, ixN_2, cut_hi, rng_n, asgT_nm, asgT_tp, asgT_tpl, ne_b, asgT_sub, asgTs_nil, asgTs_cons, bindN_nm, bindN_tp, bindNs_nil, bindNs_cons, sb_int_bool, sb_int_str, sb_int_tuple, sb_int_list, sb_int_NoneType, sb_bool_int, sb_bool_str, sb_bool_tuple, sb_bool_list, sb_bool_NoneType, sb_str_int, sb_str_bool, sb_str_tuple, sb_str_list, sb_str_NoneType, sb_tuple_int, sb_tuple_bool, sb_tuple_str, sb_tuple_list, sb_tuple_NoneType, sb_list_int, sb_list_bool, sb_list_str, sb_list_tuple, sb_list_NoneType, lim_0, lim_1, lim_2, lim_3, lim_4, lim_5, lim_6, lim_7, lim_8, lim_9, lim_10, lim_11, lim_12, Yld_ok, e3, e4, q4, hcut]
          try simp only [R.bind_bind]
          refine for_inv (fun es ρ => ∃ (s6 s7 s8 : Option D), (∀ x ∈ es, Str' x) ∧ ρ = [some b4, some d, some (.tup (F.map dS)), some (.tup (L.map dPr)), some (.lst ((fullT F).map dPr)), s5', s6, s7, s8, none, none, none]) _ ⟨s6, s7, s8, fun x hx => ?_, rfl⟩ ?_ ?_
          · simp only [List.mem_cons, List.not_mem_nil, or_false] at hx
            rcases hx with rfl | rfl | rfl | rfl | rfl | rfl
            · exact ⟨F1, T1, w1, n1, hst1, rfl⟩
            · exact ⟨F2, T2, w2, n2, hst2, rfl⟩
            · exact ⟨F, L, _, _, stok_t hFw (by omega) (by omega) hs hring (wantW 1 2 (by omega) (by omega) (by omega) (by decide)), rfl⟩
            · exact ⟨F, M, _, _, stok_t hFw (by omega) (by omega) hs hfull2 (wantW 1 3 (by omega) (by omega) (by omega) (by decide)), rfl⟩
            · exact ⟨F, [], _, _, stok_t hFw (by omega) (by omega) hs (ties_bare F) (wantW 1 1 (by omega) (by omega) (by omega) (by decide)), rfl⟩
            · exact ⟨F, L.drop 1, _, _, stok_t hFw (by omega) (by omega) hs (ties_drop hring) (wantW 0 1 (by omega) (by omega) (by omega) (by decide)), rfl⟩
          · rintro ρ ⟨s6, s7, s8, _, rfl⟩
            exact .inl ⟨_, rfl, _, _, _, _, _, _, _, _, _, rfl, hb4⟩
          · rintro y es ρ ⟨s6, s7, s8, hy, rfl⟩
            have tl : ∀ x ∈ es, Str' x := fun x hx' => hy x (List.mem_cons_of_mem _ hx')
            obtain ⟨F', T', w', n', hst, rfl⟩ := hy y List.mem_cons_self
            have hn' := hst.fo.len
            have hi' := hst.hi
            have em := made_ok hst (k + 3)
            have hi0 : idxD (streetD F' T' w') (.int 0) = .ok (.tup (F'.map dS)) := rfl
            have hrn' : rngD (.int 0) (.int (F'.length : Int)) = .ok ((List.range F'.length).map fun (k : Nat) => .int (k : Int)) := rng_n (by rw [lim]; omega)
            have hev := is_even_ok hst (k + 8)
            have hls := lenset_ok (l := degs F' T') (by unfold degs; rw [List.length_map, List.length_range]; omega)
            have hle := lenset_even (degs_ne hst)
            have hdg : ((List.range F'.length).map fun i => D.int ((nb F' T' i).length : Int)) = (degs F' T').map D.int := by
              unfold degs
              rw [List.map_map]
              rfl
            generalize (PyProof.Rows.firstMet (fun i => (degs F' T').getD i 0) (degs F' T').length).length = x1 at *
            generalize evenB (degs F' T') = B at *
            have sm := same_ok 1 (.tup [.bl B, .bl B]) rfl (k + 9)
            simp only [Pu.run, ev, evs, evi, evp, R.bind_ok', entry, endOf, getAll, permute_nil, permute_cons, fill, put, List.map_cons, List.map_nil, List.length_cons, List.length_nil, List.cons_append, List.nil_append, List.replicate_succ, List.replicate_zero, Nat.reduceAdd, Nat.reduceSub, List.getElem?_cons_zero, List.getElem?_cons_succ, List.getElem?_nil, List.set_cons_zero, List.set_cons_succ, Option.bind_some, Option.map_some, wipeE, backE, List.getD_cons_zero, List.getD_cons_succ, and_true, true_and, reduceIte, if_true, if_false, Option.getD_some, Option.getD_none, List.isEmpty_nil, List.isEmpty_cons, Bool.not_true, Bool.not_false, decide_eq_true_eq, gt_iff_lt, Int.reduceLT, Int.reduceLE, Int.reduceAdd, Int.reduceMul, Int.reduceSub, Nat.reduceLT, Nat.reduceLeDiff, Nat.reduceEqDiff, decide_true, decide_false, Bool.false_eq_true, Bool.true_or, Bool.or_true, Bool.and_true, Bool.true_and, Bool.false_and, Bool.and_false, Bool.false_or, Bool.or_false, D.noClo, D.noClos, beq_self_eq_true, tru_bl, tru_lst, Rof_some, Rneg_ok, seqD_l, seqD_t, itemsD_l, itemsD_t, itemsD_s, add_i, sub_i, mul_i, fdiv_i, mod_i, pow_i, add_s, add_l, add_t, eq_i, ne_i, eq_s, ne_s, eq_b, lt_i, gt_i, le_i, ge_i, le_s, gt_s, ge_s, lt_s, isn_n, isnt_n, isNone_n, isNone_i, isNone_s, isNone_t, isNone_l, isNone_b, isNone_o, inn_d, nin_d, idx_l, idx_t, idx_s, slc_l, slc_t, slc_s, len_l, len_t, len_s, abs_i, int_i, min2_i, max2_i, tuple_l, tuple_t, list_l, list_t, sorted_l, divmod_i, gcd_i, isi_b, isi_i, isi_s, isi_t, isi_l, isi_n, isi_o, isi_oc, isi_ic, isi_sc, isi_tc, atI_0, atI_1, atI_2, atI_3, atI_last, ixN_0, ixN_1, ixN_2, cut_hi, rng_n, asgT_nm, asgT_tp, asgT_tpl, ne_b, asgT_sub, asgTs_nil, asgTs_cons, bindN_nm, bindN_tp, bindNs_nil, bindNs_cons, sb_int_bool, sb_int_str, sb_int_tuple, sb_int_list, sb_int_NoneType, sb_bool_int, sb_bool_str, sb_bool_tuple, sb_bool_list, sb_bool_NoneType, sb_str_int, sb_str_bool, sb_str_tuple, sb_str_list, sb_str_NoneType, sb_tuple_int, sb_tuple_bool, sb_tuple_str, sb_tuple_list, sb_tuple_NoneType, sb_list_int, sb_list_bool, sb_list_str, sb_list_tuple, sb_list_NoneType, lim_0, lim_1, lim_2, lim_3, lim_4, lim_5, lim_6, lim_7, lim_8, lim_9, lim_10, lim_11, lim_12, Yld_ok, em, hi0, List.length_map, hrn']
            try simp only [R.bind_bind]
            refine Yld.bind (lc_allY rfl (fun (i : Nat) => D.int (i : Int)) (fun i => D.int ((nb F' T' i).length : Int)) fun i hi => ?_) fun q' hq' => ?_
            · have hi := List.mem_range.mp hi
              have hbs := law_beside_ok hst (i := i) (by omega) (k + 10)
              simp only [Pu.run, ev, evs, evi, evp, R.bind_ok', entry, endOf, getAll, permute_nil, permute_cons, fill, put, List.map_cons, List.map_nil, List.length_cons, List.length_nil, List.cons_append, List.nil_append, List.replicate_succ, List.replicate_zero, Nat.reduceAdd, Nat.reduceSub, List.getElem?_cons_zero, List.getElem?_cons_succ, List.getElem?_nil, List.set_cons_zero, List.set_cons_succ, Option.bind_some, Option.map_some, wipeE, backE, List.getD_cons_zero, List.getD_cons_succ, and_true, true_and, reduceIte, if_true, if_false, Option.getD_some, Option.getD_none, List.isEmpty_nil, List.isEmpty_cons, Bool.not_true, Bool.not_false, decide_eq_true_eq, gt_iff_lt, Int.reduceLT, Int.reduceLE, Int.reduceAdd, Int.reduceMul, Int.reduceSub, Nat.reduceLT, Nat.reduceLeDiff, Nat.reduceEqDiff, decide_true, decide_false, Bool.false_eq_true, Bool.true_or, Bool.or_true, Bool.and_true, Bool.true_and, Bool.false_and, Bool.and_false, Bool.false_or, Bool.or_false, D.noClo, D.noClos, beq_self_eq_true, tru_bl, tru_lst, Rof_some, Rneg_ok, seqD_l, seqD_t, itemsD_l, itemsD_t, itemsD_s, add_i, sub_i, mul_i, fdiv_i, mod_i, pow_i, add_s, add_l, add_t, eq_i, ne_i, eq_s, ne_s, eq_b, lt_i, gt_i, le_i, ge_i, le_s, gt_s, ge_s, lt_s, isn_n, isnt_n, isNone_n, isNone_i, isNone_s, isNone_t, isNone_l, isNone_b, isNone_o, inn_d, nin_d, idx_l, idx_t, idx_s, slc_l, slc_t, slc_s, len_l, len_t, len_s, abs_i, int_i, min2_i, max2_i, tuple_l, tuple_t, list_l, list_t, sorted_l, divmod_i, gcd_i, isi_b, isi_i, isi_s, isi_t, isi_l, isi_n, isi_o, isi_oc, isi_ic, isi_sc, isi_tc, atI_0, atI_1, atI_2, atI_3, atI_last, ixN_0, ixN_1, ixN_2, cut_hi, rng_n, asgT_nm, asgT_tp, asgT_tpl, ne_b, asgT_sub, asgTs_nil, asgTs_cons, bindN_nm, bindN_tp, bindNs_nil, bindNs_cons, sb_int_bool, sb_int_str, sb_int_tuple, sb_int_list, sb_int_NoneType, sb_bool_int, sb_bool_str, sb_bool_tuple, sb_bool_list, sb_bool_NoneType, sb_str_int, sb_str_bool, sb_str_tuple, sb_str_list, sb_str_NoneType, sb_tuple_int, sb_tuple_bool, sb_tuple_str, sb_tuple_list, sb_tuple_NoneType, sb_list_int, sb_list_bool, sb_list_str, sb_list_tuple, sb_list_NoneType, lim_0, lim_1, lim_2, lim_3, lim_4, lim_5, lim_6, lim_7, lim_8, lim_9, lim_10, lim_11, lim_12, Yld_ok, hbs, List.length_map]
              try exact ⟨rfl, rfl⟩
            rw [hq', hdg]
            simp only [Pu.run, ev, evs, evi, evp, R.bind_ok', entry, endOf, getAll, permute_nil, permute_cons, fill, put, List.map_cons, List.map_nil, List.length_cons, List.length_nil, List.cons_append, List.nil_append, List.replicate_succ, List.replicate_zero, Nat.reduceAdd, Nat.reduceSub, List.getElem?_cons_zero, List.getElem?_cons_succ, List.getElem?_nil, List.set_cons_zero, List.set_cons_succ, Option.bind_some, Option.map_some, wipeE, backE, List.getD_cons_zero, List.getD_cons_succ, and_true, true_and, reduceIte, if_true, if_false, Option.getD_some, Option.getD_none, List.isEmpty_nil, List.isEmpty_cons, Bool.not_true, Bool.not_false, decide_eq_true_eq, gt_iff_lt, Int.reduceLT, Int.reduceLE, Int.reduceAdd, Int.reduceMul, Int.reduceSub, Nat.reduceLT, Nat.reduceLeDiff, Nat.reduceEqDiff, decide_true, decide_false, Bool.false_eq_true, Bool.true_or, Bool.or_true, Bool.and_true, Bool.true_and, Bool.false_and, Bool.and_false, Bool.false_or, Bool.or_false, D.noClo, D.noClos, beq_self_eq_true, tru_bl, tru_lst, Rof_some, Rneg_ok, seqD_l, seqD_t, itemsD_l, itemsD_t, itemsD_s, add_i, sub_i, mul_i, fdiv_i, mod_i, pow_i, add_s, add_l, add_t, eq_i, ne_i, eq_s, ne_s, eq_b, lt_i, gt_i, le_i, ge_i, le_s, gt_s, ge_s, lt_s, isn_n, isnt_n, isNone_n, isNone_i, isNone_s, isNone_t, isNone_l, isNone_b, isNone_o, inn_d, nin_d, idx_l, idx_t, idx_s, slc_l, slc_t, slc_s, len_l, len_t, len_s, abs_i, int_i, min2_i, max2_i, tuple_l, tuple_t, list_l, list_t, sorted_l, divmod_i, gcd_i, isi_b, isi_i, isi_s, isi_t, isi_l, isi_n, isi_o, isi_oc, isi_ic, isi_sc, isi_tc, atI_0, atI_1, atI_2, atI_3, atI_last, ixN_0, ixN_1, ixN_2, cut_hi, rng_n, asgT_nm, asgT_tp, asgT_tpl, ne_b, asgT_sub, asgTs_nil, asgTs_cons, bindN_nm, bindN_tp, bindNs_nil, bindNs_cons, sb_int_bool, sb_int_str, sb_int_tuple, sb_int_list, sb_int_NoneType, sb_bool_int, sb_bool_str, sb_bool_tuple, sb_bool_list, sb_bool_NoneType, sb_str_int, sb_str_bool, sb_str_tuple, sb_str_list, sb_str_NoneType, sb_tuple_int, sb_tuple_bool, sb_tuple_str, sb_tuple_list, sb_tuple_NoneType, sb_list_int, sb_list_bool, sb_list_str, sb_list_tuple, sb_list_NoneType, lim_0, lim_1, lim_2, lim_3, lim_4, lim_5, lim_6, lim_7, lim_8, lim_9, lim_10, lim_11, lim_12, Yld_ok, hls, hle, hev, sm]
            exact .inl ⟨_, rfl, _, _, _, tl, rfl⟩
  obtain ⟨q, e, outs, rfl⟩ := key
  exact ⟨outs, e⟩
theorem plain (ns : List Int) (hl : ns.length ≤ 63) : (calls P (20 + 1)).call n_law [.lst (ns.map Pu.D.int)] = .ok (.bl true, []) :=
  law_ok (fun b hb => right_ok hb 8) (by decide) ns hl
end K08

open PySem PySem.W PySem.Calls PyProof.Rows
theorem PySem.Challenge.cw_ownkinds_k08_whole_even_streets_holds : PySem.Challenge.rw_ownkinds_k08_whole_even_streets.Holds := by
  w_on; o_law
  refine HandSHeadRun.head_imp (r := OpenLaw.row PySem.Challenge.rw_ownkinds_k08_whole_even_streets) (q := view (OpenLaw.row PySem.Challenge.rw_ownkinds_k08_whole_even_streets).prog [0, 44]) (H := Pu.hookP K08.I 5) (ob := Pu.obP K08.I 5) (M := 20000) (loose := K08.loose)
    (d := HandSHeadRun.topDef (OpenLaw.row PySem.Challenge.rw_ownkinds_k08_whole_even_streets).prog 44) (kwd := []) (fun s => Pu.obP_eq s)
    K08.run_eq (by kernel_rfl) (by kernel_rfl) (by kernel_rfl) (by rfl) (by first | assumption | decide +kernel) (by decide +kernel) ⟨rfl, rfl, rfl, rfl, rfl, by decide +kernel⟩ ?hw ?hc
  case hw => w_witness2
  case hc =>
    refine LamX.walk_ofTsE (l := PySem.Challenge.rw_ownkinds_k08_whole_even_streets) (n := 63) (k := 2 * (20 + 1)) (x := "script") (CX := fun _ => L2.CX0) rfl (by decide) (by kernel_rfl) ⟨rfl, by decide, by decide⟩ ?F (fun _ _ _ _ _ z => z)
    intro w mg fa h Y G hmg0
    obtain ⟨K, KX, c⟩ := Y
    have hmg : mg ("law" : PySem.Str) = some (.ref fa) := by
      have e : (HandSHeadRun.topDef (OpenLaw.row PySem.Challenge.rw_ownkinds_k08_whole_even_streets).prog 44).name = ("law" : PySem.Str) := by kernel_rfl
      rw [← e]
      exact hmg0
    exact ⟨K, KX, Pu.law_at K08.st K08.ends0 KX c G hmg fun ns hl hb => K08.plain ns hl⟩


