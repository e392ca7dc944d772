import PyProof.Rows.All
import Wide.All
import OpenK.AllK
import Wide.FinOn
import KE.KStateDown
import KE.DataEq
import Lean
import HandS.ForMost
import HandS.Exc
import HandS.More
import HandS.Wide
import HandS.Defaults
import HandS.Flow
import HandS.TupAny
import HandS.TupMul
import HandS.Zip
import HandS.Rev
import HandS.IsInst
import HandS.HeadHook1
import PyProof.Rows.SortShellAny
import HandS.HeadHook2
import HandS.Deep
import HandS.SortOrd
import HandS.Remove
import HandS.TupSets
import HandS.SetBool
import KE.DataFind
import PyProof.AutoSeq1
import PyProof.Rows.ExtendIn
import HandS.HeadWalk
import HandS.Iter
import HandS.DictComp
import KE.GoesEnum
import PyProof.SliceSyntax
import PyProof.SliceList
import PyProof.Rows.TupDisplay
import HandS.NoneIn
import HandS.HeadHook3
import HandS.HeadHook4
import HandS.HeadEnd
import HandS.Head0
import HandS.Head1
import HandS.Head2
import PySem.Challenge.RW_tellsnomore_k58_groups_nests_and_moving
set_option Elab.async false
set_option linter.all false
set_option maxRecDepth 100000
set_option maxHeartbeats 0
/-! ### Z1 -/
/-! Z1: deep data, the store, and how they lie in the layer's heap. -/
namespace Z
open PySem PySem.Spec PyProof.Rows L2
abbrev Frag := PySem.W.Frag
/-- a value with its tuples written out -/
inductive D where
  | non | bl (b : Bool) | int (i : Int) | str (x : Str) | tup (ds : List D) | ref (a : Addr) | ty (n : String) | scr (ns : List Int)
instance : Inhabited D := ⟨.non⟩
/-- an object that may change -/
inductive O where
  | lst (ds : List D) | dic (kvs : List (Key × D)) | ins (C : Str) (fs : List (Str × D)) | fdc (o : Obj) (vs : List (Key × V)) (kvs : List (Key × D))
abbrev Sto := Addr → Option O
abbrev Ev := List (Option D)
def up (S : Sto) (a : Addr) (o : O) : Sto := fun b => if b = a then some o else S b
theorem up_same {S : Sto} {a : Addr} {o : O} : up S a o a = some o := by unfold up; rw [if_pos rfl]
theorem up_ne {S : Sto} {a b : Addr} {o : O} (h : b ≠ a) : up S a o b = S b := by unfold up; rw [if_neg h]
theorem up_up {S : Sto} {a : Addr} {o u : O} : up (up S a o) a u = up S a u := by
  funext b; unfold up; split <;> rfl
/-- a list that nothing changes -/
def FrzL (K : Frag) (H : Hp) (a : Addr) (xs : List V) : Prop := (∃ o, H a = some (.frz o (.lst xs))) ∨
  ∃ (o : Obj) (its : Array Value) (n : Nat), K.lookup a = some o ∧ o.cls = .type "list" ∧ o.dict = none ∧ o.data = .seq its n ∧ its.size ≤ sizeLine ∧ Vals xs its.toList
theorem FrzL.sq {K : Frag} {H : Hp} {a : Addr} {xs : List V} (h : FrzL K H a xs) : SqL K H a xs := by
  rcases h with h | h
  · exact .inl (.inr h)
  · exact .inr h
mutual
def Rep (K : Frag) (H : Hp) : D → V → Prop
  | .non, v => v = .non
  | .bl b, v => v = .bl b
  | .int i, v => v = .int i
  | .str x, v => v = .str x
  | .ref a, v => v = .ref a
  | .ty n, v => v = .ty n
  | .scr ns, v => ∃ a, v = .ref a ∧ FrzL K H a (ns.map V.int)
  | .tup ds, v => ∃ a xs, v = .ref a ∧ SqT K H a xs ∧ Reps K H ds xs
def Reps (K : Frag) (H : Hp) : List D → List V → Prop
  | [], xs => xs = []
  | d :: ds, xs => ∃ v vs, xs = v :: vs ∧ Rep K H d v ∧ Reps K H ds vs
end
def TupLe (K : Frag) (H H1 : Hp) : Prop := ∀ a xs, (SqT K H a xs → SqT K H1 a xs) ∧ (FrzL K H a xs → FrzL K H1 a xs)
mutual
theorem Rep.mono {K : Frag} {H H1 : Hp} (h : TupLe K H H1) : ∀ (d : D) (v : V), Rep K H d v → Rep K H1 d v
  | .non, v, r => by unfold Rep at *; exact r
  | .bl b, v, r => by unfold Rep at *; exact r
  | .int i, v, r => by unfold Rep at *; exact r
  | .str x, v, r => by unfold Rep at *; exact r
  | .ref a, v, r => by unfold Rep at *; exact r
  | .ty a, v, r => by unfold Rep at *; exact r
  | .scr ns, v, r => by
    unfold Rep at *
    obtain ⟨a, e, q⟩ := r
    exact ⟨a, e, (h a _).2 q⟩
  | .tup ds, v, r => by
    unfold Rep at *
    obtain ⟨a, xs, e, q, rs⟩ := r
    exact ⟨a, xs, e, (h a xs).1 q, Reps.mono h ds xs rs⟩
theorem Reps.mono {K : Frag} {H H1 : Hp} (h : TupLe K H H1) : ∀ (ds : List D) (xs : List V), Reps K H ds xs → Reps K H1 ds xs
  | [], xs, r => by unfold Reps at *; exact r
  | d :: ds, xs, r => by
    unfold Reps at *
    obtain ⟨v, vs, e, q, rs⟩ := r
    exact ⟨v, vs, e, Rep.mono h d v q, Reps.mono h ds vs rs⟩
end
theorem rep_non {K : Frag} {H : Hp} {v : V} : Rep K H .non v ↔ v = .non := by unfold Rep; exact Iff.rfl
theorem rep_bl {K : Frag} {H : Hp} {v : V} {b : Bool} : Rep K H (.bl b) v ↔ v = .bl b := by unfold Rep; exact Iff.rfl
theorem rep_int {K : Frag} {H : Hp} {v : V} {b : Int} : Rep K H (.int b) v ↔ v = .int b := by unfold Rep; exact Iff.rfl
theorem rep_str {K : Frag} {H : Hp} {v : V} {b : Str} : Rep K H (.str b) v ↔ v = .str b := by unfold Rep; exact Iff.rfl
theorem rep_ref {K : Frag} {H : Hp} {v : V} {b : Addr} : Rep K H (.ref b) v ↔ v = .ref b := by unfold Rep; exact Iff.rfl
theorem rep_ty {K : Frag} {H : Hp} {v : V} {b : String} : Rep K H (.ty b) v ↔ v = .ty b := by unfold Rep; exact Iff.rfl
theorem rep_scr {K : Frag} {H : Hp} {v : V} {ns : List Int} : Rep K H (.scr ns) v ↔ ∃ a, v = .ref a ∧ FrzL K H a (ns.map V.int) := by
  constructor
  · intro h; unfold Rep at h; exact h
  · intro h; unfold Rep; exact h
theorem rep_tup {K : Frag} {H : Hp} {v : V} {ds : List D} : Rep K H (.tup ds) v ↔ ∃ a xs, v = .ref a ∧ SqT K H a xs ∧ Reps K H ds xs := by
  constructor
  · intro h; unfold Rep at h; exact h
  · intro h; unfold Rep; exact h
theorem reps_nil {K : Frag} {H : Hp} {xs : List V} : Reps K H [] xs ↔ xs = [] := by unfold Reps; exact Iff.rfl
theorem reps_cons {K : Frag} {H : Hp} {xs : List V} {d : D} {ds : List D} : Reps K H (d :: ds) xs ↔ ∃ v vs, xs = v :: vs ∧ Rep K H d v ∧ Reps K H ds vs := by
  constructor
  · intro h; unfold Reps at h; exact h
  · intro h; unfold Reps; exact h
theorem Reps.length {K : Frag} {H : Hp} : ∀ {ds : List D} {xs : List V}, Reps K H ds xs → xs.length = ds.length
  | [], xs, r => by rw [reps_nil.mp r] <;> rfl
  | d :: ds, xs, r => by
    obtain ⟨v, vs, rfl, _, rs⟩ := reps_cons.mp r
    simp [Reps.length rs]
theorem Reps.get {K : Frag} {H : Hp} : ∀ {ds : List D} {xs : List V} {i : Nat} {d : D}, Reps K H ds xs → ds[i]? = some d → ∃ v, xs[i]? = some v ∧ Rep K H d v
  | [], xs, i, d, r, e => by simp at e
  | d0 :: ds, xs, 0, d, r, e => by
    obtain ⟨v, vs, rfl, q, rs⟩ := reps_cons.mp r
    simp at e; subst e
    exact ⟨v, rfl, q⟩
  | d0 :: ds, xs, i + 1, d, r, e => by
    obtain ⟨v, vs, rfl, q, rs⟩ := reps_cons.mp r
    obtain ⟨u, hu, ru⟩ := Reps.get (i := i) (d := d) rs (by simpa using e)
    exact ⟨u, by simpa using hu, ru⟩
theorem Reps.get' {K : Frag} {H : Hp} : ∀ {ds : List D} {xs : List V} {i : Nat} {v : V}, Reps K H ds xs → xs[i]? = some v → ∃ d, ds[i]? = some d ∧ Rep K H d v
  | [], xs, i, v, r, e => by rw [reps_nil.mp r] at e; simp at e
  | d0 :: ds, xs, 0, v, r, e => by
    obtain ⟨u, vs, rfl, q, rs⟩ := reps_cons.mp r
    simp at e; subst e
    exact ⟨d0, rfl, q⟩
  | d0 :: ds, xs, i + 1, v, r, e => by
    obtain ⟨u, vs, rfl, q, rs⟩ := reps_cons.mp r
    obtain ⟨d, hd, rd⟩ := Reps.get' (i := i) (v := v) rs (by simpa using e)
    exact ⟨d, by simpa using hd, rd⟩
theorem Reps.append {K : Frag} {H : Hp} : ∀ {ds es : List D} {xs ys : List V}, Reps K H ds xs → Reps K H es ys → Reps K H (ds ++ es) (xs ++ ys)
  | [], es, xs, ys, r, q => by rw [reps_nil.mp r]; exact q
  | d :: ds, es, xs, ys, r, q => by
    obtain ⟨v, vs, rfl, rv, rs⟩ := reps_cons.mp r
    exact reps_cons.mpr ⟨v, vs ++ ys, rfl, rv, Reps.append rs q⟩
theorem Reps.take {K : Frag} {H : Hp} : ∀ {ds : List D} {xs : List V} (n : Nat), Reps K H ds xs → Reps K H (ds.take n) (xs.take n)
  | ds, xs, 0, r => by simp [reps_nil]
  | [], xs, n + 1, r => by rw [reps_nil.mp r]; exact reps_nil.mpr rfl
  | d :: ds, xs, n + 1, r => by
    obtain ⟨v, vs, rfl, rv, rs⟩ := reps_cons.mp r
    exact reps_cons.mpr ⟨v, vs.take n, rfl, rv, Reps.take n rs⟩
theorem Reps.drop {K : Frag} {H : Hp} : ∀ {ds : List D} {xs : List V} (n : Nat), Reps K H ds xs → Reps K H (ds.drop n) (xs.drop n)
  | ds, xs, 0, r => by simpa using r
  | [], xs, n + 1, r => by rw [reps_nil.mp r]; exact reps_nil.mpr rfl
  | d :: ds, xs, n + 1, r => by
    obtain ⟨v, vs, rfl, rv, rs⟩ := reps_cons.mp r
    simpa using Reps.drop n rs
theorem Reps.set {K : Frag} {H : Hp} {d : D} {v : V} (q : Rep K H d v) : ∀ {ds : List D} {xs : List V} (i : Nat), Reps K H ds xs → Reps K H (ds.set i d) (xs.set i v)
  | [], xs, i, r => by rw [reps_nil.mp r]; exact reps_nil.mpr rfl
  | e :: ds, xs, 0, r => by
    obtain ⟨u, vs, rfl, rv, rs⟩ := reps_cons.mp r
    exact reps_cons.mpr ⟨v, vs, rfl, q, rs⟩
  | e :: ds, xs, i + 1, r => by
    obtain ⟨u, vs, rfl, rv, rs⟩ := reps_cons.mp r
    exact reps_cons.mpr ⟨u, vs.set i v, rfl, rv, Reps.set q i rs⟩
theorem Reps.reverse {K : Frag} {H : Hp} : ∀ {ds : List D} {xs : List V}, Reps K H ds xs → Reps K H ds.reverse xs.reverse
  | [], xs, r => by rw [reps_nil.mp r]; exact reps_nil.mpr rfl
  | d :: ds, xs, r => by
    obtain ⟨v, vs, rfl, rv, rs⟩ := reps_cons.mp r
    rw [List.reverse_cons, List.reverse_cons]
    exact Reps.append (Reps.reverse rs) (reps_cons.mpr ⟨v, [], rfl, rv, reps_nil.mpr rfl⟩)
theorem Reps.dropLast {K : Frag} {H : Hp} {ds : List D} {xs : List V} (r : Reps K H ds xs) : Reps K H ds.dropLast xs.dropLast := by
  rw [List.dropLast_eq_take, List.dropLast_eq_take, r.length]
  exact r.take _
theorem Reps.ints {K : Frag} {H : Hp} : ∀ {ns : List Int} {xs : List V}, Reps K H (ns.map D.int) xs ↔ xs = ns.map V.int
  | [], xs => by exact reps_nil
  | n :: ns, xs => by
    rw [List.map_cons, reps_cons]
    constructor
    · rintro ⟨v, vs, rfl, q, rs⟩
      rw [rep_int.mp q, Reps.ints.mp rs] <;> rfl
    · rintro rfl
      exact ⟨_, _, rfl, rep_int.mpr rfl, Reps.ints.mpr rfl⟩
theorem Reps.strs {K : Frag} {H : Hp} : ∀ {ns : List Str} {xs : List V}, Reps K H (ns.map D.str) xs ↔ xs = ns.map V.str
  | [], xs => by exact reps_nil
  | n :: ns, xs => by
    rw [List.map_cons, reps_cons]
    constructor
    · rintro ⟨v, vs, rfl, q, rs⟩
      rw [rep_str.mp q, Reps.strs.mp rs] <;> rfl
    · rintro rfl
      exact ⟨_, _, rfl, rep_str.mpr rfl, Reps.strs.mpr rfl⟩
theorem Reps.bls {K : Frag} {H : Hp} : ∀ {ns : List Bool} {xs : List V}, Reps K H (ns.map D.bl) xs ↔ xs = ns.map V.bl
  | [], xs => by exact reps_nil
  | n :: ns, xs => by
    rw [List.map_cons, reps_cons]
    constructor
    · rintro ⟨v, vs, rfl, q, rs⟩
      rw [rep_bl.mp q, Reps.bls.mp rs] <;> rfl
    · rintro rfl
      exact ⟨_, _, rfl, rep_bl.mpr rfl, Reps.bls.mpr rfl⟩

/-! ### the store in the heap -/
def keyD : Key → D
  | .inl i => .int i
  | .inr x => .str x
theorem rep_key {K : Frag} {H : Hp} {k : Key} {v : V} : Rep K H (keyD k) v ↔ v = kV k := by
  cases k with
  | inl i => exact rep_int
  | inr x => exact rep_str
/-- pairs with equal firsts and related seconds -/
def RepKV {κ : Type} (K : Frag) (H : Hp) : List (κ × D) → List (κ × V) → Prop := Paired fun p q => p.1 = q.1 ∧ Rep K H p.2 q.2
theorem RepKV.mono {κ : Type} {K : Frag} {H H1 : Hp} (h : TupLe K H H1) {a : List (κ × D)} {b : List (κ × V)} (r : RepKV K H a b) : RepKV K H1 a b := Paired.mapP r fun p q z => ⟨z.1, Rep.mono h _ _ z.2⟩
def RepO (K : Frag) (H : Hp) (a : Addr) : O → Prop
  | .lst ds => ∃ xs, H a = some (.lst xs) ∧ Reps K H ds xs
  | .dic kvs => ∃ vs, H a = some (.dK vs) ∧ RepKV K H kvs vs
  | .ins C fs => ∃ dx vs, H a = some (.ins (He.ga K C) dx vs) ∧ RepKV K H fs vs
  | .fdc o vs kvs => H a = some (.frz o (.dK vs)) ∧ RepKV K H kvs vs
def StR (K : Frag) (H : Hp) (S : Sto) : Prop := ∀ a o, S a = some o → RepO K H a o
/-- what the store does not hold is as it was, and is not held -/
def Ext (H : Hp) (S : Sto) (H1 : Hp) (S1 : Sto) : Prop := ∀ a o, H a = some o → S a = none → H1 a = some o ∧ S1 a = none
theorem Ext.refl {H : Hp} {S : Sto} : Ext H S H S := fun _ _ h q => ⟨h, q⟩
theorem Ext.trans {H H1 H2 : Hp} {S S1 S2 : Sto} (a : Ext H S H1 S1) (b : Ext H1 S1 H2 S2) : Ext H S H2 S2 := fun c o h q => b c o (a c o h q).1 (a c o h q).2
def Sub (S S1 : Sto) : Prop := ∀ a o, S a = some o → S1 a = some o
theorem Sub.refl {S : Sto} : Sub S S := fun _ _ h => h
theorem Sub.trans {S S1 S2 : Sto} (a : Sub S S1) (b : Sub S1 S2) : Sub S S2 := fun c o h => b c o (a c o h)
theorem Sub.free {S S1 : Sto} (a : Sub S S1) {p : Addr} (h : S1 p = none) : S p = none := by
  cases e : S p with
  | none => rfl
  | some o => rw [a p o e] at h; cases h
theorem Sub.up {S S1 : Sto} (a : Sub S S1) {p : Addr} {o : O} (h : S p = none) : Sub S (up S1 p o) := fun c u e => by
  have : c ≠ p := by rintro rfl; rw [h] at e; cases e
  rw [up_ne this]; exact a c u e
theorem sub_up {S : Sto} {p : Addr} {o : O} (h : S p = none) : Sub S (up S p o) := Sub.refl.up h
theorem Ext.sub {H H1 : Hp} {S S1 S2 : Sto} (a : Ext H S H1 S1) (b : Sub S2 S1) : Ext H S H1 S2 := fun c o h q => ⟨(a c o h q).1, b.free (a c o h q).2⟩
theorem StR.sub {K : Frag} {H : Hp} {S S1 : Sto} (a : StR K H S1) (b : Sub S S1) : StR K H S := fun c o h => a c o (b c o h)
theorem StR.fresh {K : Frag} {H : Hp} {S : Sto} (a : StR K H S) {p : Addr} (h : H p = none) : S p = none := by
  cases e : S p with
  | none => rfl
  | some o =>
    have r := a p o e
    cases o with
    | lst ds => obtain ⟨_, q, _⟩ := r; rw [h] at q; cases q
    | dic ds => obtain ⟨_, q, _⟩ := r; rw [h] at q; cases q
    | ins C ds => obtain ⟨_, _, q, _⟩ := r; rw [h] at q; cases q
    | fdc o vs ds => obtain ⟨q, _⟩ := r; rw [h] at q; cases q
theorem StR.notup {K : Frag} {H : Hp} {S : Sto} (a : StR K H S) {p : Addr} {xs : List V} (h : Rd H p (.tup xs)) : S p = none := by
  cases e : S p with
  | none => rfl
  | some o =>
    have r := a p o e
    cases o with
    | lst ds => obtain ⟨_, q, _⟩ := r; rcases h with h | ⟨_, h⟩ <;> (rw [h] at q; cases q)
    | dic ds => obtain ⟨_, q, _⟩ := r; rcases h with h | ⟨_, h⟩ <;> (rw [h] at q; cases q)
    | ins C ds => obtain ⟨_, _, q, _⟩ := r; rcases h with h | ⟨_, h⟩ <;> (rw [h] at q; cases q)
    | fdc o vs ds => obtain ⟨q, _⟩ := r; rcases h with h | ⟨_, h⟩ <;> (rw [h] at q; cases q)
theorem StR.nofrz {K : Frag} {H : Hp} {S : Sto} (a : StR K H S) {p : Addr} {o : Obj} {xs : List V} (h : H p = some (.frz o (.lst xs))) : S p = none := by
  cases e : S p with
  | none => rfl
  | some o =>
    have r := a p o e
    cases o with
    | lst ds => obtain ⟨_, q, _⟩ := r; rw [h] at q; cases q
    | dic ds => obtain ⟨_, q, _⟩ := r; rw [h] at q; cases q
    | ins C ds => obtain ⟨_, _, q, _⟩ := r; rw [h] at q; cases q
    | fdc o vs ds => obtain ⟨q, _⟩ := r; rw [h] at q; cases q
theorem Ext.tups {K : Frag} {H H1 : Hp} {S S1 : Sto} (a : Ext H S H1 S1) (s : StR K H S) : TupLe K H H1 := fun p xs => by
  constructor
  · intro h
    rcases h with h | h
    · have n := s.notup h
      rcases h with h | ⟨o, h⟩
      · exact .inl (.inl (a p _ h n).1)
      · exact .inl (.inr ⟨o, (a p _ h n).1⟩)
    · exact .inr h
  · intro h
    rcases h with ⟨o, h⟩ | h
    · exact .inl ⟨o, (a p _ h (s.nofrz h)).1⟩
    · exact .inr h
/-- a new object on the heap that the store does not take -/
theorem tupLe_new {K : Frag} {H : Hp} {p : Addr} {o : HO} (h : H p = none) : TupLe K H (upd H p o) := fun a xs => by
  constructor
  · intro q
    rcases q with q | q
    · rcases q with q | ⟨u, q⟩
      · exact .inl (.inl (by rw [upd_ne (ne_of_none q h)]; exact q))
      · exact .inl (.inr ⟨u, by rw [upd_ne (ne_of_none q h)]; exact q⟩)
    · exact .inr q
  · intro q
    rcases q with ⟨u, q⟩ | q
    · exact .inl ⟨u, by rw [upd_ne (ne_of_none q h)]; exact q⟩
    · exact .inr q
theorem RepO.mono {K : Frag} {H H1 : Hp} {a : Addr} {o : O} (r : RepO K H a o) (t : TupLe K H H1) (k : ∀ u, H a = some u → H1 a = some u) : RepO K H1 a o := by
  cases o with
  | lst ds => obtain ⟨xs, h, r⟩ := r; exact ⟨xs, k _ h, Reps.mono t _ _ r⟩
  | dic ds => obtain ⟨xs, h, r⟩ := r; exact ⟨xs, k _ h, r.mono t⟩
  | ins C ds => obtain ⟨dx, xs, h, r⟩ := r; exact ⟨dx, xs, k _ h, r.mono t⟩
  | fdc o vs ds => obtain ⟨h, r⟩ := r; exact ⟨k _ h, r.mono t⟩
theorem StR.new {K : Frag} {H : Hp} {S : Sto} (s : StR K H S) {p : Addr} {o : HO} (h : H p = none) : StR K (upd H p o) S := fun a u e =>
  (s a u e).mono (tupLe_new h) fun v q => by rw [upd_ne (ne_of_none q h)]; exact q
theorem StR.newUp {K : Frag} {H : Hp} {S : Sto} (s : StR K H S) {p : Addr} {o : HO} {u : O} (h : H p = none) (r : RepO K (upd H p o) p u) : StR K (upd H p o) (up S p u) := fun a v e => by
  by_cases hap : a = p
  · subst hap; rw [up_same] at e; cases e; exact r
  · rw [up_ne hap] at e; exact s.new h a v e
theorem ext_new {H : Hp} {S : Sto} {p : Addr} {o : HO} (h : H p = none) : Ext H S (upd H p o) S := fun a u e n => ⟨by rw [upd_ne (ne_of_none e h)]; exact e, n⟩
theorem ext_newUp {H : Hp} {S : Sto} {p : Addr} {o : HO} {v : O} (h : H p = none) : Ext H S (upd H p o) (up S p v) := fun a u e n => ⟨by rw [upd_ne (ne_of_none e h)]; exact e, by rw [up_ne (ne_of_none e h)]; exact n⟩
/-- an object of the store is changed -/
theorem tupLe_set {K : Frag} {H : Hp} {S : Sto} (s : StR K H S) {p : Addr} {o : O} {u : HO} (h : S p = some o) : TupLe K H (upd H p u) := fun a xs => by
  constructor
  · intro q
    rcases q with q | q
    · have n := s.notup q
      have : a ≠ p := by rintro rfl; rw [h] at n; cases n
      rcases q with q | ⟨w, q⟩
      · exact .inl (.inl (by rw [upd_ne this]; exact q))
      · exact .inl (.inr ⟨w, by rw [upd_ne this]; exact q⟩)
    · exact .inr q
  · intro q
    rcases q with ⟨w, q⟩ | q
    · have n := s.nofrz q
      have : a ≠ p := by rintro rfl; rw [h] at n; cases n
      exact .inl ⟨w, by rw [upd_ne this]; exact q⟩
    · exact .inr q
theorem StR.setUp {K : Frag} {H : Hp} {S : Sto} (s : StR K H S) {p : Addr} {o' : O} {o : HO} {u : O} (h : S p = some o') (r : RepO K (upd H p o) p u) : StR K (upd H p o) (up S p u) := fun a v e => by
  by_cases hap : a = p
  · subst hap; rw [up_same] at e; cases e; exact r
  · rw [up_ne hap] at e
    exact (s a v e).mono (tupLe_set s h) fun v q => by rw [upd_ne hap]; exact q
theorem ext_setUp {H : Hp} {S : Sto} {p : Addr} {o : HO} {o' v : O} (h : S p = some o') : Ext H S (upd H p o) (up S p v) := fun a u e n => by
  have : a ≠ p := by rintro rfl; rw [h] at n; cases n
  exact ⟨by rw [upd_ne this]; exact e, by rw [up_ne this]; exact n⟩

/-! ### environments -/
def EnvR (K : Frag) (H : Hp) (ρ : Ev) (σ : L2.St) : Prop := ρ.length = σ.length ∧ ∀ (i : Nat) (d : D), ρ[i]? = some (some d) → ∃ v, σ[i]? = some (some v) ∧ Rep K H d v
theorem EnvR.mono {K : Frag} {H H1 : Hp} {ρ : Ev} {σ : L2.St} (e : EnvR K H ρ σ) (t : TupLe K H H1) : EnvR K H1 ρ σ := ⟨e.1, fun i d h => let ⟨v, a, b⟩ := e.2 i d h; ⟨v, a, Rep.mono t _ _ b⟩⟩
theorem EnvR.set {K : Frag} {H : Hp} {ρ : Ev} {σ : L2.St} (e : EnvR K H ρ σ) {i : Nat} {d : D} {v : V} (r : Rep K H d v) : EnvR K H (ρ.set i (some d)) (σ.set i (some v)) := by
  refine ⟨by simp [e.1], fun j u h => ?_⟩
  by_cases hj : i = j
  · subst hj
    by_cases hl : i < ρ.length
    · rw [List.getElem?_set_self hl] at h
      cases h
      exact ⟨v, by rw [List.getElem?_set_self (by rw [← e.1]; exact hl)], r⟩
    · rw [List.getElem?_eq_none (by simpa using hl)] at h; cases h
  · rw [List.getElem?_set_ne hj] at h
    obtain ⟨w, a, b⟩ := e.2 j u h
    exact ⟨w, by rw [List.getElem?_set_ne hj]; exact a, b⟩

/-! ### readings over deep data -/
abbrev PK (α : Type) := α → Sto → Prop
abbrev WE := Ev → Sto → PK D → Prop
abbrev WT := Ev → Sto → PK Bool → Prop
abbrev WA := Ev → Sto → PK (List D) → Prop
/-- what is behind -/
def Fin (K : Frag) (H : Hp) (S : Sto) (Q' : PK D) (Q : VK) : Prop := ∀ d v H1 S1, Ext H S H1 S1 → StR K H1 S1 → Rep K H1 d v → Q' d S1 → Q v H1
def FinT (K : Frag) (H : Hp) (S : Sto) (Q' : PK Bool) (Q : Bool → Hp → Prop) : Prop := ∀ b H1 S1, Ext H S H1 S1 → StR K H1 S1 → Q' b S1 → Q b H1
def FinA (K : Frag) (H : Hp) (S : Sto) (Q' : PK (List D)) (Q : List V → Hp → Prop) : Prop := ∀ ds vs H1 S1, Ext H S H1 S1 → StR K H1 S1 → Reps K H1 ds vs → Q' ds S1 → Q vs H1
def lift (K : Frag) (W : WE) : TE := fun σ H Q => ∃ ρ S Q', EnvR K H ρ σ ∧ StR K H S ∧ W ρ S Q' ∧ Fin K H S Q' Q
def liftT (K : Frag) (W : WT) : TT := fun σ H Q => ∃ ρ S Q', EnvR K H ρ σ ∧ StR K H S ∧ W ρ S Q' ∧ FinT K H S Q' Q
def liftA (K : Frag) (W : WA) : TA := fun σ H Q => ∃ ρ S Q', EnvR K H ρ σ ∧ StR K H S ∧ W ρ S Q' ∧ FinA K H S Q' Q
abbrev SE (X : Cx) (e : Expr) (W : WE) : Prop := PE X e (lift X.K W)
abbrev ST (X : Cx) (e : Expr) (W : WT) : Prop := PT X e (liftT X.K W)
abbrev SW (X : Cx) (e : Expr) (W : WT) : Prop := PW X e (liftT X.K W)
abbrev SA (X : Cx) (es : List Expr) (W : WA) : Prop := PA X es (liftA X.K W)
theorem pe_imp {X : Cx} {e : Expr} {t t' : TE} (h : PE X e t) (i : ∀ σ H Q, t' σ H Q → t σ H Q) : PE X e t' := ⟨fun pins s σ H Q I w => h.run pins s σ H Q I (i σ H Q w)⟩
theorem pt_imp {X : Cx} {e : Expr} {t t' : TT} (h : PT X e t) (i : ∀ σ H Q, t' σ H Q → t σ H Q) : PT X e t' := ⟨fun pins s σ H Q I w => h.run pins s σ H Q I (i σ H Q w)⟩
theorem pw_imp {X : Cx} {e : Expr} {t t' : TT} (h : PW X e t) (i : ∀ σ H Q, t' σ H Q → t σ H Q) : PW X e t' := ⟨fun wh pins s σ H Q I w => h.run wh pins s σ H Q I (i σ H Q w)⟩
theorem pa_imp {X : Cx} {e : List Expr} {t t' : TA} (h : PA X e t) (i : ∀ σ H Q, t' σ H Q → t σ H Q) : PA X e t' := ⟨fun pos pins s σ H Q I w => h.run pos pins s σ H Q I (i σ H Q w)⟩
theorem ps_imp {X : Cx} {e : Stmt} {t t' : TS} (h : PS X e t) (i : ∀ D σ H, t' D σ H → t D σ H) : PS X e t' := ⟨fun pins s σ H D I w => h.run pins s σ H D I (i D σ H w)⟩
theorem pss_imp {X : Cx} {e : List Stmt} {t t' : TS} (h : PSs X e t) (i : ∀ D σ H, t' D σ H → t D σ H) : PSs X e t' := ⟨fun pins s σ H D I w => h.run pins s σ H D I (i D σ H w)⟩
theorem Fin.after {K : Frag} {H H1 : Hp} {S S1 : Sto} {Q' : PK D} {Q : VK} (f : Fin K H S Q' Q) (e : Ext H S H1 S1) : Fin K H1 S1 Q' Q := fun d v H2 S2 e2 s r q => f d v H2 S2 (e.trans e2) s r q
theorem FinT.after {K : Frag} {H H1 : Hp} {S S1 : Sto} {Q' : PK Bool} {Q : Bool → Hp → Prop} (f : FinT K H S Q' Q) (e : Ext H S H1 S1) : FinT K H1 S1 Q' Q := fun d H2 S2 e2 s q => f d H2 S2 (e.trans e2) s q
theorem FinA.after {K : Frag} {H H1 : Hp} {S S1 : Sto} {Q' : PK (List D)} {Q : List V → Hp → Prop} (f : FinA K H S Q' Q) (e : Ext H S H1 S1) : FinA K H1 S1 Q' Q := fun d v H2 S2 e2 s r q => f d v H2 S2 (e.trans e2) s r q
end Z

/-! ### Z1b -/
/-! Z1b: a tuple taken no time or once. -/
namespace Z
open PySem PySem.Spec PyProof.Rows L2
theorem tuple_mul0 (l : Addr) (items : Array Value) (n : Nat) (dd : Option Addr) (sl : Array (Option Value)) (u : Tok) (c1 : items.isEmpty = false) :
    Meets (Builtin.«tuple.__mul__» ⟨[.ref l, .int 0 u], []⟩) (fun _ R s => s.heap.get? l = some { cls := .type "tuple", dict := dd, data := .seq items n, slots := sl } ∧
      R (.ok (.ret (Value.ref s.heap.objs.size))) { s with heap := s.heap.push { cls := Value.type "tuple", data := Data.seq #[] }, toks := s.toks }) :=
  .of_wp fun prog w A R s h => by
    obtain ⟨hp, g, d, tk, os⟩ := s
    obtain ⟨hl, h⟩ := h
    have f1 := AutoSeq1.idx_int
    wp_walk using wpAny_loadPart' hl
    repeat (first
      | (refine wpAny_ite_false (decide_eq_false (by decide)) ?_; wp_walk using wpAny_loadPart' hl)
      | (refine wpAny_ite_false (decide_eq_false (by rw [c1]; decide)) ?_; wp_walk using wpAny_loadPart' hl)
      | (refine wpAny_ite_true (decide_eq_true (by decide)) ?_; wp_walk using wpAny_loadPart' hl))
    exact ⟨_, rfl, h⟩
theorem tuple_mul1 (l : Addr) (items : Array Value) (n : Nat) (dd : Option Addr) (sl : Array (Option Value)) (u : Tok) (c1 : items.isEmpty = false) :
    Meets (Builtin.«tuple.__mul__» ⟨[.ref l, .int 1 u], []⟩) (fun _ R s => s.heap.get? l = some { cls := .type "tuple", dict := dd, data := .seq items n, slots := sl } ∧
      R (.ok (.ret (Value.ref l))) s) :=
  .of_wp fun prog w A R s h => by
    obtain ⟨hp, g, d, tk, os⟩ := s
    obtain ⟨hl, h⟩ := h
    have f1 := AutoSeq1.idx_int
    wp_walk using wpAny_loadPart' hl
    repeat (first
      | (refine wpAny_ite_false (decide_eq_false (by decide)) ?_; wp_walk using wpAny_loadPart' hl)
      | (refine wpAny_ite_true (decide_eq_true (by rw [c1]; decide)) ?_; wp_walk using wpAny_loadPart' hl))
    exact ⟨_, rfl, h⟩
section
variable {X : Cx}
theorem op_rep01 : OpR X (binaryOp .Mult) (fun x y H Q => ∃ l k xs, x = .ref l ∧ y = .int k ∧ SqT X.K H l xs ∧ xs ≠ [] ∧ ((k = 0 ∧ ∀ p, H p = none → Q (.ref p) (upd H p (.tup []))) ∨ (k = 1 ∧ Q (.ref l) H))) := by
  intro pins s σ H x y v u Q I rx ry h
  obtain ⟨l, k, xs, rfl, rfl, hT, hne, q⟩ := h
  cases rx
  obtain ⟨t, rfl⟩ := ry
  obtain ⟨its, r, ⟨⟨cls, dd, data, sl⟩, ho, hc, n, hd⟩, hs⟩ := I.tuple hT
  simp only at hc hd
  subst hc hd
  have hn : its ≠ [] := fun e => hne (by
    subst e
    exact List.eq_nil_of_length_eq_zero r.length)
  have hi : its.toArray.isEmpty = false := by
    cases its with
    | nil => exact absurd rfl hn
    | cons a b => rfl
  refine wpAny_binaryOp_repeat_ref (T := "tuple") (U := "int") (by decide) ⟨_, ho, rfl⟩ (fun s' => typeIs_int s' k t) noFill_tuple_mul F.fills_int_mul F.slot_int_rmul repeat_tuple F.slot_int_index.lookup
    (call_meets F.slot_int_rmul (typeIs_int s k t) F.entry_int_rmul (F.args_int_rmul_2 _ _) (int_rmul_tuple k t l its.toArray n dd sl)
      ⟨ho, rfl, ⟨_, ho, rfl⟩, ?_⟩)
  rcases q with ⟨rfl, q⟩ | ⟨rfl, q⟩
  · refine call_meets F.slot_tuple_mul ⟨_, ho, rfl⟩ F.entry_tuple_mul (F.args_tuple_mul_2 _ _) (tuple_mul0 l its.toArray n dd sl t hi) ⟨ho, ?_⟩
    exact ⟨.ref s.heap.objs.size, _, I.laid (t' := s.toks) (o := .tup []) (fun b ob q => Heap.get?_push_of_some _ q) (Nat.le_refl _) ⟨Nat.zero_le _, [], .nil, IsTup.new _ _⟩, rfl, q _ (I.hok.fresh (Nat.le_refl _))⟩
  · refine call_meets F.slot_tuple_mul ⟨_, ho, rfl⟩ F.entry_tuple_mul (F.args_tuple_mul_2 _ _) (tuple_mul1 l its.toArray n dd sl t hi) ⟨ho, ?_⟩
    exact ⟨.ref l, H, I, rfl, q⟩
end
end Z

/-! ### Z2 -/
/-! Z2: operations by values over deep data. -/
namespace Z
open PySem PySem.Spec PyProof.Rows L2
section
variable {K : Frag} {H : Hp} {S : Sto} {Q' : PK D} {Q : VK}
theorem Fin.val (f : Fin K H S Q' Q) (s : StR K H S) {d : D} {v : V} (r : Rep K H d v) (q : Q' d S) : Q v H := f d v H S .refl s r q
theorem Fin.int (f : Fin K H S Q' Q) (s : StR K H S) {i : Int} (q : Q' (.int i) S) : Q (.int i) H := f.val s (rep_int.mpr rfl) q
theorem Fin.bl (f : Fin K H S Q' Q) (s : StR K H S) {i : Bool} (q : Q' (.bl i) S) : Q (.bl i) H := f.val s (rep_bl.mpr rfl) q
theorem Fin.str (f : Fin K H S Q' Q) (s : StR K H S) {i : Str} (q : Q' (.str i) S) : Q (.str i) H := f.val s (rep_str.mpr rfl) q
theorem Fin.non (f : Fin K H S Q' Q) (s : StR K H S) (q : Q' .non S) : Q .non H := f.val s (rep_non.mpr rfl) q
/-- a new tuple -/
theorem Fin.tup (f : Fin K H S Q' Q) (s : StR K H S) {ds : List D} {xs : List V} (r : Reps K H ds xs) (q : Q' (.tup ds) S) {p : Addr} (h : H p = none) : Q (.ref p) (upd H p (.tup xs)) :=
  f (.tup ds) _ _ S (ext_new h) (s.new h) (rep_tup.mpr ⟨p, xs, rfl, .inl (.inl upd_same), Reps.mono (tupLe_new h) _ _ r⟩) q
/-- a new object of the store -/
theorem Fin.new (f : Fin K H S Q' Q) (s : StR K H S) {o : HO} {u : O} {p : Addr} (h : H p = none) (r : RepO K (upd H p o) p u) (q : Q' (.ref p) (up S p u)) : Q (.ref p) (upd H p o) :=
  f (.ref p) _ _ _ (ext_newUp h) (s.newUp h r) (rep_ref.mpr rfl) q
theorem Fin.lst (f : Fin K H S Q' Q) (s : StR K H S) {ds : List D} {xs : List V} (r : Reps K H ds xs) (q : ∀ p, S p = none → Q' (.ref p) (up S p (.lst ds))) {p : Addr} (h : H p = none) : Q (.ref p) (upd H p (.lst xs)) :=
  f.new (u := .lst ds) s h ⟨xs, upd_same, Reps.mono (tupLe_new h) _ _ r⟩ (q p (s.fresh h))
/-- an object of the store changed -/
theorem Fin.set (f : Fin K H S Q' Q) (s : StR K H S) {o : HO} {u o' : O} {p : Addr} {d : D} {v : V} (h : S p = some o') (r : RepO K (upd H p o) p u) (rd : Rep K (upd H p o) d v) (q : Q' d (up S p u)) : Q v (upd H p o) :=
  f d _ _ _ (ext_setUp h) (s.setUp h r) rd q
end
/-! ### lifted relations by values -/
abbrev W2 := D → D → Sto → PK D → Prop
abbrev W1 := D → Sto → PK D → Prop
abbrev WC := List D → Sto → PK D → Prop
abbrev WM := D → List D → Sto → PK D → Prop
def lift2 (K : Frag) (W : W2) : R2 := fun x y H Q => ∃ d e S Q', Rep K H d x ∧ Rep K H e y ∧ StR K H S ∧ W d e S Q' ∧ Fin K H S Q' Q
def lift1 (K : Frag) (W : W1) : V → Hp → VK → Prop := fun x H Q => ∃ d S Q', Rep K H d x ∧ StR K H S ∧ W d S Q' ∧ Fin K H S Q' Q
def liftC (K : Frag) (W : WC) : List V → Hp → VK → Prop := fun xs H Q => ∃ ds S Q', Reps K H ds xs ∧ StR K H S ∧ W ds S Q' ∧ Fin K H S Q' Q
def liftM (K : Frag) (W : WM) : V → List V → Hp → VK → Prop := fun x xs H Q => ∃ d ds S Q', Rep K H d x ∧ Reps K H ds xs ∧ StR K H S ∧ W d ds S Q' ∧ Fin K H S Q' Q
section
variable {X : Cx}
/-! ### numbers, texts -/
def addW : W2
  | .int i, .int j, S, Q => Q (.int (i + j)) S
  | .str x, .str y, S, Q => x.length + y.length ≤ sizeLine ∧ Q (.str (x ++ y)) S
  | .tup xs, .tup ys, S, Q => xs.length + ys.length ≤ sizeLine ∧ Q (.tup (xs ++ ys)) S
  | .ref a, .ref b, S, Q => match S a, S b with
    | some (.lst xs), some (.lst ys) => xs.length + ys.length ≤ sizeLine ∧ ∀ p, S p = none → Q (.ref p) (up S p (.lst (xs ++ ys)))
    | _, _ => False
  | _, _, _, _ => False
theorem opz_add : OpR X (binaryOp .Add) (lift2 X.K addW) := by
  intro pins s σ H x y v u Q I rx ry ⟨d, e, S, Q', rd, re, hs, w, f⟩
  unfold addW at w
  split at w
  · obtain rfl := rep_int.mp rd
    obtain rfl := rep_int.mp re
    exact op_add pins s σ H _ _ v u Q I rx ry ⟨_, _, rfl, rfl, f.int hs w⟩
  · obtain rfl := rep_str.mp rd
    obtain rfl := rep_str.mp re
    exact op_add_str pins s σ H _ _ v u Q I rx ry ⟨_, _, rfl, rfl, w.1, f.str hs w.2⟩
  · rename_i xs ys
    obtain ⟨a, vs, rfl, ta, ra⟩ := rep_tup.mp rd
    obtain ⟨b, ws, rfl, tb, rb⟩ := rep_tup.mp re
    refine op_catA pins s σ H _ _ v u Q I rx ry ⟨a, b, vs, ws, rfl, rfl, ta, tb, by rw [ra.length, rb.length]; exact w.1, fun e => ?_, fun _ e => ?_, fun _ _ p hp => f.tup hs (ra.append rb) w.2 hp⟩
    · subst e
      have : xs = [] := List.eq_nil_of_length_eq_zero ra.length.symm
      subst this
      exact f.val hs (rep_tup.mpr ⟨b, ws, rfl, tb, rb⟩) w.2
    · subst e
      have : ys = [] := List.eq_nil_of_length_eq_zero rb.length.symm
      subst this
      rw [List.append_nil] at w
      exact f.val hs (rep_tup.mpr ⟨a, vs, rfl, ta, ra⟩) w.2
  · obtain rfl := rep_ref.mp rd
    obtain rfl := rep_ref.mp re
    split at w
    · rename_i xs ys ha hb
      obtain ⟨vs, h1, r1⟩ := hs _ _ ha
      obtain ⟨ws, h2, r2⟩ := hs _ _ hb
      exact op_cat pins s σ H _ _ v u Q I rx ry ⟨_, _, vs, ws, rfl, rfl, h1, h2, by rw [r1.length, r2.length]; exact w.1, fun p hp => f.lst hs (r1.append r2) w.2 hp⟩
    · exact w.elim
  · exact w.elim
def subW : W2
  | .int i, .int j, S, Q => Q (.int (i - j)) S
  | _, _, _, _ => False
theorem opz_sub : OpR X (binaryOp .Sub) (lift2 X.K subW) := by
  intro pins s σ H x y v u Q I rx ry ⟨d, e, S, Q', rd, re, hs, w, f⟩
  unfold subW at w
  split at w
  · obtain rfl := rep_int.mp rd
    obtain rfl := rep_int.mp re
    exact op_sub pins s σ H _ _ v u Q I rx ry ⟨_, _, rfl, rfl, f.int hs w⟩
  · exact w.elim
def mulW : W2
  | .int i, .int j, S, Q => CMulW i j ∧ Q (.int (i * j)) S
  | .tup ds, .int j, S, Q => (ds ≠ [] ∧ (j = 0 ∨ j = 1)) ∧ Q (.tup (if j = 1 then ds else [])) S
  | _, _, _, _ => False
theorem opz_mulI : OpR X (binaryOp .Mult) (lift2 X.K fun d e S Q => ∃ i j, d = .int i ∧ e = .int j ∧ CMulW i j ∧ Q (.int (i * j)) S) := by
  intro pins s σ H x y v u Q I rx ry ⟨d, e, S, Q', rd, re, hs, ⟨i, j, e1, e2, c, w⟩, f⟩
  subst e1 e2
  obtain rfl := rep_int.mp rd
  obtain rfl := rep_int.mp re
  exact op_mulW pins s σ H _ _ v u Q I rx ry ⟨_, _, rfl, rfl, c, f.int hs w⟩
def fdivW : W2
  | .int i, .int j, S, Q => CDivW i j ∧ Q (.int (i / j)) S
  | _, _, _, _ => False
theorem opz_fdiv : OpR X (binaryOp .FloorDiv) (lift2 X.K fdivW) := by
  intro pins s σ H x y v u Q I rx ry ⟨d, e, S, Q', rd, re, hs, w, f⟩
  unfold fdivW at w
  split at w
  · obtain rfl := rep_int.mp rd
    obtain rfl := rep_int.mp re
    exact op_fdivW pins s σ H _ _ v u Q I rx ry ⟨_, _, rfl, rfl, w.1, f.int hs w.2⟩
  · exact w.elim
def modW : W2
  | .int i, .int j, S, Q => 0 < j ∧ Q (.int (i % j)) S
  | _, _, _, _ => False
theorem opz_mod : OpR X (binaryOp .Mod) (lift2 X.K modW) := by
  intro pins s σ H x y v u Q I rx ry ⟨d, e, S, Q', rd, re, hs, w, f⟩
  unfold modW at w
  split at w
  · obtain rfl := rep_int.mp rd
    obtain rfl := rep_int.mp re
    exact op_mod pins s σ H _ _ v u Q I rx ry ⟨_, _, rfl, rfl, w.1, f.int hs w.2⟩
  · exact w.elim
def powW : W2
  | .int i, .int j, S, Q => CPow i j ∧ Q (.int (i ^ j.toNat)) S
  | _, _, _, _ => False
theorem opz_pow : OpR X (binaryOp .Pow) (lift2 X.K powW) := by
  intro pins s σ H x y v u Q I rx ry ⟨d, e, S, Q', rd, re, hs, w, f⟩
  unfold powW at w
  split at w
  · obtain rfl := rep_int.mp rd
    obtain rfl := rep_int.mp re
    exact op_pow pins s σ H _ _ v u Q I rx ry ⟨_, _, rfl, rfl, w.1, f.int hs w.2⟩
  · exact w.elim
theorem opz_mul : OpR X (binaryOp .Mult) (lift2 X.K mulW) := by
  intro pins s σ H x y v u Q I rx ry ⟨d, e, S, Q', rd, re, hs, w, f⟩
  unfold mulW at w
  split at w
  · exact opz_mulI pins s σ H x y v u Q I rx ry ⟨_, _, S, Q', rd, re, hs, ⟨_, _, rfl, rfl, w.1, w.2⟩, f⟩
  · obtain ⟨⟨hne, h01⟩, w⟩ := w
    obtain ⟨a, xs, rfl, t, hr⟩ := rep_tup.mp rd
    obtain rfl := rep_int.mp re
    refine op_rep01 pins s σ H _ _ v u Q I rx ry ⟨a, _, xs, rfl, rfl, t, fun e => hne (List.eq_nil_of_length_eq_zero (by rw [← hr.length, e] <;> rfl)), ?_⟩
    rcases h01 with rfl | rfl
    · exact .inl ⟨rfl, fun p hp => f.tup hs (reps_nil.mpr rfl) w hp⟩
    · exact .inr ⟨rfl, f.val hs rd w⟩
  · exact w.elim
def negW : W1
  | .int i, S, Q => Q (.int (-i)) S
  | _, _, _ => False
theorem unz_neg : UnR X (unaryOp .USub) (lift1 X.K negW) := by
  intro pins s σ H x v Q I rx ⟨d, S, Q', rd, hs, w, f⟩
  unfold negW at w
  split at w
  · obtain rfl := rep_int.mp rd
    exact un_neg pins s σ H _ v Q I rx ⟨_, rfl, f.int hs w⟩
  · exact w.elim
end
end Z

/-! ### Z3 -/
/-! Z3: comparisons, truth, subscripts, built-in calls and methods over deep data. -/
namespace Z
open PySem PySem.Spec PyProof.Rows L2
/-! ### data as the library's comparisons take it -/
mutual
def pyD : D → Option PyData
  | .non => some .none
  | .bl b => some (.bool b)
  | .int i => some (.int i)
  | .str x => some (.str x)
  | .tup ds => (pyDs ds).map .tuple
  | .ref _ => none
  | .ty _ => none
  | .scr _ => none
def pyDs : List D → Option (List PyData)
  | [] => some []
  | d :: ds => match pyD d, pyDs ds with
    | some p, some ps => some (p :: ps)
    | _, _ => none
end
/-- a list's items too -/
def pyS (S : Sto) : D → Option PyData
  | .ref a => match S a with
    | some (.lst ds) => (pyDs ds).map .list
    | _ => none
  | d => pyD d
mutual
theorem dp_of {K : Frag} {H : Hp} : ∀ (d : D) (v : V) (p : PyData), Rep K H d v → pyD d = some p → Dp K H v p
  | .non, v, p, r, e => by rw [rep_non.mp r]; unfold pyD at e; cases e; exact .non
  | .bl b, v, p, r, e => by rw [rep_bl.mp r]; unfold pyD at e; cases e; exact .bl _
  | .int b, v, p, r, e => by rw [rep_int.mp r]; unfold pyD at e; cases e; exact .int _
  | .str b, v, p, r, e => by rw [rep_str.mp r]; unfold pyD at e; cases e; exact .str _
  | .tup ds, v, p, r, e => by
    obtain ⟨a, xs, rfl, t, rs⟩ := rep_tup.mp r
    unfold pyD at e
    cases q : pyDs ds with
    | none => rw [q] at e; cases e
    | some ps =>
      rw [q] at e; cases e
      exact .tup t (dps_of ds xs ps rs q)
  | .ref a, v, p, r, e => by unfold pyD at e; cases e
  | .ty a, v, p, r, e => by unfold pyD at e; cases e
  | .scr a, v, p, r, e => by unfold pyD at e; cases e
theorem dps_of {K : Frag} {H : Hp} : ∀ (ds : List D) (xs : List V) (ps : List PyData), Reps K H ds xs → pyDs ds = some ps → DpAll K H xs ps
  | [], xs, ps, r, e => by rw [reps_nil.mp r]; unfold pyDs at e; cases e; exact .nil
  | d :: ds, xs, ps, r, e => by
    obtain ⟨v, vs, rfl, q, rs⟩ := reps_cons.mp r
    unfold pyDs at e
    cases h1 : pyD d with
    | none => rw [h1] at e; cases e
    | some p =>
      cases h2 : pyDs ds with
      | none => rw [h1, h2] at e; cases e
      | some ps' =>
        rw [h1, h2] at e; cases e
        exact .cons (dp_of d v p q h1) (dps_of ds vs ps' rs h2)
end
theorem dpS_of {K : Frag} {H : Hp} {S : Sto} (hs : StR K H S) {d : D} {v : V} {p : PyData} (r : Rep K H d v) (e : pyS S d = some p) : Dp K H v p := by
  cases d with
  | ref a =>
    rw [rep_ref.mp r]
    simp only [pyS] at e
    cases q : S a with
    | none => rw [q] at e; cases e
    | some o =>
      rw [q] at e
      cases o with
      | lst ds =>
        obtain ⟨xs, h, rs⟩ := hs _ _ q
        cases z : pyDs ds with
        | none => simp only [z] at e; cases e
        | some ps => simp only [z] at e; cases e; exact .lst (.inl (.inl h)) (dps_of _ _ _ rs z)
      | dic _ => cases e
      | ins _ _ => cases e
      | fdc _ _ _ => cases e
  | non => exact dp_of _ _ _ r e
  | bl _ => exact dp_of _ _ _ r e
  | int _ => exact dp_of _ _ _ r e
  | str _ => exact dp_of _ _ _ r e
  | tup _ => exact dp_of _ _ _ r e
  | ty _ => exact dp_of _ _ _ r e
  | scr _ => exact dp_of _ _ _ r e
mutual
theorem plainD : ∀ {d : D} {p : PyData}, pyD d = some p → p.plain = true
  | .non, p, e => by unfold pyD at e; cases e; rfl
  | .bl b, p, e => by unfold pyD at e; cases e; rfl
  | .int b, p, e => by unfold pyD at e; cases e; rfl
  | .str b, p, e => by unfold pyD at e; cases e; rfl
  | .tup ds, p, e => by
    unfold pyD at e
    cases q : pyDs ds with
    | none => rw [q] at e; cases e
    | some ps => rw [q] at e; cases e; exact plainDs q
  | .ref a, p, e => by unfold pyD at e; cases e
  | .ty a, p, e => by unfold pyD at e; cases e
  | .scr a, p, e => by unfold pyD at e; cases e
theorem plainDs : ∀ {ds : List D} {ps : List PyData}, pyDs ds = some ps → PyData.plainAll ps = true
  | [], ps, e => by unfold pyDs at e; cases e; rfl
  | d :: ds, ps, e => by
    unfold pyDs at e
    cases h1 : pyD d with
    | none => rw [h1] at e; cases e
    | some p =>
      cases h2 : pyDs ds with
      | none => rw [h1, h2] at e; cases e
      | some qs =>
        rw [h1, h2] at e; cases e
        exact (Bool.and_eq_true _ _).mpr ⟨plainD h1, plainDs h2⟩
end
theorem plainS {S : Sto} {d : D} {p : PyData} (e : pyS S d = some p) : p.plain = true := by
  cases d with
  | ref a =>
    simp only [pyS] at e
    split at e
    · rename_i ds _
      cases z : pyDs ds with
      | none => rw [z] at e; cases e
      | some ps => rw [z] at e; cases e; exact plainDs z
    · cases e
  | non => exact plainD e
  | bl _ => exact plainD e
  | int _ => exact plainD e
  | str _ => exact plainD e
  | tup _ => exact plainD e
  | ty _ => exact plainD e
  | scr _ => exact plainD e
theorem dD_int {i j : Int} : decide (V.int i = V.int j) = decide (i = j) := by rw [dec_int, Bool.beq_eq_decide_eq]
theorem dD_str {i j : Str} : decide (V.str i = V.str j) = decide (i = j) := by rw [dec_str, Bool.beq_eq_decide_eq]
theorem dD_bl {i j : Bool} : decide (V.bl i = V.bl j) = decide (i = j) := by rw [dec_bl, Bool.beq_eq_decide_eq]
def strLe (a b : Str) : Bool := !decide (b.cps.toList < a.cps.toList)
section
variable {X : Cx}
/-! ### comparisons -/
/-- d == e -/
def eqC (d e : D) (S : Sto) (Q : Bool → Prop) : Prop := match d, e with
  | .int i, .int j => Q (decide (i = j))
  | .str x, .str y => Q (decide (x = y))
  | .bl x, .bl y => Q (decide (x = y))
  | d, e => ∃ p q, pyS S d = some p ∧ pyS S e = some q ∧ min p.depth q.depth ≤ 64 ∧ Q (PyData.eqv p q)
def eqW : W2 := fun d e S Q => eqC d e S fun b => Q (.bl b) S
def neW : W2 := fun d e S Q => eqC d e S fun b => Q (.bl (!b)) S
theorem opz_eq (hu : X.A.units + 64 < cLine) : OpR X (compareOp .Eq) (lift2 X.K eqW) := by
  intro pins s σ H x y v u Q I rx ry ⟨d, e, S, Q', rd, re, hs, w, f⟩
  unfold eqW eqC at w
  split at w
  · obtain rfl := rep_int.mp rd
    obtain rfl := rep_int.mp re
    refine op_eq pins s σ H _ _ v u Q I rx ry ⟨rfl, ?_⟩
    rw [dD_int]
    exact f.bl hs w
  · obtain rfl := rep_str.mp rd
    obtain rfl := rep_str.mp re
    refine op_eq pins s σ H _ _ v u Q I rx ry ⟨rfl, ?_⟩
    rw [dD_str]
    exact f.bl hs w
  · obtain rfl := rep_bl.mp rd
    obtain rfl := rep_bl.mp re
    refine op_eq pins s σ H _ _ v u Q I rx ry ⟨rfl, ?_⟩
    rw [dD_bl]
    exact f.bl hs w
  · obtain ⟨p, q, h1, h2, hm, w⟩ := w
    obtain ⟨m1, q1⟩ := Dp.reads I p x v (dpS_of hs rd h1) rx
    obtain ⟨m2, q2⟩ := Dp.reads I q y u (dpS_of hs re h2) ry
    exact SeqAt.eq_plain q1 q2 (plainS h1) (plainS h2) (by omega) ⟨.bl _, H, I, rfl, f.bl hs w⟩
theorem opz_ne (hu : X.A.units + 64 < cLine) : OpR X (compareOp .NotEq) (lift2 X.K neW) := by
  intro pins s σ H x y v u Q I rx ry ⟨d, e, S, Q', rd, re, hs, w, f⟩
  unfold neW eqC at w
  split at w
  · obtain rfl := rep_int.mp rd
    obtain rfl := rep_int.mp re
    refine op_ne pins s σ H _ _ v u Q I rx ry ⟨rfl, ?_⟩
    rw [dD_int]
    exact f.bl hs w
  · obtain rfl := rep_str.mp rd
    obtain rfl := rep_str.mp re
    refine op_ne pins s σ H _ _ v u Q I rx ry ⟨rfl, ?_⟩
    rw [dD_str]
    exact f.bl hs w
  · obtain rfl := rep_bl.mp rd
    obtain rfl := rep_bl.mp re
    refine op_ne pins s σ H _ _ v u Q I rx ry ⟨rfl, ?_⟩
    rw [dD_bl]
    exact f.bl hs w
  · obtain ⟨p, q, h1, h2, hm, w⟩ := w
    obtain ⟨m1, q1⟩ := Dp.reads I p x v (dpS_of hs rd h1) rx
    obtain ⟨m2, q2⟩ := Dp.reads I q y u (dpS_of hs re h2) ry
    exact SeqAt.ne_plain q1 q2 (plainS h1) (plainS h2) (by omega) ⟨.bl _, H, I, rfl, f.bl hs w⟩
def ltC (d e : D) (Q : Bool → Prop) : Prop := match d, e with
  | .int i, .int j => Q (decide (i < j))
  | .str x, .str y => Q (!strLe y x)
  | _, _ => False
def leC (d e : D) (Q : Bool → Prop) : Prop := match d, e with
  | .int i, .int j => Q (decide (i ≤ j))
  | .str x, .str y => Q (strLe x y)
  | _, _ => False
def ltW : W2 := fun d e S Q => ltC d e fun b => Q (.bl b) S
def leW : W2 := fun d e S Q => leC d e fun b => Q (.bl b) S
def gtW : W2 := fun d e S Q => ltC e d fun b => Q (.bl b) S
def geW : W2 := fun d e S Q => leC e d fun b => Q (.bl b) S
theorem opz_lt : OpR X (compareOp .Lt) (lift2 X.K ltW) := by
  intro pins s σ H x y v u Q I rx ry ⟨d, e, S, Q', rd, re, hs, w, f⟩
  unfold ltW ltC at w
  split at w
  · obtain rfl := rep_int.mp rd
    obtain rfl := rep_int.mp re
    exact op_lt pins s σ H _ _ v u Q I rx ry ⟨_, _, rfl, rfl, f.bl hs w⟩
  · obtain rfl := rep_str.mp rd
    obtain rfl := rep_str.mp re
    refine op_lt_str pins s σ H _ _ v u Q I rx ry ⟨_, _, rfl, rfl, ?_⟩
    unfold strLe at w
    rw [Bool.not_not] at w
    exact f.bl hs w
  · exact w.elim
theorem opz_gt : OpR X (compareOp .Gt) (lift2 X.K gtW) := by
  intro pins s σ H x y v u Q I rx ry ⟨d, e, S, Q', rd, re, hs, w, f⟩
  unfold gtW ltC at w
  split at w
  · obtain rfl := rep_int.mp rd
    obtain rfl := rep_int.mp re
    exact op_gt pins s σ H _ _ v u Q I rx ry ⟨_, _, rfl, rfl, f.bl hs w⟩
  · obtain rfl := rep_str.mp rd
    obtain rfl := rep_str.mp re
    refine op_gt_str pins s σ H _ _ v u Q I rx ry ⟨_, _, rfl, rfl, ?_⟩
    unfold strLe at w
    rw [Bool.not_not] at w
    exact f.bl hs w
  · exact w.elim
theorem opz_le : OpR X (compareOp .LtE) (lift2 X.K leW) := by
  intro pins s σ H x y v u Q I rx ry ⟨d, e, S, Q', rd, re, hs, w, f⟩
  unfold leW leC at w
  split at w
  · obtain rfl := rep_int.mp rd
    obtain rfl := rep_int.mp re
    exact op_le pins s σ H _ _ v u Q I rx ry ⟨_, _, rfl, rfl, f.bl hs w⟩
  · obtain rfl := rep_str.mp rd
    obtain rfl := rep_str.mp re
    exact op_le_str pins s σ H _ _ v u Q I rx ry ⟨_, _, rfl, rfl, f.bl hs w⟩
  · exact w.elim
theorem opz_ge : OpR X (compareOp .GtE) (lift2 X.K geW) := by
  intro pins s σ H x y v u Q I rx ry ⟨d, e, S, Q', rd, re, hs, w, f⟩
  unfold geW leC at w
  split at w
  · obtain rfl := rep_int.mp rd
    obtain rfl := rep_int.mp re
    exact op_ge pins s σ H _ _ v u Q I rx ry ⟨_, _, rfl, rfl, f.bl hs w⟩
  · obtain rfl := rep_str.mp rd
    obtain rfl := rep_str.mp re
    exact op_ge_str pins s σ H _ _ v u Q I rx ry ⟨_, _, rfl, rfl, f.bl hs w⟩
  · exact w.elim
/-- d is None -/
def isC (d e : D) (Q : Bool → Prop) : Prop := match d, e with
  | .non, .non => Q true
  | _, .non => Q false
  | _, _ => False
def isW : W2 := fun d e S Q => isC d e fun b => Q (.bl b) S
def isnW : W2 := fun d e S Q => isC d e fun b => Q (.bl (!b)) S
theorem is_non {K : Frag} {H : Hp} {d : D} {v : V} (r : Rep K H d v) (h : d ≠ .non) : decide (v = .non) = false := by
  cases d with
  | non => exact absurd rfl h
  | bl b => rw [rep_bl.mp r] <;> rfl
  | int b => rw [rep_int.mp r] <;> rfl
  | str b => rw [rep_str.mp r] <;> rfl
  | ref b => rw [rep_ref.mp r] <;> rfl
  | ty b => rw [rep_ty.mp r] <;> rfl
  | scr b => obtain ⟨a, rfl, _⟩ := rep_scr.mp r; rfl
  | tup b => obtain ⟨a, xs, rfl, _⟩ := rep_tup.mp r; rfl
theorem opz_is : OpR X (compareOp .Is) (lift2 X.K isW) := by
  intro pins s σ H x y v u Q I rx ry ⟨d, e, S, Q', rd, re, hs, w, f⟩
  unfold isW isC at w
  split at w
  · obtain rfl := rep_non.mp rd
    obtain rfl := rep_non.mp re
    exact op_isN pins s σ H _ _ v u Q I rx ry ⟨rfl, f.bl hs w⟩
  · rename_i h
    obtain rfl := rep_non.mp re
    refine op_isN pins s σ H _ _ v u Q I rx ry ⟨rfl, ?_⟩
    rw [is_non rd fun z => h z]
    exact f.bl hs w
  · exact w.elim
theorem opz_isn : OpR X (compareOp .IsNot) (lift2 X.K isnW) := by
  intro pins s σ H x y v u Q I rx ry ⟨d, e, S, Q', rd, re, hs, w, f⟩
  unfold isnW isC at w
  split at w
  · obtain rfl := rep_non.mp rd
    obtain rfl := rep_non.mp re
    exact op_notN pins s σ H _ _ v u Q I rx ry ⟨rfl, f.bl hs w⟩
  · rename_i h
    obtain rfl := rep_non.mp re
    refine op_notN pins s σ H _ _ v u Q I rx ry ⟨rfl, ?_⟩
    rw [is_non rd fun z => h z]
    exact f.bl hs w
  · exact w.elim
end
end Z

/-! ### Z4 -/
/-! Z4: in, truth, subscripts, slices, stores. -/
namespace Z
open PySem PySem.Spec PyProof.Rows L2
/-! ### dicts over deep data -/
section
variable {κ : Type} [DecidableEq κ]
def getD (kvs : List (κ × D)) (k : κ) : Option D := (kvs.find? fun kv => decide (kv.1 = k)).map (·.2)
def putD (kvs : List (κ × D)) (k : κ) (v : D) : List (κ × D) :=
  if (kvs.any fun kv => decide (kv.1 = k)) = true then kvs.map (fun kv => if kv.1 = k then (kv.1, v) else kv) else kvs ++ [(k, v)]
theorem getD_nil {k : κ} : getD ([] : List (κ × D)) k = none := rfl
theorem getD_pos {p : κ × D} {r : List (κ × D)} {k : κ} (e : p.1 = k) : getD (p :: r) k = some p.2 := by simp [getD, List.find?_cons, e]
theorem getD_neg {p : κ × D} {r : List (κ × D)} {k : κ} (e : ¬ p.1 = k) : getD (p :: r) k = getD r k := by simp [getD, List.find?_cons, e]
def RelOD (K : Frag) (H : Hp) : Option D → Option V → Prop
  | some d, some v => Rep K H d v
  | none, none => True
  | _, _ => False
theorem RepKV.val {K : Frag} {H : Hp} {kvs : List (κ × D)} {vs : List (κ × V)} (r : RepKV K H kvs vs) (k : κ) : RelOD K H (getD kvs k) (valV vs k) := by
  unfold RepKV at r
  induction r with
  | nil => exact True.intro
  | @cons p q ps qs h t ih =>
    obtain ⟨h1, h2⟩ := h
    by_cases e : p.1 = k
    · rw [getD_pos e, valV_pos (h1.symm.trans e)]; exact h2
    · rw [getD_neg e, valV_neg (fun z => e (h1.trans z))]; exact ih
theorem RepKV.any {K : Frag} {H : Hp} {kvs : List (κ × D)} {vs : List (κ × V)} (r : RepKV K H kvs vs) (k : κ) : (kvs.any fun kv => decide (kv.1 = k)) = vs.any fun kv => decide (kv.1 = k) := by
  unfold RepKV at r
  induction r with
  | nil => rfl
  | cons h t ih => rw [List.any_cons, List.any_cons, ih, h.1]
theorem RepKV.put {K : Frag} {H : Hp} {kvs : List (κ × D)} {vs : List (κ × V)} (r : RepKV K H kvs vs) (k : κ) {y : D} {u : V} (ry : Rep K H y u) : RepKV K H (putD kvs k y) (putK vs k u) := by
  unfold putD putK
  rw [r.any k]
  by_cases e : (vs.any fun kv => decide (kv.1 = k)) = true
  · rw [if_pos e, if_pos e]
    unfold RepKV at r ⊢
    clear e
    induction r with
    | nil => exact .nil
    | @cons p q ps qs h t ih =>
      rw [List.map_cons, List.map_cons]
      refine .cons ?_ ih
      obtain ⟨h1, h2⟩ := h
      by_cases e : p.1 = k
      · rw [if_pos e, if_pos (h1.symm.trans e)]; exact ⟨h1, ry⟩
      · rw [if_neg e, if_neg (fun z => e (h1.trans z))]; exact ⟨h1, h2⟩
  · rw [if_neg e, if_neg e]; exact Paired.snoc r ⟨rfl, ry⟩
theorem RepKV.length {K : Frag} {H : Hp} {kvs : List (κ × D)} {vs : List (κ × V)} (r : RepKV K H kvs vs) : vs.length = kvs.length := (Paired.length r).symm
theorem RepKV.keys {K : Frag} {H : Hp} {kvs : List (κ × D)} {vs : List (κ × V)} (r : RepKV K H kvs vs) : kvs.map (·.1) = vs.map (·.1) := by
  unfold RepKV at r
  induction r with
  | nil => rfl
  | cons h t ih => rw [List.map_cons, List.map_cons, ih, h.1]
end
def keyOf : D → Option Key
  | .int i => some (.inl i)
  | .str x => some (.inr x)
  | _ => none
theorem keyOf_eq {K : Frag} {H : Hp} {d : D} {k : Key} {v : V} (h : keyOf d = some k) (r : Rep K H d v) : v = kV k := by
  cases d with
  | int i => cases h; exact rep_int.mp r
  | str i => cases h; exact rep_str.mp r
  | _ => cases h
/-! ### flat values -/
def D.flat : D → Bool
  | .non => true | .bl _ => true | .int _ => true | .str _ => true
  | _ => false
def eqF : D → D → Bool
  | .non, .non => true
  | .bl a, .bl b => a == b
  | .bl a, .int b => (if a then 1 else 0) == b
  | .int a, .bl b => a == (if b then 1 else 0)
  | .int a, .int b => decide (a = b)
  | .str a, .str b => decide (a = b)
  | _, _ => false
def inF (d : D) (ds : List D) : Bool := ds.any fun e => eqF e d
theorem flat_rep {K : Frag} {H : Hp} {d : D} {v : V} (h : d.flat = true) (r : Rep K H d v) : flatV v = true := by
  cases d with
  | non => rw [rep_non.mp r] <;> rfl
  | bl b => rw [rep_bl.mp r] <;> rfl
  | int b => rw [rep_int.mp r] <;> rfl
  | str b => rw [rep_str.mp r] <;> rfl
  | _ => cases h
theorem eqF_rep {K : Frag} {H : Hp} {d e : D} {v u : V} (hd : d.flat = true) (he : e.flat = true) (r : Rep K H d v) (q : Rep K H e u) : eqV v u = eqF d e := by
  cases d with
  | non => rw [rep_non.mp r]; cases e with
    | non => rw [rep_non.mp q] <;> rfl
    | bl b => rw [rep_bl.mp q] <;> rfl
    | int b => rw [rep_int.mp q] <;> rfl
    | str b => rw [rep_str.mp q] <;> rfl
    | _ => cases he
  | bl b => rw [rep_bl.mp r]; cases e with
    | non => rw [rep_non.mp q] <;> rfl
    | bl b => rw [rep_bl.mp q] <;> rfl
    | int b => rw [rep_int.mp q] <;> rfl
    | str b => rw [rep_str.mp q] <;> rfl
    | _ => cases he
  | int b => rw [rep_int.mp r]; cases e with
    | non => rw [rep_non.mp q] <;> rfl
    | bl b => rw [rep_bl.mp q] <;> rfl
    | int c => rw [rep_int.mp q]; unfold eqV eqF; exact Bool.beq_eq_decide_eq _ _
    | str b => rw [rep_str.mp q] <;> rfl
    | _ => cases he
  | str b => rw [rep_str.mp r]; cases e with
    | non => rw [rep_non.mp q] <;> rfl
    | bl b => rw [rep_bl.mp q] <;> rfl
    | int b => rw [rep_int.mp q] <;> rfl
    | str c => rw [rep_str.mp q]; unfold eqV eqF; exact Bool.beq_eq_decide_eq _ _
    | _ => cases he
  | _ => cases hd
theorem flats_rep {K : Frag} {H : Hp} : ∀ {ds : List D} {xs : List V}, ds.all D.flat = true → Reps K H ds xs → xs.all flatV = true
  | [], xs, h, r => by rw [reps_nil.mp r] <;> rfl
  | d :: ds, xs, h, r => by
    obtain ⟨v, vs, rfl, q, rs⟩ := reps_cons.mp r
    rw [List.all_cons, Bool.and_eq_true] at h ⊢
    exact ⟨flat_rep h.1 q, flats_rep h.2 rs⟩
theorem inF_rep {K : Frag} {H : Hp} {d : D} {v : V} (hd : d.flat = true) (r : Rep K H d v) : ∀ {ds : List D} {xs : List V}, ds.all D.flat = true → Reps K H ds xs → inV v xs = inF d ds
  | [], xs, h, q => by rw [reps_nil.mp q] <;> rfl
  | e :: ds, xs, h, q => by
    obtain ⟨u, vs, rfl, q1, rs⟩ := reps_cons.mp q
    rw [List.all_cons, Bool.and_eq_true] at h
    have ih := inF_rep hd r h.2 rs
    unfold inV inF at ih ⊢
    rw [List.any_cons, List.any_cons, ih, eqF_rep h.1 hd q1 r]
def strIn (x y : Str) : Bool := !(Builtin.Str.occurrences y x 0 y.length 1).isEmpty
def inL (d : D) (ds : List D) (Q : Bool → Prop) : Prop := (d.flat = true ∧ ds.all D.flat = true ∧ Q (inF d ds)) ∨
  ∃ p ps, pyD d = some p ∧ pyDs ds = some ps ∧ min (PyData.depthAll ps) p.depth ≤ 63 ∧ Q (ps.any fun z => PyData.eqv z p)
def inC (d e : D) (S : Sto) (Q : Bool → Prop) : Prop := match e with
  | .str y => match d with
    | .str x => Q (strIn x y)
    | _ => False
  | .tup ds => inL d ds Q
  | .ref a => match S a with
    | some (.lst ds) => inL d ds Q
    | some (.dic kvs) => match keyOf d with
      | some k => Q (getD kvs k).isSome
      | none => False
    | _ => False
  | _ => False
def inW : W2 := fun d e S Q => inC d e S fun b => Q (.bl b) S
def ninW : W2 := fun d e S Q => inC d e S fun b => Q (.bl (!b)) S
theorem RelOD.isSome {K : Frag} {H : Hp} {o : Option D} {u : Option V} (r : RelOD K H o u) : u.isSome = o.isSome := by
  cases o <;> cases u <;> first | rfl | exact r.elim
section
variable {X : Cx}
theorem opz_in (hu : X.A.units + 65 < cLine) : OpR X (compareOp .In) (lift2 X.K inW) := by
  intro pins s σ H x y v u Q I rx ry ⟨d, e, S, Q', rd, re, hs, w, f⟩
  unfold inW inC at w
  have list : ∀ {a : Addr} {ds : List D} {xs : List V}, y = .ref a → SqL X.K H a xs → Reps X.K H ds xs → inL d ds (fun b => Q' (.bl b) S) → wpAny (model X.prog X.w) X.A (compareOp .In v u) (EP X pins σ Q) X.xe s := fun {a ds xs} ey hl hr w => by
    rcases w with ⟨h1, h2, w⟩ | ⟨p, ps, h1, h2, hm, w⟩
    · refine op_in_seq pins s σ H x y v u Q I rx ry ⟨a, xs, ey, .inl hl, flat_rep h1 rd, flats_rep h2 hr, ?_⟩
      rw [if_neg Bool.false_ne_true, inF_rep h1 rd h2 hr]
      exact f.bl hs w
    · subst ey
      obtain ⟨m1, q1⟩ := Dp.reads I p x v (dp_of _ _ _ rd h1) rx
      obtain ⟨m2, q2⟩ := Dp.reads I (.list ps) _ u (.lst hl (dps_of _ _ _ hr h2)) ry
      exact SeqAt.in_list_data q2 q1 (plainDs h2) (plainD h1) (by omega) ⟨.bl _, H, I, rfl, f.bl hs w⟩
  split at w
  · split at w
    · obtain rfl := rep_str.mp rd
      obtain rfl := rep_str.mp re
      exact op_in_str pins s σ H _ _ v u Q I rx ry ⟨_, _, rfl, rfl, f.bl hs w⟩
    · exact w.elim
  · obtain ⟨a, xs, rfl, t, hr⟩ := rep_tup.mp re
    rcases w with ⟨h1, h2, w⟩ | ⟨p, ps, h1, h2, hm, w⟩
    · refine op_in_seq pins s σ H x _ v u Q I rx ry ⟨a, xs, rfl, .inr t, flat_rep h1 rd, flats_rep h2 hr, ?_⟩
      rw [if_neg Bool.false_ne_true, inF_rep h1 rd h2 hr]
      exact f.bl hs w
    · obtain ⟨m1, q1⟩ := Dp.reads I p x v (dp_of _ _ _ rd h1) rx
      obtain ⟨m2, q2⟩ := Dp.reads I (.tuple ps) _ u (.tup t (dps_of _ _ _ hr h2)) ry
      exact SeqAt.in_tuple_data q2 q1 (plainDs h2) (plainD h1) (by omega) ⟨.bl _, H, I, rfl, f.bl hs w⟩
  · obtain rfl := rep_ref.mp re
    split at w
    · rename_i ha
      obtain ⟨xs, h, hr⟩ := hs _ _ ha
      exact list rfl (.inl (.inl h)) hr w
    · rename_i ha
      obtain ⟨xs, h, hr⟩ := hs _ _ ha
      split at w
      · rename_i k hk
        obtain rfl := keyOf_eq hk rd
        cases ry
        refine d_in (by omega) I (.k h) rx fun s2 I2 => ?_
        rw [(hr.val k).isSome]
        exact ⟨.bl _, H, I2, rfl, f.bl hs w⟩
      · exact w.elim
    · exact w.elim
  · exact w.elim
theorem opz_nin (hu : X.A.units + 65 < cLine) : OpR X (compareOp .NotIn) (lift2 X.K ninW) := by
  intro pins s σ H x y v u Q I rx ry ⟨d, e, S, Q', rd, re, hs, w, f⟩
  unfold ninW inC at w
  have list : ∀ {a : Addr} {ds : List D} {xs : List V}, y = .ref a → SqL X.K H a xs → Reps X.K H ds xs → inL d ds (fun b => Q' (.bl (!b)) S) → wpAny (model X.prog X.w) X.A (compareOp .NotIn v u) (EP X pins σ Q) X.xe s := fun {a ds xs} ey hl hr w => by
    rcases w with ⟨h1, h2, w⟩ | ⟨p, ps, h1, h2, hm, w⟩
    · refine op_notIn_seq pins s σ H x y v u Q I rx ry ⟨a, xs, ey, .inl hl, flat_rep h1 rd, flats_rep h2 hr, ?_⟩
      rw [if_pos rfl, inF_rep h1 rd h2 hr]
      exact f.bl hs w
    · subst ey
      obtain ⟨m1, q1⟩ := Dp.reads I p x v (dp_of _ _ _ rd h1) rx
      obtain ⟨m2, q2⟩ := Dp.reads I (.list ps) _ u (.lst hl (dps_of _ _ _ hr h2)) ry
      exact SeqAt.notIn_list_data q2 q1 (plainDs h2) (plainD h1) (by omega) ⟨.bl _, H, I, rfl, f.bl hs w⟩
  split at w
  · split at w
    · obtain rfl := rep_str.mp rd
      obtain rfl := rep_str.mp re
      exact op_notIn_str pins s σ H _ _ v u Q I rx ry ⟨_, _, rfl, rfl, f.bl hs w⟩
    · exact w.elim
  · obtain ⟨a, xs, rfl, t, hr⟩ := rep_tup.mp re
    rcases w with ⟨h1, h2, w⟩ | ⟨p, ps, h1, h2, hm, w⟩
    · refine op_notIn_seq pins s σ H x _ v u Q I rx ry ⟨a, xs, rfl, .inr t, flat_rep h1 rd, flats_rep h2 hr, ?_⟩
      rw [if_pos rfl, inF_rep h1 rd h2 hr]
      exact f.bl hs w
    · obtain ⟨m1, q1⟩ := Dp.reads I p x v (dp_of _ _ _ rd h1) rx
      obtain ⟨m2, q2⟩ := Dp.reads I (.tuple ps) _ u (.tup t (dps_of _ _ _ hr h2)) ry
      exact SeqAt.notIn_tuple_data q2 q1 (plainDs h2) (plainD h1) (by omega) ⟨.bl _, H, I, rfl, f.bl hs w⟩
  · obtain rfl := rep_ref.mp re
    split at w
    · rename_i ha
      obtain ⟨xs, h, hr⟩ := hs _ _ ha
      exact list rfl (.inl (.inl h)) hr w
    · rename_i ha
      obtain ⟨xs, h, hr⟩ := hs _ _ ha
      split at w
      · rename_i k hk
        obtain rfl := keyOf_eq hk rd
        cases ry
        refine d_notIn (by omega) I (.k h) rx fun s2 I2 => ?_
        rw [(hr.val k).isSome]
        exact ⟨.bl _, H, I2, rfl, f.bl hs w⟩
      · exact w.elim
    · exact w.elim
  · exact w.elim
/-! ### truth -/
def truC (d : D) (S : Sto) (Q : Bool → Prop) : Prop := match d with
  | .non => Q false
  | .bl b => Q b
  | .int i => Q (decide (i ≠ 0))
  | .str x => x.length ≤ sizeLine ∧ Q (decide (x.length ≠ 0))
  | .tup ds => Q (!ds.isEmpty)
  | .ref a => match S a with
    | some (.lst ds) => Q (!ds.isEmpty)
    | some (.dic kvs) => Q (!kvs.isEmpty)
    | _ => False
  | .ty _ => False
  | .scr _ => False
theorem Reps.isEmpty {K : Frag} {H : Hp} {ds : List D} {xs : List V} (r : Reps K H ds xs) : xs.isEmpty = ds.isEmpty := by
  cases ds with
  | nil => rw [reps_nil.mp r] <;> rfl
  | cons d ds => obtain ⟨v, vs, rfl, _⟩ := reps_cons.mp r; rfl
theorem RepKV.isEmpty {κ : Type} {K : Frag} {H : Hp} {kvs : List (κ × D)} {vs : List (κ × V)} (r : RepKV K H kvs vs) : vs.isEmpty = kvs.isEmpty := by cases r <;> rfl
theorem truZ {K : Frag} {H : Hp} {S : Sto} (hs : StR K H S) {d : D} {v : V} (r : Rep K H d v) {Q : Bool → Prop} (w : truC d S Q) : ∃ k, TruV K v H k ∧ Q k := by
  cases d with
  | non => rw [rep_non.mp r]; exact ⟨_, rfl, w⟩
  | bl b => rw [rep_bl.mp r]; exact ⟨_, rfl, w⟩
  | int i =>
    rw [rep_int.mp r]
    refine ⟨_, rfl, ?_⟩
    have e : (i != 0) = decide (i ≠ 0) := by
      by_cases h : i = 0
      · subst h; rfl
      · simp [h]
    rw [e]; exact w
  | str x =>
    rw [rep_str.mp r]
    refine ⟨_, ⟨w.1, rfl⟩, ?_⟩
    have e : ((x.length : Int) != 0) = decide (x.length ≠ 0) := by
      by_cases h : x.length = 0
      · rw [h]; rfl
      · have : (x.length : Int) ≠ 0 := by omega
        simp [h, this]
    rw [e]; exact w.2
  | tup ds =>
    obtain ⟨a, xs, rfl, t, rs⟩ := rep_tup.mp r
    exact ⟨_, .inr (.inl ⟨xs, t, rfl⟩), by rw [rs.isEmpty]; exact w⟩
  | ref a =>
    rw [rep_ref.mp r]
    simp only [truC] at w
    split at w
    · rename_i ha
      obtain ⟨xs, h, hr⟩ := hs _ _ ha
      exact ⟨_, .inl ⟨xs, .inl (.inl h), rfl⟩, by rw [hr.isEmpty]; exact w⟩
    · rename_i ha
      obtain ⟨xs, h, hr⟩ := hs _ _ ha
      exact ⟨_, .inr (.inr ⟨xs, h, rfl⟩), by rw [hr.isEmpty]; exact w⟩
    · exact w.elim
  | ty _ => exact w.elim
  | scr _ => exact w.elim
/-! ### a[i] -/
def ixL (ds : List D) (i : D) (Q : D → Prop) : Prop := match i with
  | .int i => match atI ds i with
    | some d => Q d
    | none => False
  | _ => False
def ixC (d i : D) (S : Sto) (Q : D → Prop) : Prop := match d with
  | .tup ds => ixL ds i Q
  | .str x => match i with
    | .int i => x.length ≤ sizeLine ∧ match atI x.cps.toList i with
      | some c => Q (.str ⟨#[c]⟩)
      | none => False
    | _ => False
  | .ref a => match S a with
    | some (.lst ds) => ixL ds i Q
    | some (.dic kvs) => match keyOf i with
      | some k => match getD kvs k with
        | some d => Q d
        | none => False
      | none => False
    | some (.fdc _ _ kvs) => match keyOf i with
      | some k => match getD kvs k with
        | some d => Q d
        | none => False
      | none => False
    | _ => False
  | _ => False
def ixW : W2 := fun d i S Q => ixC d i S fun d => Q d S
theorem Reps.at {K : Frag} {H : Hp} {ds : List D} {xs : List V} (r : Reps K H ds xs) {i : Int} {d : D} (h : atI ds i = some d) : ∃ v, atI xs i = some v ∧ Rep K H d v := by
  unfold atI at h ⊢
  rw [r.length]
  cases e : ixN ds.length i with
  | none => rw [e] at h; cases h
  | some j =>
    rw [e] at h
    exact r.get h
theorem ixL_ok {K : Frag} {H : Hp} {ds : List D} {xs : List V} {i : D} {y : V} {Q : D → Prop} (r : Reps K H ds xs) (ri : Rep K H i y) (w : ixL ds i Q) : ∃ k d v, y = .int k ∧ atI xs k = some v ∧ Rep K H d v ∧ Q d := by
  unfold ixL at w
  split at w
  · split at w
    · rename_i h
      obtain ⟨v, hv, rv⟩ := r.at h
      exact ⟨_, _, v, rep_int.mp ri, hv, rv, w⟩
    · exact w.elim
  · exact w.elim
theorem sub_tail {prog : Program} {w : World} {A : Around} {E : Value → Shared → Prop} {s : Shared} {value slice : Expr} {T id : String} {o i : Value} {Q : Value → Shared → Prop}
    (hl : typeLookup (.type T) "__getitem__" = pure (some (.builtin id))) (hT : s.TypeIs o T) (hs : subscripted slice false o i = operate [o, i] (getItem o i))
    (h : wpAny (model prog w) A (getItem o i) Q E s) : wpAny (model prog w) A (subscriptTail value slice o i) Q E s := by
  unfold subscriptTail
  refine wpAny_bind ?_
  rw [getitemInPython_of_ne hT.not_modules]
  refine wpAny_bind (wpAny_specialOf hT hl ?_)
  have fin : wpAny (model prog w) A (subscripted slice false o i) (fun r s₃ => wpAny (model prog w) A (letTemporaryGo value o r >>= fun _ => pure r) Q E s₃) E s := by
    rw [hs]
    exact wpAny_operating (wpAny_mono h (fun r s₃ h₃ => wpAny_bind (wpAny_letTemporaryGo (wpAny_pure h₃))) fun _ _ x => x)
  first
    | exact wpAny_pure (wpAny_bind fin)
    | exact wpAny_bind (wpAny_pure (wpAny_bind fin))
    | exact wpAny_bind fin
theorem ixz (hu : X.A.units + 1 < cLine) : IxR X (lift2 X.K ixW) := by
  intro value slice pins s σ H x y v u Q I rx ry ⟨d, e, S, Q', rd, re, hs, w, f⟩ hsl
  unfold ixW ixC at w
  split at w
  · obtain ⟨a, xs, rfl, t, hr⟩ := rep_tup.mp rd
    obtain ⟨k, d, z, rfl, h1, h2, w⟩ := ixL_ok hr re w
    exact ix_tup value slice pins s σ H _ _ v u Q I rx ry ⟨a, xs, k, z, rfl, rfl, t, h1, f.val hs h2 w⟩ hsl
  · split at w
    · obtain rfl := rep_str.mp rd
      obtain rfl := rep_int.mp re
      obtain ⟨h1, w⟩ := w
      split at w
      · rename_i h
        exact ix_str value slice pins s σ H _ _ v u Q I rx ry ⟨_, _, _, rfl, rfl, h1, h, f.str hs w⟩ hsl
      · exact w.elim
    · exact w.elim
  · obtain rfl := rep_ref.mp rd
    split at w
    · rename_i ha
      obtain ⟨xs, h, hr⟩ := hs _ _ ha
      obtain ⟨k, d, z, rfl, h1, h2, w⟩ := ixL_ok hr re w
      exact ix_list value slice pins s σ H _ _ v u Q I rx ry ⟨_, xs, k, z, rfl, rfl, .inl (.inl h), h1, f.val hs h2 w⟩ hsl
    · rename_i ha
      obtain ⟨xs, h, hr⟩ := hs _ _ ha
      split at w
      · rename_i k hk
        obtain rfl := keyOf_eq hk re
        split at w
        · rename_i dv hd
          have rv := hr.val k
          rw [hd] at rv
          cases hv : valV xs k with
          | none => rw [hv] at rv; exact rv.elim
          | some z =>
            rw [hv] at rv
            cases rx
            have g := DGet.k (k := k) h
            rw [hv] at g
            refine sub_tail (T := "dict") PySem.F.slot_dict_getitem.lookup (dict_typeIs I g) hsl (d_getItem hu I g ry fun w' s3 I3 rw' => ⟨z, H, I3, rw', f.val hs rv w⟩)
        · exact w.elim
      · exact w.elim
    · rename_i ha
      rename_i xs _
      obtain ⟨h, hr⟩ := hs _ _ ha
      split at w
      · rename_i k hk
        obtain rfl := keyOf_eq hk re
        split at w
        · rename_i dv hd
          have rv := hr.val k
          rw [hd] at rv
          cases hv : valV xs k with
          | none => rw [hv] at rv; exact rv.elim
          | some z =>
            rw [hv] at rv
            cases rx
            have g : DGet H _ (kV k) (valV xs k) := .inl ⟨xs, k, .inr ⟨_, h⟩, rfl, rfl⟩
            rw [hv] at g
            refine sub_tail (T := "dict") PySem.F.slot_dict_getitem.lookup (dict_typeIs I g) hsl (d_getItem hu I g ry fun w' s3 I3 rw' => ⟨z, H, I3, rw', f.val hs rv w⟩)
        · exact w.elim
      · exact w.elim
    · exact w.elim
  · exact w.elim
end
end Z

/-! ### Z5 -/
/-! Z5: slices, stores, built-in calls and methods. -/
namespace Z
open PySem PySem.Spec PyProof.Rows L2
/-! ### slices -/
def cutG {α : Type} (xs : List α) (lo hi : Option Int) : List α := (xs.drop (HT.sIx xs.length 0 lo)).take (HT.sIx xs.length xs.length hi - HT.sIx xs.length 0 lo)
def slC (d : D) (lo hi : Option Int) (S : Sto) (Q : PK D) : Prop := match d with
  | .tup ds => Q (.tup (cutG ds lo hi)) S
  | .str x => x.length ≤ sizeLine ∧ Q (.str (cutS x lo hi)) S
  | .ref a => match S a with
    | some (.lst ds) => ∀ p, S p = none → Q (.ref p) (up S p (.lst (cutG ds lo hi)))
    | _ => False
  | _ => False
def liftSl (K : Frag) (W : D → Option Int → Option Int → Sto → PK D → Prop) : V → Option Int → Option Int → Hp → VK → Prop := fun x lo hi H Q => ∃ d S Q', Rep K H d x ∧ StR K H S ∧ W d lo hi S Q' ∧ Fin K H S Q' Q
theorem Reps.cut {K : Frag} {H : Hp} {ds : List D} {xs : List V} (r : Reps K H ds xs) (lo hi : Option Int) : Reps K H (cutG ds lo hi) (cutV xs lo hi) := by
  unfold cutG cutV
  rw [r.length]
  exact (r.drop _).take _
theorem cut_whole {α : Type} (xs : List α) (lo hi : Option Int) (h1 : HT.sIx xs.length 0 lo = 0) (h2 : HT.sIx xs.length xs.length hi = xs.length) : cutG xs lo hi = xs := by
  unfold cutG
  rw [h1, h2]
  simp
section
variable {X : Cx}
theorem slz : SlR X (liftSl X.K slC) := by
  intro pins s σ H x v vl vu lo hi sl Q I rx hsl pl pu ⟨d, S, Q', rd, hs, w, f⟩
  unfold slC at w
  split at w
  · rename_i ds
    obtain ⟨a, xs, rfl, t, hr⟩ := rep_tup.mp rd
    refine sl_tupA pins s σ H _ v vl vu lo hi sl Q I rx hsl pl pu ⟨a, xs, rfl, t, fun h => ?_, fun _ p hp => f.tup hs (hr.cut lo hi) w hp⟩
    rw [hr.length] at h
    rw [cut_whole ds lo hi h.1 h.2] at w
    exact f.val hs rd w
  · obtain rfl := rep_str.mp rd
    exact sl_str pins s σ H _ v vl vu lo hi sl Q I rx hsl pl pu ⟨_, rfl, w.1, f.str hs w.2⟩
  · obtain rfl := rep_ref.mp rd
    split at w
    · rename_i ha
      obtain ⟨xs, h, hr⟩ := hs _ _ ha
      exact sl_list pins s σ H _ v vl vu lo hi sl Q I rx hsl pl pu ⟨_, xs, rfl, .inl (.inl h), fun p hp => f.lst hs (hr.cut lo hi) w hp⟩
    · exact w.elim
  · exact w.elim
end
/-! ### o[i] = v -/
def setC (o i v : D) (S : Sto) (Q : Sto → Prop) : Prop := match o with
  | .ref a => match S a with
    | some (.lst ds) => match i with
      | .int k => match ixN ds.length k with
        | some j => Q (up S a (.lst (ds.set j v)))
        | none => False
      | _ => False
    | some (.dic kvs) => match keyOf i with
      | some k => kvs.length < sizeLine ∧ Q (up S a (.dic (putD kvs k v)))
      | none => False
    | _ => False
  | _ => False
def FinS (K : Frag) (H : Hp) (S : Sto) (Q' : Sto → Prop) (Q : Hp → Prop) : Prop := ∀ H1 S1, Ext H S H1 S1 → StR K H1 S1 → Q' S1 → Q H1
def liftSet (K : Frag) (W : D → D → D → Sto → (Sto → Prop) → Prop) : V → V → V → Hp → (Hp → Prop) → Prop := fun o i v H Q => ∃ d e f S Q', Rep K H d o ∧ Rep K H e i ∧ Rep K H f v ∧ StR K H S ∧ W d e f S Q' ∧ FinS K H S Q' Q
theorem FinS.set {K : Frag} {H : Hp} {S : Sto} {Q' : Sto → Prop} {Q : Hp → Prop} (f : FinS K H S Q' Q) (s : StR K H S) {o : HO} {u o' : O} {p : Addr} (h : S p = some o') (r : RepO K (upd H p o) p u) (q : Q' (up S p u)) : Q (upd H p o) :=
  f _ _ (ext_setUp h) (s.setUp h r) q
section
variable {X : Cx}
theorem setz (hu : X.A.units + 1 < cLine) : PSet X (liftSet X.K setC) := by
  intro pins s σ H o i v ov iv u Q I ro ri rv ⟨d, e, g, S, Q', rd, re, rg, hs, w, f⟩
  unfold setC at w
  split at w
  · obtain rfl := rep_ref.mp rd
    split at w
    · rename_i ha
      obtain ⟨xs, h, hr⟩ := hs _ _ ha
      split at w
      · obtain rfl := rep_int.mp re
        split at w
        · rename_i j hj
          refine set_list pins s σ H _ _ v ov iv u Q I ro ri rv ⟨_, xs, _, j, rfl, rfl, h, by rw [hr.length]; exact hj, ?_⟩
          exact f.set (u := .lst _) hs ha ⟨_, upd_same, Reps.set (Rep.mono (tupLe_set hs ha) _ _ rg) j (Reps.mono (tupLe_set hs ha) _ _ hr)⟩ w
        · exact w.elim
      · exact w.elim
    · rename_i ha
      obtain ⟨xs, h, hr⟩ := hs _ _ ha
      split at w
      · rename_i k hk
        obtain rfl := keyOf_eq hk re
        cases ro
        refine d_setItem hu I (.k h (by rw [hr.length]; exact w.1)) ri rv fun s2 I2 => ⟨_, I2, ?_⟩
        exact f.set (u := .dic _) hs ha ⟨_, upd_same, RepKV.put (hr.mono (tupLe_set hs ha)) k (Rep.mono (tupLe_set hs ha) _ _ rg)⟩ w.2
      · exact w.elim
    · exact w.elim
  · exact w.elim
end
/-! ### lists of one kind -/
def intsOf : List D → Option (List Int)
  | [] => some []
  | .int i :: r => (intsOf r).map (i :: ·)
  | _ :: _ => none
def strsOf : List D → Option (List Str)
  | [] => some []
  | .str i :: r => (strsOf r).map (i :: ·)
  | _ :: _ => none
def blsOf : List D → Option (List Bool)
  | [] => some []
  | .bl i :: r => (blsOf r).map (i :: ·)
  | _ :: _ => none
theorem intsOf_map : ∀ ns : List Int, intsOf (ns.map D.int) = some ns
  | [] => rfl
  | n :: ns => by rw [List.map_cons, intsOf, intsOf_map ns] <;> rfl
theorem strsOf_map : ∀ ns : List Str, strsOf (ns.map D.str) = some ns
  | [] => rfl
  | n :: ns => by rw [List.map_cons, strsOf, strsOf_map ns] <;> rfl
theorem blsOf_map : ∀ ns : List Bool, blsOf (ns.map D.bl) = some ns
  | [] => rfl
  | n :: ns => by rw [List.map_cons, blsOf, blsOf_map ns] <;> rfl
theorem intsOf_eq : ∀ {ds : List D} {ns : List Int}, intsOf ds = some ns → ds = ns.map D.int
  | [], ns, h => by unfold intsOf at h; cases h; rfl
  | d :: ds, ns, h => by
    cases d with
    | int i =>
      unfold intsOf at h
      cases e : intsOf ds with
      | none => rw [e] at h; cases h
      | some r => rw [e] at h; cases h; rw [intsOf_eq e] <;> rfl
    | _ => cases h
theorem strsOf_eq : ∀ {ds : List D} {ns : List Str}, strsOf ds = some ns → ds = ns.map D.str
  | [], ns, h => by unfold strsOf at h; cases h; rfl
  | d :: ds, ns, h => by
    cases d with
    | str i =>
      unfold strsOf at h
      cases e : strsOf ds with
      | none => rw [e] at h; cases h
      | some r => rw [e] at h; cases h; rw [strsOf_eq e] <;> rfl
    | _ => cases h
theorem blsOf_eq : ∀ {ds : List D} {ns : List Bool}, blsOf ds = some ns → ds = ns.map D.bl
  | [], ns, h => by unfold blsOf at h; cases h; rfl
  | d :: ds, ns, h => by
    cases d with
    | bl i =>
      unfold blsOf at h
      cases e : blsOf ds with
      | none => rw [e] at h; cases h
      | some r => rw [e] at h; cases h; rw [blsOf_eq e] <;> rfl
    | _ => cases h
/-- the items of a list in the store -/
def itemsL (S : Sto) : D → Option (List D)
  | .ref a => match S a with
    | some (.lst ds) => some ds
    | _ => none
  | .scr ns => some (ns.map D.int)
  | _ => none
theorem itemsL_ok {K : Frag} {H : Hp} {S : Sto} (hs : StR K H S) {d : D} {v : V} {ds : List D} (r : Rep K H d v) (h : itemsL S d = some ds) : ∃ a xs, v = .ref a ∧ SqL K H a xs ∧ Reps K H ds xs := by
  cases d with
  | ref a =>
    simp only [itemsL] at h
    split at h
    · rename_i ha
      cases h
      obtain ⟨xs, h, hr⟩ := hs _ _ ha
      exact ⟨a, xs, rep_ref.mp r, .inl (.inl h), hr⟩
    · cases h
  | scr ns =>
    cases h
    obtain ⟨a, rfl, q⟩ := rep_scr.mp r
    exact ⟨a, _, rfl, q.sq, Reps.ints.mpr rfl⟩
  | _ => cases h
/-! ### sorted, any number of texts -/
section
variable {X : Cx}
/-- sorted(d), d a dict whose keys are texts -/
theorem dsort_any (calm : X.calm = true) : CallR X (.builtin "sorted") (fun args H Q => ∃ (b : Addr) (es : List (Key × V)) (names : List Str), args = [.ref b] ∧ Rd H b (.dK es) ∧ es.map (·.1) = names.map Sum.inr ∧ names.length ≤ sizeLine ∧
    ∀ out q, out.Perm names → sortedS out = true → H q = none → Q (.ref q) (upd H q (.lst (out.map V.str)))) := by
  intro pins s σ H args us Q I r h
  obtain ⟨b, es, names, rfl, hd, ek, few, q⟩ := h
  rw [Vals.ref1 r]
  obtain ⟨zl, lo, ws, kv, dd⟩ := dk_rd I.hok hd
  obtain ⟨ep, hat⟩ := dd.dictAt
  have hk : ws.map (·.1) = names.map Sum.inr := by rw [← ek]; exact kv.keys.symm
  have hl : ws.length = names.length := by have := congrArg List.length hk; simpa using this
  refine Calls.call_function_entry PyProof.Rows.kind_sorted PyProof.Rows.plain_sorted PyProof.Rows.entry_sorted (PyProof.Rows.args_sorted1 _) ?_
  unfold Builtin.«sorted»
  refine wpAny_bind (m := checkCount "sorted" 1 1 _) (wpAny_pure ?_)
  refine wpAny_bind (PySem.W.kdu_collect (A := X.A.in1) (PySem.W.kdl_dict (knd := mixKind X.prog X.w) (kvs := ws) (ep := ep) lo) (I.ok.hd calm) hat (hl ▸ few) fun h1 tk got old hg => ?_)
  have hn : got.toList.length = names.length := by rw [Array.length_toList, hg.1, hl]
  have hS : StrsAre got.toList names := strs_at hn fun j v e => by
    obtain ⟨k, x, e1, e2⟩ := hg.2 j v (by rw [← Array.getElem?_toList]; exact e)
    have e3 : (names.map Sum.inr)[j]? = some k := by rw [← hk, List.getElem?_map, e1]; rfl
    rw [List.getElem?_map] at e3
    obtain ⟨y, e4, rfl⟩ := Option.map_eq_some_iff.mp e3
    obtain ⟨t, ev⟩ := Value.isStrOf_shape (x := y) (v := v) e2
    exact ⟨y, t, e4, ev⟩
  have J : Inv X pins σ H { s with heap := h1, toks := tk } := I.kept old
  refine wpAny_bind (wpAny_newList ?_ (by rw [hn]; exact few))
  have ho : (h1.push (seqObj "list" got.toList.toArray 0)).get? h1.objs.size = some (seqObj "list" got.toList.toArray 0) := Heap.get?_push_size _ rfl
  show wpAny _ _ _ _ _ { s with heap := h1.push (seqObj "list" got.toList.toArray 0), toks := tk }
  refine wpAny_bind (wpAny_holding (wpAny_call_entry PyProof.Rows.slot_list_sort ⟨_, ho, rfl⟩ PyProof.Rows.entry_list_sort
    (PyProof.Rows.list_sort_treeKAny strKind_oneLt (s := { s with heap := h1.push (seqObj "list" got.toList.toArray 0), toks := tk }) ho hS.keysOf (fun _ _ _ e => keyKind_strs (e ▸ hS)) (by rw [hn]; exact few) fun st pm so => ⟨_, rfl, ?_⟩)
    (PyProof.Rows.args_list_sort _)))
  obtain ⟨out, g1, g2, g3⟩ := sorted_out_str hS pm so
  obtain ⟨e', he⟩ := PyProof.Rows.sortedHeap_at (vs := got.toList) (out := (arrOf st).map (·.2)) ho
  have hz : (out.map V.str).length ≤ sizeLine := by rw [List.length_map, g2.length_eq]; exact few
  have old2 : ∀ c u, h1.get? c = some u → (PyProof.Rows.sortedHeap (h1.push (seqObj "list" got.toList.toArray 0)) h1.objs.size got.toList ((arrOf st).map (·.2))).get? c = some u := fun c u e => by
    have hc := Heap.lt_size e
    rw [PyProof.Rows.sortedHeap_old (Nat.ne_of_lt hc) (by rw [size_push']; exact Nat.lt_succ_of_lt hc)]
    exact Heap.get?_push_of_some _ e
  have obj : ∀ H', ObjOk X.prog X.w H' _ _ (.lst (out.map V.str)) := fun _ => ⟨hz, ((arrOf st).map (·.2)).toList, e', vals_of_strs g1, by rw [Array.toArray_toList]; exact he⟩
  exact wpAny_pure ⟨_, rfl, .ref h1.objs.size, upd H h1.objs.size (.lst (out.map V.str)), J.laid (t' := tk) old2 (Nat.le_refl _) (obj _), rfl, q out _ g2 g3 (J.hok.fresh (Nat.le_refl _))⟩
/-- sorted(l), l a list of texts -/
theorem lsort_any : CallR X (.builtin "sorted") (fun args H Q => ∃ (b : Addr) (names : List Str), args = [.ref b] ∧ SqL X.K H b (names.map V.str) ∧ names.length ≤ sizeLine ∧
    ∀ out q, out.Perm names → sortedS out = true → H q = none → Q (.ref q) (upd H q (.lst (out.map V.str)))) := by
  intro pins s σ H args us Q I r h
  obtain ⟨b, names, rfl, hs, few, q⟩ := h
  rw [Vals.ref1 r]
  obtain ⟨its, rv, il, zl⟩ := I.list hs
  have hl : its.length = names.length := by rw [← rv.length, List.length_map]
  refine PyProof.Rows.sorted_strsAny il.isList rv.strs (hl ▸ few) fun out ys g1 g2 g3 => ?_
  obtain ⟨e', he⟩ := PyProof.Rows.sortedAll_at s.heap its out
  have hz : (ys.map V.str).length ≤ sizeLine := by rw [List.length_map, g2.length_eq]; exact few
  have obj : ∀ H', ObjOk X.prog X.w H' _ _ (.lst (ys.map V.str)) := fun _ => ⟨hz, out.toList, e', vals_of_strs g1, he⟩
  exact ⟨.ref _, upd H (s.heap.objs.size + 1) (.lst (ys.map V.str)), I.laid (t' := s.toks) (fun _ _ => PyProof.Rows.sortedAll_old) (Nat.le_succ _) (obj _), rfl, q ys _ g2 g3 (I.hok.fresh (Nat.le_succ _))⟩
end
/-! ### sorted texts -/
def sortStr (ks : List Str) : List Str := ks.mergeSort strLe
theorem str_ext {a b : Str} (h : a.cps.toList = b.cps.toList) : a = b := by
  cases a; cases b
  have : _ := Array.toList_inj.mp h
  simp only at this
  rw [this]
theorem strLe_refl (a : Str) : strLe a a = true := by unfold strLe; simp
theorem strLe_total (a b : Str) : (strLe a b || strLe b a) = true := by
  unfold strLe
  by_cases h : b.cps.toList < a.cps.toList
  · have : ¬ a.cps.toList < b.cps.toList := fun h2 => List.lt_irrefl _ (List.lt_trans h h2)
    simp [h, this]
  · simp [h]
theorem strLe_iff {a b : Str} : strLe a b = true ↔ a.cps.toList ≤ b.cps.toList := by
  unfold strLe
  rw [Bool.not_eq_true', decide_eq_false_iff_not]
  exact List.not_lt
theorem strLe_trans (a b c : Str) (h1 : strLe a b = true) (h2 : strLe b c = true) : strLe a c = true := strLe_iff.mpr (List.le_trans (strLe_iff.mp h1) (strLe_iff.mp h2))
theorem strLe_anti {a b : Str} (h1 : strLe a b = true) (h2 : strLe b a = true) : a = b := str_ext (List.le_antisymm (strLe_iff.mp h1) (strLe_iff.mp h2))
theorem sortStr_perm (ks : List Str) : (sortStr ks).Perm ks := List.mergeSort_perm _ _
theorem sortStr_sorted (ks : List Str) : (sortStr ks).Pairwise fun a b => strLe a b = true := List.pairwise_mergeSort strLe_trans strLe_total ks
theorem rising_pairwise : ∀ (x : Str) (r : List Str), risingS x r = true → (x :: r).Pairwise fun a b => strLe a b = true
  | x, [], _ => by simp
  | x, y :: r, h => by
    unfold risingS at h
    rw [Bool.and_eq_true] at h
    have ih := rising_pairwise y r h.2
    have hxy : strLe x y = true := by
      unfold strLe
      rw [PyProof.Rows.le_meets]
      exact h.1
    refine List.pairwise_cons.mpr ⟨fun z hz => ?_, ih⟩
    rcases List.mem_cons.mp hz with rfl | hz
    · exact hxy
    · exact strLe_trans _ _ _ hxy ((List.pairwise_cons.mp ih).1 z hz)
theorem sortedS_pairwise {ys : List Str} (h : sortedS ys = true) : ys.Pairwise fun a b => strLe a b = true := by
  cases ys with
  | nil => exact .nil
  | cons x r => exact rising_pairwise x r h
theorem sortStr_unique {ys ks : List Str} (p : ys.Perm ks) (h : sortedS ys = true) : ys = sortStr ks :=
  List.Perm.eq_of_pairwise (fun a b _ _ => strLe_anti) (sortedS_pairwise h) (sortStr_sorted ks) (p.trans (sortStr_perm ks).symm)
def intLe (a b : Int) : Bool := decide (a ≤ b)
def sortInt (ks : List Int) : List Int := ks.mergeSort intLe
theorem sortInt_unique {ys ks : List Int} (p : ys.Perm ks) (h : ys.Pairwise (· ≤ ·)) : ys = sortInt ks :=
  List.Perm.eq_of_pairwise (le := fun a b => a ≤ b) (fun a b _ _ => Int.le_antisymm) h (((List.pairwise_mergeSort (le := intLe) (fun a b c h1 h2 => decide_eq_true (Int.le_trans (of_decide_eq_true h1) (of_decide_eq_true h2)))
    (fun a b => by unfold intLe; rcases Int.le_total a b with h | h <;> simp [h]) ks)).imp of_decide_eq_true) (p.trans (List.mergeSort_perm _ _).symm)
end Z

/-! ### Z5b -/
/-! Z5b: sorted of tuples of texts. -/
namespace Z
open PySem PySem.Spec PyProof.Rows L2
/-- a stands before b -/
def lexS : List Str → List Str → Bool
  | [], [] => false
  | [], _ :: _ => true
  | _ :: _, [] => false
  | a :: as, b :: bs => if a = b then lexS as bs else decide (a.cps.toList < b.cps.toList)
theorem lexS_same {a : Str} {as bs : List Str} : lexS (a :: as) (a :: bs) = lexS as bs := by
  show (if a = a then _ else _) = _
  rw [if_pos rfl]
theorem lexS_diff {a b : Str} {as bs : List Str} (h : a ≠ b) : lexS (a :: as) (b :: bs) = decide (a.cps.toList < b.cps.toList) := by
  show (if a = b then _ else _) = _
  rw [if_neg h]
theorem cps_total {a b : Str} (h : a ≠ b) (h1 : ¬ a.cps.toList < b.cps.toList) : b.cps.toList < a.cps.toList := by
  refine Classical.byContradiction fun h2 => h ?_
  exact str_ext (List.le_antisymm (List.not_lt.mp h2) (List.not_lt.mp h1))
theorem lexS_asym : ∀ a b : List Str, lexS a b = true → lexS b a = false
  | [], [], h => rfl
  | [], _ :: _, _ => rfl
  | _ :: _, [], h => by cases h
  | a :: as, b :: bs, h => by
    by_cases e : a = b
    · subst e
      rw [lexS_same] at h ⊢
      exact lexS_asym as bs h
    · rw [lexS_diff e] at h
      rw [lexS_diff fun z => e z.symm]
      exact decide_eq_false fun z => List.lt_irrefl _ (List.lt_trans (of_decide_eq_true h) z)
theorem lexS_ntr : ∀ a b c : List Str, lexS b a = false → lexS c b = false → lexS c a = false
  | [], b, c, h1, h2 => by cases c <;> rfl
  | a :: as, [], c, h1, h2 => by cases h1
  | a :: as, b :: bs, [], h1, h2 => by cases h2
  | a :: as, b :: bs, c :: cs, h1, h2 => by
    by_cases e : b = a
    · subst e
      rw [lexS_same] at h1
      by_cases e2 : c = b
      · subst e2
        rw [lexS_same] at h2 ⊢
        exact lexS_ntr as bs cs h1 h2
      · rw [lexS_diff e2] at h2 ⊢
        exact h2
    · rw [lexS_diff e] at h1
      have l1 := cps_total e (of_decide_eq_false h1)
      by_cases e2 : c = b
      · subst e2
        rw [lexS_diff e]
        exact h1
      · rw [lexS_diff e2] at h2
        have l2 := cps_total e2 (of_decide_eq_false h2)
        have l3 := List.lt_trans l1 l2
        have e3 : c ≠ a := fun z => by subst z; exact List.lt_irrefl _ l3
        rw [lexS_diff e3]
        exact decide_eq_false fun z => List.lt_irrefl _ (List.lt_trans z l3)
theorem lexS_eq : ∀ a b : List Str, lexS a b = false → lexS b a = false → a = b
  | [], [], _, _ => rfl
  | [], _ :: _, h, _ => by cases h
  | _ :: _, [], _, h => by cases h
  | a :: as, b :: bs, h1, h2 => by
    by_cases e : a = b
    · subst e
      rw [lexS_same] at h1 h2
      rw [lexS_eq as bs h1 h2]
    · rw [lexS_diff e] at h1
      rw [lexS_diff fun z => e z.symm] at h2
      exact absurd (cps_total e (of_decide_eq_false h1)) (of_decide_eq_false h2)
/-- a tuple of texts of the heap -/
def TupS (h : Heap) (v : Value) (ks : List Str) : Prop := ∃ a o xs n, v = .ref a ∧ h.get? a = some o ∧ o.cls = .type "tuple" ∧ o.data = .seq xs n ∧ StrsAre xs.toList ks
def txtOf : Value → Str
  | .str x _ => x
  | _ => ⟨#[]⟩
def keyT (h : Heap) : Value → List Str
  | .ref a => match h.get? a with
    | some o => match o.data with
      | .seq xs _ => xs.toList.map txtOf
      | _ => []
    | none => []
  | _ => []
theorem txtOf_all : ∀ {us : List Value} {ks : List Str}, StrsAre us ks → us.map txtOf = ks
  | _, _, .nil => rfl
  | _, _, .cons x t h => by rw [List.map_cons, txtOf_all h] <;> rfl
theorem TupS.key {h : Heap} {v : Value} {ks : List Str} (t : TupS h v ks) : keyT h v = ks := by
  obtain ⟨a, o, xs, n, rfl, ho, hc, hd, hs⟩ := t
  unfold keyT
  simp only [ho, hd]
  exact txtOf_all hs
theorem TupS.keep {h h' : Heap} {v : Value} {ks : List Str} (t : TupS h v ks) (k : ∀ b o, h.get? b = some o → o.cls = .type "tuple" → h'.get? b = some o) : TupS h' v ks := by
  obtain ⟨a, o, xs, n, e, ho, hc, r⟩ := t
  exact ⟨a, o, xs, n, e, k a o ho hc, hc, r⟩
section
variable {prog : Program} {w : World} {A : Around} {E : Value → Shared → Prop} {s : Shared}
theorem oneLt_strF {f : Bool} {x y : Str} {t u : Tok} {Q : Bool → Shared → Prop} (h : Q (decide (x.cps.toList < y.cps.toList)) s) : wpAny (model prog w) A (oneLt' f (.str x t) (.str y u)) Q E s := by
  cases f with
  | true => exact oneLt_str h
  | false => exact PySem.W.kat_one _ _ (PyProof.Rows.lt_str h)
theorem kat_strs {b fin : Bool} {Q : Bool → Shared → Prop} : ∀ {us vs : List Value} {as bs : List Str} (i : Nat), StrsAre us as → StrsAre vs bs → fin = decide (us.length < vs.length) → Q (lexS as bs) s → PySem.W.KatLex prog w A b fin Q (us.zip vs) i s
  | _, _, _, _, i, .nil, .nil, e, h => by
    subst e
    exact PySem.W.kat_nil (by simpa [lexS] using h)
  | _, _, _, _, i, .nil, .cons y u r, e, h => by
    subst e
    exact PySem.W.kat_nil (by simpa [lexS] using h)
  | _, _, _, _, i, .cons x t r, .nil, e, h => by
    subst e
    exact PySem.W.kat_nil (by simpa [lexS] using h)
  | _, _, _, _, i, .cons x t r, .cons y u r2, e, h => by
    rw [List.zip_cons_cons]
    refine PySem.W.kat_cons (SeqAt.EqAt.str_str x t y u prog w _ _ ?_)
    refine PySem.W.kat_go (fun e1 => ?_) (fun e1 => ?_)
    · have ex : x = y := by simpa using e1
      subst ex
      rw [lexS_same] at h
      refine PySem.W.kat_yes (kat_strs (i + 1) r r2 ?_ h)
      rw [e]
      simp
    · have ex : x ≠ y := by simpa using e1
      rw [lexS_diff ex] at h
      exact PySem.W.kat_no (oneLt_strF h)
theorem tups_cmp {vs : List Value} {k : Value → List Str} (hp : ∀ v ∈ vs, TupS s.heap v (k v)) : SrtO.Cmp prog w A s (tuples' true) (fun p => p.1 ∈ vs) (SrtO.lt2 fun v u => lexS (k v) (k u)) := by
  intro p q hm hm'
  obtain ⟨a, o, xs, n, e, ho, hc, hd, hs⟩ := hp _ hm
  obtain ⟨a', o', xs', n', e', ho', hc', hd', hs'⟩ := hp _ hm'
  show wpAny (model prog w) A (keyLt' (tuples' true) p.1 q.1) (fun r s' => s' = s ∧ r = lexS (k p.1) (k q.1)) (fun _ _ => False) s
  rw [e, e'] at *
  refine PySem.W.kat_lt ho hd ho' hd' (kat_strs 0 hs hs' ?_ ⟨rfl, rfl⟩)
  simp
theorem tups_firsts {h : Heap} : ∀ {vs : List Value}, (∀ v ∈ vs, ∃ x r, TupS h v (x :: r)) → ∃ fs, PySem.W.KatTups h vs fs ∧ fs.length = vs.length ∧ ∀ f ∈ fs, ∃ x t, f = Value.str x t
  | [], _ => ⟨[], .nil, rfl, fun f hf => by cases hf⟩
  | v :: vs, hp => by
    obtain ⟨fs, h1, h2, h3⟩ := tups_firsts fun u hu => hp u (List.mem_cons_of_mem _ hu)
    obtain ⟨x, r, a, o, xs, n, rfl, ho, hc, hd, hs⟩ := hp v List.mem_cons_self
    cases hx : xs.toList with
    | nil => rw [hx] at hs; cases hs
    | cons u us =>
      rw [hx] at hs
      cases hs with
      | cons _ t hs =>
        refine ⟨.str x t :: fs, .cons ho hc hd ?_ h1, by simp [h2], fun f hf => ?_⟩
        · rw [← Array.getElem?_toList, hx] <;> rfl
        · rcases List.mem_cons.mp hf with rfl | hf
          · exact ⟨x, t, rfl⟩
          · exact h3 f hf
theorem tups_sortable {a : Addr} {vs : List Value} (h0 : 0 < vs.length) (hp : ∀ v ∈ vs, ∃ x r, TupS s.heap v (x :: r)) (ha : ∀ o, s.heap.get? a = some o → o.cls ≠ .type "tuple") : SrtO.SortableO prog w A s a vs fun v u => lexS (keyT s.heap v) (keyT s.heap u) := by
  intro h' keep
  have kp : ∀ b o, s.heap.get? b = some o → o.cls = .type "tuple" → h'.get? b = some o := fun b o e c => keep b o (fun z => by subst z; exact ha o e c) e
  have hp' : ∀ v ∈ vs, ∃ x r, TupS h' v (x :: r) := fun v hm => by
    obtain ⟨x, r, t⟩ := hp v hm
    exact ⟨x, r, t.keep kp⟩
  obtain ⟨fs, h1, h2, h3⟩ := tups_firsts hp'
  refine ⟨tuples' true, fun Q E hq => ?_, tups_cmp fun v hm => ?_⟩
  · refine PySem.W.kat_kind (T := .type "str") h1 (by omega) (fun f hm => ?_) (by rfl) ?_
    · obtain ⟨x, t, rfl⟩ := h3 f hm
      exact PySem.W.Looks.now
    · have e : (Value.type "str" != Value.type "tuple") = true := by first | decide +kernel | rfl | decide
      rw [e]
      exact hq
  · obtain ⟨x, r, t⟩ := hp v hm
    rw [t.key]
    exact t.keep kp
theorem swo_lexS (k : Value → List Str) : SrtO.Swo fun v u => lexS (k v) (k u) := ⟨fun x y => lexS_asym _ _, fun x y z => lexS_ntr _ _ _⟩
end
end Z

/-! ### Z5c -/
/-! Z5c: sorted of a list of tuples of texts, over the layer. -/
namespace Z
open PySem PySem.Spec PyProof.Rows L2
/-- a value that is a tuple of texts -/
def IsTS (K : Frag) (H : Hp) (x : V) (k : List Str) : Prop := ∃ a, x = .ref a ∧ SqT K H a (k.map V.str)
def backV : Value → V
  | .ref a => .ref a
  | _ => .non
section
variable {X : Cx}
theorem IsTS.raw {pins : List (Addr × Obj)} {σ : L2.St} {H : Hp} {s : Shared} (I : Inv X pins σ H s) {x : V} {k : List Str} {u : Value} (h : IsTS X.K H x k) (r : RelV x u) : TupS s.heap u k ∧ backV u = x := by
  obtain ⟨a, rfl, t⟩ := h
  obtain ⟨its, rv, ⟨o, ho, hc, n, hd⟩, _⟩ := I.tuple t
  cases r
  exact ⟨⟨a, o, its.toArray, n, rfl, ho, hc, hd, by simpa using rv.strs⟩, rfl⟩
theorem ts_all {pins : List (Addr × Obj)} {σ : L2.St} {H : Hp} {s : Shared} (I : Inv X pins σ H s) : ∀ {xs : List V} {ks : List (List Str)} {us : List Value}, Vals xs us → Paired (IsTS X.K H) xs ks →
    us.map (fun u => (backV u, keyT s.heap u)) = xs.zip ks ∧ ∀ u ∈ us, ∃ k ∈ ks, TupS s.heap u k ∧ ∃ a, u = .ref a
  | [], [], us, r, .nil => by cases r; exact ⟨rfl, fun u hu => by cases hu⟩
  | x :: xs, k :: ks, us, r, .cons h t => by
    cases r with
    | @cons _ u _ us hr r =>
      obtain ⟨t1, t2⟩ := h.raw I hr
      obtain ⟨q1, q2⟩ := ts_all I r t
      refine ⟨by rw [List.map_cons, List.zip_cons_cons, q1, t1.key, t2], fun v hv => ?_⟩
      rcases List.mem_cons.mp hv with rfl | hv
      · obtain ⟨a, o, xs', n, e, _⟩ := id t1
        exact ⟨k, List.mem_cons_self, t1, a, e⟩
      · obtain ⟨k', m, t⟩ := q2 v hv
        exact ⟨k', List.mem_cons_of_mem _ m, t⟩
theorem vals_back : ∀ {us : List Value}, (∀ u ∈ us, ∃ a, u = Value.ref a) → Vals (us.map backV) us
  | [], _ => .nil
  | u :: us, h => by
    obtain ⟨a, rfl⟩ := h u List.mem_cons_self
    exact .cons rfl (vals_back fun v hv => h v (List.mem_cons_of_mem _ hv))
/-- sorted(l), l a list of tuples of texts, none of them empty -/
theorem lsort_tup : CallR X (.builtin "sorted") (fun args H Q => ∃ (b : Addr) (xs : List V) (ks : List (List Str)), args = [.ref b] ∧ SqL X.K H b xs ∧ Paired (IsTS X.K H) xs ks ∧ (∀ k ∈ ks, k ≠ []) ∧ xs.length ≤ sizeLine ∧
    ∀ (out : List (V × List Str)) q, out.Perm (xs.zip ks) → out.Pairwise (fun x y => lexS y.2 x.2 = false) → H q = none → Q (.ref q) (upd H q (.lst (out.map (·.1))))) := by
  intro pins s σ H args us Q I r h
  obtain ⟨b, xs, ks, rfl, hs, hp, hne, few, q⟩ := h
  rw [Vals.ref1 r]
  obtain ⟨its, rv, il, zl⟩ := I.list hs
  have hl : its.length = xs.length := rv.length.symm
  obtain ⟨e1, e2⟩ := ts_all I rv hp
  have hS : ∀ v ∈ its, ∃ x r, TupS s.heap v (x :: r) := fun v hv => by
    obtain ⟨k, m, t, _⟩ := e2 v hv
    cases k with
    | nil => exact absurd rfl (hne _ m)
    | cons x r => exact ⟨x, r, t⟩
  refine SrtO.sorted_ord (swo_lexS (keyT s.heap)) il.isList (hl ▸ few) (fun h2 h₁ a ha kk => ?_) fun out hs hb => ?_
  · have kp : ∀ b o, s.heap.get? b = some o → o.cls = .type "tuple" → h₁.get? b = some o := fun b o e _ => (kk b o e).2
    have e3 : ∀ v ∈ its, keyT h₁ v = keyT s.heap v := fun v hv => by
      obtain ⟨x, r, t⟩ := hS v hv
      rw [t.key, (t.keep kp).key]
    have z := tups_sortable (prog := X.prog) (w := X.w) (A := X.A.in1.in1) (s := { s with heap := h₁ }) (a := a) (vs := its) (by omega) (fun v hm => by
      obtain ⟨x, r, t⟩ := hS v hm
      exact ⟨x, r, t.keep kp⟩) (fun o e => by
      have e' : some o = some (seqObj "list" its.toArray 0) := e.symm.trans ha
      cases e'
      intro c
      exact absurd (Value.type.inj c) (by decide))
    intro h' keep
    obtain ⟨κ, z1, z2⟩ := z h' keep
    refine ⟨κ, z1, fun p q hm hm' => ?_⟩
    have z3 := z2 p q hm hm'
    have e4 : SrtO.lt2 (fun v u => lexS (keyT s.heap v) (keyT s.heap u)) p q = SrtO.lt2 (fun v u => lexS (keyT h₁ v) (keyT h₁ u)) p q := by
      show lexS (keyT s.heap p.1) (keyT s.heap q.1) = lexS (keyT h₁ p.1) (keyT h₁ q.1)
      rw [e3 _ hm, e3 _ hm']
    rw [e4]
    exact z3
  · obtain ⟨e', he⟩ := PyProof.Rows.sortedAll_at s.heap its out.toArray
    have hm : ∀ u ∈ out, ∃ a, u = Value.ref a := fun u hu => by
      obtain ⟨k, _, _, z⟩ := e2 u (hb.perm.mem_iff.mp hu)
      exact z
    have hz : (out.map backV).length ≤ sizeLine := by rw [List.length_map, hb.perm.length_eq, hl]; exact few
    have obj : ∀ H', ObjOk X.prog X.w H' _ _ (.lst (out.map backV)) := fun _ => ⟨hz, out, e', vals_back hm, he⟩
    have key := q (out.map fun u => (backV u, keyT s.heap u)) (s.heap.objs.size + 1) (by rw [← e1]; exact hb.perm.map _) (List.pairwise_map.mpr hs) (I.hok.fresh (Nat.le_succ _))
    rw [List.map_map] at key
    exact ⟨.ref _, upd H (s.heap.objs.size + 1) (.lst (out.map backV)), I.laid (t' := s.toks) (fun _ _ => PyProof.Rows.sortedAll_old) (Nat.le_succ _) (obj _), rfl, key⟩
end
end Z

/-! ### Z5d -/
/-! Z5d: built-in calls. -/
namespace Z
open PySem PySem.Spec PyProof.Rows L2
/-! ### lists of tuples of texts -/
def tsD (k : List Str) : D := .tup (k.map D.str)
def tupsOf : List D → Option (List (List Str))
  | [] => some []
  | .tup ds :: r => match strsOf ds, tupsOf r with
    | some k, some ks => some (k :: ks)
    | _, _ => none
  | _ :: _ => none
theorem tupsOf_map : ∀ ks : List (List Str), tupsOf (ks.map tsD) = some ks
  | [] => rfl
  | k :: ks => by
    show (match strsOf (k.map D.str), tupsOf (ks.map tsD) with
      | some k, some ks => some (k :: ks)
      | _, _ => none) = _
    rw [strsOf_map, tupsOf_map ks]
theorem tupsOf_eq : ∀ {ds : List D} {ks : List (List Str)}, tupsOf ds = some ks → ds = ks.map tsD
  | [], ks, h => by unfold tupsOf at h; cases h; rfl
  | d :: r, ks, h => by
    cases d with
    | tup ds =>
      have h' : (match strsOf ds, tupsOf r with
        | some k, some ks => some (k :: ks)
        | _, _ => none) = some ks := h
      cases e1 : strsOf ds with
      | none => rw [e1] at h'; cases h'
      | some k => cases e2 : tupsOf r with
        | none => rw [e1, e2] at h'; cases h'
        | some q =>
          rw [e1, e2] at h'
          cases h'
          rw [List.map_cons, ← tupsOf_eq e2, tsD, ← strsOf_eq e1]
    | _ => cases h
theorem tupsOf_paired {K : Frag} {H : Hp} {ds : List D} {ks : List (List Str)} {xs : List V} (h : tupsOf ds = some ks) (r : Reps K H ds xs) : Paired (IsTS K H) xs ks := by
  rw [tupsOf_eq h] at r
  clear h
  induction ks generalizing xs with
  | nil => rw [reps_nil.mp r]; exact .nil
  | cons k ks ih =>
    obtain ⟨v, vs, rfl, q, rs⟩ := reps_cons.mp r
    obtain ⟨a, zs, rfl, t, hr⟩ := rep_tup.mp q
    obtain rfl := Reps.strs.mp hr
    exact .cons ⟨a, rfl, t⟩ (ih rs)
theorem paired_zip {K : Frag} {H : Hp} {xs : List V} {ks : List (List Str)} (p : Paired (IsTS K H) xs ks) : ∀ q ∈ xs.zip ks, IsTS K H q.1 q.2 := by
  induction p with
  | nil => intro q hq; cases hq
  | cons h _ ih =>
    intro q hq
    rw [List.zip_cons_cons] at hq
    rcases List.mem_cons.mp hq with rfl | hq
    · exact h
    · exact ih q hq
theorem reps_ts {K : Frag} {H : Hp} : ∀ {out : List (V × List Str)}, (∀ q ∈ out, IsTS K H q.1 q.2) → Reps K H (out.map (tsD ∘ fun x => x.2)) (out.map (·.1))
  | [], _ => reps_nil.mpr rfl
  | q :: out, h => by
    obtain ⟨a, e, t⟩ := h q List.mem_cons_self
    refine reps_cons.mpr ⟨q.1, out.map (·.1), rfl, ?_, reps_ts fun p hp => h p (List.mem_cons_of_mem _ hp)⟩
    exact rep_tup.mpr ⟨a, q.2.map V.str, e, t, Reps.strs.mpr rfl⟩
/-! ### built-in calls -/
inductive BF where
  | len | abs | max | min | sum | sorted | all | any | isinstance | str | int | tuple | list | dict
def BF.name : BF → Str
  | .len => "len" | .abs => "abs" | .max => "max" | .min => "min" | .sum => "sum" | .sorted => "sorted" | .all => "all" | .any => "any" | .isinstance => "isinstance"
  | .str => "str" | .int => "int" | .tuple => "tuple" | .list => "list" | .dict => "dict"
def BF.val : BF → Value
  | .len => .builtin "len" | .abs => .builtin "abs" | .max => .builtin "max" | .min => .builtin "min" | .sum => .builtin "sum" | .sorted => .builtin "sorted" | .all => .builtin "all" | .any => .builtin "any"
  | .isinstance => .builtin "isinstance" | .str => .type "str" | .int => .type "int" | .tuple => .type "tuple" | .list => .type "list" | .dict => .type "dict"
def tyName (d : D) (S : Sto) : Option String := match d with
  | .non => some "NoneType" | .bl _ => some "bool" | .int _ => some "int" | .str _ => some "str" | .tup _ => some "tuple"
  | .ref a => match S a with
    | some (.lst _) => some "list"
    | some (.dic _) => some "dict"
    | _ => none
  | .ty _ => none
  | .scr _ => none
/-- isinstance of built-in types -/
def isT (a b : String) : Bool := decide (a = b) || (decide (a = "bool") && decide (b = "int"))
def strKeys : List (Key × D) → Option (List Str)
  | [] => some []
  | (.inr x, _) :: r => (strKeys r).map (x :: ·)
  | _ :: _ => none
def bfW : BF → WC
  | .len, [d], S, Q => match d with
    | .tup ds => Q (.int ds.length) S
    | .str x => x.length ≤ sizeLine ∧ Q (.int x.length) S
    | .ref a => match S a with
      | some (.lst ds) => Q (.int ds.length) S
      | some (.dic kvs) => Q (.int kvs.length) S
      | _ => False
    | _ => False
  | .abs, [d], S, Q => match d with
    | .int i => Q (.int (if i < 0 then -i else i)) S
    | _ => False
  | .max, [d, e], S, Q => match d, e with
    | .int i, .int j => Q (.int (if j > i then j else i)) S
    | _, _ => False
  | .min, [d, e], S, Q => match d, e with
    | .int i, .int j => Q (.int (if j < i then j else i)) S
    | _, _ => False
  | .sum, [d], S, Q => match itemsL S d with
    | some ds => match intsOf ds with
      | some ns => Q (.int ns.sum) S
      | none => False
    | none => False
  | .all, [d], S, Q => match itemsL S d with
    | some ds => match blsOf ds with
      | some bs => Q (.bl (bs.all id)) S
      | none => False
    | none => False
  | .any, [d], S, Q => match itemsL S d with
    | some ds => match blsOf ds with
      | some bs => Q (.bl (bs.any id)) S
      | none => False
    | none => False
  | .sorted, [d], S, Q => match d with
    | .ref a => match S a with
      | some (.dic kvs) => match strKeys kvs with
        | some ks => ks.length ≤ sizeLine ∧ ∀ p, S p = none → Q (.ref p) (up S p (.lst ((sortStr ks).map D.str)))
        | none => False
      | some (.lst ds) => match strsOf ds with
        | some ks => ks.length ≤ sizeLine ∧ ∀ p, S p = none → Q (.ref p) (up S p (.lst ((sortStr ks).map D.str)))
        | none => match tupsOf ds with
          | some ks => (ks.length ≤ sizeLine ∧ ∀ k ∈ ks, k ≠ []) ∧ ∀ out : List (List Str), out.Perm ks → (out.Pairwise fun x y => lexS y x = false) → ∀ p, S p = none → Q (.ref p) (up S p (.lst (out.map tsD)))
          | none => False
      | _ => False
    | _ => False
  | .isinstance, [d, e], S, Q => match e with
    | .ty T => match tyName d S with
      | some t => T ∈ ["int", "str", "bool", "tuple", "list", "dict"] ∧ Q (.bl (isT t T)) S
      | none => False
    | _ => False
  | .str, [d], S, Q => match d with
    | .int i => i.natAbs.log2 < 1920 ∧ Q (.str (toString i)) S
    | _ => False
  | .int, [d], S, Q => match d with
    | .int i => Q (.int i) S
    | .bl b => Q (.int (if b then 1 else 0)) S
    | _ => False
  | .tuple, [d], S, Q => match d with
    | .tup ds => Q (.tup ds) S
    | d => match itemsL S d with
      | some ds => Q (.tup ds) S
      | none => False
  | .list, [d], S, Q => match d with
    | .tup ds => ∀ p, S p = none → Q (.ref p) (up S p (.lst ds))
    | d => match itemsL S d with
      | some ds => ∀ p, S p = none → Q (.ref p) (up S p (.lst ds))
      | none => False
  | .dict, [d], S, Q => match d with
    | .ref a => match S a with
      | some (.dic kvs) => ∀ p, S p = none → Q (.ref p) (up S p (.dic kvs))
      | _ => False
    | _ => False
  | _, _, _, _ => False
theorem kit_isT {t T : String} (h1 : t ∈ ["NoneType", "bool", "int", "str", "tuple", "list", "dict"]) (h2 : T ∈ ["int", "str", "bool", "tuple", "list", "dict"]) : kitB t T = some (isT t T) := by
  have key : (["NoneType", "bool", "int", "str", "tuple", "list", "dict"].all fun t => ["int", "str", "bool", "tuple", "list", "dict"].all fun T => decide (kitB t T = some (isT t T))) = true := by decide +kernel
  exact of_decide_eq_true (List.all_eq_true.mp (List.all_eq_true.mp key t h1) T h2)
theorem tyX_of {K : Frag} {H : Hp} {S : Sto} (hs : StR K H S) {d : D} {v : V} {t : String} (r : Rep K H d v) (h : tyName d S = some t) : TyX K H v (.type t) ∧ t ∈ ["NoneType", "bool", "int", "str", "tuple", "list", "dict"] := by
  cases d with
  | non => cases h; rw [rep_non.mp r]; exact ⟨.base .non, by simp⟩
  | bl b => cases h; rw [rep_bl.mp r]; exact ⟨.base (.bl _), by simp⟩
  | int b => cases h; rw [rep_int.mp r]; exact ⟨.base (.int _), by simp⟩
  | str b => cases h; rw [rep_str.mp r]; exact ⟨.base (.str _), by simp⟩
  | ty _ => cases h
  | scr _ => cases h
  | tup ds =>
    cases h
    obtain ⟨a, xs, rfl, t, rs⟩ := rep_tup.mp r
    refine ⟨?_, by simp⟩
    rcases t with (t | ⟨o, t⟩) | ⟨o, its, n, h1, h2, _⟩
    · exact .base (.tup t)
    · exact .fTuple t
    · exact .kTuple h1 h2
  | ref a =>
    rw [rep_ref.mp r]
    simp only [tyName] at h
    split at h
    · rename_i ha
      cases h
      obtain ⟨xs, h, hr⟩ := hs _ _ ha
      exact ⟨.base (.lst h), by simp⟩
    · rename_i ha
      cases h
      obtain ⟨xs, h, hr⟩ := hs _ _ ha
      exact ⟨.base (.dK h), by simp⟩
    · cases h
theorem strKeys_eq : ∀ {kvs : List (Key × D)} {ks : List Str}, strKeys kvs = some ks → kvs.map (·.1) = ks.map Sum.inr
  | [], ks, h => by unfold strKeys at h; cases h; rfl
  | (.inr x, d) :: r, ks, h => by
    unfold strKeys at h
    cases e : strKeys r with
    | none => rw [e] at h; cases h
    | some r' => rw [e] at h; cases h; rw [List.map_cons, strKeys_eq e] <;> rfl
  | (.inl x, d) :: r, ks, h => by cases h
theorem reps1 {K : Frag} {H : Hp} {d : D} {xs : List V} (r : Reps K H [d] xs) : ∃ v, xs = [v] ∧ Rep K H d v := by
  obtain ⟨v, vs, rfl, q, rs⟩ := reps_cons.mp r
  rw [reps_nil.mp rs]
  exact ⟨v, rfl, q⟩
theorem reps2 {K : Frag} {H : Hp} {d e : D} {xs : List V} (r : Reps K H [d, e] xs) : ∃ v u, xs = [v, u] ∧ Rep K H d v ∧ Rep K H e u := by
  obtain ⟨v, vs, rfl, q, rs⟩ := reps_cons.mp r
  obtain ⟨u, rfl, q2⟩ := reps1 rs
  exact ⟨v, u, rfl, q, q2⟩
section
variable {X : Cx}
theorem bfz (hc : X.calm = true) (b : BF) : CallR X b.val (liftC X.K (bfW b)) := by
  intro pins s σ H xs us Q I rx ⟨ds, S, Q', rd, hs, w, f⟩
  unfold bfW at w
  split at w
  · -- len
    obtain ⟨v, rfl, r⟩ := reps1 rd
    split at w
    · obtain ⟨a, xs, rfl, t, hr⟩ := rep_tup.mp r
      refine call_len pins s σ H _ us Q I rx ⟨_, xs.length, rfl, .inr ⟨xs, t, rfl⟩, ?_⟩
      rw [hr.length]; exact f.int hs w
    · obtain rfl := rep_str.mp r
      exact call_len pins s σ H _ us Q I rx ⟨_, _, rfl, ⟨w.1, rfl⟩, f.int hs w.2⟩
    · obtain rfl := rep_ref.mp r
      split at w
      · rename_i ha
        obtain ⟨xs, h, hr⟩ := hs _ _ ha
        refine call_len pins s σ H _ us Q I rx ⟨_, xs.length, rfl, .inl ⟨xs, .inl (.inl h), rfl⟩, ?_⟩
        rw [hr.length]; exact f.int hs w
      · rename_i ha
        obtain ⟨xs, h, hr⟩ := hs _ _ ha
        refine call_lenD pins s σ H _ us Q I rx ⟨_, xs, rfl, h, ?_⟩
        rw [hr.length]; exact f.int hs w
      · exact w.elim
    · exact w.elim
  · -- abs
    obtain ⟨v, rfl, r⟩ := reps1 rd
    split at w
    · obtain rfl := rep_int.mp r
      exact call_abs pins s σ H _ us Q I rx ⟨_, rfl, f.int hs w⟩
    · exact w.elim
  · -- max
    obtain ⟨v, u, rfl, r, r2⟩ := reps2 rd
    split at w
    · obtain rfl := rep_int.mp r
      obtain rfl := rep_int.mp r2
      exact call_max2 hc pins s σ H _ us Q I rx ⟨_, _, rfl, f.int hs w⟩
    · exact w.elim
  · obtain ⟨v, u, rfl, r, r2⟩ := reps2 rd
    split at w
    · obtain rfl := rep_int.mp r
      obtain rfl := rep_int.mp r2
      exact call_min2 hc pins s σ H _ us Q I rx ⟨_, _, rfl, f.int hs w⟩
    · exact w.elim
  · -- sum
    obtain ⟨v, rfl, r⟩ := reps1 rd
    split at w
    · rename_i hi
      obtain ⟨a, xs, rfl, hl, hr⟩ := itemsL_ok hs r hi
      split at w
      · rename_i hn
        rw [intsOf_eq hn] at hr
        obtain rfl := Reps.ints.mp hr
        exact cr_sum hc pins s σ H _ us Q I rx ⟨a, _, rfl, hl, f.int hs w⟩
      · exact w.elim
    · exact w.elim
  · -- all
    obtain ⟨v, rfl, r⟩ := reps1 rd
    split at w
    · rename_i hi
      obtain ⟨a, xs, rfl, hl, hr⟩ := itemsL_ok hs r hi
      split at w
      · rename_i hn
        rw [blsOf_eq hn] at hr
        obtain rfl := Reps.bls.mp hr
        exact cr_all hc pins s σ H _ us Q I rx ⟨a, _, rfl, hl, f.bl hs w⟩
      · exact w.elim
    · exact w.elim
  · obtain ⟨v, rfl, r⟩ := reps1 rd
    split at w
    · rename_i hi
      obtain ⟨a, xs, rfl, hl, hr⟩ := itemsL_ok hs r hi
      split at w
      · rename_i hn
        rw [blsOf_eq hn] at hr
        obtain rfl := Reps.bls.mp hr
        exact cr_any hc pins s σ H _ us Q I rx ⟨a, _, rfl, hl, f.bl hs w⟩
      · exact w.elim
    · exact w.elim
  · -- sorted
    obtain ⟨v, rfl, r⟩ := reps1 rd
    split at w
    · obtain rfl := rep_ref.mp r
      split at w
      · rename_i ha
        obtain ⟨xs, h, hr⟩ := hs _ _ ha
        split at w
        · rename_i ks hk
          refine dsort_any hc pins s σ H _ us Q I rx ⟨_, xs, ks, rfl, .inl h, by rw [← hr.keys]; exact strKeys_eq hk, w.1, fun ys p hp hy hf => ?_⟩
          rw [sortStr_unique hp hy]
          exact f.lst hs (Reps.strs.mpr rfl) w.2 hf
        · exact w.elim
      · rename_i ha
        obtain ⟨xs, h, hr⟩ := hs _ _ ha
        split at w
        · rename_i ks hk
          rw [strsOf_eq hk] at hr
          obtain rfl := Reps.strs.mp hr
          refine lsort_any pins s σ H _ us Q I rx ⟨_, ks, rfl, .inl (.inl h), w.1, fun ys p hp hy hf => ?_⟩
          rw [sortStr_unique hp hy]
          exact f.lst hs (Reps.strs.mpr rfl) w.2 hf
        · split at w
          · rename_i ks hk
            have pr := tupsOf_paired hk hr
            refine lsort_tup pins s σ H _ us Q I rx ⟨_, xs, ks, rfl, .inl (.inl h), pr, w.1.2, by rw [pr.length]; exact w.1.1, fun out p hp hy hf => ?_⟩
            have e1 : (xs.zip ks).map (·.2) = ks := List.map_snd_zip (by rw [pr.length]; exact Nat.le_refl _)
            have key := w.2 (out.map (·.2)) (by rw [← e1]; exact hp.map _) (List.pairwise_map.mpr hy)
            rw [List.map_map] at key
            exact f.lst hs (reps_ts fun q hq => paired_zip pr q (hp.mem_iff.mp hq)) key hf
          · exact w.elim
      · exact w.elim
    · exact w.elim
  · -- isinstance
    obtain ⟨v, u, rfl, r, r2⟩ := reps2 rd
    split at w
    · obtain rfl := rep_ty.mp r2
      split at w
      · rename_i ht
        obtain ⟨h1, h2⟩ := tyX_of hs r ht
        exact call_isi pins s σ H _ us Q I rx ⟨v, _, _, _, _, rfl, .ty _, h1, kit_ty (kit_isT h2 w.1), f.bl hs w.2⟩
      · exact w.elim
    · exact w.elim
  · -- str
    obtain ⟨v, rfl, r⟩ := reps1 rd
    split at w
    · obtain rfl := rep_int.mp r
      exact call_str_int pins s σ H _ us Q I rx ⟨_, rfl, w.1, f.str hs w.2⟩
    · exact w.elim
  · -- int
    obtain ⟨v, rfl, r⟩ := reps1 rd
    split at w
    · obtain rfl := rep_int.mp r
      exact call_int1 pins s σ H _ us Q I rx (.inl ⟨_, rfl, f.int hs w⟩)
    · obtain rfl := rep_bl.mp r
      exact call_int1 pins s σ H _ us Q I rx (.inr ⟨_, rfl, f.int hs w⟩)
    · exact w.elim
  · -- tuple
    obtain ⟨v, rfl, r⟩ := reps1 rd
    split at w
    · obtain ⟨a, xs, rfl, t, hr⟩ := rep_tup.mp r
      exact call_tupleT pins s σ H _ us Q I rx ⟨a, xs, rfl, t, f.val hs r w⟩
    · split at w
      · rename_i hi
        obtain ⟨a, xs, rfl, hl, hr⟩ := itemsL_ok hs r hi
        exact call_tuple_of pins s σ H _ us Q I rx ⟨a, xs, rfl, .inl ⟨hl, fun p hp => f.tup hs hr w hp⟩⟩
      · exact w.elim
  · -- list
    obtain ⟨v, rfl, r⟩ := reps1 rd
    split at w
    · obtain ⟨a, xs, rfl, t, hr⟩ := rep_tup.mp r
      exact call_list_of pins s σ H _ us Q I rx ⟨a, xs, rfl, .inr t, fun p hp => f.lst hs hr w hp⟩
    · split at w
      · rename_i hi
        obtain ⟨a, xs, rfl, hl, hr⟩ := itemsL_ok hs r hi
        exact call_list_of pins s σ H _ us Q I rx ⟨a, xs, rfl, .inl hl, fun p hp => f.lst hs hr w hp⟩
      · exact w.elim
  · -- dict
    obtain ⟨v, rfl, r⟩ := reps1 rd
    split at w
    · obtain rfl := rep_ref.mp r
      split at w
      · rename_i ha
        obtain ⟨xs, h, hr⟩ := hs _ _ ha
        refine call_dictD pins s σ H _ us Q I rx ⟨_, xs, rfl, .inl h, fun p hp => ?_⟩
        exact f.new (u := .dic _) hs hp ⟨xs, upd_same, hr.mono (tupLe_new hp)⟩ (w p (hs.fresh hp))
      · exact w.elim
    · exact w.elim
  · exact w.elim
end
end Z

/-! ### Z5f -/
/-! Z5f: a set of tuples of texts: what lies in it, and looking for a tuple. -/
namespace Z
open PySem PySem.Spec PyProof.Rows L2
abbrev IsK (P : Program) (w : World) (h : Heap) (k : List Str) (b : Addr) : Prop := IsTupleKey (PySem.strKind P w) h k b
abbrev hashK (P : Program) (w : World) (k : List Str) : Int := tupleKeyHash (PySem.strKind P w) k
section
variable {P : Program} {w : World} {A : Around} {E : Value → Shared → Prop} {s : Shared}
theorem texts_only {k : List Str} {vs : List Value} (h : ItemsAre (PySem.strKind P w) k vs) : ∀ v ∈ vs, ∃ x t, v = Value.str x t := by
  induction h with
  | nil => exact fun v hv => nomatch hv
  | cons h1 _ ih =>
    refine fun v hv => (List.mem_cons.mp hv).elim (fun e => ?_) (ih v)
    obtain ⟨t, e2⟩ := Value.isStrOf_shape h1
    exact ⟨_, t, e.trans e2⟩
theorem cls_text (n : Nat) (x : Str) (t : Tok) : ofAClassStatement n (.str x t) = pure false := by
  cases n <;> rfl
theorem byv_text (n : Nat) (x : Str) (t : Tok) : hashByValue n (.str x t) = pure false := by
  cases n <;> rfl
/-- a question put to each item in turn, which no text stops -/
theorem each_text {α : Type} {r0 : α} {Q : α → Shared → Prop} {f : Value → α → Sem (ForInStep α)} (hf : ∀ x t, f (.str x t) r0 = pure (.yield r0)) : ∀ (vs : List Value), (∀ v ∈ vs, ∃ x t, v = Value.str x t) → Q r0 s → wpAny (model P w) A (forIn vs r0 f) Q E s
  | [], _, h => by rw [List.forIn_nil]; exact wpAny_pure h
  | v :: vs, hv, h => by
    obtain ⟨x, t, rfl⟩ := hv v List.mem_cons_self
    rw [List.forIn_cons, hf]
    exact wpAny_bind (wpAny_pure (each_text hf vs (fun u hu => hv u (List.mem_cons_of_mem _ hu)) h))
theorem cls_tuple {k : List Str} {b : Addr} {Q : Bool → Shared → Prop} (hk : IsK P w s.heap k b) (h : Q false s) : wpAny (model P w) A (ofAClassStatement 8 (.ref b)) Q E s := by
  have hT := hk.typeIs
  obtain ⟨o, items, n, ho, _, hd, hi⟩ := hk
  unfold ofAClassStatement
  refine wpAny_bind (wpAny_typeOf hT ?_)
  dsimp only
  simp only [show (("tuple" : String) == "tuple") = true from by decide, if_true, Bool.not_true, Bool.false_eq_true, if_false]
  try refine wpAny_bind (wpAny_pure ?_)
  try simp only [Bool.not_true, Bool.false_eq_true, if_false]
  show wpAny _ _ (seqItems? (.ref b) >>= _) _ _ s
  refine wpAny_bind (wpAny_seqItems ho hd ?_)
  dsimp only
  refine wpAny_bind ?_
  show wpAny _ _ (forIn items _ _) _ _ s
  rw [← Array.forIn_toList]
  refine each_text (fun x t => by rw [cls_text]; rfl) _ (texts_only hi) ?_
  exact wpAny_pure h
/-- whether the hash is of the value alone: answered, and nothing is done -/
theorem byv_tuple {k : List Str} {b : Addr} {Q : Bool → Shared → Prop} (hk : IsK P w s.heap k b) (h : ∀ r, Q r s) : wpAny (model P w) A (hashByValue 8 (.ref b)) Q E s := by
  have hT := hk.typeIs
  obtain ⟨o, items, n, ho, _, hd, hi⟩ := hk
  unfold hashByValue
  refine wpAny_bind (wpAny_specialOf hT F.slot_tuple_hash.lookup ?_)
  show wpAny _ _ (seqItems? (.ref b) >>= _) _ _ s
  refine wpAny_bind (wpAny_seqItems ho hd ?_)
  refine wpAny_bind ?_
  show wpAny _ _ (forIn items _ _) _ _ s
  rw [← Array.forIn_toList]
  have only := texts_only hi
  generalize items.toList = vs at only
  cases vs with
  | nil => rw [List.forIn_nil]; exact wpAny_pure (wpAny_pure (h _))
  | cons v vs =>
    obtain ⟨x, t, rfl⟩ := only v List.mem_cons_self
    rw [List.forIn_cons, byv_text]
    refine wpAny_bind (wpAny_bind (wpAny_pure ?_))
    simp only [Bool.not_false, if_true]
    exact wpAny_pure (wpAny_pure (wpAny_pure (h _)))
/-- looking for a tuple among tuples shows nothing -/
theorem unseen {k : List Str} {b : Addr} {Q : Bool → Shared → Prop} (hk : IsK P w s.heap k b) (h : Q false s) : ∀ {ys : List Value}, (∀ y ∈ ys, ∃ k' c, y = Value.ref c ∧ IsK P w s.heap k' c) →
    wpAny (model P w) A (searchCouldBeSeen (.ref b) ys) Q E s := by
  intro ys hy
  unfold searchCouldBeSeen
  refine wpAny_bind ?_
  suffices key : ∀ (zs : List Value), (∀ y ∈ zs, ∃ k' c, y = Value.ref c ∧ IsK P w s.heap k' c) → ∀ R : Option Bool × Unit → Shared → Prop, R (none, ()) s → wpAny (model P w) A (forIn zs ((none, ()) : Option Bool × Unit) _) R E s from key ys hy _ (wpAny_pure h)
  intro zs
  induction zs with
  | nil => intro _ R hR; rw [List.forIn_nil]; exact wpAny_pure hR
  | cons z zs ih =>
    intro hz R hR
    obtain ⟨k', c, rfl, hc⟩ := hz z List.mem_cons_self
    have more := ih (fun y m => hz y (List.mem_cons_of_mem _ m)) R hR
    rw [List.forIn_cons]
    refine wpAny_bind ?_
    dsimp only
    by_cases hv : (b == c || (carriedByValue (.ref b) && carriedByValue (.ref c))) = true
    · exact wp_if_pos hv (wpAny_pure more)
    · refine wp_if_neg hv ?_
      refine wpAny_bind (wpAny_eqIsQuiet_tuple hk ?_)
      simp only [Bool.not_true, Bool.false_eq_true, if_false]
      refine wpAny_bind (wpAny_eqIsQuiet_tuple hc ?_)
      simp only [Bool.not_true, Bool.false_eq_true, if_false]
      refine wpAny_bind (cls_tuple hk ?_)
      simp only [Bool.false_eq_true, if_false]
      refine wpAny_bind (cls_tuple hc ?_)
      simp only [Bool.false_eq_true, if_false]
      exact wpAny_pure more
end
end Z

/-! ### Z5g -/
/-! Z5g: looking for a tuple of texts in a set of such. -/
namespace Z
open PySem PySem.Spec PyProof.Rows L2
/-- where a search for the hash stands after c steps -/
abbrev pr (m : Nat) (h : Int) (c : Nat) : SetTable.Probe := nth m (runAt m (SetTable.bits h % (m + 1)) (SetTable.bits h)) c
theorem pr_add (m : Nat) (h : Int) (c q : Nat) : nth m (pr m h c) q = pr m h (c + q) := (nth_add m c _ q).symm
theorem nth_dummy (m : Nat) : ∀ (n : Nat) (p : SetTable.Probe), p.dummy = none → (nth m p n).dummy = none
  | 0, _, h => h
  | n + 1, p, h => nth_dummy m n (adv m p) (by unfold adv; split <;> exact h)
/-- a probe from the c-th step on: the first of that hash ahead of the first empty slot, or that slot -/
theorem probe_at {t : SetTable} (r : Ris t.place.toList) (hd : t.dummies = #[]) (ha : Nat → Int) (h : Int) {K c : Nat} (hc : c ≤ K) (hf : K < 10 * SetTable.turns t.mask)
    (hb : ∀ q, q < K → way t.mask h q ∈ t.place.toList) (hK : way t.mask h K ∉ t.place.toList) :
    (∃ q i, c ≤ q ∧ q < K ∧ t.place.toList[i]? = some (way t.mask h q) ∧ ha i = h ∧ (∀ q' i', c ≤ q' → q' < q → t.place.toList[i']? = some (way t.mask h q') → ha i' ≠ h) ∧
      t.probe ha h (pr t.mask h c) = some (.candidate (way t.mask h q) i (pr t.mask h (q + 1)))) ∨
    ((∀ q' i', c ≤ q' → q' < K → t.place.toList[i']? = some (way t.mask h q') → ha i' ≠ h) ∧ t.probe ha h (pr t.mask h c) = some (.empty (way t.mask h K) none)) := by
  have e : ∀ q, (nth t.mask (pr t.mask h c) q).j = way t.mask h (c + q) := fun q => congrArg SetTable.Probe.j (pr_add t.mask h c q)
  rcases go_spec t r hd ha h (10 * SetTable.turns t.mask) (K - c) (pr t.mask h c) (nth_dummy _ _ _ rfl) (by omega) (fun q hq => by rw [e]; exact hb _ (by omega)) (by rw [e, show c + (K - c) = K by omega]; exact hK) with ⟨q, i, h1, h2, h3, h4, h5⟩ | ⟨h1, h2⟩
  · refine .inl ⟨c + q, i, by omega, by omega, by rw [h2, e], h3, fun q' i' a1 a2 a3 => h4 (q' - c) i' (by omega) (by rw [e, show c + (q' - c) = q' by omega]; exact a3), ?_⟩
    have z : t.probe ha h (pr t.mask h c) = some (.candidate (nth t.mask (pr t.mask h c) q).j i (nth t.mask (pr t.mask h c) (q + 1))) := h5
    rw [z, e, pr_add] <;> rfl
  · refine .inr ⟨fun q' i' a1 a2 a3 => h1 (q' - c) i' (by omega) (by rw [e, show c + (q' - c) = q' by omega]; exact a3), ?_⟩
    have z : t.probe ha h (pr t.mask h c) = some (.empty (nth t.mask (pr t.mask h c) (K - c)).j none) := h2
    rw [z, e, show c + (K - c) = K by omega]
/-- the set at a: its tuples and their texts, in the order of their slots -/
structure Bag (P : Program) (w : World) (h : Heap) (a : Addr) (L : List (Addr × List Str)) (es : Array (Int × Value)) (ep : Nat) (t : SetTable) : Prop where
  obj : ∃ o, h.get? a = some o ∧ o.ExactSet ∧ o.data = .set es ep t
  cells : es.toList = L.map fun p => (hashK P w p.2, Value.ref p.1)
  tab : TabOk t (L.map fun p => hashK P w p.2)
  once : (L.map (·.2)).Nodup
  mem : ∀ p ∈ L, IsK P w h p.2 p.1
  led : w.params.followText "set-order" = true ∨ t.led = true
  fill : L.length * 5 < t.mask * 3
  few : L.length < 64
section
variable {P : Program} {w : World} {A : Around} {E : Value → Shared → Prop} {s : Shared} {a : Addr} {L : List (Addr × List Str)} {es : Array (Int × Value)} {ep : Nat} {t : SetTable}
theorem Bag.size {h : Heap} (R : Bag P w h a L es ep t) : es.size = L.length := by
  rw [← Array.length_toList, R.cells, List.length_map]
theorem Bag.place {h : Heap} (R : Bag P w h a L es ep t) : t.place.toList.length = L.length := by
  have := R.tab.sz
  rw [List.length_map] at this
  rw [Array.length_toList, this]
theorem Bag.cell {h : Heap} (R : Bag P w h a L es ep t) {i : Nat} {p : Addr × List Str} (e : L[i]? = some p) : es[i]? = some (hashK P w p.2, Value.ref p.1) := by
  rw [← Array.getElem?_toList, R.cells, List.getElem?_map, e] <;> rfl
theorem fits_of {n : Nat} (hd : t.dummies = #[]) (h1 : t.place.size = n) (h2 : n ≤ t.mask) : t.fits n = true := by
  unfold SetTable.fits SetTable.fill
  rw [hd, Bool.and_eq_true, beq_iff_eq, decide_eq_true_eq]
  exact ⟨h1, by show t.place.size + 0 ≤ t.mask; omega⟩
theorem Bag.fits {h : Heap} (R : Bag P w h a L es ep t) : t.fits es.size = true :=
  fits_of R.tab.dm (by rw [R.size, ← R.place, Array.length_toList]) (by have := R.fill; rw [R.size]; omega)
abbrev hashAt (es : Array (Int × Value)) (i : Nat) : Int := (es[i]?.map (·.1)).getD 0
theorem Bag.hash {h : Heap} (R : Bag P w h a L es ep t) {i : Nat} {p : Addr × List Str} (e : L[i]? = some p) : hashAt es i = hashK P w p.2 := by
  unfold hashAt
  rw [R.cell e] <;> rfl
/-- looking on from the c-th step: no tuple of these texts was passed so far -/
theorem seek_on (R : Bag P w s.heap a L es ep t) {x : Addr} {k : List Str} (hx : IsK P w s.heap k x) (hu : A.units < cLine) {K : Nat} (hf : K < 10 * SetTable.turns t.mask)
    (hK : way t.mask (hashK P w k) K ∉ t.place.toList) (hb : ∀ c, c < K → way t.mask (hashK P w k) c ∈ t.place.toList) {Q : SetFound → Shared → Prop}
    (hin : k ∈ L.map (·.2) → Q (.there none) s) (hout : k ∉ L.map (·.2) → Q (.free (way t.mask (hashK P w k) K) false) s) (d : Nat) :
    ∀ (c f : Nat) (stand : Option SetTable.Probe), c + d = K → d < f → stand.getD (t.probeStart (hashK P w k)) = pr t.mask (hashK P w k) c →
      (∀ (i : Nat) p, L[i]? = some p → p.2 = k → ∃ q, c ≤ q ∧ q < K ∧ t.place.toList[i]? = some (way t.mask (hashK P w k) q)) →
      wpAny (model P w) A (setSearchFrom a (.ref x) (hashK P w k) true f stand) Q E s := by
  induction d using Nat.strongRecOn with
  | ind d ih =>
  intro c f stand hc hdf hst hleft
  obtain ⟨f, rfl⟩ : ∃ g, f = g + 1 := ⟨f - 1, by omega⟩
  obtain ⟨o, ho, hex, hdt⟩ := R.obj
  have gw : ¬ t.gaveWay = true := by
    unfold SetTable.gaveWay
    rw [mask_odd R.tab.mok]
    decide
  rw [setSearchFrom_succ]
  refine wpAny_bind (wpAny_setState_of ho hdt R.fits ?_)
  dsimp only
  refine wp_if_neg gw ?_
  try refine wpAny_bind (wpAny_pure ?_)
  rcases probe_at R.tab.ris R.tab.dm (hashAt es) (hashK P w k) (c := c) (by omega) hf hb hK with ⟨q, i, q1, q2, q3, q4, q5, q6⟩ | ⟨q5, q6⟩
  · have q6' : t.probe (fun i => (es[i]?.map (·.1)).getD 0) (hashK P w k) (stand.getD (t.probeStart (hashK P w k))) = some (.candidate (way t.mask (hashK P w k) q) i (pr t.mask (hashK P w k) (q + 1))) := by rw [hst]; exact q6
    rw [q6']
    dsimp only
    obtain ⟨p, hp⟩ : ∃ p, L[i]? = some p := by
      have h1 : i < t.place.toList.length := (List.getElem?_eq_some_iff.mp q3).1
      rw [R.place] at h1
      exact ⟨_, List.getElem?_eq_getElem h1⟩
    have hm : p ∈ L := List.mem_of_getElem? hp
    have live : t.slot (way t.mask (hashK P w k) q) = .live i := slot_live R.tab.ris q3
    have rest : wpAny (model P w) A (searchRest a (.ref x) (hashK P w k) true f es t (way t.mask (hashK P w k) q) i (pr t.mask (hashK P w k) (q + 1))) Q E s := by
      unfold searchRest
      rw [R.cell hp]
      dsimp only
      refine wpAny_bind (wpAny_holding (wpAny_eqBool_tuple hu (R.mem p hm) hx ?_))
      refine wpAny_bind (wpAny_setState_of ho hdt R.fits ?_)
      dsimp only
      by_cases same : p.2 = k
      · exact wp_if_pos (by simp [same]) (wpAny_pure (hin (List.mem_map.mpr ⟨p, hm, same⟩)))
      · refine wp_if_neg (by simp [same]) ?_
        try refine wpAny_bind (wpAny_pure ?_)
        rw [sameMem]
        dsimp only
        simp only [if_true, live, R.cell hp]
        refine wpAny_bind (wpAny_isSame_ref_self (wpAny_bind (wpAny_pure ?_)))
        simp only [if_true]
        refine wp_if_neg (by simp [same]) ?_
        refine ih (K - (q + 1)) (by omega) (q + 1) f _ (by omega) (by omega) rfl fun i0 p0 h0 hk0 => ?_
        obtain ⟨z, z1, z2, z3⟩ := hleft i0 p0 h0 hk0
        refine ⟨z, ?_, z2, z3⟩
        refine Classical.byContradiction fun hz => ?_
        rcases Nat.lt_or_ge z q with lt | ge
        · exact q5 z i0 z1 lt z3 ((R.hash h0).trans (congrArg (hashK P w) hk0))
        · have ez : z = q := by omega
          subst ez
          have s0 := slot_live R.tab.ris z3
          rw [live] at s0
          injection s0 with s0
          subst s0
          rw [hp] at h0
          cases h0
          exact same hk0
    by_cases hl : t.led = true
    · refine wp_if_neg (by simp [hl]) ?_
      try refine wpAny_bind (wpAny_pure ?_)
      exact rest
    · refine wp_if_pos (by simp [hl]) ?_
      refine wpAny_bind (unseen hx (wp_if_neg (by decide) ?_) fun y hy => ?_)
      · try refine wpAny_bind (wpAny_pure ?_)
        exact rest
      · obtain ⟨e, he, rfl⟩ := List.mem_map.mp hy
        have he2 : e ∈ es.toList := by
          have : e ∈ es ∧ e.1 = hashK P w k := by simpa using he
          simpa using this.1
        rw [R.cells] at he2
        obtain ⟨p2, hp2, rfl⟩ := List.mem_map.mp he2
        exact ⟨p2.2, p2.1, rfl, R.mem p2 hp2⟩
  · have q6' : t.probe (fun i => (es[i]?.map (·.1)).getD 0) (hashK P w k) (stand.getD (t.probeStart (hashK P w k))) = some (.empty (way t.mask (hashK P w k) K) none) := by rw [hst]; exact q6
    rw [q6']
    dsimp only
    refine wpAny_pure (hout fun hm => ?_)
    obtain ⟨p0, m0, e0⟩ := List.mem_map.mp hm
    obtain ⟨i0, hi0, g0⟩ := List.getElem_of_mem m0
    have h0 : L[i0]? = some p0 := by rw [List.getElem?_eq_getElem hi0, g0]
    obtain ⟨z, z1, z2, z3⟩ := hleft i0 p0 h0 e0
    exact q5 z i0 z1 z2 z3 ((R.hash h0).trans (congrArg (hashK P w) e0))
/-- looking for a tuple that is to be put in -/
theorem seek (R : Bag P w s.heap a L es ep t) {x : Addr} {k : List Str} (hx : IsK P w s.heap k x) (hu : A.units < cLine) {Q : SetFound → Shared → Prop}
    (hin : k ∈ L.map (·.2) → Q (.there none) s)
    (hout : ∀ K, k ∉ L.map (·.2) → way t.mask (hashK P w k) K ∉ t.place.toList → (∀ c, c < K → way t.mask (hashK P w k) c ∈ t.place.toList) → Q (.free (way t.mask (hashK P w k) K) false) s) :
    wpAny (model P w) A (setSearch a (.ref x) (hashK P w k) true) Q E s := by
  have hroom := R.fill
  obtain ⟨K, hf, hK, hb⟩ := R.tab.first (by rw [List.length_map]; omega) (hashK P w k)
  have small : 10 * SetTable.turns t.mask < 100000 := by
    unfold SetTable.turns
    rcases R.tab.mok with e | e | e <;> omega
  unfold setSearch
  refine seek_on R hx hu hf hK hb hin (fun hn => hout K hn hK hb) K 0 100000 none (Nat.zero_add _) (by omega) rfl fun i p hp hk => ?_
  have hi : (L.map fun p => hashK P w p.2)[i]? = some (hashK P w k) := by rw [List.getElem?_map, hp, ← hk] <;> rfl
  have hil : i < t.place.toList.length := by rw [R.place]; exact (List.getElem?_eq_some_iff.mp hp).1
  obtain ⟨c, hc, e⟩ := R.tab.before hK hi (List.getElem?_eq_getElem hil)
  exact ⟨c, Nat.zero_le _, hc, by rw [List.getElem?_eq_getElem hil, e]⟩
end
end Z

/-! ### Z5h -/
/-! Z5h: putting a tuple of texts into a set of such. -/
namespace Z
open PySem PySem.Spec PyProof.Rows L2
/-! ### a list taken in another order -/
theorem pick_all {α : Type} (L : List α) : (List.range L.length).filterMap (fun i => L[i]?) = L := by
  induction L with
  | nil => rfl
  | cons x L ih =>
    rw [List.length_cons, List.range_succ_eq_map, List.filterMap_cons_some (f := fun i => (x :: L)[i]?) (a := 0) (b := x) rfl, List.filterMap_map]
    exact congrArg (x :: ·) ih
theorem pick_perm {α : Type} {L : List α} {o : List Nat} (h : o.Perm (List.range L.length)) : (o.filterMap fun i => L[i]?).Perm L := by
  have z := h.filterMap fun i => L[i]?
  rw [pick_all] at z
  exact z
theorem pick_map {α β : Type} (f : α → β) (L : List α) (o : List Nat) : (o.filterMap fun i => (L.map f)[i]?) = (o.filterMap fun i => L[i]?).map f := by
  rw [List.map_filterMap]
  exact congrArg (fun g => List.filterMap g o) (funext fun i => List.getElem?_map)
theorem pick_get {α : Type} (f : α → Int) (L : List α) : ∀ (o : List Nat), (∀ i ∈ o, i < L.length) → ((o.filterMap fun i => L[i]?).map f) = o.map fun i => ((L.map f).toArray).getD i 0
  | [], _ => rfl
  | i :: o, h => by
    have hi := h i List.mem_cons_self
    rw [List.filterMap_cons_some (List.getElem?_eq_getElem hi), List.map_cons, List.map_cons, pick_get f L o fun j hj => h j (List.mem_cons_of_mem _ hj)]
    congr 1
    simp [Array.getD_eq_getD_getElem?, hi]
theorem ins_perm {α : Type} (L : List α) (n : Nat) (x : α) : (L.take n ++ x :: L.drop n).Perm (x :: L) := by
  have h : (L.take n ++ x :: L.drop n).Perm (x :: (L.take n ++ L.drop n)) := List.perm_middle
  rwa [List.take_append_drop] at h
section
variable {P : Program} {w : World} {A : Around} {E : Value → Shared → Prop} {s : Shared} {a : Addr} {L : List (Addr × List Str)} {es : Array (Int × Value)} {ep : Nat} {t : SetTable}
theorem isK_but {h h' : Heap} {k : List Str} {b : Addr} {o : Obj} (hb : IsK P w h k b) (ho : h.get? a = some o) (hd : o.data = .set es ep t) (hs : Heap.SameBut a h h') : IsK P w h' k b := by
  obtain ⟨u, items, n, hu, hc, hi, r⟩ := hb
  have hne : b ≠ a := fun e => by
    subst e
    rw [ho] at hu
    cases hu
    rw [hd] at hi
    cases hi
  exact ⟨u, items, n, (hs.2 b hne).trans hu, hc, hi, r⟩
/-- the table laid anew -/
theorem bag_relay {o : Obj} (ho : s.heap.get? a = some o) (hex : o.ExactSet) (hd : o.data = .set es ep t) (cells : es.toList = L.map fun p => (hashK P w p.2, Value.ref p.1)) (hfit : t.fits es.size = true)
    (once : (L.map (·.2)).Nodup) (mem : ∀ p ∈ L, IsK P w s.heap p.2 p.1) (led : w.params.followText "set-order" = true ∨ t.led = true) (few : L.length < 64) {wanted M : Nat}
    (hw : SetTable.sizeAbove wanted - 1 = M) (hM : MaskOk M) (hz : SetTable.sizeAbove wanted ≤ 128) (room : L.length * 5 < M * 3) {Q : Unit → Shared → Prop}
    (hQ : ∀ h' L' es' ep' t', Heap.SameBut a s.heap h' → Bag P w h' a L' es' ep' t' → L'.Perm L → Q () { s with heap := h' }) : wpAny (model P w) A (setRelay a wanted) Q E s := by
  have hn : es.size = L.length := by rw [← Array.length_toList, cells, List.length_map]
  have hh : es.map (·.1) = (L.map fun p => hashK P w p.2).toArray := by
    rw [← Array.toList_inj, Array.toList_map, cells, List.map_map]
    rfl
  obtain ⟨t', order, e, hp, T, em, el, ep', ed⟩ := relaid_ok t (hs := es.map (·.1)) (wanted := wanted) hw hM (by rw [Array.size_map, hn]; omega)
  rw [Array.size_map, hn] at hp
  have c2 : (order.filterMap (es[·]?)).toList = (order.toList.filterMap fun i => L[i]?).map fun p => (hashK P w p.2, Value.ref p.1) := by
    rw [← pick_map, ← cells, Array.toList_filterMap]
    exact congrArg (fun g => List.filterMap g order.toList) (funext fun i => Array.getElem?_toList.symm)
  have pm : (order.toList.filterMap fun i => L[i]?).Perm L := pick_perm hp
  rw [hh, ← pick_get (fun p : Addr × List Str => hashK P w p.2) L order.toList fun i hi => List.mem_range.mp (hp.mem_iff.mp hi)] at T
  generalize order.toList.filterMap (fun i => L[i]?) = L2 at c2 pm T
  have n2 : (order.filterMap (es[·]?)).size = es.size := by rw [← Array.length_toList, c2, List.length_map, pm.length_eq, hn]
  rw [setRelay_eq]
  refine wpAny_bind (wpAny_setState_of ho hd hfit ?_)
  dsimp only
  refine wp_if_neg (by rw [sizeLine_eq]; omega) ?_
  try refine wpAny_bind (wpAny_pure ?_)
  rw [e]
  dsimp only
  refine wpAny_bind ?_
  refine wp_if_neg (by rw [n2]; simp) ?_
  try refine wpAny_bind (wpAny_pure ?_)
  refine wpAny_pure ?_
  dsimp only
  refine wpAny_storeSet_of ho hd ?_ (by rw [n2, hn, sizeLine_eq]; omega)
  have sb : Heap.SameBut a s.heap (s.heap.update a (Obj.putSet (order.filterMap (es[·]?)) t')) := Heap.SameBut.update ..
  refine hQ _ L2 (order.filterMap (es[·]?)) (ep + 1) t' sb ⟨⟨_, store_at ho hd, ⟨hex.1, hex.2.1, hex.2.2⟩, rfl⟩, c2, T, (pm.map (·.2)).nodup_iff.mpr once, fun p hm => isK_but (mem p (pm.mem_iff.mp hm)) ho hd sb, ?_, ?_, ?_⟩ pm
  · rw [el]; exact led
  · rw [pm.length_eq, em]; exact room
  · rw [pm.length_eq]; exact few
/-- a tuple is put in, or lies in already -/
theorem bag_add (R : Bag P w s.heap a L es ep t) {x : Addr} {k : List Str} (hx : IsK P w s.heap k x) (hu : A.units < cLine) (room : L.length + 1 < 64) {Q : Bool → Shared → Prop}
    (hQ : ∀ b h' L' es' ep' t', Heap.SameBut a s.heap h' → Bag P w h' a L' es' ep' t' → (k ∈ L.map (·.2) → L' = L) → (k ∉ L.map (·.2) → L'.Perm ((x, k) :: L)) → Q b { s with heap := h' }) :
    wpAny (model P w) A (setAddHashed a (.ref x) (hashK P w k)) Q E s := by
  obtain ⟨o, ho, hex, hd⟩ := R.obj
  have hfill := R.fill
  unfold setAddHashed
  refine wpAny_holding ?_
  rw [show (100000 : Nat) = 99999 + 1 from rfl, setAddHashedIn_succ]
  refine wpAny_bind (wpAny_setState_of ho hd R.fits ?_)
  dsimp only
  refine wp_if_neg (by simp [byScan, Value.scannable]) ?_
  try refine wpAny_bind (wpAny_pure ?_)
  refine wpAny_bind (seek R hx hu (fun hm => ?_) fun K hm hK hb => ?_)
  · exact wpAny_pure (hQ false s.heap L es ep t (Heap.SameBut.refl a s.heap) R (fun _ => rfl) fun z => absurd hm z)
  · dsimp only
    refine wpAny_bind (wpAny_setState_of ho hd R.fits ?_)
    dsimp only
    obtain ⟨q1, q2, q3, q4, q5, q6, q7, q8, q9⟩ := R.tab.put hK hb
    generalize t.put (way t.mask (hashK P w k) K) = pt at q1 q3 q4 q5 q6 q7 q8 q9 ⊢
    obtain ⟨t1, n⟩ := pt
    dsimp only at q1 q3 q4 q5 q6 q7 q8 q9 ⊢
    subst q1
    generalize hn : SetTable.below t.place (way t.mask (hashK P w k) K) = n at q2 q3 ⊢
    have pm := ins_perm L n (x, k)
    have len1 : (L.take n ++ (x, k) :: L.drop n).length = L.length + 1 := pm.length_eq
    have cells1 : (SetTable.insertAt es n (hashK P w k, Value.ref x)).toList = (L.take n ++ (x, k) :: L.drop n).map fun p => (hashK P w p.2, Value.ref p.1) := by
      rw [SetTable.toList_insertAt, R.cells, List.map_append, List.map_cons, List.map_take, List.map_drop]
    have tab1 : TabOk t1 ((L.take n ++ (x, k) :: L.drop n).map fun p => hashK P w p.2) := by
      rw [List.map_append, List.map_cons, List.map_take, List.map_drop]
      exact q3
    have once1 : ((L.take n ++ (x, k) :: L.drop n).map (·.2)).Nodup := (pm.map (·.2)).nodup_iff.mpr (by rw [List.map_cons]; exact List.nodup_cons.mpr ⟨hm, R.once⟩)
    generalize L.take n ++ (x, k) :: L.drop n = L1 at pm len1 cells1 tab1 once1
    have size1 : (SetTable.insertAt es n (hashK P w k, Value.ref x)).size = L.length + 1 := by rw [← Array.length_toList, cells1, List.length_map, len1]
    generalize SetTable.insertAt es n (hashK P w k, Value.ref x) = es1 at cells1 size1 ⊢
    have led1 : w.params.followText "set-order" = true ∨ t1.led = true := by rw [q5]; exact R.led
    -- whatever becomes of the mark `plain`
    have rest : ∀ t2 : SetTable, t2.mask = t1.mask → t2.led = t1.led → t2.dummies = t1.dummies → t2.place = t1.place → t2.fill = t1.fill → TabOk t2 (L1.map fun p => hashK P w p.2) →
        wpAny (model P w) A (do
          storeSet a es1 t2
          if !false && t2.tooFull then setRelay a (SetTable.grown (es.size + 1))
          return true) Q E s := by
      intro t2 m2 l2 d2 p2 f2 tab2
      refine wpAny_bind (wpAny_storeSet_of ho hd ?_ (by rw [size1, sizeLine_eq]; omega))
      have sb : Heap.SameBut a s.heap (s.heap.update a (Obj.putSet es1 t2)) := Heap.SameBut.update ..
      have ho1 := store_at (es' := es1) (t' := t2) ho hd
      generalize s.heap.update a (Obj.putSet es1 t2) = h1 at sb ho1 ⊢
      have mem1 : ∀ p ∈ L1, IsK P w h1 p.2 p.1 := fun p hp => by
        rcases List.mem_cons.mp (pm.mem_iff.mp hp) with e | hp
        · subst e; exact isK_but hx ho hd sb
        · exact isK_but (R.mem p hp) ho hd sb
      have led2 : w.params.followText "set-order" = true ∨ t2.led = true := by rw [l2]; exact led1
      have full : t2.tooFull = decide ((L.length + 1) * 5 ≥ t.mask * 3) := by
        unfold SetTable.tooFull
        rw [f2, m2, q9, q4, List.length_map]
      by_cases hf : t2.tooFull = true
      · have hfull : (L.length + 1) * 5 ≥ t.mask * 3 := of_decide_eq_true (full.symm.trans hf)
        have fit2 : t2.fits es1.size = true := fits_of tab2.dm (by have := tab2.sz; rw [List.length_map, len1] at this; rw [this, size1]) (by rw [size1, m2, q4]; rcases R.tab.mok with e | e | e <;> omega)
        have go : ∀ M, SetTable.sizeAbove (SetTable.grown (L.length + 1)) - 1 = M → MaskOk M → SetTable.sizeAbove (SetTable.grown (L.length + 1)) ≤ 128 → (L.length + 1) * 5 < M * 3 →
            wpAny (model P w) A (setRelay a (SetTable.grown (es.size + 1))) (fun _ s' => wpAny (model P w) A (pure true) Q E s') E { s with heap := h1 } := fun M g1 g2 g3 g4 => by
          rw [R.size]
          refine bag_relay (s := { s with heap := h1 }) ho1 ⟨hex.1, hex.2.1, hex.2.2⟩ rfl cells1 fit2 once1 mem1 led2 (by rw [len1]; exact room) g1 g2 g3 (by rw [len1]; exact g4) ?_
          intro h2 L2 es2 ep2 t3 sb2 R2 pm2
          exact wpAny_pure (hQ true h2 L2 es2 ep2 t3 (sb.trans sb2) R2 (fun z => absurd z hm) fun _ => pm2.trans pm)
        have main : wpAny (model P w) A (setRelay a (SetTable.grown (es.size + 1))) (fun _ s' => wpAny (model P w) A (pure true) Q E s') E { s with heap := h1 } := by
          have two : (t.mask = 7 ∧ L.length = 4) ∨ (t.mask = 31 ∧ L.length = 18) := by
            rcases R.tab.mok with e | e | e
            · exact .inl ⟨e, by omega⟩
            · exact .inr ⟨e, by omega⟩
            · omega
          rcases two with ⟨_, e2⟩ | ⟨_, e2⟩
          · exact go 31 (by rw [e2, size_20]) (.inr (.inl rfl)) (by rw [e2, size_20]; decide) (by omega)
          · exact go 127 (by rw [e2, size_76]) (.inr (.inr rfl)) (by rw [e2, size_76]; decide) (by omega)
        first
          | (refine wp_if_pos (by simp [hf]) ?_; exact wpAny_bind main)
          | (refine wpAny_bind ?_; refine wp_if_pos (by simp [hf]) ?_; exact main)
      · have fin := hQ true h1 L1 es1 (ep + 1) t2 sb ⟨⟨_, ho1, ⟨hex.1, hex.2.1, hex.2.2⟩, rfl⟩, cells1, tab2, once1, mem1, led2, by
          have := of_decide_eq_false (full.symm.trans (Bool.eq_false_iff.mpr hf))
          rw [len1, m2, q4]
          omega, by rw [len1]; exact room⟩ (fun z => absurd z hm) fun _ => pm
        first
          | (refine wp_if_neg (by simp [hf]) ?_; exact wpAny_pure fin)
          | (refine wpAny_bind ?_; refine wp_if_neg (by simp [hf]) ?_; refine wpAny_pure ?_; exact wpAny_pure fin)
    have both : ∀ bv : Bool, wpAny (model P w) A (do
          storeSet a es1 (if bv then t1 else { t1 with plain := false })
          if !false && (if bv then t1 else { t1 with plain := false }).tooFull then setRelay a (SetTable.grown (es.size + 1))
          return true) Q E s := fun bv => by
      cases bv with
      | true => exact rest t1 rfl rfl rfl rfl rfl tab1
      | false => exact rest { t1 with plain := false } rfl rfl rfl rfl rfl ⟨tab1.ris, tab1.dm, tab1.sz, tab1.mok, tab1.bd, tab1.reach⟩
    by_cases hp : t1.plain = true
    · first
        | (refine wpAny_bind ?_; refine wp_if_pos hp ?_; exact byv_tuple hx both)
        | exact wp_if_pos hp (wpAny_bind (byv_tuple hx both))
    · first
        | (refine wpAny_bind ?_; refine wp_if_neg hp ?_; exact wpAny_pure (both true))
        | exact wp_if_neg hp (wpAny_bind (wpAny_pure (both true)))
end
end Z

/-! ### Z5i -/
/-! Z5i: a set of tuples of texts as a tracked thing; set.add, sorted of it. -/
namespace Z
open PySem PySem.Spec PyProof.Rows L2
/-- a list that is in another order the images of a list is the images of that list in another order -/
theorem perm_under {α β : Type} (f : α → β) : ∀ {L : List α} {o : List β}, o.Perm (L.map f) → ∃ L' : List α, L'.Perm L ∧ o = L'.map f := by
  intro L o h
  generalize hm : L.map f = m at h
  induction h generalizing L with
  | nil =>
    cases L with
    | nil => exact ⟨[], .refl _, rfl⟩
    | cons _ _ => cases hm
  | cons x _ ih =>
    cases L with
    | nil => cases hm
    | cons y L =>
      rw [List.map_cons] at hm
      cases hm
      obtain ⟨L', p, e⟩ := ih rfl
      exact ⟨y :: L', p.cons y, by rw [List.map_cons, e]⟩
  | swap x y l =>
    match L, hm with
    | a :: b :: L, hm =>
      cases hm
      exact ⟨b :: a :: L, .swap _ _ _, rfl⟩
  | trans _ _ ih1 ih2 =>
    obtain ⟨L1, p1, e1⟩ := ih2 hm
    obtain ⟨L2, p2, e2⟩ := ih1 e1.symm
    exact ⟨L2, p2.trans p1, e2⟩
/-- the set at a, but for the tuples themselves -/
def Bag0 (P : Program) (w : World) (h : Heap) (a : Addr) (L : List (Addr × List Str)) : Prop := ∃ (es : Array (Int × Value)) (ep : Nat) (t : SetTable), (∃ o, h.get? a = some o ∧ o.ExactSet ∧ o.data = .set es ep t) ∧ es.toList = L.map (fun p => (hashK P w p.2, Value.ref p.1)) ∧
  TabOk t (L.map fun p => hashK P w p.2) ∧ (L.map (·.2)).Nodup ∧ (w.params.followText "set-order" = true ∨ t.led = true) ∧ L.length * 5 < t.mask * 3 ∧ L.length < 64
def BagO (P : Program) (w : World) (a : Addr) (L : List (Addr × List Str)) : HO := .ext fun h => Bag0 P w h a L
theorem Bag.bag0 {P : Program} {w : World} {h : Heap} {a : Addr} {L : List (Addr × List Str)} {es : Array (Int × Value)} {ep : Nat} {t : SetTable} (R : Bag P w h a L es ep t) : Bag0 P w h a L :=
  ⟨es, ep, t, R.obj, R.cells, R.tab, R.once, R.led, R.fill, R.few⟩
theorem Bag0.whole {P : Program} {w : World} {h : Heap} {a : Addr} {L : List (Addr × List Str)} (R : Bag0 P w h a L) (m : ∀ p ∈ L, IsK P w h p.2 p.1) : ∃ es ep t, Bag P w h a L es ep t := by
  obtain ⟨es, ep, t, h1, h2, h3, h4, h5, h6, h7⟩ := R
  exact ⟨es, ep, t, h1, h2, h3, h4, m, h5, h6, h7⟩
theorem bagO_new {P : Program} {w : World} {H : Hp} {h : Heap} {a : Addr} {L : List (Addr × List Str)} (R : Bag0 P w h a L) : ObjOk P w H h a (BagO P w a L) := by
  have ⟨es, ep, t, ⟨o, ho, r⟩, q⟩ := R
  refine ⟨R, ⟨o, ho⟩, fun h1 h2 p k => ?_⟩
  obtain ⟨es', ep', t', ⟨o', ho', r'⟩, q'⟩ := (show Bag0 P w h1 a L from p)
  exact ⟨es', ep', t', ⟨o', k o' ho', r'⟩, q'⟩
theorem items_texts {P : Program} {w : World} : ∀ {k : List Str} {us : List Value}, Vals (k.map V.str) us → ItemsAre (PySem.strKind P w) k us
  | [], _, .nil => .nil
  | n :: k, _, .cons r t => by
    obtain ⟨tk, rfl⟩ := r
    exact .cons (show Value.isStrOf n (.str n tk) = true from beq_self_eq_true n) (items_texts t)
theorem bag_empty {P : Program} {w : World} {h : Heap} : Bag0 P w (h.push { cls := .type "set", dict := none, data := .set #[] 0 (.fresh 0 0 (!w.params.followText "set-order")) }) h.objs.size [] :=
  ⟨#[], 0, _, ⟨_, Heap.get?_push_size _ rfl, ⟨rfl, rfl, rfl⟩, rfl⟩, rfl, ⟨List.Pairwise.nil, rfl, rfl, .inl rfl, fun x hx => (by cases hx), fun i h j e => (by cases e)⟩, List.nodup_nil, by
    show _ ∨ (!w.params.followText "set-order") = true
    cases w.params.followText "set-order"
    · exact .inr rfl
    · exact .inl rfl, (show 0 * 5 < 7 * 3 by decide), (show 0 < 64 by decide)⟩
section
variable {X : Cx}
theorem Inv.isK {pins : List (Addr × Obj)} {σ : L2.St} {H : Hp} {s : Shared} {b : Addr} {k : List Str} (I : Inv X pins σ H s) (h : SqT X.K H b (k.map V.str)) : IsK X.prog X.w s.heap k b := by
  obtain ⟨its, r, ⟨o, ho, hc, n, hd⟩, _⟩ := I.tuple h
  exact ⟨o, its.toArray, n, ho, hc, hd, by simpa using items_texts r⟩
/-- set.add -/
theorem bagO_add {pins : List (Addr × Obj)} {σ : L2.St} {H : Hp} {s : Shared} {E : Value → Shared → Prop} {D x : Addr} {L : List (Addr × List Str)} {k : List Str} {Q : Value → Shared → Prop} (hu : X.A.units + 64 < cLine) (I : Inv X pins σ H s)
    (hD : H D = some (BagO X.prog X.w D L)) (hm : ∀ p ∈ L, SqT X.K H p.1 (p.2.map V.str)) (hx : SqT X.K H x (k.map V.str)) (room : L.length + 1 < 64)
    (h : ∀ L' s', Inv X pins σ (upd H D (BagO X.prog X.w D L')) s' → (k ∈ L.map (·.2) → L' = L) → (k ∉ L.map (·.2) → L'.Perm ((x, k) :: L)) → Q .none s') :
    wpAny (model X.prog X.w) X.A (call (.builtin "set.add") [.ref D, .ref x]) Q E s := by
  have R0 : Bag0 X.prog X.w s.heap D L := (I.hok D _ hD).1
  obtain ⟨es, ep, t, R⟩ := R0.whole fun p hp => Inv.isK I (hm p hp)
  have hk := Inv.isK I hx
  obtain ⟨o, ho, hex, hd⟩ := id R.obj
  refine wpAny_call_entry F.slot_set_add ⟨o, ho, hex.1⟩ F.entry_set_add ?_ (F.args_set_add_2 _ _)
  unfold Builtin.«set.add» Builtin.Frozenset.oneOther
  simp only [List.isEmpty_nil, bind_assoc]
  unfold Builtin.Frozenset.addrOf setAdd
  refine wpAny_bind (wpAny_pure ?_)
  try dsimp only
  refine wpAny_bind (wpAny_pure ?_)
  try dsimp only
  refine wpAny_bind ?_
  refine wpAny_holding ?_
  refine wpAny_bind (wpAny_pyHash_tuple (knd := PySem.strKind X.prog X.w) (by first | (show X.A.units + 1 < cLine; omega) | (simp; omega)) hk ?_)
  refine bag_add (s := { s with toks := s.toks + (k.length + 1) }) R hk (by first | (show X.A.units + 1 < cLine; omega) | (simp; omega)) room fun b h' L' es' ep' t' sb R2 c1 c2 => ?_
  show wpAny _ _ (ret Value.none) _ _ _
  have he : ∃ u, h'.get? D = some u := by
    obtain ⟨o, ho, _⟩ := R2.obj
    exact ⟨o, ho⟩
  exact wpAny_pure ⟨_, rfl, h L' _ (I.write (e := D) (t' := s.toks + (k.length + 1)) (by rw [hD]; trivial) (.inl rfl) (fun b u hb hu => (sb.2 b hb).trans hu) he (bagO_new R2.bag0)) c1 c2⟩
/-- sorted(d), d a set of tuples of texts, none of them empty -/
theorem bag_sort (calm : X.calm = true) : CallR X (.builtin "sorted") (fun args H Q => ∃ (a : Addr) (L : List (Addr × List Str)), args = [.ref a] ∧ H a = some (BagO X.prog X.w a L) ∧ (∀ p ∈ L, SqT X.K H p.1 (p.2.map V.str) ∧ p.2 ≠ []) ∧
    ∀ (L' : List (Addr × List Str)) q, L'.Perm L → L'.Pairwise (fun x y => lexS y.2 x.2 = false) → H q = none → Q (.ref q) (upd H q (.lst (L'.map fun p => .ref p.1)))) := by
  intro pins s σ H args us Q I r h
  obtain ⟨a, L, rfl, ha, hL, q⟩ := h
  rw [Vals.ref1 r]
  have R0 : Bag0 X.prog X.w s.heap a L := (I.hok a _ ha).1
  obtain ⟨es, ep, t, R⟩ := R0.whole fun p hp => Inv.isK I (hL p hp).1
  obtain ⟨o, ho, hex, hd⟩ := id R.obj
  have hsz := R.size
  have few := R.few
  have tup : ∀ p ∈ L, TupS s.heap (.ref p.1) p.2 := fun p hp => (IsTS.raw I (x := .ref p.1) (u := .ref p.1) ⟨p.1, rfl, (hL p hp).1⟩ rfl).1
  refine Calls.call_function_entry kind_sorted plain_sorted entry_sorted (args_sorted1 _) ?_
  unfold Builtin.«sorted»
  refine wpAny_bind (m := checkCount "sorted" 1 1 _) (wpAny_pure ?_)
  refine wpAny_bind (collect_set (A := X.A.in1) (I.ok.hd calm) ⟨o, ho, hex.1, hd⟩ R.fits (by unfold scanBound; omega) R.tab.ris R.led fun s1 vs k1 hz g1 o1 pm => ?_)
  have hes : es.toList.map (·.2) = L.map fun p => Value.ref p.1 := by
    rw [R.cells, List.map_map] <;> rfl
  rw [hes] at pm
  have hvl : vs.length < 64 := by rw [pm.length_eq, List.length_map]; exact few
  have kp1 : ∀ b u, s.heap.get? b = some u → u.cls = .type "tuple" → s1.heap.get? b = some u := fun b u e _ => k1 b u e
  refine wpAny_bind (wpAny_newList ?_ (by rw [sizeLine_eq]; omega))
  have hoL : (s1.heap.push (seqObj "list" vs.toArray 0)).get? s1.heap.objs.size = some (seqObj "list" vs.toArray 0) := Heap.get?_push_size _ rfl
  have kp2 : ∀ b u, s.heap.get? b = some u → u.cls = .type "tuple" → (s1.heap.push (seqObj "list" vs.toArray 0)).get? b = some u := fun b u e _ => Heap.get?_push_of_some _ (k1 b u e)
  have all : ∀ v ∈ vs, ∃ p ∈ L, v = Value.ref p.1 := fun v hv => by
    obtain ⟨p, hp, e⟩ := List.mem_map.mp (pm.mem_iff.mp hv)
    exact ⟨p, hp, e.symm⟩
  have hS : ∀ v ∈ vs, ∃ x r, TupS (s1.heap.push (seqObj "list" vs.toArray 0)) v (x :: r) := fun v hv => by
    obtain ⟨p, hp, rfl⟩ := all v hv
    have z := (tup p hp).keep kp2
    obtain ⟨x, r, e⟩ : ∃ x r, p.2 = x :: r := by
      cases e : p.2 with
      | nil => exact absurd e (hL p hp).2
      | cons x r => exact ⟨x, r, rfl⟩
    rw [e] at z
    exact ⟨x, r, z⟩
  have key : ∀ p ∈ L, keyT (s1.heap.push (seqObj "list" vs.toArray 0)) (.ref p.1) = p.2 := fun p hp => ((tup p hp).keep kp2).key
  show wpAny _ _ _ _ _ { s1 with heap := s1.heap.push (seqObj "list" vs.toArray 0) }
  refine wpAny_bind (wpAny_holding (wpAny_call_entry PyProof.Rows.slot_list_sort ⟨_, hoL, rfl⟩ PyProof.Rows.entry_list_sort
    (SrtO.list_sort_ord (s := { s1 with heap := s1.heap.push (seqObj "list" vs.toArray 0) }) (swo_lexS (keyT (s1.heap.push (seqObj "list" vs.toArray 0)))) hoL (by rw [sizeLine_eq]; omega)
      (fun h2 => tups_sortable (s := { s1 with heap := s1.heap.push (seqObj "list" vs.toArray 0) }) (by omega) hS fun u e c => by
        have e' : some u = some (seqObj "list" vs.toArray 0) := e.symm.trans hoL
        cases e'
        exact absurd (Value.type.inj c) (by decide)) fun out srt stb => ⟨_, rfl, ?_⟩)
    (PyProof.Rows.args_list_sort _)))
  obtain ⟨c, hc⟩ := PyProof.Rows.sortedHeap_at (vs := vs) (out := out.toArray) hoL
  have pmo : out.Perm (L.map fun p => Value.ref p.1) := stb.perm.trans pm
  obtain ⟨L', pL, eL⟩ : ∃ L' : List (Addr × List Str), L'.Perm L ∧ out = L'.map fun p => Value.ref p.1 := perm_under (fun p : Addr × List Str => Value.ref p.1) pmo
  subst eL
  have srt' : L'.Pairwise fun x y => lexS y.2 x.2 = false := by
    refine List.Pairwise.imp_of_mem (fun {x y} hx hy z => ?_) (List.pairwise_map.mp srt)
    have z' : lexS (keyT (s1.heap.push (seqObj "list" vs.toArray 0)) (.ref y.1)) (keyT (s1.heap.push (seqObj "list" vs.toArray 0)) (.ref x.1)) = false := z
    rw [key _ (pL.mem_iff.mp hx), key _ (pL.mem_iff.mp hy)] at z'
    exact z'
  have hn : H s1.heap.objs.size = none := I.hok.fresh hz
  have hlen : (L'.map fun p => V.ref p.1).length ≤ sizeLine := by rw [List.length_map, pL.length_eq, sizeLine_eq]; omega
  have hv : Vals (L'.map fun p => V.ref p.1) (L'.map fun p => Value.ref p.1) := by
    clear srt srt' pL hc pmo stb hlen
    induction L' with
    | nil => exact .nil
    | cons p L' ih => exact .cons rfl ih
  have old : ∀ b u, s.heap.get? b = some u → (PyProof.Rows.sortedHeap (s1.heap.push (seqObj "list" vs.toArray 0)) s1.heap.objs.size vs (L'.map fun p => Value.ref p.1).toArray).get? b = some u := fun b u e => by
    have e1 := k1 b u e
    have lt := Heap.lt_size e1
    rw [PyProof.Rows.sortedHeap_old (Nat.ne_of_lt lt) (by rw [size_push']; exact Nat.lt_succ_of_lt lt)]
    exact Heap.get?_push_of_some _ e1
  have J : Inv X pins σ (upd H s1.heap.objs.size (.lst (L'.map fun p => V.ref p.1))) { s with heap := PyProof.Rows.sortedHeap (s1.heap.push (seqObj "list" vs.toArray 0)) s1.heap.objs.size vs (L'.map fun p => Value.ref p.1).toArray, gens := s1.gens, drawn := s1.drawn, toks := s1.toks } :=
    I.call (ch := []) (Un.laid old hz hn) (I.hok.laid old hz ⟨hlen, L'.map fun p => Value.ref p.1, c, hv, hc⟩) (by rw [g1]; exact I.bare) (fun _ z => nomatch z)
  have e : ({ s1 with heap := PyProof.Rows.sortedHeap (s1.heap.push (seqObj "list" vs.toArray 0)) s1.heap.objs.size vs (L'.map fun p => Value.ref p.1).toArray } : Shared) = { s with heap := PyProof.Rows.sortedHeap (s1.heap.push (seqObj "list" vs.toArray 0)) s1.heap.objs.size vs (L'.map fun p => Value.ref p.1).toArray, gens := s1.gens, drawn := s1.drawn, toks := s1.toks } := by
    cases s1
    cases s
    cases o1
    rfl
  refine wpAny_pure ⟨_, rfl, ?_⟩
  rw [e]
  exact ⟨.ref _, _, J, rfl, q L' _ pL srt' hn⟩
end
end Z

/-! ### Z5j -/
/-! Z5j: a set comprehension of tuples of texts. -/
namespace Z
open PySem PySem.Spec PyProof.Rows L2
/-- {elt for target in iter if ..}, elt a tuple of texts; D the new set -/
def tBag (P : Program) (w : World) (K : Frag) (wi : TI) (g : TG) (tt : TT) (te : TE) (vs : List Nat) : TE := fun σ H Q => wi σ H fun J H1 => ∀ D, H1 D = none → ∃ W : Nat → Nat → Hp → Prop, (∃ m, W 0 m (upd H1 D (BagO P w D []))) ∧ ∀ i m H, W i m H →
  (J.stop i H ∧ Q (.ref D) H) ∨ (J.go i H ∧ ∃ Nx : Hp → Prop, (∀ H', Nx H' → ∃ m', m' < m ∧ W (i + 1) m' H') ∧ ∀ x H', J.yld i H x H' → g x (wipe σ vs) H' fun σ2 H2 => wipe σ2 vs = wipe σ vs ∧ tt σ2 H2 fun b H3 =>
    if b = true then te σ2 H3 fun y H4 => ∃ (a : Addr) (k : List Str) (L : List (Addr × List Str)), y = .ref a ∧ SqT K H4 a (k.map V.str) ∧ H4 D = some (BagO P w D L) ∧ (∀ p ∈ L, SqT K H4 p.1 (p.2.map V.str)) ∧ L.length + 1 < 64 ∧
      ∀ L', (k ∈ L.map (·.2) → L' = L) → (k ∉ L.map (·.2) → L'.Perm ((a, k) :: L)) → Nx (upd H4 D (BagO P w D L')) else Nx H3)
section
variable {X : Cx}
theorem pe_bag {elt tg iter : Expr} {ifs : List Expr} {scope : Scope} {own : List (Str × Nat)} {pos : Pos} {wi : TI} {g : TG} {tt : TT} {te : TE} (hu : X.A.units + 64 < cLine) (hc : X.calm = true) (hN : X.N.Nodup) (hi : PI X tg iter wi) (ok : BlkOk X.N X.env.scope scope own)
    (hg : ∀ (s : Shared) (H : Hp) (C : Addr) (cl : List (Str × Addr)) (fp : List Addr), PG (X.blk s H scope (compEnvC scope cl C X.env) fp) tg g) (ht : ∀ (s : Shared) (H : Hp) (C : Addr) (cl : List (Str × Addr)) (fp : List Addr), PTs (X.blk s H scope (compEnvC scope cl C X.env) fp) ifs tt)
    (he : ∀ (s : Shared) (H : Hp) (C : Addr) (cl : List (Str × Addr)) (fp : List Addr), PE (X.blk s H scope (compEnvC scope cl C X.env) fp) elt te) (hs : ∀ x, foldedSetIterable iter X.env x = pure x) :
    PE X (.SetComp elt [⟨tg, iter, ifs, 0⟩] scope pos) (tBag X.prog X.w X.K wi g tt te (own.map (·.2))) := by
  refine ⟨fun pins s σ H Q I h => ?_⟩
  rw [PpSet.eval_SetComp]
  have hfree : ∀ y ∈ scope.names, y.2 = .free → ∃ c, X.env.cells.lookup y.1 = some c := fun y hy e => (ok.free y hy e).elim (fun k => I.ok.has _ (.inl k)) fun k => I.ok.has _ (.inr k)
  refine wpAny_comprehension_free rfl hs (closure_ok hfree) ok.kind (fun y hy e => by rw [ok.uniq y hy, e])
    (thn (hi.run pins s σ H _ I h) fun xv s1 hx => thn hx fun itv s2 h2 => ?_)
  obtain ⟨it, fp, tn, J, H2, e, I2, T, st2, f2, q⟩ := h2
  subst e
  refine PpSet.newSet_ok (newEnv_comp ?_)
  have hDn : H2 s2.heap.objs.size = none := I2.hok.fresh (Nat.le_refl _)
  obtain ⟨W, ⟨m0, w0⟩, turn⟩ := q s2.heap.objs.size hDn
  have bel : ∀ b ∈ fp, b < s2.heap.objs.size := fun b hb => by
    obtain ⟨o, e, _⟩ := T.obj _ _ st2 b hb
    exact Heap.lt_size e
  -- the new set is laid
  have I3' : Inv X pins σ (upd H2 s2.heap.objs.size (BagO X.prog X.w s2.heap.objs.size [])) { s2 with heap := s2.heap.push { cls := .type "set", dict := none, data := .set #[] 0 (.fresh 0 0 (!X.w.params.followText "set-order")) } } :=
    I2.laid (t' := s2.toks) (fun b o e => Heap.get?_push_of_some _ e) (Nat.le_refl _) (bagO_new bag_empty)
  have st3' : tn 0 (s2.heap.push { cls := .type "set", dict := none, data := .set #[] 0 (.fresh 0 0 (!X.w.params.followText "set-order")) }) := T.keep _ _ _ st2 fun b _ o e => Heap.get?_push_of_some _ e
  have f3' : ∀ b ∈ fp, FpOk X pins (upd H2 s2.heap.objs.size (BagO X.prog X.w s2.heap.objs.size [])) b ∧ b < (s2.heap.push { cls := .type "set", dict := none, data := .set #[] 0 (.fresh 0 0 (!X.w.params.followText "set-order")) }).objs.size := fun b hb =>
    ⟨⟨by rw [upd_ne (Nat.ne_of_lt (bel b hb))]; exact (f2 b hb).1, (f2 b hb).2⟩, by rw [Heap.size_push]; exact Nat.lt_succ_of_lt (bel b hb)⟩
  generalize s2.heap.push { cls := .type "set", dict := none, data := .set #[] 0 (.fresh 0 0 (!X.w.params.followText "set-order")) } = h3 at I3' st3' f3' ⊢
  generalize s2.heap.objs.size = D at w0 turn I3' f3' hDn ⊢
  generalize hH3 : upd H2 D (BagO X.prog X.w D []) = H3 at w0 I3' f3'
  generalize hs3 : ({ s2 with heap := h3 } : Shared) = s3 at I3' ⊢
  have e3 : s3.heap = h3 := by rw [← hs3]
  have I3 : Inv X pins σ H3 s3 := I3'
  have f3 : ∀ b ∈ fp, FpOk X pins H3 b ∧ b < s3.heap.objs.size := by rw [e3]; exact f3'
  have I4 := block_start I3 ok hN f3
  have nfp : ∀ b ∈ fp, H3 b = none := fun b hb => (f3 b hb).1.1
  show codeAny _ _ (.compStart (.SetComp elt [⟨tg, iter, ifs, 0⟩] scope pos) 0 (.ref it) (.ref D) (compEnvC scope (cellsFrom (s3.heap.objs.size + 1) scope.names (cloFrom X.env.cells scope.names [])) s3.heap.objs.size X.env)) _ { s3 with heap := pushCells (s3.heap.push { cls := .type "dict", data := .dict #[] }) scope.names }
  have pg := hg s3 H3 s3.heap.objs.size (cellsFrom (s3.heap.objs.size + 1) scope.names (cloFrom X.env.cells scope.names [])) fp
  have pt := ht s3 H3 s3.heap.objs.size (cellsFrom (s3.heap.objs.size + 1) scope.names (cloFrom X.env.cells scope.names [])) fp
  have pe := he s3 H3 s3.heap.objs.size (cellsFrom (s3.heap.objs.size + 1) scope.names (cloFrom X.env.cells scope.names [])) fp
  generalize hce : compEnvC scope (cellsFrom (s3.heap.objs.size + 1) scope.names (cloFrom X.env.cells scope.names [])) s3.heap.objs.size X.env = ce at I4 pg pt pe ⊢
  have cL : ce.locals = s3.heap.objs.size := by subst hce; rfl
  have st4' : tn 0 (pushCells (s3.heap.push { cls := .type "dict", data := .dict #[] }) scope.names) := T.keep _ _ _ st3' fun b _ o e => pushCells_keeps _ _ _ _ (Heap.get?_push_of_some _ (by rw [e3]; exact e))
  generalize hs4 : ({ s3 with heap := pushCells (s3.heap.push { cls := .type "dict", data := .dict #[] }) scope.names } : Shared) = s4 at I4 ⊢
  have st4 : tn 0 s4.heap := by rw [← hs4]; exact st4'
  have foot : ∀ {σ' : L2.St} {H' : Hp} {s' : Shared}, Inv (X.blk s3 H3 scope ce fp) [] σ' H' s' → (∀ b ∈ fp, H' b = none) → ∀ b ∈ fp, FpOk (X.blk s3 H3 scope ce fp) [] H' b := fun {σ' H' s'} I' hn b hb =>
    ⟨hn b hb, (I'.ok.exf b hb).1, I'.ok.exfs b hb, .inl hb, fun x c e => (I'.ok.exf b hb).2 x c e, fun p hp => absurd (show p ∈ ([] : List (Addr × Obj)) ++ [] from hp) (by simp)⟩
  refine (fun loop => PpSet.codeAny_compStart_set loop (T.self X.A 0 _ _ _ st4 loop)) ?_
  refine PpSet.compLoopS_any (fun n s' => ∃ i H', Inv (X.blk s3 H3 scope ce fp) [] (wipe σ (own.map (·.2))) H' s' ∧ tn i s'.heap ∧ (∀ b ∈ fp, H' b = none) ∧ W i n H') ?_ m0 ⟨0, H3, I4, st4, nfp, w0⟩
  rintro n s5 ⟨i, H5, I5, st5, n5, w5⟩
  rcases turn i n H5 w5 with ⟨stop, qq⟩ | ⟨go, Nx, hNx, step⟩
  · refine thnF (T.done (X.blk s3 H3 scope ce fp) rfl rfl rfl hc i [] s5 _ H5 (fun _ _ => False) I5 (foot I5 n5) st5 stop) fun r s6 ⟨hr, I6⟩ => ?_
    subst hr
    have I7 : Inv X pins σ H5 s6 := I3.call' (ch := fp) I6.os I6.base I6.hok I6.bare fun b hb => ⟨(f3 b hb).1.2.2.2.1, (f3 b hb).1.2.1, (f3 b hb).1.2.2.2.2.1, (f3 b hb).1.2.2.2.2.2⟩
    have nC : H5 s3.heap.objs.size = none := by
      have z : H5 ce.locals = none := I6.free
      rwa [cL] at z
    obtain ⟨m, hn, _⟩ := I6.loc
    have hn : s6.heap.Ns ce.locals m := hn
    rw [cL] at hn
    refine ⟨m, hn, fun h'' sb => ?_⟩
    obtain ⟨f0, f1, f2, f3, f4, f5⟩ := I3.fpOk (Nat.le_refl _) nC
    exact ⟨.ref D, H5, I7.turned (t' := s6.toks) (fun b o hb e => (sb.2 b hb).trans e) f0 f1 f3 f4 f5, rfl, qq⟩
  · refine thnF (T.item (X.blk s3 H3 scope ce fp) rfl rfl rfl hc i [] s5 _ H5 (fun _ _ => False) I5 (foot I5 n5) st5 go) fun r s6 ⟨u, hr, h6⟩ => ?_
    subst hr
    refine thnF h6 fun _ s7 ⟨x, H7, I7, r7, y7, st7, n7⟩ => ?_
    refine thnF (pg.run _ s7 _ H7 x u _ (I7.pinned (foot I7 n7) (T.obj _ _ st7)) r7 (step x H7 y7)) fun _ s8 ⟨σ8, H8, I8, hw8, q8⟩ => ?_
    refine thnF (pt.run _ s8 σ8 H8 _ I8 q8) fun b s9 ⟨H9, I9, q9⟩ => ?_
    have fin : ∀ {s' : Shared} {H' : Hp}, Inv (X.blk s3 H3 scope ce fp) ([] ++ pinsAt fp s7.heap) σ8 H' s' → Nx H' → ∃ m, m < n ∧ ∃ i H', Inv (X.blk s3 H3 scope ce fp) [] (wipe σ (own.map (·.2))) H' s' ∧ tn i s'.heap ∧ (∀ b ∈ fp, H' b = none) ∧ W i m H' := fun {s' H'} I' nx => by
      obtain ⟨m', hm, w'⟩ := hNx H' nx
      have pin' : ∀ b ∈ fp, ∀ o, s7.heap.get? b = some o → s'.heap.get? b = some o ∧ H' b = none := fun b hb o e =>
        let z := I'.pin (b, o) (List.mem_append_right _ (List.mem_append_right _ (mem_pinsAt hb e)))
        ⟨z.1, z.2.1⟩
      refine ⟨m', hm, i + 1, H', (I'.unpinned (pins := [])).weak (by rw [← hw8, wipe_length]) (fun j v e => ?_), T.keep _ _ _ st7 fun b hb o e => (pin' b hb o e).1, fun b hb => ?_, w'⟩
      · rw [← hw8] at e
        exact (wipe_some e).1
      · obtain ⟨o, e, _⟩ := T.obj _ _ st7 b hb
        exact (pin' b hb o e).2
    cases b with
    | false =>
      simp only [Bool.false_eq_true, if_false] at q9 ⊢
      exact fin I9 q9
    | true =>
      simp only [if_true] at q9 ⊢
      refine thnF (pe.run _ s9 σ8 H9 _ I9 q9) fun z s10 ⟨yv, H10, I10, r10, a, k, L, ey, hk, hD10, hL, room, nx⟩ => ?_
      subst ey
      cases (show z = Value.ref a from r10)
      exact bagO_add (X := X.blk s3 H3 scope ce fp) hu I10 hD10 hL hk room fun L' s11 I11 c1 c2 => fin I11 (nx L' c1 c2)
end
end Z

/-! ### Z6 -/
/-! Z6: methods of built-in types. -/
namespace Z
open PySem PySem.Spec PyProof.Rows L2
inductive BM where
  | append | extend | pop | insert | get | join | startswith | remove
def BM.name : BM → Str
  | .append => "append" | .extend => "extend" | .pop => "pop" | .insert => "insert" | .get => "get" | .join => "join" | .startswith => "startswith" | .remove => "remove"
/-- the receiver's type -/
def rcv (d : D) (S : Sto) : Option String := match d with
  | .str _ => some "str"
  | .ref a => match S a with
    | some (.lst _) => some "list"
    | some (.dic _) => some "dict"
    | _ => none
  | _ => none
theorem Reps.eraseIdx {K : Frag} {H : Hp} : ∀ {ds : List D} {xs : List V} (j : Nat), Reps K H ds xs → Reps K H (ds.eraseIdx j) (xs.eraseIdx j)
  | [], xs, j, r => by rw [reps_nil.mp r]; exact reps_nil.mpr rfl
  | d :: ds, xs, j, r => by
    obtain ⟨v, vs, rfl, q, rs⟩ := reps_cons.mp r
    cases j with
    | zero => exact rs
    | succ j => exact reps_cons.mpr ⟨v, vs.eraseIdx j, rfl, q, Reps.eraseIdx j rs⟩
def removeW : WM := fun d xs S Q => match d, xs with
  | .ref a, [v] => match S a with
    | some (.lst ds) => ∃ p ps j, pyD v = some p ∧ pyDs ds = some ps ∧ min (PyData.depthAll ps) p.depth ≤ 63 ∧ (ps[j]?.map fun z => PyData.eqv z p) = some true ∧
      (∀ i, i < j → (ps[i]?.map fun z => PyData.eqv z p) = some false) ∧ Q .non (up S a (.lst (ds.eraseIdx j)))
    | _ => False
  | _, _ => False
def bmW : BM → WM
  | .remove, d, xs, S, Q => removeW d xs S Q
  | .append, d, [v], S, Q => match d with
    | .ref a => match S a with
      | some (.lst ds) => ds.length < sizeLine ∧ Q .non (up S a (.lst (ds ++ [v])))
      | _ => False
    | _ => False
  | .extend, d, [v], S, Q => match d, v with
    | .ref a, .ref b => match S a, S b with
      | some (.lst ds), some (.lst es) => ds.length + es.length ≤ sizeLine ∧ Q .non (up S a (.lst (ds ++ es)))
      | _, _ => False
    | .ref a, .tup es => match S a with
      | some (.lst ds) => ds.length + es.length ≤ sizeLine ∧ Q .non (up S a (.lst (ds ++ es)))
      | _ => False
    | _, _ => False
  | .pop, d, [], S, Q => match d with
    | .ref a => match S a with
      | some (.lst ds) => match ds[ds.length - 1]? with
        | some v => Q v (up S a (.lst ds.dropLast))
        | none => False
      | _ => False
    | _ => False
  | .insert, d, [i, v], S, Q => match d, i with
    | .ref a, .int i => match S a with
      | some (.lst ds) => (ds.length < sizeLine ∧ 0 ≤ i ∧ i < 2 ^ 63) ∧ Q .non (up S a (.lst (ds.take i.toNat ++ [v] ++ ds.drop i.toNat)))
      | _ => False
    | _, _ => False
  | .get, d, [k, v], S, Q => match d with
    | .ref a => match S a with
      | some (.dic kvs) => match keyOf k with
        | some k => Q ((getD kvs k).getD v) S
        | none => False
      | _ => False
    | _ => False
  | .join, d, [v], S, Q => match d with
    | .str x => match itemsL S v with
      | some ds => match strsOf ds with
        | some ys => (ys.map (·.length)).sum + ys.length * x.length ≤ 16777216 ∧ Q (.str (Txt.join x ys)) S
        | none => False
      | none => False
    | _ => False
  | .startswith, d, [v], S, Q => match d, v with
    | .str x, .str y => Q (.bl (Txt.startswith x y)) S
    | _, _ => False
  | _, _, _, _, _ => False

/-- extend by a tuple, whatever its other fields are -/
theorem ext_tup (l b : Addr) (xs ys : Array Value) (n m : Nat) (dd : Option Addr) (sl : Array (Option Value)) (h0 : ¬(!xs.isEmpty && Builtin.List.listTooLong (xs.size + ys.size)) = true) (h1 : xs.size ≤ sizeLine) (h2 : xs.size + ys.size ≤ sizeLine + 1) :
    Meets (Builtin.«list.extend» ⟨[.ref l, .ref b], []⟩) (fun _ R s => s.heap.get? l = some { cls := .type "list", dict := none, data := .seq xs n, slots := #[] } ∧ s.heap.get? b = some { cls := .type "tuple", dict := dd, data := .seq ys m, slots := sl } ∧
      R (.ok (.ret Value.none)) { s with heap := s.heap.update l (Obj.mapSeq fun x => x ++ ys), toks := s.toks }) := by
  refine .of_wp fun prog w A R s h => ?_
  have hz : (xs ++ ys).size ≤ sizeLine + 1 := by rw [Array.size_append]; exact h2
  obtain ⟨hp, g, d, tk, os⟩ := s
  obtain ⟨hl, hb, h⟩ := h
  have f2 := PySem.AutoSeq1.sub_tuple_tuple
  have f3 := PySem.AutoSeq1.sub_list_list
  have f4 := PySem.AutoSeq1.sub_tuple_list
  have f1 := PySem.AutoSeq1.idx_int
  have f5 := PySem.AutoSeq1.sub_list_tuple
  wp_walk using (wpAny_updateSeq hl rfl (hz := h1) (_hz' := hz)), PySem.AutoSeq1.wpAny_loadPart' hl, PySem.AutoSeq1.wpAny_loadPart' hb
  exact ⟨_, rfl, h⟩
/-- what a method call of a built-in type leans on -/
structure BMok (X : Cx) (T : String) (name : Str) (id : String) (r : V → List V → Hp → VK → Prop) : Prop where
  pa : PlainAttrs T
  slot : Slot T name id
  ty : typeOf (.builtin id) = pure (.type "method_descriptor")
  rule : MtR X id r
def tBMz (X : Cx) (name : Str) (to : TE) (t : TA) : TE := fun σ H Q => to σ H fun x H1 => ∃ T id r, BMok X T name id r ∧ tyV X.K T x H1 ∧ t σ H1 fun xs H2 => r x xs H2 Q
section
variable {X : Cx} {o e : Expr} {es : List Expr} {to : TE} {t : TA} {name : Str} {apos cpos : Pos}
theorem pe_bmz0 (ho : PE X o to) (hbase : attributeBase o name X.env (eval o X.env) = eval o X.env) (hline : (apos.endLine == cpos.line) = true) :
    PE X (.Call (.Attribute o name apos) [] [] cpos) (tBMz X name to tNil) := by
  refine ⟨fun pins s σ H Q I h => ?_⟩
  refine wpAny_Call_method0_late hbase hline (thn (ho.run pins s σ H _ I h) fun v s1 ⟨x, H1, I1, r1, T, id, r, b, ty, q1⟩ => ?_)
  obtain ⟨h1, h2⟩ := tyV_is I1 r1 ty
  exact ⟨T, id, b.pa, b.slot, b.ty, h1, h2, Calls.callWith_builtin rfl (PySem.evalArgs_none (b.rule pins s1 σ H1 x [] v [] Q I1 r1 .nil q1))⟩
theorem pe_bmz (ho : PE X o to) (ha : PA X (e :: es) t) (hbase : attributeBase o name X.env (eval o X.env) = eval o X.env)
    (hfew : ((backTo cpos (starEach (e :: es) X.env)).all (fun x => !x.1) && (backToKw cpos (keywordEach [] X.env)).all (fun x => x.1.isSome)
      && decide ((e :: es).length + ([] : List Keyword).length + (if ([] : List Keyword).isEmpty then 0 else 1) < 30)) = true)
    (hline : (apos.endLine == cpos.line) = true) (hs : starEach (e :: es) X.env = (false, eval e X.env) :: starEach es X.env) (hplain : (backTo cpos (starEach es X.env)).any (·.1) = false) :
    PE X (.Call (.Attribute o name apos) (e :: es) [] cpos) (tBMz X name to t) := by
  refine ⟨fun pins s σ H Q I h => ?_⟩
  refine wpAny_Call_method_late hbase hfew hline rfl (thn (ho.run pins s σ H _ I h) fun v s1 ⟨x, H1, I1, r1, T, id, r, b, ty, q1⟩ => ?_)
  obtain ⟨h1, h2⟩ := tyV_is I1 r1 ty
  refine ⟨T, id, b.pa, b.slot, b.ty, h1, h2, ?_⟩
  have hA := ha.run cpos pins s1 σ H1 _ I1 q1
  rw [hs] at hA ⊢
  refine Calls.callWith_builtin (by show (false || (backTo cpos (starEach es X.env)).any (·.1)) = false; rw [hplain] <;> rfl) (Calls.evalArgs_plain ?_)
  exact thn hA fun us s2 ⟨vs, H2, I2, r2, q2⟩ => b.rule pins s2 σ H2 x vs v us Q I2 r1 r2 q2
theorem rcv_ok {S : Sto} {H : Hp} (hs : StR X.K H S) {d : D} {v : V} {T : String} (r : Rep X.K H d v) (h : rcv d S = some T) : tyV X.K T v H ∧ T ∈ ["str", "list", "dict"] := by
  cases d with
  | str x => cases h; rw [rep_str.mp r]; exact ⟨rfl, by simp⟩
  | ref a =>
    rw [rep_ref.mp r]
    simp only [rcv] at h
    split at h
    · rename_i ha
      cases h
      obtain ⟨xs, h, hr⟩ := hs _ _ ha
      exact ⟨.inl ⟨rfl, xs, .inl (.inl h)⟩, by simp⟩
    · rename_i ha
      cases h
      obtain ⟨xs, h, hr⟩ := hs _ _ ha
      exact ⟨.inr (.inr (.inl ⟨rfl, .inl ⟨xs, h⟩⟩)), by simp⟩
    · cases h
  | _ => cases h
/-- a method of lists alone -/
theorem bm_append : BMok X "list" "append" "list.append" (liftM X.K (bmW .append)) := by
  refine ⟨F.plainAttrs_list, F.slot_list_append, F.type_list_append, ?_⟩
  intro pins s σ H x xs v us Q I rx rs ⟨d, ds, S, Q', rd, rds, hs, w, f⟩
  unfold bmW at w
  split at w <;> first | contradiction | skip
  rename_i z _ _ _ _
  obtain ⟨y, rfl, ry⟩ := reps1 rds
  split at w
  · obtain rfl := rep_ref.mp rd
    split at w
    · rename_i ha
      obtain ⟨zs, h, hr⟩ := hs _ _ ha
      refine mt_append pins s σ H _ _ v us Q I rx rs ⟨_, zs, y, rfl, rfl, h, by rw [hr.length]; exact w.1, ?_⟩
      exact f.set (u := .lst _) hs ha ⟨_, upd_same, Reps.mono (tupLe_set hs ha) _ _ (hr.append (reps_cons.mpr ⟨y, [], rfl, ry, reps_nil.mpr rfl⟩))⟩ (rep_non.mpr rfl) w.2
    · exact w.elim
  · exact w.elim
theorem bm_extend : BMok X "list" "extend" "list.extend" (liftM X.K (bmW .extend)) := by
  refine ⟨F.plainAttrs_list, F.slot_list_extend, F.type_list_extend, ?_⟩
  intro pins s σ H x xs v us Q I rx rs ⟨d, ds, S, Q', rd, rds, hs, w, f⟩
  unfold bmW at w
  split at w <;> first | contradiction | skip
  obtain ⟨y, rfl, ry⟩ := reps1 rds
  split at w
  · obtain rfl := rep_ref.mp rd
    obtain rfl := rep_ref.mp ry
    split at w
    · rename_i ha hb
      obtain ⟨zs, h, hr⟩ := hs _ _ ha
      obtain ⟨zs2, h2, hr2⟩ := hs _ _ hb
      refine mt_extend pins s σ H _ _ v us Q I rx rs ⟨_, _, zs, zs2, rfl, rfl, h, h2, by rw [hr.length, hr2.length]; exact w.1, ?_⟩
      exact f.set (u := .lst _) hs ha ⟨_, upd_same, Reps.mono (tupLe_set hs ha) _ _ (hr.append hr2)⟩ (rep_non.mpr rfl) w.2
    · exact w.elim
  · obtain rfl := rep_ref.mp rd
    obtain ⟨b, ys, rfl, hq, hr2⟩ := rep_tup.mp ry
    split at w
    · rename_i ha
      obtain ⟨zs, h, hr⟩ := hs _ _ ha
      obtain ⟨its2, rv2, ⟨⟨oc, od, oda, osl⟩, e2, hc, m, hd⟩, hz⟩ := I.tuple hq
      cases hc
      cases hd
      obtain ⟨zl, its, n, rv, hl, e0⟩ := I.lstM h
      cases rx
      obtain ⟨u, rfl, ru⟩ := rs.one
      cases ru
      have hsum := w.1
      rw [← hr.length, ← hr2.length] at hsum
      have l1 : its.length = zs.length := rv.length.symm
      have l2 : its2.length = ys.length := rv2.length.symm
      have room : its.toArray.size + its2.toArray.size ≤ sizeLine := by rw [List.size_toArray, List.size_toArray]; omega
      refine call_meets F.slot_list_extend ⟨_, e0, rfl⟩ F.entry_list_extend (F.args_list_extend_2 _ _) (ext_tup _ b its.toArray its2.toArray n m od osl (extend_door room) (by omega) (by omega)) ⟨e0, e2, ?_⟩
      refine ⟨.non, _, I.lset (its' := its ++ its2) h e0 (by simp) (rv.append rv2) (by rw [List.length_append]; omega), rfl, ?_⟩
      exact f.set (u := .lst _) hs ha ⟨_, upd_same, Reps.mono (tupLe_set hs ha) _ _ (hr.append hr2)⟩ (rep_non.mpr rfl) w.2
    · exact w.elim
  · exact w.elim
theorem bm_remove (hu : X.A.units + 65 < cLine) : BMok X "list" "remove" "list.remove" (liftM X.K (bmW .remove)) := by
  refine ⟨F.plainAttrs_list, F.slot_list_remove, F.type_list_remove, ?_⟩
  intro pins s σ H x xs v us Q I rx rs ⟨d, ds, S, Q', rd, rds, hs, w, f⟩
  change removeW d ds S Q' at w
  unfold removeW at w
  split at w <;> first | contradiction | skip
  rename_i a z
  obtain ⟨y, rfl, ry⟩ := reps1 rds
  obtain rfl := rep_ref.mp rd
  split at w
  · rename_i es ha
    obtain ⟨zs, h, hr⟩ := hs _ _ ha
    obtain ⟨p, ps, j, h1, h2, hm, hj, hno, q⟩ := w
    obtain ⟨zl, its, n, rv, hl, e0⟩ := I.lstM h
    cases rx
    obtain ⟨u, us', hry⟩ : ∃ u us', us = u :: us' := by
      cases rs with
      | cons h t => exact ⟨_, _, rfl⟩
    subst hry
    cases rs with
    | cons ru rt =>
    cases rt
    obtain ⟨m1, q1⟩ := Dp.reads I p y u (dp_of _ _ _ ry h1) ru
    obtain ⟨m2, q2⟩ := Dp.readsAll I ps zs its (dps_of _ _ _ hr h2) rv
    have ei : its.map (SeqAt.readOf s.heap) = ps := SeqAt.readsAll_map_plain ps its _ (plainDs h2) q2
    have eAt : ∀ y, y ∈ its.toArray → SeqAt.EqAt X.A.in1 s y u (PyData.eqv (SeqAt.readOf s.heap y) p) := SeqAt.items_plain (A := X.A) (vs := its.toArray) q2 q1 (plainDs h2) (plainD h1) (by omega)
    have at_ : ∀ i (hi : i < its.length), (ps[i]?.map fun z => PyData.eqv z p) = some (PyData.eqv (SeqAt.readOf s.heap its[i]) p) := fun i hi => by
      rw [← ei, List.getElem?_map, List.getElem?_eq_getElem hi] <;> rfl
    have hjl : j < its.length := by
      refine Classical.byContradiction fun c => ?_
      have e : ps[j]? = none := by rw [← ei]; exact List.getElem?_eq_none (by rw [List.length_map]; omega)
      rw [e] at hj
      cases hj
    refine call_meets F.slot_list_remove ⟨_, e0, rfl⟩ F.entry_list_remove (F.args_list_remove_2 _ _)
      (SeqAt.list_removeAt a its.toArray n none #[] u (fun y => PyData.eqv (SeqAt.readOf s.heap y) p) j (by rw [List.size_toArray]; exact hjl) ?hit (fun i hi2 hlt => ?hno) (by rw [List.size_toArray, ← hl]; exact zl)) ⟨e0, eAt, ?_⟩
    case hit =>
      have k := at_ j hjl
      rw [hj] at k
      exact (Option.some.inj k).symm
    case hno =>
      have hi3 : i < its.length := by rw [List.size_toArray] at hi2; exact hi2
      have k := at_ i hi3
      rw [hno i hlt] at k
      exact (Option.some.inj k).symm
    have r2 : Vals (zs.eraseIdx j) (its.eraseIdx j) := rv.eraseIdx j
    refine ⟨.non, _, I.lset (its' := its.eraseIdx j) h e0 ?_ r2 ?_, rfl, ?_⟩
    · show its.toArray.eraseIdxIfInBounds j = (its.eraseIdx j).toArray
      rw [List.eraseIdxIfInBounds_toArray]
    · have := List.length_eraseIdx_le zs j
      omega
    · exact f.set (u := .lst _) hs ha ⟨_, upd_same, Reps.mono (tupLe_set hs ha) _ _ (hr.eraseIdx j)⟩ (rep_non.mpr rfl) q
  · exact w.elim
theorem bm_pop : BMok X "list" "pop" "list.pop" (liftM X.K (bmW .pop)) := by
  refine ⟨F.plainAttrs_list, F.slot_list_pop, F.type_list_pop, ?_⟩
  intro pins s σ H x xs v us Q I rx rs ⟨d, ds, S, Q', rd, rds, hs, w, f⟩
  unfold bmW at w
  split at w <;> first | contradiction | skip
  obtain rfl := reps_nil.mp rds
  split at w
  · obtain rfl := rep_ref.mp rd
    split at w
    · rename_i ha
      obtain ⟨zs, h, hr⟩ := hs _ _ ha
      split at w
      · rename_i hl
        obtain ⟨y, hy, ry⟩ := hr.get hl
        rw [← hr.length] at hy
        refine mt_pop pins s σ H _ _ v us Q I rx rs ⟨_, zs, y, rfl, rfl, h, hy, ?_⟩
        exact f.set (u := .lst _) hs ha ⟨_, upd_same, Reps.mono (tupLe_set hs ha) _ _ hr.dropLast⟩ (Rep.mono (tupLe_set hs ha) _ _ ry) w
      · exact w.elim
    · exact w.elim
  · exact w.elim
theorem bm_insert : BMok X "list" "insert" "list.insert" (liftM X.K (bmW .insert)) := by
  refine ⟨F.plainAttrs_list, F.slot_list_insert, F.type_list_insert, ?_⟩
  intro pins s σ H x xs v us Q I rx rs ⟨d, ds, S, Q', rd, rds, hs, w, f⟩
  unfold bmW at w
  split at w <;> first | contradiction | skip
  obtain ⟨i, y, rfl, ri, ry⟩ := reps2 rds
  split at w
  · obtain rfl := rep_ref.mp rd
    obtain rfl := rep_int.mp ri
    split at w
    · rename_i ha
      obtain ⟨zs, h, hr⟩ := hs _ _ ha
      obtain ⟨⟨w1, w2, w3⟩, w⟩ := w
      refine mt_insert pins s σ H _ _ v us Q I rx rs ⟨_, zs, _, y, rfl, rfl, h, by rw [hr.length]; exact w1, w2, w3, ?_⟩
      exact f.set (u := .lst _) hs ha ⟨_, upd_same, Reps.mono (tupLe_set hs ha) _ _ (((hr.take _).append (reps_cons.mpr ⟨y, [], rfl, ry, reps_nil.mpr rfl⟩)).append (hr.drop _))⟩ (rep_non.mpr rfl) w
    · exact w.elim
  · exact w.elim
theorem bm_get (hu : X.A.units + 1 < cLine) : BMok X "dict" "get" "dict.get" (liftM X.K (bmW .get)) := by
  refine ⟨F.plainAttrs_dict, F.slot_dict_get, F.type_dict_get, ?_⟩
  intro pins s σ H x xs v us Q I rx rs ⟨d, ds, S, Q', rd, rds, hs, w, f⟩
  unfold bmW at w
  split at w <;> first | contradiction | skip
  obtain ⟨i, y, rfl, ri, ry⟩ := reps2 rds
  split at w
  · obtain rfl := rep_ref.mp rd
    split at w
    · rename_i ha
      obtain ⟨zs, h, hr⟩ := hs _ _ ha
      split at w
      · rename_i k hk
        obtain rfl := keyOf_eq hk ri
        cases rx
        cases rs with
        | cons r1 rs =>
          cases rs with
          | cons r2 rs =>
            cases rs
            refine d_get2 hu I (.k h) r1 r2 fun w' s2 I2 rw' => ⟨_, H, I2, rw', ?_⟩
            refine f.val hs ?_ w
            have rv := hr.val k
            cases e1 : getD _ k with
            | none =>
              rw [e1] at rv
              cases e2 : valV zs k with
              | none => exact ry
              | some _ => rw [e2] at rv; exact rv.elim
            | some dv =>
              rw [e1] at rv
              cases e2 : valV zs k with
              | none => rw [e2] at rv; exact rv.elim
              | some vv => rw [e2] at rv; exact rv
      · exact w.elim
    · exact w.elim
  · exact w.elim
theorem bm_join : BMok X "str" "join" "str.join" (liftM X.K (bmW .join)) := by
  refine ⟨F.plainAttrs_str, F.slot_str_join, F.type_str_join, ?_⟩
  intro pins s σ H x xs v us Q I rx rs ⟨d, ds, S, Q', rd, rds, hs, w, f⟩
  unfold bmW at w
  split at w <;> first | contradiction | skip
  obtain ⟨y, rfl, ry⟩ := reps1 rds
  split at w
  · obtain rfl := rep_str.mp rd
    split at w
    · rename_i hi
      obtain ⟨a, ys, rfl, hl, hr⟩ := itemsL_ok hs ry hi
      split at w
      · rename_i hk
        rw [strsOf_eq hk] at hr
        obtain rfl := Reps.strs.mp hr
        exact mt_join pins s σ H _ _ v us Q I rx rs ⟨_, a, _, rfl, rfl, .inl hl, w.1, f.str hs w.2⟩
      · exact w.elim
    · exact w.elim
  · exact w.elim
theorem bm_startswith : BMok X "str" "startswith" "str.startswith" (liftM X.K (bmW .startswith)) := by
  refine ⟨F.plainAttrs_str, F.slot_str_startswith, F.type_str_startswith, ?_⟩
  intro pins s σ H x xs v us Q I rx rs ⟨d, ds, S, Q', rd, rds, hs, w, f⟩
  unfold bmW at w
  split at w <;> first | contradiction | skip
  obtain ⟨y, rfl, ry⟩ := reps1 rds
  split at w
  · obtain rfl := rep_str.mp rd
    obtain rfl := rep_str.mp ry
    exact mt_startswith pins s σ H _ _ v us Q I rx rs ⟨_, _, rfl, rfl, f.bl hs w⟩
  · exact w.elim
def bmT : BM → String → Bool
  | .append, "list" => true | .extend, "list" => true | .pop, "list" => true | .insert, "list" => true | .get, "dict" => true | .join, "str" => true | .startswith, "str" => true | .remove, "list" => true
  | _, _ => false
theorem bmz (hu : X.A.units + 65 < cLine) (m : BM) (T : String) (h : bmT m T = true) : ∃ id, BMok X T m.name id (liftM X.K (bmW m)) := by
  unfold bmT at h
  split at h
  · exact ⟨_, bm_append⟩
  · exact ⟨_, bm_extend⟩
  · exact ⟨_, bm_pop⟩
  · exact ⟨_, bm_insert⟩
  · exact ⟨_, bm_get (by omega)⟩
  · exact ⟨_, bm_join⟩
  · exact ⟨_, bm_startswith⟩
  · exact ⟨_, bm_remove hu⟩
  · cases h
end
end Z

/-! ### Z7 -/
/-! Z7: the syntax and what a piece of it asks. -/
namespace Z
open PySem PySem.Spec PyProof.Rows L2
/-- the entries, one behind another -/
def dicOf : List D → List (Key × D) → Option (List (Key × D))
  | [], acc => some acc
  | k :: v :: r, acc => match keyOf k with
    | some kk => dicOf r (putD acc kk v)
    | none => none
  | _, _ => none
inductive BOp where
  | add | sub | mul | fdiv | mod | pow
inductive COp where
  | eq | ne | lt | le | gt | ge | is | isn | in_ | nin
mutual
/-- a target: a slot, or a tuple of targets -/
inductive Tg where
  | v (i : Nat)
  | t (ts : Tgs)
inductive Tgs where
  | nil
  | cons (t : Tg) (r : Tgs)
end
mutual
inductive E where
  | non | bl (b : Bool) | int (i : Int) | str (x : Str)
  | var (i : Nat) | glob (x : Str) | ty (x : String)
  | bin (o : BOp) (a b : E) | neg (a : E)
  | cmp (o : COp) (a b : E) | chn (o p : COp) (a b c : E)
  | notE (a : E) | andE (es : Es) | orE (es : Es) | ite (c a b : E)
  | tup (es : Es) | lst (es : Es) | dic (es : Es)
  | ix (a b : E) | rsl (a : E) | sl (a : E) (lo hi : EO)
  | fld (a : E) (f : Str)
  | call (f : Str) (es : Es) | make (C : Str) (es : Es) | meth (o : E) (m : Str) (es : Es)
  | bi (f : BF) (es : Es) | trev (e : E) | bm (o : E) (m : BM) (es : Es)
  | lc (elt : E) (tg : Tg) (it : Wk) (ifs : EO) (own : List Nat) | ssc (elt : E) (tg : Tg) (it : Wk) (ifs : EO) (own : List Nat)
  | dc (k v : E) (tg : Tg) (it : Wk) (ifs : EO) (own : List Nat)
inductive Es where
  | nil
  | cons (e : E) (r : Es)
inductive EO where
  | no
  | so (e : E)
/-- what is walked -/
inductive Wk where
  | val (e : E) | rng1 (a : E) | rng2 (a b : E) | enum (e : E) | zip (a b : E) | rev (e : E) | keys (e : E)
end
mutual
inductive S where
  | set (t : Tg) (e : E) | unl (ts : Tgs) (e : E) | setIx (o i e : E) | setFld (o : E) (f : Str) (e : E)
  | aug (i : Nat) (o : BOp) (e : E) | augFld (o : E) (f : Str) (p : BOp) (e : E) | augIx (o i : E) (p : BOp) (e : E)
  | ex (e : E) | ret (e : E) | retN | ife (c : E) (a b : Ss) | fr (t : Tg) (it : Wk) (b : Ss) | wh (c : E) (b : Ss) | brk | cnt | pas | nev
inductive Ss where
  | nil
  | cons (s : S) (r : Ss)
end
def putFD (f : Str) (v : D) : List (Str × D) → List (Str × D)
  | [] => [(f, v)]
  | (g, x) :: r => if g = f then (g, v) :: r else (g, x) :: putFD f v r
/-- what the names of the module stand for -/
structure G where
  glob : Str → Option D
  call : Str → WC
  meth : Str → Str → WC
  init : Str → WC
  noat : Str → Str → Bool
  ism : Str → Str → Bool
def bopW : BOp → W2
  | .add => addW | .sub => subW | .mul => mulW | .fdiv => fdivW | .mod => modW | .pow => powW
def cmpC : COp → D → D → Sto → (Bool → Prop) → Prop
  | .eq, d, e, S, Q => eqC d e S Q
  | .ne, d, e, S, Q => eqC d e S fun b => Q (!b)
  | .lt, d, e, _, Q => ltC d e Q
  | .le, d, e, _, Q => leC d e Q
  | .gt, d, e, _, Q => ltC e d Q
  | .ge, d, e, _, Q => leC e d Q
  | .is, d, e, _, Q => isC d e Q
  | .isn, d, e, _, Q => isC d e fun b => Q (!b)
  | .in_, d, e, S, Q => inC d e S Q
  | .nin, d, e, S, Q => inC d e S fun b => Q (!b)
def truthOf (W : WE) : WT := fun ρ S Q => W ρ S fun d S1 => truC d S1 fun b => Q b S1
abbrev ofE (W : WE) : WE × WT := (W, truthOf W)
def wipeE (ρ : Ev) : List Nat → Ev
  | [] => ρ
  | v :: vs => (wipeE ρ vs).set v none
def tgLen : Tgs → Nat
  | .nil => 0
  | .cons _ r => tgLen r + 1
mutual
def asgW : Tg → D → Ev → (Ev → Prop) → Prop
  | .v i, d, ρ, k => k (ρ.set i (some d))
  | .t ts, d, ρ, k => match d with
    | .tup ds => ds.length = tgLen ts ∧ asgWs ts ds ρ k
    | _ => False
def asgWs : Tgs → List D → Ev → (Ev → Prop) → Prop
  | .nil, [], ρ, k => k ρ
  | .cons t r, d :: ds, ρ, k => asgW t d ρ fun ρ1 => asgWs r ds ρ1 k
  | _, _, _, _ => False
end
/-- a loop over items: chk, what must hold ahead of each turn -/
def loopW (chk : Sto → Prop) (turn : D → Ev → Sto → (Ev → Sto → Prop) → Prop) (nx : Ev → Sto → Prop) : List D → Ev → Sto → Prop
  | [], ρ, S => chk S ∧ nx ρ S
  | d :: r, ρ, S => chk S ∧ turn d ρ S (loopW chk turn nx r)
def lcW (chk : Sto → Prop) (turn : D → Sto → (Option D → Sto → Prop) → Prop) (k : List D → Sto → Prop) : List D → List D → Sto → Prop
  | [], acc, S => chk S ∧ k acc S
  | d :: r, acc, S => chk S ∧ turn d S fun o S1 => match o with
    | some v => acc.length < sizeLine ∧ lcW chk turn k r (acc ++ [v]) S1
    | none => lcW chk turn k r acc S1
def tsOf : D → Option (List Str)
  | .tup ds => strsOf ds
  | _ => none
def scW (chk : Sto → Prop) (turn : D → Sto → (Option D → Sto → Prop) → Prop) (k : List (List Str) → Sto → Prop) : List D → List (List Str) → Sto → Prop
  | [], acc, S => chk S ∧ k acc S
  | d :: r, acc, S => chk S ∧ turn d S fun o S1 => match o with
    | some v => match tsOf v with
      | some q => (acc.length + 1 < 64 ∧ q ≠ []) ∧ scW chk turn k r (acc ++ [q]) S1
      | none => False
    | none => scW chk turn k r acc S1
/-- what sorted gives of the tuples met -/
def scEnd (Q : PK D) (acc : List (List Str)) (S : Sto) : Prop := ∀ out : List (List Str), out.Nodup → (∀ q, q ∈ out ↔ q ∈ acc) → (out.Pairwise fun x y => lexS y x = false) → ∀ p, S p = none → Q (.ref p) (up S p (.lst (out.map tsD)))
def dcW (chk : Sto → Prop) (turn : D → Sto → (Option (D × D) → Sto → Prop) → Prop) (k : List (Key × D) → Sto → Prop) : List D → List (Key × D) → Sto → Prop
  | [], acc, S => chk S ∧ k acc S
  | d :: r, acc, S => chk S ∧ turn d S fun o S1 => match o with
    | some (kd, v) => match keyOf kd with
      | some kk => acc.length < sizeLine ∧ dcW chk turn k r (putD acc kk v) S1
      | none => False
    | none => dcW chk turn k r acc S1
/-- the items of a value that is walked, and what must stay -/
def walkC (d : D) (S : Sto) (R : List D → (Sto → Prop) → Prop) : Prop := match d with
  | .tup ds => R ds fun _ => True
  | .str x => R (x.cps.toList.map fun c => .str ⟨#[c]⟩) fun _ => True
  | .ref a => match S a with
    | some (.lst ds) => R ds fun S1 => S1 a = some (.lst ds)
    | _ => False
  | _ => False
/-- .. of a list -/
def walkL (d : D) (S : Sto) (R : List D → (Sto → Prop) → Prop) : Prop := match d with
  | .ref a => match S a with
    | some (.lst ds) => R ds fun S1 => S1 a = some (.lst ds)
    | _ => False
  | _ => False
/-- .. of a list or a tuple -/
def walkLT (d : D) (S : Sto) (R : List D → (Sto → Prop) → Prop) : Prop := match d with
  | .tup ds => R ds fun _ => True
  | d => walkL d S R
def rngD (lo : Int) (n : Nat) : List D := (List.range n).map fun (i : Nat) => .int (lo + (i : Int))
def enumD (ds : List D) : List D := ds.zipIdx.map fun p => .tup [.int ((p.2 : Nat) : Int), p.1]
def zipD (ds es : List D) : List D := (ds.zip es).map fun p => .tup [p.1, p.2]
def zipC (d e : D) (S : Sto) (R : List D → (Sto → Prop) → Prop) : Prop := match d, e with
  | .tup ds, .tup es => R (zipD ds es) fun _ => True
  | d, e => walkL d S fun ds c1 => walkL e S fun es c2 => R (zipD ds es) fun S => c1 S ∧ c2 S
/-- the keys of a dict: it is frozen from here on -/
def keysC (d : D) (S : Sto) (R : List D → (Sto → Prop) → Sto → Prop) : Prop := match d with
  | .ref a => match S a with
    | some (.dic kvs) => ∀ o vs, R (kvs.map fun p => keyD p.1) (fun S2 => S2 a = some (.fdc o vs kvs)) (up S a (.fdc o vs kvs))
    | some (.fdc o vs kvs) => R (kvs.map fun p => keyD p.1) (fun S2 => S2 a = some (.fdc o vs kvs)) S
    | _ => False
  | _ => False
abbrev WI := Ev → Sto → (List D → (Sto → Prop) → Sto → Prop) → Prop
def fldC (g : G) (d : D) (f : Str) (S : Sto) (Q : D → Prop) : Prop := match d with
  | .ref a => match S a with
    | some (.ins C fs) => g.noat C f = true ∧ match fs.lookup f with
      | some v => Q v
      | none => False
    | _ => False
  | _ => False
mutual
def wp (g : G) : E → WE × WT
  | .non => ofE fun _ S Q => Q .non S
  | .bl b => ofE fun _ S Q => Q (.bl b) S
  | .int i => ofE fun _ S Q => Q (.int i) S
  | .str x => ofE fun _ S Q => Q (.str x) S
  | .ty x => ofE fun _ S Q => Q (.ty x) S
  | .var i => ofE fun ρ S Q => match ρ[i]? with
    | some (some d) => Q d S
    | _ => False
  | .glob x => ofE fun _ S Q => match g.glob x with
    | some d => Q d S
    | none => False
  | .bin o a b => ofE fun ρ S Q => (wp g a).1 ρ S fun d S1 => (wp g b).1 ρ S1 fun e S2 => bopW o d e S2 Q
  | .neg a => ofE fun ρ S Q => (wp g a).1 ρ S fun d S1 => negW d S1 Q
  | .cmp o a b => (fun ρ S Q => (wp g a).1 ρ S fun d S1 => (wp g b).1 ρ S1 fun e S2 => cmpC o d e S2 fun k => Q (.bl k) S2,
      fun ρ S Q => (wp g a).1 ρ S fun d S1 => (wp g b).1 ρ S1 fun e S2 => cmpC o d e S2 fun k => Q k S2)
  | .chn o p a b c => (fun ρ S Q => (wp g a).1 ρ S fun d S1 => (wp g b).1 ρ S1 fun e S2 => cmpC o d e S2 fun k => if k = true then (wp g c).1 ρ S2 fun f S3 => cmpC p e f S3 fun k => Q (.bl k) S3 else Q (.bl false) S2,
      fun ρ S Q => (wp g a).1 ρ S fun d S1 => (wp g b).1 ρ S1 fun e S2 => cmpC o d e S2 fun k => if k = true then (wp g c).1 ρ S2 fun f S3 => cmpC p e f S3 fun k => Q k S3 else Q false S2)
  | .notE a => (fun ρ S Q => (wp g a).1 ρ S fun d S1 => truC d S1 fun b => Q (.bl (!b)) S1, fun ρ S Q => (wp g a).2 ρ S fun b S1 => Q (!b) S1)
  | .andE es => ((wpAnd g es).1, (wpAnd g es).2)
  | .orE es => ((wpOr g es).1, (wpOr g es).2)
  | .ite c a b => (fun ρ S Q => (wp g c).2 ρ S fun k S1 => if k = true then (wp g a).1 ρ S1 Q else (wp g b).1 ρ S1 Q, fun _ _ _ => False)
  | .tup es => ofE fun ρ S Q => wpEs g es ρ S fun ds S1 => ds.length ≤ sizeLine ∧ Q (.tup ds) S1
  | .lst es => ofE fun ρ S Q => wpEs g es ρ S fun ds S1 => ds.length ≤ sizeLine ∧ ∀ p, S1 p = none → Q (.ref p) (up S1 p (.lst ds))
  | .dic es => match es with
    | .nil => ofE fun ρ S Q => ∀ p, S p = none → Q (.ref p) (up S p (.dic []))
    | .cons k r => ofE fun ρ S Q => wpEs g (.cons k r) ρ S fun ds S1 => ds.length ≤ 1000 ∧ match dicOf ds [] with
      | some kvs => ∀ p, S1 p = none → Q (.ref p) (up S1 p (.dic kvs))
      | none => False
  | .rsl a => ofE fun ρ S Q => (wp g a).1 ρ S fun d S1 => match d with
    | .ref q => match S1 q with
      | some (.lst ds) => ∀ p, S1 p = none → Q (.ref p) (up S1 p (.lst ds.reverse))
      | _ => False
    | _ => False
  | .ix a b => ofE fun ρ S Q => (wp g a).1 ρ S fun d S1 => (wp g b).1 ρ S1 fun e S2 => ixC d e S2 fun v => Q v S2
  | .sl a lo hi => ofE fun ρ S Q => (wp g a).1 ρ S fun d S1 => wpO g lo ρ S1 fun l S2 => wpO g hi ρ S2 fun h S3 => slC d l h S3 Q
  | .fld a f => ofE fun ρ S Q => (wp g a).1 ρ S fun d S1 => fldC g d f S1 fun v => Q v S1
  | .call f es => ofE fun ρ S Q => wpEs g es ρ S fun ds S1 => g.call f ds S1 Q
  | .make C es => ofE fun ρ S Q => wpEs g es ρ S fun ds S1 => ∀ p, S1 p = none → g.init C (.ref p :: ds) (up S1 p (.ins C [])) fun d S2 => d matches .non ∧ Q (.ref p) S2
  | .meth o m es => ofE fun ρ S Q => (wp g o).1 ρ S fun d S1 => match d with
    | .ref a => match S1 a with
      | some (.ins C fs) => (g.ism C m = true ∧ fs.lookup m = none) ∧ wpEs g es ρ S1 fun ds S2 => g.meth C m (.ref a :: ds) S2 Q
      | _ => False
    | _ => False
  | .bi f es => ofE fun ρ S Q => wpEs g es ρ S fun ds S1 => bfW f ds S1 Q
  | .trev e => ofE fun ρ S Q => (wp g e).1 ρ S fun d S1 => match itemsL S1 d with
    | some ds => Q (.tup ds.reverse) S1
    | none => False
  | .bm o m es => ofE fun ρ S Q => (wp g o).1 ρ S fun d S1 => match rcv d S1 with
    | some T => bmT m T = true ∧ wpEs g es ρ S1 fun ds S2 => bmW m d ds S2 Q
    | none => False
  | .lc elt tg it ifs own => ofE fun ρ S Q => wpI g it ρ S fun ds chk S1 =>
      lcW chk (fun d S2 k => asgW tg d (wipeE ρ own) fun ρ1 => wpIf g ifs ρ1 S2 fun b S3 => if b = true then (wp g elt).1 ρ1 S3 fun v S4 => k (some v) S4 else k none S3)
        (fun acc S2 => ∀ p, S2 p = none → Q (.ref p) (up S2 p (.lst acc))) ds [] S1
  | .ssc elt tg it ifs own => ofE fun ρ S Q => wpI g it ρ S fun ds chk S1 =>
      scW chk (fun d S2 k => asgW tg d (wipeE ρ own) fun ρ1 => wpIf g ifs ρ1 S2 fun b S3 => if b = true then (wp g elt).1 ρ1 S3 fun v S4 => k (some v) S4 else k none S3) (scEnd Q) ds [] S1
  | .dc ke ve tg it ifs own => ofE fun ρ S Q => wpI g it ρ S fun ds chk S1 =>
      dcW chk (fun d S2 k => asgW tg d (wipeE ρ own) fun ρ1 => wpIf g ifs ρ1 S2 fun b S3 => if b = true then (wp g ke).1 ρ1 S3 fun kd S4 => (wp g ve).1 ρ1 S4 fun v S5 => k (some (kd, v)) S5 else k none S3)
        (fun acc S2 => ∀ p, S2 p = none → Q (.ref p) (up S2 p (.dic acc))) ds [] S1
def wpEs (g : G) : Es → WA
  | .nil => fun _ S Q => Q [] S
  | .cons e r => fun ρ S Q => (wp g e).1 ρ S fun d S1 => wpEs g r ρ S1 fun ds S2 => Q (d :: ds) S2
def wpAnd (g : G) : Es → WE × WT
  | .nil => (fun _ _ _ => False, fun _ _ _ => False)
  | .cons e r => match r with
    | .nil => ((wp g e).1, (wp g e).2)
    | .cons _ _ => (fun ρ S Q => (wp g e).1 ρ S fun d S1 => truC d S1 fun b => if b = true then (wpAnd g r).1 ρ S1 Q else Q d S1,
        fun ρ S Q => (wp g e).2 ρ S fun b S1 => if b = true then (wpAnd g r).2 ρ S1 Q else Q false S1)
def wpOr (g : G) : Es → WE × WT
  | .nil => (fun _ _ _ => False, fun _ _ _ => False)
  | .cons e r => match r with
    | .nil => ((wp g e).1, (wp g e).2)
    | .cons _ _ => (fun ρ S Q => (wp g e).1 ρ S fun d S1 => truC d S1 fun b => if b = true then Q d S1 else (wpOr g r).1 ρ S1 Q,
        fun ρ S Q => (wp g e).2 ρ S fun b S1 => if b = true then Q true S1 else (wpOr g r).2 ρ S1 Q)
def wpO (g : G) : EO → Ev → Sto → (Option Int → Sto → Prop) → Prop
  | .no => fun _ S Q => Q none S
  | .so e => fun ρ S Q => (wp g e).1 ρ S fun d S1 => match d with
    | .int i => Q (some i) S1
    | _ => False
def wpIf (g : G) : EO → WT
  | .no => fun _ S Q => Q true S
  | .so e => fun ρ S Q => (wp g e).2 ρ S Q
def wpI (g : G) : Wk → WI
  | .val e => fun ρ S R => (wp g e).1 ρ S fun d S1 => walkC d S1 fun ds chk => R ds chk S1
  | .keys e => fun ρ S R => (wp g e).1 ρ S fun d S1 => keysC d S1 R
  | .rng1 a => fun ρ S R => (wp g a).1 ρ S fun d S1 => match d with
    | .int n => (-(2 ^ 62) ≤ n ∧ n < 2 ^ 62) ∧ R (rngD 0 n.toNat) (fun _ => True) S1
    | _ => False
  | .rng2 a b => fun ρ S R => (wp g a).1 ρ S fun d S1 => (wp g b).1 ρ S1 fun e S2 => match d, e with
    | .int m, .int n => ((-(2 ^ 62) ≤ m ∧ m < 2 ^ 62) ∧ -(2 ^ 62) ≤ n ∧ n < 2 ^ 62) ∧ R (rngD m (n - m).toNat) (fun _ => True) S2
    | _, _ => False
  | .enum e => fun ρ S R => (wp g e).1 ρ S fun d S1 => walkLT d S1 fun ds chk => R (enumD ds) chk S1
  | .zip a b => fun ρ S R => (wp g a).1 ρ S fun d S1 => (wp g b).1 ρ S1 fun e S2 => walkLT d S2 fun ds c1 => walkLT e S2 fun es c2 => R (zipD ds es) (fun S => c1 S ∧ c2 S) S2
  | .rev e => fun ρ S R => (wp g e).1 ρ S fun d S1 => walkLT d S1 fun ds chk => R ds.reverse chk S1
end
structure En where
  nx : Ev → Sto → Prop
  rt : PK D
  bk : Ev → Sto → Prop := fun _ _ => False
  ct : Ev → Sto → Prop := fun _ _ => False
def whW (c : WT) (b : En → Ev → Sto → Prop) (k : En) : Nat → Ev → Sto → Prop
  | 0 => fun _ _ => False
  | n + 1 => fun ρ S => c ρ S fun t S1 => if t = true then b { k with nx := whW c b k n, ct := whW c b k n, bk := k.nx } ρ S1 else k.nx ρ S1
/-- x op= e -/
def augW : BOp → W2
  | .add, .int i, .int j, S, Q => Q (.int (i + j)) S
  | .add, .str i, .str j, S, Q => i.length + j.length ≤ sizeLine ∧ Q (.str (i ++ j)) S
  | .sub, .int i, .int j, S, Q => Q (.int (i - j)) S
  | _, _, _, _, _ => False
mutual
def wpS (g : G) : S → En → Ev → Sto → Prop
  | .set t e => fun k ρ S => (wp g e).1 ρ S fun d S1 => asgW t d ρ fun ρ1 => k.nx ρ1 S1
  | .unl ts e => fun k ρ S => (wp g e).1 ρ S fun d S1 => match d with
    | .ref a => match S1 a with
      | some (.lst ds) => ds.length = tgLen ts ∧ asgWs ts ds ρ fun ρ1 => k.nx ρ1 S1
      | _ => False
    | _ => False
  | .setIx o i e => fun k ρ S => (wp g e).1 ρ S fun v S1 => (wp g o).1 ρ S1 fun d S2 => (wp g i).1 ρ S2 fun j S3 => setC d j v S3 fun S4 => k.nx ρ S4
  | .setFld o f e => fun k ρ S => (wp g e).1 ρ S fun v S1 => (wp g o).1 ρ S1 fun d S2 => match d with
    | .ref a => match S2 a with
      | some (.ins C fs) => (g.noat C f = true ∧ fs.length < 1000) ∧ k.nx ρ (up S2 a (.ins C (putFD f v fs)))
      | _ => False
    | _ => False
  | .aug i o e => fun k ρ S => match ρ[i]? with
    | some (some x) => (wp g e).1 ρ S fun y S1 => augW o x y S1 fun z S2 => k.nx (ρ.set i (some z)) S2
    | _ => False
  | .augFld o f p e => fun k ρ S => (wp g o).1 ρ S fun d S1 => match d with
    | .ref a => match S1 a with
      | some (.ins C fs) => g.noat C f = true ∧ match fs.lookup f with
        | some v => (wp g e).1 ρ S1 fun y S2 => augW p v y S2 fun z S3 => match S3 a with
          | some (.ins C' fs') => (C' = C ∧ fs'.length < 1000) ∧ k.nx ρ (up S3 a (.ins C (putFD f z fs')))
          | _ => False
        | none => False
      | _ => False
    | _ => False
  | .augIx o i p e => fun k ρ S => False
  | .ex e => fun k ρ S => (wp g e).1 ρ S fun _ S1 => k.nx ρ S1
  | .ret e => fun k ρ S => (wp g e).1 ρ S k.rt
  | .retN => fun k _ S => k.rt .non S
  | .ife c a b => fun k ρ S => (wp g c).2 ρ S fun t S1 => if t = true then wpSs g a k ρ S1 else wpSs g b k ρ S1
  | .fr t it b => fun k ρ S => wpI g it ρ S fun ds chk S1 =>
      loopW chk (fun d ρ1 S2 nx => asgW t d ρ1 fun ρ2 => wpSs g b { k with nx := nx, ct := nx, bk := k.nx } ρ2 S2) k.nx ds ρ S1
  | .wh c b => fun k ρ S => ∃ n, whW (wp g c).2 (wpSs g b) k n ρ S
  | .brk => fun k ρ S => k.bk ρ S
  | .cnt => fun k ρ S => k.ct ρ S
  | .pas => fun k ρ S => k.nx ρ S
  | .nev => fun _ _ _ => False
def wpSs (g : G) : Ss → En → Ev → Sto → Prop
  | .nil => fun k ρ S => k.nx ρ S
  | .cons s r => fun k ρ S => wpS g s { k with nx := fun ρ1 S1 => wpSs g r k ρ1 S1 } ρ S
end
end Z

/-! ### Z8 -/
/-! Z8: each construct's reading is what the syntax asks. -/
namespace Z
open PySem PySem.Spec PyProof.Rows L2
section
variable {X : Cx}
theorem lift_bind {X : Cx} {Wa : WE} {σ : L2.St} {H : Hp} {Q : VK} {ρ : Ev} {S : Sto} (he : EnvR X.K H ρ σ) (hs : StR X.K H S) {P : PK D} (w : Wa ρ S P)
    (k : ∀ d v H1 S1, Ext H S H1 S1 → EnvR X.K H1 ρ σ → StR X.K H1 S1 → TupLe X.K H H1 → Rep X.K H1 d v → P d S1 → Q v H1) : lift X.K Wa σ H Q :=
  ⟨ρ, S, P, he, hs, w, fun d v H1 S1 e s r q => k d v H1 S1 e (he.mono (e.tups hs)) s (e.tups hs) r q⟩
theorem liftT_bind {X : Cx} {Wa : WT} {σ : L2.St} {H : Hp} {Q : Bool → Hp → Prop} {ρ : Ev} {S : Sto} (he : EnvR X.K H ρ σ) (hs : StR X.K H S) {P : PK Bool} (w : Wa ρ S P)
    (k : ∀ b H1 S1, Ext H S H1 S1 → EnvR X.K H1 ρ σ → StR X.K H1 S1 → P b S1 → Q b H1) : liftT X.K Wa σ H Q :=
  ⟨ρ, S, P, he, hs, w, fun b H1 S1 e s q => k b H1 S1 e (he.mono (e.tups hs)) s q⟩
theorem liftA_bind {X : Cx} {Wa : WA} {σ : L2.St} {H : Hp} {Q : List V → Hp → Prop} {ρ : Ev} {S : Sto} (he : EnvR X.K H ρ σ) (hs : StR X.K H S) {P : PK (List D)} (w : Wa ρ S P)
    (k : ∀ ds vs H1 S1, Ext H S H1 S1 → EnvR X.K H1 ρ σ → StR X.K H1 S1 → TupLe X.K H H1 → Reps X.K H1 ds vs → P ds S1 → Q vs H1) : liftA X.K Wa σ H Q :=
  ⟨ρ, S, P, he, hs, w, fun d v H1 S1 e s r q => k d v H1 S1 e (he.mono (e.tups hs)) s (e.tups hs) r q⟩
variable {a b c : Expr} {Wa Wb Wc : WE} {pos : Pos}
theorem se_const {d : D} {v : V} {e : Expr} (h : PE X e (tC v)) (r : ∀ H, Rep X.K H d v) : SE X e (fun _ S Q => Q d S) :=
  pe_imp h fun σ H Q ⟨ρ, S, Q', he, hs, w, f⟩ => f.val hs (r H) w
theorem se_var {i : Nat} {x : Str} (hN : X.N[i]? = some x) (hv : Vis X.env.scope x) (hd : (x == ("__debug__" : Str)) = false) (hcd : (x == ("__classdict__" : Str)) = false) :
    SE X (.Name x pos) (fun ρ S Q => match ρ[i]? with
      | some (some d) => Q d S
      | _ => False) := pe_imp (pe_var hN hv hd hcd) fun σ H Q ⟨ρ, S, Q', he, hs, w, f⟩ => by
  dsimp only at w
  split at w
  · rename_i d hd
    obtain ⟨v, h1, h2⟩ := he.2 i d hd
    exact ⟨v, h1, f.val hs h2 w⟩
  · exact w.elim
theorem se_bin {op : Operator} {W : W2} (ho : OpR X (binaryOp op) (lift2 X.K W)) (ha : SE X a Wa) (hb : SE X b Wb) :
    SE X (.BinOp a op b pos) (fun ρ S Q => Wa ρ S fun d S1 => Wb ρ S1 fun e S2 => W d e S2 Q) :=
  pe_imp (pe_op ho ha hb) fun σ H Q ⟨ρ, S, Q', he, hs, w, f⟩ => lift_bind he hs w fun d v H1 S1 e1 he1 hs1 t1 r1 w1 => lift_bind he1 hs1 w1 fun d2 v2 H2 S2 e2 he2 hs2 t2 r2 w2 =>
    ⟨d, d2, S2, Q', Rep.mono t2 _ _ r1, r2, hs2, w2, f.after (e1.trans e2)⟩
theorem se_un {op : UnaryOp} {W : W1} (ho : UnR X (unaryOp op) (lift1 X.K W)) (ha : SE X a Wa) : SE X (.UnaryOp op a pos) (fun ρ S Q => Wa ρ S fun d S1 => W d S1 Q) :=
  pe_imp (pe_un ho ha) fun σ H Q ⟨ρ, S, Q', he, hs, w, f⟩ => lift_bind he hs w fun d v H1 S1 e1 he1 hs1 t1 r1 w1 => ⟨d, S1, Q', r1, hs1, w1, f.after e1⟩
/-- a comparison that answers a Bool and changes nothing -/
def liftCmp (K : Frag) (C : D → D → Sto → (Bool → Prop) → Prop) : R2 := fun x y H Q => ∃ d e S P, Rep K H d x ∧ Rep K H e y ∧ StR K H S ∧ C d e S P ∧ ∀ b H1, Ext H S H1 S → StR K H1 S → P b → Q (.bl b) H1
theorem cmp_of {op : CmpOp} {C : D → D → Sto → (Bool → Prop) → Prop} (mono : ∀ d e S P P', (∀ b, P b → P' b) → C d e S P → C d e S P') (h : OpR X (compareOp op) (lift2 X.K fun d e S Q => C d e S fun b => Q (.bl b) S)) : OpR X (compareOp op) (liftCmp X.K C) := by
  intro pins s σ H x y v u Q I rx ry ⟨d, e, S, P, rd, re, hs, w, f⟩
  refine h pins s σ H x y v u Q I rx ry ⟨d, e, S, fun d' S' => ∃ b, d' = .bl b ∧ S' = S ∧ P b, rd, re, hs, mono _ _ _ _ _ (fun b q => ⟨b, rfl, rfl, q⟩) w, fun d' v' H1 S1 e1 s1 r1 q1 => ?_⟩
  obtain ⟨b, rfl, rfl, q⟩ := q1
  rw [rep_bl.mp r1]
  exact f b H1 e1 s1 q
theorem se_cmp {op : CmpOp} {C : D → D → Sto → (Bool → Prop) → Prop} (ho : OpR X (compareOp op) (liftCmp X.K C)) (ha : SE X a Wa) (hb : SE X b Wb) (hm : behindInMarks op b = false) :
    SE X (.Compare a [op] [b] pos) (fun ρ S Q => Wa ρ S fun d S1 => Wb ρ S1 fun e S2 => C d e S2 fun k => Q (.bl k) S2) :=
  pe_imp (pe_cmpR ho ha hb hm) fun σ H Q ⟨ρ, S, Q', he, hs, w, f⟩ => lift_bind he hs w fun d v H1 S1 e1 he1 hs1 t1 r1 w1 => lift_bind he1 hs1 w1 fun d2 v2 H2 S2 e2 he2 hs2 t2 r2 w2 =>
    ⟨d, d2, S2, _, Rep.mono t2 _ _ r1, r2, hs2, w2, fun b H3 e3 hs3 q => f (.bl b) _ H3 S2 ((e1.trans e2).trans e3) hs3 (rep_bl.mpr rfl) q⟩
theorem st_cmp {op : CmpOp} {C : D → D → Sto → (Bool → Prop) → Prop} (ho : OpR X (compareOp op) (liftCmp X.K C)) (ha : SE X a Wa) (hb : SE X b Wb) (hm : behindInMarks op b = false) :
    ST X (.Compare a [op] [b] pos) (fun ρ S Q => Wa ρ S fun d S1 => Wb ρ S1 fun e S2 => C d e S2 fun k => Q k S2) :=
  pt_imp (pt_cmpR ho ha hb hm) fun σ H Q ⟨ρ, S, Q', he, hs, w, f⟩ => lift_bind he hs w fun d v H1 S1 e1 he1 hs1 t1 r1 w1 => lift_bind he1 hs1 w1 fun d2 v2 H2 S2 e2 he2 hs2 t2 r2 w2 =>
    ⟨d, d2, S2, _, Rep.mono t2 _ _ r1, r2, hs2, w2, fun b H3 e3 hs3 q => ⟨b, rfl, f b H3 S2 ((e1.trans e2).trans e3) hs3 q⟩⟩
theorem se_chn {op op' : CmpOp} {C C' : D → D → Sto → (Bool → Prop) → Prop} (ho : OpR X (compareOp op) (liftCmp X.K C)) (ho' : OpR X (compareOp op') (liftCmp X.K C')) (ha : SE X a Wa) (hb : SE X b Wb) (hc : SE X c Wc) (hm : lastMarks [op, op'] [b, c] = false) :
    SE X (.Compare a [op, op'] [b, c] pos) (fun ρ S Q => Wa ρ S fun d S1 => Wb ρ S1 fun e S2 => C d e S2 fun k => if k = true then Wc ρ S2 fun f S3 => C' e f S3 fun k => Q (.bl k) S3 else Q (.bl false) S2) :=
  pe_imp (pe_chain ho ho' ha hb hc hm) fun σ H Q ⟨ρ, S, Q', he, hs, w, f⟩ => lift_bind he hs w fun d v H1 S1 e1 he1 hs1 t1 r1 w1 => lift_bind he1 hs1 w1 fun d2 v2 H2 S2 e2 he2 hs2 t2 r2 w2 =>
    ⟨d, d2, S2, _, Rep.mono t2 _ _ r1, r2, hs2, w2, fun b H3 e3 hs3 q => ⟨b, rfl, by
      have e03 := (e1.trans e2).trans e3
      have t3 := e3.tups hs2
      have he3 := he2.mono t3
      cases b with
      | false => exact iteF ((f.after e03).bl hs3 (by simpa using q))
      | true => exact iteT (lift_bind he3 hs3 (by simpa using q) fun d3 v3 H4 S4 e4 he4 hs4 t4 r4 w4 => ⟨d2, d3, S4, _, Rep.mono t4 _ _ (Rep.mono t3 _ _ r2), r4, hs4, w4, fun b H5 e5 hs5 q => f (.bl b) _ H5 S4 ((e03.trans e4).trans e5) hs5 (rep_bl.mpr rfl) q⟩)⟩⟩
theorem st_chn {op op' : CmpOp} {C C' : D → D → Sto → (Bool → Prop) → Prop} (ho : OpR X (compareOp op) (liftCmp X.K C)) (ho' : OpR X (compareOp op') (liftCmp X.K C')) (ha : SE X a Wa) (hb : SE X b Wb) (hc : SE X c Wc) (hm : lastMarks [op, op'] [b, c] = false) :
    ST X (.Compare a [op, op'] [b, c] pos) (fun ρ S Q => Wa ρ S fun d S1 => Wb ρ S1 fun e S2 => C d e S2 fun k => if k = true then Wc ρ S2 fun f S3 => C' e f S3 fun k => Q k S3 else Q false S2) :=
  pt_imp (pt_chain ho ho' ha hb hc hm) fun σ H Q ⟨ρ, S, Q', he, hs, w, f⟩ => lift_bind he hs w fun d v H1 S1 e1 he1 hs1 t1 r1 w1 => lift_bind he1 hs1 w1 fun d2 v2 H2 S2 e2 he2 hs2 t2 r2 w2 =>
    ⟨d, d2, S2, _, Rep.mono t2 _ _ r1, r2, hs2, w2, fun b H3 e3 hs3 q => ⟨b, rfl, by
      have e03 := (e1.trans e2).trans e3
      have t3 := e3.tups hs2
      have he3 := he2.mono t3
      cases b with
      | false => exact iteF ⟨_, rfl, f false H3 S2 e03 hs3 (by simpa using q)⟩
      | true => exact iteT (lift_bind he3 hs3 (by simpa using q) fun d3 v3 H4 S4 e4 he4 hs4 t4 r4 w4 => ⟨d2, d3, S4, _, Rep.mono t4 _ _ (Rep.mono t3 _ _ r2), r4, hs4, w4, fun b H5 e5 hs5 q => ⟨b, rfl, f b H5 S4 ((e03.trans e4).trans e5) hs5 q⟩⟩)⟩⟩
/-! truth -/
theorem st_truth (ha : SE X a Wa) (hp : ∀ whole, isTrue a X.env whole = (do let v ← whole; standAt a.pos; holding [v] (truthy v))) : ST X a (truthOf Wa) :=
  pt_imp (pt_truth ha hp) fun σ H Q ⟨ρ, S, Q', he, hs, w, f⟩ => lift_bind he hs w fun d v H1 S1 e1 he1 hs1 t1 r1 w1 => by
    obtain ⟨k, h1, h2⟩ := truZ hs1 r1 w1
    exact ⟨k, h1, f k H1 S1 e1 hs1 h2⟩
theorem se_not (ha : SE X a Wa) : SE X (.UnaryOp .Not a pos) (fun ρ S Q => Wa ρ S fun d S1 => truC d S1 fun b => Q (.bl (!b)) S1) :=
  pe_imp (pe_notT ha) fun σ H Q ⟨ρ, S, Q', he, hs, w, f⟩ => lift_bind he hs w fun d v H1 S1 e1 he1 hs1 t1 r1 w1 => by
    obtain ⟨k, h1, h2⟩ := truZ hs1 r1 w1
    exact ⟨k, h1, (f.after e1).bl hs1 h2⟩
theorem st_not {Ta : WT} (ha : ST X a Ta) : ST X (.UnaryOp .Not a pos) (fun ρ S Q => Ta ρ S fun b S1 => Q (!b) S1) :=
  pt_imp (pt_not ha) fun σ H Q ⟨ρ, S, Q', he, hs, w, f⟩ => liftT_bind he hs w fun b H1 S1 e1 he1 hs1 w1 => f (!b) H1 S1 e1 hs1 w1
variable {rest : List Expr}
theorem se_and1 {op} (ha : SE X a Wa) : SE X (.BoolOp op [a] pos) Wa := pe_one ha
theorem se_and (ha : SE X a Wa) (hb : SE X (.BoolOp .And (b :: rest) pos) Wb) : SE X (.BoolOp .And (a :: b :: rest) pos) (fun ρ S Q => Wa ρ S fun d S1 => truC d S1 fun k => if k = true then Wb ρ S1 Q else Q d S1) :=
  pe_imp (pe_andT ha hb) fun σ H Q ⟨ρ, S, Q', he, hs, w, f⟩ => lift_bind he hs w fun d v H1 S1 e1 he1 hs1 t1 r1 w1 => by
    obtain ⟨k, h1, h2⟩ := truZ hs1 r1 w1
    refine ⟨k, h1, ?_⟩
    cases k with
    | true => exact iteT ⟨ρ, S1, Q', he1, hs1, by simpa using h2, f.after e1⟩
    | false => exact iteF ((f.after e1).val hs1 r1 (by simpa using h2))
theorem se_or (ha : SE X a Wa) (hb : SE X (.BoolOp .Or (b :: rest) pos) Wb) : SE X (.BoolOp .Or (a :: b :: rest) pos) (fun ρ S Q => Wa ρ S fun d S1 => truC d S1 fun k => if k = true then Q d S1 else Wb ρ S1 Q) :=
  pe_imp (pe_orT ha hb) fun σ H Q ⟨ρ, S, Q', he, hs, w, f⟩ => lift_bind he hs w fun d v H1 S1 e1 he1 hs1 t1 r1 w1 => by
    obtain ⟨k, h1, h2⟩ := truZ hs1 r1 w1
    refine ⟨k, h1, ?_⟩
    cases k with
    | false => exact iteF ⟨ρ, S1, Q', he1, hs1, by simpa using h2, f.after e1⟩
    | true => exact iteT ((f.after e1).val hs1 r1 (by simpa using h2))
theorem sw_and1 {Ta : WT} (ha : ST X a Ta) : SW X (.BoolOp .And [a] pos) Ta := pw_and1 ha
theorem sw_or1 {Ta : WT} (ha : ST X a Ta) : SW X (.BoolOp .Or [a] pos) Ta := pw_or1 ha
theorem sw_and {Ta Tb : WT} (ha : ST X a Ta) (hb : SW X (.BoolOp .And (b :: rest) pos) Tb) : SW X (.BoolOp .And (a :: b :: rest) pos) (fun ρ S Q => Ta ρ S fun k S1 => if k = true then Tb ρ S1 Q else Q false S1) :=
  pw_imp (pw_and ha hb) fun σ H Q ⟨ρ, S, Q', he, hs, w, f⟩ => liftT_bind he hs w fun k H1 S1 e1 he1 hs1 w1 => by
    cases k with
    | true => exact iteT ⟨ρ, S1, Q', he1, hs1, by simpa using w1, f.after e1⟩
    | false => exact iteF (f false H1 S1 e1 hs1 (by simpa using w1))
theorem sw_or {Ta Tb : WT} (ha : ST X a Ta) (hb : SW X (.BoolOp .Or (b :: rest) pos) Tb) : SW X (.BoolOp .Or (a :: b :: rest) pos) (fun ρ S Q => Ta ρ S fun k S1 => if k = true then Q true S1 else Tb ρ S1 Q) :=
  pw_imp (pw_or ha hb) fun σ H Q ⟨ρ, S, Q', he, hs, w, f⟩ => liftT_bind he hs w fun k H1 S1 e1 he1 hs1 w1 => by
    cases k with
    | false => exact iteF ⟨ρ, S1, Q', he1, hs1, by simpa using w1, f.after e1⟩
    | true => exact iteT (f true H1 S1 e1 hs1 (by simpa using w1))
theorem se_ite {Tc : WT} (hc : ST X c Tc) (ha : SE X a Wa) (hb : SE X b Wb) : SE X (.IfExp c a b pos) (fun ρ S Q => Tc ρ S fun k S1 => if k = true then Wa ρ S1 Q else Wb ρ S1 Q) :=
  pe_imp (pe_ifExp hc ha hb) fun σ H Q ⟨ρ, S, Q', he, hs, w, f⟩ => liftT_bind he hs w fun k H1 S1 e1 he1 hs1 w1 => by
    cases k with
    | true => exact iteT ⟨ρ, S1, Q', he1, hs1, by simpa using w1, f.after e1⟩
    | false => exact iteF ⟨ρ, S1, Q', he1, hs1, by simpa using w1, f.after e1⟩
/-! argument lists, displays -/
variable {es : List Expr} {Ws : WA}
theorem sa_nil : SA X [] (fun _ S Q => Q [] S) := pa_imp pa_nil fun σ H Q ⟨ρ, S, Q', he, hs, w, f⟩ => f [] [] H S .refl hs (reps_nil.mpr rfl) w
theorem sa_cons (ha : SE X a Wa) (hr : SA X es Ws) (hst : starEach (a :: es) X.env = (false, eval a X.env) :: starEach es X.env) : SA X (a :: es) (fun ρ S Q => Wa ρ S fun d S1 => Ws ρ S1 fun ds S2 => Q (d :: ds) S2) :=
  pa_imp (pa_cons ha hr hst) fun σ H Q ⟨ρ, S, Q', he, hs, w, f⟩ => lift_bind he hs w fun d v H1 S1 e1 he1 hs1 t1 r1 w1 => liftA_bind he1 hs1 w1 fun ds vs H2 S2 e2 he2 hs2 t2 r2 w2 =>
    f (d :: ds) (v :: vs) H2 S2 (e1.trans e2) hs2 (reps_cons.mpr ⟨v, vs, rfl, Rep.mono t2 _ _ r1, r2⟩) w2
theorem se_tup {k : Nat} (h : SA X es Ws) : SE X (.Tuple es k pos) (fun ρ S Q => Ws ρ S fun ds S1 => ds.length ≤ sizeLine ∧ Q (.tup ds) S1) :=
  pe_imp (pe_tup h) fun σ H Q ⟨ρ, S, Q', he, hs, w, f⟩ => liftA_bind he hs w fun ds vs H1 S1 e1 he1 hs1 t1 r1 w1 => ⟨by rw [r1.length]; exact w1.1, fun p hp => (f.after e1).tup hs1 r1 w1.2 hp⟩
theorem se_lst (h : SA X es Ws) : SE X (.List es pos) (fun ρ S Q => Ws ρ S fun ds S1 => ds.length ≤ sizeLine ∧ ∀ p, S1 p = none → Q (.ref p) (up S1 p (.lst ds))) :=
  pe_imp (pe_lst h) fun σ H Q ⟨ρ, S, Q', he, hs, w, f⟩ => liftA_bind he hs w fun ds vs H1 S1 e1 he1 hs1 t1 r1 w1 => ⟨by rw [r1.length]; exact w1.1, fun p hp => (f.after e1).lst hs1 r1 w1.2 hp⟩
theorem se_dnew : SE X (.Dict [] [] pos) (fun _ S Q => ∀ p, S p = none → Q (.ref p) (up S p (.dic []))) :=
  pe_imp pe_dnewK fun σ H Q ⟨ρ, S, Q', he, hs, w, f⟩ => fun p hp => f.new (u := .dic []) hs hp ⟨[], upd_same, .nil⟩ (w p (hs.fresh hp))
/-! subscripts, slices, fields -/
theorem se_ix (hu : X.A.units + 1 < cLine) (ha : SE X a Wa) (hb : SE X b Wb) (hp : PlainIx b) : SE X (.Subscript a b pos) (fun ρ S Q => Wa ρ S fun d S1 => Wb ρ S1 fun e S2 => ixC d e S2 fun v => Q v S2) :=
  pe_imp (pe_ix (ixz hu) ha hb hp) fun σ H Q ⟨ρ, S, Q', he, hs, w, f⟩ => lift_bind he hs w fun d v H1 S1 e1 he1 hs1 t1 r1 w1 => lift_bind he1 hs1 w1 fun d2 v2 H2 S2 e2 he2 hs2 t2 r2 w2 =>
    ⟨d, d2, S2, Q', Rep.mono t2 _ _ r1, r2, hs2, w2, f.after (e1.trans e2)⟩
abbrev WO := Ev → Sto → (Option Int → Sto → Prop) → Prop
def liftO (K : Frag) (W : WO) : TO := fun σ H Q => ∃ ρ S Q', EnvR K H ρ σ ∧ StR K H S ∧ W ρ S Q' ∧ ∀ o H1 S1, Ext H S H1 S1 → StR K H1 S1 → Q' o S1 → Q o H1
theorem po_imp {e : Option Expr} {t t' : TO} (h : PO X e t) (i : ∀ σ H Q, t' σ H Q → t σ H Q) : PO X e t' := ⟨fun pins s σ H Q I w => h.run pins s σ H Q I (i σ H Q w)⟩
theorem so_none : PO X none (liftO X.K fun _ S Q => Q none S) := po_imp po_none fun σ H Q ⟨ρ, S, Q', he, hs, w, f⟩ => f none H S .refl hs w
theorem so_some (ha : SE X a Wa) : PO X (some a) (liftO X.K fun ρ S Q => Wa ρ S fun d S1 => match d with
    | .int i => Q (some i) S1
    | _ => False) := po_imp (po_some ha) fun σ H Q ⟨ρ, S, Q', he, hs, w, f⟩ => lift_bind he hs w fun d v H1 S1 e1 he1 hs1 t1 r1 w1 => by
  split at w1
  · exact ⟨_, rep_int.mp r1, f _ H1 S1 e1 hs1 w1⟩
  · exact w1.elim
theorem se_sl {lo hi : Option Expr} {p2 : Pos} {Wl Wh : WO} (ha : SE X a Wa) (hl : PO X lo (liftO X.K Wl)) (hh : PO X hi (liftO X.K Wh)) :
    SE X (.Subscript a (.Slice lo hi none p2) pos) (fun ρ S Q => Wa ρ S fun d S1 => Wl ρ S1 fun l S2 => Wh ρ S2 fun h S3 => slC d l h S3 Q) :=
  pe_imp (pe_slice slz ha hl hh) fun σ H Q ⟨ρ, S, Q', he, hs, w, f⟩ => lift_bind he hs w fun d v H1 S1 e1 he1 hs1 t1 r1 w1 => by
    refine ⟨ρ, S1, _, he1, hs1, w1, fun o H2 S2 e2 hs2 w2 => ?_⟩
    have t2 := e2.tups hs1
    have he2 := he1.mono t2
    refine ⟨ρ, S2, _, he2, hs2, w2, fun o3 H3 S3 e3 hs3 w3 => ?_⟩
    have t3 := e3.tups hs2
    exact ⟨d, S3, Q', Rep.mono t3 _ _ (Rep.mono t2 _ _ r1), hs3, w3, f.after ((e1.trans e2).trans e3)⟩
theorem RepKV.lookup {K : Frag} {H : Hp} {fs : List (Str × D)} {vs : List (Str × V)} (r : RepKV K H fs vs) (f : Str) : RelOD K H (fs.lookup f) (vs.lookup f) := by
  unfold RepKV at r
  induction r with
  | nil => exact True.intro
  | @cons p q ps qs h t ih =>
    obtain ⟨p1, p2⟩ := p
    obtain ⟨q1, q2⟩ := q
    obtain ⟨h1, h2⟩ := h
    simp only at h1 h2
    subst h1
    rw [List.lookup_cons, List.lookup_cons]
    split
    · exact h2
    · exact ih
theorem RelOD.some_of {K : Frag} {H : Hp} {o : Option V} {d : D} (r : RelOD K H (some d) o) : ∃ v, o = some v ∧ Rep K H d v := by
  cases o with
  | none => exact r.elim
  | some v => exact ⟨v, rfl, r⟩
theorem RelOD.none_of {K : Frag} {H : Hp} {o : Option V} (r : RelOD K H none o) : o = none := by
  cases o with
  | none => rfl
  | some v => exact r.elim
theorem se_fld {g : G} {f : Str} (hn : ∀ C, g.noat C f = true → Cls X.K (He.ga X.K C) ∧ NoAttr X.K (He.ga X.K C) f) (ha : SE X a Wa) (hb : attributeBase a f X.env (eval a X.env) = eval a X.env) :
    SE X (.Attribute a f pos) (fun ρ S Q => Wa ρ S fun d S1 => fldC g d f S1 fun v => Q v S1) :=
  pe_imp (pe_fld ha hb) fun σ H Q ⟨ρ, S, Q', he, hs, w, fn⟩ => lift_bind he hs w fun d v H1 S1 e1 he1 hs1 t1 r1 w1 => by
    unfold fldC at w1
    split at w1
    · obtain rfl := rep_ref.mp r1
      split at w1
      · rename_i C fs hC
        obtain ⟨dx, vs, h, hr⟩ := hs1 _ _ hC
        obtain ⟨c1, c2⟩ := hn C w1.1
        have w1 := w1.2
        have rl := hr.lookup f
        split at w1
        · rename_i dv hl
          rw [hl] at rl
          obtain ⟨z, hz, rz⟩ := rl.some_of
          exact ⟨_, _, dx, vs, z, rfl, h, c1, c2, hz, (fn.after e1).val hs1 rz w1⟩
        · exact w1.elim
      · exact w1.elim
    · exact w1.elim
/-! calls -/
def spOf (K : Frag) (W : WC) : Sp := fun vs H Q _ => liftC K W vs H Q
theorem se_call0 {CX : CXT} {k : Nat} {f : Addr} {fd : FuncData} {ps : List Str} {W : WC} {x : Str} {p : Pos} (F : FnOk X.prog X.w X.K X.mg X.base CX k f fd ps (spOf X.K W)) (hr : Room k X.A) (hg : Gl X x) (hm : X.mg x = some (.ref f))
    (hk : PySem.W.keepIn X.K (.ref f) = true) (hb : Binds X.K fd ps []) (hx : Passes CX X E0) (hd : (x == ("__debug__" : Str)) = false) : SE X (.Call (.Name x p) [] [] pos) (fun _ S Q => W [] S Q) :=
  pe_imp (pe_call0 (dvs := []) (ds := []) F hr hg hm hk hb .nil hx hd) fun σ H Q ⟨ρ, S, Q', he, hs, w, f⟩ => ⟨[], S, Q', reps_nil.mpr rfl, hs, w, f⟩
theorem se_call {CX : CXT} {k : Nat} {f : Addr} {fd : FuncData} {ps : List Str} {W : WC} {x : Str} {p : Pos} {e : Expr} (F : FnOk X.prog X.w X.K X.mg X.base CX k f fd ps (spOf X.K W)) (hr : Room k X.A) (hg : Gl X x) (hm : X.mg x = some (.ref f))
    (hk : PySem.W.keepIn X.K (.ref f) = true) (hb : Binds X.K fd ps []) (hx : Passes CX X E0) (hd : (x == ("__debug__" : Str)) = false) (h : SA X (e :: es) Ws) (hst : starEach (e :: es) X.env = (false, eval e X.env) :: starEach es X.env)
    (hpl : (backTo pos (starEach es X.env)).any (·.1) = false) : SE X (.Call (.Name x p) (e :: es) [] pos) (fun ρ S Q => Ws ρ S fun ds S1 => W ds S1 Q) :=
  pe_imp (pe_call (dvs := []) (ds := []) F hr hg hm hk hb .nil hx h hd hst hpl) fun σ H Q ⟨ρ, S, Q', he, hs, w, f⟩ => liftA_bind he hs w fun ds vs H1 S1 e1 he1 hs1 t1 r1 w1 => by
      rw [List.append_nil]
      exact ⟨ds, S1, Q', r1, hs1, w1, f.after e1⟩
/-- a new instance -/
theorem made_ext {H : Hp} {S : Sto} {x dx C : Addr} {o : O} (h1 : H x = none) (h2 : H dx = none) : Ext H S (upd (upd H dx (.own x)) x (.ins C dx [])) (up S x o) := fun a u e n => by
  have a1 : a ≠ x := ne_of_none e h1
  have a2 : a ≠ dx := ne_of_none e h2
  exact ⟨by rw [upd_ne a1, upd_ne a2]; exact e, by rw [up_ne a1]; exact n⟩
theorem made_st {K : Frag} {H : Hp} {S : Sto} (s : StR K H S) {x dx : Addr} {C : Str} (h1 : H x = none) (h2 : H dx = none) (h3 : dx ≠ x) : StR K (upd (upd H dx (.own x)) x (.ins (He.ga K C) dx [])) (up S x (.ins C [])) := by
  have s1 : StR K (upd H dx (.own x)) S := s.new h2
  have h4 : (upd H dx (.own x)) x = none := by rw [upd_ne h3.symm]; exact h1
  exact s1.newUp h4 ⟨dx, [], upd_same, .nil⟩
theorem make_post {K : Frag} {H : Hp} {S : Sto} {Q' : PK D} {Q : VK} {x dx : Addr} {C : Str} {W : WC} {ds : List D} {vs : List V} (f : Fin K H S Q' Q) (hs : StR K H S) (r : Reps K H ds vs) (h1 : H x = none) (h2 : H dx = none) (h3 : dx ≠ x)
    (w : ∀ p, S p = none → W (.ref p :: ds) (up S p (.ins C [])) fun d S2 => d matches .non ∧ Q' (.ref p) S2) :
    spOf K W (.ref x :: (vs ++ [])) (upd (upd H dx (.own x)) x (.ins (He.ga K C) dx [])) (fun v H2 => v = .non ∧ Q (.ref x) H2) E0 := by
  rw [List.append_nil]
  have hs2 := made_st (C := C) hs h1 h2 h3
  have ex := made_ext (S := S) (C := He.ga K C) (o := .ins C []) h1 h2
  refine ⟨.ref x :: ds, _, _, reps_cons.mpr ⟨_, _, rfl, rep_ref.mpr rfl, Reps.mono (ex.tups hs) _ _ r⟩, hs2, w x (hs.fresh h1), fun d v H1 S1 e1 s1 r1 q1 => ?_⟩
  obtain ⟨q1, q2⟩ := q1
  cases d with
  | non => exact ⟨rep_non.mp r1, (f.after ex).after e1 |>.val s1 (rep_ref.mpr rfl) q2⟩
  | _ => cases q1
theorem se_make0 {CX : CXT} {k : Nat} {f : Addr} {fd : FuncData} {ps : List Str} {W : WC} {C : Str} {p : Pos} (M : Mk X.K (He.ga X.K C) f) (F : FnOk X.prog X.w X.K X.mg X.base CX k f fd ps (spOf X.K W)) (hr : Room (k + 1) X.A) (hg : Gl X C) (hm : X.mg C = some (.ref (He.ga X.K C)))
    (hb : Binds X.K fd ps []) (hx : Passes CX X E0) (hd : (C == ("__debug__" : Str)) = false) :
    SE X (.Call (.Name C p) [] [] pos) (fun _ S Q => ∀ p, S p = none → W [.ref p] (up S p (.ins C [])) fun d S2 => d matches .non ∧ Q (.ref p) S2) :=
  pe_imp (pe_make0 (dvs := []) (ds := []) M F hr hg hm hb .nil hx hd) fun σ H Q ⟨ρ, S, Q', he, hs, w, f⟩ => fun x dx h1 h2 h3 => make_post (vs := []) f hs (reps_nil.mpr rfl) h1 h2 h3 w
theorem se_make {CX : CXT} {k : Nat} {f : Addr} {fd : FuncData} {ps : List Str} {W : WC} {C : Str} {p : Pos} {e : Expr} (M : Mk X.K (He.ga X.K C) f) (F : FnOk X.prog X.w X.K X.mg X.base CX k f fd ps (spOf X.K W)) (hr : Room (k + 1) X.A) (hg : Gl X C) (hm : X.mg C = some (.ref (He.ga X.K C)))
    (hb : Binds X.K fd ps []) (hx : Passes CX X E0) (hd : (C == ("__debug__" : Str)) = false) (h : SA X (e :: es) Ws) (hst : starEach (e :: es) X.env = (false, eval e X.env) :: starEach es X.env) (hpl : (backTo pos (starEach es X.env)).any (·.1) = false) :
    SE X (.Call (.Name C p) (e :: es) [] pos) (fun ρ S Q => Ws ρ S fun ds S1 => ∀ p, S1 p = none → W (.ref p :: ds) (up S1 p (.ins C [])) fun d S2 => d matches .non ∧ Q (.ref p) S2) :=
  pe_imp (pe_make (dvs := []) (ds := []) M F hr hg hm hb .nil hx h hd hst hpl) fun σ H Q ⟨ρ, S, Q', he, hs, w, f⟩ => liftA_bind he hs w fun ds vs H1 S1 e1 he1 hs1 t1 r1 w1 => fun x dx h1 h2 h3 => make_post (f.after e1) hs1 r1 h1 h2 h3 w1
/-! methods of own classes, by the receiver's class -/
structure MethF (X : Cx) (C m : Str) (W : WC) : Prop where
  ex : ∃ (k : Nat) (f : Addr) (fd : FuncData) (ps : List Str), Cls X.K (He.ga X.K C) ∧ Meth X.K (He.ga X.K C) m f ∧ FnOk X.prog X.w X.K X.mg X.base CX0 k f fd ps (spOf X.K W) ∧ Room k X.A ∧ Binds X.K fd ps []
theorem meth_tree {o : Expr} {m : Str} {apos pos : Pos} {args : List Expr} {env : Env} (hb : attributeBase o m env (eval o env) = eval o env) (hf : methodCallForm args.length (backTo pos (starEach args env)) [] = true) (hl : (apos.endLine == pos.line) = true) :
    eval (.Call (.Attribute o m apos) args [] pos) env = (do
      let ov ← eval o env
      standAt apos.atName
      let (f, first) ← holding [ov] (getMethod ov m (plainOf o env))
      callWith pos f first (backTo pos (starEach args env)) (backToKw pos (keywordEach [] env))) := by
  have e1 : eval (.Call (.Attribute o m apos) args [] pos) env = (do
      let ov ← attributeBase o m env (eval o env)
      standAt apos.atName
      methodCall o m apos pos env ov (args.length + ([] : List Keyword).length) (backTo pos (starEach args env)) (backToKw pos (keywordEach [] env))) := by
    simp only [eval]
  rw [e1, hb]
  congr 1
  funext ov
  congr 1
  funext _
  exact mcall_line hf hl
theorem se_meth0 {g : G} {o : Expr} {Wo : WE} {m : Str} {apos : Pos} (ho : SE X o Wo) (hm : ∀ C, g.ism C m = true → MethF X C m (g.meth C m)) (hb : attributeBase o m X.env (eval o X.env) = eval o X.env)
    (hf : methodCallForm 0 (backTo pos (starEach [] X.env)) [] = true) (hl : (apos.endLine == pos.line) = true) :
    SE X (.Call (.Attribute o m apos) [] [] pos) (fun ρ S Q => Wo ρ S fun d S1 => match d with
      | .ref a => match S1 a with
        | some (.ins C fs) => (g.ism C m = true ∧ fs.lookup m = none) ∧ g.meth C m [.ref a] S1 Q
        | _ => False
      | _ => False) := by
  refine ⟨fun pins s σ H Q I ⟨ρ, S, Q', he, hs, w, f⟩ => ?_⟩
  refine PySem.W.methodCall_KW (pl := plainOf o X.env) (thn (ho.run pins s σ H _ I (lift_bind he hs w fun d v H1 S1 e1 he1 hs1 t1 r1 w1 => show ∃ d S1, Ext H S H1 S1 ∧ StR X.K H1 S1 ∧ Rep X.K H1 d v ∧ _ from ⟨d, S1, e1, hs1, r1, w1⟩)) fun u s1 ⟨x, H1, I1, rx, d, S1, e1, hs1, r1, w1⟩ => ?_) (meth_tree hb hf hl)
  split at w1
  · rename_i a
    obtain rfl := rep_ref.mp r1
    obtain rfl : u = Value.ref a := rx
    split at w1
    · rename_i C fs hC
      obtain ⟨dx, vs, h, hr⟩ := hs1 _ _ hC
      have hl2 := hr.lookup m
      rw [w1.1.2] at hl2
      obtain ⟨k, fa, fd, ps, c1, c2, F, rm, bd⟩ := hm C w1.1.1
      · refine getmeth_ok I1 h c1 c2 hl2.none_of ?_
        exact PySem.W.callWith_K0 (first := [.ref a]) I1.kIn c2.kp (run_fn (us := [.ref a]) (vs := [.ref a]) (dvs := []) (ds := []) F rm bd .nil pass0 I1 (.cons rfl .nil) ⟨[.ref a], S1, Q', reps_cons.mpr ⟨_, _, rfl, rep_ref.mpr rfl, reps_nil.mpr rfl⟩, hs1, w1.2, f.after e1⟩)
    · exact w1.elim
  · exact w1.elim
theorem se_meth {g : G} {o e : Expr} {Wo : WE} {m : Str} {apos : Pos} (ho : SE X o Wo) (hm : ∀ C, g.ism C m = true → MethF X C m (g.meth C m)) (hb : attributeBase o m X.env (eval o X.env) = eval o X.env)
    (hf : methodCallForm (e :: es).length (backTo pos (starEach (e :: es) X.env)) [] = true) (hl : (apos.endLine == pos.line) = true) (h : SA X (e :: es) Ws) (hst : starEach (e :: es) X.env = (false, eval e X.env) :: starEach es X.env) (hpl : (backTo pos (starEach es X.env)).any (·.1) = false) :
    SE X (.Call (.Attribute o m apos) (e :: es) [] pos) (fun ρ S Q => Wo ρ S fun d S1 => match d with
      | .ref a => match S1 a with
        | some (.ins C fs) => (g.ism C m = true ∧ fs.lookup m = none) ∧ Ws ρ S1 fun ds S2 => g.meth C m (.ref a :: ds) S2 Q
        | _ => False
      | _ => False) := by
  refine ⟨fun pins s σ H Q I ⟨ρ, S, Q', he, hs, w, f⟩ => ?_⟩
  refine PySem.W.methodCall_KW (pl := plainOf o X.env) (thn (ho.run pins s σ H _ I (lift_bind he hs w fun d v H1 S1 e1 he1 hs1 t1 r1 w1 => show ∃ d S1, Ext H S H1 S1 ∧ EnvR X.K H1 ρ σ ∧ StR X.K H1 S1 ∧ Rep X.K H1 d v ∧ _ from ⟨d, S1, e1, he1, hs1, r1, w1⟩)) fun u s1 ⟨x, H1, I1, rx, d, S1, e1, he1, hs1, r1, w1⟩ => ?_) (meth_tree hb hf hl)
  split at w1
  · rename_i a
    obtain rfl := rep_ref.mp r1
    obtain rfl : u = Value.ref a := rx
    split at w1
    · rename_i C fs hC
      obtain ⟨dx, vs, hh, hr⟩ := hs1 _ _ hC
      have hl2 := hr.lookup m
      rw [w1.1.2] at hl2
      obtain ⟨k, fa, fd, ps, c1, c2, F, rm, bd⟩ := hm C w1.1.1
      · refine getmeth_ok I1 hh c1 c2 hl2.none_of ?_
        refine PySem.W.callWith_K (first := [.ref a]) (h₀ := X.base) I.ok.mod.kin c2.kp (thn (h.run pos pins s1 σ H1 _ I1 (liftA_bind he1 hs1 w1.2 fun ds vs H2 S2 e2 he2 hs2 t2 r2 w2 => show ∃ ds S2, Ext H1 S1 H2 S2 ∧ StR X.K H2 S2 ∧ Reps X.K H2 ds vs ∧ _ from ⟨ds, S2, e2, hs2, r2, w2⟩)) fun us s2 ⟨vs, H2, I2, r, ds, S2, e2, hs2, r2, w2⟩ => ⟨I2.kIn, ?_⟩) hst hpl
        exact run_fn (us := .ref a :: us) (vs := .ref a :: vs) (dvs := []) (ds := []) F rm bd .nil pass0 I2 (.cons rfl r) (by
          rw [List.append_nil]
          exact ⟨.ref a :: ds, S2, Q', reps_cons.mpr ⟨_, _, rfl, rep_ref.mpr rfl, r2⟩, hs2, w2, (f.after e1).after e2⟩)
    · exact w1.elim
  · exact w1.elim
/-! built-in calls -/
theorem se_bi {b : BF} {e : Expr} {p : Pos} (hc : X.calm = true) (hg : Gl X b.name) (hm : X.mg b.name = none) (h : SA X (e :: es) Ws) (hst : starEach (e :: es) X.env = (false, eval e X.env) :: starEach es X.env) (hpl : (backTo pos (starEach es X.env)).any (·.1) = false) :
    SE X (.Call (.Name b.name p) (e :: es) [] pos) (fun ρ S Q => Ws ρ S fun ds S1 => bfW b ds S1 Q) := by
  have key : ∀ t, PE X (.Call (.Name b.name p) (e :: es) [] pos) (tCB (liftC X.K (bfW b)) t) → (t = liftA X.K Ws) → SE X (.Call (.Name b.name p) (e :: es) [] pos) (fun ρ S Q => Ws ρ S fun ds S1 => bfW b ds S1 Q) := fun t h e => by
    subst e
    exact pe_imp h fun σ H Q ⟨ρ, S, Q', he, hs, w, f⟩ => liftA_bind he hs w fun ds vs H1 S1 e1 he1 hs1 t1 r1 w1 => ⟨ds, S1, Q', r1, hs1, w1, f.after e1⟩
  have hz := bfz hc b
  have nn : b.name ≠ "__name__" := by cases b <;> decide
  have nd : (b.name == ("__debug__" : Str)) = false := by cases b <;> decide
  cases b with
  | len => exact key _ (pe_callB hz hg hm (by decide +kernel) h nn nd hst hpl) rfl
  | abs => exact key _ (pe_callB hz hg hm (by decide +kernel) h nn nd hst hpl) rfl
  | max => exact key _ (pe_callB hz hg hm (by decide +kernel) h nn nd hst hpl) rfl
  | min => exact key _ (pe_callB hz hg hm (by decide +kernel) h nn nd hst hpl) rfl
  | sum => exact key _ (pe_callB hz hg hm (by decide +kernel) h nn nd hst hpl) rfl
  | sorted => exact key _ (pe_callB hz hg hm (by decide +kernel) h nn nd hst hpl) rfl
  | all => exact key _ (pe_callB hz hg hm (by decide +kernel) h nn nd hst hpl) rfl
  | any => exact key _ (pe_callB hz hg hm (by decide +kernel) h nn nd hst hpl) rfl
  | isinstance => exact key _ (pe_callB hz hg hm (by decide +kernel) h nn nd hst hpl) rfl
  | str => exact key _ (pe_callTy hz hg hm (by decide +kernel) h nn nd hst hpl) rfl
  | int => exact key _ (pe_callTy hz hg hm (by decide +kernel) h nn nd hst hpl) rfl
  | tuple => exact key _ (pe_callTy hz hg hm (by decide +kernel) h nn nd hst hpl) rfl
  | list => exact key _ (pe_callTy hz hg hm (by decide +kernel) h nn nd hst hpl) rfl
  | dict => exact key _ (pe_callTy hz hg hm (by decide +kernel) h nn nd hst hpl) rfl
theorem se_bm0 {o : Expr} {Wo : WE} {m : BM} {apos : Pos} (hu : X.A.units + 65 < cLine) (ho : SE X o Wo) (hb : attributeBase o m.name X.env (eval o X.env) = eval o X.env) (hl : (apos.endLine == pos.line) = true) :
    SE X (.Call (.Attribute o m.name apos) [] [] pos) (fun ρ S Q => Wo ρ S fun d S1 => match rcv d S1 with
      | some T => bmT m T = true ∧ bmW m d [] S1 Q
      | none => False) :=
  pe_imp (pe_bmz0 ho hb hl) fun σ H Q ⟨ρ, S, Q', he, hs, w, f⟩ => lift_bind he hs w fun d v H1 S1 e1 he1 hs1 t1 r1 w1 => by
    split at w1
    · rename_i T hT
      obtain ⟨c1, _⟩ := rcv_ok hs1 r1 hT
      obtain ⟨id, bk⟩ := bmz hu m T w1.1
      exact ⟨T, id, _, bk, c1, d, [], S1, Q', r1, reps_nil.mpr rfl, hs1, w1.2, f.after e1⟩
    · exact w1.elim
theorem se_bm {o e : Expr} {Wo : WE} {m : BM} {apos : Pos} (hu : X.A.units + 65 < cLine) (ho : SE X o Wo) (hb : attributeBase o m.name X.env (eval o X.env) = eval o X.env) (hl : (apos.endLine == pos.line) = true)
    (hfew : ((backTo pos (starEach (e :: es) X.env)).all (fun x => !x.1) && (backToKw pos (keywordEach [] X.env)).all (fun x => x.1.isSome)
      && decide ((e :: es).length + ([] : List Keyword).length + (if ([] : List Keyword).isEmpty then 0 else 1) < 30)) = true)
    (h : SA X (e :: es) Ws) (hst : starEach (e :: es) X.env = (false, eval e X.env) :: starEach es X.env) (hpl : (backTo pos (starEach es X.env)).any (·.1) = false) :
    SE X (.Call (.Attribute o m.name apos) (e :: es) [] pos) (fun ρ S Q => Wo ρ S fun d S1 => match rcv d S1 with
      | some T => bmT m T = true ∧ Ws ρ S1 fun ds S2 => bmW m d ds S2 Q
      | none => False) :=
  pe_imp (pe_bmz ho h hb hfew hl hst hpl) fun σ H Q ⟨ρ, S, Q', he, hs, w, f⟩ => lift_bind he hs w fun d v H1 S1 e1 he1 hs1 t1 r1 w1 => by
    split at w1
    · rename_i T hT
      obtain ⟨c1, _⟩ := rcv_ok hs1 r1 hT
      obtain ⟨id, bk⟩ := bmz hu m T w1.1
      exact ⟨T, id, _, bk, c1, liftA_bind he1 hs1 w1.2 fun ds vs H2 S2 e2 he2 hs2 t2 r2 w2 => ⟨d, ds, S2, Q', Rep.mono t2 _ _ r1, r2, hs2, w2, (f.after e1).after e2⟩⟩
    · exact w1.elim
/-! operators by name -/
def bopOk : BOp → Operator → Bool
  | .add, .Add => true | .sub, .Sub => true | .mul, .Mult => true | .fdiv, .FloorDiv => true | .mod, .Mod => true | .pow, .Pow => true
  | _, _ => false
theorem bop_ok {o : BOp} {p : Operator} (h : bopOk o p = true) : OpR X (binaryOp p) (lift2 X.K (bopW o)) := by
  unfold bopOk at h
  split at h
  · exact opz_add
  · exact opz_sub
  · exact opz_mul
  · exact opz_fdiv
  · exact opz_mod
  · exact opz_pow
  · cases h
def copOk : COp → CmpOp → Bool
  | .eq, .Eq => true | .ne, .NotEq => true | .lt, .Lt => true | .le, .LtE => true | .gt, .Gt => true | .ge, .GtE => true | .is, .Is => true | .isn, .IsNot => true | .in_, .In => true | .nin, .NotIn => true
  | _, _ => false
theorem eqC_mono {d e : D} {S : Sto} {P P' : Bool → Prop} (m : ∀ b, P b → P' b) (h : eqC d e S P) : eqC d e S P' := by
  unfold eqC at h ⊢
  split at h
  · exact m _ h
  · exact m _ h
  · exact m _ h
  · obtain ⟨p, q, h1, h2, h3, w⟩ := h
    exact ⟨p, q, h1, h2, h3, m _ w⟩
theorem ltC_mono {d e : D} {P P' : Bool → Prop} (m : ∀ b, P b → P' b) (h : ltC d e P) : ltC d e P' := by
  unfold ltC at h ⊢
  split at h
  · exact m _ h
  · exact m _ h
  · exact h.elim
theorem leC_mono {d e : D} {P P' : Bool → Prop} (m : ∀ b, P b → P' b) (h : leC d e P) : leC d e P' := by
  unfold leC at h ⊢
  split at h
  · exact m _ h
  · exact m _ h
  · exact h.elim
theorem isC_mono {d e : D} {P P' : Bool → Prop} (m : ∀ b, P b → P' b) (h : isC d e P) : isC d e P' := by
  unfold isC at h ⊢
  split at h
  · exact m _ h
  · exact m _ h
  · exact h.elim
theorem inL_mono {d : D} {ds : List D} {P P' : Bool → Prop} (m : ∀ b, P b → P' b) (h : inL d ds P) : inL d ds P' := by
  rcases h with ⟨h1, h2, h⟩ | ⟨p, ps, h1, h2, h3, h⟩
  · exact .inl ⟨h1, h2, m _ h⟩
  · exact .inr ⟨p, ps, h1, h2, h3, m _ h⟩
theorem inC_mono {d e : D} {S : Sto} {P P' : Bool → Prop} (m : ∀ b, P b → P' b) (h : inC d e S P) : inC d e S P' := by
  unfold inC at h ⊢
  split at h
  · split at h
    · exact m _ h
    · exact h.elim
  · exact inL_mono m h
  · split at h
    · exact inL_mono m h
    · split at h
      · exact m _ h
      · exact h.elim
    · exact h.elim
  · exact h.elim
theorem cmpC_mono (o : COp) : ∀ d e S (P P' : Bool → Prop), (∀ b, P b → P' b) → cmpC o d e S P → cmpC o d e S P' := fun d e S P P' m h => by
  cases o with
  | eq => exact eqC_mono m h
  | ne => exact eqC_mono (fun b => m (!b)) h
  | lt => exact ltC_mono m h
  | le => exact leC_mono m h
  | gt => exact ltC_mono m h
  | ge => exact leC_mono m h
  | is => exact isC_mono m h
  | isn => exact isC_mono (fun b => m (!b)) h
  | in_ => exact inC_mono m h
  | nin => exact inC_mono (fun b => m (!b)) h
theorem cop_ok (hu : X.A.units + 65 < cLine) {o : COp} {p : CmpOp} (h : copOk o p = true) : OpR X (compareOp p) (liftCmp X.K (cmpC o)) := by
  refine cmp_of (cmpC_mono o) ?_
  unfold copOk at h
  split at h
  · exact opz_eq (by omega)
  · exact opz_ne (by omega)
  · exact opz_lt
  · exact opz_le
  · exact opz_gt
  · exact opz_ge
  · exact opz_is
  · exact opz_isn
  · exact opz_in hu
  · exact opz_nin hu
  · cases h
end
end Z

/-! ### Z9 -/
/-! Z9: what is walked; targets; comprehensions. -/
namespace Z
open PySem PySem.Spec PyProof.Rows L2 RZ RT
/-- an iterator gives these items while chk holds -/
def ItOk (K : Frag) (H0 : Hp) (J : It) (ds : List D) (chk : Sto → Prop) : Prop := ∀ H S, TupLe K H0 H → StR K H S → chk S →
  (∀ i, i < ds.length → J.go i H) ∧ (∀ i x H' d, J.yld i H x H' → ds[i]? = some d → Ext H S H' S ∧ StR K H' S ∧ Rep K H' d x) ∧ J.stop ds.length H
def liftI (K : Frag) (W : WI) : TI := fun σ H R => ∃ ρ S R', EnvR K H ρ σ ∧ StR K H S ∧ W ρ S R' ∧ ∀ ds chk H1 S1 J, Ext H S H1 S1 → StR K H1 S1 → ItOk K H1 J ds chk → R' ds chk S1 → R J H1
abbrev SI (X : Cx) (tg e : Expr) (W : WI) : Prop := PI X tg e (liftI X.K W)
theorem pi_imp {X : Cx} {tg e : Expr} {t t' : TI} (h : PI X tg e t) (i : ∀ σ H R, t' σ H R → t σ H R) : PI X tg e t' := ⟨fun pins s σ H R I w => h.run pins s σ H R I (i σ H R w)⟩
theorem SqL.inj {K : Frag} {H : Hp} {S : Sto} {a : Addr} {ds : List D} {xs ys : List V} (hs : StR K H S) (h : S a = some (.lst ds)) (h1 : H a = some (.lst xs)) : SqL K H a xs := .inl (.inl h1)
theorem itok_tup {K : Frag} {H0 : Hp} {a : Addr} {xs : List V} {ds : List D} (t : SqT K H0 a xs) (r : Reps K H0 ds xs) : ItOk K H0 (Itt K a) ds fun _ => True := fun H S tl hs _ => by
  have hr := Reps.mono tl _ _ r
  refine ⟨fun i hi => ?_, fun i x H' d y e => ?_, ⟨xs, (tl _ _).1 t, by rw [r.length]; exact Nat.le_refl _⟩⟩
  · obtain ⟨v, hv, _⟩ := hr.get (List.getElem?_eq_getElem hi)
    exact ⟨xs, v, (tl _ _).1 t, hv⟩
  · obtain ⟨rfl, y⟩ := y
    obtain ⟨v, hv, rv⟩ := hr.get e
    rw [y xs ((tl _ _).1 t)] at hv
    cases hv
    exact ⟨.refl, hs, rv⟩
theorem itok_list {K : Frag} {H0 : Hp} {a : Addr} {ds : List D} {chk : Sto → Prop} (hc : ∀ H S, StR K H S → chk S → ∃ xs, SqL K H a xs ∧ Reps K H ds xs) : ItOk K H0 (Itl K a) ds chk := fun H S tl hs c => by
  obtain ⟨xs, t, hr⟩ := hc H S hs c
  refine ⟨fun i hi => ?_, fun i x H' d y e => ?_, ⟨xs, t, by rw [hr.length]; exact Nat.le_refl _⟩⟩
  · obtain ⟨v, hv, _⟩ := hr.get (List.getElem?_eq_getElem hi)
    exact ⟨xs, v, t, hv⟩
  · obtain ⟨rfl, y⟩ := y
    obtain ⟨v, hv, rv⟩ := hr.get e
    rw [y xs t] at hv
    cases hv
    exact ⟨.refl, hs, rv⟩
theorem chk_lst {K : Frag} {a : Addr} {ds : List D} : ∀ H S, StR K H S → S a = some (.lst ds) → ∃ xs, SqL K H a xs ∧ Reps K H ds xs := fun H S hs h => by
  obtain ⟨xs, h1, r⟩ := hs _ _ h
  exact ⟨xs, .inl (.inl h1), r⟩
theorem itok_str {K : Frag} {H0 : Hp} (x : Str) : ItOk K H0 (Its x) (x.cps.toList.map fun c => D.str ⟨#[c]⟩) fun _ => True := fun H S tl hs _ => by
  refine ⟨fun i hi => by simpa [Its] using hi, fun i v H' d y e => ?_, by simp [Its]⟩
  obtain ⟨rfl, c, hc, rfl⟩ := y
  rw [List.getElem?_map, Array.getElem?_toList, hc] at e
  cases e
  exact ⟨.refl, hs, rep_str.mpr rfl⟩
theorem itok_rng {K : Frag} {H0 : Hp} (lo : Int) (n : Nat) : ItOk K H0 (Itr lo n) (rngD lo n) fun _ => True := fun H S tl hs _ => by
  refine ⟨fun i hi => by simpa [Itr, rngD] using hi, fun i v H' d y e => ?_, by simp [Itr, rngD]⟩
  obtain ⟨rfl, rfl⟩ := y
  unfold rngD at e
  rw [List.getElem?_map] at e
  cases hr : (List.range n)[i]? with
  | none => rw [hr] at e; cases e
  | some j =>
    rw [hr] at e
    cases e
    have : j = i := by
      rw [List.getElem?_range] at hr
      · exact (Option.some.inj hr).symm
      · have := (List.getElem?_eq_some_iff.mp hr).1
        simpa using this
    subst this
    exact ⟨.refl, hs, rep_int.mpr rfl⟩
theorem itok_enum {K : Frag} {H0 : Hp} {a : Addr} {ds : List D} {chk : Sto → Prop} (hc : ∀ H S, StR K H S → chk S → ∃ xs, SqL K H a xs ∧ Reps K H ds xs) : ItOk K H0 (Ite K a) (enumD ds) chk := fun H S tl hs c => by
  obtain ⟨xs, t, hr⟩ := hc H S hs c
  have hl : (enumD ds).length = ds.length := by unfold enumD; simp
  refine ⟨fun i hi => ?_, fun i x H' d y e => ?_, ⟨xs, t, by rw [hr.length, hl]; exact Nat.le_refl _⟩⟩
  · rw [hl] at hi
    obtain ⟨v, hv, _⟩ := hr.get (List.getElem?_eq_getElem hi)
    exact ⟨xs, v, t, hv⟩
  · obtain ⟨T, z, rfl, nT, rfl, y⟩ := y
    have hv := y xs t
    obtain ⟨d0, hd0, rd0⟩ := hr.get' hv
    have ed : d = .tup [.int ((i : Nat) : Int), d0] := by
      unfold enumD at e
      rw [List.getElem?_map, List.getElem?_zipIdx, hd0] at e
      cases e
      simp
    subst ed
    have tn := tupLe_new (K := K) (o := .tup [.int ((i : Nat) : Int), z]) nT
    exact ⟨ext_new nT, hs.new nT, rep_tup.mpr ⟨T, _, rfl, .inl (.inl upd_same), reps_cons.mpr ⟨_, _, rfl, rep_int.mpr rfl, reps_cons.mpr ⟨_, _, rfl, Rep.mono tn _ _ rd0, reps_nil.mpr rfl⟩⟩⟩⟩
theorem itok_zip_aux {K : Frag} {H : Hp} {S : Sto} {T : Addr} {x y : V} {d e : D} (hs : StR K H S) (nT : H T = none) (rd : Rep K H d x) (re : Rep K H e y) : Ext H S (upd H T (.tup [x, y])) S ∧ StR K (upd H T (.tup [x, y])) S ∧ Rep K (upd H T (.tup [x, y])) (.tup [d, e]) (.ref T) := by
  have tn := tupLe_new (K := K) (o := .tup [x, y]) nT
  exact ⟨ext_new nT, hs.new nT, rep_tup.mpr ⟨T, _, rfl, .inl (.inl upd_same), reps_cons.mpr ⟨_, _, rfl, Rep.mono tn _ _ rd, reps_cons.mpr ⟨_, _, rfl, Rep.mono tn _ _ re, reps_nil.mpr rfl⟩⟩⟩⟩
theorem zipD_get {ds es : List D} {i : Nat} {d : D} (h : (zipD ds es)[i]? = some d) : ∃ a b, ds[i]? = some a ∧ es[i]? = some b ∧ d = .tup [a, b] := by
  unfold zipD at h
  rw [List.getElem?_map] at h
  cases hz : (ds.zip es)[i]? with
  | none => rw [hz] at h; cases h
  | some p =>
    rw [hz] at h
    cases h
    obtain ⟨h1, h2⟩ := List.getElem?_zip_eq_some.mp hz
    exact ⟨_, _, h1, h2, rfl⟩
theorem zipD_len {ds es : List D} : (zipD ds es).length = min ds.length es.length := by unfold zipD; simp
theorem itok_zipT {K : Frag} {H0 : Hp} {a b : Addr} {xs ys : List V} {ds es : List D} (t : SqT K H0 a xs) (r : Reps K H0 ds xs) (t2 : SqT K H0 b ys) (r2 : Reps K H0 es ys) : ItOk K H0 (ItzT K a b) (zipD ds es) fun _ => True := fun H S tl hs _ => by
  have hr := Reps.mono tl _ _ r
  have hr2 := Reps.mono tl _ _ r2
  refine ⟨fun i hi => ?_, fun i x H' d y e => ?_, ⟨xs, ys, (tl _ _).1 t, (tl _ _).1 t2, ?_⟩⟩
  · rw [zipD_len] at hi
    obtain ⟨v, hv, _⟩ := hr.get (List.getElem?_eq_getElem (show i < ds.length by omega))
    obtain ⟨u, hu, _⟩ := hr2.get (List.getElem?_eq_getElem (show i < es.length by omega))
    exact ⟨xs, ys, v, u, (tl _ _).1 t, (tl _ _).1 t2, hv, hu⟩
  · obtain ⟨T, x1, x2, rfl, nT, rfl, y1, y2⟩ := y
    obtain ⟨d1, d2, h1, h2, rfl⟩ := zipD_get e
    obtain ⟨v, hv, rv⟩ := hr.get h1
    obtain ⟨u, hu, ru⟩ := hr2.get h2
    rw [y1 xs ((tl _ _).1 t)] at hv
    rw [y2 ys ((tl _ _).1 t2)] at hu
    cases hv; cases hu
    exact itok_zip_aux hs nT rv ru
  · rw [zipD_len, r.length, r2.length]; omega
theorem itok_zipL {K : Frag} {H0 : Hp} {a b : Addr} {ds es : List D} {c1 c2 : Sto → Prop} (hc : ∀ H S, StR K H S → c1 S → ∃ xs, SqL K H a xs ∧ Reps K H ds xs) (hc2 : ∀ H S, StR K H S → c2 S → ∃ xs, SqL K H b xs ∧ Reps K H es xs) : ItOk K H0 (Itz K a b) (zipD ds es) fun S => c1 S ∧ c2 S := fun H S tl hs c => by
  obtain ⟨xs, t, hr⟩ := hc H S hs c.1
  obtain ⟨ys, t2, hr2⟩ := hc2 H S hs c.2
  refine ⟨fun i hi => ?_, fun i x H' d y e => ?_, ⟨xs, ys, t, t2, ?_⟩⟩
  · rw [zipD_len] at hi
    obtain ⟨v, hv, _⟩ := hr.get (List.getElem?_eq_getElem (show i < ds.length by omega))
    obtain ⟨u, hu, _⟩ := hr2.get (List.getElem?_eq_getElem (show i < es.length by omega))
    exact ⟨xs, ys, v, u, t, t2, hv, hu⟩
  · obtain ⟨T, x1, x2, rfl, nT, rfl, y1, y2⟩ := y
    obtain ⟨d1, d2, h1, h2, rfl⟩ := zipD_get e
    obtain ⟨v, hv, rv⟩ := hr.get h1
    obtain ⟨u, hu, ru⟩ := hr2.get h2
    rw [y1 xs t] at hv
    rw [y2 ys t2] at hu
    cases hv; cases hu
    exact itok_zip_aux hs nT rv ru
  · rw [zipD_len, hr.length, hr2.length]; omega
theorem rev_get {α : Type} {xs : List α} {n i : Nat} (hn : xs.length = n) (hi : i < n) : xs.reverse[i]? = xs[n - 1 - i]? := by
  subst hn
  rw [List.getElem?_reverse hi]
theorem itok_revT {K : Frag} {H0 : Hp} {a : Addr} {xs : List V} {ds : List D} (t : SqT K H0 a xs) (r : Reps K H0 ds xs) : ItOk K H0 (ItvT K a xs.length) ds.reverse fun _ => True := fun H S tl hs _ => by
  have hr := Reps.mono tl _ _ r
  have hl := r.length
  refine ⟨fun i hi => ?_, fun i x H' d y e => ?_, ?_⟩
  · rw [List.length_reverse] at hi
    obtain ⟨v, hv, _⟩ := hr.get (List.getElem?_eq_getElem (show xs.length - 1 - i < ds.length by omega))
    exact ⟨by omega, xs, v, (tl _ _).1 t, hv⟩
  · obtain ⟨rfl, y⟩ := y
    have hi := (List.getElem?_eq_some_iff.mp e).1
    rw [List.length_reverse] at hi
    rw [rev_get hl.symm (by omega)] at e
    obtain ⟨v, hv, rv⟩ := hr.get e
    rw [y xs ((tl _ _).1 t)] at hv
    cases hv
    exact ⟨.refl, hs, rv⟩
  · show xs.length ≤ ds.reverse.length
    rw [List.length_reverse, hl]; exact Nat.le_refl _
theorem itok_revL {K : Frag} {H0 : Hp} {a : Addr} {n : Nat} {ds : List D} {chk : Sto → Prop} (hn : n = ds.length) (hc : ∀ H S, StR K H S → chk S → ∃ xs, SqL K H a xs ∧ Reps K H ds xs) : ItOk K H0 (Itv K a n) ds.reverse chk := fun H S tl hs c => by
  obtain ⟨xs, t, hr⟩ := hc H S hs c
  have hl := hr.length
  refine ⟨fun i hi => ?_, fun i x H' d y e => ?_, ?_⟩
  · rw [List.length_reverse] at hi
    obtain ⟨v, hv, _⟩ := hr.get (List.getElem?_eq_getElem (show n - 1 - i < ds.length by omega))
    exact ⟨by omega, xs, v, t, hv⟩
  · obtain ⟨rfl, y⟩ := y
    have hi := (List.getElem?_eq_some_iff.mp e).1
    rw [List.length_reverse] at hi
    rw [rev_get hn.symm (by omega)] at e
    obtain ⟨v, hv, rv⟩ := hr.get e
    rw [y xs t] at hv
    cases hv
    exact ⟨.refl, hs, rv⟩
  · show n ≤ ds.reverse.length
    rw [List.length_reverse, hn]; exact Nat.le_refl _
section
variable {X : Cx} {tg a b : Expr} {Wa Wb : WE} {pos p : Pos}
theorem freezeD {pins : List (Addr × Obj)} {σ : L2.St} {H : Hp} {s : Shared} {d : Addr} {kvs : List (Key × V)} (I : Inv X pins σ H s) (h : H d = some (.dK kvs)) : ∃ o, Inv X pins σ (upd H d (.frz o (.dK kvs))) s := by
  have z := I.hok d _ h
  obtain ⟨zl, hs, vs, kv, o, es, ep, ho, r⟩ := id z
  exact ⟨o, I.write (x := d) (e := d) (h' := s.heap) (t' := s.toks) (by rw [h]; trivial) (.inl rfl) (fun _ _ _ q => q) ⟨o, ho⟩ ⟨ho, z⟩⟩
theorem itok_keys {K : Frag} {H0 : Hp} {a : Addr} {o : Obj} {vs : List (Key × V)} {kvs : List (Key × D)} : ItOk K H0 (Itk a o vs) (kvs.map fun p => keyD p.1) fun S => S a = some (.fdc o vs kvs) := fun H S tl hs c => by
  obtain ⟨h, hr⟩ := hs _ _ c
  have l := hr.length
  refine ⟨fun i hi => ⟨h, by rw [List.length_map] at hi; omega⟩, fun i x H' d y e => ?_, ⟨h, by rw [List.length_map]; omega⟩⟩
  obtain ⟨rfl, k, v, hk, rfl⟩ := y
  have q := congrArg (fun z => z[i]?) hr.keys
  simp only [List.getElem?_map] at q e
  obtain ⟨p, hp, rfl⟩ := Option.map_eq_some_iff.mp e
  rw [hk, hp] at q
  have q' : p.1 = k := by simpa using q
  rw [q']
  exact ⟨.refl, hs, rep_key.mpr rfl⟩
theorem si_keys (ha : SE X a Wa) : SI X tg a (fun ρ S R => Wa ρ S fun d S1 => keysC d S1 R) := by
  refine ⟨fun pins s σ H R I ⟨ρ, S, R', he, hs, w, f⟩ => ?_⟩
  refine thn (ha.run pins s σ H _ I (lift_bind he hs w fun d v H1 S1 e1 he1 hs1 t1 r1 w1 => show ∃ d S1, Ext H S H1 S1 ∧ StR X.K H1 S1 ∧ Rep X.K H1 d v ∧ _ from ⟨d, S1, e1, hs1, r1, w1⟩)) fun v s1 ⟨x, H1, I1, rx, d, S1, e1, hs1, r1, w1⟩ => ?_
  have go : ∀ {q : Addr} {o : Obj} {vs : List (Key × V)} {kvs : List (Key × D)} {H2 : Hp} {S2 : Sto}, v = .ref q → Inv X pins σ H2 s1 → H2 q = some (.frz o (.dK vs)) → Ext H S H2 S2 → StR X.K H2 S2 →
      R' (kvs.map fun p => keyD p.1) (fun S2 => S2 q = some (.fdc o vs kvs)) S2 → wpAny (model X.prog X.w) X.A (pyIter v) (PIE X pins σ tg R) X.xe s1 := fun {q o vs kvs H2 S2} ev I2 hd e2 hs2 w2 => by
    subst ev
    obtain ⟨h1, h2, h3, es, ep, us, hdt, hsz, kv, hm⟩ := I2.frzK hd
    refine iter_keys h1 h2 h3 hdt (pi_one (tk := s1.toks) I2 _ (turn_keys _ hdt) ⟨_, Heap.get?_push_size _ rfl, rfl, ?_⟩ (f _ _ H2 S2 _ e2 hs2 itok_keys w2))
    rw [hsz] <;> rfl
  unfold keysC at w1
  split at w1
  · obtain rfl := rep_ref.mp r1
    cases rx
    split at w1
    · rename_i kvs hq
      obtain ⟨xs, h, hr⟩ := hs1 _ _ hq
      obtain ⟨o, I2⟩ := freezeD I1 h
      exact go rfl I2 upd_same (e1.trans (ext_setUp hq)) (hs1.setUp hq (u := .fdc o xs kvs) ⟨upd_same, hr.mono (tupLe_set hs1 hq)⟩) (w1 o xs)
    · rename_i o vs kvs hq
      obtain ⟨h, hr⟩ := hs1 _ _ hq
      exact go rfl I1 h e1 hs1 w1
    · exact w1.elim
  · exact w1.elim
theorem si_val (ha : SE X a Wa) : SI X tg a (fun ρ S R => Wa ρ S fun d S1 => walkC d S1 fun ds chk => R ds chk S1) := by
  refine ⟨fun pins s σ H R I ⟨ρ, S, R', he, hs, w, f⟩ => ?_⟩
  refine thn (ha.run pins s σ H _ I (lift_bind he hs w fun d v H1 S1 e1 he1 hs1 t1 r1 w1 => show ∃ d S1, Ext H S H1 S1 ∧ StR X.K H1 S1 ∧ Rep X.K H1 d v ∧ _ from ⟨d, S1, e1, hs1, r1, w1⟩)) fun v s1 ⟨x, H1, I1, rx, d, S1, e1, hs1, r1, w1⟩ => ?_
  unfold walkC at w1
  have list : ∀ {a : Addr} {xs : List V} {ds : List D} {chk : Sto → Prop}, x = .ref a → SqL X.K H1 a xs → (∀ H S, StR X.K H S → chk S → ∃ xs, SqL X.K H a xs ∧ Reps X.K H ds xs) → R' ds chk S1 → wpAny (model X.prog X.w) X.A (pyIter v) (PIE X pins σ tg R) X.xe s1 := fun {a xs ds chk} ex hq hc w1 => by
    subst ex
    cases rx
    obtain ⟨its, rv, p, hz⟩ := I1.list hq
    refine wpAny_pyIter_list p.isList ?_
    refine ⟨s1.heap.objs.size, [s1.heap.objs.size], _, _, H1, rfl, I1.kept (t' := s1.toks) fun b o e => Heap.get?_push_of_some _ e, turn_list a _, ⟨_, Heap.get?_push_size _ rfl, rfl, rfl⟩, fun b hb => ?_, f _ _ H1 S1 _ e1 hs1 (itok_list hc) w1⟩
    have e : b = s1.heap.objs.size := by simpa using hb
    subst e
    exact I1.fpOk (Nat.le_refl _) (I1.hok.fresh (Nat.le_refl _))
  split at w1
  · obtain ⟨a, xs, rfl, hq, hr⟩ := rep_tup.mp r1
    cases rx
    obtain ⟨its, rv, p, hz⟩ := I1.tuple hq
    refine wpAny_pyIter_tuple (show s1.heap.IsTuple a its.toArray from p) ?_
    refine ⟨s1.heap.objs.size, [s1.heap.objs.size], _, _, H1, rfl, I1.kept (t' := s1.toks) fun b o e => Heap.get?_push_of_some _ e, turn_tuple a _, ⟨_, Heap.get?_push_size _ rfl, rfl, rfl⟩, fun b hb => ?_, f _ _ H1 S1 _ e1 hs1 (itok_tup hq hr) w1⟩
    have e : b = s1.heap.objs.size := by simpa using hb
    subst e
    exact I1.fpOk (Nat.le_refl _) (I1.hok.fresh (Nat.le_refl _))
  · rename_i z
    obtain rfl := rep_str.mp r1
    obtain ⟨t, rfl⟩ := rx
    have q := f _ _ H1 S1 _ e1 hs1 (itok_str z) w1
    cases ha : z.cps.all (· < 128)
    · exact wpAny_pyIter_wide ha (pi_one (tk := s1.toks) I1 _ (turn_str _ z t "str_iterator" (.inr rfl)) ⟨_, Heap.get?_push_size _ rfl, rfl, rfl⟩ q)
    · exact wpAny_pyIter_ascii ha (pi_one (tk := s1.toks) I1 _ (turn_str _ z t "str_ascii_iterator" (.inl rfl)) ⟨_, Heap.get?_push_size _ rfl, rfl, rfl⟩ q)
  · obtain rfl := rep_ref.mp r1
    split at w1
    · rename_i hC
      obtain ⟨xs, h, hr⟩ := hs1 _ _ hC
      exact list rfl (.inl (.inl h)) chk_lst w1
    · exact w1.elim
  · exact w1.elim
theorem si_rng1 (hg : Gl X "range") (hm : X.mg "range" = none) (ha : SE X a Wa) (hs : starEach [a] X.env = [(false, eval a X.env)]) : SI X tg (.Call (.Name "range" p) [a] [] pos) (fun ρ S R => Wa ρ S fun d S1 => match d with
    | .int n => (-(2 ^ 62) ≤ n ∧ n < 2 ^ 62) ∧ R (rngD 0 n.toNat) (fun _ => True) S1
    | _ => False) :=
  pi_imp (pi_range1 hg hm (pa_cons ha pa_nil (by rw [hs] <;> simp [starEach])) hs) fun σ H R ⟨ρ, S, R', he, hs, w, f⟩ => lift_bind he hs w fun d v H1 S1 e1 he1 hs1 t1 r1 w1 => by
    split at w1
    · obtain rfl := rep_int.mp r1
      exact ⟨_, rfl, w1.1.1, w1.1.2, f _ _ H1 S1 _ e1 hs1 (itok_rng 0 _) w1.2⟩
    · exact w1.elim
theorem si_rng2 (hg : Gl X "range") (hm : X.mg "range" = none) (ha : SE X a Wa) (hb : SE X b Wb) (hs : starEach [a, b] X.env = [(false, eval a X.env), (false, eval b X.env)]) (hs2 : starEach [b] X.env = [(false, eval b X.env)]) :
    SI X tg (.Call (.Name "range" p) [a, b] [] pos) (fun ρ S R => Wa ρ S fun d S1 => Wb ρ S1 fun e S2 => match d, e with
    | .int m, .int n => ((-(2 ^ 62) ≤ m ∧ m < 2 ^ 62) ∧ -(2 ^ 62) ≤ n ∧ n < 2 ^ 62) ∧ R (rngD m (n - m).toNat) (fun _ => True) S2
    | _, _ => False) :=
  pi_imp (pi_range2 hg hm (pa_cons ha (pa_cons hb pa_nil (by rw [hs2] <;> simp [starEach])) (by rw [hs, hs2])) hs hs2) fun σ H R ⟨ρ, S, R', he, hs, w, f⟩ => lift_bind he hs w fun d v H1 S1 e1 he1 hs1 t1 r1 w1 => lift_bind he1 hs1 w1 fun d2 v2 H2 S2 e2 he2 hs2 t2 r2 w2 => by
    split at w2
    · obtain rfl := rep_int.mp r1
      obtain rfl := rep_int.mp r2
      obtain ⟨⟨⟨c1, c2⟩, c3, c4⟩, w2⟩ := w2
      exact ⟨_, _, rfl, ⟨c1, c2, c3, c4⟩, f _ _ H2 S2 _ (e1.trans e2) hs2 (itok_rng _ _) w2⟩
    · exact w2.elim
theorem walkL_ok {K : Frag} {H : Hp} {S : Sto} (hs : StR K H S) {d : D} {v : V} {R : List D → (Sto → Prop) → Prop} (r : Rep K H d v) (w : walkL d S R) : ∃ a xs ds chk, v = .ref a ∧ SqL K H a xs ∧ Reps K H ds xs ∧ (∀ H S, StR K H S → chk S → ∃ xs, SqL K H a xs ∧ Reps K H ds xs) ∧ R ds chk := by
  unfold walkL at w
  split at w
  · split at w
    · rename_i hC
      obtain ⟨xs, h, hr⟩ := hs _ _ hC
      exact ⟨_, xs, _, _, rep_ref.mp r, .inl (.inl h), hr, chk_lst, w⟩
    · exact w.elim
  · exact w.elim
theorem si_enum {elts : List Expr} {kk : Nat} {tpos : Pos} (hg : Gl X "enumerate") (hm : X.mg "enumerate" = none) (ha : SE X a Wa) (hs : starEach [a] X.env = [(false, eval a X.env)]) :
    SI X (.Tuple elts kk tpos) (.Call (.Name "enumerate" p) [a] [] pos) (fun ρ S R => Wa ρ S fun d S1 => walkL d S1 fun ds chk => R (enumD ds) chk S1) :=
  pi_imp (pi_enum hg hm (pa_cons ha pa_nil (by rw [hs] <;> simp [starEach])) hs) fun σ H R ⟨ρ, S, R', he, hs, w, f⟩ => lift_bind he hs w fun d v H1 S1 e1 he1 hs1 t1 r1 w1 => by
    obtain ⟨a, xs, ds, chk, rfl, hq, hr, hc, w1⟩ := walkL_ok hs1 r1 w1
    exact ⟨a, xs, rfl, hq, f _ _ H1 S1 _ e1 hs1 (itok_enum hc) w1⟩
theorem si_zip {elts : List Expr} {kk : Nat} {tpos : Pos} (hg : Gl X "zip") (hm : X.mg "zip" = none) (ha : SE X a Wa) (hb : SE X b Wb) (hs : starEach [a, b] X.env = (false, eval a X.env) :: starEach [b] X.env) (hs2 : starEach [b] X.env = [(false, eval b X.env)]) :
    SI X (.Tuple elts kk tpos) (.Call (.Name "zip" p) [a, b] [] pos) (fun ρ S R => Wa ρ S fun d S1 => Wb ρ S1 fun e S2 => zipC d e S2 fun ds chk => R ds chk S2) :=
  pi_imp (pi_zipA hg hm (pa_cons ha (pa_cons hb pa_nil (by rw [hs2] <;> simp [starEach])) hs) hs (by rw [hs2]; simp [backTo])) fun σ H R ⟨ρ, S, R', he, hs, w, f⟩ => lift_bind he hs w fun d v H1 S1 e1 he1 hs1 t1 r1 w1 => lift_bind he1 hs1 w1 fun d2 v2 H2 S2 e2 he2 hs2 t2 r2 w2 => by
    have r1' := Rep.mono t2 _ _ r1
    unfold zipC at w2
    split at w2
    · obtain ⟨a, xs, rfl, hq, hr⟩ := rep_tup.mp r1'
      obtain ⟨b, ys, rfl, hq2, hr2⟩ := rep_tup.mp r2
      exact ⟨a, b, xs, ys, rfl, .inr ⟨hq, hq2, f _ _ H2 S2 _ (e1.trans e2) hs2 (itok_zipT hq hr hq2 hr2) w2⟩⟩
    · obtain ⟨a, xs, ds, c1, rfl, hq, hr, hc, w3⟩ := walkL_ok hs2 r1' w2
      obtain ⟨b, ys, es, c2, rfl, hq2, hr2, hc2, w4⟩ := walkL_ok hs2 r2 w3
      exact ⟨a, b, xs, ys, rfl, .inl ⟨hq, hq2, f _ _ H2 S2 _ (e1.trans e2) hs2 (itok_zipL hc hc2) w4⟩⟩
theorem si_rev (hg : Gl X "reversed") (hm : X.mg "reversed" = none) (ha : SE X a Wa) (hs : starEach [a] X.env = (false, eval a X.env) :: starEach [] X.env) :
    SI X tg (.Call (.Name "reversed" p) [a] [] pos) (fun ρ S R => Wa ρ S fun d S1 => walkLT d S1 fun ds chk => R ds.reverse chk S1) :=
  pi_imp (pi_revA hg hm ha hs) fun σ H R ⟨ρ, S, R', he, hs, w, f⟩ => lift_bind he hs w fun d v H1 S1 e1 he1 hs1 t1 r1 w1 => by
    unfold walkLT at w1
    split at w1
    · obtain ⟨a, xs, rfl, hq, hr⟩ := rep_tup.mp r1
      exact ⟨a, xs, rfl, .inr ⟨hq, f _ _ H1 S1 _ e1 hs1 (itok_revT hq hr) w1⟩⟩
    · obtain ⟨a, xs, ds, chk, rfl, hq, hr, hc, w1⟩ := walkL_ok hs1 r1 w1
      exact ⟨a, xs, rfl, .inl ⟨hq, f _ _ H1 S1 _ e1 hs1 (itok_revL hr.length hc) w1⟩⟩
theorem se_trev {e : Expr} {We : WE} {p p2 pos2 : Pos} (hc : X.calm = true) (hg : Gl X "tuple") (hm : X.mg "tuple" = none) (hg2 : Gl X "reversed") (hm2 : X.mg "reversed" = none) (he : SE X e We) (hs : starEach [e] X.env = (false, eval e X.env) :: starEach [] X.env) :
    SE X (.Call (.Name "tuple" p) [.Call (.Name "reversed" p2) [e] [] pos2] [] pos) (fun ρ S Q => We ρ S fun d S1 => match itemsL S1 d with
      | some ds => Q (.tup ds.reverse) S1
      | none => False) :=
  pe_imp (pe_tupRev hc hg hm hg2 hm2 he hs) fun σ H Q ⟨ρ, S, Q', he, hs, w, f⟩ => lift_bind he hs w fun d v H1 S1 e1 he1 hs1 t1 r1 w1 => by
    split at w1
    · rename_i hi
      obtain ⟨a, xs, rfl, hl, hr⟩ := itemsL_ok hs1 r1 hi
      exact ⟨a, xs, rfl, hl, fun q hq => (f.after e1).tup hs1 hr.reverse w1 hq⟩
    · exact w1.elim
end
end Z

/-! ### Z9b -/
/-! Z9b: zip and enumerate over lists and tuples in any mix. -/
namespace Z
open PySem PySem.Spec PyProof.Rows L2
/-- a tuple (true), a list (false) -/
def Sq (b : Bool) (K : Frag) (H : Hp) (a : Addr) (xs : List V) : Prop := match b with
  | true => SqT K H a xs
  | false => SqL K H a xs
def ItAt (b : Bool) (h : Heap) (it a : Addr) (n : Nat) : Prop := match b with
  | true => h.IsTupleIter it a n
  | false => h.IsListIter it a n
def CoAt (b : Bool) (h : Heap) (a : Addr) (items : Array Value) : Prop := match b with
  | true => h.IsTuple a items
  | false => h.IsList a items
def itObj (b : Bool) (a : Addr) : Obj := match b with
  | true => { cls := .type "tuple_iterator", data := .fields #[.ref a, .int 0 0] }
  | false => { cls := .type "list_iterator", data := .fields #[.ref a, .int 0 0] }
theorem ItAt.put {b : Bool} {h : Heap} {it a : Addr} (e : h.get? it = some (itObj b a)) : ItAt b h it a 0 := by
  cases b <;> exact ⟨_, e, rfl, rfl⟩
theorem ItAt.via {b : Bool} {h h2 : Heap} {it a : Addr} {n : Nat} (x : ItAt b h it a n) (k : ∀ o, h.get? it = some o → h2.get? it = some o) : ItAt b h2 it a n := by
  cases b
  · obtain ⟨o, e, r⟩ := x
    exact ⟨o, k o e, r⟩
  · obtain ⟨o, e, r⟩ := x
    exact ⟨o, k o e, r⟩
theorem ItAt.ob {b : Bool} {h : Heap} {it a : Addr} {n : Nat} (x : ItAt b h it a n) : ∃ o, h.get? it = some o ∧ ∀ v, o.data ≠ .cell v := by
  cases b
  · obtain ⟨o, e, _, r⟩ := x
    exact ⟨o, e, fun v q => by rw [r] at q; cases q⟩
  · obtain ⟨o, e, _, r⟩ := x
    exact ⟨o, e, fun v q => by rw [r] at q; cases q⟩
theorem CoAt.lt {b : Bool} {h : Heap} {a : Addr} {items : Array Value} (x : CoAt b h a items) : a < h.objs.size := by
  cases b
  · obtain ⟨o, e, _⟩ := x
    exact Heap.lt_size e
  · obtain ⟨o, e, _⟩ := x
    exact Heap.lt_size e
theorem draws_of {prog : Program} {w : World} {A : Around} (hh : A.handled = none) (b : Bool) (it a : Addr) (n : a ≠ it) (items : Array Value) :
    Draws prog w A it [it, a] items.size (fun j v => items[j]? = some v) (fun j h => ItAt b h it a j ∧ CoAt b h a items) := by
  cases b
  · exact Draws.list hh it a n items
  · exact Draws.tuple hh it a n items
theorem begins_of (b : Bool) (a : Addr) (items : Array Value) : Begins (.ref a) (itObj b a) (fun h => CoAt b h a items) := by
  cases b
  · exact begins_list a items
  · exact begins_tuple a items
section
variable {X : Cx} {pins : List (Addr × Obj)} {σ : L2.St} {H : Hp} {s : Shared}
theorem sq_get (I : Inv X pins σ H s) {b : Bool} {a : Addr} {xs : List V} (q : Sq b X.K H a xs) : ∃ its : List Value, Vals xs its ∧ CoAt b s.heap a its.toArray := by
  cases b
  · obtain ⟨its, r, p, _⟩ := I.list q
    exact ⟨its, r, p.isList⟩
  · obtain ⟨its, r, p, _⟩ := I.tuple q
    exact ⟨its, r, p⟩
theorem sq_inj (I : Inv X pins σ H s) {b : Bool} {a : Addr} {xs ys : List V} (q : Sq b X.K H a xs) (r : Sq b X.K H a ys) : xs = ys := by
  cases b
  · exact I.list_inj q r
  · exact I.tuple_inj q r
end
/-- two containers side by side -/
def ItM (K : Frag) (b c : Bool) (l m : Addr) : It :=
  ⟨fun n H => ∃ (xs ys : List V) (x y : V), Sq b K H l xs ∧ Sq c K H m ys ∧ xs[n]? = some x ∧ ys[n]? = some y,
    fun n H v H2 => ∃ T x y, v = .ref T ∧ H T = none ∧ H2 = upd H T (.tup [x, y]) ∧ (∀ xs, Sq b K H l xs → xs[n]? = some x) ∧ ∀ ys, Sq c K H m ys → ys[n]? = some y,
    fun n H => ∃ xs ys : List V, Sq b K H l xs ∧ Sq c K H m ys ∧ n ≤ xs.length ∧ n ≤ ys.length ∧ (n = xs.length ∨ n = ys.length)⟩
theorem turn_mix {P : Program} {w : World} {K : Frag} {elts : List Expr} {kk : Nat} {tpos : Pos} {b c : Bool} {l m z TI TO i1 i2 : Addr} (D : ZipSep2 z TI TO i1 i2 [i1, l] [i2, m]) (n1 : l ≠ i1) (n2 : m ≠ i2) :
    Turn P w K (.Tuple elts kk tpos) (ItM K b c l m) [z, TI, TO, i1, i2] z (fun n h => IsZip h z TI TO .none ∧ IsTupOf2 h TI (.ref i1) (.ref i2) ∧ (∃ x y, IsTupOf2 h TO x y) ∧ ItAt b h i1 l n ∧ ItAt c h i2 m n) where
  mem := by simp
  obj := fun n h st d hd => by
    obtain ⟨hz, hTI, ⟨x, y, hTO⟩, h1, h2⟩ := st
    simp only [List.mem_cons, List.not_mem_nil, or_false] at hd
    rcases hd with rfl | rfl | rfl | rfl | rfl
    · exact ⟨_, hz, fun v q => nomatch q⟩
    · exact ⟨_, hTI, fun v q => nomatch q⟩
    · exact ⟨_, hTO, fun v q => nomatch q⟩
    · exact h1.ob
    · exact h2.ob
  keep := fun n h h2 st k => by
    obtain ⟨hz, hTI, ⟨x, y, hTO⟩, g1, g2⟩ := st
    exact ⟨k z (by simp) _ hz, k TI (by simp) _ hTI, ⟨x, y, k TO (by simp) _ hTO⟩, g1.via fun o q => k i1 (by simp) o q, g2.via fun o q => k i2 (by simp) o q⟩
  item := by
    intro X eP ew eK hc n pins s σ H E I hf st hg
    subst eP ew eK
    obtain ⟨hz, hTI, ⟨x0, y0, hTO⟩, h1, h2⟩ := st
    obtain ⟨xs, ys, x, y, hqx, hqy, hx, hy⟩ := hg
    obtain ⟨its, rv, p⟩ := sq_get I hqx
    obtain ⟨its2, rv2, p2⟩ := sq_get I hqy
    obtain ⟨u, hu, ru⟩ := rv.get hx
    obtain ⟨u2, hu2, ru2⟩ := rv2.get hy
    have zl : z < s.heap.objs.size := Heap.lt_size hz
    have hh : X.A.in1.handled = none := I.ok.hd hc
    have lt1 : n < its.toArray.size := by rw [List.size_toArray]; exact (List.getElem?_eq_some_iff.mp hu).1
    have lt2 : n < its2.toArray.size := by rw [List.size_toArray]; exact (List.getElem?_eq_some_iff.mp hu2).1
    refine wpAny_pyNext_zipD2_item D (draws_of hh b i1 l n1 its.toArray) (draws_of hh c i2 m n2 its2.toArray) hz hTI hTO ⟨h1, p⟩ ⟨h2, p2⟩ lt1 lt2 fun v1 v2 h3 tk q1 q2 z3 TO3 st1 st2 hT hsz hk => ?_
    rw [List.getElem?_toArray, hu] at q1
    rw [List.getElem?_toArray, hu2] at q2
    cases q1
    cases q2
    refine ⟨_, rfl, wpAny_letOwnedTupleGo_zip (s := { s with heap := h3, toks := tk }) z3 fun h4 z4 sb => ?_⟩
    have hT4 : h4.get? s.heap.objs.size = some { cls := .type "tuple", data := .seq #[u, u2] } := (sb.2 _ (Nat.ne_of_gt zl)).trans hT
    have nw : ObjOk X.prog X.w (upd H s.heap.objs.size (.tup [x, y])) h4 s.heap.objs.size (.tup [x, y]) :=
      ⟨by show 2 ≤ sizeLine; decide, [u, u2], .cons ru (.cons ru2 .nil), ⟨_, hT4, rfl, _, rfl⟩⟩
    have I1 : Inv X pins σ (upd H s.heap.objs.size (.tup [x, y])) { s with heap := h4, toks := tk } :=
      I.turnedNew (t' := tk) (ch := [z, TI, TO, i1, i2]) (fun d o hb q => by
        simp only [List.mem_cons, List.not_mem_nil, or_false, not_or] at hb
        exact (sb.2 d hb.1).trans (hk d o hb.1 hb.2.2.1 hb.2.2.2.1 hb.2.2.2.2 q)) hf (Nat.le_refl _) nw
    refine ⟨.ref s.heap.objs.size, _, I1, rfl, ⟨_, x, y, rfl, I.hok.fresh (Nat.le_refl _), rfl, fun k hl => by rw [sq_inj I hl hqx]; exact hx, fun k hl => by rw [sq_inj I hl hqy]; exact hy⟩, ⟨z4, ?_, ⟨u, u2, ?_⟩, ?_, ?_⟩, fun d hd => ?_⟩
    · exact (sb.2 _ D.TIz).trans (hk _ _ D.TIz D.TITO D.TIi1 D.TIi2 hTI)
    · exact (sb.2 _ D.TOz).trans TO3
    · exact st1.1.via fun o q => (sb.2 _ (Ne.symm D.zi1)).trans q
    · exact st2.1.via fun o q => (sb.2 _ (Ne.symm D.zi2)).trans q
    · have hlt : d < s.heap.objs.size := by
        simp only [List.mem_cons, List.not_mem_nil, or_false] at hd
        rcases hd with rfl | rfl | rfl | rfl | rfl
        · exact zl
        · exact Heap.lt_size hTI
        · exact Heap.lt_size hTO
        · obtain ⟨_, e, _⟩ := h1.ob; exact Heap.lt_size e
        · obtain ⟨_, e, _⟩ := h2.ob; exact Heap.lt_size e
      rw [upd_ne (Nat.ne_of_lt hlt)]
      exact (hf d hd).1
  done := by
    intro X eP ew eK hc n pins s σ H E I hf st hg
    subst eP ew eK
    obtain ⟨hz, hTI, ⟨x0, y0, hTO⟩, h1, h2⟩ := st
    obtain ⟨xs, ys, hqx, hqy, hn1, hn2, he⟩ := hg
    obtain ⟨its, rv, p⟩ := sq_get I hqx
    obtain ⟨its2, rv2, p2⟩ := sq_get I hqy
    have e1 := rv.length
    have e2 := rv2.length
    have hh : X.A.in1.handled = none := I.ok.hd hc
    refine wpAny_pyNext_zipD2_end D (draws_of hh b i1 l n1 its.toArray) (draws_of hh c i2 m n2 its2.toArray) hz hTI hTO ⟨h1, p⟩ ⟨h2, p2⟩ (by rw [List.size_toArray]; omega) (by rw [List.size_toArray]; omega) (by rw [List.size_toArray, List.size_toArray]; omega) fun h3 tk hk => ⟨rfl, ?_⟩
    exact I.turnedL (t' := tk) (ch := [z, TI, TO, i1, i2]) (fun d o hb q => by
      simp only [List.mem_cons, List.not_mem_nil, or_false, not_or] at hb
      exact hk d o hb.1 hb.2.2.1 hb.2.2.2.1 hb.2.2.2.2 q) hf
  self := fun A n s Q E st h => wpAny_pyIter_zip st.1 h
theorem pi_mix {X : Cx} {e e2 : Expr} {ta : TA} {p pos tpos : Pos} {elts : List Expr} {kk : Nat} (hg : Gl X "zip") (hm : X.mg "zip" = none) (ha : PA X [e, e2] ta)
    (hs : starEach [e, e2] X.env = (false, eval e X.env) :: starEach [e2] X.env) (hpl : (backTo pos (starEach [e2] X.env)).any (·.1) = false) :
    PI X (.Tuple elts kk tpos) (.Call (.Name "zip" p) [e, e2] [] pos) (fun σ H R => ta σ H fun vs H1 => ∃ b c l m xs ys, vs = [.ref l, .ref m] ∧ Sq b X.K H1 l xs ∧ Sq c X.K H1 m ys ∧ R (ItM X.K b c l m) H1) := by
  refine ⟨fun pins s σ H R I h => ?_⟩
  refine Call_ (ld_blt I hg hm PyProof.Rows.boot_zip (PyProof.Rows.callWith_type1 (thn (ha.run pos pins s σ H _ I h) fun us s1 ⟨vs, H1, I1, r1, q1⟩ => ?_) hs hpl))
  obtain ⟨b, c, l, m, xs, ys, ex, hqx, hqy, q⟩ := q1
  subst ex
  cases r1 with
  | cons r rr =>
    cases rr with
    | cons r2 rr =>
      cases rr
      cases r
      cases r2
      obtain ⟨its, rv, p1⟩ := sq_get I1 hqx
      obtain ⟨its2, rv2, p2⟩ := sq_get I1 hqy
      have l1 := p1.lt
      have l2 := p2.lt
      refine zip_begins2 (begins_of b l its.toArray) (begins_of c m its2.toArray) p1 p2 fun h2 hz hTI hTO g1 g2 hsz hk => wpAny_pyIter_zip hz ?_
      have I2 : Inv X pins σ H1 { s1 with heap := h2 } := I1.kept (t' := s1.toks) hk
      refine ⟨s1.heap.objs.size + 4, [s1.heap.objs.size + 4, s1.heap.objs.size + 2, s1.heap.objs.size + 3, s1.heap.objs.size, s1.heap.objs.size + 1], _, _, H1, rfl, I2, turn_mix (zip_sep2 (fp1 := [l]) (fp2 := [m]) (by simpa using l1) (by simpa using l2)) (Nat.ne_of_lt l1) (Nat.ne_of_lt (Nat.lt_succ_of_lt l2)), ⟨hz, hTI, ⟨_, _, hTO⟩, .put g1, .put g2⟩, fun d hd => ?_, q⟩
      have hle : s1.heap.objs.size ≤ d := by
        simp only [List.mem_cons, List.not_mem_nil, or_false] at hd
        rcases hd with rfl | rfl | rfl | rfl | rfl <;> first | exact Nat.le_refl _ | exact Nat.le_add_right _ _
      exact I1.fpOk hle (I1.hok.fresh hle)
open Sem (wp)
theorem meets_enumB {v : Value} {o : Obj} {C : Heap → Prop} (B : Begins v o C) :
    Meets (Builtin.«enumerate.__new__» ⟨[.type "enumerate", v], []⟩) (fun _ R s => C s.heap ∧
      R (.ok (.ret (.ref (s.heap.push o).objs.size))) { s with heap := (s.heap.push o).push { cls := .type "enumerate", data := .fields #[.none, .bool false, .ref s.heap.objs.size, rawInt 0, .none, .none] } }) :=
  .of_wp fun prog w A R s h => by
    obtain ⟨hp, g, d, tk, os⟩ := s
    obtain ⟨h1, h⟩ := h
    have hsub := sub_enumerate
    have q1 : ∀ {A2 : Around} {E : Value → Shared → Prop} {Q : Value → Shared → Prop}, Q (.ref hp.objs.size) ⟨hp.push o, g, d, tk, os⟩ → wpAny (model prog w) A2 (pyIter v) Q E ⟨hp, g, d, tk, os⟩ :=
      fun q => B.iter prog w _ _ ⟨hp, g, d, tk, os⟩ _ h1 q
    wp_walk using q1
    refine wpAny_stack_any fun st => wpAny_pure ?_
    split
    · rename_i c _ _ _ _ _
      cases (c == Value.type "enumerate")
      · wp_walk using q1
        exact ⟨_, rfl, h⟩
      · wp_walk using q1
        exact ⟨_, rfl, h⟩
    · wp_walk using q1
      exact ⟨_, rfl, h⟩
theorem call_enumB {prog : Program} {w : World} {A : Around} {E : Value → Shared → Prop} {s : Shared} {v : Value} {o : Obj} {C : Heap → Prop} {Q : Value → Shared → Prop} (B : Begins v o C) (h1 : C s.heap)
    (h : ∀ h2, IsEnum h2 (s.heap.objs.size + 1) s.heap.objs.size 0 .none → h2.get? s.heap.objs.size = some o → (∀ b u, s.heap.get? b = some u → h2.get? b = some u) → Q (.ref (s.heap.objs.size + 1)) { s with heap := h2 }) :
    wpAny (model prog w) A (call (.type "enumerate") [v]) Q E s := by
  refine callType_new F.called_enumerate (by decide) (F.typeCall_enumerate_1 _) (F.newCall_enumerate_1 _) (fun ob => F.args_object_init_2 ob _) F.entry_enumerate_new (meets_enumB B) ⟨h1, ?_⟩
  have hz : (s.heap.push o).objs.size = s.heap.objs.size + 1 := Heap.size_push ..
  have e0 := Heap.get?_push_size (s.heap.push o) (o := { cls := .type "enumerate", data := .fields #[.none, .bool false, .ref s.heap.objs.size, rawInt 0, .none, .none] }) rfl
  rw [hz] at e0
  show _ ∧ _
  rw [hz]
  exact ⟨⟨_, e0, rfl⟩, h _ e0 (Heap.get?_push_of_some _ (Heap.get?_push_size _ B.free)) fun b u x => Heap.get?_push_of_some _ (Heap.get?_push_of_some _ x)⟩
/-- a container with its counts -/
def ItN (K : Frag) (b : Bool) (l : Addr) : It :=
  ⟨fun n H => ∃ (xs : List V) (x : V), Sq b K H l xs ∧ xs[n]? = some x,
    fun n H v H2 => ∃ T x, v = .ref T ∧ H T = none ∧ H2 = upd H T (.tup [.int ((n : Nat) : Int), x]) ∧ ∀ xs, Sq b K H l xs → xs[n]? = some x,
    fun n H => ∃ xs : List V, Sq b K H l xs ∧ n = xs.length⟩
theorem turn_count {P : Program} {w : World} {K : Frag} {elts : List Expr} {kk : Nat} {tpos : Pos} {b : Bool} {l e it : Addr} (n1 : l ≠ it) (n2 : e ≠ it) (n3 : e ≠ l) :
    Turn P w K (.Tuple elts kk tpos) (ItN K b l) [e, it] e (fun n h => (∃ old, IsEnum h e it ((n : Nat) : Int) old) ∧ ItAt b h it l n) where
  mem := by simp
  obj := fun n h st d hd => by
    obtain ⟨⟨old, he⟩, h1⟩ := st
    simp only [List.mem_cons, List.not_mem_nil, or_false] at hd
    rcases hd with rfl | rfl
    · exact ⟨_, he, fun v q => nomatch q⟩
    · exact h1.ob
  keep := fun n h h2 st k => by
    obtain ⟨⟨old, he⟩, g1⟩ := st
    exact ⟨⟨old, k e (by simp) _ he⟩, g1.via fun o q => k it (by simp) o q⟩
  item := by
    intro X eP ew eK hc n pins s σ H E I hf st hg
    subst eP ew eK
    obtain ⟨⟨old, he⟩, h1⟩ := st
    obtain ⟨xs, x, hqx, hx⟩ := hg
    obtain ⟨its, rv, p⟩ := sq_get I hqx
    obtain ⟨u, hu, ru⟩ := rv.get hx
    have el : e < s.heap.objs.size := Heap.lt_size he
    have il : it < s.heap.objs.size := by obtain ⟨_, q, _⟩ := h1.ob; exact Heap.lt_size q
    have hh : X.A.in1.handled = none := I.ok.hd hc
    have lt1 : n < its.toArray.size := by rw [List.size_toArray]; exact (List.getElem?_eq_some_iff.mp hu).1
    refine wpAny_pyNext_enum_itemD (draws_of hh b it l n1 its.toArray) he ⟨h1, p⟩ lt1 n2 (by simp [n2, n3]) fun v1 h3 tk q1 he3 st1 hT hsz hk => ?_
    rw [List.getElem?_toArray, hu] at q1
    cases q1
    refine ⟨_, rfl, wpAny_letOwnedTupleGo_enum (s := { s with heap := h3, toks := tk + 1 }) he3 fun h4 he4 sb => ?_⟩
    have hT4 : h4.get? s.heap.objs.size = some { cls := .type "tuple", data := .seq #[.int n tk, u] } := (sb.2 _ (Nat.ne_of_gt el)).trans hT
    have nw : ObjOk X.prog X.w (upd H s.heap.objs.size (.tup [.int ((n : Nat) : Int), x])) h4 s.heap.objs.size (.tup [.int ((n : Nat) : Int), x]) :=
      ⟨by show 2 ≤ sizeLine; decide, [.int n tk, u], .cons ⟨_, rfl⟩ (.cons ru .nil), ⟨_, hT4, rfl, _, rfl⟩⟩
    have I1 : Inv X pins σ (upd H s.heap.objs.size (.tup [.int ((n : Nat) : Int), x])) { s with heap := h4, toks := tk + 1 } :=
      I.turnedNew (t' := tk + 1) (ch := [e, it]) (fun d o hb q => by
        simp only [List.mem_cons, List.not_mem_nil, or_false, not_or] at hb
        exact (sb.2 d hb.1).trans (hk d o hb.1 hb.2 q)) hf (Nat.le_refl _) nw
    refine ⟨.ref s.heap.objs.size, _, I1, rfl, ⟨_, x, rfl, I.hok.fresh (Nat.le_refl _), rfl, fun k hl => by rw [sq_inj I hl hqx]; exact hx⟩, ⟨⟨u, ?_⟩, st1.1.via fun o q => (sb.2 it (Ne.symm n2)).trans q⟩, fun d hd => ?_⟩
    · have e1 : ((n + 1 : Nat) : Int) = (n : Int) + 1 := by omega
      rw [e1]; exact he4
    · have hlt : d < s.heap.objs.size := by
        simp only [List.mem_cons, List.not_mem_nil, or_false] at hd
        rcases hd with rfl | rfl
        · exact el
        · exact il
      rw [upd_ne (Nat.ne_of_lt hlt)]
      exact (hf d hd).1
  done := by
    intro X eP ew eK hc n pins s σ H E I hf st hg
    subst eP ew eK
    obtain ⟨⟨old, he⟩, h1⟩ := st
    obtain ⟨xs, hqx, hn⟩ := hg
    obtain ⟨its, rv, p⟩ := sq_get I hqx
    have e1 := rv.length
    have hh : X.A.in1.handled = none := I.ok.hd hc
    have en : n = its.toArray.size := by rw [List.size_toArray]; omega
    obtain ⟨f0, f1, f2, f3, f4, f5⟩ := hf it (by simp)
    exact wpAny_pyNext_enum_endD (draws_of hh b it l n1 its.toArray) he (by rw [← en]; exact ⟨h1, p⟩) fun h3 eb => ⟨rfl, I.turned (t' := s.toks) (fun d o hb q => eb d o hb q) f0 f1 f3 f4 f5⟩
  self := fun A n s Q E st h => let ⟨⟨_, he⟩, _⟩ := st; wpAny_pyIter_enum he h
theorem pi_count {X : Cx} {e : Expr} {ta : TA} {p pos tpos : Pos} {elts : List Expr} {kk : Nat} (hg : Gl X "enumerate") (hm : X.mg "enumerate" = none) (ha : PA X [e] ta) (hs : starEach [e] X.env = [(false, eval e X.env)]) :
    PI X (.Tuple elts kk tpos) (.Call (.Name "enumerate" p) [e] [] pos) (fun σ H R => ta σ H fun vs H1 => ∃ b l xs, vs = [.ref l] ∧ Sq b X.K H1 l xs ∧ R (ItN X.K b l) H1) := by
  refine ⟨fun pins s σ H R I h => ?_⟩
  refine Call_ (ld_blt I hg hm boot_enumerate (PyProof.Rows.callWith_type1 (thn (ha.run pos pins s σ H _ I h) fun us s1 ⟨vs, H1, I1, r1, q1⟩ => ?_) hs rfl))
  obtain ⟨b, l, xs, ex, hqx, q⟩ := q1
  subst ex
  cases r1 with
  | cons r rr =>
    cases rr
    cases r
    obtain ⟨its, rv, p1⟩ := sq_get I1 hqx
    have l1 := p1.lt
    refine call_enumB (begins_of b l its.toArray) p1 fun h2 he g1 hk => wpAny_pyIter_enum he ?_
    have I2 : Inv X pins σ H1 { s1 with heap := h2 } := I1.kept (t' := s1.toks) hk
    refine ⟨s1.heap.objs.size + 1, [s1.heap.objs.size + 1, s1.heap.objs.size], _, _, H1, rfl, I2, turn_count (Nat.ne_of_lt l1) (Nat.succ_ne_self _) (Nat.ne_of_gt (Nat.lt_succ_of_lt l1)), ⟨⟨.none, he⟩, .put g1⟩, fun d hd => ?_, q⟩
    have hle : s1.heap.objs.size ≤ d := by
      simp only [List.mem_cons, List.not_mem_nil, or_false] at hd
      rcases hd with rfl | rfl <;> first | exact Nat.le_refl _ | exact Nat.le_add_right _ _
    exact I1.fpOk hle (I1.hok.fresh hle)
/-! as readings -/
theorem itok_mix {K : Frag} {H0 : Hp} {b c : Bool} {l m : Addr} {ds es : List D} {c1 c2 : Sto → Prop} (h1 : ∀ H S, TupLe K H0 H → StR K H S → c1 S → ∃ xs, Sq b K H l xs ∧ Reps K H ds xs) (h2 : ∀ H S, TupLe K H0 H → StR K H S → c2 S → ∃ xs, Sq c K H m xs ∧ Reps K H es xs) :
    ItOk K H0 (ItM K b c l m) (zipD ds es) (fun S => c1 S ∧ c2 S) := fun H S tl hs c => by
  obtain ⟨xs, hx, rx⟩ := h1 H S tl hs c.1
  obtain ⟨ys, hy, ry⟩ := h2 H S tl hs c.2
  have lz : (zipD ds es).length = min ds.length es.length := by unfold zipD; simp
  have lx := rx.length
  have ly := ry.length
  refine ⟨fun n hn => ?_, fun n x H2 d yl e => ?_, ⟨xs, ys, hx, hy, by omega, by omega, by omega⟩⟩
  · obtain ⟨v, hv, _⟩ := rx.get (List.getElem?_eq_getElem (show n < ds.length by omega))
    obtain ⟨u, hu, _⟩ := ry.get (List.getElem?_eq_getElem (show n < es.length by omega))
    exact ⟨xs, ys, v, u, hx, hy, hv, hu⟩
  · obtain ⟨T, x1, y1, rfl, hT, rfl, q1, q2⟩ := yl
    have g1 := q1 xs hx
    have g2 := q2 ys hy
    obtain ⟨d1, e1, r1⟩ := rx.get' g1
    obtain ⟨d2, e2, r2⟩ := ry.get' g2
    have ed : d = .tup [d1, d2] := by
      unfold zipD at e
      rw [List.getElem?_map] at e
      have : (ds.zip es)[n]? = some (d1, d2) := List.getElem?_zip_eq_some.mpr ⟨e1, e2⟩
      rw [this] at e
      cases e
      rfl
    subst ed
    have tn := tupLe_new (K := K) (o := .tup [x1, y1]) hT
    refine ⟨ext_new hT, hs.new hT, rep_tup.mpr ⟨T, [x1, y1], rfl, .inl (.inl upd_same), reps_cons.mpr ⟨_, _, rfl, Rep.mono tn _ _ r1, reps_cons.mpr ⟨_, _, rfl, Rep.mono tn _ _ r2, reps_nil.mpr rfl⟩⟩⟩⟩
theorem itok_count {K : Frag} {H0 : Hp} {b : Bool} {l : Addr} {ds : List D} {c1 : Sto → Prop} (h1 : ∀ H S, TupLe K H0 H → StR K H S → c1 S → ∃ xs, Sq b K H l xs ∧ Reps K H ds xs) : ItOk K H0 (ItN K b l) (enumD ds) c1 := fun H S tl hs c => by
  obtain ⟨xs, hx, rx⟩ := h1 H S tl hs c
  have lz : (enumD ds).length = ds.length := by unfold enumD; simp
  have lx := rx.length
  refine ⟨fun n hn => ?_, fun n x H2 d yl e => ?_, ⟨xs, hx, by omega⟩⟩
  · obtain ⟨v, hv, _⟩ := rx.get (List.getElem?_eq_getElem (show n < ds.length by omega))
    exact ⟨xs, v, hx, hv⟩
  · obtain ⟨T, x1, rfl, hT, rfl, q1⟩ := yl
    obtain ⟨d1, e1, r1⟩ := rx.get' (q1 xs hx)
    have ed : d = .tup [.int ((n : Nat) : Int), d1] := by
      unfold enumD at e
      rw [List.getElem?_map, List.getElem?_zipIdx, e1] at e
      cases e
      simp
    subst ed
    have tn := tupLe_new (K := K) (o := .tup [.int ((n : Nat) : Int), x1]) hT
    refine ⟨ext_new hT, hs.new hT, rep_tup.mpr ⟨T, [.int ((n : Nat) : Int), x1], rfl, .inl (.inl upd_same), reps_cons.mpr ⟨_, _, rfl, rep_int.mpr rfl, reps_cons.mpr ⟨_, _, rfl, Rep.mono tn _ _ r1, reps_nil.mpr rfl⟩⟩⟩⟩
/-- the items of a tuple or a list, what must stay -/
theorem walkLT_ok {K : Frag} {H : Hp} {S : Sto} (hs : StR K H S) {d : D} {v : V} {R : List D → (Sto → Prop) → Prop} (r : Rep K H d v) (w : walkLT d S R) :
    ∃ b l xs ds chk, v = .ref l ∧ Sq b K H l xs ∧ (∀ H2 S2, TupLe K H H2 → StR K H2 S2 → chk S2 → ∃ xs, Sq b K H2 l xs ∧ Reps K H2 ds xs) ∧ R ds chk := by
  unfold walkLT at w
  split at w
  · obtain ⟨l, xs, rfl, hq, hr⟩ := rep_tup.mp r
    exact ⟨true, l, xs, _, _, rfl, hq, fun H2 S2 tl _ _ => ⟨xs, (tl _ _).1 hq, Reps.mono tl _ _ hr⟩, w⟩
  · obtain ⟨l, xs, ds, chk, rfl, hq, hr, hc, w2⟩ := walkL_ok hs r w
    exact ⟨false, l, xs, ds, chk, rfl, hq, fun H2 S2 _ h2 c => hc H2 S2 h2 c, w2⟩
section
variable {X : Cx} {tg a b : Expr} {Wa Wb : WE} {pos p : Pos} {elts : List Expr} {kk : Nat} {tpos : Pos}
theorem si_zipM (hg : Gl X "zip") (hm : X.mg "zip" = none) (ha : SE X a Wa) (hb : SE X b Wb) (hs : starEach [a, b] X.env = (false, eval a X.env) :: starEach [b] X.env) (hs2 : starEach [b] X.env = [(false, eval b X.env)]) :
    SI X (.Tuple elts kk tpos) (.Call (.Name "zip" p) [a, b] [] pos) (fun ρ S R => Wa ρ S fun d S1 => Wb ρ S1 fun e S2 => walkLT d S2 fun ds c1 => walkLT e S2 fun es c2 => R (zipD ds es) (fun S => c1 S ∧ c2 S) S2) :=
  pi_imp (pi_mix hg hm (pa_cons ha (pa_cons hb pa_nil (by rw [hs2] <;> simp [starEach])) hs) hs (by rw [hs2]; simp [backTo])) fun σ H R ⟨ρ, S, R', he, hs, w, f⟩ => lift_bind he hs w fun d v H1 S1 e1 he1 hs1 t1 r1 w1 => lift_bind he1 hs1 w1 fun d2 v2 H2 S2 e2 he2 hs2 t2 r2 w2 => by
    obtain ⟨x, l, xs, ds, c1, rfl, q1, k1, w3⟩ := walkLT_ok hs2 (Rep.mono t2 _ _ r1) w2
    obtain ⟨y, m, ys, es, c2, rfl, q2, k2, w4⟩ := walkLT_ok hs2 r2 w3
    exact ⟨x, y, l, m, xs, ys, rfl, q1, q2, f _ _ H2 S2 _ (e1.trans e2) hs2 (itok_mix k1 k2) w4⟩
theorem si_enumM (hg : Gl X "enumerate") (hm : X.mg "enumerate" = none) (ha : SE X a Wa) (hs : starEach [a] X.env = [(false, eval a X.env)]) :
    SI X (.Tuple elts kk tpos) (.Call (.Name "enumerate" p) [a] [] pos) (fun ρ S R => Wa ρ S fun d S1 => walkLT d S1 fun ds chk => R (enumD ds) chk S1) :=
  pi_imp (pi_count hg hm (pa_cons ha pa_nil (by rw [hs] <;> simp [starEach])) hs) fun σ H R ⟨ρ, S, R', he, hs, w, f⟩ => lift_bind he hs w fun d v H1 S1 e1 he1 hs1 t1 r1 w1 => by
    obtain ⟨x, l, xs, ds, c1, rfl, q1, k1, w3⟩ := walkLT_ok hs1 r1 w1
    exact ⟨x, l, xs, rfl, q1, f _ _ H1 S1 _ e1 hs1 (itok_count k1) w3⟩
end
/-! a[::-1] of a list -/
theorem rev_range (n : Nat) : sliceRange (sliceBounds none none (some (-1)) n).1 (sliceBounds none none (some (-1)) n).2.1 (sliceBounds none none (some (-1)) n).2.2 = (List.range n).map fun k => n - 1 - k := by
  unfold sliceBounds sliceRange
  show (List.range (if (-1 : Int) > 0 then _ else (if (n : Int) - 1 > -1 then ((n : Int) - 1 - -1 - -1 - 1) / (- -1) else 0)).toNat).map (fun (k : Nat) => ((n : Int) - 1 + -1 * (k : Int)).toNat) = _
  rw [if_neg (by decide)]
  have e : (if (n : Int) - 1 > -1 then ((n : Int) - 1 - -1 - -1 - 1) / (- -1) else 0).toNat = n := by
    by_cases h : (n : Int) - 1 > -1
    · rw [if_pos h]
      have : ((n : Int) - 1 - -1 - -1 - 1) / (- -1) = n := by
        rw [show (- -1 : Int) = 1 from rfl, Int.ediv_one]; omega
      rw [this]; omega
    · rw [if_neg h]; omega
  rw [e]
  apply List.map_congr_left
  intro k _
  omega
theorem fm_all {α : Type} : ∀ l : List α, (List.range l.length).filterMap (fun j => l[j]?) = l
  | [] => rfl
  | x :: l => by
    rw [List.length_cons, List.range_succ_eq_map, List.filterMap_cons]
    show x :: ((List.range l.length).map Nat.succ).filterMap (fun j => (x :: l)[j]?) = x :: l
    rw [List.filterMap_map]
    congr 1
    exact fm_all l
theorem range_rev : ∀ n : Nat, (List.range n).map (fun k => n - 1 - k) = (List.range n).reverse := fun n => by
  apply List.ext_getElem
  · simp
  · intro j h1 h2
    simp
theorem pick_rev (items : Array Value) : (slicePick items none none (some (-1))).toList = items.toList.reverse := by
  unfold slicePick
  rw [rev_range, range_rev]
  show ((List.range items.size).reverse).filterMap (fun j => items[j]?) = _
  rw [List.filterMap_reverse]
  congr 1
  have := fm_all items.toList
  rw [Array.length_toList] at this
  rw [← this]
  simp
section
variable {X : Cx} {a : Expr} {Wa : WE} {pos p1 p2 p3 : Pos} {j : Nat}
theorem se_rsl (ha : SE X a Wa) {e : Expr} (he : PE X e (tC (.int (-1)))) : SE X (.Subscript a (.Slice none none (some e) p3) pos) (fun ρ S Q => Wa ρ S fun d S1 => match d with
    | .ref q => match S1 q with
      | some (.lst ds) => ∀ p, S1 p = none → Q (.ref p) (up S1 p (.lst ds.reverse))
      | _ => False
    | _ => False) := by
  refine ⟨fun pins s σ H Q I ⟨ρ, S, Q', hE, hs, w, f⟩ => ?_⟩
  refine Subscript_ (thn (ha.run pins s σ H _ I (lift_bind hE hs w fun d v H1 S1 e1 he1 hs1 t1 r1 w1 => show ∃ d S1, Ext H S H1 S1 ∧ StR X.K H1 S1 ∧ Rep X.K H1 d v ∧ _ from ⟨d, S1, e1, hs1, r1, w1⟩)) fun u s1 ⟨x, H1, I1, rx, d, S1, e1, hs1, r1, w1⟩ => ?_)
  refine wpAny_Slice (thn (po_none.run pins s1 σ H1 (fun o H2 => o = none ∧ H2 = H1) I1 ⟨rfl, rfl⟩) fun vl s2 ⟨l, H2, I2, pl, e2, e3⟩ => thn (po_none.run pins s2 σ H2 (fun o H3 => o = none ∧ H3 = H2) I2 ⟨rfl, rfl⟩) fun vu s3 ⟨k, H3, I3, pu, e4, e5⟩ => ?_)
  subst e2 e3 e4 e5
  refine thn ((po_some he).run pins s3 σ H3 (fun o H4 => o = some (-1) ∧ H4 = H3) I3 ⟨_, rfl, rfl, rfl⟩) fun vt s4 ⟨m, H4, I4, pt, e6, e7⟩ => ?_
  subst e6 e7
  split at w1
  · rename_i q
    obtain rfl := rep_ref.mp r1
    obtain rfl : u = Value.ref q := rx
    split at w1
    · rename_i ds hq
      obtain ⟨xs, hx, hr⟩ := hs1 _ _ hq
      have I5 : Inv X pins σ H4 { s4 with heap := s4.heap.push { cls := .type "slice", data := .fields #[vl, vu, vt] } } := I4.kept (t' := s4.toks) fun b ob q => Heap.get?_push_of_some _ q
      obtain ⟨its, r, ht, hz⟩ := I5.list (.inl (.inl hx))
      refine sub_tail (T := "list") PySem.F.slot_list_getitem.lookup ht.isList.typeIs rfl ?_
      refine wpAny_getItem_list_slice ht.isList (Heap.IsSliceOf.new ..) pl pu pt (by decide) ?_ (by rw [List.size_toArray, ← r.length]; exact hz)
      have hn : H4 ({ s4 with heap := s4.heap.push { cls := .type "slice", data := .fields #[vl, vu, vt] } } : Shared).heap.objs.size = none := I5.hok.fresh (Nat.le_refl _)
      refine ⟨.ref _, upd H4 _ (.lst xs.reverse), I5.laid (t' := s4.toks) (o := .lst xs.reverse) (fun b ob q => Heap.get?_push_of_some _ q) (Nat.le_refl _) ?_, rfl, (f.after e1).lst hs1 hr.reverse w1 hn⟩
      refine ⟨by rw [List.length_reverse]; exact hz, its.reverse, 0, r.reverse, ?_⟩
      have e8 : (slicePick its.toArray none none (some (-1))) = its.reverse.toArray := by
        rw [← Array.toArray_toList (xs := slicePick its.toArray none none (some (-1))), pick_rev]
      rw [← e8]
      exact Heap.get?_push_size _ rfl
    · exact w1.elim
  · exact w1.elim
end
end Z

/-! ### Z10 -/
/-! Z10: targets, comprehensions, statements. -/
namespace Z
open PySem PySem.Spec PyProof.Rows L2
/-! ### targets -/
mutual
def tgSl : Tg → List Nat
  | .v i => [i]
  | .t ts => tgSls ts
def tgSls : Tgs → List Nat
  | .nil => []
  | .cons t r => tgSl t ++ tgSls r
end
mutual
def gTg (K : Frag) : Tg → TG
  | .v i => gName i
  | .t ts => gTup K (tgLen ts) (gTgs K ts)
def gTgs (K : Frag) : Tgs → TGs
  | .nil => gNil
  | .cons t r => gCons (gTg K t) (gTgs K r)
end
theorem wipe_set {σ : L2.St} {i : Nat} {x : Option V} : ∀ {vs : List Nat}, i ∈ vs → wipe (σ.set i x) vs = wipe σ vs
  | v :: vs, h => by
    unfold wipe
    by_cases hi : i ∈ vs
    · rw [wipe_set hi]
    · rcases List.mem_cons.mp h with e | e
      · subst e
        have key : ∀ (us : List Nat) (σ : L2.St), (wipe (σ.set i x) us).set i none = (wipe σ us).set i none := by
          intro us
          induction us with
          | nil => intro σ; simp [wipe]
          | cons u us ih =>
            intro σ
            unfold wipe
            by_cases hu : u = i
            · subst hu
              rw [List.set_set, List.set_set]
              exact ih σ
            · rw [List.set_comm _ _ hu, ih σ, List.set_comm _ _ (Ne.symm hu)]
        exact key vs σ
      · exact absurd e hi
theorem wipe_wipe {σ : L2.St} : ∀ {us vs : List Nat}, (∀ i ∈ us, i ∈ vs) → L2.wipe (L2.wipe σ us) vs = L2.wipe σ vs
  | [], vs, _ => rfl
  | u :: us, vs, h => by
    rw [show L2.wipe σ (u :: us) = (L2.wipe σ us).set u none from rfl, wipe_set (h u List.mem_cons_self)]
    exact wipe_wipe fun i hi => h i (List.mem_cons_of_mem _ hi)
theorem EnvR.wipe {K : Frag} {H : Hp} {ρ : Ev} {σ : L2.St} (e : EnvR K H ρ σ) : ∀ vs : List Nat, EnvR K H (wipeE ρ vs) (wipe σ vs)
  | [] => e
  | v :: vs => by
    have ih := EnvR.wipe e vs
    refine ⟨by unfold wipeE L2.wipe; simp [ih.1], fun i d h => ?_⟩
    unfold wipeE at h
    unfold L2.wipe
    by_cases hv : v = i
    · subst hv
      by_cases hl : v < (wipeE ρ vs).length
      · rw [List.getElem?_set_self hl] at h; cases h
      · rw [List.getElem?_eq_none (by simpa using hl)] at h; cases h
    · rw [List.getElem?_set_ne hv] at h ⊢
      exact ih.2 i d h
mutual
theorem gTg_ok {K : Frag} {H : Hp} : ∀ (t : Tg) (d : D) (v : V) (ρ : Ev) (σ : L2.St) (k : Ev → Prop) (Q : L2.St → Hp → Prop), Rep K H d v → EnvR K H ρ σ → asgW t d ρ k →
    (∀ ρ1 σ1, EnvR K H ρ1 σ1 → (∀ vs : List Nat, (∀ i ∈ tgSl t, i ∈ vs) → wipe σ1 vs = wipe σ vs) → k ρ1 → Q σ1 H) → gTg K t v σ H Q
  | .v i, d, v, ρ, σ, k, Q, r, e, w, f => by
    unfold asgW at w
    unfold gTg
    exact f _ _ (e.set r) (fun vs h => wipe_set (h i (by simp [tgSl]))) w
  | .t ts, d, v, ρ, σ, k, Q, r, e, w, f => by
    unfold asgW at w
    unfold gTg
    split at w
    · obtain ⟨a, xs, rfl, t, hr⟩ := rep_tup.mp r
      exact ⟨a, xs, rfl, t, by rw [hr.length]; exact w.1, gTgs_ok ts _ xs ρ σ k Q hr e w.2 (fun ρ1 σ1 e1 hw q => f ρ1 σ1 e1 (fun vs h => hw vs (by simpa [tgSl] using h)) q)⟩
    · exact w.elim
theorem gTgs_ok {K : Frag} {H : Hp} : ∀ (ts : Tgs) (ds : List D) (xs : List V) (ρ : Ev) (σ : L2.St) (k : Ev → Prop) (Q : L2.St → Hp → Prop), Reps K H ds xs → EnvR K H ρ σ → asgWs ts ds ρ k →
    (∀ ρ1 σ1, EnvR K H ρ1 σ1 → (∀ vs : List Nat, (∀ i ∈ tgSls ts, i ∈ vs) → wipe σ1 vs = wipe σ vs) → k ρ1 → Q σ1 H) → gTgs K ts xs σ H Q
  | .nil, ds, xs, ρ, σ, k, Q, r, e, w, f => by
    unfold asgWs at w
    cases ds with
    | nil =>
      obtain rfl := reps_nil.mp r
      unfold gTgs
      exact ⟨rfl, f ρ σ e (fun _ _ => rfl) w⟩
    | cons d ds => exact w.elim
  | .cons t ts, ds, xs, ρ, σ, k, Q, r, e, w, f => by
    cases ds with
    | nil => unfold asgWs at w; exact w.elim
    | cons d ds =>
      unfold asgWs at w
      obtain ⟨v, vs, rfl, rv, rs⟩ := reps_cons.mp r
      unfold gTgs
      refine ⟨v, vs, rfl, ?_⟩
      refine gTg_ok t d v ρ σ _ _ rv e w fun ρ1 σ1 e1 hw q => ?_
      exact gTgs_ok ts ds vs ρ1 σ1 k Q rs e1 q fun ρ2 σ2 e2 hw2 q2 => f ρ2 σ2 e2 (fun us h => (hw2 us fun i hi => h i (by simp [tgSls, hi])).trans (hw us fun i hi => h i (by simp [tgSls, hi]))) q2
end
/-! ### comprehensions -/
theorem tupLe_lst {K : Frag} {H : Hp} {p : Addr} {xs : List V} {o : HO} (h : H p = some (.lst xs)) : TupLe K H (upd H p o) := fun a ys => by
  constructor
  · intro q
    rcases q with q | q
    · have : a ≠ p := by
        rintro rfl
        rcases q with q | ⟨w, q⟩ <;> (rw [h] at q; cases q)
      rcases q with q | ⟨w, q⟩
      · exact .inl (.inl (by rw [upd_ne this]; exact q))
      · exact .inl (.inr ⟨w, by rw [upd_ne this]; exact q⟩)
    · exact .inr q
  · intro q
    rcases q with ⟨w, q⟩ | q
    · have : a ≠ p := by rintro rfl; rw [h] at q; cases q
      exact .inl ⟨w, by rw [upd_ne this]; exact q⟩
    · exact .inr q
theorem tupLe_dic {K : Frag} {H : Hp} {p : Addr} {xs : List (Key × V)} {o : HO} (h : H p = some (.dK xs)) : TupLe K H (upd H p o) := fun a ys => by
  constructor
  · intro q
    rcases q with q | q
    · have : a ≠ p := by
        rintro rfl
        rcases q with q | ⟨w, q⟩ <;> (rw [h] at q; cases q)
      rcases q with q | ⟨w, q⟩
      · exact .inl (.inl (by rw [upd_ne this]; exact q))
      · exact .inl (.inr ⟨w, by rw [upd_ne this]; exact q⟩)
    · exact .inr q
  · intro q
    rcases q with ⟨w, q⟩ | q
    · have : a ≠ p := by rintro rfl; rw [h] at q; cases q
      exact .inl ⟨w, by rw [upd_ne this]; exact q⟩
    · exact .inr q
/-- an object off the store is changed -/
theorem StR.off {K : Frag} {H : Hp} {S : Sto} (s : StR K H S) {p : Addr} {o : HO} (n : S p = none) (t : TupLe K H (upd H p o)) : StR K (upd H p o) S := fun a u e => by
  have : a ≠ p := by rintro rfl; rw [n] at e; cases e
  exact (s a u e).mono t fun v q => by rw [upd_ne this]; exact q
section
variable {X : Cx} {tg iter elt kx vx : Expr} {ifs : List Expr} {scope : Scope} {own : List (Str × Nat)} {pos : Pos} {Wi : WI} {Wt : WT} {We Wk : WE} {t : Tg}
theorem lc_read {σ : L2.St} {H : Hp} {Q : VK} (hown : ∀ i ∈ tgSl t, i ∈ own.map (·.2))
    (h : lift X.K (fun ρ S Q => Wi ρ S fun ds chk S1 =>
      lcW chk (fun d S2 k => asgW t d (wipeE ρ (own.map (·.2))) fun ρ1 => Wt ρ1 S2 fun b S3 => if b = true then We ρ1 S3 fun v S4 => k (some v) S4 else k none S3)
        (fun acc S2 => ∀ p, S2 p = none → Q (.ref p) (up S2 p (.lst acc))) ds [] S1) σ H Q) : tLc (liftI X.K Wi) (gTg X.K t) (liftT X.K Wt) (lift X.K We) (own.map (·.2)) σ H Q := by
  obtain ⟨ρ, S, Q', he, hs, w, f⟩ := h
  refine ⟨ρ, S, _, he, hs, w, fun ds chk H1 S1 J e1 hs1 ok w1 => fun D hD => ?_⟩
  have he1 := he.mono (e1.tups hs)
  refine ⟨fun i m H2 => ∃ pre rest acc xs S2, ds = pre ++ rest ∧ pre.length = i ∧ m = rest.length ∧ H2 D = some (.lst xs) ∧ Reps X.K H2 acc xs ∧ StR X.K H2 S2 ∧ S2 D = none ∧ Ext H1 S1 H2 S2 ∧
    lcW chk (fun d S2 k => asgW t d (wipeE ρ (own.map (·.2))) fun ρ1 => Wt ρ1 S2 fun b S3 => if b = true then We ρ1 S3 fun v S4 => k (some v) S4 else k none S3)
      (fun acc S2 => ∀ p, S2 p = none → Q' (.ref p) (up S2 p (.lst acc))) rest acc S2,
    ⟨ds.length, [], ds, [], [], S1, rfl, rfl, rfl, upd_same, reps_nil.mpr rfl, hs1.new hD, hs1.fresh hD, ext_new hD, w1⟩, ?_⟩
  rintro i m H2 ⟨pre, rest, acc, xs, S2, rfl, rfl, rfl, h2, r2, hs2, n2, e2, w2⟩
  have t2 := e2.tups hs1
  cases rest with
  | nil =>
    unfold lcW at w2
    obtain ⟨c, w2⟩ := w2
    obtain ⟨_, _, st⟩ := ok H2 S2 t2 hs2 c
    left
    rw [List.append_nil] at st
    refine ⟨st, f (.ref D) (.ref D) H2 (up S2 D (.lst acc)) (fun a o q n => ?_) (fun a o q => ?_) (rep_ref.mpr rfl) (w2 D n2)⟩
    · obtain ⟨q1, n1⟩ := e1 a o q n
      obtain ⟨q2, n2⟩ := e2 a o q1 n1
      exact ⟨q2, by rw [up_ne (ne_of_none q1 hD)]; exact n2⟩
    · by_cases ha : a = D
      · subst ha; rw [up_same] at q; cases q; exact ⟨xs, h2, r2⟩
      · rw [up_ne ha] at q; exact hs2 a o q
  | cons d r =>
    unfold lcW at w2
    obtain ⟨c, w2⟩ := w2
    obtain ⟨go, yl, _⟩ := ok H2 S2 t2 hs2 c
    right
    refine ⟨go _ (by simp), _, fun H' h => ⟨r.length, Nat.lt_succ_self _, h⟩, fun x H3 hy => ?_⟩
    obtain ⟨e3, hs3, r3⟩ := yl _ x H3 d hy (by simp)
    have e13 := e2.trans e3
    have t13 := e13.tups hs1
    have h3 : H3 D = some (.lst xs) := (e3 D _ h2 n2).1
    have ra3 := Reps.mono (e3.tups hs2) _ _ r2
    refine gTg_ok t d x _ _ _ _ r3 ((he1.mono t13).wipe _) w2 fun ρ1 σ1 ee hw w3 => ⟨(hw _ hown).trans (wipe_wipe fun _ h => h), ?_⟩
    refine liftT_bind ee hs3 w3 fun b H4 S4 e4 ee4 hs4 w4 => ?_
    have n4 := (e4 D _ h3 n2).2
    have h4 := (e4 D _ h3 n2).1
    have ra4 := Reps.mono (e4.tups hs3) _ _ ra3
    cases b with
    | false =>
      rw [if_neg Bool.false_ne_true] at w4 ⊢
      exact ⟨pre ++ [d], r, acc, xs, S4, by simp, by simp, rfl, h4, ra4, hs4, n4, e13.trans e4, w4⟩
    | true =>
      rw [if_pos rfl] at w4 ⊢
      refine lift_bind ee4 hs4 w4 fun y v H5 S5 e5 ee5 hs5 t5 r5 w5 => ?_
      have n5 := (e5 D _ h4 n4).2
      have h5 := (e5 D _ h4 n4).1
      have ra5 := Reps.mono t5 _ _ ra4
      have tn := tupLe_lst (K := X.K) (o := .lst (xs ++ [v])) h5
      refine ⟨xs, h5, by rw [ra5.length]; exact w5.1, pre ++ [d], r, acc ++ [y], xs ++ [v], S5, by simp, by simp, rfl, upd_same, Reps.mono tn _ _ (ra5.append (reps_cons.mpr ⟨v, [], rfl, r5, reps_nil.mpr rfl⟩)), hs5.off n5 tn, n5, fun a o q n => ?_, w5.2⟩
      obtain ⟨q2, n2⟩ := (e13.trans e4).trans e5 a o q n
      exact ⟨by rw [upd_ne (ne_of_none q hD)]; exact q2, n2⟩
theorem dc_read {σ : L2.St} {H : Hp} {Q : VK} (hown : ∀ i ∈ tgSl t, i ∈ own.map (·.2))
    (h : lift X.K (fun ρ S Q => Wi ρ S fun ds chk S1 =>
      dcW chk (fun d S2 k => asgW t d (wipeE ρ (own.map (·.2))) fun ρ1 => Wt ρ1 S2 fun b S3 => if b = true then Wk ρ1 S3 fun kd S4 => We ρ1 S4 fun v S5 => k (some (kd, v)) S5 else k none S3)
        (fun acc S2 => ∀ p, S2 p = none → Q (.ref p) (up S2 p (.dic acc))) ds [] S1) σ H Q) : tDc (liftI X.K Wi) (gTg X.K t) (liftT X.K Wt) (lift X.K Wk) (lift X.K We) (own.map (·.2)) σ H Q := by
  obtain ⟨ρ, S, Q', he, hs, w, f⟩ := h
  refine ⟨ρ, S, _, he, hs, w, fun ds chk H1 S1 J e1 hs1 ok w1 => fun D hD => ?_⟩
  have he1 := he.mono (e1.tups hs)
  refine ⟨fun i m H2 => ∃ pre rest acc xs S2, ds = pre ++ rest ∧ pre.length = i ∧ m = rest.length ∧ H2 D = some (.dK xs) ∧ RepKV X.K H2 acc xs ∧ StR X.K H2 S2 ∧ S2 D = none ∧ Ext H1 S1 H2 S2 ∧
    dcW chk (fun d S2 k => asgW t d (wipeE ρ (own.map (·.2))) fun ρ1 => Wt ρ1 S2 fun b S3 => if b = true then Wk ρ1 S3 fun kd S4 => We ρ1 S4 fun v S5 => k (some (kd, v)) S5 else k none S3)
      (fun acc S2 => ∀ p, S2 p = none → Q' (.ref p) (up S2 p (.dic acc))) rest acc S2,
    ⟨ds.length, [], ds, [], [], S1, rfl, rfl, rfl, upd_same, .nil, hs1.new hD, hs1.fresh hD, ext_new hD, w1⟩, ?_⟩
  rintro i m H2 ⟨pre, rest, acc, xs, S2, rfl, rfl, rfl, h2, r2, hs2, n2, e2, w2⟩
  have t2 := e2.tups hs1
  cases rest with
  | nil =>
    unfold dcW at w2
    obtain ⟨c, w2⟩ := w2
    obtain ⟨_, _, st⟩ := ok H2 S2 t2 hs2 c
    left
    rw [List.append_nil] at st
    refine ⟨st, f (.ref D) (.ref D) H2 (up S2 D (.dic acc)) (fun a o q n => ?_) (fun a o q => ?_) (rep_ref.mpr rfl) (w2 D n2)⟩
    · obtain ⟨q1, n1⟩ := e1 a o q n
      obtain ⟨q2, n2⟩ := e2 a o q1 n1
      exact ⟨q2, by rw [up_ne (ne_of_none q1 hD)]; exact n2⟩
    · by_cases ha : a = D
      · subst ha; rw [up_same] at q; cases q; exact ⟨xs, h2, r2⟩
      · rw [up_ne ha] at q; exact hs2 a o q
  | cons d r =>
    unfold dcW at w2
    obtain ⟨c, w2⟩ := w2
    obtain ⟨go, yl, _⟩ := ok H2 S2 t2 hs2 c
    right
    refine ⟨go _ (by simp), _, fun H' h => ⟨r.length, Nat.lt_succ_self _, h⟩, fun x H3 hy => ?_⟩
    obtain ⟨e3, hs3, r3⟩ := yl _ x H3 d hy (by simp)
    have e13 := e2.trans e3
    have t13 := e13.tups hs1
    have h3 : H3 D = some (.dK xs) := (e3 D _ h2 n2).1
    have ra3 := RepKV.mono (e3.tups hs2) r2
    refine gTg_ok t d x _ _ _ _ r3 ((he1.mono t13).wipe _) w2 fun ρ1 σ1 ee hw w3 => ⟨(hw _ hown).trans (wipe_wipe fun _ h => h), ?_⟩
    refine liftT_bind ee hs3 w3 fun b H4 S4 e4 ee4 hs4 w4 => ?_
    have n4 := (e4 D _ h3 n2).2
    have h4 := (e4 D _ h3 n2).1
    have ra4 := RepKV.mono (e4.tups hs3) ra3
    cases b with
    | false =>
      rw [if_neg Bool.false_ne_true] at w4 ⊢
      exact ⟨pre ++ [d], r, acc, xs, S4, by simp, by simp, rfl, h4, ra4, hs4, n4, e13.trans e4, w4⟩
    | true =>
      rw [if_pos rfl] at w4 ⊢
      refine lift_bind ee4 hs4 w4 fun y v H5 S5 e5 ee5 hs5 t5 r5 w5 => ?_
      have n5 := (e5 D _ h4 n4).2
      have h5 := (e5 D _ h4 n4).1
      have ra5 := RepKV.mono t5 ra4
      refine lift_bind ee5 hs5 w5 fun y2 v2 H6 S6 e6 ee6 hs6 t6 r6 w6 => ?_
      have n6 := (e6 D _ h5 n5).2
      have h6 := (e6 D _ h5 n5).1
      have ra6 := RepKV.mono t6 ra5
      dsimp only at w6
      split at w6
      · rename_i kk hk
        have ev := keyOf_eq hk (Rep.mono t6 _ _ r5)
        have tn := tupLe_dic (K := X.K) (o := .dK (putK xs kk v2)) h6
        refine ⟨xs, kk, ev, h6, by rw [ra6.length]; exact w6.1, pre ++ [d], r, putD acc kk y2, putK xs kk v2, S6, by simp, by simp, rfl, upd_same, RepKV.mono tn (ra6.put kk r6), hs6.off n6 tn, n6, fun a o q n => ?_, w6.2⟩
        obtain ⟨q2, n2⟩ := ((e13.trans e4).trans e5).trans e6 a o q n
        exact ⟨by rw [upd_ne (ne_of_none q hD)]; exact q2, n2⟩
      · exact w6.elim
end
end Z

/-! ### Z10b -/
/-! Z10b: dict displays. -/
namespace Z
open PySem PySem.Spec PyProof.Rows L2
/-! dict displays -/
def flatV2 : List (Value × Value) → List Value
  | [] => []
  | p :: r => p.1 :: p.2 :: flatV2 r
def flatKV : List (Option Expr) → List Expr → Option (List Expr)
  | [], [] => some []
  | some k :: ks, v :: vs => (flatKV ks vs).map fun r => k :: v :: r
  | _, _ => none
structure PKV (X : Cx) (keys : List (Option Expr)) (values : List Expr) (pos : Pos) (t : TA) : Prop where
  run : ∀ (pins : List (Addr × Obj)) (s : Shared) (σ : L2.St) (H : Hp) (Q : List V → Hp → Prop), Inv X pins σ H s → t σ H Q →
    wpAny (model X.prog X.w) X.A (evalPairs (pairTrees keys values X.env pos)) (fun vs s1 => ∃ xs H1, Inv X pins σ H1 s1 ∧ Vals xs (flatV2 vs) ∧ Q xs H1) X.xe s
section
variable {X : Cx} {keys : List (Option Expr)} {values : List Expr} {pos : Pos}
theorem pkv_nil : PKV X [] [] pos (liftA X.K fun _ S Q => Q [] S) := ⟨fun pins s σ H Q I ⟨ρ, S, Q', he, hs, w, f⟩ => wpAny_pure ⟨[], H, I, .nil, f [] [] H S .refl hs (reps_nil.mpr rfl) w⟩⟩
theorem pkv_cons {k v : Expr} {Wk Wv : WE} {Wr : WA} (hk : SE X k Wk) (hv : SE X v Wv) (hr : PKV X keys values pos (liftA X.K Wr)) :
    PKV X (some k :: keys) (v :: values) pos (liftA X.K fun ρ S Q => Wk ρ S fun d S1 => Wv ρ S1 fun e S2 => Wr ρ S2 fun ds S3 => Q (d :: e :: ds) S3) := by
  refine ⟨fun pins s σ H Q I ⟨ρ, S, Q', he, hs, w, f⟩ => ?_⟩
  show wpAny _ _ (evalPairs ((eval k X.env, do let x ← eval v X.env; standAt pos; pure x) :: pairTrees keys values X.env pos)) _ _ s
  refine evalPairs_cons (thn (hk.run pins s σ H _ I (lift_bind he hs w fun d u H1 S1 e1 he1 hs1 t1 r1 w1 => show ∃ d S1, Ext H S H1 S1 ∧ EnvR X.K H1 ρ σ ∧ StR X.K H1 S1 ∧ Rep X.K H1 d u ∧ _ from ⟨d, S1, e1, he1, hs1, r1, w1⟩)) fun u s1 ⟨x, H1, I1, rx, d, S1, e1, he1, hs1, r1, w1⟩ => ?_)
  refine wpAny_bind (thn (hv.run pins s1 σ H1 _ I1 (lift_bind he1 hs1 w1 fun d u H2 S2 e2 he2 hs2 t2 r2 w2 => show ∃ d S2, Ext H1 S1 H2 S2 ∧ EnvR X.K H2 ρ σ ∧ StR X.K H2 S2 ∧ TupLe X.K H1 H2 ∧ Rep X.K H2 d u ∧ _ from ⟨d, S2, e2, he2, hs2, t2, r2, w2⟩)) fun u2 s2 ⟨x2, H2, I2, rx2, d2, S2, e2, he2, hs2, t2, r2, w2⟩ => ?_)
  refine wpAny_bind (wpAny_standAt (wpAny_pure ?_))
  refine thn (hr.run pins s2 σ H2 _ I2 (liftA_bind he2 hs2 w2 fun ds vs H3 S3 e3 he3 hs3 t3 r3 w3 => show ∃ ds S3, Ext H2 S2 H3 S3 ∧ StR X.K H3 S3 ∧ TupLe X.K H2 H3 ∧ Reps X.K H3 ds vs ∧ _ from ⟨ds, S3, e3, hs3, t3, r3, w3⟩)) fun vs s3 ⟨xs, H3, I3, rv, ds, S3, e3, hs3, t3, r3, w3⟩ => ?_
  exact ⟨x :: x2 :: xs, H3, I3, .cons rx (.cons rx2 rv), f _ _ H3 S3 ((e1.trans e2).trans e3) hs3 (reps_cons.mpr ⟨_, _, rfl, Rep.mono t3 _ _ (Rep.mono t2 _ _ r1), reps_cons.mpr ⟨_, _, rfl, Rep.mono t3 _ _ r2, r3⟩⟩) w3⟩
theorem putD_len {acc : List (Key × D)} {k : Key} {v : D} : (putD acc k v).length ≤ acc.length + 1 := by
  unfold putD
  split <;> simp
theorem store_ok3 {pins : List (Addr × Obj)} {σ : L2.St} {D0 : Addr} {E : Value → Shared → Prop} {S : Sto} : ∀ (vs : List (Value × Value)) (ds : List D) (xs : List V) (acc res : List (Key × D)) (ys : List (Key × V)) (s : Shared) (H : Hp) (Q : PUnit → Shared → Prop), Inv X pins σ H s → StR X.K H S → S D0 = none →
    H D0 = some (.dK ys) → RepKV X.K H acc ys → Vals xs (flatV2 vs) → Reps X.K H ds xs → dicOf ds acc = some res → acc.length + vs.length ≤ sizeLine →
    (∀ s1 H1 zs, Inv X pins σ H1 s1 → StR X.K H1 S → Ext H S H1 (up S D0 (.dic res)) ∨ True → H1 D0 = some (.dK zs) → RepKV X.K H1 res zs → (∀ a o, H a = some o → a ≠ D0 → H1 a = some o) → Q () s1) → wpAny (model X.prog X.w) X.A (storeAll D0 vs) Q E s
  | [], ds, xs, acc, res, ys, s, H, Q, I, hs, hn, hD, ra, rv, rd, ed, hl, hQ => by
    unfold storeAll
    rw [List.forIn_nil]
    cases rv
    cases ds with
    | nil =>
      cases ed
      exact wpAny_pure (hQ s H ys I hs (.inr trivial) hD ra fun a o h _ => h)
    | cons d ds => obtain ⟨_, _, h, _⟩ := reps_cons.mp rd; cases h
  | p :: vs, ds, xs, acc, res, ys, s, H, Q, I, hs, hn, hD, ra, rv, rd, ed, hl, hQ => by
    cases rv with
    | cons r1 rv =>
      cases rv with
      | cons r2 rv =>
        cases ds with
        | nil => have := reps_nil.mp rd; cases this
        | cons d ds =>
          obtain ⟨v1, vs1, e1, q1, rd2⟩ := reps_cons.mp rd
          cases e1
          cases ds with
          | nil => have := reps_nil.mp rd2; cases this
          | cons e ds =>
            obtain ⟨v2, vs2, e2, q2, rd3⟩ := reps_cons.mp rd2
            cases e2
            unfold dicOf at ed
            cases hk : keyOf d with
            | none => rw [hk] at ed; cases ed
            | some kk =>
              rw [hk] at ed
              obtain rfl := keyOf_eq hk q1
              unfold storeAll
              rw [List.forIn_cons]
              rw [List.length_cons] at hl
              refine wpAny_bind (wpAny_bind (d_dictSet I hD (by rw [ra.length]; omega) r1 r2 fun s1 I1 => wpAny_pure ?_))
              have tn := fun z : V => tupLe_dic (K := X.K) (o := .dK (putK ys kk z)) hD
              have := putD_len (acc := acc) (k := kk) (v := e)
              refine store_ok3 vs ds _ (putD acc kk e) res (putK ys kk _) s1 _ Q I1 (hs.off hn (tn _)) hn upd_same (RepKV.mono (tn _) (ra.put kk q2)) rv (Reps.mono (tn _) _ _ rd3) ed (by omega) fun s2 H2 zs I2 hs2 _ hD2 r3 k2 => hQ s2 H2 zs I2 hs2 (.inr trivial) hD2 r3 fun a o h n => k2 a o (by rw [upd_ne n]; exact h) n
theorem flatKV_len : ∀ {keys : List (Option Expr)} {values : List Expr} {xs : List Expr}, flatKV keys values = some xs → keys.all (·.isSome) = true ∧ keys.length = values.length
  | [], [], xs, h => ⟨rfl, rfl⟩
  | some k :: ks, v :: vs, xs, h => by
    unfold flatKV at h
    cases e : flatKV ks vs with
    | none => rw [e] at h; cases h
    | some r =>
      obtain ⟨h1, h2⟩ := flatKV_len e
      exact ⟨by simpa using h1, by simp [h2]⟩
  | none :: ks, _, xs, h => by unfold flatKV at h; cases h
  | some k :: ks, [], xs, h => by unfold flatKV at h; cases h
  | [], v :: vs, xs, h => by unfold flatKV at h; cases h
theorem vals_flat_len : ∀ (vs : List (Value × Value)) {xs : List V}, Vals xs (flatV2 vs) → xs.length = 2 * vs.length
  | [], xs, h => by cases h; rfl
  | p :: vs, xs, h => by
    cases h with
    | cons r1 h =>
      cases h with
      | cons r2 h =>
        have := vals_flat_len vs h
        simp only [List.length_cons]
        omega
theorem se_dic {Ws : WA} (h : PKV X keys values pos (liftA X.K Ws)) (hall : keys.all (·.isSome) = true) (hl : keys.length = values.length) (h0 : keys ≠ []) (h15 : keys.length ≤ 15) :
    SE X (.Dict keys values pos) (fun ρ S Q => Ws ρ S fun ds S1 => ds.length ≤ 1000 ∧ match dicOf ds [] with
      | some kvs => ∀ p, S1 p = none → Q (.ref p) (up S1 p (.dic kvs))
      | none => False) := by
  refine ⟨fun pins s σ H Q I ⟨ρ, S, Q', he, hs, w, f⟩ => ?_⟩
  refine wpAny_Dict_any hall hl h0 h15 ?_
  have hD : H s.heap.objs.size = none := I.hok.fresh (Nat.le_refl _)
  generalize hs1 : ({ s with heap := s.heap.push { cls := .type "dict", data := .dict #[] } } : Shared) = s1
  have I1 : Inv X pins σ (upd H s.heap.objs.size (.dK [])) s1 := by
    rw [← hs1]
    refine I.laid (t' := s.toks) (fun b o e => Heap.get?_push_of_some _ e) (Nat.le_refl _) ?_
    exact dk_empty s.heap I.big
  generalize s.heap.objs.size = D0 at hD I1 ⊢
  have he1 : EnvR X.K (upd H D0 (.dK [])) ρ σ := he.mono (tupLe_new hD)
  refine thn (h.run pins s1 σ _ _ I1 (liftA_bind he1 (hs.new hD) w fun ds vs H1 S1 e1 he1 hs1 t1 r1 w1 => show ∃ ds S1, Ext (upd H D0 (.dK [])) S H1 S1 ∧ StR X.K H1 S1 ∧ Reps X.K H1 ds vs ∧ _ from ⟨ds, S1, e1, hs1, r1, w1⟩)) fun vs s2 ⟨xs, H1, I2, rv, ds, S1, e1, hs1, r1, w1⟩ => ?_
  obtain ⟨h1, n1⟩ := e1 D0 _ upd_same (hs.fresh hD)
  obtain ⟨wl, w1⟩ := w1
  split at w1
  · rename_i kvs hk
    have ln := vals_flat_len vs rv
    have ln2 := r1.length
    refine store_ok3 vs ds xs [] kvs [] s2 H1 _ I2 hs1 n1 h1 .nil rv r1 hk (by have : sizeLine = 2 ^ 24 := rfl; simp; omega) fun s3 H3 zs I3 hs3 _ hD3 r3 k3 => ?_
    have e13 : Ext H S H3 (up S1 D0 (.dic kvs)) := fun a o q n => by
      have na : a ≠ D0 := ne_of_none q hD
      obtain ⟨q1, n2⟩ := e1 a o (by rw [upd_ne na]; exact q) n
      exact ⟨k3 a o q1 na, by rw [up_ne na]; exact n2⟩
    refine ⟨.ref D0, H3, I3, rfl, f (.ref D0) (.ref D0) H3 _ e13 (fun a o q => ?_) (rep_ref.mpr rfl) (w1 D0 n1)⟩
    by_cases ha : a = D0
    · subst ha
      rw [up_same] at q
      cases q
      exact ⟨zs, hD3, r3⟩
    · rw [up_ne ha] at q
      exact hs3 a o q
  · exact w1.elim
end
end Z

/-! ### Z10c -/
/-! Z10c: sorted({.. for ..}), the items tuples of texts. -/
namespace Z
open PySem PySem.Spec PyProof.Rows L2
theorem tsOf_rep {K : Frag} {H : Hp} {d : D} {v : V} {q : List Str} (h : tsOf d = some q) (r : Rep K H d v) : ∃ a, v = .ref a ∧ SqT K H a (q.map V.str) := by
  cases d with
  | tup ds =>
    obtain ⟨a, xs, rfl, t, hr⟩ := rep_tup.mp r
    rw [strsOf_eq (show strsOf ds = some q from h)] at hr
    obtain rfl := Reps.strs.mp hr
    exact ⟨a, rfl, t⟩
  | _ => cases h
theorem tupLe_bag {K : Frag} {H : Hp} {p : Addr} {P : Program} {w : World} {L : List (Addr × List Str)} {o : HO} (h : H p = some (BagO P w p L)) : TupLe K H (upd H p o) := fun a xs => by
  have ne : ∀ u, H a = some u → (∀ z, u ≠ .ext z) → a ≠ p := fun u e z => by
    rintro rfl
    rw [h] at e
    cases e
    exact z _ rfl
  refine ⟨fun q => ?_, fun q => ?_⟩
  · rcases q with (q | ⟨w, q⟩) | q
    · exact .inl (.inl (by rw [upd_ne (ne _ q fun z e => nomatch e)]; exact q))
    · exact .inl (.inr ⟨w, by rw [upd_ne (ne _ q fun z e => nomatch e)]; exact q⟩)
    · exact .inr q
  · rcases q with ⟨w, q⟩ | q
    · exact .inl ⟨w, by rw [upd_ne (ne _ q fun z e => nomatch e)]; exact q⟩
    · exact .inr q
section
variable {X : Cx} {own : List (Str × Nat)} {Wi : WI} {Wt : WT} {We : WE} {t : Tg}
theorem ssc_read {σ : L2.St} {H : Hp} {Q : VK} (hown : ∀ i ∈ tgSl t, i ∈ own.map (·.2))
    (h : lift X.K (fun ρ S Q => Wi ρ S fun ds chk S1 =>
      scW chk (fun d S2 k => asgW t d (wipeE ρ (own.map (·.2))) fun ρ1 => Wt ρ1 S2 fun b S3 => if b = true then We ρ1 S3 fun v S4 => k (some v) S4 else k none S3) (scEnd Q) ds [] S1) σ H Q) :
    tBag X.prog X.w X.K (liftI X.K Wi) (gTg X.K t) (liftT X.K Wt) (lift X.K We) (own.map (·.2)) σ H fun x H1 => ∃ (a : Addr) (L : List (Addr × List Str)), [x] = [V.ref a] ∧ H1 a = some (BagO X.prog X.w a L) ∧ (∀ p ∈ L, SqT X.K H1 p.1 (p.2.map V.str) ∧ p.2 ≠ []) ∧
      ∀ (L' : List (Addr × List Str)) q, L'.Perm L → L'.Pairwise (fun x y => lexS y.2 x.2 = false) → H1 q = none → Q (.ref q) (upd H1 q (.lst (L'.map fun p => .ref p.1))) := by
  obtain ⟨ρ, S, Q', he, hs, w, f⟩ := h
  refine ⟨ρ, S, _, he, hs, w, fun ds chk H1 S1 J e1 hs1 ok w1 => fun D hD => ?_⟩
  have he1 := he.mono (e1.tups hs)
  refine ⟨fun i m H2 => ∃ pre rest acc L S2, ds = pre ++ rest ∧ pre.length = i ∧ m = rest.length ∧ H2 D = some (BagO X.prog X.w D L) ∧ (∀ p ∈ L, SqT X.K H2 p.1 (p.2.map V.str)) ∧ (L.map (·.2)).Nodup ∧ (∀ q, q ∈ L.map (·.2) ↔ q ∈ acc) ∧ L.length ≤ acc.length ∧ (∀ q ∈ acc, q ≠ []) ∧ StR X.K H2 S2 ∧ S2 D = none ∧ Ext H1 S1 H2 S2 ∧
    scW chk (fun d S2 k => asgW t d (wipeE ρ (own.map (·.2))) fun ρ1 => Wt ρ1 S2 fun b S3 => if b = true then We ρ1 S3 fun v S4 => k (some v) S4 else k none S3) (scEnd Q') rest acc S2,
    ⟨ds.length, [], ds, [], [], S1, rfl, rfl, rfl, upd_same, fun p hp => (by cases hp), List.nodup_nil, fun q => Iff.rfl, Nat.le_refl _, fun q hq => (by cases hq), hs1.new hD, hs1.fresh hD, ext_new hD, w1⟩, ?_⟩
  rintro i m H2 ⟨pre, rest, acc, L, S2, rfl, rfl, rfl, h2, hL, nd, same, few, ne, hs2, n2, e2, w2⟩
  have t2 := e2.tups hs1
  cases rest with
  | nil =>
    unfold scW at w2
    obtain ⟨c, w2⟩ := w2
    obtain ⟨_, _, st⟩ := ok H2 S2 t2 hs2 c
    left
    rw [List.append_nil] at st
    refine ⟨st, D, L, rfl, h2, fun p hp => ⟨hL p hp, ne _ ((same _).mp (List.mem_map.mpr ⟨p, hp, rfl⟩))⟩, fun L' q pm srt hq => ?_⟩
    have w3 := w2 (L'.map (·.2)) ((pm.map (·.2)).nodup_iff.mpr nd) (fun z => by rw [(pm.map (·.2)).mem_iff]; exact same z) (List.pairwise_map.mpr srt)
    rw [List.map_map] at w3
    have reps : Reps X.K H2 (L'.map (tsD ∘ fun x => x.2)) (L'.map fun p => V.ref p.1) := by
      have all : ∀ p ∈ L', SqT X.K H2 p.1 (p.2.map V.str) := fun p hp => hL p (pm.mem_iff.mp hp)
      clear w3 srt pm
      induction L' with
      | nil => exact reps_nil.mpr rfl
      | cons p L' ih => exact reps_cons.mpr ⟨.ref p.1, L'.map fun p => V.ref p.1, rfl, rep_tup.mpr ⟨p.1, p.2.map V.str, rfl, all p List.mem_cons_self, Reps.strs.mpr rfl⟩, ih fun z hz => all z (List.mem_cons_of_mem _ hz)⟩
    exact (f.after (e1.trans e2)).lst hs2 reps w3 hq
  | cons d r =>
    unfold scW at w2
    obtain ⟨c, w2⟩ := w2
    obtain ⟨go, yl, _⟩ := ok H2 S2 t2 hs2 c
    right
    refine ⟨go _ (by simp), _, fun H' h => ⟨r.length, Nat.lt_succ_self _, h⟩, fun x H3 hy => ?_⟩
    obtain ⟨e3, hs3, r3⟩ := yl _ x H3 d hy (by simp)
    have e13 := e2.trans e3
    have t13 := e13.tups hs1
    have h3 := (e3 D _ h2 n2).1
    have l3 : ∀ p ∈ L, SqT X.K H3 p.1 (p.2.map V.str) := fun p hp => ((e3.tups hs2) _ _).1 (hL p hp)
    refine gTg_ok t d x _ _ _ _ r3 ((he1.mono t13).wipe _) w2 fun ρ1 σ1 ee hw w3 => ⟨(hw _ hown).trans (wipe_wipe fun _ h => h), ?_⟩
    refine liftT_bind ee hs3 w3 fun b H4 S4 e4 ee4 hs4 w4 => ?_
    have n4 := (e4 D _ h3 n2).2
    have h4 := (e4 D _ h3 n2).1
    have l4 : ∀ p ∈ L, SqT X.K H4 p.1 (p.2.map V.str) := fun p hp => ((e4.tups hs3) _ _).1 (l3 p hp)
    cases b with
    | false =>
      rw [if_neg Bool.false_ne_true] at w4 ⊢
      exact ⟨pre ++ [d], r, acc, L, S4, by simp, by simp, rfl, h4, l4, nd, same, few, ne, hs4, n4, e13.trans e4, w4⟩
    | true =>
      rw [if_pos rfl] at w4 ⊢
      refine lift_bind ee4 hs4 w4 fun y v H5 S5 e5 ee5 hs5 t5 r5 w5 => ?_
      have n5 := (e5 D _ h4 n4).2
      have h5 := (e5 D _ h4 n4).1
      have l5 : ∀ p ∈ L, SqT X.K H5 p.1 (p.2.map V.str) := fun p hp => (t5 _ _).1 (l4 p hp)
      cases eq : tsOf y with
      | none => simp only [eq] at w5
      | some q =>
        simp only [eq] at w5
        obtain ⟨⟨room, qne⟩, w5⟩ := w5
        obtain ⟨a, rfl, ta⟩ := tsOf_rep eq r5
        refine ⟨a, q, L, rfl, ta, h5, l5, by omega, fun L' c1 c2 => ?_⟩
        have tn := tupLe_bag (K := X.K) (o := BagO X.prog X.w D L') h5
        have facts : (∀ p ∈ L', SqT X.K H5 p.1 (p.2.map V.str)) ∧ (L'.map (·.2)).Nodup ∧ (∀ z, z ∈ L'.map (·.2) ↔ z ∈ acc ++ [q]) ∧ L'.length ≤ (acc ++ [q]).length := by
          by_cases hq : q ∈ L.map (·.2)
          · rw [c1 hq]
            refine ⟨l5, nd, fun z => ?_, by rw [List.length_append]; omega⟩
            rw [same z, List.mem_append, List.mem_singleton]
            exact ⟨.inl, fun k => k.elim id fun e => by rw [e]; exact (same q).mp hq⟩
          · have pm := c2 hq
            refine ⟨fun p hp => ?_, (pm.map (·.2)).nodup_iff.mpr (List.nodup_cons.mpr ⟨hq, nd⟩), fun z => ?_, by rw [pm.length_eq, List.length_append, List.length_cons]; simp; omega⟩
            · rcases List.mem_cons.mp (pm.mem_iff.mp hp) with rfl | hp
              · exact ta
              · exact l5 p hp
            · rw [(pm.map (·.2)).mem_iff, List.map_cons, List.mem_cons, same z, List.mem_append, List.mem_singleton]
              exact ⟨fun k => k.symm, fun k => k.symm⟩
        obtain ⟨g1, g2, g3, g4⟩ := facts
        refine ⟨pre ++ [d], r, acc ++ [q], L', S5, by simp, by simp, rfl, upd_same, fun p hp => (tn _ _).1 (g1 p hp), g2, g3, g4, fun z hz => ?_, hs5.off n5 tn, n5, fun a o q n => ?_, w5⟩
        · rcases List.mem_append.mp hz with hz | hz
          · exact ne z hz
          · rw [List.mem_singleton.mp hz]; exact qne
        · obtain ⟨q2, n2⟩ := (e13.trans e4).trans e5 a o q n
          exact ⟨by rw [upd_ne (ne_of_none q hD)]; exact q2, n2⟩
end
end Z

/-! ### Z11 -/
/-! Z11: side conditions by the syntax; statements. -/
namespace Z
open PySem PySem.Spec PyProof.Rows L2
/-! ### forms -/
def noStar : Expr → Bool
  | .Starred .. => false
  | _ => true
def noSlice : Expr → Bool
  | .Slice .. => false
  | _ => true
def noSet : Expr → Bool
  | .Set .. => false
  | _ => true
def noCall0 : Expr → Bool
  | .Call (.Name _ _) [] [] _ => false
  | _ => true
def plainTest : Expr → Bool
  | .UnaryOp .Not .. => false
  | .BoolOp .. => false
  | .IfExp .. => false
  | .Compare .. => false
  | _ => true
def noComp : Expr → Bool
  | .ListComp .. => false
  | .SetComp .. => false
  | .DictComp .. => false
  | _ => true
def noDisp : Expr → Bool
  | .Tuple .. => false
  | .List .. => false
  | _ => true
section
variable {e : Expr} {es : List Expr} {env : PySem.Env}
theorem star_cons (h : noStar e = true) : starEach (e :: es) env = (false, eval e env) :: starEach es env := by cases e <;> first | rfl | cases h
theorem assign_cons (h : noStar e = true) : assignEach (e :: es) env = (false, assign e env) :: assignEach es env := by cases e <;> first | rfl | cases h
theorem ix_plain (h : noSlice e = true) : PlainIx e := by cases e <;> first | (intro _ _; rfl) | cases h
theorem set_behind {op : CmpOp} (h : noSet e = true) : behindInMarks op e = false := by cases e <;> first | rfl | cases h
theorem set_folded (h : noSet e = true) : ∀ x, foldedSetIterable e env x = pure x := by cases e <;> first | (intro _; rfl) | cases h
theorem test_plain (h : plainTest e = true) : ∀ whole, isTrue e env whole = (do let v ← whole; standAt e.pos; holding [v] (truthy v)) := by
  cases e <;> first | (intro _; rfl) | cases h | skip
  rename_i op x p
  cases op <;> first | (intro _; rfl) | cases h
theorem base_plain {m : Str} (h : noCall0 e = true) : attributeBase e m env (eval e env) = eval e env := by
  cases e with
  | Call f as ks p =>
    cases f <;> first | rfl | skip
    cases as <;> first | rfl | skip
    cases ks <;> first | rfl | cases h
  | _ => rfl
theorem sw_no {t : Option Expr} {l : Nat} (h : noComp e = true) : swapsWith e t l env = pure false := by cases e <;> first | rfl | cases h
theorem any_back : ∀ {es : List Expr} {pos : Pos}, es.all noStar = true → (backTo pos (starEach es env)).any (·.1) = false
  | [], pos, h => rfl
  | e :: es, pos, h => by
    rw [List.all_cons, Bool.and_eq_true] at h
    rw [star_cons h.1]
    show (false || (backTo pos (starEach es env)).any (·.1)) = false
    rw [any_back h.2] <;> rfl
theorem all_back : ∀ {es : List Expr} {pos : Pos}, es.all noStar = true → (backTo pos (starEach es env)).all (fun x => !x.1) = true
  | [], pos, h => rfl
  | e :: es, pos, h => by
    rw [List.all_cons, Bool.and_eq_true] at h
    rw [star_cons h.1]
    show (true && (backTo pos (starEach es env)).all (fun x => !x.1)) = true
    rw [all_back h.2] <;> rfl
theorem form_few {pos : Pos} (h : es.all noStar = true) (hl : es.length < 30) : methodCallForm es.length (backTo pos (starEach es env)) [] = true := by
  unfold methodCallForm
  rw [all_back h]
  simp
  omega
theorem few30 {pos : Pos} (h : (e :: es).all noStar = true) (hl : (e :: es).length < 30) : ((backTo pos (starEach (e :: es) env)).all (fun x => !x.1) && (backToKw pos (keywordEach [] env)).all (fun x => x.1.isSome)
      && decide ((e :: es).length + ([] : List Keyword).length + (if ([] : List Keyword).isEmpty then 0 else 1) < 30)) = true := by
  rw [all_back h]
  have h2 : decide ((e :: es).length + ([] : List Keyword).length + (if ([] : List Keyword).isEmpty then 0 else 1) < 30) = true := decide_eq_true (by simpa using hl)
  rw [h2]
  rfl
end
/-! ### statements -/
def FinE (K : Frag) (H : Hp) (S : Sto) (k : En) (D : Ends) : Prop :=
  (∀ ρ1 σ1 H1 S1, Ext H S H1 S1 → StR K H1 S1 → EnvR K H1 ρ1 σ1 → k.nx ρ1 S1 → D.nx σ1 H1) ∧ Fin K H S k.rt D.rt ∧
  (∀ ρ1 σ1 H1 S1, Ext H S H1 S1 → StR K H1 S1 → EnvR K H1 ρ1 σ1 → k.bk ρ1 S1 → D.bk σ1 H1) ∧ (∀ ρ1 σ1 H1 S1, Ext H S H1 S1 → StR K H1 S1 → EnvR K H1 ρ1 σ1 → k.ct ρ1 S1 → D.ct σ1 H1)
theorem FinE.after {K : Frag} {H H1 : Hp} {S S1 : Sto} {k : En} {D : Ends} (f : FinE K H S k D) (e : Ext H S H1 S1) : FinE K H1 S1 k D :=
  ⟨fun ρ1 σ1 H2 S2 e2 => f.1 ρ1 σ1 H2 S2 (e.trans e2), f.2.1.after e, fun ρ1 σ1 H2 S2 e2 => f.2.2.1 ρ1 σ1 H2 S2 (e.trans e2), fun ρ1 σ1 H2 S2 e2 => f.2.2.2 ρ1 σ1 H2 S2 (e.trans e2)⟩
abbrev WS := En → Ev → Sto → Prop
def liftS (K : Frag) (W : WS) : TS := fun D σ H => ∃ ρ S k, EnvR K H ρ σ ∧ StR K H S ∧ W k ρ S ∧ FinE K H S k D
abbrev SS (X : Cx) (st : Stmt) (W : WS) : Prop := PS X st (liftS X.K W)
abbrev SSs (X : Cx) (st : List Stmt) (W : WS) : Prop := PSs X st (liftS X.K W)
section
variable {X : Cx} {a b c e : Expr} {Wa Wb We : WE} {Wc : WT} {pos : Pos} {st : Stmt} {rest : List Stmt} {W1 W2 : WS} {t : Tg}
theorem sss_nil : SSs X [] (fun k ρ S => k.nx ρ S) := pss_imp pss_nil fun D σ H ⟨ρ, S, k, he, hs, w, f⟩ => f.1 ρ σ H S .refl hs he w
theorem sss_cons (h1 : SS X st W1) (h2 : SSs X rest W2) : SSs X (st :: rest) (fun k ρ S => W1 { k with nx := fun ρ1 S1 => W2 k ρ1 S1 } ρ S) :=
  pss_imp (pss_cons h1 h2) fun D σ H ⟨ρ, S, k, he, hs, w, f⟩ => ⟨ρ, S, _, he, hs, w, fun ρ1 σ1 H1 S1 e1 hs1 he1 q => ⟨ρ1, S1, k, he1, hs1, q, f.after e1⟩, f.2.1, f.2.2.1, f.2.2.2⟩
theorem ss_pas : SS X (.Pass pos) (fun k ρ S => k.nx ρ S) := ps_imp ps_pass fun D σ H ⟨ρ, S, k, he, hs, w, f⟩ => f.1 ρ σ H S .refl hs he w
theorem ss_brk : SS X (.Break pos) (fun k ρ S => k.bk ρ S) := ps_imp ps_break fun D σ H ⟨ρ, S, k, he, hs, w, f⟩ => f.2.2.1 ρ σ H S .refl hs he w
theorem ss_cnt : SS X (.Continue pos) (fun k ρ S => k.ct ρ S) := ps_imp ps_continue fun D σ H ⟨ρ, S, k, he, hs, w, f⟩ => f.2.2.2 ρ σ H S .refl hs he w
theorem ss_ret (he : SE X e We) : SS X (.Return (some e) pos) (fun k ρ S => We ρ S k.rt) := ps_imp (ps_ret he) fun D σ H ⟨ρ, S, k, he, hs, w, f⟩ => ⟨ρ, S, k.rt, he, hs, w, f.2.1⟩
theorem ss_retN : SS X (.Return none pos) (fun k _ S => k.rt .non S) := ps_imp ps_retN fun D σ H ⟨ρ, S, k, he, hs, w, f⟩ => f.2.1.non hs w
theorem ss_never : SS X st (fun _ _ _ => False) := ps_imp ps_never fun D σ H ⟨ρ, S, k, he, hs, w, f⟩ => w
theorem ss_ex (he : SE X e We) (hs : swapsWith e none pos.line X.env = pure false) : SS X (.Expr e pos) (fun k ρ S => We ρ S fun _ S1 => k.nx ρ S1) :=
  ps_imp (ps_expr he hs) fun D σ H ⟨ρ, S, k, he, hs, w, f⟩ => lift_bind he hs w fun d v H1 S1 e1 he1 hs1 t1 r1 w1 => f.1 ρ σ H1 S1 e1 hs1 he1 w1
theorem ss_if {p q : List Stmt} (hc : ST X c Wc) (ha : SSs X p W1) (hb : SSs X q W2) : SS X (.If c p q pos) (fun k ρ S => Wc ρ S fun t S1 => if t = true then W1 k ρ S1 else W2 k ρ S1) :=
  ps_imp (ps_if hc ha hb) fun D σ H ⟨ρ, S, k, he, hs, w, f⟩ => liftT_bind he hs w fun b H1 S1 e1 he1 hs1 w1 => by
    cases b with
    | true => exact iteT ⟨ρ, S1, k, he1, hs1, by simpa using w1, f.after e1⟩
    | false => exact iteF ⟨ρ, S1, k, he1, hs1, by simpa using w1, f.after e1⟩
theorem ss_set {tg : Expr} (he : SE X e We) (hg : PG X tg (gTg X.K t)) (hs : swapsWithSole [tg] e pos.line X.env = pure false) (hw : swappedStores [tg] e X.env = pure none) (h1 : (assignEach [tg] X.env).map (·.2) = [assign tg X.env]) :
    SS X (.Assign [tg] e pos) (fun k ρ S => We ρ S fun d S1 => asgW t d ρ fun ρ1 => k.nx ρ1 S1) :=
  ps_imp (ps_asg he hg hs hw h1) fun D σ H ⟨ρ, S, k, he, hs, w, f⟩ => lift_bind he hs w fun d v H1 S1 e1 he1 hs1 t1 r1 w1 =>
    gTg_ok t d v ρ σ _ _ r1 he1 w1 fun ρ1 σ1 e2 _ q => f.1 ρ1 σ1 H1 S1 e1 hs1 e2 q
/-- a, b, .. = a list -/
theorem ss_unl {tg : Expr} {ts : Tgs} (he : SE X e We) (hg : PG X tg (gUnl X.K (tgLen ts) (gTgs X.K ts))) (hs : swapsWithSole [tg] e pos.line X.env = pure false) (hw : swappedStores [tg] e X.env = pure none) (h1 : (assignEach [tg] X.env).map (·.2) = [assign tg X.env]) :
    SS X (.Assign [tg] e pos) (fun k ρ S => We ρ S fun d S1 => match d with
      | .ref a => match S1 a with
        | some (.lst ds) => ds.length = tgLen ts ∧ asgWs ts ds ρ fun ρ1 => k.nx ρ1 S1
        | _ => False
      | _ => False) :=
  ps_imp (ps_asg he hg hs hw h1) fun D σ H ⟨ρ, S, k, he, hs, w, f⟩ => lift_bind he hs w fun d v H1 S1 e1 he1 hs1 t1 r1 w1 => by
    split at w1
    · obtain rfl := rep_ref.mp r1
      split at w1
      · rename_i ha
        obtain ⟨xs, h, hr⟩ := hs1 _ _ ha
        exact ⟨_, xs, rfl, .inl (.inl h), by rw [hr.length]; exact w1.1, gTgs_ok ts _ xs ρ σ _ _ hr he1 w1.2 fun ρ1 σ1 e2 _ q => f.1 ρ1 σ1 H1 S1 e1 hs1 e2 q⟩
      · exact w1.elim
    · exact w1.elim
/-- name = [..] and name = {..} in one line -/
theorem ss_setC {te : TE} {i : Nat} (h : PS X st (tAsg te (gName i))) (hr : ∀ σ H Q, lift X.K We σ H Q → te σ H Q) : SS X st (fun k ρ S => We ρ S fun d S1 => asgW (.v i) d ρ fun ρ1 => k.nx ρ1 S1) :=
  ps_imp h fun D σ H ⟨ρ, S, k, he, hs, w, f⟩ => hr _ _ _ (lift_bind he hs w fun d v H1 S1 e1 he1 hs1 t1 r1 w1 => by
    unfold asgW at w1
    exact f.1 _ _ H1 S1 e1 hs1 (he1.set r1) w1)
theorem ss_setIx {o i : Expr} {Wo Wi : WE} {p : Pos} (hu : X.A.units + 1 < cLine) (he : SE X e We) (ho : SE X o Wo) (hi : SE X i Wi) (hn : noSlice i = true) (h1 : noStar (.Subscript o i p) = true := by rfl) :
    SS X (.Assign [.Subscript o i p] e pos) (fun k ρ S => We ρ S fun v S1 => Wo ρ S1 fun d S2 => Wi ρ S2 fun j S3 => setC d j v S3 fun S4 => k.nx ρ S4) :=
  ps_imp (ps_asg he (pg_sub ho hi (setz hu) (by cases i <;> first | (intro _; rfl) | cases hn)) (by cases e <;> rfl) (by rfl) (by rfl)) fun D σ H ⟨ρ, S, k, he, hs, w, f⟩ => lift_bind he hs w fun d v H1 S1 e1 he1 hs1 t1 r1 w1 =>
    lift_bind he1 hs1 w1 fun d2 v2 H2 S2 e2 he2 hs2 t2 r2 w2 => lift_bind he2 hs2 w2 fun d3 v3 H3 S3 e3 he3 hs3 t3 r3 w3 =>
      ⟨d2, d3, d, S3, _, Rep.mono t3 _ _ r2, r3, Rep.mono t3 _ _ (Rep.mono t2 _ _ r1), hs3, w3, fun H4 S4 e4 hs4 q => f.1 ρ σ H4 S4 (((e1.trans e2).trans e3).trans e4) hs4 (he3.mono (e4.tups hs3)) q⟩
theorem RepKV.putF {K : Frag} {H : Hp} {f : Str} {d : D} {v : V} (r : Rep K H d v) : ∀ {fs : List (Str × D)} {vs : List (Str × V)}, RepKV K H fs vs → RepKV K H (putFD f d fs) (L2.putF f v vs)
  | [], vs, h => by cases h; exact .cons ⟨rfl, r⟩ .nil
  | (g, x) :: fs, vs, h => by
    cases h with
    | cons p q =>
      rename_i y ys
      obtain ⟨y1, y2⟩ := y
      obtain ⟨p1, p2⟩ := p
      simp only at p1 p2
      subst p1
      unfold putFD L2.putF
      by_cases hg : g = f
      · rw [if_pos hg, if_pos hg]; exact .cons ⟨rfl, r⟩ q
      · rw [if_neg hg, if_neg hg]; exact .cons ⟨rfl, p2⟩ (RepKV.putF r q)
theorem ss_setFld {g : G} {o : Expr} {Wo : WE} {f : Str} {p : Pos} (hn : ∀ C, g.noat C f = true → Cls X.K (He.ga X.K C) ∧ NoAttr X.K (He.ga X.K C) f) (he : SE X e We) (ho : SE X o Wo) :
    SS X (.Assign [.Attribute o f p] e pos) (fun k ρ S => We ρ S fun v S1 => Wo ρ S1 fun d S2 => match d with
      | .ref a => match S2 a with
        | some (.ins C fs) => (g.noat C f = true ∧ fs.length < 1000) ∧ k.nx ρ (up S2 a (.ins C (putFD f v fs)))
        | _ => False
      | _ => False) :=
  ps_imp (ps_fld ho he (by cases e <;> rfl)) fun D σ H ⟨ρ, S, k, he, hs, w, fn⟩ => lift_bind he hs w fun d v H1 S1 e1 he1 hs1 t1 r1 w1 =>
    lift_bind he1 hs1 w1 fun d2 v2 H2 S2 e2 he2 hs2 t2 r2 w2 => by
      split at w2
      · obtain rfl := rep_ref.mp r2
        split at w2
        · rename_i C fs hC
          obtain ⟨dx, vs, h, hr⟩ := hs2 _ _ hC
          obtain ⟨⟨n1, n2⟩, w2⟩ := w2
          obtain ⟨c1, c2⟩ := hn C n1
          have tn := tupLe_set (u := .ins (He.ga X.K C) dx (L2.putF f v vs)) hs2 hC
          refine ⟨_, _, dx, vs, rfl, h, c1, c2, by rw [hr.length]; exact n2, ?_⟩
          exact fn.1 ρ σ _ _ ((e1.trans e2).trans (ext_setUp hC)) (hs2.setUp (u := .ins C _) hC ⟨dx, _, upd_same, RepKV.putF (Rep.mono tn _ _ (Rep.mono t2 _ _ r1)) (hr.mono tn)⟩) (he2.mono tn) w2
        · exact w2.elim
      · exact w2.elim
/-! augmented -/
theorem iopz {p : BOp} {op : Operator} (h : bopOk p op = true) : OpR X (inplaceOp op) (lift2 X.K (augW p)) := by
  intro pins s σ H x y v u Q I rx ry ⟨d, e, S, Q', rd, re, hs, w, f⟩
  unfold augW at w
  split at w
  · cases op <;> first | cases h | skip
    obtain rfl := rep_int.mp rd
    obtain rfl := rep_int.mp re
    exact iop_add pins s σ H _ _ v u Q I rx ry ⟨_, _, rfl, rfl, f.int hs w⟩
  · cases op <;> first | cases h | skip
    obtain rfl := rep_str.mp rd
    obtain rfl := rep_str.mp re
    exact iop_add_str pins s σ H _ _ v u Q I rx ry ⟨_, _, rfl, rfl, w.1, f.str hs w.2⟩
  · cases op <;> first | cases h | skip
    obtain rfl := rep_int.mp rd
    obtain rfl := rep_int.mp re
    exact iop_sub pins s σ H _ _ v u Q I rx ry ⟨_, _, rfl, rfl, f.int hs w⟩
  · exact w.elim
theorem ss_aug {i : Nat} {x : Str} {p : BOp} {op : Operator} {px : Pos} (hN : X.N.Nodup) (hi : X.N[i]? = some x) (hx : Loc X.env.scope x) (hf : X.fn x = true ∨ X.env.scope.names.lookup x = some .local) (ho : bopOk p op = true) (he : SE X e We) :
    SS X (.AugAssign (.Name x px) op e pos) (fun k ρ S => match ρ[i]? with
      | some (some x) => We ρ S fun y S1 => augW p x y S1 fun z S2 => k.nx (ρ.set i (some z)) S2
      | _ => False) :=
  ps_imp (ps_aug hN hi hx he (iopz ho) hf) fun D σ H ⟨ρ, S, k, he, hs, w, f⟩ => by
    dsimp only at w
    split at w
    · rename_i d hd
      obtain ⟨v, hv, rv⟩ := he.2 i d hd
      exact ⟨v, hv, lift_bind he hs w fun d2 v2 H1 S1 e1 he1 hs1 t1 r1 w1 => ⟨d, d2, S1, _, Rep.mono t1 _ _ rv, r1, hs1, w1, fun d3 v3 H2 S2 e2 hs2 r3 q => f.1 _ _ H2 S2 (e1.trans e2) hs2 ((he1.mono (e2.tups hs1)).set r3) q⟩⟩
    · exact w.elim
theorem ss_augFld {g : G} {o : Expr} {Wo : WE} {f : Str} {p : BOp} {op : Operator} {px : Pos} (hn : ∀ C, g.noat C f = true → Cls X.K (He.ga X.K C) ∧ NoAttr X.K (He.ga X.K C) f) (ho : SE X o Wo) (hp : bopOk p op = true) (he : SE X e We) :
    SS X (.AugAssign (.Attribute o f px) op e pos) (fun k ρ S => Wo ρ S fun d S1 => match d with
      | .ref a => match S1 a with
        | some (.ins C fs) => g.noat C f = true ∧ match fs.lookup f with
          | some v => We ρ S1 fun y S2 => augW p v y S2 fun z S3 => match S3 a with
            | some (.ins C' fs') => (C' = C ∧ fs'.length < 1000) ∧ k.nx ρ (up S3 a (.ins C (putFD f z fs')))
            | _ => False
          | none => False
        | _ => False
      | _ => False) :=
  ps_imp (ps_fldaug (rd := lift2 X.K (augW p)) ho he (fun pins s σ H x y u v Q I rx ry h => iopz hp pins s σ H x y u v Q I rx ry h)) fun D σ H ⟨ρ, S, k, he, hs, w, fn⟩ => lift_bind he hs w fun d v H1 S1 e1 he1 hs1 t1 r1 w1 => by
    split at w1
    · obtain rfl := rep_ref.mp r1
      split at w1
      · rename_i C fs hC
        obtain ⟨dx, vs, h, hr⟩ := hs1 _ _ hC
        obtain ⟨c1, c2⟩ := hn C w1.1
        have w1 := w1.2
        have rl := hr.lookup f
        split at w1
        · rename_i dv hl
          rw [hl] at rl
          obtain ⟨z, hz, rz⟩ := rl.some_of
          refine ⟨_, _, dx, vs, z, rfl, h, c1, c2, hz, lift_bind he1 hs1 w1 fun d2 v2 H2 S2 e2 he2 hs2 t2 r2 w2 => ⟨dv, d2, S2, _, Rep.mono t2 _ _ rz, r2, hs2, w2, fun d3 v3 H3 S3 e3 hs3 r3 q => ?_⟩⟩
          split at q
          · rename_i C' fs' hC'
            obtain ⟨⟨rfl, n2⟩, q⟩ := q
            obtain ⟨dx', vs', h', hr'⟩ := hs3 _ _ hC'
            have tn := tupLe_set (u := .ins (He.ga X.K C') dx' (L2.putF f v3 vs')) hs3 hC'
            refine ⟨dx', vs', h', by rw [hr'.length]; exact n2, ?_⟩
            exact fn.1 ρ σ _ _ (((e1.trans e2).trans e3).trans (ext_setUp hC')) (hs3.setUp (u := .ins C' _) hC' ⟨dx', _, upd_same, RepKV.putF (Rep.mono tn _ _ r3) (hr'.mono tn)⟩) ((he2.mono (e3.tups hs2)).mono tn) q
          · exact q.elim
        · exact w1.elim
      · exact w1.elim
    · exact w1.elim
/-! loops -/
theorem ss_for {tg iter : Expr} {body : List Stmt} {Wi : WI} (hp : PassesOwn (model X.prog X.w) X.A X.env X.xe) (hc : X.calm = true) (hi : SI X tg iter Wi) (hg : PG X tg (gTg X.K t)) (hb : SSs X body W1) (hs : ∀ x, foldedSetIterable iter X.env x = pure x) :
    SS X (.For tg iter body [] pos) (fun k ρ S => Wi ρ S fun ds chk S1 => loopW chk (fun d ρ1 S2 nx => asgW t d ρ1 fun ρ2 => W1 { k with nx := nx, ct := nx, bk := k.nx } ρ2 S2) k.nx ds ρ S1) :=
  ps_imp (ps_for hp hc hi hg hb hs) fun D σ H ⟨ρ, S, k, he, hs, w, f⟩ => by
    refine ⟨ρ, S, _, he, hs, w, fun ds chk H1 S1 J e1 hs1 ok w1 => ?_⟩
    have he1 := he.mono (e1.tups hs)
    refine ⟨fun i m σ2 H2 => ∃ pre rest ρ2 S2, ds = pre ++ rest ∧ pre.length = i ∧ m = rest.length ∧ EnvR X.K H2 ρ2 σ2 ∧ StR X.K H2 S2 ∧ Ext H1 S1 H2 S2 ∧
      loopW chk (fun d ρ1 S2 nx => asgW t d ρ1 fun ρ2 => W1 { k with nx := nx, ct := nx, bk := k.nx } ρ2 S2) k.nx rest ρ2 S2, ⟨ds.length, [], ds, ρ, S1, rfl, rfl, rfl, he1, hs1, .refl, w1⟩, ?_⟩
    rintro i m σ2 H2 ⟨pre, rest, ρ2, S2, rfl, rfl, rfl, he2, hs2, e2, w2⟩
    have t2 := e2.tups hs1
    cases rest with
    | nil =>
      unfold loopW at w2
      obtain ⟨_, _, st⟩ := ok H2 S2 t2 hs2 w2.1
      rw [List.append_nil] at st
      exact .inl ⟨st, f.1 ρ2 σ2 H2 S2 (e1.trans e2) hs2 he2 w2.2⟩
    | cons d r =>
      unfold loopW at w2
      obtain ⟨c, w2⟩ := w2
      obtain ⟨go, yl, _⟩ := ok H2 S2 t2 hs2 c
      refine .inr ⟨go _ (by simp), _, fun σ' H' h => ⟨r.length, Nat.lt_succ_self _, h⟩, fun x H3 hy => ?_⟩
      obtain ⟨e3, hs3, r3⟩ := yl _ x H3 d hy (by simp)
      refine gTg_ok t d x ρ2 σ2 _ _ r3 (he2.mono (e3.tups hs2)) w2 fun ρ4 σ4 he4 _ w4 => ?_
      have e13 := e2.trans e3
      refine ⟨ρ4, S2, _, he4, hs3, w4, fun ρ5 σ5 H5 S5 e5 hs5 he5 q => ?_, (f.2.1.after e1).after e13, fun ρ5 σ5 H5 S5 e5 hs5 he5 q => f.1 ρ5 σ5 H5 S5 ((e1.trans e13).trans e5) hs5 he5 q, fun ρ5 σ5 H5 S5 e5 hs5 he5 q => ?_⟩
      · exact ⟨pre ++ [d], r, ρ5, S5, by simp, by simp, rfl, he5, hs5, e13.trans e5, q⟩
      · exact ⟨pre ++ [d], r, ρ5, S5, by simp, by simp, rfl, he5, hs5, e13.trans e5, q⟩
theorem ss_while {body : List Stmt} (hp : PassesOwn (model X.prog X.w) X.A X.env X.xe) (hc : ST X c Wc) (hb : SSs X body W1) : SS X (.While c body [] pos) (fun k ρ S => ∃ n, whW Wc W1 k n ρ S) :=
  ps_imp (ps_while hp hc hb) fun D σ H ⟨ρ, S, k, he, hs, ⟨n, w⟩, f⟩ => by
    refine ⟨fun m σ2 H2 => ∃ ρ2 S2, EnvR X.K H2 ρ2 σ2 ∧ StR X.K H2 S2 ∧ Ext H S H2 S2 ∧ whW Wc W1 k m ρ2 S2, ⟨n, ρ, S, he, hs, .refl, w⟩, ?_⟩
    rintro m σ2 H2 ⟨ρ2, S2, he2, hs2, e2, w2⟩
    cases m with
    | zero => exact w2.elim
    | succ m =>
      unfold whW at w2
      refine liftT_bind he2 hs2 w2 fun b H3 S3 e3 he3 hs3 w3 => ?_
      cases b with
      | false =>
        rw [if_neg Bool.false_ne_true] at w3 ⊢
        exact f.1 ρ2 σ2 H3 S3 (e2.trans e3) hs3 he3 w3
      | true =>
        rw [if_pos rfl] at w3 ⊢
        refine ⟨_, fun σ' H' h => ⟨m, Nat.lt_succ_self _, h⟩, ρ2, S3, _, he3, hs3, w3, fun ρ5 σ5 H5 S5 e5 hs5 he5 q => ⟨ρ5, S5, he5, hs5, (e2.trans e3).trans e5, q⟩, (f.2.1.after e2).after e3, fun ρ5 σ5 H5 S5 e5 hs5 he5 q => f.1 ρ5 σ5 H5 S5 ((e2.trans e3).trans e5) hs5 he5 q, fun ρ5 σ5 H5 S5 e5 hs5 he5 q => ⟨ρ5, S5, he5, hs5, (e2.trans e3).trans e5, q⟩⟩
end
end Z

/-! ### Z12 -/
/-! Z12: the text and the syntax: a check, and that it suffices. -/
namespace Z
open PySem PySem.Spec PyProof.Rows L2
/-- names of the module, by what they stand for -/
structure Tb where
  free : List Str
  call : List Str
  make : List Str
structure Ck where
  N : List Str
  sc : Scope
  fn : Str → Bool
structure Gd (P : Program) (w : World) (K : Frag) (mg : Str → Option Value) (base : Heap) (A : Around) (tb : Tb) (g : G) : Prop where
  units : A.units + 100 < cLine
  free : ∀ x ∈ tb.free, mg x = none
  call : ∀ x ∈ tb.call, ∃ (k : Nat) (f : Addr) (fd : FuncData) (ps : List Str), FnOk P w K mg base CX0 k f fd ps (spOf K (g.call x)) ∧ Room k A ∧ mg x = some (.ref f) ∧ PySem.W.keepIn K (.ref f) = true ∧ Binds K fd ps []
  make : ∀ C ∈ tb.make, ∃ (k : Nat) (f : Addr) (fd : FuncData) (ps : List Str), Mk K (He.ga K C) f ∧ FnOk P w K mg base CX0 k f fd ps (spOf K (g.init C)) ∧ Room (k + 1) A ∧ mg C = some (.ref (He.ga K C)) ∧ Binds K fd ps []
  noat : ∀ C f, g.noat C f = true → Cls K (He.ga K C) ∧ NoAttr K (He.ga K C) f
  meth : ∀ C m, g.ism C m = true → ∃ (k : Nat) (f : Addr) (fd : FuncData) (ps : List Str), Cls K (He.ga K C) ∧ Meth K (He.ga K C) m f ∧ FnOk P w K mg base CX0 k f fd ps (spOf K (g.meth C m)) ∧ Room k A ∧ Binds K fd ps []
  glob : ∀ x d, g.glob x = some d → ∃ (v : V) (u : Value), mg x = some u ∧ RelV v u ∧ ∀ H, Rep K H d v
structure Good (X : Cx) (c : Ck) (tb : Tb) (g : G) : Prop where
  calm : X.calm = true
  N : X.N = c.N
  nd : X.N.Nodup
  sc : X.env.scope = c.sc
  fn : X.fn = c.fn
  xe : X.xe = fun _ _ => False
  gd : Gd X.prog X.w X.K X.mg X.base X.A tb g
/-- within a comprehension -/
def Ck.blk (c : Ck) (scope : Scope) : Ck := ⟨c.N, relS scope c.sc, fun x => scope.names.lookup x == some .cell⟩
theorem Good.blk {X : Cx} {c : Ck} {tb : Tb} {g : G} (h : Good X c tb g) (scope : Scope) (s : Shared) (H : Hp) (C : Addr) (cl : List (Str × Addr)) (fp : List Addr) : Good (X.blk s H scope (compEnvC scope cl C X.env) fp) (c.blk scope) tb g :=
  ⟨h.calm, h.N, h.nd, by show relS scope X.env.scope = _; rw [h.sc]; rfl, rfl, rfl, h.gd⟩
/-! ### what is looked at -/
def nk (c : Ck) (x : Str) : Option NameKind := c.sc.names.lookup x
def visB (c : Ck) (x : Str) : Bool := match nk c x with
  | some .local => true
  | some .cell => true
  | some .free => true
  | _ => false
def locB (c : Ck) (x : Str) : Bool := match nk c x with
  | some .local => true
  | some .cell => c.fn x
  | _ => false
def glB (c : Ck) (x : Str) : Bool := match nk c x with
  | some .globalImplicit => true
  | _ => false
def undB (x : Str) : Bool := (x == ("__debug__" : Str)) || (x == ("__classdict__" : Str))
def slB (c : Ck) (i : Nat) (x : Str) : Bool := match c.N[i]? with
  | some y => x == y
  | none => false
def freB (tb : Tb) (x : Str) : Bool := tb.free.any fun y => x == y
def ownOf (c : Ck) (own : List Nat) : List (Str × Nat) := own.map fun i => ((c.N[i]?).getD Str.empty, i)
theorem ownOf_snd {c : Ck} : ∀ {own : List Nat}, (ownOf c own).map (·.2) = own
  | [] => rfl
  | i :: r => congrArg (i :: ·) (ownOf_snd (own := r))
def tyB (x : String) (y : Str) : Bool :=
  ((x == "int") && (y == ("int" : Str))) || ((x == "str") && (y == ("str" : Str))) || ((x == "bool") && (y == ("bool" : Str))) || ((x == "tuple") && (y == ("tuple" : Str))) || ((x == "list") && (y == ("list" : Str))) || ((x == "dict") && (y == ("dict" : Str)))
mutual
def ckT (c : Ck) : Tg → Expr → Bool
  | .v i, x => match x with
    | .Name y _ => slB c i y && locB c y
    | _ => false
  | .t ts, x => match x with
    | .Tuple xs _ _ => xs.all noStar && ckTs c ts xs
    | _ => false
def ckTs (c : Ck) : Tgs → List Expr → Bool
  | .nil, xs => match xs with
    | [] => true
    | _ => false
  | .cons t r, xs => match xs with
    | x :: xr => ckT c t x && ckTs c r xr
    | _ => false
end
def isTup : Expr → Bool
  | .Tuple .. => true
  | _ => false
mutual
def ckE (tb : Tb) : E → Ck → Expr → Bool
  | .non, _, x => match x with
    | .Constant .none _ _ => true
    | _ => false
  | .bl b, _, x => match x with
    | .Constant (.bool a) _ _ => a == b
    | _ => false
  | .int i, _, x => match x with
    | .Constant (.int j) _ _ => decide (j = i)
    | _ => false
  | .str s, _, x => match x with
    | .Constant (.str t) _ _ => t == s
    | _ => false
  | .var i, c, x => match x with
    | .Name y _ => slB c i y && visB c y && !undB y
    | _ => false
  | .glob z, c, x => match x with
    | .Name y _ => (y == z) && glB c y && !undB y
    | _ => false
  | .ty z, c, x => match x with
    | .Name y _ => tyB z y && glB c y && freB tb y
    | _ => false
  | .bin o a b, c, x => match x with
    | .BinOp xa op xb _ => bopOk o op && ckE tb a c xa && ckE tb b c xb
    | _ => false
  | .neg a, c, x => match x with
    | .UnaryOp .USub xa _ => ckE tb a c xa
    | _ => false
  | .cmp o a b, c, x => match x with
    | .Compare xa [op] [xb] _ => copOk o op && noSet xb && ckE tb a c xa && ckE tb b c xb
    | _ => false
  | .chn o p a b d, c, x => match x with
    | .Compare xa [op, pp] [xb, xd] _ => copOk o op && copOk p pp && noSet xb && noSet xd && ckE tb a c xa && ckE tb b c xb && ckE tb d c xd
    | _ => false
  | .notE a, c, x => match x with
    | .UnaryOp .Not xa _ => ckE tb a c xa
    | _ => false
  | .andE es, c, x => match x with
    | .BoolOp .And xs _ => ckEs tb es c xs
    | _ => false
  | .orE es, c, x => match x with
    | .BoolOp .Or xs _ => ckEs tb es c xs
    | _ => false
  | .ite k a b, c, x => match x with
    | .IfExp xk xa xb _ => ckE tb k c xk && ckE tb a c xa && ckE tb b c xb
    | _ => false
  | .tup es, c, x => match x with
    | .Tuple xs _ _ => xs.all noStar && ckEs tb es c xs
    | _ => false
  | .lst es, c, x => match x with
    | .List xs _ => xs.all noStar && ckEs tb es c xs
    | _ => false
  | .dic es, c, x => match x with
    | .Dict ks vs _ => (match flatKV ks vs with
      | some xs => decide (ks.length ≤ 15) && ckEs tb es c xs
      | none => false)
    | _ => false
  | .rsl a, c, x => match x with
    | .Subscript xa (.Slice none none (some (.UnaryOp .USub (.Constant (.int 1) _ _) _)) _) _ => ckE tb a c xa
    | _ => false
  | .ix a b, c, x => match x with
    | .Subscript xa xb _ => noSlice xb && ckE tb a c xa && ckE tb b c xb
    | _ => false
  | .sl a lo hi, c, x => match x with
    | .Subscript xa (.Slice xl xh none _) _ => ckE tb a c xa && ckO tb lo c xl && ckO tb hi c xh
    | _ => false
  | .fld a f, c, x => match x with
    | .Attribute xa y _ => (y == f) && noCall0 xa && ckE tb a c xa
    | _ => false
  | .call f es, c, x => match x with
    | .Call (.Name y _) xs [] _ => (y == f) && (tb.call.any fun z => f == z) && glB c y && !undB y && xs.all noStar && ckEs tb es c xs
    | _ => false
  | .make f es, c, x => match x with
    | .Call (.Name y _) xs [] _ => (y == f) && (tb.make.any fun z => f == z) && glB c y && !undB y && xs.all noStar && ckEs tb es c xs
    | _ => false
  | .meth o m es, c, x => match x with
    | .Call (.Attribute xo y ap) xs [] pos => (y == m) && noCall0 xo && (ap.endLine == pos.line) && decide (xs.length < 30) && xs.all noStar && ckE tb o c xo && ckEs tb es c xs
    | _ => false
  | .bi f es, c, x => match x with
    | .Call (.Name y _) (xa :: xs) [] _ => (y == f.name) && glB c y && freB tb y && (xa :: xs).all noStar && ckEs tb es c (xa :: xs)
    | _ => false
  | .trev e, c, x => match x with
    | .Call (.Name y _) [.Call (.Name z _) [xe] [] _] [] _ => (y == ("tuple" : Str)) && (z == ("reversed" : Str)) && glB c y && freB tb y && glB c z && freB tb z && noStar xe && ckE tb e c xe
    | _ => false
  | .bm o m es, c, x => match x with
    | .Call (.Attribute xo y ap) xs [] pos => (y == m.name) && noCall0 xo && (ap.endLine == pos.line) && decide (xs.length < 30) && xs.all noStar && ckE tb o c xo && ckEs tb es c xs
    | _ => false
  | .lc elt tg it ifs own, c, x => match x with
    | .ListComp xe [⟨xt, xi, xf, 0⟩] scope _ => blkC c.N c.sc scope (ownOf c own) && noSet xi && ((tgSl tg).all fun i => own.any fun j => i == j) && ckI tb it c xt xi && ckT (c.blk scope) tg xt && ckF tb ifs (c.blk scope) xf && ckE tb elt (c.blk scope) xe
    | _ => false
  | .ssc elt tg it ifs own, c, x => match x with
    | .Call (.Name y _) [.SetComp xe [⟨xt, xi, xf, 0⟩] scope _] [] _ => (y == ("sorted" : Str)) && glB c y && freB tb y && (blkC c.N c.sc scope (ownOf c own) && noSet xi && ((tgSl tg).all fun i => own.any fun j => i == j) && ckI tb it c xt xi && ckT (c.blk scope) tg xt && ckF tb ifs (c.blk scope) xf && ckE tb elt (c.blk scope) xe)
    | _ => false
  | .dc ke ve tg it ifs own, c, x => match x with
    | .DictComp xk xv [⟨xt, xi, xf, 0⟩] scope _ => blkC c.N c.sc scope (ownOf c own) && noSet xi && ((tgSl tg).all fun i => own.any fun j => i == j) && ckI tb it c xt xi && ckT (c.blk scope) tg xt && ckF tb ifs (c.blk scope) xf && ckE tb ke (c.blk scope) xk && ckE tb ve (c.blk scope) xv
    | _ => false
def ckEs (tb : Tb) : Es → Ck → List Expr → Bool
  | .nil, _, xs => match xs with
    | [] => true
    | _ => false
  | .cons e r, c, xs => match xs with
    | x :: xr => ckE tb e c x && ckEs tb r c xr
    | _ => false
def ckO (tb : Tb) : EO → Ck → Option Expr → Bool
  | .no, _, x => match x with
    | none => true
    | _ => false
  | .so e, c, x => match x with
    | some x => ckE tb e c x
    | _ => false
def ckF (tb : Tb) : EO → Ck → List Expr → Bool
  | .no, _, x => match x with
    | [] => true
    | _ => false
  | .so e, c, x => match x with
    | [x] => ckE tb e c x
    | _ => false
def ckI (tb : Tb) : Wk → Ck → Expr → Expr → Bool
  | .val e, c, _, x => ckE tb e c x
  | .keys e, c, _, x => ckE tb e c x
  | .rng1 a, c, _, x => match x with
    | .Call (.Name y _) [xa] [] _ => (y == ("range" : Str)) && glB c y && freB tb y && noStar xa && ckE tb a c xa
    | _ => false
  | .rng2 a b, c, _, x => match x with
    | .Call (.Name y _) [xa, xb] [] _ => (y == ("range" : Str)) && glB c y && freB tb y && noStar xa && noStar xb && ckE tb a c xa && ckE tb b c xb
    | _ => false
  | .enum a, c, t, x => match x with
    | .Call (.Name y _) [xa] [] _ => (y == ("enumerate" : Str)) && glB c y && freB tb y && noStar xa && isTup t && ckE tb a c xa
    | _ => false
  | .zip a b, c, t, x => match x with
    | .Call (.Name y _) [xa, xb] [] _ => (y == ("zip" : Str)) && glB c y && freB tb y && noStar xa && noStar xb && isTup t && ckE tb a c xa && ckE tb b c xb
    | _ => false
  | .rev a, c, _, x => match x with
    | .Call (.Name y _) [xa] [] _ => (y == ("reversed" : Str)) && glB c y && freB tb y && noStar xa && ckE tb a c xa
    | _ => false
end
/-! ### the facts behind -/
section
variable {X : Cx} {c : Ck} {tb : Tb} {g : G} {x : Str} {i : Nat}
theorem Good.vis (h : Good X c tb g) (q : visB c x = true) : Vis X.env.scope x := by
  unfold visB nk at q
  unfold Vis
  rw [h.sc]
  split at q
  · exact .inl (by assumption)
  · exact .inr (.inl (by assumption))
  · exact .inr (.inr (by assumption))
  · cases q
theorem Good.loc (h : Good X c tb g) (q : locB c x = true) : L2.Loc X.env.scope x ∧ (X.fn x = true ∨ X.env.scope.names.lookup x = some .local) := by
  unfold locB nk at q
  unfold L2.Loc
  rw [h.sc, h.fn]
  split at q
  · exact ⟨.inl (by assumption), .inr (by assumption)⟩
  · exact ⟨.inr (by assumption), .inl q⟩
  · cases q
theorem Good.gl (h : Good X c tb g) (q : glB c x = true) : Gl X x := by
  unfold glB nk at q
  show X.env.scope.names.lookup x = _
  rw [h.sc]
  split at q
  · assumption
  · cases q
theorem und_debug (q : (!undB x) = true) : (x == ("__debug__" : Str)) = false ∧ (x == ("__classdict__" : Str)) = false := by
  unfold undB at q
  rw [Bool.not_or, Bool.and_eq_true] at q
  exact ⟨by simpa using q.1, by simpa using q.2⟩
theorem Good.slot (h : Good X c tb g) (q : slB c i x = true) : X.N[i]? = some x := by
  unfold slB at q
  rw [h.N]
  split at q
  · rename_i y hy
    rw [hy, eq_of_beq q]
  · cases q
theorem any_mem {l : List Str} (q : (l.any fun y => x == y) = true) : x ∈ l := by
  obtain ⟨y, hy, e⟩ := List.any_eq_true.mp q
  rw [eq_of_beq e]; exact hy
theorem Good.fre (h : Good X c tb g) (q : freB tb x = true) : X.mg x = none := h.gd.free x (any_mem q)
end
theorem assign_len {env : PySem.Env} : ∀ {es : List Expr}, (assignEach es env).length = es.length
  | [] => rfl
  | e :: es => by
    have ih := assign_len (env := env) (es := es)
    cases e <;> simpa [assignEach] using ih
theorem assign_find {env : PySem.Env} : ∀ {es : List Expr}, es.all noStar = true → (assignEach es env).findIdx? (·.1) = none
  | [], _ => rfl
  | e :: es, h => by
    rw [List.all_cons, Bool.and_eq_true] at h
    rw [assign_cons h.1, List.findIdx?_cons, assign_find h.2] <;> rfl
mutual
theorem ck_t {X : Cx} {c : Ck} {tb : Tb} {g : G} (h : Good X c tb g) : ∀ (t : Tg) (x : Expr), ckT c t x = true → PG X x (gTg X.K t)
  | .v i, x, q => by
    unfold ckT at q
    split at q
    · rw [Bool.and_eq_true] at q
      obtain ⟨l1, l2⟩ := h.loc q.2
      unfold gTg
      exact pg_name h.nd (h.slot q.1) l1 l2
    · cases q
  | .t ts, x, q => by
    unfold ckT at q
    split at q
    · rename_i xs _ _
      rw [Bool.and_eq_true] at q
      unfold gTg
      obtain ⟨p, l⟩ := ck_ts h ts xs q.1 q.2
      exact pg_tup h.calm p (by rw [assign_len, l]) (assign_find q.1)
    · cases q
theorem ck_ts {X : Cx} {c : Ck} {tb : Tb} {g : G} (h : Good X c tb g) : ∀ (ts : Tgs) (xs : List Expr), xs.all noStar = true → ckTs c ts xs = true → PGs X xs (gTgs X.K ts) ∧ xs.length = tgLen ts
  | .nil, xs, n, q => by
    unfold ckTs at q
    split at q
    · unfold gTgs tgLen
      exact ⟨pgs_nil, rfl⟩
    · cases q
  | .cons t r, xs, n, q => by
    unfold ckTs at q
    split at q
    · rename_i x xr
      rw [Bool.and_eq_true] at q
      rw [List.all_cons, Bool.and_eq_true] at n
      obtain ⟨p, l⟩ := ck_ts h r xr n.2 q.2
      unfold gTgs tgLen
      exact ⟨pgs_cons (ck_t h t x q.1) p (by rw [assign_cons n.1] <;> rfl), by rw [List.length_cons, l]⟩
    · cases q
end
theorem ck_u {X : Cx} {c : Ck} {tb : Tb} {g : G} (h : Good X c tb g) (ts : Tgs) (x : Expr) (q : ckT c (.t ts) x = true) : PG X x (gUnl X.K (tgLen ts) (gTgs X.K ts)) := by
  unfold ckT at q
  split at q
  · rename_i xs _ _
    rw [Bool.and_eq_true] at q
    obtain ⟨p, l⟩ := ck_ts h ts xs q.1 q.2
    exact pg_unl h.calm p (by rw [assign_len, l]) (assign_find q.1)
  · cases q
end Z

/-! ### Z13 -/
/-! Z13: a checked expression does what its syntax asks. -/
namespace Z
open PySem PySem.Spec PyProof.Rows L2
abbrev SB (X : Cx) (x : Expr) (W : WE × WT) : Prop := SE X x W.1 ∧ ST X x W.2
section
variable {X : Cx} {c : Ck} {tb : Tb} {g : G}
theorem st_false {e : Expr} : ST X e (fun _ _ _ => False) := ⟨fun pins s σ H Q I ⟨ρ, S, Q', he, hs, w, f⟩ => w.elim⟩
theorem se_false {e : Expr} : SE X e (fun _ _ _ => False) := ⟨fun pins s σ H Q I ⟨ρ, S, Q', he, hs, w, f⟩ => w.elim⟩
theorem sb_of {x : Expr} {W : WE} (h : SE X x W) (p : plainTest x = true) : SB X x (ofE W) := ⟨h, st_truth h (test_plain p)⟩
theorem pt_imp' {e : Expr} {W : WT} (h : SW X e W) : ST X e W := PW.pt h
/-- a comprehension's premises -/
structure LcOk (X : Cx) (tg iter elt : Expr) (ifs : List Expr) (scope : Scope) (own : List (Str × Nat)) (wi : TI) (gt : TG) (tt : TT) (te : TE) : Prop where
  hi : PI X tg iter wi
  ok : BlkOk X.N X.env.scope scope own
  hg : ∀ (s : Shared) (H : Hp) (C : Addr) (cl : List (Str × Addr)) (fp : List Addr), PG (X.blk s H scope (compEnvC scope cl C X.env) fp) tg gt
  ht : ∀ (s : Shared) (H : Hp) (C : Addr) (cl : List (Str × Addr)) (fp : List Addr), PTs (X.blk s H scope (compEnvC scope cl C X.env) fp) ifs tt
  he : ∀ (s : Shared) (H : Hp) (C : Addr) (cl : List (Str × Addr)) (fp : List Addr), PE (X.blk s H scope (compEnvC scope cl C X.env) fp) elt te
  hs : ∀ x, foldedSetIterable iter X.env x = pure x
end
theorem own_mem {c : Ck} {sl own : List Nat} (q : (sl.all fun i => own.any fun j => i == j) = true) : ∀ i ∈ sl, i ∈ (ownOf c own).map (·.2) := by
  rw [ownOf_snd]
  intro i hi
  obtain ⟨j, hj, e⟩ := List.any_eq_true.mp (List.all_eq_true.mp q i hi)
  rw [eq_of_beq e]; exact hj
theorem set_last {op op' : CmpOp} {a b : Expr} (h : noSet b = true) : lastMarks [op, op'] [a, b] = false := by
  show behindInMarks op' b = false
  exact set_behind h
theorem bf_undebug (b : BF) : b.name ≠ "__name__" := by cases b <;> decide
mutual
theorem ck_e {tb : Tb} {g : G} : ∀ (e : E) (c : Ck) (x : Expr), ckE tb e c x = true → ∀ X, Good X c tb g → SB X x (wp g e)
  | .non, c, x, q, X, h => by
    unfold ckE at q
    split at q
    · unfold wp
      exact sb_of (se_const pe_non fun _ => rep_non.mpr rfl) rfl
    · cases q
  | .bl b, c, x, q, X, h => by
    unfold ckE at q
    split at q
    · obtain rfl := eq_of_beq q
      unfold wp
      exact sb_of (se_const pe_bl fun _ => rep_bl.mpr rfl) rfl
    · cases q
  | .int i, c, x, q, X, h => by
    unfold ckE at q
    split at q
    · obtain rfl := of_decide_eq_true q
      unfold wp
      exact sb_of (se_const pe_int fun _ => rep_int.mpr rfl) rfl
    · cases q
  | .str i, c, x, q, X, h => by
    unfold ckE at q
    split at q
    · obtain rfl := eq_of_beq q
      unfold wp
      exact sb_of (se_const pe_str fun _ => rep_str.mpr rfl) rfl
    · cases q
  | .var i, c, x, q, X, h => by
    unfold ckE at q
    split at q
    · simp only [Bool.and_eq_true] at q
      unfold wp
      exact sb_of (se_var (h.slot q.1.1) (h.vis q.1.2) (und_debug q.2).1 (und_debug q.2).2) rfl
    · cases q
  | .glob z, c, x, q, X, h => by
    unfold ckE at q
    split at q
    · simp only [Bool.and_eq_true] at q
      obtain ⟨⟨q1, q2⟩, q3⟩ := q
      obtain rfl := eq_of_beq q1
      unfold wp
      cases e : g.glob _ with
      | none => exact sb_of se_false rfl
      | some d =>
        obtain ⟨v, u, h1, h2, h3⟩ := h.gd.glob _ d e
        exact sb_of (se_const (pe_glob (h.gl q2) h1 h2 (und_debug q3).1) h3) rfl
    · cases q
  | .ty z, c, x, q, X, h => by
    unfold ckE at q
    split at q
    · simp only [Bool.and_eq_true] at q
      obtain ⟨⟨q1, q2⟩, q3⟩ := q
      unfold wp
      refine sb_of ?_ rfl
      unfold tyB at q1
      simp only [Bool.or_eq_true, Bool.and_eq_true] at q1
      rcases q1 with ((((q1 | q1) | q1) | q1) | q1) | q1 <;>
      · obtain ⟨a, b⟩ := q1
        obtain rfl := eq_of_beq a
        obtain rfl := eq_of_beq b
        exact se_const (v := .ty _) (pe_bltn (u := .type _) (h.gl q2) (h.fre q3) (by decide +kernel) rfl) fun _ => rep_ty.mpr rfl
    · cases q
  | .bin o a b, c, x, q, X, h => by
    unfold ckE at q
    split at q
    · simp only [Bool.and_eq_true] at q
      unfold wp
      exact sb_of (se_bin (bop_ok q.1.1) (ck_e a c _ q.1.2 X h).1 (ck_e b c _ q.2 X h).1) rfl
    · cases q
  | .neg a, c, x, q, X, h => by
    unfold ckE at q
    split at q
    · unfold wp
      exact sb_of (se_un unz_neg (ck_e a c _ q X h).1) rfl
    · cases q
  | .cmp o a b, c, x, q, X, h => by
    unfold ckE at q
    split at q
    · simp only [Bool.and_eq_true] at q
      unfold wp
      have hu : X.A.units + 65 < cLine := by have := h.gd.units; omega
      exact ⟨se_cmp (cop_ok hu q.1.1.1) (ck_e a c _ q.1.2 X h).1 (ck_e b c _ q.2 X h).1 (set_behind q.1.1.2), st_cmp (cop_ok hu q.1.1.1) (ck_e a c _ q.1.2 X h).1 (ck_e b c _ q.2 X h).1 (set_behind q.1.1.2)⟩
    · cases q
  | .chn o p a b d, c, x, q, X, h => by
    unfold ckE at q
    split at q
    · simp only [Bool.and_eq_true] at q
      unfold wp
      have hu : X.A.units + 65 < cLine := by have := h.gd.units; omega
      obtain ⟨⟨⟨⟨⟨⟨q1, q2⟩, q3⟩, q4⟩, q5⟩, q6⟩, q7⟩ := q
      exact ⟨se_chn (cop_ok hu q1) (cop_ok hu q2) (ck_e a c _ q5 X h).1 (ck_e b c _ q6 X h).1 (ck_e d c _ q7 X h).1 (set_last q4), st_chn (cop_ok hu q1) (cop_ok hu q2) (ck_e a c _ q5 X h).1 (ck_e b c _ q6 X h).1 (ck_e d c _ q7 X h).1 (set_last q4)⟩
    · cases q
  | .notE a, c, x, q, X, h => by
    unfold ckE at q
    split at q
    · unfold wp
      exact ⟨se_not (ck_e a c _ q X h).1, st_not (ck_e a c _ q X h).2⟩
    · cases q
  | .andE es, c, x, q, X, h => by
    unfold ckE at q
    split at q
    · unfold wp
      have := ck_and es c _ q X h
      exact ⟨(this _).1, PW.pt (this _).2⟩
    · cases q
  | .orE es, c, x, q, X, h => by
    unfold ckE at q
    split at q
    · unfold wp
      have := ck_or es c _ q X h
      exact ⟨(this _).1, PW.pt (this _).2⟩
    · cases q
  | .ite k a b, c, x, q, X, h => by
    unfold ckE at q
    split at q
    · simp only [Bool.and_eq_true] at q
      unfold wp
      exact ⟨se_ite (ck_e k c _ q.1.1 X h).2 (ck_e a c _ q.1.2 X h).1 (ck_e b c _ q.2 X h).1, st_false⟩
    · cases q
  | .tup es, c, x, q, X, h => by
    unfold ckE at q
    split at q
    · simp only [Bool.and_eq_true] at q
      unfold wp
      exact sb_of (se_tup (ck_es es c _ q.2 X h q.1)) rfl
    · cases q
  | .lst es, c, x, q, X, h => by
    unfold ckE at q
    split at q
    · simp only [Bool.and_eq_true] at q
      unfold wp
      exact sb_of (se_lst (ck_es es c _ q.2 X h q.1)) rfl
    · cases q
  | .dic es, c, x, q, X, h => by
    unfold ckE at q
    split at q
    · rename_i ks vs ps
      split at q
      · rename_i xs hf
        rw [Bool.and_eq_true] at q
        obtain ⟨h1, h2⟩ := flatKV_len hf
        unfold wp
        cases es with
        | nil =>
          have q2 := q.2
          unfold ckEs at q2
          split at q2
          · cases ks with
            | nil =>
              cases vs with
              | nil => exact sb_of se_dnew rfl
              | cons _ _ => cases h2
            | cons k ks =>
              cases vs with
              | nil => cases h2
              | cons v vs =>
                cases k with
                | none => cases h1
                | some k =>
                  unfold flatKV at hf
                  cases e : flatKV ks vs with
                  | none => rw [e] at hf; cases hf
                  | some r => rw [e] at hf; cases hf
          · cases q2
        | cons k r =>
          have h0 : ks ≠ [] := by
            rintro rfl
            cases vs with
            | nil =>
              cases hf
              have q2 := q.2
              unfold ckEs at q2
              cases q2
            | cons _ _ => cases h2
          exact sb_of (se_dic (ck_kv (.cons k r) c ks vs xs hf q.2 X h _) h1 h2 h0 (of_decide_eq_true q.1)) rfl
      · cases q
    · cases q
  | .rsl a, c, x, q, X, h => by
    unfold ckE at q
    split at q
    · unfold wp
      refine sb_of (se_rsl (ck_e a c _ q X h).1 (pe_imp (pe_un un_neg pe_int) fun σ H Q w => ⟨1, rfl, w⟩)) rfl
    · cases q
  | .ix a b, c, x, q, X, h => by
    unfold ckE at q
    split at q
    · simp only [Bool.and_eq_true] at q
      unfold wp
      exact sb_of (se_ix (by have := h.gd.units; omega) (ck_e a c _ q.1.2 X h).1 (ck_e b c _ q.2 X h).1 (ix_plain q.1.1)) rfl
    · cases q
  | .sl a lo hi, c, x, q, X, h => by
    unfold ckE at q
    split at q
    · simp only [Bool.and_eq_true] at q
      unfold wp
      exact sb_of (se_sl (ck_e a c _ q.1.1 X h).1 (ck_o lo c _ q.1.2 X h) (ck_o hi c _ q.2 X h)) rfl
    · cases q
  | .fld a f, c, x, q, X, h => by
    unfold ckE at q
    split at q
    · simp only [Bool.and_eq_true] at q
      obtain ⟨⟨q1, q2⟩, q3⟩ := q
      obtain rfl := eq_of_beq q1
      unfold wp
      exact sb_of (se_fld (fun C e => h.gd.noat C _ e) (ck_e a c _ q3 X h).1 (base_plain q2)) rfl
    · cases q
  | .call f es, c, x, q, X, h => by
    unfold ckE at q
    split at q
    · simp only [Bool.and_eq_true] at q
      obtain ⟨⟨⟨⟨⟨q1, q2⟩, q3⟩, q4⟩, q5⟩, q6⟩ := q
      obtain rfl := eq_of_beq q1
      obtain ⟨k, fa, fd, ps, F, rm, hm, hk, hb⟩ := h.gd.call _ (any_mem q2)
      have pa := ck_es es c _ q6 X h q5
      unfold wp
      refine sb_of ?_ rfl
      rename_i xs _
      cases xs with
      | nil =>
        cases es with
        | nil =>
          unfold wpEs
          exact se_call0 F rm (h.gl q3) hm hk hb pass0 (und_debug q4).1
        | cons _ _ => unfold ckEs at q6; cases q6
      | cons xa xs =>
        rw [List.all_cons, Bool.and_eq_true] at q5
        exact se_call F rm (h.gl q3) hm hk hb pass0 (und_debug q4).1 pa (star_cons q5.1) (any_back q5.2)
    · cases q
  | .make f es, c, x, q, X, h => by
    unfold ckE at q
    split at q
    · simp only [Bool.and_eq_true] at q
      obtain ⟨⟨⟨⟨⟨q1, q2⟩, q3⟩, q4⟩, q5⟩, q6⟩ := q
      obtain rfl := eq_of_beq q1
      obtain ⟨k, fa, fd, ps, M, F, rm, hm, hb⟩ := h.gd.make _ (any_mem q2)
      have pa := ck_es es c _ q6 X h q5
      unfold wp
      refine sb_of ?_ rfl
      rename_i xs _
      cases xs with
      | nil =>
        cases es with
        | nil =>
          unfold wpEs
          exact se_make0 M F rm (h.gl q3) hm hb pass0 (und_debug q4).1
        | cons _ _ => unfold ckEs at q6; cases q6
      | cons xa xs =>
        rw [List.all_cons, Bool.and_eq_true] at q5
        exact se_make M F rm (h.gl q3) hm hb pass0 (und_debug q4).1 pa (star_cons q5.1) (any_back q5.2)
    · cases q
  | .meth o m es, c, x, q, X, h => by
    unfold ckE at q
    split at q
    · simp only [Bool.and_eq_true] at q
      obtain ⟨⟨⟨⟨⟨⟨q1, q2⟩, q3⟩, q4⟩, q5⟩, q6⟩, q7⟩ := q
      obtain rfl := eq_of_beq q1
      have pa := ck_es es c _ q7 X h q5
      have hl := of_decide_eq_true q4
      unfold wp
      refine sb_of ?_ rfl
      rename_i xs _
      have hmf : ∀ m C, g.ism C m = true → MethF X C m (g.meth C m) := fun m C e => ⟨h.gd.meth C m e⟩
      cases xs with
      | nil =>
        cases es with
        | nil =>
          unfold wpEs
          exact se_meth0 (ck_e o c _ q6 X h).1 (hmf _) (base_plain q2) (form_few (es := []) rfl (by decide)) q3
        | cons _ _ => unfold ckEs at q7; cases q7
      | cons xa xs =>
        have q5' := q5
        rw [List.all_cons, Bool.and_eq_true] at q5
        exact se_meth (ck_e o c _ q6 X h).1 (hmf _) (base_plain q2) (form_few q5' hl) q3 pa (star_cons q5.1) (any_back q5.2)
    · cases q
  | .bi f es, c, x, q, X, h => by
    unfold ckE at q
    split at q
    · simp only [Bool.and_eq_true] at q
      obtain ⟨⟨⟨⟨q1, q2⟩, q3⟩, q5⟩, q6⟩ := q
      obtain rfl := eq_of_beq q1
      have pa := ck_es es c _ q6 X h q5
      rw [List.all_cons, Bool.and_eq_true] at q5
      unfold wp
      exact sb_of (se_bi h.calm (h.gl q2) (h.fre q3) pa (star_cons q5.1) (any_back q5.2)) rfl
    · cases q
  | .trev e, c, x, q, X, h => by
    unfold ckE at q
    split at q
    · simp only [Bool.and_eq_true] at q
      obtain ⟨⟨⟨⟨⟨⟨⟨q1, q2⟩, q3⟩, q4⟩, q5⟩, q6⟩, q7⟩, q8⟩ := q
      obtain rfl := eq_of_beq q1
      obtain rfl := eq_of_beq q2
      unfold wp
      exact sb_of (se_trev h.calm (h.gl q3) (h.fre q4) (h.gl q5) (h.fre q6) (ck_e e c _ q8 X h).1 (star_cons q7)) rfl
    · cases q
  | .bm o m es, c, x, q, X, h => by
    unfold ckE at q
    split at q
    · simp only [Bool.and_eq_true] at q
      obtain ⟨⟨⟨⟨⟨⟨q1, q2⟩, q3⟩, q4⟩, q5⟩, q6⟩, q7⟩ := q
      obtain rfl := eq_of_beq q1
      have pa := ck_es es c _ q7 X h q5
      have hl := of_decide_eq_true q4
      have hu : X.A.units + 1 < cLine := by have := h.gd.units; omega
      unfold wp
      refine sb_of ?_ rfl
      rename_i xs _
      cases xs with
      | nil =>
        cases es with
        | nil =>
          unfold wpEs
          exact se_bm0 (by have := h.gd.units; omega) (ck_e o c _ q6 X h).1 (base_plain q2) q3
        | cons _ _ => unfold ckEs at q7; cases q7
      | cons xa xs =>
        have q5' := q5
        rw [List.all_cons, Bool.and_eq_true] at q5
        exact se_bm (by have := h.gd.units; omega) (ck_e o c _ q6 X h).1 (base_plain q2) q3 (few30 q5' hl) pa (star_cons q5.1) (any_back q5.2)
    · cases q
  | .lc elt tg it ifs own, c, x, q, X, h => by
    unfold ckE at q
    split at q
    · simp only [Bool.and_eq_true] at q
      obtain ⟨⟨⟨⟨⟨⟨q1, q2⟩, q3⟩, q4⟩, q5⟩, q6⟩, q7⟩ := q
      unfold wp
      have hi := ck_i it c _ _ q4 X h
      refine sb_of (pe_imp (pe_lc h.calm h.nd hi (own := ownOf c own) (by rw [h.N, h.sc]; exact blkOk_by q1) (fun s H C cl fp => ck_t (h.blk _ s H C cl fp) tg _ q5) (fun s H C cl fp => ck_f ifs (c.blk _) _ q6 _ (h.blk _ s H C cl fp)) (fun s H C cl fp => (ck_e elt (c.blk _) _ q7 _ (h.blk _ s H C cl fp)).1) (set_folded q2)) fun σ H Q w => lc_read (own_mem q3) ?_) rfl
      rw [ownOf_snd]
      exact w
    · cases q
  | .ssc elt tg it ifs own, c, x, q, X, h => by
    unfold ckE at q
    split at q
    · simp only [Bool.and_eq_true] at q
      obtain ⟨⟨⟨p1, p2⟩, p3⟩, ⟨⟨⟨⟨⟨q1, q2⟩, q3⟩, q4⟩, q5⟩, q6⟩, q7⟩ := q
      obtain rfl := eq_of_beq p1
      unfold wp
      have hi := ck_i it c _ _ q4 X h
      have hb := fun pos => pe_bag (pos := pos) (te := lift X.K (wp g elt).1) (tt := liftT X.K (wpIf g ifs)) (wi := liftI X.K (wpI g it)) (g := gTg X.K tg) (by have := h.gd.units; omega) h.calm h.nd hi (own := ownOf c own) (by rw [h.N, h.sc]; exact blkOk_by q1) (fun s H C cl fp => ck_t (h.blk _ s H C cl fp) tg _ q5) (fun s H C cl fp => ck_f ifs (c.blk _) _ q6 _ (h.blk _ s H C cl fp)) (fun s H C cl fp => (ck_e elt (c.blk _) _ q7 _ (h.blk _ s H C cl fp)).1) (set_folded q2)
      refine sb_of (pe_imp (pe_callB (bag_sort h.calm) (h.gl p2) (h.fre p3) (by decide +kernel) (pa_cons (hb _) pa_nil)) fun σ H Q w => ?_) rfl
      have w' := ssc_read (X := X) (own := ownOf c own) (t := tg) (Wi := wpI _ it) (Wt := wpIf _ ifs) (We := (wp _ elt).1) (σ := σ) (H := H) (Q := Q) (own_mem q3) (by rw [ownOf_snd]; exact w)
      exact w'
    · cases q
  | .dc ke ve tg it ifs own, c, x, q, X, h => by
    unfold ckE at q
    split at q
    · simp only [Bool.and_eq_true] at q
      obtain ⟨⟨⟨⟨⟨⟨⟨q1, q2⟩, q3⟩, q4⟩, q5⟩, q6⟩, q7⟩, q8⟩ := q
      unfold wp
      have hi := ck_i it c _ _ q4 X h
      refine sb_of (pe_imp (pe_dc h.calm h.nd hi (own := ownOf c own) (by rw [h.N, h.sc]; exact blkOk_by q1) (fun s H C cl fp => ck_t (h.blk _ s H C cl fp) tg _ q5) (fun s H C cl fp => ck_f ifs (c.blk _) _ q6 _ (h.blk _ s H C cl fp)) (fun s H C cl fp => (ck_e ke (c.blk _) _ q7 _ (h.blk _ s H C cl fp)).1) (fun s H C cl fp => (ck_e ve (c.blk _) _ q8 _ (h.blk _ s H C cl fp)).1) (set_folded q2)) fun σ H Q w => dc_read (own_mem q3) ?_) rfl
      rw [ownOf_snd]
      exact w
    · cases q
theorem ck_kv {tb : Tb} {g : G} : ∀ (es : Es) (c : Ck) (ks : List (Option Expr)) (vs xs : List Expr), flatKV ks vs = some xs → ckEs tb es c xs = true → ∀ X, Good X c tb g → ∀ pos, PKV X ks vs pos (liftA X.K (wpEs g es))
  | .nil, c, ks, vs, xs, hf, q, X, h => fun pos => by
    unfold ckEs at q
    split at q
    · cases ks with
      | nil =>
        cases vs with
        | nil => unfold wpEs; exact pkv_nil
        | cons _ _ => cases hf
      | cons k ks =>
        cases k with
        | none => cases hf
        | some k =>
          cases vs with
          | nil => cases hf
          | cons v vs =>
            unfold flatKV at hf
            cases e : flatKV ks vs with
            | none => rw [e] at hf; cases hf
            | some r => rw [e] at hf; cases hf
    · cases q
  | .cons a .nil, c, ks, vs, xs, hf, q, X, h => fun pos => by
    exfalso
    cases ks with
    | nil =>
      cases vs with
      | nil => cases hf; unfold ckEs at q; cases q
      | cons _ _ => cases hf
    | cons k ks =>
      cases k with
      | none => cases hf
      | some k =>
        cases vs with
        | nil => cases hf
        | cons v vs =>
          unfold flatKV at hf
          cases e : flatKV ks vs with
          | none => rw [e] at hf; cases hf
          | some r =>
            rw [e] at hf
            cases hf
            unfold ckEs at q
            rw [Bool.and_eq_true] at q
            have q2 := q.2
            unfold ckEs at q2
            cases q2
  | .cons a (.cons b r), c, ks, vs, xs, hf, q, X, h => fun pos => by
    cases ks with
    | nil =>
      cases vs with
      | nil => cases hf; unfold ckEs at q; cases q
      | cons _ _ => cases hf
    | cons k ks =>
      cases k with
      | none => cases hf
      | some k =>
        cases vs with
        | nil => cases hf
        | cons v vs =>
          unfold flatKV at hf
          cases e : flatKV ks vs with
          | none => rw [e] at hf; cases hf
          | some rr =>
            rw [e] at hf
            cases hf
            unfold ckEs at q
            rw [Bool.and_eq_true] at q
            have q2 := q.2
            unfold ckEs at q2
            rw [Bool.and_eq_true] at q2
            unfold wpEs
            unfold wpEs
            exact pkv_cons (ck_e a c _ q.1 X h).1 (ck_e b c _ q2.1 X h).1 (ck_kv r c ks vs rr e q2.2 X h pos)
theorem ck_es {tb : Tb} {g : G} : ∀ (es : Es) (c : Ck) (xs : List Expr), ckEs tb es c xs = true → ∀ X, Good X c tb g → xs.all noStar = true → SA X xs (wpEs g es)
  | .nil, c, xs, q, X, h, n => by
    unfold ckEs at q
    split at q
    · unfold wpEs; exact sa_nil
    · cases q
  | .cons e r, c, xs, q, X, h, n => by
    unfold ckEs at q
    split at q
    · rw [Bool.and_eq_true] at q
      rw [List.all_cons, Bool.and_eq_true] at n
      unfold wpEs
      exact sa_cons (ck_e e c _ q.1 X h).1 (ck_es r c _ q.2 X h n.2) (star_cons n.1)
    · cases q
theorem ck_and {tb : Tb} {g : G} : ∀ (es : Es) (c : Ck) (xs : List Expr), ckEs tb es c xs = true → ∀ X, Good X c tb g → ∀ pos, SE X (.BoolOp .And xs pos) (wpAnd g es).1 ∧ SW X (.BoolOp .And xs pos) (wpAnd g es).2
  | .nil, c, xs, q, X, h => fun pos => by
    unfold wpAnd
    exact ⟨se_false, ⟨fun wh pins s σ H Q I ⟨ρ, S, Q', he, hs, w, f⟩ => w.elim⟩⟩
  | .cons e r, c, xs, q, X, h => fun pos => by
    unfold ckEs at q
    split at q
    · rename_i x xr
      rw [Bool.and_eq_true] at q
      have a := ck_e e c _ q.1 X h
      cases r with
      | nil =>
        have q2 := q.2
        unfold ckEs at q2
        split at q2
        · unfold wpAnd
          exact ⟨se_and1 a.1, sw_and1 a.2⟩
        · cases q2
      | cons e2 r2 =>
        have b := ck_and (.cons e2 r2) c _ q.2 X h pos
        cases xr with
        | nil => have q2 := q.2; unfold ckEs at q2; cases q2
        | cons y yr =>
          unfold wpAnd
          exact ⟨se_and a.1 b.1, sw_and a.2 b.2⟩
    · cases q
theorem ck_or {tb : Tb} {g : G} : ∀ (es : Es) (c : Ck) (xs : List Expr), ckEs tb es c xs = true → ∀ X, Good X c tb g → ∀ pos, SE X (.BoolOp .Or xs pos) (wpOr g es).1 ∧ SW X (.BoolOp .Or xs pos) (wpOr g es).2
  | .nil, c, xs, q, X, h => fun pos => by
    unfold wpOr
    exact ⟨se_false, ⟨fun wh pins s σ H Q I ⟨ρ, S, Q', he, hs, w, f⟩ => w.elim⟩⟩
  | .cons e r, c, xs, q, X, h => fun pos => by
    unfold ckEs at q
    split at q
    · rename_i x xr
      rw [Bool.and_eq_true] at q
      have a := ck_e e c _ q.1 X h
      cases r with
      | nil =>
        have q2 := q.2
        unfold ckEs at q2
        split at q2
        · unfold wpOr
          exact ⟨se_and1 a.1, sw_or1 a.2⟩
        · cases q2
      | cons e2 r2 =>
        have b := ck_or (.cons e2 r2) c _ q.2 X h pos
        cases xr with
        | nil => have q2 := q.2; unfold ckEs at q2; cases q2
        | cons y yr =>
          unfold wpOr
          exact ⟨se_or a.1 b.1, sw_or a.2 b.2⟩
    · cases q
theorem ck_o {tb : Tb} {g : G} : ∀ (o : EO) (c : Ck) (x : Option Expr), ckO tb o c x = true → ∀ X, Good X c tb g → PO X x (liftO X.K (wpO g o))
  | .no, c, x, q, X, h => by
    unfold ckO at q
    split at q
    · unfold wpO; exact so_none
    · cases q
  | .so e, c, x, q, X, h => by
    unfold ckO at q
    split at q
    · unfold wpO; exact so_some (ck_e e c _ q X h).1
    · cases q
theorem ck_f {tb : Tb} {g : G} : ∀ (o : EO) (c : Ck) (x : List Expr), ckF tb o c x = true → ∀ X, Good X c tb g → PTs X x (liftT X.K (wpIf g o))
  | .no, c, x, q, X, h => by
    unfold ckF at q
    split at q
    · unfold wpIf
      exact ⟨fun pins s σ H Q I ⟨ρ, S, Q', he, hs, w, f⟩ => pts_nil.run pins s σ H Q I (f true H S .refl hs w)⟩
    · cases q
  | .so e, c, x, q, X, h => by
    unfold ckF at q
    split at q
    · unfold wpIf; exact pts_one (ck_e e c _ q X h).2
    · cases q
theorem ck_i {tb : Tb} {g : G} : ∀ (k : Wk) (c : Ck) (t x : Expr), ckI tb k c t x = true → ∀ X, Good X c tb g → SI X t x (wpI g k)
  | .val e, c, t, x, q, X, h => by
    unfold ckI at q
    unfold wpI
    exact si_val (ck_e e c _ q X h).1
  | .keys e, c, t, x, q, X, h => by
    unfold ckI at q
    unfold wpI
    exact si_keys (ck_e e c _ q X h).1
  | .rng1 a, c, t, x, q, X, h => by
    unfold ckI at q
    split at q
    · simp only [Bool.and_eq_true] at q
      obtain ⟨⟨⟨⟨q1, q2⟩, q3⟩, q4⟩, q5⟩ := q
      obtain rfl := eq_of_beq q1
      unfold wpI
      exact si_rng1 (h.gl q2) (h.fre q3) (ck_e a c _ q5 X h).1 (star_cons q4)
    · cases q
  | .rng2 a b, c, t, x, q, X, h => by
    unfold ckI at q
    split at q
    · simp only [Bool.and_eq_true] at q
      obtain ⟨⟨⟨⟨⟨⟨q1, q2⟩, q3⟩, q4⟩, q5⟩, q6⟩, q7⟩ := q
      obtain rfl := eq_of_beq q1
      unfold wpI
      exact si_rng2 (h.gl q2) (h.fre q3) (ck_e a c _ q6 X h).1 (ck_e b c _ q7 X h).1 (by rw [star_cons q4, star_cons q5] <;> rfl) (by rw [star_cons q5] <;> rfl)
    · cases q
  | .enum a, c, t, x, q, X, h => by
    unfold ckI at q
    split at q
    · simp only [Bool.and_eq_true] at q
      obtain ⟨⟨⟨⟨⟨q1, q2⟩, q3⟩, q4⟩, q5⟩, q6⟩ := q
      obtain rfl := eq_of_beq q1
      unfold wpI
      cases t <;> first | cases q5 | skip
      exact si_enumM (h.gl q2) (h.fre q3) (ck_e a c _ q6 X h).1 (star_cons q4)
    · cases q
  | .zip a b, c, t, x, q, X, h => by
    unfold ckI at q
    split at q
    · simp only [Bool.and_eq_true] at q
      obtain ⟨⟨⟨⟨⟨⟨⟨q1, q2⟩, q3⟩, q4⟩, q5⟩, q6⟩, q7⟩, q8⟩ := q
      obtain rfl := eq_of_beq q1
      unfold wpI
      cases t <;> first | cases q6 | skip
      exact si_zipM (h.gl q2) (h.fre q3) (ck_e a c _ q7 X h).1 (ck_e b c _ q8 X h).1 (star_cons q4) (star_cons q5)
    · cases q
  | .rev a, c, t, x, q, X, h => by
    unfold ckI at q
    split at q
    · simp only [Bool.and_eq_true] at q
      obtain ⟨⟨⟨⟨q1, q2⟩, q3⟩, q4⟩, q5⟩ := q
      obtain rfl := eq_of_beq q1
      unfold wpI
      exact si_rev (h.gl q2) (h.fre q3) (ck_e a c _ q5 X h).1 (star_cons q4)
    · cases q
end
end Z

/-! ### Z14 -/
/-! Z14: checked statements. -/
namespace Z
open PySem PySem.Spec PyProof.Rows L2
def compScope : Expr → Option Scope
  | .ListComp _ _ s _ => some s
  | .SetComp _ _ s _ => some s
  | .DictComp _ _ _ s _ => some s
  | _ => none
/-- no store of its own behind the value -/
def swF (c : Ck) (t e : Expr) : Bool := match compScope e with
  | none => true
  | some s => match t with
    | .Name y py => !(decide (nk c y = some .local) && (py.line == e.pos.line) && !(s.names.any fun (n, k) => n == y && (k == .local || k == .cell)))
    | _ => true
def swT (c : Ck) (t e : Expr) : Bool := match compScope e with
  | none => false
  | some s => match t with
    | .Name y py => decide (nk c y = some .local) && (py.line == e.pos.line) && !(s.names.any fun (n, k) => n == y && (k == .local || k == .cell))
    | _ => false
def noSwap (t e : Expr) : Bool := (match t with
    | .Tuple .. => false
    | .List .. => false
    | _ => true) || (match e with
    | .Tuple .. => false
    | _ => true)
theorem swF_ok {X : Cx} {c : Ck} {tb : Tb} {g : G} (h : Good X c tb g) (hk : X.env.scope.kind = .function) {t e : Expr} {l : Nat} (q : swF c t e = true) : swapsWith e (some t) l X.env = pure false := by
  unfold swF at q
  cases e with
  | ListComp a b s p =>
    cases t <;> first | rfl | skip
    rename_i y py
    simp only [compScope, Bool.not_eq_true'] at q
    unfold swapsWith
    have hb : X.env.blockKind = .function := by unfold Env.blockKind; rw [hk]; rfl
    have hn : (X.env.kindOf y == some .local) = decide (nk c y = some .local) := by
      show (X.env.scope.names.lookup y == some .local) = _
      unfold nk
      rw [h.sc]
      by_cases e : c.sc.names.lookup y = some .local
      · rw [e]; rfl
      · rw [decide_eq_false e]; exact beq_eq_false_iff_ne.mpr e
    simp only [hb]
    show (pure ((((_ && X.env.kindOf y == some .local) && _) && _)) : Sem Bool) = _
    rw [hn]
    rw [show ((ScopeKind.function == ScopeKind.function) && decide (nk c y = some .local)) = decide (nk c y = some .local) from rfl, q]
  | SetComp a b s p =>
    cases t <;> first | rfl | skip
    rename_i y py
    simp only [compScope, Bool.not_eq_true'] at q
    unfold swapsWith
    have hb : X.env.blockKind = .function := by unfold Env.blockKind; rw [hk]; rfl
    have hn : (X.env.kindOf y == some .local) = decide (nk c y = some .local) := by
      show (X.env.scope.names.lookup y == some .local) = _
      unfold nk
      rw [h.sc]
      by_cases e : c.sc.names.lookup y = some .local
      · rw [e]; rfl
      · rw [decide_eq_false e]; exact beq_eq_false_iff_ne.mpr e
    simp only [hb]
    show (pure ((((_ && X.env.kindOf y == some .local) && _) && _)) : Sem Bool) = _
    rw [hn]
    rw [show ((ScopeKind.function == ScopeKind.function) && decide (nk c y = some .local)) = decide (nk c y = some .local) from rfl, q]
  | DictComp a a2 b s p =>
    cases t <;> first | rfl | skip
    rename_i y py
    simp only [compScope, Bool.not_eq_true'] at q
    unfold swapsWith
    have hb : X.env.blockKind = .function := by unfold Env.blockKind; rw [hk]; rfl
    have hn : (X.env.kindOf y == some .local) = decide (nk c y = some .local) := by
      show (X.env.scope.names.lookup y == some .local) = _
      unfold nk
      rw [h.sc]
      by_cases e : c.sc.names.lookup y = some .local
      · rw [e]; rfl
      · rw [decide_eq_false e]; exact beq_eq_false_iff_ne.mpr e
    simp only [hb]
    show (pure ((((_ && X.env.kindOf y == some .local) && _) && _)) : Sem Bool) = _
    rw [hn]
    rw [show ((ScopeKind.function == ScopeKind.function) && decide (nk c y = some .local)) = decide (nk c y = some .local) from rfl, q]
  | _ => rfl
theorem noSwap_ok {env : PySem.Env} {t e : Expr} (q : noSwap t e = true) : swappedStores [t] e env = pure none := by
  unfold noSwap at q
  cases t <;> first | rfl | skip
  all_goals (cases e <;> first | rfl | cases q)
/-- name = {..} on one line, the name a local -/
theorem sw_trueD {kx vx : Expr} {gs : List Comprehension} {scope : Scope} {pos py : Pos} {y : Str} {l : Nat} {env : PySem.Env} (hk : env.scope.kind = .function) (hy : env.scope.names.lookup y = some .local) (hl : (py.line == pos.line) = true)
    (ha : (scope.names.any fun (n, k) => n == y && (k == .local || k == .cell)) = false) : swapsWith (.DictComp kx vx gs scope pos) (some (.Name y py)) l env = pure true := by
  have ky : env.kindOf y = some .local := hy
  have hb : env.blockKind = .function := by unfold Env.blockKind; rw [hk]; rfl
  unfold swapsWith
  simp only [hb, ky, ha, Expr.pos, hl]
  rfl
theorem ps_setDc {X : Cx} {i : Nat} {y : Str} {py : Pos} {kx vx tg iter : Expr} {ifs : List Expr} {scope : Scope} {own : List (Str × Nat)} {pos spos : Pos} {wi : TI} {g : TG} {tt : TT} {tk te : TE} (hc : X.calm = true) (hN : X.N.Nodup) (hy : X.N[i]? = some y) (hyl : X.env.scope.names.lookup y = some .local)
    (hsw : swapsWith (.DictComp kx vx [⟨tg, iter, ifs, 0⟩] scope pos) (some (.Name y py)) spos.line X.env = pure true) (hi : PI X tg iter wi) (ok : BlkOk X.N X.env.scope scope own)
    (hg : ∀ (s : Shared) (H : Hp) (C : Addr) (cl : List (Str × Addr)) (fp : List Addr), PG (X.blk s H scope (compEnvC scope cl C X.env) fp) tg g) (ht : ∀ (s : Shared) (H : Hp) (C : Addr) (cl : List (Str × Addr)) (fp : List Addr), PTs (X.blk s H scope (compEnvC scope cl C X.env) fp) ifs tt)
    (hk : ∀ (s : Shared) (H : Hp) (C : Addr) (cl : List (Str × Addr)) (fp : List Addr), PE (X.blk s H scope (compEnvC scope cl C X.env) fp) kx tk)
    (he : ∀ (s : Shared) (H : Hp) (C : Addr) (cl : List (Str × Addr)) (fp : List Addr), PE (X.blk s H scope (compEnvC scope cl C X.env) fp) vx te) (hs : ∀ x, foldedSetIterable iter X.env x = pure x) :
    PS X (.Assign [.Name y py] (.DictComp kx vx [⟨tg, iter, ifs, 0⟩] scope pos) spos) (tAsg (tDc wi g tt tk te (own.map (·.2))) (gName i)) := by
  refine ⟨fun pins s σ H D I h => ?_⟩
  rw [exec_Assign_Name_used _ _ _ _ hsw]
  refine wpAny_bind (wpAny_standAt (wpAny_bind ?_))
  show wpAny _ X.A (do let _ ← comprehension (.DictComp kx vx [⟨tg, iter, ifs, 0⟩] scope pos) scope X.env (firstIterPos [⟨tg, iter, ifs, 0⟩] pos) newDict false (eval iter X.env) (some (assign (.Name y py) X.env))) _ _ s
  have h : tDc wi g tt tk te (own.map (·.2)) σ H (fun x H1 => gName i x σ H1 D.nx) := h
  refine wpAny_bind (thn (dc_core (Qf := fun _ s' => SP X pins D .next s') hc hN I hi ok hg ht hk he hs h fun L C s' m H' I' q hn f => ?_) fun _ s' hq => wpAny_pure (wpAny_pure hq))
  show wpAny _ _ (assign (.Name y py) X.env (.ref L)) _ _ _
  refine wpAny_assign_Name (store_ok2 (v := V.ref L) I' hN hy (.inl hyl) rfl (fun s2 I2 ⟨a, sb, ha⟩ => ?_) (.inr hyl))
  obtain ⟨f0, f1, f2, f3, f4, f5⟩ := f
  have haC : C ≠ a := by
    rcases ha with z | z
    · rw [z]; exact f1
    · exact fun e => f4 y a z e.symm
  refine ⟨m, hn.sameBut sb haC, fun h3 sb3 => ?_⟩
  exact ⟨_, H', I2.turned (t' := s2.toks) (fun b o hb e => (sb3.2 b hb).trans e) f0 f1 f3 f4 f5, q⟩
def isCmp : E → Bool
  | .lc .. => true
  | .dc .. => true
  | _ => false
def tgVar : Tg → Bool
  | .v _ => true
  | _ => false
mutual
def ckS (tb : Tb) (c : Ck) : S → Stmt → Bool
  | .set t e, x => match x with
    | .Assign [xt] xe _ => noStar xt && ckT c t xt && ckE tb e c xe && ((noSwap xt xe && swF c xt xe) || (swT c xt xe && tgVar t && isCmp e))
    | _ => false
  | .unl ts e, x => match x with
    | .Assign [xt] xe _ => noStar xt && ckT c (.t ts) xt && ckE tb e c xe && (noSwap xt xe && swF c xt xe)
    | _ => false
  | .setIx o i e, x => match x with
    | .Assign [.Subscript xo xi _] xe _ => noSlice xi && ckE tb e c xe && ckE tb o c xo && ckE tb i c xi
    | _ => false
  | .setFld o f e, x => match x with
    | .Assign [.Attribute xo y _] xe _ => (y == f) && ckE tb e c xe && ckE tb o c xo
    | _ => false
  | .aug i o e, x => match x with
    | .AugAssign (.Name y _) op xe _ => slB c i y && locB c y && bopOk o op && ckE tb e c xe
    | _ => false
  | .augFld o f p e, x => match x with
    | .AugAssign (.Attribute xo y _) op xe _ => (y == f) && bopOk p op && ckE tb o c xo && ckE tb e c xe
    | _ => false
  | .augIx _ _ _ _, _ => false
  | .ex e, x => match x with
    | .Expr xe _ => noComp xe && ckE tb e c xe
    | _ => false
  | .ret e, x => match x with
    | .Return (some xe) _ => ckE tb e c xe
    | _ => false
  | .retN, x => match x with
    | .Return none _ => true
    | _ => false
  | .ife k a b, x => match x with
    | .If xk xa xb _ => ckE tb k c xk && ckSs tb c a xa && ckSs tb c b xb
    | _ => false
  | .fr t it b, x => match x with
    | .For xt xi xb [] _ => noSet xi && ckI tb it c xt xi && ckT c t xt && ckSs tb c b xb
    | _ => false
  | .wh k b, x => match x with
    | .While xk xb [] _ => ckE tb k c xk && ckSs tb c b xb
    | _ => false
  | .brk, x => match x with
    | .Break _ => true
    | _ => false
  | .cnt, x => match x with
    | .Continue _ => true
    | _ => false
  | .pas, x => match x with
    | .Pass _ => true
    | _ => false
  | .nev, _ => true
def ckSs (tb : Tb) (c : Ck) : Ss → List Stmt → Bool
  | .nil, xs => match xs with
    | [] => true
    | _ => false
  | .cons s r, xs => match xs with
    | x :: xr => ckS tb c s x && ckSs tb c r xr
    | _ => false
end
theorem ck_set {X : Cx} {c : Ck} {tb : Tb} {g : G} (h : Good X c tb g) (hk : X.env.scope.kind = .function) {t : Tg} {e : E} {xt xe : Expr} {pos : Pos} (q1 : noStar xt = true) (q2 : ckT c t xt = true) (q3 : ckE tb e c xe = true)
    (q4 : ((noSwap xt xe && swF c xt xe) || (swT c xt xe && tgVar t && isCmp e)) = true) : SS X (.Assign [xt] xe pos) (wpS g (.set t e)) := by
  unfold wpS
  simp only [Bool.or_eq_true, Bool.and_eq_true] at q4
  rcases q4 with ⟨a, b⟩ | ⟨⟨a, b⟩, d⟩
  · exact ss_set (ck_e e c _ q3 X h).1 (ck_t h t _ q2) (swF_ok h hk b) (noSwap_ok a) (by rw [assign_cons q1] <;> rfl)
  · cases t with
    | t _ => cases b
    | v i =>
      cases e with
      | lc elt tg it ifs own =>
        unfold ckE at q3
        split at q3
        · simp only [Bool.and_eq_true] at q3
          obtain ⟨⟨⟨⟨⟨⟨q31, q32⟩, q33⟩, q34⟩, q35⟩, q36⟩, q37⟩ := q3
          unfold ckT at q2
          split at q2
          · rw [Bool.and_eq_true] at q2
            simp only [swT, compScope, Expr.pos, Bool.and_eq_true, Bool.not_eq_true'] at a
            obtain ⟨⟨a1, a2⟩, a3⟩ := a
            have a1 := of_decide_eq_true a1
            unfold nk at a1
            rw [← h.sc] at a1
            have hi := ck_i it c _ _ q34 X h
            refine ss_setC (ps_setLc h.calm h.nd (h.slot q2.1) a1 (sw_true hk a1 a2 a3) hi (own := ownOf c own) (by rw [h.N, h.sc]; exact blkOk_by q31) (fun s H C cl fp => ck_t (h.blk _ s H C cl fp) tg _ q35) (fun s H C cl fp => ck_f ifs (c.blk _) _ q36 _ (h.blk _ s H C cl fp)) (fun s H C cl fp => (ck_e elt (c.blk _) _ q37 _ (h.blk _ s H C cl fp)).1) (set_folded q32)) fun σ H Q w => lc_read (own_mem q33) ?_
            rw [ownOf_snd]
            unfold wp at w
            exact w
          · cases q2
        · cases q3
      | dc ke ve tg it ifs own =>
        unfold ckE at q3
        split at q3
        · simp only [Bool.and_eq_true] at q3
          obtain ⟨⟨⟨⟨⟨⟨⟨q31, q32⟩, q33⟩, q34⟩, q35⟩, q36⟩, q37⟩, q38⟩ := q3
          unfold ckT at q2
          split at q2
          · rw [Bool.and_eq_true] at q2
            simp only [swT, compScope, Expr.pos, Bool.and_eq_true, Bool.not_eq_true'] at a
            obtain ⟨⟨a1, a2⟩, a3⟩ := a
            have a1 := of_decide_eq_true a1
            unfold nk at a1
            rw [← h.sc] at a1
            have hi := ck_i it c _ _ q34 X h
            refine ss_setC (ps_setDc h.calm h.nd (h.slot q2.1) a1 (sw_trueD hk a1 a2 a3) hi (own := ownOf c own) (by rw [h.N, h.sc]; exact blkOk_by q31) (fun s H C cl fp => ck_t (h.blk _ s H C cl fp) tg _ q35) (fun s H C cl fp => ck_f ifs (c.blk _) _ q36 _ (h.blk _ s H C cl fp)) (fun s H C cl fp => (ck_e ke (c.blk _) _ q37 _ (h.blk _ s H C cl fp)).1) (fun s H C cl fp => (ck_e ve (c.blk _) _ q38 _ (h.blk _ s H C cl fp)).1) (set_folded q32)) fun σ H Q w => dc_read (own_mem q33) ?_
            rw [ownOf_snd]
            unfold wp at w
            exact w
          · cases q2
        · cases q3
      | _ => cases d
mutual
theorem ck_s {X : Cx} {c : Ck} {tb : Tb} {g : G} (h : Good X c tb g) (hk : X.env.scope.kind = .function) : ∀ (s : S) (x : Stmt), ckS tb c s x = true → SS X x (wpS g s)
  | .set t e, x, q => by
    unfold ckS at q
    split at q
    · simp only [Bool.and_eq_true] at q
      exact ck_set h hk q.1.1.1 q.1.1.2 q.1.2 q.2
    · cases q
  | .unl ts e, x, q => by
    unfold ckS at q
    split at q
    · simp only [Bool.and_eq_true] at q
      obtain ⟨⟨⟨q1, q2⟩, q3⟩, a, b⟩ := q
      unfold wpS
      exact ss_unl (ck_e e c _ q3 X h).1 (ck_u h ts _ q2) (swF_ok h hk b) (noSwap_ok a) (by rw [assign_cons q1] <;> rfl)
    · cases q
  | .setIx o i e, x, q => by
    unfold ckS at q
    split at q
    · simp only [Bool.and_eq_true] at q
      unfold wpS
      exact ss_setIx (by have := h.gd.units; omega) (ck_e e c _ q.1.1.2 X h).1 (ck_e o c _ q.1.2 X h).1 (ck_e i c _ q.2 X h).1 q.1.1.1
    · cases q
  | .setFld o f e, x, q => by
    unfold ckS at q
    split at q
    · simp only [Bool.and_eq_true] at q
      obtain ⟨⟨q1, q2⟩, q3⟩ := q
      obtain rfl := eq_of_beq q1
      unfold wpS
      exact ss_setFld (fun C e => h.gd.noat C _ e) (ck_e e c _ q2 X h).1 (ck_e o c _ q3 X h).1
    · cases q
  | .aug i o e, x, q => by
    unfold ckS at q
    split at q
    · simp only [Bool.and_eq_true] at q
      obtain ⟨⟨⟨q1, q2⟩, q3⟩, q4⟩ := q
      obtain ⟨l1, l2⟩ := h.loc q2
      unfold wpS
      exact ss_aug h.nd (h.slot q1) l1 l2 q3 (ck_e e c _ q4 X h).1
    · cases q
  | .augFld o f p e, x, q => by
    unfold ckS at q
    split at q
    · simp only [Bool.and_eq_true] at q
      obtain ⟨⟨⟨q1, q2⟩, q3⟩, q4⟩ := q
      obtain rfl := eq_of_beq q1
      unfold wpS
      exact ss_augFld (fun C e => h.gd.noat C _ e) (ck_e o c _ q3 X h).1 q2 (ck_e e c _ q4 X h).1
    · cases q
  | .augIx _ _ _ _, x, q => by unfold ckS at q; cases q
  | .ex e, x, q => by
    unfold ckS at q
    split at q
    · simp only [Bool.and_eq_true] at q
      unfold wpS
      exact ss_ex (ck_e e c _ q.2 X h).1 (sw_no q.1)
    · cases q
  | .ret e, x, q => by
    unfold ckS at q
    split at q
    · unfold wpS
      exact ss_ret (ck_e e c _ q X h).1
    · cases q
  | .retN, x, q => by
    unfold ckS at q
    split at q
    · unfold wpS; exact ss_retN
    · cases q
  | .ife k a b, x, q => by
    unfold ckS at q
    split at q
    · simp only [Bool.and_eq_true] at q
      unfold wpS
      exact ss_if (ck_e k c _ q.1.1 X h).2 (ck_ss h hk a _ q.1.2) (ck_ss h hk b _ q.2)
    · cases q
  | .fr t it b, x, q => by
    unfold ckS at q
    split at q
    · simp only [Bool.and_eq_true] at q
      unfold wpS
      exact ss_for (by rw [h.xe]; exact PassesOwn.never) h.calm (ck_i it c _ _ q.1.1.2 X h) (ck_t h t _ q.1.2) (ck_ss h hk b _ q.2) (set_folded q.1.1.1)
    · cases q
  | .wh k b, x, q => by
    unfold ckS at q
    split at q
    · simp only [Bool.and_eq_true] at q
      unfold wpS
      exact ss_while (by rw [h.xe]; exact PassesOwn.never) (ck_e k c _ q.1 X h).2 (ck_ss h hk b _ q.2)
    · cases q
  | .brk, x, q => by
    unfold ckS at q
    split at q
    · unfold wpS; exact ss_brk
    · cases q
  | .cnt, x, q => by
    unfold ckS at q
    split at q
    · unfold wpS; exact ss_cnt
    · cases q
  | .pas, x, q => by
    unfold ckS at q
    split at q
    · unfold wpS; exact ss_pas
    · cases q
  | .nev, x, q => by unfold wpS; exact ss_never
theorem ck_ss {X : Cx} {c : Ck} {tb : Tb} {g : G} (h : Good X c tb g) (hk : X.env.scope.kind = .function) : ∀ (s : Ss) (x : List Stmt), ckSs tb c s x = true → SSs X x (wpSs g s)
  | .nil, x, q => by
    unfold ckSs at q
    split at q
    · unfold wpSs; exact sss_nil
    · cases q
  | .cons s r, x, q => by
    unfold ckSs at q
    split at q
    · rw [Bool.and_eq_true] at q
      unfold wpSs
      exact sss_cons (ck_s h hk s _ q.1) (ck_ss h hk r _ q.2)
    · cases q
end
end Z

/-! ### Z15 -/
/-! Z15: defs, their levels, the module's end. -/
namespace Z
open PySem PySem.Spec PyProof.Rows L2
structure Df where
  np : Nat
  N : List Str
  body : Ss
abbrev Ky := Str × Option Str
structure Mo where
  tb : Tb
  lits : List (Str × D)
  clss : List Str
  noats : List (Str × Str)
  mths : List (Str × Str)
  defs : List (He.DefD × Df)
def Mo.df (m : Mo) (k : Ky) : Option Df := (m.defs.find? fun p => p.1.at_ == k).map (·.2)
def gAt (m : Mo) (W Wi : Ky → WC) : G where
  glob := fun x => m.lits.lookup x
  call := fun f => W (f, none)
  meth := fun C x => W (C, some x)
  init := fun C => Wi (C, some "__init__")
  noat := fun C f => m.noats.any fun p => p == (C, f)
  ism := fun C f => m.mths.any fun p => p == (C, f)
def enR (Q : PK D) : En where
  nx := fun _ S1 => ∃ S2, Sub S2 S1 ∧ Q .non S2
  rt := fun d S1 => ∃ S2, Sub S2 S1 ∧ Q d S2
def env0 (n : Nat) (ds : List D) : Ev := ds.map some ++ List.replicate (n - ds.length) none
def runW (d : Df) (g : G) : WC := fun ds S Q => ds.length = d.np ∧ wpSs g d.body (enR Q) (env0 d.N.length ds) S
def lev (m : Mo) : Nat → (Ky → WC) × (Ky → WC)
  | 0 => (fun _ _ _ _ => False, fun _ _ _ _ => False)
  | k + 1 => (fun key => match m.df key with
    | some d => runW d (gAt m (lev m k).1 (lev m k).2)
    | none => fun _ _ _ => False, (lev m k).1)
/-! ### what is looked at -/
def fnScB (d : He.DefD) (f : Df) : Bool := (match d.scope.kind with
    | .function => true
    | _ => false) && !d.scope.isCoroutine && !d.scope.isGenerator && decide f.N.Nodup && decide (f.np ≤ f.N.length) && ((f.N.take f.np).all fun x => match d.scope.names.lookup x with
    | some .local => true
    | some .cell => true
    | _ => false) && d.scope.names.all fun y => match y.2 with
    | .free => false
    | _ => true
def dfB (m : Mo) (p : He.DefD × Df) : Bool := fnScB p.1 p.2 && p.1.dfl.isEmpty && p.1.kwd.isEmpty && ckSs m.tb ⟨p.2.N, p.1.scope, fun _ => true⟩ p.2.body p.1.body
def hasB (m : Mo) (k : Ky) : Bool := m.defs.any fun p => p.1.at_ == k
def moB (m : Mo) : Bool := (m.tb.call.all fun x => hasB m (x, none)) && (m.tb.make.all fun x => hasB m (x, some "__init__")) && (m.noats.all fun p => m.clss.any fun c => p.1 == c) && (m.mths.all fun p => (m.clss.any fun c => p.1 == c) && hasB m (p.1, some p.2)) &&
  (hasB m ("law", none)) && m.defs.all fun p => match m.df p.1.at_ with
    | some f => decide (f.np = p.2.np) && decide (f.N = p.2.N)
    | none => false
def BindP (p : He.DefD × Df) : Prop := ∀ (kV doc pm : Value) (an : Option Addr) (cdv ct : Value) (us : List Value), us.length = p.2.np → bindArgs (PySem.W.fnOf p.1.name p.1.qual p.1.params p.1.body p.1.scope .none kV doc pm an cdv ct) ⟨us, []⟩ = pure ((p.2.N.take p.2.np).zip us)
inductive AllP (q : He.DefD × Df → Prop) : List (He.DefD × Df) → Prop
  | nil : AllP q []
  | cons {p r} : q p → AllP q r → AllP q (p :: r)
theorem AllP.mem {q : He.DefD × Df → Prop} {l : List (He.DefD × Df)} (h : AllP q l) : ∀ p ∈ l, q p := by
  induction h with
  | nil => intro p hp; cases hp
  | cons a _ ih =>
    intro p hp
    rcases List.mem_cons.mp hp with rfl | hp
    · exact a
    · exact ih p hp
/-! ### constants of the module -/
mutual
def litB (K : Frag) : D → Value → Bool
  | .non, u => match u with
    | .none => true
    | _ => false
  | .bl b, u => match u with
    | .bool a => a == b
    | _ => false
  | .int i, u => match u with
    | .int j _ => decide (j = i)
    | _ => false
  | .str x, u => match u with
    | .str y _ => y == x
    | _ => false
  | .tup ds, u => match u with
    | .ref a => (match K.lookup a with
      | some ⟨.type t, _, .seq its _, _⟩ => (t == "tuple") && decide (its.size ≤ sizeLine) && litsB K ds its.toList
      | _ => false)
    | _ => false
  | _, _ => false
def litsB (K : Frag) : List D → List Value → Bool
  | [], us => match us with
    | [] => true
    | _ => false
  | d :: ds, us => match us with
    | u :: ur => litB K d u && litsB K ds ur
    | _ => false
end
mutual
theorem lit_ok {K : Frag} : ∀ (d : D) (u : Value), litB K d u = true → ∃ v : V, RelV v u ∧ ∀ H, Rep K H d v
  | .non, u, q => by
    unfold litB at q
    split at q
    · exact ⟨.non, rfl, fun _ => rep_non.mpr rfl⟩
    · cases q
  | .bl b, u, q => by
    unfold litB at q
    split at q
    · obtain rfl := eq_of_beq q
      exact ⟨.bl _, rfl, fun _ => rep_bl.mpr rfl⟩
    · cases q
  | .int i, u, q => by
    unfold litB at q
    split at q
    · obtain rfl := of_decide_eq_true q
      exact ⟨.int _, ⟨_, rfl⟩, fun _ => rep_int.mpr rfl⟩
    · cases q
  | .str x, u, q => by
    unfold litB at q
    split at q
    · obtain rfl := eq_of_beq q
      exact ⟨.str _, ⟨_, rfl⟩, fun _ => rep_str.mpr rfl⟩
    · cases q
  | .tup ds, u, q => by
    unfold litB at q
    split at q
    · rename_i a
      split at q
      · rename_i t od its n sl hl
        simp only [Bool.and_eq_true] at q
        obtain ⟨⟨q1, q2⟩, q3⟩ := q
        obtain rfl := eq_of_beq q1
        obtain ⟨vs, hv, hr⟩ := lits_ok ds _ q3
        exact ⟨.ref a, rfl, fun H => rep_tup.mpr ⟨a, vs, rfl, .inr ⟨_, its, n, hl, rfl, rfl, of_decide_eq_true q2, hv⟩, hr H⟩⟩
      · cases q
    · cases q
  | .ref _, u, q => by unfold litB at q; cases q
  | .ty _, u, q => by unfold litB at q; cases q
  | .scr _, u, q => by unfold litB at q; cases q
theorem lits_ok {K : Frag} : ∀ (ds : List D) (us : List Value), litsB K ds us = true → ∃ vs : List V, Vals vs us ∧ ∀ H, Reps K H ds vs
  | [], us, q => by
    unfold litsB at q
    split at q
    · exact ⟨[], .nil, fun _ => reps_nil.mpr rfl⟩
    · cases q
  | d :: ds, us, q => by
    unfold litsB at q
    split at q
    · rw [Bool.and_eq_true] at q
      obtain ⟨v, h1, h2⟩ := lit_ok d _ q.1
      obtain ⟨vs, h3, h4⟩ := lits_ok ds _ q.2
      exact ⟨v :: vs, .cons h1 h3, fun H => reps_cons.mpr ⟨v, vs, rfl, h2 H, h4 H⟩⟩
    · cases q
end
def exB (m : Mo) (K : Frag) : Bool := m.lits.all fun p => match PySem.W.nsIn K mainGlobals p.1 with
  | some (some u) => litB K p.2 u
  | _ => false
def Mo.fa (m : Mo) : List He.Fa := m.tb.free.map .free ++ (m.tb.call.map .glo ++ (m.tb.make.map .glo ++ (m.tb.make.map .mkr ++ (m.clss.map .cls ++ (m.noats.map (fun p => .noat p.1 p.2) ++ (m.mths.map (fun p => .meth p.1 p.2) ++ [.glo "law"]))))))
def Mo.fn (m : Mo) : List He.DefD := m.defs.map (·.1)
theorem mem_any {α : Type} [BEq α] [LawfulBEq α] {l : List α} {x : α} (h : (l.any fun c => x == c) = true) : x ∈ l := by
  obtain ⟨y, hy, e⟩ := List.any_eq_true.mp h
  rw [eq_of_beq e]; exact hy
theorem mem_any' {α : Type} [BEq α] [LawfulBEq α] {l : List α} {x : α} (h : (l.any fun c => c == x) = true) : x ∈ l := by
  obtain ⟨y, hy, e⟩ := List.any_eq_true.mp h
  rw [← eq_of_beq e]; exact hy
theorem lookup_mem2 {α : Type} {l : List (Str × α)} {x : Str} {d : α} : l.lookup x = some d → (x, d) ∈ l := by
  induction l with
  | nil => intro h; cases h
  | cons p r ih =>
    obtain ⟨y, e⟩ := p
    intro h
    rw [List.lookup_cons] at h
    split at h
    · rename_i hb
      cases h
      rw [eq_of_beq hb]; exact List.mem_cons_self
    · exact List.mem_cons_of_mem _ (ih h)
/-! ### every def keeps its promise -/
theorem fnSc_ok {d : He.DefD} {f : Df} (h : fnScB d f = true) : FnScope f.N (f.N.take f.np) d.scope ∧ f.np ≤ f.N.length := by
  unfold fnScB at h
  simp only [Bool.and_eq_true, Bool.not_eq_true', decide_eq_true_eq, List.all_eq_true] at h
  obtain ⟨⟨⟨⟨⟨⟨h1, h2⟩, h3⟩, h4⟩, h5⟩, h6⟩, h7⟩ := h
  refine ⟨⟨?_, h2, h3, h4, ?_, fun x hx => ?_, fun y hy e => ?_⟩, h5⟩
  · split at h1
    · assumption
    · cases h1
  · rw [List.length_take, Nat.min_eq_left h5]
  · have := h6 x hx
    split at this
    · exact .inl (by assumption)
    · exact .inr (by assumption)
    · cases this
  · have := h7 y hy
    rw [e] at this
    cases this
theorem fnOk_false {P : Program} {w : World} {K : Frag} {mg : Str → Option Value} {base : Heap} {k : Nat} {f : Addr} {fd : FuncData} {ps : List Str} {W : WC} (h : ∀ ds S Q, ¬ W ds S Q) : FnOk P w K mg base CX0 k f fd ps (spOf K W) :=
  ⟨fun vs H Q E ⟨ds, S, Q', r, hs, w, f⟩ => (h _ _ _ w).elim, fun A outer s H args us vs Q E hr he hb hv ⟨ds, S, Q', r, hs, w, f⟩ => (h _ _ _ w).elim⟩
theorem start_rep {K : Frag} {H : Hp} {n : Nat} {N : List Str} (hn : n = N.length) {ds : List D} {vs : List V} (r : Reps K H ds vs) : EnvR K H (env0 n ds) (L2.start N vs) := by
  unfold env0 L2.start
  refine ⟨by simp [r.length, hn], fun i d h => ?_⟩
  by_cases hi : i < ds.length
  · rw [List.getElem?_append_left (by simpa using hi), List.getElem?_map] at h
    cases e : ds[i]? with
    | none => rw [e] at h; cases h
    | some d' =>
      rw [e] at h
      cases h
      obtain ⟨v, hv, rv⟩ := r.get e
      refine ⟨v, ?_, rv⟩
      rw [List.getElem?_append_left (by simpa [r.length] using hi), List.getElem?_map, hv] <;> rfl
  · rw [List.getElem?_append_right (by simpa using hi)] at h
    rw [List.getElem?_replicate] at h
    split at h <;> cases h
section
variable {P : Program} {w : World} {K : Frag} {mg : Str → Option Value} {base : Heap}
theorem def_ok {m : Mo} {g : G} {p : He.DefD × Df} {k : Nat} {fa : Addr} {fd : FuncData} (F : FunD K p.1.name p.1.qual p.1.params p.1.body p.1.scope (p.1.dvs K) (p.1.kws K) fa fd) (hc : dfB m p = true)
    (hg : ∀ A, Room k A → Gd P w K mg base A m.tb g) : FnOk P w K mg base CX0 (k + 1) fa fd (p.2.N.take p.2.np) (spOf K (runW p.2 g)) := by
  unfold dfB at hc
  simp only [Bool.and_eq_true] at hc
  obtain ⟨⟨⟨h1, h2⟩, h3⟩, h4⟩ := hc
  obtain ⟨S, hl⟩ := fnSc_ok h1
  have e1 : p.1.dvs K = [] := by unfold He.DefD.dvs; rw [List.isEmpty_iff.mp h2] <;> rfl
  have e2 : p.1.kws K = [] := by unfold He.DefD.kws; rw [List.isEmpty_iff.mp h3] <;> rfl
  rw [e1, e2] at F
  refine F.ok S (fun vs H Q E h => ?_) (fun cdv A outer s H vs Q E hr h => ?_)
  · obtain ⟨ds, S, Q', r, hs, w, f⟩ := h
    rw [r.length, w.1, List.length_take, Nat.min_eq_left hl]
  · obtain ⟨ds, St, Q', r, hs, w, f⟩ := h
    refine ⟨_, PSs.nox (ck_ss (c := ⟨p.2.N, p.1.scope, fun _ => true⟩) (tb := m.tb) (g := g) ⟨rfl, rfl, S.nd, rfl, rfl, rfl, hg _ hr⟩ S.kind p.2.body p.1.body h4), ?_⟩
    refine ⟨env0 p.2.N.length ds, St, enR Q', start_rep rfl r, hs, w.2, ?_, ?_, ?_, ?_⟩
    · intro ρ1 σ1 H1 S1 e1 hs1 he1 q
      obtain ⟨S2, sb, q⟩ := q
      exact f .non .non H1 S2 (e1.sub sb) (hs1.sub sb) (rep_non.mpr rfl) q
    · intro d v H1 S1 e1 hs1 r1 q
      obtain ⟨S2, sb, q⟩ := q
      exact f d v H1 S2 (e1.sub sb) (hs1.sub sb) r1 q
    · intro ρ1 σ1 H1 S1 e1 hs1 he1 q
      exact q.elim
    · intro ρ1 σ1 H1 S1 e1 hs1 he1 q
      exact q.elim
theorem binds_ok {p : He.DefD × Df} {fa : Addr} {fd : FuncData} {m : Mo} (F : FunD K p.1.name p.1.qual p.1.params p.1.body p.1.scope (p.1.dvs K) (p.1.kws K) fa fd) (hc : dfB m p = true) (hb : BindP p) : Binds K fd (p.2.N.take p.2.np) [] := by
  unfold dfB at hc
  simp only [Bool.and_eq_true] at hc
  obtain ⟨⟨⟨h1, h2⟩, h3⟩, h4⟩ := hc
  obtain ⟨S, hl⟩ := fnSc_ok h1
  have e1 : p.1.dvs K = [] := by unfold He.DefD.dvs; rw [List.isEmpty_iff.mp h2] <;> rfl
  have e2 : p.1.kws K = [] := by unfold He.DefD.kws; rw [List.isEmpty_iff.mp h3] <;> rfl
  rw [e1, e2] at F
  exact F.bindsN fun kV doc pm an cdv ct us hu => hb kV doc pm an cdv ct us (by rw [hu, List.length_take, Nat.min_eq_left hl])
/-- what is known of the module -/
structure Kn (m : Mo) (K : Frag) (mg : Str → Option Value) : Prop where
  fact : ∀ f ∈ m.fa, f.ok K = true
  def_ : ∀ p ∈ m.defs, ∃ fd, FunD K p.1.name p.1.qual p.1.params p.1.body p.1.scope (p.1.dvs K) (p.1.kws K) (He.fAd K p.1.at_) fd
  glo : ∀ x, (He.Fa.glo x).ok K = true → mg x = some (.ref (He.ga K x))
  fre : ∀ x, (He.Fa.free x).ok K = true → mg x = none
  lit : ∀ x d, (x, d) ∈ m.lits → ∃ (v : V) (u : Value), mg x = some u ∧ RelV v u ∧ ∀ H, Rep K H d v
theorem has_ok {m : Mo} {k : Ky} (h : hasB m k = true) : ∃ p ∈ m.defs, p.1.at_ = k := by
  obtain ⟨p, hp, e⟩ := List.any_eq_true.mp h
  exact ⟨p, hp, eq_of_beq e⟩
theorem df_ok {m : Mo} (hm : moB m = true) {p : He.DefD × Df} (hp : p ∈ m.defs) : ∃ q ∈ m.defs, m.df p.1.at_ = some q.2 ∧ q.1.at_ = p.1.at_ ∧ q.2.np = p.2.np ∧ q.2.N = p.2.N := by
  unfold moB at hm
  simp only [Bool.and_eq_true] at hm
  have := List.all_eq_true.mp hm.2 p hp
  unfold Mo.df at this ⊢
  cases e : m.defs.find? (fun q => q.1.at_ == p.1.at_) with
  | none => rw [e] at this; cases this
  | some q =>
    rw [e] at this
    simp only [Option.map_some, Bool.and_eq_true, decide_eq_true_eq] at this
    exact ⟨q, List.mem_of_find?_eq_some e, rfl, eq_of_beq (show (q.1.at_ == p.1.at_) = true from List.find?_some (p := fun q : He.DefD × Df => q.1.at_ == p.1.at_) e), this.1, this.2⟩
theorem gd_ok {m : Mo} (hm : moB m = true) (kn : Kn m K mg) {W Wi : Ky → WC} {k : Nat} (hd : ∀ p ∈ m.defs, dfB m p = true) (hb : ∀ p ∈ m.defs, BindP p)
    (h1 : ∀ p ∈ m.defs, ∀ fd, FunD K p.1.name p.1.qual p.1.params p.1.body p.1.scope (p.1.dvs K) (p.1.kws K) (He.fAd K p.1.at_) fd → FnOk P w K mg base CX0 (k + 1) (He.fAd K p.1.at_) fd (p.2.N.take p.2.np) (spOf K (W p.1.at_)))
    (h2 : ∀ p ∈ m.defs, ∀ fd, FunD K p.1.name p.1.qual p.1.params p.1.body p.1.scope (p.1.dvs K) (p.1.kws K) (He.fAd K p.1.at_) fd → FnOk P w K mg base CX0 k (He.fAd K p.1.at_) fd (p.2.N.take p.2.np) (spOf K (Wi p.1.at_))) (A : Around) (r : Room (k + 1) A) :
    Gd P w K mg base A m.tb (gAt m W Wi) := by
  unfold moB at hm
  simp only [Bool.and_eq_true] at hm
  obtain ⟨⟨⟨⟨⟨m1, m2⟩, m3⟩, m4⟩, m5⟩, m6⟩ := hm
  refine ⟨by have := r.un; omega, fun x hx => kn.fre x (kn.fact _ (by simp [Mo.fa, hx])), fun x hx => ?_, fun C hC => ?_, fun C f h => ?_, fun C f h => ?_, fun x d h => kn.lit x d (lookup_mem2 h)⟩
  · obtain ⟨p, hp, e⟩ := has_ok (List.all_eq_true.mp m1 x hx)
    obtain ⟨fd, F⟩ := kn.def_ p hp
    have q := h1 p hp fd F
    have kp := F.kp
    rw [e] at q kp
    exact ⟨k + 1, _, fd, _, q, r, kn.glo x (kn.fact _ (by simp [Mo.fa, hx])), kp, binds_ok F (hd p hp) (hb p hp)⟩
  · obtain ⟨p, hp, e⟩ := has_ok (List.all_eq_true.mp m2 C hC)
    obtain ⟨fd, F⟩ := kn.def_ p hp
    have q := h2 p hp fd F
    rw [e] at q
    exact ⟨k, _, fd, _, He.mkr_ok (kn.fact (.mkr C) (by simp [Mo.fa, hC])), q, r, kn.glo C (kn.fact _ (by simp [Mo.fa, hC])), binds_ok F (hd p hp) (hb p hp)⟩
  · have hn := mem_any' (show (m.noats.any fun p => p == (C, f)) = true from h)
    have hc := mem_any (List.all_eq_true.mp m3 _ hn)
    refine ⟨He.cls_ok (kn.fact (.cls C) (by simp [Mo.fa]; exact hc)), He.noat_ok (kn.fact (.noat C f) ?_)⟩
    simp only [Mo.fa, List.mem_append, List.mem_map]
    exact .inr (.inr (.inr (.inr (.inr (.inl ⟨_, hn, rfl⟩)))))
  · have hn := mem_any' (show (m.mths.any fun p => p == (C, f)) = true from h)
    have z := List.all_eq_true.mp m4 _ hn
    rw [Bool.and_eq_true] at z
    have hc := mem_any z.1
    obtain ⟨p, hp, e⟩ := has_ok z.2
    obtain ⟨fd, F⟩ := kn.def_ p hp
    have q := h1 p hp fd F
    rw [e] at q
    refine ⟨k + 1, _, fd, _, He.cls_ok (kn.fact (.cls C) (by simp [Mo.fa]; exact hc)), He.meth_ok (kn.fact (.meth C f) ?_), q, r, binds_ok F (hd p hp) (hb p hp)⟩
    simp only [Mo.fa, List.mem_append, List.mem_map]
    exact .inr (.inr (.inr (.inr (.inr (.inr (.inl ⟨_, hn, rfl⟩))))))
theorem lev_ok {m : Mo} (hm : moB m = true) (kn : Kn m K mg) (hd : ∀ p ∈ m.defs, dfB m p = true) (hb : ∀ p ∈ m.defs, BindP p) : ∀ k : Nat,
    (∀ p ∈ m.defs, ∀ fd, FunD K p.1.name p.1.qual p.1.params p.1.body p.1.scope (p.1.dvs K) (p.1.kws K) (He.fAd K p.1.at_) fd → FnOk P w K mg base CX0 (k + 1) (He.fAd K p.1.at_) fd (p.2.N.take p.2.np) (spOf K ((lev m k).1 p.1.at_))) ∧
    (∀ p ∈ m.defs, ∀ fd, FunD K p.1.name p.1.qual p.1.params p.1.body p.1.scope (p.1.dvs K) (p.1.kws K) (He.fAd K p.1.at_) fd → FnOk P w K mg base CX0 k (He.fAd K p.1.at_) fd (p.2.N.take p.2.np) (spOf K ((lev m k).2 p.1.at_)))
  | 0 => ⟨fun p hp fd F => fnOk_false fun _ _ _ => id, fun p hp fd F => fnOk_false fun _ _ _ => id⟩
  | k + 1 => by
    obtain ⟨i1, i2⟩ := lev_ok hm kn hd hb k
    refine ⟨fun p hp fd F => ?_, fun p hp fd F => i1 p hp fd F⟩
    obtain ⟨q, hq, e, ea, e1, e2⟩ := df_ok hm hp
    have key : (lev m (k + 1)).1 p.1.at_ = runW q.2 (gAt m (lev m k).1 (lev m k).2) := by
      show (match m.df p.1.at_ with
        | some d => runW d (gAt m (lev m k).1 (lev m k).2)
        | none => fun _ _ _ => False) = _
      rw [e]
    rw [key]
    obtain ⟨fd2, F2⟩ := kn.def_ q hq
    have z := def_ok (P := P) (w := w) (mg := mg) (base := base) (m := m) (g := gAt m (lev m k).1 (lev m k).2) (k := k + 1) F2 (hd q hq) fun A r => gd_ok hm kn hd hb i1 i2 A r
    rw [ea] at z F2
    have : fd2 = fd := by
      obtain ⟨_, _, _, _, _, _, _, _, _, _, l1, l2, _⟩ := F2.ex
      obtain ⟨_, _, _, _, _, _, _, _, _, _, r1, r2, _⟩ := F.ex
      rw [l2] at r2
      have := congrArg Obj.data (Option.some.inj r2)
      simpa using this
    rw [← this, ← e1, ← e2]
    exact z
end
section
variable {P : Program} {w : World} {K : Frag} {mg : Str → Option Value}
/-- what the end asks -/
theorem law_facts {m : Mo} {h : Heap} {f : Addr} {k : Nat} {ts : List He.Tab} {tf : List He.Defn} (X : K.In h) (G : h.Ns mainGlobals mg) (hfa : mg ("law" : Str) = some (.ref f)) (c : He.SaysX m.fa m.fn ts tf (exB m) w h K)
    (hm : moB m = true) (hd : ∀ p ∈ m.defs, dfB m p = true) (hb : ∀ p ∈ m.defs, BindP p) (hl : ∃ q, m.df ("law", none) = some q ∧ q.np = 1 ∧ q.N.take 1 = ([("script" : Str)] : List Str)) :
    ∃ fd : FuncData, (∀ (s : Shared) (v : Value), BindsTo s fd ⟨[v], []⟩ [("script", v)]) ∧ ∀ base : Heap, K.In base → base.Ns mainGlobals mg → FnOk P w K mg base CX0 (k + 1) f fd ["script"] (spOf K ((lev m k).1 ("law", none))) := by
  have kn : Kn m K mg := by
    refine ⟨fun f hf => c.t.d.facts hf, fun p hp => c.t.d.defs (List.mem_map.mpr ⟨p, hp, rfl⟩), fun x q => He.glo_ok X G q, fun x q => He.free_ok X G q, fun x d hx => ?_⟩
    have := List.all_eq_true.mp c.more (x, d) hx
    dsimp only at this
    split at this
    · rename_i u hu
      obtain ⟨v, h1, h2⟩ := lit_ok d u this
      exact ⟨v, u, PySem.W.mg_of X G hu, h1, h2⟩
    · cases this
  have hh : hasB m ("law", none) = true := by
    unfold moB at hm
    simp only [Bool.and_eq_true] at hm
    exact hm.1.2
  obtain ⟨p, hp, e⟩ := has_ok hh
  obtain ⟨fd, F⟩ := kn.def_ p hp
  have eg := hfa.symm.trans (He.glo_ok X G (kn.fact (.glo "law") (by simp [Mo.fa])))
  have ef : f = He.fAd K p.1.at_ := by rw [e]; cases eg; rfl
  obtain ⟨q, hq, e2, ea, e3, e4⟩ := df_ok hm hp
  obtain ⟨q', hq', l1, l2⟩ := hl
  rw [e] at e2
  rw [e2] at hq'
  cases hq'
  have bb := binds_ok F (hd p hp) (hb p hp)
  have hps : p.2.N.take p.2.np = ([("script" : Str)] : List Str) := by rw [← e3, ← e4, l1, l2]
  refine ⟨fd, fun s v => ?_, fun base hk hn => ?_⟩
  · have hbp := hb p hp
    have hdp := hd p hp
    unfold dfB at hdp
    simp only [Bool.and_eq_true] at hdp
    obtain ⟨⟨⟨h1, h2⟩, h3⟩, h4⟩ := hdp
    have d1 : p.1.dvs K = [] := by unfold He.DefD.dvs; rw [List.isEmpty_iff.mp h2] <;> rfl
    have d2 : p.1.kws K = [] := by unfold He.DefD.kws; rw [List.isEmpty_iff.mp h3] <;> rfl
    rw [d1, d2] at F
    have := FunD.bindsA (ps := ["script"]) F (fun kV doc pm an cdv ct us hu => by
      have z := hbp kV doc pm an cdv ct us (by rw [← e3, l1]; exact hu)
      rw [hps] at z
      exact z) s [v] rfl
    exact this
  · have z := (lev_ok (P := P) (w := w) (base := base) hm kn hd hb k).1 p hp fd F
    rw [hps, e] at z
    rw [ef, e]
    exact z
theorem law_sp {W : WC} {H : Hp} {a : Addr} {ns : List Int} (hO : Only H) (hS : SqL K H a (ns.map V.int)) (hw : W [.scr ns] (fun _ => none) fun d _ => d = .bl true) : spOf K W [.ref a] H (fun v _ => v = .bl true) fun _ _ _ => False := by
  refine ⟨[.scr ns], fun _ => none, _, reps_cons.mpr ⟨_, _, rfl, rep_scr.mpr ⟨a, rfl, ?_⟩, reps_nil.mpr rfl⟩, (fun a o e => by cases e), hw, fun d v H1 S1 e1 s1 r q => ?_⟩
  · rcases hS with (h | ⟨o, h⟩) | h
    · rcases hO a with n | ⟨o, xs, n⟩
      · rw [h] at n; cases n
      · rw [h] at n; cases n
    · exact .inl ⟨o, h⟩
    · exact .inr h
  · subst q
    exact rep_bl.mp r
end
end Z

/-! ### C0 -/
/-! C0: small rules for stepping. -/
namespace Z
open PySem PySem.Spec PyProof.Rows L2
theorem wpSs_cons {g : G} {s : S} {r : Ss} {k : En} {ρ : Ev} {St : Sto} : wpSs g (.cons s r) k ρ St = wpS g s { k with nx := fun ρ1 S1 => wpSs g r k ρ1 S1 } ρ St := by
  rw [wpSs]
theorem wpSs_nil {g : G} {k : En} {ρ : Ev} {St : Sto} : wpSs g .nil k ρ St = k.nx ρ St := by rw [wpSs]
def Ss.drop : Nat → Ss → Ss
  | 0, s => s
  | n + 1, .cons _ r => r.drop n
  | _ + 1, .nil => .nil
theorem ret_ok {Q : PK D} {d : D} {S : Sto} (h : Q d S) : (enR Q).rt d S := ⟨S, .refl, h⟩
theorem ret_nx {Q : PK D} {ρ : Ev} {S : Sto} (h : Q .non S) : (enR Q).nx ρ S := ⟨S, .refl, h⟩
theorem ixN_in {n : Nat} {i : Int} (h0 : 0 ≤ i) (h1 : i < n) : ixN n i = some i.toNat := by unfold ixN; rw [if_pos h0, if_pos h1]
theorem atI_in {α : Type} {xs : List α} {i : Int} (h0 : 0 ≤ i) (h1 : i < xs.length) : atI xs i = some (xs[i.toNat]'(by omega)) := by
  unfold atI
  rw [ixN_in h0 h1]
  simp [List.getElem?_eq_getElem (show i.toNat < xs.length by omega)]
section
variable {α : Type} {x0 x1 x2 x3 x4 x5 x6 : α} {r : List α}
theorem atI_0 : atI (x0 :: r) 0 = some x0 := by rw [atI_in (by decide) (by simp)]; rfl
theorem atI_1 : atI (x0 :: x1 :: r) 1 = some x1 := by rw [atI_in (by decide) (by simp; omega)]; rfl
theorem atI_2 : atI (x0 :: x1 :: x2 :: r) 2 = some x2 := by rw [atI_in (by decide) (by simp; omega)]; rfl
theorem atI_3 : atI (x0 :: x1 :: x2 :: x3 :: r) 3 = some x3 := by rw [atI_in (by decide) (by simp; omega)]; rfl
theorem atI_4 : atI (x0 :: x1 :: x2 :: x3 :: x4 :: r) 4 = some x4 := by rw [atI_in (by decide) (by simp; omega)]; rfl
theorem atI_5 : atI (x0 :: x1 :: x2 :: x3 :: x4 :: x5 :: r) 5 = some x5 := by rw [atI_in (by decide) (by simp; omega)]; rfl
theorem ixN_0 : ixN (x0 :: r).length 0 = some 0 := ixN_in (by decide) (by simp)
theorem ixN_1 : ixN (x0 :: x1 :: r).length 1 = some 1 := ixN_in (by decide) (by simp; omega)
theorem ixN_2 : ixN (x0 :: x1 :: x2 :: r).length 2 = some 2 := ixN_in (by decide) (by simp; omega)
theorem ixN_3 : ixN (x0 :: x1 :: x2 :: x3 :: r).length 3 = some 3 := ixN_in (by decide) (by simp; omega)
end
def Gr (A : List Addr) (S S1 : Sto) : Prop := ∀ p o, p ∉ A → S p = some o → S1 p = some o
theorem Gr.refl {A : List Addr} {S : Sto} : Gr A S S := fun _ _ _ h => h
theorem Gr.trans {A : List Addr} {S S1 S2 : Sto} (a : Gr A S S1) (b : Gr A S1 S2) : Gr A S S2 := fun p o h e => b p o h (a p o h e)
theorem Gr.mono {A B : List Addr} {S S1 : Sto} (a : Gr A S S1) (h : ∀ p ∈ A, p ∈ B) : Gr B S S1 := fun p o n e => a p o (fun q => n (h p q)) e
theorem Gr.up {A : List Addr} {S : Sto} {p : Addr} {o : O} (h : p ∈ A) : Gr A S (up S p o) := fun q u n e => by rw [up_ne (by rintro rfl; exact n h)]; exact e
theorem Gr.new {A : List Addr} {S : Sto} {p : Addr} {o : O} (h : S p = none) : Gr A S (Z.up S p o) := fun q u n e => by rw [up_ne (by rintro rfl; rw [h] at e; cases e)]; exact e
/-- a loop keeps what it is to keep -/
theorem loop_inv {chk : Sto → Prop} {turn : D → Ev → Sto → (Ev → Sto → Prop) → Prop} {nx : Ev → Sto → Prop} (I : List D → List D → Ev → Sto → Prop)
    (step : ∀ pre d r ρ S K, I pre (d :: r) ρ S → (∀ ρ1 S1, I (pre ++ [d]) r ρ1 S1 → K ρ1 S1) → chk S ∧ turn d ρ S K) (done : ∀ pre ρ S, I pre [] ρ S → chk S ∧ nx ρ S) :
    ∀ (ds pre : List D) (ρ : Ev) (S : Sto), I pre ds ρ S → loopW chk turn nx ds ρ S
  | [], pre, ρ, S, h => by unfold loopW; exact done pre ρ S h
  | d :: r, pre, ρ, S, h => by
    unfold loopW
    exact step pre d r ρ S _ h fun ρ1 S1 h1 => loop_inv I step done r (pre ++ [d]) ρ1 S1 h1
end Z

/-! ### C1 -/
/-! C1: loops, forms, in plain Lean. -/
namespace Z
open PySem PySem.Spec PyProof.Rows L2
/-! ### loops -/
theorem pre_loop' {α : Type} {chk : Sto → Prop} {turn : D → Ev → Sto → (Ev → Sto → Prop) → Prop} {nx : Ev → Sto → Prop} (enc : α → D) (R : List α → Ev → Sto → Prop) (all : List α) (done : ∀ ρ S, R all ρ S → chk S ∧ nx ρ S) : ∀ (xs pre : List α), pre ++ xs = all →
    (∀ pre x post, all = pre ++ x :: post → ∀ ρ S K, R pre ρ S → (∀ ρ1 S1, R (pre ++ [x]) ρ1 S1 → K ρ1 S1) → chk S ∧ turn (enc x) ρ S K) → ∀ ρ S, R pre ρ S → loopW chk turn nx (xs.map enc) ρ S
  | [], pre, e, step, ρ, S, h => by
    unfold loopW
    rw [List.append_nil] at e
    subst e
    exact done ρ S h
  | x :: xs, pre, e, step, ρ, S, h => by
    rw [List.map_cons]
    unfold loopW
    exact step pre x xs e.symm ρ S _ h fun ρ1 S1 h1 => pre_loop' enc R all done xs (pre ++ [x]) (by simpa using e) step ρ1 S1 h1
/-- a loop over items, by what is walked -/
theorem pre_loop {α : Type} {chk : Sto → Prop} {turn : D → Ev → Sto → (Ev → Sto → Prop) → Prop} {nx : Ev → Sto → Prop} (enc : α → D) (R : List α → Ev → Sto → Prop) (xs : List α) {ρ : Ev} {S : Sto}
    (step : ∀ pre x post, xs = pre ++ x :: post → ∀ ρ S K, R pre ρ S → (∀ ρ1 S1, R (pre ++ [x]) ρ1 S1 → K ρ1 S1) → chk S ∧ turn (enc x) ρ S K) (done : ∀ ρ S, R xs ρ S → chk S ∧ nx ρ S) (h : R [] ρ S) : loopW chk turn nx (xs.map enc) ρ S :=
  pre_loop' enc R xs done xs [] rfl step ρ S h
theorem pre_lc' {α : Type} {chk : Sto → Prop} {turn : D → Sto → (Option D → Sto → Prop) → Prop} {k : List D → Sto → Prop} (enc : α → D) (R : List α → List D → Sto → Prop) (all : List α) (hl : all.length ≤ sizeLine) (done : ∀ acc S, R all acc S → chk S ∧ k acc S) : ∀ (xs pre : List α), pre ++ xs = all →
    (∀ pre x post, all = pre ++ x :: post → ∀ acc S K, R pre acc S → (∀ v S1, R (pre ++ [x]) (acc ++ [v]) S1 → K (some v) S1) → (∀ S1, R (pre ++ [x]) acc S1 → K none S1) → chk S ∧ turn (enc x) S K) → ∀ acc S, R pre acc S → acc.length ≤ pre.length → lcW chk turn k (xs.map enc) acc S
  | [], pre, e, step, acc, S, h, _ => by
    unfold lcW
    rw [List.append_nil] at e
    subst e
    exact done acc S h
  | x :: xs, pre, e, step, acc, S, h, ha => by
    rw [List.map_cons]
    unfold lcW
    have hp : pre.length < all.length := by rw [← e]; simp
    exact step pre x xs e.symm acc S _ h (fun v S1 h1 => ⟨by omega, pre_lc' enc R all hl done xs (pre ++ [x]) (by simpa using e) step _ S1 h1 (by simp; omega)⟩) fun S1 h1 => pre_lc' enc R all hl done xs (pre ++ [x]) (by simpa using e) step _ S1 h1 (by simp; omega)
theorem pre_lc {α : Type} {chk : Sto → Prop} {turn : D → Sto → (Option D → Sto → Prop) → Prop} {k : List D → Sto → Prop} (enc : α → D) (R : List α → List D → Sto → Prop) (xs : List α) (hl : xs.length ≤ sizeLine) {S : Sto}
    (step : ∀ pre x post, xs = pre ++ x :: post → ∀ acc S K, R pre acc S → (∀ v S1, R (pre ++ [x]) (acc ++ [v]) S1 → K (some v) S1) → (∀ S1, R (pre ++ [x]) acc S1 → K none S1) → chk S ∧ turn (enc x) S K) (done : ∀ acc S, R xs acc S → chk S ∧ k acc S) (h : R [] [] S) : lcW chk turn k (xs.map enc) [] S :=
  pre_lc' enc R xs hl done xs [] rfl step [] S h (by simp)
theorem lc_fm {α : Type} {chk : Sto → Prop} {turn : D → Sto → (Option D → Sto → Prop) → Prop} {k : List D → Sto → Prop} (enc : α → D) (fm : α → Option D) {S : Sto} (hc : chk S) : ∀ (xs : List α) (acc : List D),
    (∀ x ∈ xs, ∀ K : Option D → Sto → Prop, K (fm x) S → turn (enc x) S K) → acc.length + xs.length ≤ sizeLine → k (acc ++ xs.filterMap fm) S → lcW chk turn k (xs.map enc) acc S
  | [], acc, step, hl, h => by unfold lcW; exact ⟨hc, by simpa using h⟩
  | x :: xs, acc, step, hl, h => by
    rw [List.map_cons]
    unfold lcW
    rw [List.length_cons] at hl
    refine ⟨hc, step x (by simp) _ ?_⟩
    cases e : fm x with
    | none =>
      rw [List.filterMap_cons, e] at h
      exact lc_fm enc fm hc xs acc (fun y hy => step y (by simp [hy])) (by omega) h
    | some v =>
      rw [List.filterMap_cons, e] at h
      exact ⟨by omega, lc_fm enc fm hc xs (acc ++ [v]) (fun y hy => step y (by simp [hy])) (by simp; omega) (by simpa using h)⟩
/-- what may be walked: a tuple, a list -/
def Wkd (P : D) (S : Sto) (ds : List D) : Prop := P = .tup ds ∨ ∃ q, P = .ref q ∧ S q = some (.lst ds)
theorem walk_of {P : D} {S S0 : Sto} {ds : List D} {R : List D → (Sto → Prop) → Prop} (h : Wkd P S ds) (g : Gr [] S S0) (r : ∀ chk : Sto → Prop, (∀ S1, Gr [] S S1 → chk S1) → R ds chk) : walkC P S0 R := by
  rcases h with rfl | ⟨q, rfl, h⟩
  · exact r _ fun _ _ => trivial
  · show (match S0 q with
      | some (.lst ds) => R ds fun S1 => S1 q = some (.lst ds)
      | _ => False)
    rw [g q _ (by simp) h]
    exact r _ fun S1 g => g q _ (by simp) h
theorem walk_ofA {P : D} {S : Sto} {ds : List D} {A : List Addr} {R : List D → (Sto → Prop) → Prop} (h : Wkd P S ds) (hA : ∀ q, P = .ref q → q ∉ A) (r : ∀ chk : Sto → Prop, (∀ S1, Gr A S S1 → chk S1) → R ds chk) : walkC P S R := by
  rcases h with rfl | ⟨q, rfl, h⟩
  · exact r _ fun _ _ => trivial
  · show (match S q with
      | some (.lst ds) => R ds fun S1 => S1 q = some (.lst ds)
      | _ => False)
    rw [h]
    exact r _ fun S1 g => g q _ (hA q rfl) h
theorem Wkd.keep {P : D} {S S1 : Sto} {ds : List D} (h : Wkd P S ds) (g : Gr [] S S1) : Wkd P S1 ds := by
  rcases h with h | ⟨q, e, h⟩
  · exact .inl h
  · exact .inr ⟨q, e, g q _ (by simp) h⟩
theorem Gr.set {A : List Addr} {S S1 : Sto} {p : Addr} {o : O} (g : Gr A S S1) (h : S p = none) : Gr A S (Z.up S1 p o) := fun q u n e => by rw [up_ne (by rintro rfl; rw [h] at e; cases e)]; exact g q u n e
theorem Gr.free {S S1 : Sto} {p : Addr} (g : Gr [] S S1) (h : S1 p = none) : S p = none := by
  cases e : S p with
  | none => rfl
  | some o => rw [g p o (by simp) e] at h; cases h
theorem Gr.new' {S S1 : Sto} {p : Addr} {o : O} (g : Gr [] S S1) (h : S1 p = none) : Gr [] S (Z.up S1 p o) := g.set (g.free h)
/-! ### forms -/
abbrev Ps := List (Str × Int)
def encP (p : Str × Int) : D := .tup [.str p.1, .int p.2]
def tupP (ps : Ps) : D := .tup (ps.map encP)
def formD (f : Int × Ps) : D := .tup [.int f.1, tupP f.2]
def dicE (acc : Ps) : List (Key × D) := acc.map fun p => (.inr p.1, .int p.2)
def getA (acc : Ps) (x : Str) : Int := ((acc.find? fun p => decide (p.1 = x)).map (·.2)).getD 0
def putA (acc : Ps) (x : Str) (v : Int) : Ps := if (acc.any fun p => decide (p.1 = x)) = true then acc.map (fun p => if p.1 = x then (p.1, v) else p) else acc ++ [(x, v)]
def addA (acc : Ps) (p : Str × Int) : Ps := putA acc p.1 (getA acc p.1 + p.2)
def sums (ps : Ps) : Ps := ps.foldl addA []
def formF (c : Int) (ps : Ps) : Int × Ps := (c, (sortStr ((sums ps).map (·.1))).filterMap fun x => if getA (sums ps) x ≠ 0 then some (x, getA (sums ps) x) else none)
theorem inr_dec {x y : Str} : decide ((Sum.inr x : Key) = Sum.inr y) = decide (x = y) := by simp
theorem getD_dicE : ∀ {acc : Ps} {x : Str}, getD (dicE acc) (.inr x) = (acc.find? fun p => decide (p.1 = x)).map fun p => D.int p.2
  | [], x => rfl
  | p :: acc, x => by
    by_cases e : p.1 = x
    · rw [show dicE (p :: acc) = (.inr p.1, .int p.2) :: dicE acc from rfl, getD_pos (by simp [e]), List.find?_cons, decide_eq_true e] <;> rfl
    · rw [show dicE (p :: acc) = (.inr p.1, .int p.2) :: dicE acc from rfl, getD_neg (by simpa using e), List.find?_cons, decide_eq_false e]
      exact getD_dicE
theorem get_dicE {acc : Ps} {x : Str} : (getD (dicE acc) (.inr x)).getD (.int 0) = .int (getA acc x) := by
  rw [getD_dicE]
  unfold getA
  cases acc.find? fun p => decide (p.1 = x) <;> rfl
theorem find_mem {acc : Ps} {x : Str} (h : x ∈ acc.map (·.1)) : getD (dicE acc) (.inr x) = some (.int (getA acc x)) := by
  rw [getD_dicE]
  unfold getA
  cases e : acc.find? fun p => decide (p.1 = x) with
  | none =>
    obtain ⟨p, hp, rfl⟩ := List.mem_map.mp h
    have := List.find?_eq_none.mp e p hp
    simp at this
  | some p => rfl
theorem putD_dicE {acc : Ps} {x : Str} {v : Int} : putD (dicE acc) (.inr x) (.int v) = dicE (putA acc x v) := by
  have ha : ((dicE acc).any fun kv => decide (kv.1 = (Sum.inr x : Key))) = acc.any fun p => decide (p.1 = x) := by
    unfold dicE
    rw [List.any_map]
    congr 1
    funext p
    exact inr_dec
  unfold putD putA
  rw [ha]
  split
  · unfold dicE
    rw [List.map_map, List.map_map]
    congr 1
    funext p
    by_cases e : p.1 = x <;> simp [e]
  · simp [dicE]
theorem strKeys_dicE : ∀ {acc : Ps}, strKeys (dicE acc) = some (acc.map (·.1))
  | [] => rfl
  | p :: acc => by
    show (strKeys (dicE acc)).map (p.1 :: ·) = _
    rw [strKeys_dicE] <;> rfl
theorem putA_keys {acc : Ps} {x : Str} {v : Int} : (putA acc x v).map (·.1) = if x ∈ acc.map (·.1) then acc.map (·.1) else acc.map (·.1) ++ [x] := by
  have hm : (acc.any fun p => decide (p.1 = x)) = true ↔ x ∈ acc.map (·.1) := by simp
  unfold putA
  by_cases h : (acc.any fun p => decide (p.1 = x)) = true
  · rw [if_pos h, if_pos (hm.mp h), List.map_map]
    congr 1
    funext p
    by_cases e : p.1 = x <;> simp [e]
  · rw [if_neg h, if_neg (fun q => h (hm.mpr q))]
    simp
theorem putA_nodup {acc : Ps} {x : Str} {v : Int} (h : (acc.map (·.1)).Nodup) : ((putA acc x v).map (·.1)).Nodup := by
  rw [putA_keys]
  split
  · exact h
  · rename_i n
    exact List.nodup_append.mpr ⟨h, by simp, by intro a ha b hb; simp at hb; subst hb; rintro rfl; exact n ha⟩
theorem putA_length {acc : Ps} {x : Str} {v : Int} : acc.length ≤ (putA acc x v).length ∧ (putA acc x v).length ≤ acc.length + 1 := by
  unfold putA
  split <;> simp
theorem foldA_nodup : ∀ (ps acc : Ps), (acc.map (·.1)).Nodup → ((ps.foldl addA acc).map (·.1)).Nodup
  | [], acc, h => h
  | p :: ps, acc, h => foldA_nodup ps (addA acc p) (putA_nodup h)
theorem sums_nodup (ps : Ps) : ((sums ps).map (·.1)).Nodup := foldA_nodup ps [] (by simp)
theorem foldA_length : ∀ (ps acc : Ps), (ps.foldl addA acc).length ≤ acc.length + ps.length
  | [], acc => by simp
  | p :: ps, acc => by
    have := foldA_length ps (addA acc p)
    have h2 := (putA_length (acc := acc) (x := p.1) (v := getA acc p.1 + p.2)).2
    have : (addA acc p).length ≤ acc.length + 1 := h2
    rw [List.foldl_cons, List.length_cons]
    omega
theorem putA_mem {acc : Ps} {x y : Str} {v : Int} (h : y ∈ (putA acc x v).map (·.1)) : y ∈ acc.map (·.1) ∨ y = x := by
  rw [putA_keys] at h
  split at h
  · exact .inl h
  · rcases List.mem_append.mp h with h | h
    · exact .inl h
    · exact .inr (List.mem_singleton.mp h)
theorem foldA_mem : ∀ (ps acc : Ps) (y : Str), y ∈ (ps.foldl addA acc).map (·.1) → y ∈ acc.map (·.1) ∨ y ∈ ps.map (·.1)
  | [], acc, y, h => .inl h
  | p :: ps, acc, y, h => by
    rcases foldA_mem ps (addA acc p) y h with h | h
    · rcases putA_mem h with h | h
      · exact .inl h
      · exact .inr (by simp [h])
    · rw [List.map_cons]; exact .inr (List.mem_cons_of_mem _ h)
theorem formF_mem {c : Int} {ps : Ps} {p : Str × Int} (h : p ∈ (formF c ps).2) : p.1 ∈ ps.map (·.1) := by
  obtain ⟨x, hx, e⟩ := List.mem_filterMap.mp h
  split at e <;> cases e
  have := (sortStr_perm _).mem_iff.mp hx
  rcases foldA_mem ps [] x this with h | h
  · simp at h
  · exact h
theorem sums_snoc (ps : Ps) (p : Str × Int) : sums (ps ++ [p]) = addA (sums ps) p := by unfold sums; rw [List.foldl_append] <;> rfl
theorem sums_length (ps : Ps) : (sums ps).length ≤ ps.length := by have := foldA_length ps []; simp only [List.length_nil, Nat.zero_add] at this; exact this
theorem formF_length (c : Int) (ps : Ps) : (formF c ps).2.length ≤ ps.length := by
  have h1 := List.length_filterMap_le (fun x => if getA (sums ps) x ≠ 0 then some (x, getA (sums ps) x) else none) (sortStr ((sums ps).map (·.1)))
  rw [(sortStr_perm _).length_eq, List.length_map] at h1
  exact Nat.le_trans h1 (sums_length ps)
/-! in order, without a 0 -/
def sLt (a b : Str) : Prop := a.cps.toList < b.cps.toList
def Ok (ps : Ps) : Prop := ps.Pairwise (fun p q => sLt p.1 q.1) ∧ ∀ p ∈ ps, p.2 ≠ 0
theorem sLt_le {a b : Str} (h : sLt a b) : strLe a b = true := strLe_iff.mpr (List.le_of_lt h)
theorem sLt_ne {a b : Str} (h : sLt a b) : a ≠ b := by rintro rfl; exact List.lt_irrefl _ h
theorem sLt_of {a b : Str} (h : strLe a b = true) (n : a ≠ b) : sLt a b := by
  unfold strLe at h
  rw [Bool.not_eq_true', decide_eq_false_iff_not] at h
  exact Classical.byContradiction fun q => n (str_ext (List.le_antisymm (List.not_lt.mp h) (List.not_lt.mp q)))
theorem sort_id {ks : List Str} (h : ks.Pairwise fun a b => strLe a b = true) : sortStr ks = ks := List.mergeSort_of_pairwise h
theorem sort_strict {ks : List Str} (h : ks.Nodup) : (sortStr ks).Pairwise sLt := by
  have hp := sortStr_sorted ks
  have hn : (sortStr ks).Nodup := (sortStr_perm ks).nodup_iff.mpr h
  exact (hp.and hn).imp fun ⟨a, b⟩ => sLt_of a b
theorem formF_Ok (c : Int) (ps : Ps) : Ok (formF c ps).2 := by
  have hs := sort_strict (sums_nodup ps)
  unfold formF
  constructor
  · refine hs.filterMap _ fun a b hab p hp q hq => ?_
    split at hp <;> cases hp
    split at hq <;> cases hq
    exact hab
  · intro p hp
    obtain ⟨x, hx, e⟩ := List.mem_filterMap.mp hp
    split at e <;> cases e
    assumption
theorem getA_mem : ∀ {ps : Ps} {p : Str × Int}, (ps.map (·.1)).Nodup → p ∈ ps → getA ps p.1 = p.2
  | q :: ps, p, hn, hp => by
    rw [List.map_cons, List.nodup_cons] at hn
    unfold getA
    rcases List.mem_cons.mp hp with rfl | hp
    · simp
    · have : q.1 ≠ p.1 := fun e => hn.1 (e ▸ List.mem_map.mpr ⟨p, hp, rfl⟩)
      rw [List.find?_cons, decide_eq_false this]
      exact getA_mem hn.2 hp
theorem getA_none {ps : Ps} {x : Str} (h : x ∉ ps.map (·.1)) : getA ps x = 0 := by
  unfold getA
  rw [List.find?_eq_none.mpr fun p hp => by
    have : p.1 ≠ x := fun e => h (List.mem_map.mpr ⟨p, hp, e⟩)
    simpa using this] <;> rfl
theorem putA_new {ps : Ps} {x : Str} {v : Int} (h : x ∉ ps.map (·.1)) : putA ps x v = ps ++ [(x, v)] := by
  unfold putA
  rw [if_neg]
  intro q
  obtain ⟨p, hp, e⟩ := List.any_eq_true.mp q
  exact h (List.mem_map.mpr ⟨p, hp, of_decide_eq_true e⟩)
theorem foldA_id : ∀ (ps acc : Ps), ((acc ++ ps).map (·.1)).Nodup → ps.foldl addA acc = acc ++ ps
  | [], acc, _ => by simp
  | p :: ps, acc, h => by
    have hn : p.1 ∉ acc.map (·.1) := by
      intro q
      rw [List.map_append, List.nodup_append] at h
      exact h.2.2 _ q _ (by simp) rfl
    rw [List.foldl_cons, show addA acc p = acc ++ [p] by unfold addA; rw [getA_none hn, putA_new hn]; simp, foldA_id ps _ (by simpa using h)]
    simp
theorem Ok.nodup {ps : Ps} (h : Ok ps) : (ps.map (·.1)).Nodup := by
  have := h.1
  rw [List.nodup_iff_pairwise_ne, List.pairwise_map]
  exact this.imp fun h => sLt_ne h
theorem sums_id {ps : Ps} (h : (ps.map (·.1)).Nodup) : sums ps = ps := by
  unfold sums
  rw [foldA_id ps [] (by simpa using h)] <;> simp
theorem fm_id (qs : Ps) (hn : (qs.map (·.1)).Nodup) : ∀ ps : Ps, (∀ p ∈ ps, p ∈ qs) → (∀ p ∈ ps, p.2 ≠ 0) → ((ps.map (·.1)).filterMap fun x => if getA qs x ≠ 0 then some (x, getA qs x) else none) = ps
  | [], _, _ => rfl
  | p :: ps, h, h0 => by
    have e := getA_mem hn (h p (by simp))
    rw [List.map_cons, List.filterMap_cons, e, if_pos (h0 p (by simp)), fm_id qs hn ps (fun q hq => h q (by simp [hq])) fun q hq => h0 q (by simp [hq])]
theorem formF_id {c : Int} {ps : Ps} (h : Ok ps) : formF c ps = (c, ps) := by
  unfold formF
  rw [sums_id h.nodup, sort_id (by rw [List.pairwise_map]; exact h.1.imp fun q => sLt_le q), fm_id ps h.nodup ps (fun _ h => h) h.2]
theorem app_lt {m a b : List Nat} (h : a < b) : m ++ a < m ++ b := by
  induction m with
  | nil => exact h
  | cons x m ih => exact List.Lex.cons ih
theorem mark_Ok {ps : Ps} (m : Str) (h : Ok ps) : Ok (ps.map fun p => (m ++ p.1, p.2)) := by
  refine ⟨?_, ?_⟩
  · rw [List.pairwise_map]
    refine h.1.imp fun {p q} hpq => ?_
    show (m.cps ++ p.1.cps).toList < (m.cps ++ q.1.cps).toList
    rw [Array.toList_append, Array.toList_append]
    exact app_lt hpq
  · intro p hp
    obtain ⟨q, hq, rfl⟩ := List.mem_map.mp hp
    exact h.2 q hq
/-! ### isinstance, nice values -/
theorem isT_int_int : isT "int" "int" = true := by decide
theorem isT_int_str : isT "int" "str" = false := by decide
theorem isT_int_bool : isT "int" "bool" = false := by decide
theorem isT_int_tuple : isT "int" "tuple" = false := by decide
theorem isT_int_list : isT "int" "list" = false := by decide
theorem isT_str_int : isT "str" "int" = false := by decide
theorem isT_str_str : isT "str" "str" = true := by decide
theorem isT_str_bool : isT "str" "bool" = false := by decide
theorem isT_str_tuple : isT "str" "tuple" = false := by decide
theorem isT_str_list : isT "str" "list" = false := by decide
theorem isT_tuple_int : isT "tuple" "int" = false := by decide
theorem isT_tuple_str : isT "tuple" "str" = false := by decide
theorem isT_tuple_bool : isT "tuple" "bool" = false := by decide
theorem isT_tuple_tuple : isT "tuple" "tuple" = true := by decide
theorem isT_tuple_list : isT "tuple" "list" = false := by decide
theorem isT_bool_int : isT "bool" "int" = true := by decide
theorem isT_bool_str : isT "bool" "str" = false := by decide
theorem isT_bool_bool : isT "bool" "bool" = true := by decide
theorem isT_bool_tuple : isT "bool" "tuple" = false := by decide
theorem isT_bool_list : isT "bool" "list" = false := by decide
theorem tyIn : ("int" ∈ ["int", "str", "bool", "tuple", "list", "dict"]) ∧ ("str" ∈ ["int", "str", "bool", "tuple", "list", "dict"]) ∧ ("bool" ∈ ["int", "str", "bool", "tuple", "list", "dict"]) ∧ ("tuple" ∈ ["int", "str", "bool", "tuple", "list", "dict"]) ∧ ("list" ∈ ["int", "str", "bool", "tuple", "list", "dict"]) := by simp
theorem tyIn1 : ("int" ∈ ["int", "str", "bool", "tuple", "list", "dict"]) = True := by simp
theorem tyIn2 : ("str" ∈ ["int", "str", "bool", "tuple", "list", "dict"]) = True := by simp
theorem tyIn3 : ("bool" ∈ ["int", "str", "bool", "tuple", "list", "dict"]) = True := by simp
theorem tyIn4 : ("tuple" ∈ ["int", "str", "bool", "tuple", "list", "dict"]) = True := by simp
theorem tyIn5 : ("list" ∈ ["int", "str", "bool", "tuple", "list", "dict"]) = True := by simp
def nice : Nat → D → Prop
  | _, .int _ => True
  | _, .str _ => True
  | n + 1, .tup ds => ds.length ≤ sizeLine ∧ ∀ d ∈ ds, nice n d
  | _, _ => False
theorem nice_form {c : Int} {ps : Ps} (h : ps.length ≤ sizeLine) : nice 3 (formD (c, ps)) := by
  refine ⟨by show 2 ≤ sizeLine; decide, fun d hd => ?_⟩
  rcases List.mem_cons.mp hd with rfl | hd
  · exact trivial
  rw [List.mem_singleton.mp hd]
  refine ⟨by simpa using h, fun d hd => ?_⟩
  obtain ⟨p, hp, rfl⟩ := List.mem_map.mp hd
  refine ⟨by show 2 ≤ sizeLine; decide, fun d hd => ?_⟩
  rcases List.mem_cons.mp hd with rfl | hd
  · exact trivial
  rw [List.mem_singleton.mp hd]
  exact trivial
theorem bls_rep : ∀ n : Nat, blsOf (List.replicate n (D.bl true)) = some (List.replicate n true)
  | 0 => rfl
  | n + 1 => by
    rw [List.replicate_succ, List.replicate_succ]
    unfold blsOf
    rw [bls_rep n] <;> rfl
theorem all_rep (n : Nat) : (List.replicate n true).all id = true := by simp
theorem atI_nat {α : Type} {xs : List α} {i : Nat} (h : i < xs.length) : atI xs (0 + (i : Int)) = some xs[i] := by
  rw [atI_in (by omega) (by omega)]
  congr 1
  have : (0 + (i : Int)).toNat = i := by omega
  simp only [this]
theorem range_mid {n : Nat} {pre post : List Nat} {x : Nat} (h : List.range n = pre ++ x :: post) : x < n ∧ x = pre.length := by
  have hx : x ∈ List.range n := by rw [h]; simp
  refine ⟨List.mem_range.mp hx, ?_⟩
  have : (List.range n)[pre.length]? = some x := by rw [h]; simp
  rw [List.getElem?_range (by have := congrArg List.length h; simp at this; omega)] at this
  exact (Option.some.inj this).symm
end Z

/-! ### C2 -/
/-! C2: the coefficient of a name; a form is known by them. -/
namespace Z
open PySem PySem.Spec PyProof.Rows L2
def coef : Ps → Str → Int
  | [], _ => 0
  | p :: ps, x => (if p.1 = x then p.2 else 0) + coef ps x
theorem coef_app : ∀ (ps qs : Ps) (x : Str), coef (ps ++ qs) x = coef ps x + coef qs x
  | [], qs, x => by simp [coef]
  | p :: ps, qs, x => by
    show (if p.1 = x then p.2 else 0) + coef (ps ++ qs) x = (if p.1 = x then p.2 else 0) + coef ps x + coef qs x
    rw [coef_app ps qs x]; omega
theorem coef_mul (k : Int) : ∀ (ps : Ps) (x : Str), coef (ps.map fun p => (p.1, k * p.2)) x = k * coef ps x
  | [], x => by simp [coef]
  | p :: ps, x => by
    show (if p.1 = x then k * p.2 else 0) + coef (ps.map fun p => (p.1, k * p.2)) x = k * ((if p.1 = x then p.2 else 0) + coef ps x)
    rw [coef_mul k ps x, Int.mul_add]
    split <;> simp
theorem coef_none : ∀ {ps : Ps} {x : Str}, x ∉ ps.map (·.1) → coef ps x = 0
  | [], _, _ => rfl
  | p :: ps, x, h => by
    rw [List.map_cons, List.mem_cons, not_or] at h
    show (if p.1 = x then p.2 else 0) + coef ps x = 0
    rw [if_neg (fun e => h.1 e.symm), coef_none h.2] <;> rfl
theorem getA_putA {acc : Ps} {x y : Str} {v : Int} : getA (putA acc x v) y = if x = y then v else getA acc y := by
  unfold putA
  by_cases ha : (acc.any fun p => decide (p.1 = x)) = true
  · rw [if_pos ha]
    induction acc with
    | nil => cases ha
    | cons p acc ih =>
      unfold getA
      rw [List.map_cons, List.find?_cons, List.find?_cons]
      by_cases e : p.1 = x
      · rw [if_pos e]
        by_cases e2 : x = y
        · rw [if_pos e2, decide_eq_true (e.trans e2)] <;> rfl
        · have e3 : ¬ p.1 = y := fun q => e2 (e.symm.trans q)
          rw [if_neg e2, decide_eq_false e3]
          have key : ∀ l : Ps, ((l.map fun p => if p.1 = x then (p.1, v) else p).find? fun p => decide (p.1 = y)).map (·.2) = (l.find? fun p => decide (p.1 = y)).map (·.2) := by
            intro l
            induction l with
            | nil => rfl
            | cons q l ihl =>
              rw [List.map_cons, List.find?_cons, List.find?_cons]
              by_cases eq : q.1 = x
              · rw [if_pos eq]
                have : ¬ q.1 = y := fun z => e2 (eq.symm.trans z)
                rw [decide_eq_false this]
                exact ihl
              · rw [if_neg eq]
                by_cases e4 : q.1 = y
                · rw [decide_eq_true e4]
                · rw [decide_eq_false e4]; exact ihl
          show (Option.map _ _).getD 0 = (Option.map _ _).getD 0
          rw [key]
      · rw [if_neg e]
        have ha' : (acc.any fun p => decide (p.1 = x)) = true := by simpa [e] using ha
        have := ih ha'
        unfold getA at this
        by_cases e4 : p.1 = y
        · have e2 : ¬ x = y := fun z => e (e4.trans z.symm)
          rw [decide_eq_true e4, if_neg e2]
        · rw [decide_eq_false e4]
          exact this
  · rw [if_neg ha]
    unfold getA
    rw [List.find?_append]
    cases hf : acc.find? fun p => decide (p.1 = y) with
    | some p =>
      have e2 : ¬ x = y := by
        rintro rfl
        exact ha (List.any_eq_true.mpr ⟨p, List.mem_of_find?_eq_some hf, List.find?_some (p := fun p : Str × Int => decide (p.1 = x)) hf⟩)
      rw [if_neg e2] <;> rfl
    | none =>
      by_cases e2 : x = y
      · rw [if_pos e2, List.find?_cons, decide_eq_true e2] <;> rfl
      · rw [if_neg e2, List.find?_cons, decide_eq_false e2] <;> rfl
theorem getA_foldA : ∀ (ps acc : Ps) (x : Str), getA (ps.foldl addA acc) x = getA acc x + coef ps x
  | [], acc, x => by simp [coef]
  | p :: ps, acc, x => by
    rw [List.foldl_cons, getA_foldA ps (addA acc p) x]
    show getA (putA acc p.1 (getA acc p.1 + p.2)) x + coef ps x = getA acc x + ((if p.1 = x then p.2 else 0) + coef ps x)
    rw [getA_putA]
    by_cases e : p.1 = x
    · rw [if_pos e, if_pos e, e]; omega
    · rw [if_neg e, if_neg e]; omega
theorem getA_sums (ps : Ps) (x : Str) : getA (sums ps) x = coef ps x := by
  have := getA_foldA ps [] x
  rw [show getA [] x = 0 from rfl] at this
  unfold sums
  omega
theorem coef_fm (gf : Str → Int) (x : Str) : ∀ ks : List Str, ks.Nodup → coef (ks.filterMap fun y => if gf y ≠ 0 then some (y, gf y) else none) x = if x ∈ ks then gf x else 0
  | [], _ => by simp [coef]
  | y :: ks, h => by
    rw [List.nodup_cons] at h
    have ih := coef_fm gf x ks h.2
    by_cases hy : gf y = 0
    · rw [List.filterMap_cons, if_neg (by simpa using hy)]
      show coef (ks.filterMap _) x = _
      rw [ih]
      by_cases e : x = y
      · subst e; simp [h.1, hy]
      · simp [e]
    · rw [List.filterMap_cons, if_pos hy]
      show (if y = x then gf y else 0) + coef (ks.filterMap _) x = _
      rw [ih]
      by_cases e : y = x
      · subst e; simp [h.1]
      · have : ¬ x = y := fun z => e z.symm
        simp [e, this]
theorem coef_formF (c : Int) (ps : Ps) (x : Str) : coef (formF c ps).2 x = coef ps x := by
  have hn : (sortStr ((sums ps).map (·.1))).Nodup := (sortStr_perm _).nodup_iff.mpr (sums_nodup ps)
  have := coef_fm (getA (sums ps)) x _ hn
  unfold formF
  rw [this]
  split
  · exact getA_sums ps x
  · rename_i hx
    rw [← getA_sums]
    exact (getA_none fun q => hx ((sortStr_perm _).mem_iff.mpr q)).symm
theorem Ok.tail {p : Str × Int} {ps : Ps} (h : Ok (p :: ps)) : Ok ps := ⟨(List.pairwise_cons.mp h.1).2, fun q hq => h.2 q (List.mem_cons_of_mem _ hq)⟩
theorem Ok.head_coef {p : Str × Int} {ps : Ps} (h : Ok (p :: ps)) : coef (p :: ps) p.1 = p.2 := by
  show (if p.1 = p.1 then p.2 else 0) + coef ps p.1 = p.2
  rw [if_pos rfl, coef_none, Int.add_zero]
  intro hx
  obtain ⟨q, hq, e⟩ := List.mem_map.mp hx
  have := (List.pairwise_cons.mp h.1).1 q hq
  exact sLt_ne this e.symm
theorem Ok.low_coef {p : Str × Int} {ps : Ps} {x : Str} (h : Ok (p :: ps)) (hx : sLt x p.1) : coef (p :: ps) x = 0 := by
  apply coef_none
  intro hm
  obtain ⟨q, hq, e⟩ := List.mem_map.mp hm
  rcases List.mem_cons.mp hq with rfl | hq
  · exact sLt_ne hx e.symm
  · have := (List.pairwise_cons.mp h.1).1 q hq
    exact sLt_ne (show sLt x q.1 from List.lt_trans hx this) e.symm
theorem sLt_tri (a b : Str) : sLt a b ∨ a = b ∨ sLt b a := by
  by_cases e : a = b
  · exact .inr (.inl e)
  · rcases Bool.or_eq_true _ _ |>.mp (strLe_total a b) with h | h
    · exact .inl (sLt_of h e)
    · exact .inr (.inr (sLt_of h (fun q => e q.symm)))
/-- a form is known by its coefficients -/
theorem Ok.ext : ∀ {ps qs : Ps}, Ok ps → Ok qs → (∀ x, coef ps x = coef qs x) → ps = qs
  | [], [], _, _, _ => rfl
  | [], q :: qs, _, h2, h => by
    have := h q.1
    rw [h2.head_coef] at this
    exact absurd this.symm (h2.2 q (by simp))
  | p :: ps, [], h1, _, h => by
    have := h p.1
    rw [h1.head_coef] at this
    exact absurd this (h1.2 p (by simp))
  | p :: ps, q :: qs, h1, h2, h => by
    have e1 : p.1 = q.1 := by
      rcases sLt_tri p.1 q.1 with l | l | l
      · have := h p.1
        rw [h1.head_coef, h2.low_coef l] at this
        exact absurd this (h1.2 p (by simp))
      · exact l
      · have := h q.1
        rw [h2.head_coef, h1.low_coef l] at this
        exact absurd this.symm (h2.2 q (by simp))
    have e2 : p.2 = q.2 := by
      have := h p.1
      rw [h1.head_coef, e1, h2.head_coef] at this
      exact this
    have e : p = q := Prod.ext e1 e2
    subst e
    rw [Ok.ext h1.tail h2.tail fun x => by
      have := h x
      show coef ps x = coef qs x
      have e3 : coef (p :: ps) x = (if p.1 = x then p.2 else 0) + coef ps x := rfl
      have e4 : coef (p :: qs) x = (if p.1 = x then p.2 else 0) + coef qs x := rfl
      omega]
theorem formF_eq {c : Int} {ps qs : Ps} (h : Ok qs) (e : ∀ x, coef ps x = coef qs x) : formF c ps = (c, qs) := Prod.ext rfl (Ok.ext (formF_Ok c ps) h fun x => by rw [coef_formF]; exact e x)
theorem formF_congr {c : Int} {ps qs : Ps} (e : ∀ x, coef ps x = coef qs x) : formF c ps = formF c qs := Prod.ext rfl (Ok.ext (formF_Ok c ps) (formF_Ok c qs) fun x => by rw [coef_formF, coef_formF]; exact e x)
theorem mul_Ok {ps : Ps} {k : Int} (hk : k ≠ 0) (h : Ok ps) : Ok (ps.map fun p => (p.1, k * p.2)) := by
  refine ⟨by rw [List.pairwise_map]; exact h.1, fun p hp => ?_⟩
  obtain ⟨q, hq, rfl⟩ := List.mem_map.mp hp
  exact Int.mul_ne_zero hk (h.2 q hq)
theorem nil_Ok : Ok [] := ⟨List.Pairwise.nil, by simp⟩
theorem Ok.nil_of {ps : Ps} (h : Ok ps) (e : ∀ x, coef ps x = 0) : ps = [] := Ok.ext h nil_Ok e
/-! sizes -/
def Bd (b : Nat) (ps : Ps) : Prop := ∀ p ∈ ps, p.2.natAbs ≤ b
theorem coef_bd {b : Nat} : ∀ {ps : Ps} {x : Str}, Bd b ps → (coef ps x).natAbs ≤ ps.length * b
  | [], _, _ => by simp [coef]
  | p :: ps, x, h => by
    have ih := coef_bd (ps := ps) (x := x) fun q hq => h q (by simp [hq])
    have hp := h p (by simp)
    have : ((if p.1 = x then p.2 else 0) + coef ps x).natAbs ≤ (if p.1 = x then p.2 else 0).natAbs + (coef ps x).natAbs := Int.natAbs_add_le _ _
    show ((if p.1 = x then p.2 else 0) + coef ps x).natAbs ≤ (ps.length + 1) * b
    rw [Nat.add_mul, Nat.one_mul]
    have : (if p.1 = x then p.2 else 0 : Int).natAbs ≤ b := by split <;> simp_all
    omega
theorem Ok.mem_coef : ∀ {ps : Ps} {p : Str × Int}, Ok ps → p ∈ ps → coef ps p.1 = p.2
  | q :: ps, p, h, hp => by
    rcases List.mem_cons.mp hp with rfl | hp
    · exact h.head_coef
    · have l := (List.pairwise_cons.mp h.1).1 p hp
      have : ¬ q.1 = p.1 := sLt_ne l
      show (if q.1 = p.1 then q.2 else 0) + coef ps p.1 = p.2
      rw [if_neg this, Ok.mem_coef h.tail hp, Int.zero_add]
theorem formF_bd {c : Int} {b : Nat} {ps : Ps} (h : Bd b ps) : Bd (ps.length * b) (formF c ps).2 := fun p hp => by
  rw [← (formF_Ok c ps).mem_coef hp, coef_formF]
  exact coef_bd h
theorem sub_length : ∀ {l m : List Str}, l.Nodup → (∀ x ∈ l, x ∈ m) → l.length ≤ m.length
  | [], m, _, _ => by simp
  | x :: l, m, hn, h => by
    rw [List.nodup_cons] at hn
    have hx := h x (by simp)
    have := sub_length (l := l) (m := m.erase x) hn.2 fun y hy => (List.mem_erase_of_ne (fun e => hn.1 (by rw [← e]; exact hy))).mpr (h y (by simp [hy]))
    rw [List.length_erase_of_mem hx] at this
    have := List.length_pos_of_mem hx
    rw [List.length_cons]
    omega
theorem sums_few {ps : Ps} {ks : List Str} (h : ∀ p ∈ ps, p.1 ∈ ks) : (sums ps).length ≤ ks.length := by
  have := sub_length (l := (sums ps).map (·.1)) (m := ks) (sums_nodup ps) fun x hx => by
    rcases foldA_mem ps [] x hx with h2 | h2
    · simp at h2
    · obtain ⟨p, hp, rfl⟩ := List.mem_map.mp h2
      exact h p hp
  rwa [List.length_map] at this
theorem strLen_app (y z : Str) : (y ++ z).length = y.length + z.length := by
  show (y.cps ++ z.cps).size = _
  rw [Array.size_append] <;> rfl
theorem joinLen : ∀ ys : List Str, (Str.join Str.empty ys).length = (ys.map (·.length)).sum
  | [] => rfl
  | [x] => by simp [Str.join]
  | x :: z :: r => by
    show (x ++ Str.empty ++ Str.join Str.empty (z :: r)).length = _
    rw [strLen_app, strLen_app, joinLen (z :: r)]
    show x.length + 0 + _ = _
    simp
theorem flat_strs (xs : List Str) : (xs.map D.str).all D.flat = true := by simp [D.flat]
theorem inF_strs (x : Str) (xs : List Str) : inF (.str x) (xs.map D.str) = decide (x ∈ xs) := by
  unfold inF
  rw [List.any_map, Bool.eq_iff_iff]
  simp only [List.any_eq_true, Function.comp_apply, eqF, decide_eq_true_eq]
  constructor
  · rintro ⟨y, hy, rfl⟩; exact hy
  · intro h; exact ⟨x, h, rfl⟩
theorem atI_mem {xs : List D} {i : Int} (h0 : 0 ≤ i) (h1 : i < xs.length) : ∃ d, atI xs i = some d ∧ d ∈ xs := ⟨_, atI_in h0 h1, List.getElem_mem _⟩
theorem Gr.get {A : List Addr} {S S1 : Sto} {p : Addr} {o : O} (g : Gr A S S1) (h : S p = some o) (n : p ∉ A) : S1 p = some o := g p o n h
theorem Gr.free1 {a p : Addr} {S S1 : Sto} (g : Gr [a] S S1) (h : S1 p = none) (n : p ≠ a) : S p = none := by
  cases e : S p with
  | none => rfl
  | some o => rw [g p o (by simpa using n) e] at h; cases h
end Z

/-! ### C3 -/
/-! C3: dicts by names, values of forms. -/
namespace Z
open PySem PySem.Spec PyProof.Rows L2
def dicX (l : List (Str × D)) : List (Key × D) := l.map fun p => (Sum.inr p.1, p.2)
theorem dicX_any {l : List (Str × D)} {x : Str} : ((dicX l).any fun kv => decide (kv.1 = (Sum.inr x : Key))) = true ↔ x ∈ l.map (·.1) := by
  unfold dicX
  simp
theorem putX_new {l : List (Str × D)} {x : Str} {d : D} (h : x ∉ l.map (·.1)) : putD (dicX l) (.inr x) d = dicX (l ++ [(x, d)]) := by
  unfold putD
  rw [if_neg fun q => h (dicX_any.mp q)]
  simp [dicX]
theorem getX_out {l : List (Str × D)} {x : Str} (h : x ∉ l.map (·.1)) : getD (dicX l) (.inr x) = none := by
  unfold getD
  rw [List.find?_eq_none.mpr fun p hp => ?_]
  · rfl
  · intro e
    exact h (dicX_any.mp (List.any_eq_true.mpr ⟨p, hp, e⟩))
theorem getX_in : ∀ {l : List (Str × D)} {x : Str} {d : D}, (l.map (·.1)).Nodup → (x, d) ∈ l → getD (dicX l) (.inr x) = some d
  | p :: l, x, d, hn, h => by
    rw [List.map_cons, List.nodup_cons] at hn
    rcases List.mem_cons.mp h with e | h
    · subst e
      exact getD_pos rfl
    · have : ¬ (Sum.inr p.1 : Key) = Sum.inr x := by
        intro e
        cases e
        exact hn.1 (List.mem_map.mpr ⟨(p.1, d), h, rfl⟩)
      show getD ((Sum.inr p.1, p.2) :: dicX l) (Sum.inr x) = some d
      rw [getD_neg this]
      exact getX_in hn.2 h
theorem dc_new' {α : Type} {chk : Sto → Prop} {turn : D → Sto → (Option (D × D) → Sto → Prop) → Prop} {k : List (Key × D) → Sto → Prop} (enc : α → D) (ky : α → Str) (vl : α → D) {S : Sto} (hc : chk S) : ∀ (xs : List α) (acc : List (Str × D)),
    (∀ x ∈ xs, ∀ K : Option (D × D) → Sto → Prop, K (some (.str (ky x), vl x)) S → turn (enc x) S K) → (acc.map (·.1) ++ xs.map ky).Nodup → acc.length + xs.length ≤ sizeLine → k (dicX (acc ++ xs.map fun x => (ky x, vl x))) S → dcW chk turn k (xs.map enc) (dicX acc) S
  | [], acc, step, hn, hl, h => by
    unfold dcW
    exact ⟨hc, by simpa using h⟩
  | x :: xs, acc, step, hn, hl, h => by
    rw [List.map_cons]
    unfold dcW
    rw [List.length_cons] at hl
    refine ⟨hc, step x (by simp) _ ?_⟩
    have hx : ky x ∉ acc.map (·.1) := fun q => by
      rw [List.nodup_append] at hn
      exact hn.2.2 _ q _ (by simp) rfl
    show (dicX acc).length < sizeLine ∧ _
    refine ⟨by unfold dicX; rw [List.length_map]; omega, ?_⟩
    rw [putX_new hx]
    exact dc_new' enc ky vl hc xs _ (fun y hy => step y (by simp [hy])) (by simpa using hn) (by simp; omega) (by simpa using h)
theorem dc_new {α : Type} {chk : Sto → Prop} {turn : D → Sto → (Option (D × D) → Sto → Prop) → Prop} {k : List (Key × D) → Sto → Prop} (enc : α → D) (ky : α → Str) (vl : α → D) {S : Sto} (hc : chk S) (xs : List α)
    (step : ∀ x ∈ xs, ∀ K : Option (D × D) → Sto → Prop, K (some (.str (ky x), vl x)) S → turn (enc x) S K) (hn : (xs.map ky).Nodup) (hl : xs.length ≤ sizeLine) (h : k (dicX (xs.map fun x => (ky x, vl x))) S) : dcW chk turn k (xs.map enc) [] S :=
  dc_new' enc ky vl hc xs [] step (by simpa using hn) (by simpa using hl) (by simpa using h)
/-! values -/
def valP (N : Str → Int) : Ps → Int
  | [] => 0
  | p :: ps => p.2 * N p.1 + valP N ps
theorem valP_app (N : Str → Int) : ∀ ps qs : Ps, valP N (ps ++ qs) = valP N ps + valP N qs
  | [], qs => by simp [valP]
  | p :: ps, qs => by
    show p.2 * N p.1 + valP N (ps ++ qs) = p.2 * N p.1 + valP N ps + valP N qs
    rw [valP_app N ps qs]; omega
theorem valP_mul (N : Str → Int) (k : Int) : ∀ ps : Ps, valP N (ps.map fun p => (p.1, k * p.2)) = k * valP N ps
  | [] => by simp [valP]
  | p :: ps => by
    show k * p.2 * N p.1 + valP N (ps.map fun p => (p.1, k * p.2)) = k * (p.2 * N p.1 + valP N ps)
    rw [valP_mul N k ps, Int.mul_add, Int.mul_assoc]
def valK (N : Str → Int) (ks : List Str) (ps : Ps) : Int := (ks.map fun x => coef ps x * N x).sum
theorem valK_cons (N : Str → Int) (p : Str × Int) (ps : Ps) : ∀ ks : List Str, ks.Nodup → valK N ks (p :: ps) = (if p.1 ∈ ks then p.2 * N p.1 else 0) + valK N ks ps
  | [], _ => by simp [valK]
  | x :: ks, h => by
    rw [List.nodup_cons] at h
    have ih := valK_cons N p ps ks h.2
    have e1 : valK N (x :: ks) (p :: ps) = ((if p.1 = x then p.2 else 0) + coef ps x) * N x + valK N ks (p :: ps) := by unfold valK; simp [coef]
    have e2 : valK N (x :: ks) ps = coef ps x * N x + valK N ks ps := by unfold valK; simp
    rw [e1, e2, ih, Int.add_mul]
    by_cases e : p.1 = x
    · have hn : ¬ p.1 ∈ ks := by rw [e]; exact h.1
      rw [if_pos e, if_neg hn, if_pos (by rw [e]; simp), e]
      omega
    · have : (p.1 ∈ x :: ks) ↔ p.1 ∈ ks := by simp [e]
      rw [if_neg e, Int.zero_mul]
      by_cases hm : p.1 ∈ ks
      · rw [if_pos hm, if_pos (this.mpr hm)]; omega
      · rw [if_neg hm, if_neg (fun q => hm (this.mp q))]; omega
theorem valP_K (N : Str → Int) {ks : List Str} (hn : ks.Nodup) : ∀ {ps : Ps}, (∀ p ∈ ps, p.1 ∈ ks) → valP N ps = valK N ks ps
  | [], _ => by
    have : ∀ l : List Str, valK N l [] = 0 := fun l => by
      induction l with
      | nil => rfl
      | cons x l ih =>
        have : valK N (x :: l) [] = coef [] x * N x + valK N l [] := by unfold valK; simp
        rw [this, ih]; simp [coef]
    rw [this] <;> rfl
  | p :: ps, h => by
    rw [valK_cons N p ps ks hn, if_pos (h p (by simp)), ← valP_K N hn fun q hq => h q (by simp [hq])] <;> rfl
theorem valP_formF (N : Str → Int) {ks : List Str} (hn : ks.Nodup) {c : Int} {ps : Ps} (h : ∀ p ∈ ps, p.1 ∈ ks) : valP N (formF c ps).2 = valP N ps := by
  rw [valP_K N hn h, valP_K N hn (ps := (formF c ps).2) fun p hp => by
    obtain ⟨q, hq, e⟩ := List.mem_map.mp (formF_mem hp)
    rw [← e]; exact h q hq]
  unfold valK
  congr 1
  apply List.map_congr_left
  intro x _
  rw [coef_formF]
theorem Ok.length_le {ps : Ps} {ks : List Str} (h : Ok ps) (hk : ∀ p ∈ ps, p.1 ∈ ks) : ps.length ≤ ks.length := by
  have := sub_length (l := ps.map (·.1)) (m := ks) h.nodup fun x hx => by
    obtain ⟨p, hp, rfl⟩ := List.mem_map.mp hx
    exact hk p hp
  rwa [List.length_map] at this
theorem cut_lo {α : Type} (xs : List α) {s : Int} (h0 : 0 ≤ s) (h1 : s ≤ xs.length) : cutG xs (some s) none = xs.drop s.toNat := by
  unfold cutG
  have e1 : HT.sIx xs.length 0 (some s) = s.toNat := by unfold HT.sIx; show (if s < 0 then (s + (xs.length : Int)).toNat else min s.toNat xs.length) = s.toNat; rw [if_neg (by omega)]; omega
  have e2 : HT.sIx xs.length xs.length none = xs.length := rfl
  rw [e1, e2]
  exact List.take_of_length_le (by simp)
theorem cut_hi {α : Type} (xs : List α) {s : Int} (h0 : 0 ≤ s) (h1 : s ≤ xs.length) : cutG xs none (some s) = xs.take s.toNat := by
  unfold cutG
  have e1 : HT.sIx xs.length xs.length (some s) = s.toNat := by unfold HT.sIx; show (if s < 0 then (s + (xs.length : Int)).toNat else min s.toNat xs.length) = s.toNat; rw [if_neg (by omega)]; omega
  have e2 : HT.sIx xs.length 0 none = 0 := rfl
  rw [e1, e2]
  simp
end Z

/-! ### C4 -/
/-! C4: == and in, of numbers, texts and tuples of them. -/
namespace Z
open PySem PySem.Spec PyProof.Rows L2
section
variable {a b c d e f g : D}
theorem lz0 : (([] : List D).length ≤ sizeLine) = True := eq_true (by show 0 ≤ sizeLine; decide)
theorem lz1 : ([a].length ≤ sizeLine) = True := eq_true (by show 1 ≤ sizeLine; decide)
theorem lz2 : ([a, b].length ≤ sizeLine) = True := eq_true (by show 2 ≤ sizeLine; decide)
theorem lz3 : ([a, b, c].length ≤ sizeLine) = True := eq_true (by show 3 ≤ sizeLine; decide)
theorem lz4 : ([a, b, c, d].length ≤ sizeLine) = True := eq_true (by show 4 ≤ sizeLine; decide)
theorem lz5 : ([a, b, c, d, e].length ≤ sizeLine) = True := eq_true (by show 5 ≤ sizeLine; decide)
theorem lz6 : ([a, b, c, d, e, f].length ≤ sizeLine) = True := eq_true (by show 6 ≤ sizeLine; decide)
theorem lz7 : ([a, b, c, d, e, f, g].length ≤ sizeLine) = True := eq_true (by show 7 ≤ sizeLine; decide)
end
mutual
def dat : D → Bool
  | .int _ => true
  | .str _ => true
  | .tup ds => dats ds
  | _ => false
def dats : List D → Bool
  | [] => true
  | d :: r => dat d && dats r
end
mutual
def dep : D → Nat
  | .tup ds => deps ds + 1
  | _ => 0
def deps : List D → Nat
  | [] => 0
  | d :: r => max (dep d) (deps r)
end
mutual
theorem dat_py : ∀ {d : D}, dat d = true → ∃ p, pyD d = some p ∧ p.depth = dep d
  | .int i, _ => ⟨.int i, by unfold pyD; rfl, by unfold dep PyData.depth; rfl⟩
  | .str x, _ => ⟨.str x, by unfold pyD; rfl, by unfold dep PyData.depth; rfl⟩
  | .tup ds, h => by
    unfold dat at h
    obtain ⟨ps, h1, h2⟩ := dats_py h
    refine ⟨.tuple ps, by unfold pyD; rw [h1] <;> rfl, ?_⟩
    unfold dep PyData.depth
    rw [h2]
  | .non, h => by cases h
  | .bl _, h => by cases h
  | .ref _, h => by cases h
  | .ty _, h => by cases h
  | .scr _, h => by cases h
theorem dats_py : ∀ {ds : List D}, dats ds = true → ∃ ps, pyDs ds = some ps ∧ PyData.depthAll ps = deps ds
  | [], _ => ⟨[], by unfold pyDs; rfl, by unfold deps PyData.depthAll; rfl⟩
  | d :: ds, h => by
    unfold dats at h
    rw [Bool.and_eq_true] at h
    obtain ⟨p, h1, h2⟩ := dat_py h.1
    obtain ⟨ps, h3, h4⟩ := dats_py h.2
    refine ⟨p :: ps, by unfold pyDs; rw [h1, h3], ?_⟩
    unfold deps PyData.depthAll
    rw [h2, h4]
end
mutual
theorem eqv_dat : ∀ {d e : D} {p q : PyData}, dat d = true → dat e = true → pyD d = some p → pyD e = some q → (PyData.eqv p q = true ↔ d = e)
  | .int i, e, p, q, _, he, hp, hq => by
    unfold pyD at hp; cases hp
    cases e with
    | int j => unfold pyD at hq; cases hq; simp [PyData.eqv]
    | str j => unfold pyD at hq; cases hq; simp [PyData.eqv]
    | tup es => unfold pyD at hq; cases z : pyDs es with
      | none => rw [z] at hq; cases hq
      | some ps => rw [z] at hq; cases hq; simp [PyData.eqv]
    | _ => cases he
  | .str i, e, p, q, _, he, hp, hq => by
    unfold pyD at hp; cases hp
    cases e with
    | int j => unfold pyD at hq; cases hq; simp [PyData.eqv]
    | str j => unfold pyD at hq; cases hq; simp [PyData.eqv]
    | tup es => unfold pyD at hq; cases z : pyDs es with
      | none => rw [z] at hq; cases hq
      | some ps => rw [z] at hq; cases hq; simp [PyData.eqv]
    | _ => cases he
  | .tup ds, e, p, q, hd, he, hp, hq => by
    unfold pyD at hp
    cases y : pyDs ds with
    | none => rw [y] at hp; cases hp
    | some ps =>
      rw [y] at hp; cases hp
      cases e with
      | int j => unfold pyD at hq; cases hq; simp [PyData.eqv]
      | str j => unfold pyD at hq; cases hq; simp [PyData.eqv]
      | tup es => unfold pyD at hq; cases z : pyDs es with
        | none => rw [z] at hq; cases hq
        | some qs =>
          rw [z] at hq; cases hq
          have := eqv_dats (by unfold dat at hd; exact hd) (by unfold dat at he; exact he) y z
          simp only [PyData.eqv, D.tup.injEq]
          exact this
      | _ => cases he
  | .non, _, _, _, h, _, _, _ => by cases h
  | .bl _, _, _, _, h, _, _, _ => by cases h
  | .ref _, _, _, _, h, _, _, _ => by cases h
  | .ty _, _, _, _, h, _, _, _ => by cases h
  | .scr _, _, _, _, h, _, _, _ => by cases h
theorem eqv_dats : ∀ {ds es : List D} {ps qs : List PyData}, dats ds = true → dats es = true → pyDs ds = some ps → pyDs es = some qs → (PyData.eqvAll ps qs = true ↔ ds = es)
  | [], es, ps, qs, _, _, hp, hq => by
    unfold pyDs at hp; cases hp
    cases es with
    | nil => unfold pyDs at hq; cases hq; simp [PyData.eqvAll]
    | cons e es =>
      unfold pyDs at hq
      split at hq <;> cases hq
      simp [PyData.eqvAll]
  | d :: ds, es, ps, qs, hd, he, hp, hq => by
    unfold dats at hd
    rw [Bool.and_eq_true] at hd
    obtain ⟨p, h1, _⟩ := dat_py hd.1
    obtain ⟨rs, h2, _⟩ := dats_py hd.2
    unfold pyDs at hp
    rw [h1, h2] at hp
    cases hp
    cases es with
    | nil => unfold pyDs at hq; cases hq; simp [PyData.eqvAll]
    | cons e es =>
      unfold dats at he
      rw [Bool.and_eq_true] at he
      obtain ⟨q, h3, _⟩ := dat_py he.1
      obtain ⟨ss, h4, _⟩ := dats_py he.2
      unfold pyDs at hq
      rw [h3, h4] at hq
      cases hq
      rw [PyData.eqvAll, Bool.and_eq_true, eqv_dat hd.1 he.1 h1 h3, eqv_dats hd.2 he.2 h2 h4, List.cons.injEq]
end
open Classical in
theorem eqv_dec {d e : D} {p q : PyData} (hd : dat d = true) (he : dat e = true) (hp : pyD d = some p) (hq : pyD e = some q) : PyData.eqv p q = decide (d = e) := by
  have := eqv_dat hd he hp hq
  by_cases h : d = e
  · rw [decide_eq_true h, this.mpr h]
  · rw [decide_eq_false h]
    exact Bool.eq_false_iff.mpr fun z => h (this.mp z)
open Classical in
/-- t == u, both tuples -/
theorem eqC_tt {S : Sto} {ds es : List D} {Q : Bool → Prop} (hd : dats ds = true) (he : dats es = true) (hm : min (deps ds) (deps es) ≤ 63) (h : Q (decide (ds = es))) : eqC (.tup ds) (.tup es) S Q := by
  have hd' : dat (.tup ds) = true := by unfold dat; exact hd
  have he' : dat (.tup es) = true := by unfold dat; exact he
  obtain ⟨p, h1, h2⟩ := dat_py hd'
  obtain ⟨q, h3, h4⟩ := dat_py he'
  refine ⟨p, q, h1, h3, ?_, ?_⟩
  · rw [h2, h4]; unfold dep; omega
  · rw [eqv_dec hd' he' h1 h3]
    have e : decide (D.tup ds = D.tup es) = decide (ds = es) := by
      by_cases z : ds = es
      · rw [decide_eq_true z, decide_eq_true (by rw [z])]
      · rw [decide_eq_false z, decide_eq_false (fun q => z (D.tup.inj q))]
    rw [e]
    exact h
/-- t == () -/
theorem eqC_t0 {S : Sto} {ds : List D} {Q : Bool → Prop} (hd : dats ds = true) (h : Q ds.isEmpty) : eqC (.tup ds) (.tup []) S Q := by
  refine eqC_tt hd rfl (by unfold deps; simp) ?_
  cases ds with
  | nil => simpa using h
  | cons d ds => simpa using h
open Classical in
theorem any_dec {d : D} {p : PyData} (hd : dat d = true) (hp : pyD d = some p) : ∀ {ds : List D} {ps : List PyData}, dats ds = true → pyDs ds = some ps → (ps.any fun z => PyData.eqv z p) = decide (d ∈ ds)
  | [], ps, _, h => by unfold pyDs at h; cases h; simp
  | e :: ds, ps, he, h => by
    unfold dats at he
    rw [Bool.and_eq_true] at he
    obtain ⟨q, h3, _⟩ := dat_py he.1
    obtain ⟨ss, h4, _⟩ := dats_py he.2
    unfold pyDs at h
    rw [h3, h4] at h
    cases h
    rw [List.any_cons, any_dec hd hp he.2 h4, eqv_dec he.1 hd h3 hp]
    by_cases z : e = d
    · subst z; simp
    · have z' : d ≠ e := fun q => z q.symm
      simp [z, z']
open Classical in
theorem inL_dat {d : D} {ds : List D} {Q : Bool → Prop} (hd : dat d = true) (he : dats ds = true) (hm : min (deps ds) (dep d) ≤ 63) (h : Q (decide (d ∈ ds))) : inL d ds Q := by
  obtain ⟨p, h1, h2⟩ := dat_py hd
  obtain ⟨ps, h3, h4⟩ := dats_py he
  exact .inr ⟨p, ps, h1, h3, by rw [h2, h4]; exact hm, by rw [any_dec hd h1 he h3]; exact h⟩
theorem dats_iff {ds : List D} : dats ds = true ↔ ∀ d ∈ ds, dat d = true := by
  induction ds with
  | nil => simp [dats]
  | cons d ds ih => rw [dats, Bool.and_eq_true, ih]; simp
theorem deps_le {ds : List D} {n : Nat} (h : ∀ d ∈ ds, dep d ≤ n) : deps ds ≤ n := by
  induction ds with
  | nil => simp [deps]
  | cons d ds ih =>
    rw [deps]
    have h1 := h d (by simp)
    have h2 := ih fun e he => h e (by simp [he])
    omega
end Z

/-! ### P61 -/
/-! P61: K58's statements and procedures, in plain Lean. -/
namespace Z
open PySem PySem.Spec PyProof.Rows L2
/-- an item: is it an array, its name -/
abbrev It := Bool × Str
def encI : It → D
  | (true, x) => .tup [.str "array", .str x]
  | (false, x) => .tup [.str "int", .str x]
def keyI : It → Str
  | (true, x) => "#" ++ x
  | (false, x) => x
inductive Ar where
  | arr (a : Str) | sub (n : Str)
def encA : Ar → D
  | .arr a => .tup [.str "array", .str a]
  | .sub n => .tup [.str "minus", .tup [.str "name", .str n], .tup [.str "number", .int 1]]
def Ar.isA : Ar → Bool
  | .arr _ => true
  | .sub _ => false
inductive St where
  | set (x i : Str) (v : Int) | push (n a : Str) | store (a j : Str) | pop (x a : Str) | pause (p : Int) | call (f : Str) (as : List Ar) (ts : List Str) (p : Int) | ife (i n : Str) (a b : List St) | wh (i n : Str) (b : List St) (p : Int)
def kdS : St → Str
  | .set _ _ _ => "set" | .push _ _ => "push" | .store _ _ => "store" | .pop _ _ => "pop" | .pause _ => "pause" | .call _ _ _ _ => "call" | .ife _ _ _ _ => "if" | .wh _ _ _ _ => "while"
def lessD (i n : Str) : D := .tup [.str "less", .tup [.str "name", .str i], .tup [.str "name", .str n]]
def setD (x i : Str) (v : Int) : D := .tup [.str x, .tup [.str "plus", .tup [.str "name", .str i], .tup [.str "number", .int v]]]
mutual
/-- m: with the points -/
def encS (m : Bool) : St → D
  | .set x i v => .tup [.str "set", .tup [setD x i v]]
  | .push n a => .tup [.str "push", .tup [.str "name", .str n], .str a]
  | .store a j => .tup [.str "store", .str a, .tup [.str "number", .int 0], .tup [.str "name", .str j]]
  | .pop x a => .tup [.str "pop", .str x, .str a]
  | .pause p => .tup (.str "pause" :: if m = true then [.int p] else [])
  | .call f as ts p => .tup (.str "call" :: .str f :: .tup (as.map encA) :: .tup (ts.map .str) :: if m = true then [.int p] else [])
  | .ife i n a b => .tup [.str "if", lessD i n, .tup (encB m a), .tup (encB m b)]
  | .wh i n b p => .tup (.str "while" :: lessD i n :: .tup (encB m b) :: if m = true then [.int p] else [])
def encB (m : Bool) : List St → List D
  | [] => []
  | s :: r => encS m s :: encB m r
end
theorem encB_map (m : Bool) : ∀ b : List St, encB m b = b.map (encS m)
  | [] => rfl
  | s :: r => by rw [encB, encB_map m r, List.map_cons]
theorem encB_len (m : Bool) (b : List St) : (encB m b).length = b.length := by rw [encB_map, List.length_map]
theorem encS_hd (m : Bool) (s : St) : ∃ l, encS m s = .tup (.str (kdS s) :: l) := by cases s <;> exact ⟨_, by rw [encS] <;> rfl⟩
mutual
def numS : St → Int → St × Int
  | .ife i n a b, p => (.ife i n (numB a p).1 (numB b (numB a p).2).1, (numB b (numB a p).2).2)
  | .wh i n b _, p => (.wh i n (numB b (p + 1)).1 p, (numB b (p + 1)).2)
  | .pause _, p => (.pause p, p + 1)
  | .call f as ts _, p => (.call f as ts p, p + 2)
  | .set x i v, p => (.set x i v, p)
  | .push n a, p => (.push n a, p)
  | .store a j, p => (.store a j, p)
  | .pop x a, p => (.pop x a, p)
def numB : List St → Int → List St × Int
  | [], p => ([], p)
  | s :: r, p => ((numS s p).1 :: (numB r (numS s p).2).1, (numB r (numS s p).2).2)
end
theorem numB_snoc (s : St) : ∀ (pre : List St) (p : Int), numB (pre ++ [s]) p = ((numB pre p).1 ++ [(numS s (numB pre p).2).1], (numS s (numB pre p).2).2)
  | [], p => by simp [numB]
  | t :: pre, p => by
    rw [List.cons_append, numB, numB_snoc s pre, numB]
    rfl
mutual
def stmS : St → List St
  | .ife i n a b => .ife i n a b :: (stmB a ++ stmB b)
  | .wh i n b p => .wh i n b p :: stmB b
  | .set x i v => [.set x i v]
  | .push n a => [.push n a]
  | .store a j => [.store a j]
  | .pop x a => [.pop x a]
  | .pause p => [.pause p]
  | .call f as ts p => [.call f as ts p]
def stmB : List St → List St
  | [] => []
  | s :: r => stmS s ++ stmB r
end
theorem stmB_app : ∀ a b : List St, stmB (a ++ b) = stmB a ++ stmB b
  | [], b => rfl
  | s :: a, b => by rw [List.cons_append, stmB, stmB_app a b, stmB, List.append_assoc]
theorem stmB_one (s : St) : stmB [s] = stmS s := by simp [stmB]
/-- what a statement changes -/
def asgI : St → List It
  | .set x _ _ => [(false, x)]
  | .push _ a => [(true, a)]
  | .pop x a => [(false, x), (true, a)]
  | .call _ _ ts _ => ts.map fun x => (false, x)
  | _ => []
/-- what a statement keeps by itself -/
structure Env where
  ivs : List Str
  avs : List Str
  heads : List (Str × List Bool)
def okT (V : Env) : St → Prop
  | .set x _ _ => x ∈ V.ivs
  | .push _ a => a ∈ V.avs
  | .store _ _ => True
  | .pop x a => x ∈ V.ivs ∧ a ∈ V.avs
  | .pause _ => True
  | .call f as ts _ => (f, as.map Ar.isA) ∈ V.heads ∧ (∀ a, Ar.arr a ∈ as → a ∈ V.avs) ∧ ts.length ≤ 1 ∧ (∀ x ∈ ts, x ∈ V.ivs) ∧ as.length = 3
  | .ife _ _ _ _ => True
  | .wh _ _ _ _ => True
mutual
def okS (V : Env) : Nat → St → Prop
  | d, .ife i n a b => (0 < d ∧ a.length ≤ 4 ∧ b.length ≤ 4) ∧ okB V (d - 1) a ∧ okB V (d - 1) b
  | d, .wh i n b p => (0 < d ∧ b.length ≤ 4) ∧ okB V (d - 1) b
  | _, .set x i v => okT V (.set x i v)
  | _, .push n a => okT V (.push n a)
  | _, .store a j => okT V (.store a j)
  | _, .pop x a => okT V (.pop x a)
  | _, .pause p => okT V (.pause p)
  | _, .call f as ts p => okT V (.call f as ts p)
def okB (V : Env) : Nat → List St → Prop
  | _, [] => True
  | d, s :: r => okS V d s ∧ okB V d r
end
theorem okB_iff {V : Env} {d : Nat} : ∀ {b : List St}, okB V d b ↔ ∀ s ∈ b, okS V d s
  | [] => by simp [okB]
  | s :: r => by rw [okB, okB_iff]; simp
theorem okB_app {V : Env} {d : Nat} {a b : List St} (h : okB V d a) (h2 : okB V d b) : okB V d (a ++ b) := okB_iff.mpr fun s hs => by
  rcases List.mem_append.mp hs with hs | hs
  · exact okB_iff.mp h s hs
  · exact okB_iff.mp h2 s hs
mutual
theorem okS_stm {V : Env} : ∀ {s : St} {d : Nat}, okS V d s → ∀ t ∈ stmS s, okT V t
  | .ife i n a b, d, h, t, ht => by
    rw [okS] at h
    rw [stmS] at ht
    rcases List.mem_cons.mp ht with rfl | ht
    · trivial
    · rcases List.mem_append.mp ht with ht | ht
      · exact okB_stm h.2.1 t ht
      · exact okB_stm h.2.2 t ht
  | .wh i n b p, d, h, t, ht => by
    rw [okS] at h
    rw [stmS] at ht
    rcases List.mem_cons.mp ht with rfl | ht
    · trivial
    · exact okB_stm h.2 t ht
  | .set x i v, d, h, t, ht => by rw [okS] at h; rw [stmS] at ht; rw [List.mem_singleton.mp ht]; exact h
  | .push x i, d, h, t, ht => by rw [okS] at h; rw [stmS] at ht; rw [List.mem_singleton.mp ht]; exact h
  | .store x i, d, h, t, ht => by rw [okS] at h; rw [stmS] at ht; rw [List.mem_singleton.mp ht]; exact h
  | .pop x i, d, h, t, ht => by rw [okS] at h; rw [stmS] at ht; rw [List.mem_singleton.mp ht]; exact h
  | .pause p, d, h, t, ht => by rw [okS] at h; rw [stmS] at ht; rw [List.mem_singleton.mp ht]; exact h
  | .call f as ts p, d, h, t, ht => by rw [okS] at h; rw [stmS] at ht; rw [List.mem_singleton.mp ht]; exact h
theorem okB_stm {V : Env} : ∀ {b : List St} {d : Nat}, okB V d b → ∀ t ∈ stmB b, okT V t
  | [], d, h, t, ht => by simp [stmB] at ht
  | s :: r, d, h, t, ht => by
    rw [okB] at h
    rw [stmB] at ht
    rcases List.mem_append.mp ht with ht | ht
    · exact okS_stm h.1 t ht
    · exact okB_stm h.2 t ht
end
def sN : Nat → Nat
  | 0 => 1
  | d + 1 => 1 + 8 * sN d
theorem sN_pos : ∀ d, 1 ≤ sN d
  | 0 => Nat.le_refl _
  | d + 1 => by rw [sN]; omega
theorem sN_le : ∀ {d : Nat}, 0 < d → 1 + 8 * sN (d - 1) ≤ sN d
  | d + 1, _ => by rw [sN]; exact Nat.le_refl _
mutual
theorem stmS_len {V : Env} : ∀ {s : St} {d : Nat}, okS V d s → (stmS s).length ≤ sN d
  | .ife i n a b, d, h => by
    rw [okS] at h
    obtain ⟨⟨h0, h1, h2⟩, h3, h4⟩ := h
    have e1 := stmB_len h3
    have e2 := stmB_len h4
    have m1 : a.length * sN (d - 1) ≤ 4 * sN (d - 1) := Nat.mul_le_mul_right _ h1
    have m2 : b.length * sN (d - 1) ≤ 4 * sN (d - 1) := Nat.mul_le_mul_right _ h2
    have m3 := sN_le h0
    rw [stmS, List.length_cons, List.length_append]
    omega
  | .wh i n b p, d, h => by
    rw [okS] at h
    obtain ⟨⟨h0, h2⟩, h4⟩ := h
    have e2 := stmB_len h4
    have m2 : b.length * sN (d - 1) ≤ 4 * sN (d - 1) := Nat.mul_le_mul_right _ h2
    have m3 := sN_le h0
    rw [stmS, List.length_cons]
    omega
  | .set x i v, d, h => by rw [stmS]; exact sN_pos d
  | .push x i, d, h => by rw [stmS]; exact sN_pos d
  | .store x i, d, h => by rw [stmS]; exact sN_pos d
  | .pop x i, d, h => by rw [stmS]; exact sN_pos d
  | .pause p, d, h => by rw [stmS]; exact sN_pos d
  | .call f as ts p, d, h => by rw [stmS]; exact sN_pos d
theorem stmB_len {V : Env} : ∀ {b : List St} {d : Nat}, okB V d b → (stmB b).length ≤ b.length * sN d
  | [], d, h => by simp [stmB]
  | s :: r, d, h => by
    rw [okB] at h
    have h1 := stmS_len h.1
    have h2 := stmB_len h.2
    rw [stmB, List.length_append, List.length_cons, Nat.add_mul, Nat.one_mul]
    omega
end
mutual
theorem numS_ok {V : Env} : ∀ {s : St} {d : Nat} {p : Int}, okS V d s → okS V d (numS s p).1
  | .ife i n a b, d, p, h => by
    rw [okS] at h
    rw [numS, okS]
    have h1 := numB_ok (p := p) h.2.1
    have h2 := numB_ok (p := (numB a p).2) h.2.2
    exact ⟨⟨h.1.1, by rw [h1.2]; exact h.1.2.1, by rw [h2.2]; exact h.1.2.2⟩, h1.1, h2.1⟩
  | .wh i n b q, d, p, h => by
    rw [okS] at h
    rw [numS, okS]
    have h1 := numB_ok (p := p + 1) h.2
    exact ⟨⟨h.1.1, by rw [h1.2]; exact h.1.2⟩, h1.1⟩
  | .set x i v, d, p, h => by rw [numS]; exact h
  | .push x i, d, p, h => by rw [numS]; exact h
  | .store x i, d, p, h => by rw [numS]; exact h
  | .pop x i, d, p, h => by rw [numS]; exact h
  | .pause q, d, p, h => by rw [numS, okS]; trivial
  | .call f as ts q, d, p, h => by rw [okS] at h; rw [numS, okS]; exact h
theorem numB_ok {V : Env} : ∀ {b : List St} {d : Nat} {p : Int}, okB V d b → okB V d (numB b p).1 ∧ (numB b p).1.length = b.length
  | [], d, p, h => by rw [numB]; exact ⟨h, rfl⟩
  | s :: r, d, p, h => by
    rw [okB] at h
    rw [numB, okB]
    have h1 := numS_ok (p := p) h.1
    have h2 := numB_ok (p := (numS s p).2) h.2
    exact ⟨⟨h1, h2.1⟩, by simp [h2.2]⟩
end
/-! the whiles around each point, of a numbered body -/
mutual
def nstS : St → List Int → List (List Int)
  | .wh _ _ b p, n => (n ++ [p]) :: nstB b (n ++ [p])
  | .ife _ _ a b, n => nstB a n ++ nstB b n
  | .pause _, n => [n]
  | .call _ _ _ _, n => [n, n]
  | .set _ _ _, _ => []
  | .push _ _, _ => []
  | .store _ _, _ => []
  | .pop _ _, _ => []
def nstB : List St → List Int → List (List Int)
  | [], _ => []
  | s :: r, n => nstS s n ++ nstB r n
end
theorem nstB_snoc (s : St) (n : List Int) : ∀ pre : List St, nstB (pre ++ [s]) n = nstB pre n ++ nstS s n
  | [] => by simp [nstB]
  | t :: pre => by rw [List.cons_append, nstB, nstB_snoc s n pre, nstB, List.append_assoc]
/-- a place: point, statement, rest, nest -/
abbrev Plc := Int × St × D × List Int
def encQ (q : Plc) : D := .tup [.int q.1, encS true q.2.1, q.2.2.1, .tup (q.2.2.2.map .int)]
mutual
def plcS : St → D → List Int → List Plc
  | .wh i n b p, a, ns => (p, .wh i n b p, a, ns ++ [p]) :: plcB (.tup (encB true b)) (.tup [.str "loop", .int p]) (ns ++ [p]) 0 b
  | .ife _ _ b c, a, ns => plcB (.tup (encB true b)) a ns 0 b ++ plcB (.tup (encB true c)) a ns 0 c
  | .pause p, a, ns => [(p, .pause p, a, ns)]
  | .call f as ts p, a, ns => [(p, .call f as ts p, a, ns)]
  | .set _ _ _, _, _ => []
  | .push _ _, _, _ => []
  | .store _ _, _, _ => []
  | .pop _ _, _, _ => []
def plcB (w r : D) (ns : List Int) : Nat → List St → List Plc
  | _, [] => []
  | i, s :: t => plcS s (.tup [.str "body", w, .int ((i : Int) + 1), r]) ns ++ plcB w r ns (i + 1) t
end
theorem plcB_snoc (w r : D) (ns : List Int) (s : St) : ∀ (pre : List St) (i : Nat), plcB w r ns i (pre ++ [s]) = plcB w r ns i pre ++ plcS s (.tup [.str "body", w, .int (((i + pre.length : Nat) : Int) + 1), r]) ns
  | [], i => by simp [plcB]
  | t :: pre, i => by
    rw [List.cons_append, plcB, plcB_snoc w r ns s pre (i + 1), plcB, List.append_assoc, List.length_cons]
    have e : i + 1 + pre.length = i + (pre.length + 1) := by omega
    rw [e]
def isCall : St → Bool
  | .call _ _ _ _ => true
  | _ => false
def tolQ (q : Plc) : List (List Int) := if isCall q.2.1 = true then [q.2.2.2, q.2.2.2] else [q.2.2.2]
mutual
theorem plcS_tol : ∀ (s : St) (a : D) (ns : List Int), (plcS s a ns).flatMap tolQ = nstS s ns
  | .wh i n b p, a, ns => by rw [plcS, nstS, List.flatMap_cons, plcB_tol]; rfl
  | .ife _ _ b c, a, ns => by rw [plcS, nstS, List.flatMap_append, plcB_tol, plcB_tol]
  | .pause p, a, ns => by rw [plcS, nstS]; rfl
  | .call f as ts p, a, ns => by rw [plcS, nstS]; rfl
  | .set _ _ _, _, _ => by rw [plcS, nstS]; rfl
  | .push _ _, _, _ => by rw [plcS, nstS]; rfl
  | .store _ _, _, _ => by rw [plcS, nstS]; rfl
  | .pop _ _, _, _ => by rw [plcS, nstS]; rfl
theorem plcB_tol : ∀ (w r : D) (ns : List Int) (i : Nat) (b : List St), (plcB w r ns i b).flatMap tolQ = nstB b ns
  | w, r, ns, _, [] => by rw [plcB, nstB]; rfl
  | w, r, ns, i, s :: t => by rw [plcB, nstB, List.flatMap_append, plcS_tol, plcB_tol]
end
mutual
theorem plcS_len : ∀ (s : St) (a : D) (ns : List Int), (plcS s a ns).length ≤ (stmS s).length
  | .wh i n b p, a, ns => by
    have := plcB_len (.tup (encB true b)) (.tup [.str "loop", .int p]) (ns ++ [p]) 0 b
    rw [plcS, stmS, List.length_cons, List.length_cons]; omega
  | .ife _ _ b c, a, ns => by
    have h1 := plcB_len (.tup (encB true b)) a ns 0 b
    have h2 := plcB_len (.tup (encB true c)) a ns 0 c
    rw [plcS, stmS, List.length_append, List.length_cons, List.length_append]; omega
  | .pause p, a, ns => by rw [plcS, stmS]; exact Nat.le_refl _
  | .call f as ts p, a, ns => by rw [plcS, stmS]; exact Nat.le_refl _
  | .set _ _ _, _, _ => by rw [plcS, stmS]; simp
  | .push _ _, _, _ => by rw [plcS, stmS]; simp
  | .store _ _, _, _ => by rw [plcS, stmS]; simp
  | .pop _ _, _, _ => by rw [plcS, stmS]; simp
theorem plcB_len : ∀ (w r : D) (ns : List Int) (i : Nat) (b : List St), (plcB w r ns i b).length ≤ (stmB b).length
  | w, r, ns, _, [] => by rw [plcB]; simp
  | w, r, ns, i, s :: t => by
    have h1 := plcS_len s (.tup [.str "body", w, .int ((i : Int) + 1), r]) ns
    have h2 := plcB_len w r ns (i + 1) t
    rw [plcB, stmB, List.length_append, List.length_append]; omega
end
mutual
theorem plcS_nst : ∀ (s : St) (a : D) (ns : List Int) {V : Env} {d : Nat}, okS V d s → ∀ q ∈ plcS s a ns, q.2.2.2.length ≤ ns.length + d
  | .wh i n b p, a, ns, V, d, h, q, hq => by
    rw [okS] at h
    rw [plcS] at hq
    rcases List.mem_cons.mp hq with rfl | hq
    · have := h.1.1; simp; omega
    · have := plcB_nst (.tup (encB true b)) (.tup [.str "loop", .int p]) (ns ++ [p]) 0 b h.2 q hq
      have := h.1.1
      simp at *; omega
  | .ife _ _ b c, a, ns, V, d, h, q, hq => by
    rw [okS] at h
    rw [plcS] at hq
    rcases List.mem_append.mp hq with hq | hq
    · have := plcB_nst _ _ _ 0 b h.2.1 q hq; omega
    · have := plcB_nst _ _ _ 0 c h.2.2 q hq; omega
  | .pause p, a, ns, V, d, h, q, hq => by rw [plcS] at hq; rw [List.mem_singleton.mp hq]; simp
  | .call f as ts p, a, ns, V, d, h, q, hq => by rw [plcS] at hq; rw [List.mem_singleton.mp hq]; simp
  | .set _ _ _, _, _, _, _, _, q, hq => by rw [plcS] at hq; simp at hq
  | .push _ _, _, _, _, _, _, q, hq => by rw [plcS] at hq; simp at hq
  | .store _ _, _, _, _, _, _, q, hq => by rw [plcS] at hq; simp at hq
  | .pop _ _, _, _, _, _, _, q, hq => by rw [plcS] at hq; simp at hq
theorem plcB_nst : ∀ (w r : D) (ns : List Int) (i : Nat) (b : List St) {V : Env} {d : Nat}, okB V d b → ∀ q ∈ plcB w r ns i b, q.2.2.2.length ≤ ns.length + d
  | w, r, ns, _, [], V, d, h, q, hq => by rw [plcB] at hq; simp at hq
  | w, r, ns, i, s :: t, V, d, h, q, hq => by
    rw [okB] at h
    rw [plcB] at hq
    rcases List.mem_append.mp hq with hq | hq
    · exact plcS_nst s _ ns h.1 q hq
    · exact plcB_nst w r ns (i + 1) t h.2 q hq
end
mutual
theorem nstS_len : ∀ (s : St) (ns : List Int), (nstS s ns).length ≤ 2 * (stmS s).length
  | .wh i n b p, ns => by
    have := nstB_len b (ns ++ [p])
    rw [nstS, stmS, List.length_cons, List.length_cons]; omega
  | .ife _ _ b c, ns => by
    have h1 := nstB_len b ns
    have h2 := nstB_len c ns
    rw [nstS, stmS, List.length_append, List.length_cons, List.length_append]; omega
  | .pause p, ns => by rw [nstS, stmS]; simp
  | .call f as ts p, ns => by rw [nstS, stmS]; simp
  | .set _ _ _, _ => by rw [nstS]; simp
  | .push _ _, _ => by rw [nstS]; simp
  | .store _ _, _ => by rw [nstS]; simp
  | .pop _ _, _ => by rw [nstS]; simp
theorem nstB_len : ∀ (b : List St) (ns : List Int), (nstB b ns).length ≤ 2 * (stmB b).length
  | [], ns => by rw [nstB]; simp
  | s :: t, ns => by
    have h1 := nstS_len s ns
    have h2 := nstB_len t ns
    rw [nstB, stmB, List.length_append, List.length_append]; omega
end
end Z

/-! ### P62 -/
/-! P62: procedures, what moves. -/
namespace Z
open PySem PySem.Spec PyProof.Rows L2
structure Pr where
  nm : Str
  its : List It
  res : List Str
  loc : List It
  body : List St
  ivs : List Str
  avs : List Str
def prL (p : Pr) : List D := [.str p.nm, .tup (p.its.map encI), .tup (p.res.map .str), .tup (p.loc.map encI), .tup [], .tup [], .tup [], .tup [], .tup (encB false p.body)]
theorem pr_0 {p : Pr} : atI (prL p) 0 = some (.str p.nm) := rfl
theorem pr_1 {p : Pr} : atI (prL p) 1 = some (.tup (p.its.map encI)) := rfl
theorem pr_8 {p : Pr} : atI (prL p) 8 = some (.tup (encB false p.body)) := rfl
def encP8 (p : Pr) : D := .tup (prL p)
def coreD (C : List Pr) : D := .tup (C.map encP8)
def Pr.all (p : Pr) : List It := p.ivs.map (fun x => (false, x)) ++ p.avs.map fun a => (true, a)
def Pr.stm (p : Pr) : List St := stmB p.body
def hdsC (C : List Pr) : List (Str × List Bool) := C.map fun p => (p.nm, p.its.map (·.1))
def envC (C : List Pr) (p : Pr) : Env := ⟨p.ivs, p.avs, hdsC C⟩
structure OkP (C : List Pr) (p : Pr) : Prop where
  ok : okB (envC C p) 3 p.body
  ln : p.body.length ≤ 4
  il : p.its.length = 3
  it : ∀ i ∈ p.its, i ∈ p.all
  al : p.avs.length = 3
  sh : ∀ i ∈ p.all, i.2.length ≤ 10
  i2 : ∀ i ∈ p.all, ∀ j ∈ p.all, i.2 = j.2 → i = j
  iK : ∀ i ∈ p.all, ∀ j ∈ p.all, keyI i = keyI j → i = j
  nl : p.nm.length ≤ 10
structure OkC (C : List Pr) : Prop where
  len : 1 ≤ C.length ∧ C.length ≤ 6
  asc : (C.map (·.nm)).Pairwise sLt
  ok : ∀ p ∈ C, OkP C p
theorem asc_nodup {l : List Str} (h : l.Pairwise sLt) : l.Nodup := h.imp fun h => sLt_ne h
theorem nodup_inj {α β : Type} (f : α → β) : ∀ {l : List α}, (l.map f).Nodup → ∀ {a b : α}, a ∈ l → b ∈ l → f a = f b → a = b
  | x :: l, h, a, b, ha, hb, e => by
    rw [List.map_cons, List.nodup_cons] at h
    rcases List.mem_cons.mp ha with e1 | ha1
    · rcases List.mem_cons.mp hb with e2 | hb1
      · rw [e1, e2]
      · exact (h.1 (List.mem_map.mpr ⟨b, hb1, by rw [← e, e1]⟩)).elim
    · rcases List.mem_cons.mp hb with e2 | hb1
      · exact (h.1 (List.mem_map.mpr ⟨a, ha1, by rw [e, e2]⟩)).elim
      · exact nodup_inj f h.2 ha1 hb1 e
theorem OkC.inj {C : List Pr} (h : OkC C) {p q : Pr} (hp : p ∈ C) (hq : q ∈ C) (e : p.nm = q.nm) : p = q := nodup_inj _ (asc_nodup h.asc) hp hq e
theorem nodup_filter : ∀ {C : List Pr}, (C.map (·.nm)).Nodup → ∀ {p : Pr}, p ∈ C → C.filter (fun q => decide (q.nm = p.nm)) = [p]
  | x :: l, h, p, hp => by
    rw [List.map_cons, List.nodup_cons] at h
    rcases List.mem_cons.mp hp with rfl | hp
    · rw [List.filter_cons, decide_eq_true rfl, if_pos rfl, List.filter_eq_nil_iff.mpr]
      intro q hq
      simp only [decide_eq_true_eq]
      intro e
      exact h.1 (List.mem_map.mpr ⟨q, hq, e⟩)
    · have : ¬ x.nm = p.nm := fun e => h.1 (List.mem_map.mpr ⟨p, hp, e.symm⟩)
      rw [List.filter_cons, decide_eq_false this, if_neg (by simp)]
      exact nodup_filter h.2 hp
theorem OkC.flt {C : List Pr} (h : OkC C) {p : Pr} (hp : p ∈ C) : C.filter (fun q => decide (q.nm = p.nm)) = [p] := nodup_filter (asc_nodup h.asc) hp
def itsC (C : List Pr) (f : Str) : List It := ((C.filter fun q => decide (q.nm = f)).head?.map (·.its)).getD []
theorem OkC.its {C : List Pr} (h : OkC C) {p : Pr} (hp : p ∈ C) : itsC C p.nm = p.its := by unfold itsC; rw [h.flt hp]; rfl
theorem OkP.sl {C : List Pr} {p : Pr} (h : OkP C p) : p.stm.length ≤ 2340 := by
  have h1 := stmB_len h.ok
  have h2 : p.body.length * sN 3 ≤ 4 * sN 3 := Nat.mul_le_mul_right _ h.ln
  have h3 : sN 3 = 585 := rfl
  unfold Pr.stm
  omega
theorem OkP.st {C : List Pr} {p : Pr} (h : OkP C p) {s : St} (hs : s ∈ p.stm) : okT (envC C p) s := okB_stm h.ok s hs
theorem OkC.callee {C : List Pr} (h : OkC C) {p : Pr} (hp : p ∈ C) {f : Str} {as : List Ar} {ts : List Str} {n : Int} (hs : St.call f as ts n ∈ p.stm) : ∃ q ∈ C, q.nm = f ∧ as.map Ar.isA = q.its.map (·.1) ∧ as.length = 3 ∧ (∀ a, Ar.arr a ∈ as → a ∈ p.avs) ∧ ts.length ≤ 1 := by
  obtain ⟨h1, h2, h3, h4, h5⟩ := (h.ok p hp).st hs
  obtain ⟨q, hq, e⟩ := List.mem_map.mp (show (f, as.map Ar.isA) ∈ C.map fun p => (p.nm, p.its.map (·.1)) from h1)
  rw [Prod.mk.injEq] at e
  exact ⟨q, hq, e.1, e.2.symm, h5, h2, h3⟩
theorem asgI_all {C : List Pr} {p : Pr} (h : OkP C p) {s : St} (hs : s ∈ p.stm) {i : It} (hi : i ∈ asgI s) : i ∈ p.all := by
  have ht := h.st hs
  have l1 : ∀ x, x ∈ p.ivs → (false, x) ∈ p.all := fun x hx => List.mem_append_left _ (List.mem_map.mpr ⟨x, hx, rfl⟩)
  have l2 : ∀ x, x ∈ p.avs → (true, x) ∈ p.all := fun x hx => List.mem_append_right _ (List.mem_map.mpr ⟨x, hx, rfl⟩)
  cases s with
  | set x j v => rw [List.mem_singleton.mp hi]; exact l1 x ht
  | push n a => rw [List.mem_singleton.mp hi]; exact l2 a ht
  | pop x a =>
    rcases List.mem_cons.mp hi with rfl | hi
    · exact l1 x ht.1
    · rw [List.mem_singleton.mp hi]; exact l2 a ht.2
  | call f as ts n =>
    obtain ⟨x, hx, rfl⟩ := List.mem_map.mp hi
    exact l1 x (ht.2.2.2.1 x hx)
  | store a j => simp [asgI] at hi
  | pause q => simp [asgI] at hi
  | ife i n a b => simp [asgI] at hi
  | wh i n a b => simp [asgI] at hi
theorem asgI_len {C : List Pr} {p : Pr} (h : OkP C p) {s : St} (hs : s ∈ p.stm) : (asgI s).length ≤ 2 := by
  have ht := h.st hs
  cases s with
  | call f as ts n => simp only [asgI, List.length_map]; have := ht.2.2.1; omega
  | _ => simp [asgI]
/-! what moves -/
inductive Mv (C : List Pr) : Str → It → Prop
  | base {p : Pr} {s : St} {i : It} : p ∈ C → s ∈ p.stm → i ∈ asgI s → Mv C p.nm i
  | on {p q : Pr} {as : List Ar} {ts : List Str} {n : Int} {y z : Str} : p ∈ C → St.call q.nm as ts n ∈ p.stm → q ∈ C → ((true, y), Ar.arr z) ∈ q.its.zip as → Mv C q.nm (true, y) → Mv C p.nm (true, z)
theorem zip_kind {α β : Type} (f : α → Bool) (g : β → Bool) : ∀ {l : List α} {m : List β}, l.map f = m.map g → ∀ z ∈ l.zip m, f z.1 = g z.2
  | [], _, _, z, hz => by simp at hz
  | a :: l, [], h, z, hz => by simp at hz
  | a :: l, b :: m, h, z, hz => by
    rw [List.map_cons, List.map_cons, List.cons.injEq] at h
    rw [List.zip_cons_cons] at hz
    rcases List.mem_cons.mp hz with rfl | hz
    · exact h.1
    · exact zip_kind f g h.2 z hz
theorem Mv.all {C : List Pr} (h : OkC C) {f : Str} {i : It} (m : Mv C f i) : ∀ {p : Pr}, p ∈ C → p.nm = f → i ∈ p.all := by
  cases m with
  | @base p' s i hp hs hi =>
    intro p hq e
    rw [h.inj hq hp e]
    exact asgI_all (h.ok _ hp) hs hi
  | @on p' q as ts n y z hp hs hq hz m =>
    intro p hq' e
    rw [h.inj hq' hp e]
    obtain ⟨q2, h2, e2, h3, h4, h5, h6⟩ := h.callee hp hs
    exact List.mem_append_right _ (List.mem_map.mpr ⟨z, h5 z (List.of_mem_zip hz).2, rfl⟩)
/-! the law's table -/
abbrev Pair := Str × Str
def hanA (M : List Pair) (p f : Str) : It × Ar → Option Pair
  | (y, .arr a) => if (f, y.2) ∈ M ∧ ¬ (p, a) ∈ M then some (p, a) else none
  | (_, .sub _) => none
def hanS (C : List Pr) (M : List Pair) (p : Str) : St → List Pair
  | .call f as _ _ => ((itsC C f).zip as).filterMap (hanA M p f)
  | _ => []
def handed (C : List Pr) (M : List Pair) : List Pair := C.flatMap fun p => p.stm.flatMap (hanS C M p.nm)
def LSnd (C : List Pr) (M : List Pair) : Prop := ∀ z ∈ M, ∃ i, i.2 = z.2 ∧ Mv C z.1 i
def LBas (C : List Pr) (M : List Pair) : Prop := ∀ p ∈ C, ∀ s ∈ p.stm, ∀ i ∈ asgI s, (p.nm, i.2) ∈ M
theorem han_mem {C : List Pr} {M : List Pair} {z : Pair} (hz : z ∈ handed C M) : ∃ p ∈ C, ∃ f as ts n y a, St.call f as ts n ∈ p.stm ∧ (y, Ar.arr a) ∈ (itsC C f).zip as ∧ (f, y.2) ∈ M ∧ ¬ (p.nm, a) ∈ M ∧ z = (p.nm, a) := by
  obtain ⟨p, hp, hz⟩ := List.mem_flatMap.mp hz
  obtain ⟨s, hs, hz⟩ := List.mem_flatMap.mp hz
  cases s with
  | call f as ts n =>
    obtain ⟨⟨y, ar⟩, hw, e⟩ := List.mem_filterMap.mp hz
    cases ar with
    | arr a =>
      simp only [hanA] at e
      split at e
      · rename_i hc
        cases e
        exact ⟨p, hp, f, as, ts, n, y, a, hs, hw, hc.1, hc.2, rfl⟩
      · cases e
    | sub _ => cases e
  | _ => simp [hanS] at hz
theorem han_snd {C : List Pr} (h : OkC C) {M : List Pair} (hM : LSnd C M) : LSnd C (M ++ handed C M) := fun z hz => by
  rcases List.mem_append.mp hz with hz | hz
  · exact hM z hz
  · obtain ⟨p, hp, f, as, ts, n, y, a, hs, hw, hf, _, rfl⟩ := han_mem hz
    obtain ⟨q, hq, rfl, hk, _, _, _⟩ := h.callee hp hs
    rw [h.its hq] at hw
    obtain ⟨i, hi, m⟩ := hM _ hf
    have hy : y ∈ q.all := (h.ok q hq).it y (List.of_mem_zip hw).1
    have e : i = y := (h.ok q hq).i2 i (m.all h hq rfl) y hy hi
    subst e
    have hb : i.1 = true := zip_kind (·.1) Ar.isA hk.symm _ hw
    obtain ⟨b, x⟩ := i
    simp only at hb
    subst hb
    exact ⟨(true, a), rfl, .on hp hs hq hw m⟩
theorem law_mv {C : List Pr} (h : OkC C) {M : List Pair} (h1 : LSnd C M) (h2 : LBas C M) (h3 : handed C M = []) : ∀ p ∈ C, ∀ i ∈ p.all, (p.nm, i.2) ∈ M ↔ Mv C p.nm i := by
  have back : ∀ {f : Str} {i : It}, Mv C f i → (f, i.2) ∈ M := by
    intro f i m
    induction m with
    | base hp hs hi => exact h2 _ hp _ hs _ hi
    | @on p q as ts n y z hp hs hq hz m ih =>
      refine Classical.byContradiction fun hc => ?_
      have : (p.nm, z) ∈ handed C M := by
        refine List.mem_flatMap.mpr ⟨p, hp, List.mem_flatMap.mpr ⟨_, hs, ?_⟩⟩
        refine List.mem_filterMap.mpr ⟨((true, y), Ar.arr z), by rw [h.its hq]; exact hz, ?_⟩
        exact if_pos ⟨ih, hc⟩
      rw [h3] at this
      cases this
  intro p hp i hi
  refine ⟨fun hm => ?_, back⟩
  obtain ⟨j, hj, m⟩ := h1 _ hm
  have := (h.ok p hp).i2 j (m.all h hp rfl) i hi hj
  rw [← this]; exact m
/-- counting -/
theorem cnt_le {α : Type} {P P' : α → Bool} : ∀ {U : List α}, (∀ u ∈ U, P' u = true → P u = true) → (U.filter P').length ≤ (U.filter P).length
  | [], _ => Nat.le_refl _
  | u :: U, h => by
    have ih := cnt_le (U := U) fun v hv => h v (by simp [hv])
    have hu := h u (by simp)
    rw [List.filter_cons, List.filter_cons]
    cases e' : P' u <;> cases e : P u <;> simp_all
    omega
theorem cnt_lt {α : Type} {P P' : α → Bool} : ∀ {U : List α}, (∀ u ∈ U, P' u = true → P u = true) → (∃ u ∈ U, P u = true ∧ P' u = false) → (U.filter P').length < (U.filter P).length
  | [], _, ⟨u, hu, _⟩ => by simp at hu
  | u :: U, h, ⟨v, hv, h1, h2⟩ => by
    have le := cnt_le (U := U) fun v hv => h v (by simp [hv])
    have hu := h u (by simp)
    rw [List.filter_cons, List.filter_cons]
    rcases List.mem_cons.mp hv with rfl | hv
    · rw [h1, h2, if_pos rfl, if_neg (by simp), List.length_cons]; omega
    · have ih := cnt_lt (U := U) (fun v hv => h v (by simp [hv])) ⟨v, hv, h1, h2⟩
      cases e' : P' u <;> cases e : P u <;> simp_all
      omega
def univ (C : List Pr) : List It → List Pair := fun _ => C.flatMap fun p => p.avs.map fun a => (p.nm, a)
def uniL (C : List Pr) : List Pair := C.flatMap fun p => p.avs.map fun a => (p.nm, a)
theorem uni_len {C : List Pr} (h : OkC C) : (uniL C).length ≤ 18 := by
  have : ∀ l : List Pr, (∀ p ∈ l, p.avs.length = 3) → (l.flatMap fun p => p.avs.map fun a => (p.nm, a)).length = 3 * l.length := by
    intro l
    induction l with
    | nil => intro _; rfl
    | cons p l ih =>
      intro hl
      rw [List.flatMap_cons, List.length_append, List.length_map, hl p (by simp), ih fun q hq => hl q (by simp [hq]), List.length_cons]
      omega
  have e := this C fun p hp => (h.ok p hp).al
  have := h.len.2
  unfold uniL
  omega
def misL (C : List Pr) (M : List Pair) : Nat := ((uniL C).filter fun u => decide (¬ u ∈ M)).length
theorem misL_lt {C : List Pr} (h : OkC C) {M : List Pair} (hn : handed C M ≠ []) : misL C (M ++ handed C M) < misL C M := by
  obtain ⟨z, r, e⟩ : ∃ z r, handed C M = z :: r := by
    cases e : handed C M with
    | nil => exact (hn e).elim
    | cons z r => exact ⟨z, r, rfl⟩
  have hz : z ∈ handed C M := by rw [e]; simp
  obtain ⟨p, hp, f, as, ts, n, y, a, hs, hw, hf, hno, ez⟩ := han_mem hz
  obtain ⟨q, hq, _, _, _, ha, _⟩ := h.callee hp hs
  refine cnt_lt (fun u _ hu => ?_) ⟨z, ?_, ?_, ?_⟩
  · simp only [decide_eq_true_eq] at hu ⊢
    exact fun hm => hu (List.mem_append_left _ hm)
  · rw [ez]
    exact List.mem_flatMap.mpr ⟨p, hp, List.mem_map.mpr ⟨a, ha a (List.of_mem_zip hw).2, rfl⟩⟩
  · rw [ez]; exact decide_eq_true hno
  · exact decide_eq_false fun hc => hc (List.mem_append_right _ hz)
theorem han_len {C : List Pr} (h : OkC C) (M : List Pair) : (handed C M).length ≤ 50000 := by
  have one : ∀ {p : Pr}, p ∈ C → ∀ s ∈ p.stm, (hanS C M p.nm s).length ≤ 3 := fun {p} hp s hs => by
    cases s with
    | call f as ts n =>
      obtain ⟨q, hq, e, hk, h3, _, _⟩ := h.callee hp hs
      refine Nat.le_trans (List.length_filterMap_le _ _) ?_
      rw [List.length_zip]
      omega
    | _ => simp [hanS]
  have two : ∀ {p : Pr}, p ∈ C → ∀ l : List St, (∀ s ∈ l, s ∈ p.stm) → (l.flatMap (hanS C M p.nm)).length ≤ 3 * l.length := fun {p} hp l => by
    induction l with
    | nil => intro _; simp
    | cons s l ih =>
      intro hl
      have h1 := one hp s (hl s (by simp))
      have h2 := ih fun t ht => hl t (by simp [ht])
      rw [List.flatMap_cons, List.length_append, List.length_cons]
      omega
  have three : ∀ l : List Pr, (∀ p ∈ l, p ∈ C) → (l.flatMap fun p => p.stm.flatMap (hanS C M p.nm)).length ≤ 7020 * l.length := fun l => by
    induction l with
    | nil => intro _; simp
    | cons p l ih =>
      intro hl
      have hp := hl p (by simp)
      have h1 := two hp p.stm fun _ h => h
      have h2 := ih fun t ht => hl t (by simp [ht])
      have h3 := (h.ok p hp).sl
      rw [List.flatMap_cons, List.length_append, List.length_cons]
      omega
  have := three C fun _ h => h
  have := h.len.2
  unfold handed
  omega
def basL (C : List Pr) : List Pair := C.flatMap fun p => (p.stm.flatMap asgI).map fun i => (p.nm, i.2)
theorem bas_snd (C : List Pr) : LSnd C (basL C) := fun z hz => by
  obtain ⟨p, hp, hz⟩ := List.mem_flatMap.mp hz
  obtain ⟨i, hi, rfl⟩ := List.mem_map.mp hz
  obtain ⟨s, hs, hi⟩ := List.mem_flatMap.mp hi
  exact ⟨i, rfl, .base hp hs hi⟩
theorem bas_bas (C : List Pr) : LBas C (basL C) := fun p hp s hs i hi => List.mem_flatMap.mpr ⟨p, hp, List.mem_map.mpr ⟨i, List.mem_flatMap.mpr ⟨s, hs, hi⟩, rfl⟩⟩
theorem asgs_len {C : List Pr} {p : Pr} (h : OkP C p) : ∀ {l : List St}, (∀ s ∈ l, s ∈ p.stm) → (l.flatMap asgI).length ≤ 2 * l.length
  | [], _ => by simp
  | s :: l, hl => by
    have h1 := asgI_len h (hl s (by simp))
    have h2 := asgs_len h (l := l) fun t ht => hl t (by simp [ht])
    rw [List.flatMap_cons, List.length_append, List.length_cons]
    omega
/-! the program's table -/
abbrev Mt := Str → List Str
def pasA (T : Mt) (f : Str) : It × Ar → Option Str
  | (y, .arr a) => if ("#" ++ y.2 : Str) ∈ T f then some ("#" ++ a) else none
  | (_, .sub _) => none
def pasS (C : List Pr) (T : Mt) : St → List Str
  | .call f as _ _ => ((itsC C f).zip as).filterMap (pasA T f)
  | _ => []
def pasP (C : List Pr) (T : Mt) (p : Pr) : List Str := p.stm.flatMap (pasS C T)
def PSnd (C : List Pr) (T : Mt) : Prop := ∀ p ∈ C, ∀ k ∈ T p.nm, ∃ i, keyI i = k ∧ Mv C p.nm i
def PBas (C : List Pr) (T : Mt) : Prop := ∀ p ∈ C, ∀ s ∈ p.stm, ∀ i ∈ asgI s, keyI i ∈ T p.nm
theorem pas_mem {C : List Pr} {T : Mt} {p : Pr} {k : Str} (hz : k ∈ pasP C T p) : ∃ f as ts n y a, St.call f as ts n ∈ p.stm ∧ (y, Ar.arr a) ∈ (itsC C f).zip as ∧ ("#" ++ y.2 : Str) ∈ T f ∧ k = "#" ++ a := by
  obtain ⟨s, hs, hz⟩ := List.mem_flatMap.mp hz
  cases s with
  | call f as ts n =>
    obtain ⟨⟨y, ar⟩, hw, e⟩ := List.mem_filterMap.mp hz
    cases ar with
    | arr a =>
      simp only [pasA] at e
      split at e
      · rename_i hc
        cases e
        exact ⟨f, as, ts, n, y, a, hs, hw, hc, rfl⟩
      · cases e
    | sub _ => cases e
  | _ => simp [pasS] at hz
theorem pas_snd {C : List Pr} (h : OkC C) {T : Mt} (hT : PSnd C T) {p : Pr} (hp : p ∈ C) {k : Str} (hk : k ∈ pasP C T p) : ∃ a, a ∈ p.avs ∧ k = "#" ++ a ∧ Mv C p.nm (true, a) := by
  obtain ⟨f, as, ts, n, y, a, hs, hw, hf, rfl⟩ := pas_mem hk
  obtain ⟨q, hq, rfl, hk, _, ha, _⟩ := h.callee hp hs
  rw [h.its hq] at hw
  have hb : y.1 = true := zip_kind (·.1) Ar.isA hk.symm _ hw
  obtain ⟨b, x⟩ := y
  simp only at hb
  subst hb
  obtain ⟨i, hi, m⟩ := hT q hq _ hf
  have hy : (true, x) ∈ q.all := (h.ok q hq).it _ (List.of_mem_zip hw).1
  have e : i = (true, x) := (h.ok q hq).iK i (m.all h hq rfl) (true, x) hy hi
  subst e
  exact ⟨a, ha a (List.of_mem_zip hw).2, rfl, .on hp hs hq hw m⟩
theorem prog_mv {C : List Pr} (h : OkC C) {T : Mt} (h1 : PSnd C T) (h2 : PBas C T) (h3 : ∀ p ∈ C, ∀ k ∈ pasP C T p, k ∈ T p.nm) : ∀ p ∈ C, ∀ i ∈ p.all, keyI i ∈ T p.nm ↔ Mv C p.nm i := by
  have back : ∀ {f : Str} {i : It}, Mv C f i → keyI i ∈ T f := by
    intro f i m
    induction m with
    | base hp hs hi => exact h2 _ hp _ hs _ hi
    | @on p q as ts n y z hp hs hq hz m ih =>
      refine h3 p hp _ (List.mem_flatMap.mpr ⟨_, hs, ?_⟩)
      refine List.mem_filterMap.mpr ⟨((true, y), Ar.arr z), by rw [h.its hq]; exact hz, ?_⟩
      exact if_pos ih
  intro p hp i hi
  refine ⟨fun hm => ?_, back⟩
  obtain ⟨j, hj, m⟩ := h1 p hp _ hm
  have := (h.ok p hp).iK j (m.all h hp rfl) i hi hj
  rw [← this]; exact m
def misP (C : List Pr) (T : Mt) : Nat := ((uniL C).filter fun u => decide (¬ ("#" ++ u.2 : Str) ∈ T u.1)).length
def addT (T : Mt) (f k : Str) : Mt := fun g => if g = f then T f ++ [k] else T g
theorem misP_le {C : List Pr} {T : Mt} : misP C T ≤ (uniL C).length := List.length_filter_le _ _
theorem misP_lt {C : List Pr} {T : Mt} {p : Pr} {a : Str} (hp : p ∈ C) (ha : a ∈ p.avs) (hn : ¬ ("#" ++ a : Str) ∈ T p.nm) : misP C (addT T p.nm ("#" ++ a)) < misP C T := by
  refine cnt_lt (fun u _ hu => ?_) ⟨(p.nm, a), List.mem_flatMap.mpr ⟨p, hp, List.mem_map.mpr ⟨a, ha, rfl⟩⟩, decide_eq_true hn, decide_eq_false fun hc => hc ?_⟩
  · simp only [decide_eq_true_eq] at hu ⊢
    intro hm
    apply hu
    unfold addT
    split
    · rename_i e; rw [← e]; exact List.mem_append_left _ hm
    · exact hm
  · unfold addT; rw [if_pos rfl]; simp
open Classical in
/-- the parameters that move -/
noncomputable def mvF (C : List Pr) (p : Pr) : List Str := (p.its.filter fun i => decide (Mv C p.nm i)).map (·.2)
end Z

/-! ### P63 -/
/-! P63: what calls reach, groups, their order, ways down. -/
namespace Z
open PySem PySem.Spec PyProof.Rows L2
def calS : St → Option Str
  | .call f _ _ _ => some f
  | _ => none
def cals (p : Pr) : List Str := p.stm.filterMap calS
def nms (C : List Pr) : List Str := C.map (·.nm)
def Cal (C : List Pr) (x y : Str) : Prop := ∃ p ∈ C, p.nm = x ∧ y ∈ cals p
def Stp (C : List Pr) : Nat → Str → Str → Prop
  | 0, x, y => x = y
  | k + 1, x, y => ∃ z, Stp C k x z ∧ (z = y ∨ Cal C z y)
def Rch (C : List Pr) (x y : Str) : Prop := ∃ k, Stp C k x y
section
open Classical
variable {C : List Pr}
theorem mem_cals {p : Pr} {y : Str} (hy : y ∈ cals p) : ∃ as ts n, St.call y as ts n ∈ p.stm := by
  obtain ⟨s, hs, e⟩ := List.mem_filterMap.mp hy
  cases s <;> cases e
  exact ⟨_, _, _, hs⟩
theorem cal_mem (h : OkC C) {x y : Str} (c : Cal C x y) : y ∈ nms C := by
  obtain ⟨p, hp, rfl, hy⟩ := c
  obtain ⟨as, ts, n, hs⟩ := mem_cals hy
  obtain ⟨q, hq, rfl, _⟩ := h.callee hp hs
  exact List.mem_map.mpr ⟨q, hq, rfl⟩
theorem Stp.up {k : Nat} {x y : Str} (h : Stp C k x y) : Stp C (k + 1) x y := ⟨y, h, .inl rfl⟩
theorem Stp.le {k m : Nat} {x y : Str} (h : Stp C k x y) (l : k ≤ m) : Stp C m x y := by
  obtain ⟨d, rfl⟩ := Nat.le.dest l
  clear l
  induction d with
  | zero => exact h
  | succ d ih => exact ih.up
theorem Stp.add {a : Nat} {x z : Str} (h : Stp C a x z) : ∀ {b : Nat} {y : Str}, Stp C b z y → Stp C (a + b) x y
  | 0, y, h2 => by cases h2; exact h
  | b + 1, y, ⟨w, h2, e⟩ => ⟨w, Stp.add h h2, e⟩
theorem Stp.split {a : Nat} {x : Str} : ∀ {b : Nat} {y : Str}, Stp C (a + b) x y → ∃ z, Stp C a x z ∧ Stp C b z y
  | 0, y, h => ⟨y, h, rfl⟩
  | b + 1, y, ⟨w, h2, e⟩ => by
    obtain ⟨z, h3, h4⟩ := Stp.split (b := b) h2
    exact ⟨z, h3, w, h4, e⟩
theorem Rch.refl (x : Str) : Rch C x x := ⟨0, rfl⟩
theorem Rch.trans {x y z : Str} (a : Rch C x y) (b : Rch C y z) : Rch C x z := by
  obtain ⟨k, a⟩ := a
  obtain ⟨m, b⟩ := b
  exact ⟨k + m, a.add b⟩
theorem Rch.one {x y : Str} (c : Cal C x y) : Rch C x y := ⟨1, x, rfl, .inr c⟩
theorem Rch.ind {P : Str → Prop} {x : Str} (h0 : P x) (hs : ∀ z y, P z → Cal C z y → P y) {y : Str} (r : Rch C x y) : P y := by
  obtain ⟨k, r⟩ := r
  induction k generalizing y with
  | zero => cases r; exact h0
  | succ k ih =>
    obtain ⟨z, hz, e⟩ := r
    rcases e with rfl | e
    · exact ih hz
    · exact hs _ _ (ih hz) e
theorem Rch.mem (h : OkC C) {x y : Str} (hx : x ∈ nms C) (r : Rch C x y) : y ∈ nms C := r.ind (P := fun y => y ∈ nms C) hx fun _ _ _ c => cal_mem h c
theorem nms_len (C : List Pr) : (nms C).length = C.length := by unfold nms; rw [List.length_map]
theorem stp_few (h : OkC C) {x : Str} (hx : x ∈ nms C) : ∀ k : Nat, k + 1 ≤ ((nms C).filter fun y => decide (Stp C k x y)).length ∨ ∃ j, j ≤ k ∧ ∀ y, Stp C (j + 1) x y → Stp C j x y
  | 0 => by
    refine .inl (List.length_pos_of_mem (a := x) (List.mem_filter.mpr ⟨hx, decide_eq_true rfl⟩))
  | k + 1 => by
    rcases stp_few h hx k with ih | ⟨j, hj, c⟩
    · by_cases c : ∀ y, Stp C (k + 1) x y → Stp C k x y
      · exact .inr ⟨k, by omega, c⟩
      · obtain ⟨y, hy⟩ := Classical.not_forall.mp c
        obtain ⟨h1, h2⟩ := Classical.not_imp.mp hy
        have hm : y ∈ nms C := Rch.mem h hx ⟨_, h1⟩
        have : ((nms C).filter fun y => decide (Stp C k x y)).length < ((nms C).filter fun y => decide (Stp C (k + 1) x y)).length := by
          refine cnt_lt (fun u _ hu => ?_) ⟨y, hm, decide_eq_true h1, decide_eq_false h2⟩
          exact decide_eq_true (of_decide_eq_true hu).up
        exact .inl (by omega)
    · exact .inr ⟨j, by omega, c⟩
theorem rch_few (h : OkC C) {x y : Str} (hx : x ∈ nms C) (r : Rch C x y) : Stp C C.length x y := by
  rcases stp_few h hx C.length with c | ⟨j, hj, c⟩
  · have := List.length_filter_le (fun y => decide (Stp C C.length x y)) (nms C)
    rw [nms_len] at this
    omega
  · refine Stp.le (k := j) ?_ hj
    exact r.ind (P := fun y => Stp C j x y) (Stp.le (k := 0) rfl (Nat.zero_le _)) fun z y hz hc => c y ⟨z, hz, .inr hc⟩
/-! the law's pairs -/
structure LRch (C : List Pr) (k : Nat) (P : List Pair) : Prop where
  ln : P.length ≤ 36
  snd : ∀ z ∈ P, z.1 ∈ nms C ∧ Rch C z.1 z.2
  cmp : ∀ x ∈ nms C, ∀ y, Stp C (2 ^ k) x y → (x, y) ∈ P
def cmpP (P : List Pair) : List Pair := P.flatMap fun w => (P.filter fun z => decide (z.1 = w.2)).map fun z => (w.1, z.2)
theorem cmp_mem {P : List Pair} {z : Pair} : z ∈ cmpP P ↔ ∃ m, (z.1, m) ∈ P ∧ (m, z.2) ∈ P := by
  unfold cmpP
  rw [List.mem_flatMap]
  constructor
  · rintro ⟨w, hw, hz⟩
    obtain ⟨v, hv, rfl⟩ := List.mem_map.mp hz
    obtain ⟨h1, h2⟩ := List.mem_filter.mp hv
    have e : v.1 = w.2 := of_decide_eq_true h2
    exact ⟨w.2, hw, by rw [← e]; exact h1⟩
  · rintro ⟨m, h1, h2⟩
    exact ⟨_, h1, List.mem_map.mpr ⟨_, List.mem_filter.mpr ⟨h2, decide_eq_true rfl⟩, rfl⟩⟩
theorem pair_len : ∀ {N : List Str} {P : List Pair}, P.Nodup → (∀ z ∈ P, z.1 ∈ N ∧ z.2 ∈ N) → P.length ≤ N.length * N.length := by
  intro N P hn hm
  have key : ∀ (l m : List Pair), l.Nodup → (∀ x ∈ l, x ∈ m) → l.length ≤ m.length := by
    intro l
    induction l with
    | nil => intro m _ _; simp
    | cons x l ih =>
      intro m hl h
      rw [List.nodup_cons] at hl
      have hx := h x (by simp)
      have := ih (m.erase x) hl.2 fun y hy => (List.mem_erase_of_ne (fun e => hl.1 (by rw [← e]; exact hy))).mpr (h y (by simp [hy]))
      rw [List.length_erase_of_mem hx] at this
      have := List.length_pos_of_mem hx
      rw [List.length_cons]
      omega
  have all : (N.flatMap fun x => N.map fun y => (x, y)).length = N.length * N.length := by
    have : ∀ l : List Str, (l.flatMap fun x => N.map fun y => (x, y)).length = l.length * N.length := by
      intro l
      induction l with
      | nil => simp
      | cons x l ih => rw [List.flatMap_cons, List.length_append, ih, List.length_map, List.length_cons, Nat.add_mul, Nat.one_mul, Nat.add_comm]
    exact this N
  rw [← all]
  exact key P _ hn fun z hz => List.mem_flatMap.mpr ⟨z.1, (hm z hz).1, List.mem_map.mpr ⟨z.2, (hm z hz).2, rfl⟩⟩
theorem LRch.next {k : Nat} {P Q : List Pair} (h : LRch C k P) (hn : Q.Nodup) (hm : ∀ z, z ∈ Q ↔ z ∈ cmpP P) (ok : OkC C) : LRch C (k + 1) Q := by
  have sn : ∀ z ∈ Q, z.1 ∈ nms C ∧ Rch C z.1 z.2 := fun z hz => by
    obtain ⟨m, h1, h2⟩ := cmp_mem.mp ((hm z).mp hz)
    exact ⟨(h.snd _ h1).1, (h.snd _ h1).2.trans (h.snd _ h2).2⟩
  refine ⟨?_, sn, fun x hx y hy => ?_⟩
  · have := pair_len hn fun z hz => ⟨(sn z hz).1, Rch.mem ok (sn z hz).1 (sn z hz).2⟩
    have e := ok.len.2
    rw [nms_len] at this
    have : C.length * C.length ≤ 6 * 6 := Nat.mul_le_mul e e
    omega
  · rw [Nat.pow_succ, Nat.mul_two] at hy
    obtain ⟨m, h1, h2⟩ := hy.split
    have hmm : m ∈ nms C := Rch.mem ok hx ⟨_, h1⟩
    exact (hm _).mpr (cmp_mem.mpr ⟨m, h.cmp x hx m h1, h.cmp m hmm y h2⟩)
theorem LRch.iff {P : List Pair} (h : LRch C C.length P) (ok : OkC C) {x y : Str} : (x, y) ∈ P ↔ x ∈ nms C ∧ Rch C x y := by
  refine ⟨h.snd _, fun ⟨hx, r⟩ => h.cmp x hx y ((rch_few ok hx r).le (Nat.le_of_lt Nat.lt_two_pow_self))⟩
/-! groups -/
noncomputable def grp (C : List Pr) (x : Str) : List Str := (nms C).filter fun y => decide (Rch C x y ∧ Rch C y x)
theorem mem_grp {x y : Str} : y ∈ grp C x ↔ y ∈ nms C ∧ Rch C x y ∧ Rch C y x := by
  unfold grp
  rw [List.mem_filter, decide_eq_true_eq]
theorem grp_self {x : Str} (hx : x ∈ nms C) : x ∈ grp C x := mem_grp.mpr ⟨hx, .refl x, .refl x⟩
theorem grp_eq {x y : Str} (h : y ∈ grp C x) : grp C y = grp C x := by
  obtain ⟨_, h1, h2⟩ := mem_grp.mp h
  unfold grp
  apply List.filter_congr
  intro z _
  apply decide_eq_decide.mpr
  exact ⟨fun ⟨a, b⟩ => ⟨h1.trans a, b.trans h2⟩, fun ⟨a, b⟩ => ⟨h2.trans a, b.trans h1⟩⟩
theorem grp_asc (h : OkC C) (x : Str) : (grp C x).Pairwise sLt := h.asc.sublist List.filter_sublist
theorem grp_len (h : OkC C) (x : Str) : (grp C x).length ≤ 6 := by
  have h1 := List.length_filter_le (fun y => decide (Rch C x y ∧ Rch C y x)) (nms C)
  have h2 := nms_len C
  have h3 := h.len.2
  unfold grp
  omega
def hdS (g : List Str) : Str := g.headD Str.empty
noncomputable def lfA (C : List Pr) (acc : List (List Str)) (x : Str) : List (List Str) := if grp C x ∈ acc then acc else acc ++ [grp C x]
noncomputable def left (C : List Pr) : List (List Str) := (nms C).foldl (lfA C) []
structure LfOk (C : List Pr) (pre : List Str) (acc : List (List Str)) : Prop where
  a : ∀ g ∈ acc, ∃ x ∈ pre, g = grp C x
  b : ∀ x ∈ pre, grp C x ∈ acc
  c : acc.Pairwise fun g h => ∃ a b as bs, g = a :: as ∧ h = b :: bs ∧ sLt a b
  d : ∀ g ∈ acc, ∃ a ∈ pre, ∃ as, g = a :: as
theorem LfOk.snoc (ok : OkC C) {pre post : List Str} {acc : List (List Str)} {x : Str} (e : pre ++ x :: post = nms C) (h : LfOk C pre acc) : LfOk C (pre ++ [x]) (lfA C acc x) := by
  unfold lfA
  split
  · rename_i hin
    refine ⟨fun g hg => ?_, fun y hy => ?_, h.c, fun g hg => ?_⟩
    · obtain ⟨y, hy, e⟩ := h.a g hg; exact ⟨y, List.mem_append_left _ hy, e⟩
    · rcases List.mem_append.mp hy with hy | hy
      · exact h.b y hy
      · rw [List.mem_singleton.mp hy]; exact hin
    · obtain ⟨y, hy, e⟩ := h.d g hg; exact ⟨y, List.mem_append_left _ hy, e⟩
  · rename_i hout
    have hx : x ∈ nms C := by rw [← e]; simp
    have hpre : ∀ y ∈ pre, ¬ (Rch C x y ∧ Rch C y x) := fun y hy hc => hout (by
      have : y ∈ nms C := by rw [← e]; simp [hy]
      rw [← grp_eq (mem_grp.mpr ⟨this, hc⟩)]
      exact h.b y hy)
    obtain ⟨bs, hb⟩ : ∃ bs, grp C x = x :: bs := by
      unfold grp
      rw [← e, List.filter_append, List.filter_eq_nil_iff.mpr fun y hy => by rw [decide_eq_true_eq]; exact hpre y hy, List.nil_append, List.filter_cons, decide_eq_true ⟨Rch.refl x, Rch.refl x⟩, if_pos rfl]
      exact ⟨_, rfl⟩
    have lt : ∀ y ∈ pre, sLt y x := fun y hy => by
      have := ok.asc
      rw [show C.map (·.nm) = nms C from rfl, ← e, List.pairwise_append] at this
      exact this.2.2 y hy x (by simp)
    refine ⟨fun g hg => ?_, fun y hy => ?_, ?_, fun g hg => ?_⟩
    · rcases List.mem_append.mp hg with hg | hg
      · obtain ⟨y, hy, e⟩ := h.a g hg; exact ⟨y, List.mem_append_left _ hy, e⟩
      · exact ⟨x, by simp, List.mem_singleton.mp hg⟩
    · rcases List.mem_append.mp hy with hy | hy
      · exact List.mem_append_left _ (h.b y hy)
      · rw [List.mem_singleton.mp hy]; simp
    · refine List.pairwise_append.mpr ⟨h.c, List.pairwise_singleton _ _, fun g hg k hk => ?_⟩
      rw [List.mem_singleton.mp hk]
      obtain ⟨a, ha, as, rfl⟩ := h.d g hg
      exact ⟨a, x, as, bs, rfl, hb, lt a ha⟩
    · rcases List.mem_append.mp hg with hg | hg
      · obtain ⟨y, hy, e⟩ := h.d g hg; exact ⟨y, List.mem_append_left _ hy, e⟩
      · rw [List.mem_singleton.mp hg]; exact ⟨x, by simp, bs, hb⟩
theorem left_go (ok : OkC C) : ∀ (post pre : List Str) (acc : List (List Str)), pre ++ post = nms C → LfOk C pre acc → LfOk C (nms C) (post.foldl (lfA C) acc)
  | [], pre, acc, e, h => by rw [List.append_nil] at e; rw [← e]; exact h
  | x :: post, pre, acc, e, h => left_go ok post (pre ++ [x]) _ (by simpa using e) (h.snoc ok e)
theorem LfOk.nil : LfOk C [] [] := ⟨by simp, by simp, .nil, by simp⟩
theorem left_ok (ok : OkC C) : LfOk C (nms C) (left C) := left_go ok _ [] [] rfl .nil
theorem mem_left (ok : OkC C) {g : List Str} : g ∈ left C ↔ ∃ x ∈ nms C, g = grp C x :=
  ⟨(left_ok ok).a g, fun ⟨x, hx, e⟩ => by rw [e]; exact (left_ok ok).b x hx⟩
theorem left_nodup (ok : OkC C) : (left C).Nodup := (left_ok ok).c.imp fun ⟨a, b, as, bs, e1, e2, l⟩ e => by
  rw [e1, e2] at e
  cases e
  exact sLt_ne l rfl
theorem left_lex (ok : OkC C) : (left C).Pairwise fun g h => lexS h g = false := (left_ok ok).c.imp fun ⟨a, b, as, bs, e1, e2, l⟩ => by
  rw [e1, e2, lexS_diff (sLt_ne l).symm]
  exact decide_eq_false fun l2 => List.lt_irrefl _ (List.lt_trans l l2)
theorem left_hd (ok : OkC C) {g : List Str} (hg : g ∈ left C) : hdS g ∈ g ∧ hdS g ∈ nms C ∧ g = grp C (hdS g) := by
  obtain ⟨a, ha, as, rfl⟩ := (left_ok ok).d g hg
  obtain ⟨x, hx, e⟩ := (mem_left ok).mp hg
  refine ⟨by simp [hdS], ha, ?_⟩
  show a :: as = grp C a
  have hin : a ∈ grp C x := by rw [← e]; exact List.mem_cons_self ..
  rw [e, grp_eq hin]
theorem left_in (ok : OkC C) {g : List Str} (hg : g ∈ left C) {x : Str} (hx : x ∈ g) : x ∈ nms C ∧ g = grp C x := by
  obtain ⟨_, _, e⟩ := left_hd ok hg
  rw [e] at hx
  exact ⟨(mem_grp.mp hx).1, by rw [grp_eq hx]; exact e⟩
theorem left_cons (ok : OkC C) {g : List Str} (hg : g ∈ left C) : ∃ as, g = hdS g :: as := by
  obtain ⟨a, ha, as, rfl⟩ := (left_ok ok).d g hg
  exact ⟨as, rfl⟩
theorem left_len (ok : OkC C) : (left C).length ≤ 6 := by
  have key : ∀ (post : List Str) (acc : List (List Str)), (post.foldl (lfA C) acc).length ≤ acc.length + post.length := by
    intro post
    induction post with
    | nil => intro acc; simp
    | cons x post ih =>
      intro acc
      have h1 := ih (lfA C acc x)
      have h2 : (lfA C acc x).length ≤ acc.length + 1 := by unfold lfA; split <;> simp
      rw [List.foldl_cons, List.length_cons]; omega
  have := key (nms C) []
  rw [nms_len] at this
  have := ok.len.2
  unfold left
  simp at *
  omega
theorem srt_uniq {α : Type} {R : α → α → Prop} (anti : ∀ a b, R a b → R b a → a = b) : ∀ {l m : List α}, l.Nodup → m.Nodup → l.Pairwise R → m.Pairwise R → (∀ x, x ∈ l ↔ x ∈ m) → l = m
  | [], m, _, _, _, _, h => by
    cases m with
    | nil => rfl
    | cons b m => exact absurd ((h b).mpr (by simp)) (by simp)
  | a :: l, [], _, _, _, _, h => absurd ((h a).mp (by simp)) (by simp)
  | a :: l, b :: m, n1, n2, p1, p2, h => by
    rw [List.nodup_cons] at n1 n2
    rw [List.pairwise_cons] at p1 p2
    have e : a = b := by
      rcases List.mem_cons.mp ((h a).mp (by simp)) with e | ha
      · exact e
      · rcases List.mem_cons.mp ((h b).mpr (by simp)) with e | hb
        · exact e.symm
        · exact anti _ _ (p1.1 b hb) (p2.1 a ha)
    subst e
    rw [srt_uniq anti n1.2 n2.2 p1.2 p2.2 fun x => ?_]
    have hx := h x
    rw [List.mem_cons, List.mem_cons] at hx
    constructor
    · intro hl
      rcases hx.mp (.inr hl) with rfl | hm
      · exact (n1.1 hl).elim
      · exact hm
    · intro hl
      rcases hx.mpr (.inr hl) with rfl | hm
      · exact (n2.1 hl).elim
      · exact hm
theorem left_uniq (ok : OkC C) {out : List (List Str)} (hn : out.Nodup) (hp : out.Pairwise fun x y => lexS y x = false) (hm : ∀ q, q ∈ out ↔ ∃ x ∈ nms C, q = grp C x) : out = left C :=
  srt_uniq (fun a b h1 h2 => (lexS_eq a b h2 h1)) hn (left_nodup ok) hp (left_lex ok) fun q => by rw [hm q, mem_left ok]
/-- what group_of gives -/
theorem grp_of (ok : OkC C) {x : Str} {l : List Str} (hn : l.Nodup) (hm : ∀ y, y ∈ l ↔ Rch C x y) (hx : x ∈ nms C) : (sortStr l).filter (fun y => decide (Rch C y x)) = grp C x := by
  refine srt_uniq (R := fun a b => strLe a b = true) (fun a b h1 h2 => strLe_anti h1 h2) (((sortStr_perm l).nodup_iff.mpr hn).sublist List.filter_sublist) (asc_nodup (grp_asc ok x)) ((sortStr_sorted l).sublist List.filter_sublist) ((grp_asc ok x).imp fun h => sLt_le h) fun y => ?_
  rw [List.mem_filter, decide_eq_true_eq, (sortStr_perm l).mem_iff, hm y, mem_grp]
  exact ⟨fun ⟨a, b⟩ => ⟨Rch.mem ok hx a, a, b⟩, fun ⟨_, a, b⟩ => ⟨a, b⟩⟩
/-! the order -/
def Rdy (C : List Pr) (f : List (List Str)) (g : List Str) : Prop := ∀ y, Rch C (hdS g) y → y ∈ g ∨ y ∈ f.flatten
noncomputable def nextG (C : List Pr) (f : List (List Str)) : Option (List Str) := (left C).find? fun g => decide (¬ g ∈ f ∧ Rdy C f g)
noncomputable def ordF (C : List Pr) : Nat → List (List Str) → List (List Str)
  | 0, f => f
  | n + 1, f => match nextG C f with
    | some g => ordF C n (f ++ [g])
    | none => f
theorem rdy_some (ok : OkC C) (f : List (List Str)) : ∀ (n : Nat) (g : List Str), g ∈ left C → ¬ g ∈ f → ((nms C).filter fun y => decide (Rch C (hdS g) y)).length ≤ n → ∃ g ∈ left C, ¬ g ∈ f ∧ Rdy C f g
  | n, g, hg, hf, hn => by
    by_cases hr : Rdy C f g
    · exact ⟨g, hg, hf, hr⟩
    · obtain ⟨y, hy⟩ := Classical.not_forall.mp hr
      obtain ⟨h1, h2⟩ := Classical.not_imp.mp hy
      rw [not_or] at h2
      obtain ⟨hh, hhn, e⟩ := left_hd ok hg
      have hym : y ∈ nms C := Rch.mem ok hhn h1
      have gl : grp C y ∈ left C := (mem_left ok).mpr ⟨y, hym, rfl⟩
      obtain ⟨hh2, hhn2, e2⟩ := left_hd ok gl
      have r12 := (mem_grp.mp hh2).2
      have lt : ((nms C).filter fun z => decide (Rch C (hdS (grp C y)) z)).length < ((nms C).filter fun z => decide (Rch C (hdS g) z)).length := by
        refine cnt_lt (fun u _ hu => ?_) ⟨hdS g, hhn, decide_eq_true (Rch.refl _), decide_eq_false fun hc => h2.1 ?_⟩
        · exact decide_eq_true ((h1.trans r12.1).trans (of_decide_eq_true hu))
        · rw [e]
          exact mem_grp.mpr ⟨hym, h1, r12.1.trans hc⟩
      cases n with
      | zero => omega
      | succ n => exact rdy_some ok f n (grp C y) gl (fun hc => h2.2 (List.mem_flatten.mpr ⟨_, hc, grp_self hym⟩)) (by omega)
theorem next_some (ok : OkC C) {f : List (List Str)} {g : List Str} (hg : g ∈ left C) (hf : ¬ g ∈ f) : ∃ g, nextG C f = some g := by
  obtain ⟨g, h1, h2⟩ := rdy_some ok f _ g hg hf (Nat.le_refl _)
  unfold nextG
  have := List.find?_isSome (p := fun g => decide (¬ g ∈ f ∧ Rdy C f g)).mpr ⟨g, h1, decide_eq_true h2⟩
  exact Option.isSome_iff_exists.mp this
theorem next_ok {f : List (List Str)} {g : List Str} (h : nextG C f = some g) : g ∈ left C ∧ ¬ g ∈ f ∧ Rdy C f g := by
  unfold nextG at h
  refine ⟨List.mem_of_find?_eq_some h, ?_⟩
  have := List.find?_some h
  exact of_decide_eq_true this
/-- groups found so far -/
structure OrdOk (C : List Pr) (f : List (List Str)) : Prop where
  sub : ∀ g ∈ f, g ∈ left C
  nd : f.Nodup
  rdy : ∀ a g b, f = a ++ g :: b → Rdy C a g
theorem OrdOk.nil : OrdOk C [] := ⟨by simp, .nil, fun a g b e => by simp at e⟩
theorem OrdOk.snoc {f : List (List Str)} {g : List Str} (h : OrdOk C f) (n : nextG C f = some g) : OrdOk C (f ++ [g]) := by
  obtain ⟨h1, h2, h3⟩ := next_ok n
  refine ⟨fun k hk => ?_, List.nodup_append.mpr ⟨h.nd, by simp, ?_⟩, fun a k b e => ?_⟩
  · rcases List.mem_append.mp hk with hk | hk
    · exact h.sub k hk
    · rw [List.mem_singleton.mp hk]; exact h1
  · intro x hx y hy
    rw [List.mem_singleton.mp hy]
    rintro rfl
    exact h2 hx
  · rcases List.append_eq_append_iff.mp e with ⟨c, e1, e2⟩ | ⟨c, e1, e2⟩
    · cases c with
      | nil =>
        simp at e1 e2
        rw [e1, ← e2.1]; exact h3
      | cons x c => simp at e2
    · cases c with
      | nil =>
        simp at e1 e2
        rw [← e1, e2.1]; exact h3
      | cons x c =>
        simp at e2
        obtain ⟨rfl, _⟩ := e2
        exact h.rdy a k c e1
theorem ordF_ok : ∀ {n : Nat} {f : List (List Str)}, OrdOk C f → OrdOk C (ordF C n f)
  | 0, f, h => h
  | n + 1, f, h => by
    unfold ordF
    cases e : nextG C f with
    | none => exact h
    | some g => exact ordF_ok (h.snoc e)
noncomputable def grps (C : List Pr) : List (List Str) := ordF C (left C).length []
theorem grps_ok : OrdOk C (grps C) := ordF_ok .nil
/-! ways down -/
def calsN (C : List Pr) (x : Str) : List Str := ((C.filter fun q => decide (q.nm = x)).head?.map cals).getD []
theorem OkC.cn (h : OkC C) {p : Pr} (hp : p ∈ C) : calsN C p.nm = cals p := by unfold calsN; rw [h.flt hp]; rfl
def stepT (g : List Str) (T : Ps) (t : Int) (c : Str) : Int := if c ∈ g then t else t + (1 + getA T c)
def totF (C : List Pr) (T : Ps) (g : List Str) : Int := (g.flatMap (calsN C)).foldl (stepT g T) 0
def wayS (C : List Pr) (T : Ps) (g : List Str) : Ps := g.foldl (fun T' x => putA T' x (totF C T g)) T
def wayF (C : List Pr) (gs : List (List Str)) : Ps := gs.foldl (wayS C) []
theorem putA_in {T : Ps} {x y : Str} {v : Int} (h : y = x ∨ y ∈ T.map (·.1)) : y ∈ (putA T x v).map (·.1) := by
  rw [putA_keys]
  split
  · rename_i hx
    rcases h with rfl | h
    · exact hx
    · exact h
  · rcases h with rfl | h
    · simp
    · exact List.mem_append_left _ h
theorem wayS_in {g : List Str} {T : Ps} {t : Int} {y : Str} (h : y ∈ g ∨ y ∈ T.map (·.1)) : y ∈ (g.foldl (fun T' x => putA T' x t) T).map (·.1) := by
  induction g generalizing T with
  | nil => simpa using h
  | cons x g ih =>
    rw [List.foldl_cons]
    apply ih
    rcases h with h | h
    · rcases List.mem_cons.mp h with rfl | h
      · exact .inr (putA_in (.inl rfl))
      · exact .inl h
    · exact .inr (putA_in (.inr h))
theorem wayF_snoc (a : List (List Str)) (g : List Str) : wayF C (a ++ [g]) = wayS C (wayF C a) g := by unfold wayF; rw [List.foldl_append]; rfl
theorem way_keys : ∀ (b a : List (List Str)) (T : Ps), (∀ y ∈ a.flatten, y ∈ T.map (·.1)) → ∀ y ∈ (a ++ b).flatten, y ∈ (b.foldl (wayS C) T).map (·.1)
  | [], a, T, h, y, hy => by rw [List.append_nil] at hy; exact h y hy
  | g :: b, a, T, h, y, hy => by
    rw [List.foldl_cons]
    refine way_keys b (a ++ [g]) _ (fun z hz => ?_) y (by simpa using hy)
    rw [List.flatten_append, List.mem_append] at hz
    unfold wayS
    rcases hz with hz | hz
    · exact wayS_in (.inr (h z hz))
    · exact wayS_in (.inl (by simpa using hz))
theorem wayF_key {a : List (List Str)} {y : Str} (h : y ∈ a.flatten) : y ∈ (wayF C a).map (·.1) := way_keys a [] [] (by simp) y (by simpa using h)
theorem wayF_len : ∀ (gs : List (List Str)) (T : Ps), (gs.foldl (wayS C) T).length ≤ T.length + (gs.map List.length).sum
  | [], T => by simp
  | g :: gs, T => by
    have h1 := wayF_len gs (wayS C T g)
    have h2 : ∀ (l : List Str) (T' : Ps) (t : Int), (l.foldl (fun T' x => putA T' x t) T').length ≤ T'.length + l.length := by
      intro l
      induction l with
      | nil => intro T' t; simp
      | cons x l ih =>
        intro T' t
        have := ih (putA T' x t) t
        have := (putA_length (acc := T') (x := x) (v := t)).2
        rw [List.foldl_cons, List.length_cons]; omega
    have h3 := h2 g T (totF C T g)
    rw [List.foldl_cons, List.map_cons, List.sum_cons]
    unfold wayS at h1 ⊢
    omega
/-- a call out of a group leads to groups found before -/
theorem call_out (ok : OkC C) {f a b : List (List Str)} {g : List Str} (h : OrdOk C f) (e : f = a ++ g :: b) {x c : Str} (hx : x ∈ g) (hc : c ∈ calsN C x) (ho : ¬ c ∈ g) : c ∈ (wayF C a).map (·.1) := by
  have hg : g ∈ left C := h.sub g (by rw [e]; simp)
  obtain ⟨hxn, eg⟩ := left_in ok hg hx
  obtain ⟨_, hhn, eh⟩ := left_hd ok hg
  obtain ⟨p, hp, rfl⟩ := List.mem_map.mp hxn
  rw [ok.cn hp] at hc
  have r1 : Rch C (hdS g) p.nm := by
    rw [eh] at hx
    exact (mem_grp.mp hx).2.1
  rcases h.rdy a g b e c (r1.trans (.one ⟨p, hp, rfl, hc⟩)) with q | q
  · exact (ho q).elim
  · exact wayF_key q
end
end Z

/-! ### P64 -/
/-! P64: words that differ (printed). -/
namespace Z
open PySem PySem.Spec PyProof.Rows L2
theorem k_set_push : decide (("set" : Str) = "push") = false := by decide +kernel
theorem k_set_pop : decide (("set" : Str) = "pop") = false := by decide +kernel
theorem k_set_pause : decide (("set" : Str) = "pause") = false := by decide +kernel
theorem k_set_call : decide (("set" : Str) = "call") = false := by decide +kernel
theorem k_set_if : decide (("set" : Str) = "if") = false := by decide +kernel
theorem k_set_while : decide (("set" : Str) = "while") = false := by decide +kernel
theorem k_push_set : decide (("push" : Str) = "set") = false := by decide +kernel
theorem k_push_pop : decide (("push" : Str) = "pop") = false := by decide +kernel
theorem k_push_pause : decide (("push" : Str) = "pause") = false := by decide +kernel
theorem k_push_call : decide (("push" : Str) = "call") = false := by decide +kernel
theorem k_push_if : decide (("push" : Str) = "if") = false := by decide +kernel
theorem k_push_while : decide (("push" : Str) = "while") = false := by decide +kernel
theorem k_store_set : decide (("store" : Str) = "set") = false := by decide +kernel
theorem k_store_push : decide (("store" : Str) = "push") = false := by decide +kernel
theorem k_store_pop : decide (("store" : Str) = "pop") = false := by decide +kernel
theorem k_store_pause : decide (("store" : Str) = "pause") = false := by decide +kernel
theorem k_store_call : decide (("store" : Str) = "call") = false := by decide +kernel
theorem k_store_if : decide (("store" : Str) = "if") = false := by decide +kernel
theorem k_store_while : decide (("store" : Str) = "while") = false := by decide +kernel
theorem k_pop_set : decide (("pop" : Str) = "set") = false := by decide +kernel
theorem k_pop_push : decide (("pop" : Str) = "push") = false := by decide +kernel
theorem k_pop_pause : decide (("pop" : Str) = "pause") = false := by decide +kernel
theorem k_pop_call : decide (("pop" : Str) = "call") = false := by decide +kernel
theorem k_pop_if : decide (("pop" : Str) = "if") = false := by decide +kernel
theorem k_pop_while : decide (("pop" : Str) = "while") = false := by decide +kernel
theorem k_pause_set : decide (("pause" : Str) = "set") = false := by decide +kernel
theorem k_pause_push : decide (("pause" : Str) = "push") = false := by decide +kernel
theorem k_pause_pop : decide (("pause" : Str) = "pop") = false := by decide +kernel
theorem k_pause_call : decide (("pause" : Str) = "call") = false := by decide +kernel
theorem k_pause_if : decide (("pause" : Str) = "if") = false := by decide +kernel
theorem k_pause_while : decide (("pause" : Str) = "while") = false := by decide +kernel
theorem k_call_set : decide (("call" : Str) = "set") = false := by decide +kernel
theorem k_call_push : decide (("call" : Str) = "push") = false := by decide +kernel
theorem k_call_pop : decide (("call" : Str) = "pop") = false := by decide +kernel
theorem k_call_pause : decide (("call" : Str) = "pause") = false := by decide +kernel
theorem k_call_if : decide (("call" : Str) = "if") = false := by decide +kernel
theorem k_call_while : decide (("call" : Str) = "while") = false := by decide +kernel
theorem k_if_set : decide (("if" : Str) = "set") = false := by decide +kernel
theorem k_if_push : decide (("if" : Str) = "push") = false := by decide +kernel
theorem k_if_pop : decide (("if" : Str) = "pop") = false := by decide +kernel
theorem k_if_pause : decide (("if" : Str) = "pause") = false := by decide +kernel
theorem k_if_call : decide (("if" : Str) = "call") = false := by decide +kernel
theorem k_if_while : decide (("if" : Str) = "while") = false := by decide +kernel
theorem k_while_set : decide (("while" : Str) = "set") = false := by decide +kernel
theorem k_while_push : decide (("while" : Str) = "push") = false := by decide +kernel
theorem k_while_pop : decide (("while" : Str) = "pop") = false := by decide +kernel
theorem k_while_pause : decide (("while" : Str) = "pause") = false := by decide +kernel
theorem k_while_call : decide (("while" : Str) = "call") = false := by decide +kernel
theorem k_while_if : decide (("while" : Str) = "if") = false := by decide +kernel
theorem k_int_array : decide (("int" : Str) = "array") = false := by decide +kernel
theorem k_minus_array : decide (("minus" : Str) = "array") = false := by decide +kernel
end Z

/-! ### the text -/
namespace Z
open PySem PySem.Spec PyProof.Rows L2
def top (i : Nat) : Stmt := PySem.Challenge.pw_tellsnomore_k58_groups_nests_and_moving.main.body.getD i (.Pass ⟨0, 0, 0, 0⟩)
def dd (p : Str × Option Str) (n q : Str) (st : Stmt) : He.DefD := ⟨p, n, q, defArgs st, defBody st, defScope st, [], []⟩
def f_statements_in : Df := ⟨1, [("body" : Str), ("found" : Str), ("statement" : Str), ("block" : Str)],
  (.cons (.set (.v 1) (.lst .nil)) (.cons (.fr (.v 2) (.val (.var 0)) (.cons (.ex (.bm (.var 1) .append (.cons (.var 2) .nil))) (.cons (.ife (.cmp .in_ (.ix (.var 2) (.int 0)) (.tup (.cons (.str "if") (.cons (.str "while") .nil)))) (.cons (.fr (.v 3) (.val (.sl (.var 2) (.so (.int 2)) .no)) (.cons (.ex (.bm (.var 1) .extend (.cons (.call "statements_in" (.cons (.var 3) .nil)) .nil))) .nil)) .nil) .nil) .nil))) (.cons (.ret (.var 1)) .nil)))⟩
def f_proc_named : Df := ⟨2, [("core" : Str), ("name" : Str), ("proc" : Str)],
  (.cons (.ret (.ix (.lc (.var 2) (.v 2) (.val (.var 0)) (.so (.cmp .eq (.ix (.var 2) (.int 0)) (.var 1))) [2]) (.int 0))) .nil)⟩
def f_assigned_in : Df := ⟨1, [("proc" : Str), ("found" : Str), ("statement" : Str), ("x" : Str), ("expression" : Str)],
  (.cons (.set (.v 1) (.lst .nil)) (.cons (.fr (.v 2) (.val (.call "statements_in" (.cons (.ix (.var 0) (.int 8)) .nil))) (.cons (.ife (.cmp .eq (.ix (.var 2) (.int 0)) (.str "set")) (.cons (.ex (.bm (.var 1) .extend (.cons (.lc (.var 3) (.t (.cons (.v 3) (.cons (.v 4) .nil))) (.val (.ix (.var 2) (.int 1))) .no [3, 4]) .nil))) .nil) (.cons (.ife (.cmp .eq (.ix (.var 2) (.int 0)) (.str "pop")) (.cons (.ex (.bm (.var 1) .extend (.cons (.lst (.cons (.ix (.var 2) (.int 1)) (.cons (.bin .add (.str "#") (.ix (.var 2) (.int 2))) .nil))) .nil))) .nil) (.cons (.ife (.cmp .eq (.ix (.var 2) (.int 0)) (.str "push")) (.cons (.ex (.bm (.var 1) .append (.cons (.bin .add (.str "#") (.ix (.var 2) (.int 2))) .nil))) .nil) (.cons (.ife (.cmp .eq (.ix (.var 2) (.int 0)) (.str "call")) (.cons (.ex (.bm (.var 1) .extend (.cons (.ix (.var 2) (.int 3)) .nil))) .nil) .nil) .nil)) .nil)) .nil)) .nil)) (.cons (.ret (.var 1)) .nil)))⟩
def f_passed_on : Df := ⟨3, [("core" : Str), ("moving" : Str), ("proc" : Str), ("found" : Str), ("statement" : Str), ("parameters" : Str), ("parameter" : Str), ("argument" : Str)],
  (.cons (.set (.v 3) (.lst .nil)) (.cons (.fr (.v 4) (.val (.call "statements_in" (.cons (.ix (.var 2) (.int 8)) .nil))) (.cons (.ife (.cmp .eq (.ix (.var 4) (.int 0)) (.str "call")) (.cons (.set (.v 5) (.ix (.call "proc_named" (.cons (.var 0) (.cons (.ix (.var 4) (.int 1)) .nil))) (.int 1))) (.cons (.fr (.t (.cons (.v 6) (.cons (.v 7) .nil))) (.zip (.var 5) (.ix (.var 4) (.int 2))) (.cons (.ife (.andE (.cons (.cmp .eq (.ix (.var 6) (.int 0)) (.str "array")) (.cons (.cmp .in_ (.bin .add (.str "#") (.ix (.var 6) (.int 1))) (.ix (.var 1) (.ix (.var 4) (.int 1)))) .nil))) (.cons (.ex (.bm (.var 3) .append (.cons (.bin .add (.str "#") (.ix (.var 7) (.int 1))) .nil))) .nil) .nil) .nil)) .nil)) .nil) .nil)) (.cons (.ret (.var 3)) .nil)))⟩
def f_moving_table : Df := ⟨1, [("core" : Str), ("moving" : Str), ("growing" : Str), ("proc" : Str), ("name" : Str)],
  (.cons (.set (.v 1) (.dc (.ix (.var 3) (.int 0)) (.call "assigned_in" (.cons (.var 3) .nil)) (.v 3) (.val (.var 0)) .no [3])) (.cons (.set (.v 2) (.bl true)) (.cons (.wh (.var 2) (.cons (.set (.v 2) (.bl false)) (.cons (.fr (.v 3) (.val (.var 0)) (.cons (.fr (.v 4) (.val (.call "passed_on" (.cons (.var 0) (.cons (.var 1) (.cons (.var 3) .nil))))) (.cons (.ife (.cmp .nin (.var 4) (.ix (.var 1) (.ix (.var 3) (.int 0)))) (.cons (.ex (.bm (.ix (.var 1) (.ix (.var 3) (.int 0))) .append (.cons (.var 4) .nil))) (.cons (.set (.v 2) (.bl true)) .nil)) .nil) .nil)) .nil)) .nil))) (.cons (.ret (.var 1)) .nil))))⟩
def f_variable_of : Df := ⟨1, [("item" : Str)],
  (.cons (.ife (.cmp .eq (.ix (.var 0) (.int 0)) (.str "array")) (.cons (.ret (.bin .add (.str "#") (.ix (.var 0) (.int 1)))) .nil) .nil) (.cons (.ret (.ix (.var 0) (.int 1))) .nil))⟩
def f_moving_items : Df := ⟨2, [("proc" : Str), ("moving" : Str), ("item" : Str)],
  (.cons (.ret (.lc (.var 2) (.v 2) (.val (.ix (.var 0) (.int 1))) (.so (.cmp .in_ (.call "variable_of" (.cons (.var 2) .nil)) (.ix (.var 1) (.ix (.var 0) (.int 0))))) [2])) .nil)⟩
def f_moving_of : Df := ⟨2, [("core" : Str), ("name" : Str), ("item" : Str)],
  (.cons (.ret (.bi .tuple (.cons (.lc (.ix (.var 2) (.int 1)) (.v 2) (.val (.call "moving_items" (.cons (.call "proc_named" (.cons (.var 0) (.cons (.var 1) .nil))) (.cons (.call "moving_table" (.cons (.var 0) .nil)) .nil)))) .no [2]) .nil))) .nil)⟩
def f_calls_in : Df := ⟨1, [("proc" : Str), ("statement" : Str)],
  (.cons (.ret (.lc (.ix (.var 1) (.int 1)) (.v 1) (.val (.call "statements_in" (.cons (.ix (.var 0) (.int 8)) .nil))) (.so (.cmp .eq (.ix (.var 1) (.int 0)) (.str "call"))) [1])) .nil)⟩
def f_reached_from : Df := ⟨2, [("core" : Str), ("name" : Str), ("found" : Str), ("index" : Str), ("callee" : Str)],
  (.cons (.set (.v 2) (.lst (.cons (.var 1) .nil))) (.cons (.set (.v 3) (.int 0)) (.cons (.wh (.cmp .lt (.var 3) (.bi .len (.cons (.var 2) .nil))) (.cons (.fr (.v 4) (.val (.call "calls_in" (.cons (.call "proc_named" (.cons (.var 0) (.cons (.ix (.var 2) (.var 3)) .nil))) .nil))) (.cons (.ife (.cmp .nin (.var 4) (.var 2)) (.cons (.ex (.bm (.var 2) .append (.cons (.var 4) .nil))) .nil) .nil) .nil)) (.cons (.aug 3 .add (.int 1)) .nil))) (.cons (.ret (.var 2)) .nil))))⟩
def f_group_of : Df := ⟨2, [("reached" : Str), ("name" : Str), ("other" : Str)],
  (.cons (.ret (.bi .tuple (.cons (.lc (.var 2) (.v 2) (.val (.bi .sorted (.cons (.ix (.var 0) (.var 1)) .nil))) (.so (.cmp .in_ (.var 1) (.ix (.var 0) (.var 2)))) [2]) .nil))) .nil)⟩
def f_groups_of : Df := ⟨1, [("core" : Str), ("reached" : Str), ("waiting" : Str), ("found" : Str), ("placed" : Str), ("ready" : Str), ("proc" : Str), ("name" : Str), ("group" : Str), ("x" : Str)],
  (.cons (.set (.v 1) (.dc (.ix (.var 6) (.int 0)) (.call "reached_from" (.cons (.var 0) (.cons (.ix (.var 6) (.int 0)) .nil))) (.v 6) (.val (.var 0)) .no [6])) (.cons (.set (.v 2) (.ssc (.call "group_of" (.cons (.var 1) (.cons (.var 7) .nil))) (.v 7) (.keys (.var 1)) .no [7])) (.cons (.set (.v 3) (.lst .nil)) (.cons (.set (.v 4) (.lst .nil)) (.cons (.wh (.var 2) (.cons (.set (.v 5) (.lc (.var 8) (.v 8) (.val (.var 2)) (.so (.bi .all (.cons (.lc (.orE (.cons (.cmp .in_ (.var 9) (.var 4)) (.cons (.cmp .in_ (.var 9) (.var 8)) .nil))) (.v 9) (.val (.ix (.var 1) (.ix (.var 8) (.int 0)))) .no [9]) .nil))) [8])) (.cons (.ex (.bm (.var 3) .append (.cons (.ix (.var 5) (.int 0)) .nil))) (.cons (.ex (.bm (.var 4) .extend (.cons (.ix (.var 5) (.int 0)) .nil))) (.cons (.ex (.bm (.var 2) .remove (.cons (.ix (.var 5) (.int 0)) .nil))) .nil))))) (.cons (.ret (.bi .tuple (.cons (.var 3) .nil))) .nil))))))⟩
def f_ways_table : Df := ⟨1, [("core" : Str), ("table" : Str), ("group" : Str), ("total" : Str), ("name" : Str), ("callee" : Str)],
  (.cons (.set (.v 1) (.dic .nil)) (.cons (.fr (.v 2) (.val (.call "groups_of" (.cons (.var 0) .nil))) (.cons (.set (.v 3) (.int 0)) (.cons (.fr (.v 4) (.val (.var 2)) (.cons (.fr (.v 5) (.val (.call "calls_in" (.cons (.call "proc_named" (.cons (.var 0) (.cons (.var 4) .nil))) .nil))) (.cons (.ife (.cmp .nin (.var 5) (.var 2)) (.cons (.aug 3 .add (.bin .add (.int 1) (.ix (.var 1) (.var 5)))) .nil) .nil) .nil)) .nil)) (.cons (.fr (.v 4) (.val (.var 2)) (.cons (.setIx (.var 1) (.var 4) (.var 3)) .nil)) .nil)))) (.cons (.ret (.var 1)) .nil)))⟩
def f_ways_down : Df := ⟨2, [("core" : Str), ("group" : Str)],
  (.cons (.ret (.ix (.call "ways_table" (.cons (.var 0) .nil)) (.ix (.var 1) (.int 0)))) .nil)⟩
def f_numbered : Df := ⟨2, [("body" : Str), ("first" : Str), ("found" : Str), ("point" : Str), ("statement" : Str), ("kind" : Str), ("block" : Str), ("after" : Str), ("left" : Str), ("middle" : Str), ("right" : Str)],
  (.cons (.set (.v 2) (.lst .nil)) (.cons (.set (.v 3) (.var 1)) (.cons (.fr (.v 4) (.val (.var 0)) (.cons (.set (.v 5) (.ix (.var 4) (.int 0))) (.cons (.ife (.cmp .eq (.var 5) (.str "while")) (.cons (.set (.t (.cons (.v 6) (.cons (.v 7) .nil))) (.call "numbered" (.cons (.ix (.var 4) (.int 2)) (.cons (.bin .add (.var 3) (.int 1)) .nil)))) (.cons (.ex (.bm (.var 2) .append (.cons (.tup (.cons (.str "while") (.cons (.ix (.var 4) (.int 1)) (.cons (.var 6) (.cons (.var 3) .nil))))) .nil))) (.cons (.set (.v 3) (.var 7)) .nil))) (.cons (.ife (.cmp .eq (.var 5) (.str "if")) (.cons (.set (.t (.cons (.v 8) (.cons (.v 9) .nil))) (.call "numbered" (.cons (.ix (.var 4) (.int 2)) (.cons (.var 3) .nil)))) (.cons (.set (.t (.cons (.v 10) (.cons (.v 3) .nil))) (.call "numbered" (.cons (.ix (.var 4) (.int 3)) (.cons (.var 9) .nil)))) (.cons (.ex (.bm (.var 2) .append (.cons (.tup (.cons (.str "if") (.cons (.ix (.var 4) (.int 1)) (.cons (.var 8) (.cons (.var 10) .nil))))) .nil))) .nil))) (.cons (.ife (.cmp .eq (.var 5) (.str "pause")) (.cons (.ex (.bm (.var 2) .append (.cons (.tup (.cons (.str "pause") (.cons (.var 3) .nil))) .nil))) (.cons (.aug 3 .add (.int 1)) .nil)) (.cons (.ife (.cmp .eq (.var 5) (.str "call")) (.cons (.ex (.bm (.var 2) .append (.cons (.bin .add (.var 4) (.tup (.cons (.var 3) .nil))) .nil))) (.cons (.aug 3 .add (.int 2)) .nil)) (.cons (.ex (.bm (.var 2) .append (.cons (.var 4) .nil))) .nil)) .nil)) .nil)) .nil)) .nil))) (.cons (.ret (.tup (.cons (.bi .tuple (.cons (.var 2) .nil)) (.cons (.var 3) .nil)))) .nil))))⟩
def f_places_in : Df := ⟨3, [("body" : Str), ("rest" : Str), ("nest" : Str), ("found" : Str), ("index" : Str), ("statement" : Str), ("after" : Str), ("kind" : Str), ("inner" : Str)],
  (.cons (.set (.v 3) (.lst .nil)) (.cons (.fr (.t (.cons (.v 4) (.cons (.v 5) .nil))) (.enum (.var 0)) (.cons (.set (.v 6) (.tup (.cons (.str "body") (.cons (.var 0) (.cons (.bin .add (.var 4) (.int 1)) (.cons (.var 1) .nil)))))) (.cons (.set (.v 7) (.ix (.var 5) (.int 0))) (.cons (.ife (.cmp .eq (.var 7) (.str "while")) (.cons (.set (.v 8) (.bin .add (.var 2) (.tup (.cons (.ix (.var 5) (.int 3)) .nil)))) (.cons (.ex (.bm (.var 3) .append (.cons (.tup (.cons (.ix (.var 5) (.int 3)) (.cons (.var 5) (.cons (.var 6) (.cons (.var 8) .nil))))) .nil))) (.cons (.ex (.bm (.var 3) .extend (.cons (.call "places_in" (.cons (.ix (.var 5) (.int 2)) (.cons (.tup (.cons (.str "loop") (.cons (.ix (.var 5) (.int 3)) .nil))) (.cons (.var 8) .nil)))) .nil))) .nil))) (.cons (.ife (.cmp .eq (.var 7) (.str "if")) (.cons (.ex (.bm (.var 3) .extend (.cons (.call "places_in" (.cons (.ix (.var 5) (.int 2)) (.cons (.var 6) (.cons (.var 2) .nil)))) .nil))) (.cons (.ex (.bm (.var 3) .extend (.cons (.call "places_in" (.cons (.ix (.var 5) (.int 3)) (.cons (.var 6) (.cons (.var 2) .nil)))) .nil))) .nil)) (.cons (.ife (.cmp .eq (.var 7) (.str "pause")) (.cons (.ex (.bm (.var 3) .append (.cons (.tup (.cons (.ix (.var 5) (.int 1)) (.cons (.var 5) (.cons (.var 6) (.cons (.var 2) .nil))))) .nil))) .nil) (.cons (.ife (.cmp .eq (.var 7) (.str "call")) (.cons (.ex (.bm (.var 3) .append (.cons (.tup (.cons (.ix (.var 5) (.int 4)) (.cons (.var 5) (.cons (.var 6) (.cons (.var 2) .nil))))) .nil))) .nil) .nil) .nil)) .nil)) .nil)) .nil)))) (.cons (.ret (.var 3)) .nil)))⟩
def f_nests_in : Df := ⟨1, [("body" : Str), ("found" : Str), ("point" : Str), ("statement" : Str), ("after" : Str), ("nest" : Str)],
  (.cons (.set (.v 1) (.lst (.cons (.tup .nil) .nil))) (.cons (.fr (.t (.cons (.v 2) (.cons (.v 3) (.cons (.v 4) (.cons (.v 5) .nil))))) (.val (.call "places_in" (.cons (.var 0) (.cons (.tup .nil) (.cons (.tup .nil) .nil))))) (.cons (.ex (.bm (.var 1) .append (.cons (.var 5) .nil))) (.cons (.ife (.cmp .eq (.ix (.var 3) (.int 0)) (.str "call")) (.cons (.ex (.bm (.var 1) .append (.cons (.var 5) .nil))) .nil) .nil) .nil))) (.cons (.ret (.bi .tuple (.cons (.var 1) .nil))) .nil)))⟩
def f_nests_of : Df := ⟨2, [("core" : Str), ("name" : Str)],
  (.cons (.ret (.call "nests_in" (.cons (.ix (.call "numbered" (.cons (.ix (.call "proc_named" (.cons (.var 0) (.cons (.var 1) .nil))) (.int 8)) (.cons (.int 1) .nil))) (.int 0)) .nil))) .nil)⟩
def f__law_draw : Df := ⟨2, [("state" : Str), ("most" : Str), ("cell" : Str), ("mixed" : Str), ("found" : Str)],
  (.cons (.setIx (.var 0) (.int 3) (.bin .add (.ix (.var 0) (.int 3)) (.int 1))) (.cons (.ife (.cmp .gt (.ix (.var 0) (.int 2)) (.int 0)) (.cons (.set (.v 4) (.bin .mod (.bi .int (.cons (.ix (.var 0) (.int 2)) .nil)) (.var 1))) (.cons (.setIx (.var 0) (.int 2) (.bin .fdiv (.ix (.var 0) (.int 2)) (.var 1))) (.cons (.ret (.var 4)) .nil))) .nil) (.cons (.set (.v 2) (.int 0)) (.cons (.ife (.cmp .gt (.bi .len (.cons (.ix (.var 0) (.int 0)) .nil)) (.int 0)) (.cons (.set (.v 2) (.bi .abs (.cons (.ix (.ix (.var 0) (.int 0)) (.bin .mod (.bi .int (.cons (.ix (.var 0) (.int 1)) .nil)) (.bi .len (.cons (.ix (.var 0) (.int 0)) .nil)))) .nil))) .nil) .nil) (.cons (.setIx (.var 0) (.int 1) (.bin .add (.ix (.var 0) (.int 1)) (.int 1))) (.cons (.ife (.cmp .ge (.var 2) (.bin .pow (.int 10) (.int 18))) (.cons (.setIx (.var 0) (.int 2) (.bin .fdiv (.var 2) (.var 1))) (.cons (.ret (.bin .mod (.bi .int (.cons (.var 2) .nil)) (.var 1))) .nil)) .nil) (.cons (.set (.v 3) (.bin .mod (.bi .int (.cons (.bin .add (.bin .mul (.bin .add (.var 2) (.int 1)) (.int 48271)) (.bin .mul (.ix (.var 0) (.int 3)) (.int 69621))) .nil)) (.int 2147483647))) (.cons (.set (.v 3) (.bin .mod (.bi .int (.cons (.bin .add (.bin .add (.bin .mul (.var 3) (.int 16807)) (.bin .fdiv (.var 2) (.int 97))) (.ix (.var 0) (.int 3))) .nil)) (.int 2147483629))) (.cons (.ret (.bin .mod (.bin .fdiv (.var 3) (.int 11)) (.var 1))) .nil)))))))))⟩
def f__law_one_of : Df := ⟨2, [("state" : Str), ("items" : Str)],
  (.cons (.ret (.ix (.var 1) (.call "_law_draw" (.cons (.var 0) (.cons (.bi .len (.cons (.var 1) .nil)) .nil))))) .nil)⟩
def f__law_shuffled : Df := ⟨2, [("state" : Str), ("items" : Str), ("found" : Str), ("item" : Str)],
  (.cons (.set (.v 2) (.lst .nil)) (.cons (.fr (.v 3) (.val (.var 1)) (.cons (.ex (.bm (.var 2) .insert (.cons (.call "_law_draw" (.cons (.var 0) (.cons (.bin .add (.bi .len (.cons (.var 2) .nil)) (.int 1)) .nil))) (.cons (.var 3) .nil)))) .nil)) (.cons (.ret (.var 2)) .nil)))⟩
def f__law_some_statements : Df := ⟨4, [("state" : Str), ("own" : Str), ("heads" : Str), ("depth" : Str), ("many" : Str), ("k" : Str)],
  (.cons (.set (.v 4) (.call "_law_draw" (.cons (.var 0) (.cons (.int 3) .nil)))) (.cons (.ife (.cmp .eq (.var 3) (.int 3)) (.cons (.set (.v 4) (.bin .add (.var 4) (.call "_law_draw" (.cons (.var 0) (.cons (.int 3) .nil))))) .nil) .nil) (.cons (.ret (.bi .tuple (.cons (.lc (.call "_law_one_statement" (.cons (.var 0) (.cons (.var 1) (.cons (.var 2) (.cons (.var 3) .nil))))) (.v 5) (.rng1 (.var 4)) .no [5]) .nil))) .nil)))⟩
def f__law_one_statement : Df := ⟨4, [("state" : Str), ("own" : Str), ("heads" : Str), ("depth" : Str), ("pick" : Str), ("array" : Str), ("x" : Str), ("test" : Str), ("block" : Str), ("n" : Str), ("i" : Str), ("j" : Str), ("a" : Str), ("b" : Str), ("w" : Str), ("callee" : Str), ("passed" : Str), ("args" : Str), ("kind" : Str), ("targets" : Str)],
  (.cons (.set (.v 4) (.call "_law_draw" (.cons (.var 0) (.cons (.int 11) .nil)))) (.cons (.unl (.cons (.v 9) (.cons (.v 10) (.cons (.v 11) (.cons (.v 12) (.cons (.v 13) (.cons (.v 14) .nil)))))) (.var 1)) (.cons (.set (.v 5) (.call "_law_one_of" (.cons (.var 0) (.cons (.lst (.cons (.var 12) (.cons (.var 13) (.cons (.var 14) .nil)))) .nil)))) (.cons (.set (.v 6) (.call "_law_one_of" (.cons (.var 0) (.cons (.lst (.cons (.var 9) (.cons (.var 10) (.cons (.var 11) (.cons (.var 11) .nil))))) .nil)))) (.cons (.ife (.cmp .lt (.var 4) (.int 2)) (.cons (.ret (.tup (.cons (.str "set") (.cons (.tup (.cons (.tup (.cons (.var 6) (.cons (.tup (.cons (.str "plus") (.cons (.tup (.cons (.str "name") (.cons (.var 10) .nil))) (.cons (.tup (.cons (.str "number") (.cons (.call "_law_draw" (.cons (.var 0) (.cons (.int 4) .nil))) .nil))) .nil)))) .nil))) .nil)) .nil)))) .nil) .nil) (.cons (.ife (.cmp .eq (.var 4) (.int 2)) (.cons (.ret (.tup (.cons (.str "push") (.cons (.tup (.cons (.str "name") (.cons (.var 9) .nil))) (.cons (.var 5) .nil))))) .nil) .nil) (.cons (.ife (.cmp .eq (.var 4) (.int 3)) (.cons (.ret (.tup (.cons (.str "store") (.cons (.var 5) (.cons (.tup (.cons (.str "number") (.cons (.int 0) .nil))) (.cons (.tup (.cons (.str "name") (.cons (.var 11) .nil))) .nil)))))) .nil) .nil) (.cons (.ife (.cmp .eq (.var 4) (.int 4)) (.cons (.ret (.tup (.cons (.str "pop") (.cons (.var 6) (.cons (.var 5) .nil))))) .nil) .nil) (.cons (.ife (.cmp .eq (.var 4) (.int 5)) (.cons (.ret (.tup (.cons (.str "pause") .nil))) .nil) .nil) (.cons (.ife (.orE (.cons (.cmp .lt (.var 4) (.int 8)) (.cons (.cmp .eq (.var 3) (.int 0)) .nil))) (.cons (.set (.v 15) (.call "_law_one_of" (.cons (.var 0) (.cons (.var 2) .nil)))) (.cons (.set (.v 16) (.call "_law_shuffled" (.cons (.var 0) (.cons (.lst (.cons (.var 12) (.cons (.var 13) (.cons (.var 14) .nil)))) .nil)))) (.cons (.set (.v 17) (.lst .nil)) (.cons (.fr (.v 18) (.val (.ix (.var 15) (.int 1))) (.cons (.ife (.cmp .eq (.var 18) (.str "array")) (.cons (.ex (.bm (.var 17) .append (.cons (.tup (.cons (.str "array") (.cons (.bm (.var 16) .pop .nil) .nil))) .nil))) .nil) (.cons (.ex (.bm (.var 17) .append (.cons (.tup (.cons (.str "minus") (.cons (.tup (.cons (.str "name") (.cons (.var 9) .nil))) (.cons (.tup (.cons (.str "number") (.cons (.int 1) .nil))) .nil)))) .nil))) .nil)) .nil)) (.cons (.set (.v 19) (.bin .add (.bin .mul (.tup (.cons (.tup (.cons (.var 6) .nil)) .nil)) (.bi .len (.cons (.ix (.var 15) (.int 2)) .nil))) (.tup (.cons (.tup .nil) .nil)))) (.cons (.ret (.tup (.cons (.str "call") (.cons (.ix (.var 15) (.int 0)) (.cons (.bi .tuple (.cons (.var 17) .nil)) (.cons (.ix (.var 19) (.call "_law_draw" (.cons (.var 0) (.cons (.bi .len (.cons (.var 19) .nil)) .nil)))) .nil)))))) .nil)))))) .nil) (.cons (.set (.v 7) (.tup (.cons (.str "less") (.cons (.tup (.cons (.str "name") (.cons (.var 10) .nil))) (.cons (.tup (.cons (.str "name") (.cons (.var 9) .nil))) .nil))))) (.cons (.set (.v 8) (.call "_law_some_statements" (.cons (.var 0) (.cons (.var 1) (.cons (.var 2) (.cons (.bin .sub (.var 3) (.int 1)) .nil)))))) (.cons (.ife (.cmp .eq (.var 4) (.int 8)) (.cons (.ret (.tup (.cons (.str "if") (.cons (.var 7) (.cons (.var 8) (.cons (.call "_law_some_statements" (.cons (.var 0) (.cons (.var 1) (.cons (.var 2) (.cons (.bin .sub (.var 3) (.int 1)) .nil))))) .nil)))))) .nil) .nil) (.cons (.ret (.tup (.cons (.str "while") (.cons (.var 7) (.cons (.var 8) .nil))))) .nil))))))))))))))⟩
def f__law_words : Df := ⟨2, [("state" : Str), ("many" : Str), ("letters" : Str), ("start" : Str), ("step" : Str), ("shared" : Str), ("k" : Str)],
  (.cons (.set (.v 2) (.str "abcdefghijklmnopqrstuvwxyz")) (.cons (.set (.v 3) (.call "_law_draw" (.cons (.var 0) (.cons (.int 26) .nil)))) (.cons (.set (.v 4) (.bin .add (.int 1) (.bin .mul (.int 2) (.call "_law_draw" (.cons (.var 0) (.cons (.int 6) .nil)))))) (.cons (.set (.v 5) (.sl (.str "qxz") .no (.so (.call "_law_draw" (.cons (.var 0) (.cons (.int 4) .nil)))))) (.cons (.ife (.cmp .eq (.call "_law_draw" (.cons (.var 0) (.cons (.int 2) .nil))) (.int 0)) (.cons (.ret (.lc (.bin .add (.var 5) (.ix (.var 2) (.bin .mod (.bi .int (.cons (.bin .add (.var 3) (.bin .mul (.var 6) (.var 4))) .nil)) (.int 26)))) (.v 6) (.rng1 (.var 1)) .no [6])) .nil) .nil) (.cons (.ret (.lc (.bin .add (.ix (.var 2) (.bin .mod (.bi .int (.cons (.bin .add (.var 3) (.bin .mul (.var 6) (.var 4))) .nil)) (.int 26))) (.var 5)) (.v 6) (.rng1 (.var 1)) .no [6])) .nil))))))⟩
def f__law_core : Df := ⟨1, [("state" : Str), ("names" : Str), ("heads" : Str), ("name" : Str), ("core" : Str), ("kinds" : Str), ("results" : Str), ("own" : Str), ("spots" : Str), ("items" : Str), ("kind" : Str), ("places" : Str), ("body" : Str)],
  (.cons (.set (.v 1) (.bi .sorted (.cons (.call "_law_words" (.cons (.var 0) (.cons (.bin .add (.int 2) (.call "_law_draw" (.cons (.var 0) (.cons (.int 5) .nil)))) .nil))) .nil))) (.cons (.set (.v 2) (.lst .nil)) (.cons (.fr (.v 3) (.val (.var 1)) (.cons (.set (.v 5) (.call "_law_shuffled" (.cons (.var 0) (.cons (.lst (.cons (.str "int") (.cons (.str "array") (.cons (.str "array") .nil)))) .nil)))) (.cons (.ex (.bm (.var 2) .append (.cons (.tup (.cons (.var 3) (.cons (.var 5) (.cons (.ix (.lst (.cons (.tup .nil) (.cons (.tup (.cons (.str "result") .nil)) .nil))) (.call "_law_draw" (.cons (.var 0) (.cons (.int 2) .nil)))) .nil)))) .nil))) .nil))) (.cons (.set (.v 4) (.lst .nil)) (.cons (.fr (.t (.cons (.v 3) (.cons (.v 5) (.cons (.v 6) .nil)))) (.val (.var 2)) (.cons (.set (.v 7) (.call "_law_words" (.cons (.var 0) (.cons (.int 6) .nil)))) (.cons (.set (.v 8) (.lst (.cons (.ix (.var 7) (.int 3)) (.cons (.ix (.var 7) (.int 4)) .nil)))) (.cons (.set (.v 9) (.lst .nil)) (.cons (.fr (.v 10) (.val (.var 5)) (.cons (.ife (.cmp .eq (.var 10) (.str "int")) (.cons (.ex (.bm (.var 9) .append (.cons (.tup (.cons (.str "int") (.cons (.ix (.var 7) (.int 0)) .nil))) .nil))) .nil) (.cons (.ex (.bm (.var 9) .append (.cons (.tup (.cons (.str "array") (.cons (.bm (.var 8) .pop .nil) .nil))) .nil))) .nil)) .nil)) (.cons (.set (.v 11) (.tup (.cons (.tup (.cons (.str "int") (.cons (.ix (.var 7) (.int 1)) .nil))) (.cons (.tup (.cons (.str "int") (.cons (.ix (.var 7) (.int 2)) .nil))) (.cons (.tup (.cons (.str "array") (.cons (.ix (.var 7) (.int 5)) .nil))) .nil))))) (.cons (.set (.v 12) (.call "_law_some_statements" (.cons (.var 0) (.cons (.var 7) (.cons (.var 2) (.cons (.int 3) .nil)))))) (.cons (.ex (.bm (.var 4) .append (.cons (.tup (.cons (.var 3) (.cons (.bi .tuple (.cons (.var 9) .nil)) (.cons (.var 6) (.cons (.var 11) (.cons (.tup .nil) (.cons (.tup .nil) (.cons (.tup .nil) (.cons (.tup .nil) (.cons (.var 12) .nil)))))))))) .nil))) .nil)))))))) (.cons (.ret (.bi .tuple (.cons (.var 4) .nil))) .nil))))))⟩
def f__law_statements : Df := ⟨1, [("body" : Str), ("found" : Str), ("s" : Str)],
  (.cons (.set (.v 1) (.lst .nil)) (.cons (.fr (.v 2) (.val (.var 0)) (.cons (.ex (.bm (.var 1) .append (.cons (.var 2) .nil))) (.cons (.ife (.cmp .eq (.ix (.var 2) (.int 0)) (.str "while")) (.cons (.set (.v 1) (.bin .add (.var 1) (.call "_law_statements" (.cons (.ix (.var 2) (.int 2)) .nil)))) .nil) (.cons (.ife (.cmp .eq (.ix (.var 2) (.int 0)) (.str "if")) (.cons (.set (.v 1) (.bin .add (.bin .add (.var 1) (.call "_law_statements" (.cons (.ix (.var 2) (.int 2)) .nil))) (.call "_law_statements" (.cons (.ix (.var 2) (.int 3)) .nil)))) .nil) .nil) .nil)) .nil))) (.cons (.ret (.var 1)) .nil)))⟩
def f__law_callees : Df := ⟨1, [("p" : Str), ("s" : Str)],
  (.cons (.ret (.lc (.ix (.var 1) (.int 1)) (.v 1) (.val (.call "_law_statements" (.cons (.ix (.var 0) (.int 8)) .nil))) (.so (.cmp .eq (.ix (.var 1) (.int 0)) (.str "call"))) [1])) .nil)⟩
def f__law_changed_by : Df := ⟨1, [("p" : Str), ("found" : Str), ("s" : Str), ("x" : Str), ("e" : Str)],
  (.cons (.set (.v 1) (.lst .nil)) (.cons (.fr (.v 2) (.val (.call "_law_statements" (.cons (.ix (.var 0) (.int 8)) .nil))) (.cons (.ife (.cmp .eq (.ix (.var 2) (.int 0)) (.str "set")) (.cons (.set (.v 1) (.bin .add (.var 1) (.lc (.var 3) (.t (.cons (.v 3) (.cons (.v 4) .nil))) (.val (.ix (.var 2) (.int 1))) .no [3, 4]))) .nil) (.cons (.ife (.cmp .eq (.ix (.var 2) (.int 0)) (.str "pop")) (.cons (.set (.v 1) (.bin .add (.var 1) (.lst (.cons (.ix (.var 2) (.int 1)) (.cons (.ix (.var 2) (.int 2)) .nil))))) .nil) (.cons (.ife (.cmp .eq (.ix (.var 2) (.int 0)) (.str "push")) (.cons (.ex (.bm (.var 1) .append (.cons (.ix (.var 2) (.int 2)) .nil))) .nil) (.cons (.ife (.cmp .eq (.ix (.var 2) (.int 0)) (.str "call")) (.cons (.set (.v 1) (.bin .add (.var 1) (.bi .list (.cons (.ix (.var 2) (.int 3)) .nil)))) .nil) .nil) .nil)) .nil)) .nil)) .nil)) (.cons (.ret (.var 1)) .nil)))⟩
def f__law_handed_on : Df := ⟨2, [("core" : Str), ("moves" : Str), ("found" : Str), ("p" : Str), ("s" : Str), ("items" : Str), ("k" : Str), ("q" : Str)],
  (.cons (.set (.v 2) (.lst .nil)) (.cons (.fr (.v 3) (.val (.var 0)) (.cons (.fr (.v 4) (.val (.call "_law_statements" (.cons (.ix (.var 3) (.int 8)) .nil))) (.cons (.ife (.cmp .eq (.ix (.var 4) (.int 0)) (.str "call")) (.cons (.set (.v 5) (.ix (.ix (.lc (.var 7) (.v 7) (.val (.var 0)) (.so (.cmp .eq (.ix (.var 7) (.int 0)) (.ix (.var 4) (.int 1)))) [7]) (.int 0)) (.int 1))) (.cons (.fr (.v 6) (.rng1 (.bi .len (.cons (.var 5) .nil))) (.cons (.ife (.andE (.cons (.cmp .eq (.ix (.ix (.ix (.var 4) (.int 2)) (.var 6)) (.int 0)) (.str "array")) (.cons (.cmp .in_ (.tup (.cons (.ix (.var 4) (.int 1)) (.cons (.ix (.ix (.var 5) (.var 6)) (.int 1)) .nil))) (.var 1)) (.cons (.cmp .nin (.tup (.cons (.ix (.var 3) (.int 0)) (.cons (.ix (.ix (.ix (.var 4) (.int 2)) (.var 6)) (.int 1)) .nil))) (.var 1)) .nil)))) (.cons (.ex (.bm (.var 2) .append (.cons (.tup (.cons (.ix (.var 3) (.int 0)) (.cons (.ix (.ix (.ix (.var 4) (.int 2)) (.var 6)) (.int 1)) .nil))) .nil))) .nil) .nil) .nil)) .nil)) .nil) .nil)) .nil)) (.cons (.ret (.var 2)) .nil)))⟩
def f__law_all_moves : Df := ⟨1, [("core" : Str), ("moves" : Str), ("p" : Str), ("turn" : Str), ("more" : Str), ("x" : Str)],
  (.cons (.set (.v 1) (.lst .nil)) (.cons (.fr (.v 2) (.val (.var 0)) (.cons (.set (.v 1) (.bin .add (.var 1) (.lc (.tup (.cons (.ix (.var 2) (.int 0)) (.cons (.var 5) .nil))) (.v 5) (.val (.call "_law_changed_by" (.cons (.var 2) .nil))) .no [5]))) .nil)) (.cons (.fr (.v 3) (.rng1 (.int 60)) (.cons (.set (.v 4) (.call "_law_handed_on" (.cons (.var 0) (.cons (.var 1) .nil)))) (.cons (.ife (.cmp .eq (.var 4) (.lst .nil)) (.cons .brk .nil) .nil) (.cons (.set (.v 1) (.bin .add (.var 1) (.var 4))) .nil)))) (.cons (.ret (.var 1)) .nil))))⟩
def f__law_nests : Df := ⟨2, [("body" : Str), ("nest" : Str), ("found" : Str), ("s" : Str), ("inner" : Str)],
  (.cons (.set (.v 2) (.lst .nil)) (.cons (.fr (.v 3) (.val (.var 0)) (.cons (.ife (.cmp .eq (.ix (.var 3) (.int 0)) (.str "while")) (.cons (.set (.v 4) (.bin .add (.var 1) (.tup (.cons (.ix (.var 3) (.int 3)) .nil)))) (.cons (.set (.v 2) (.bin .add (.bin .add (.var 2) (.lst (.cons (.var 4) .nil))) (.call "_law_nests" (.cons (.ix (.var 3) (.int 2)) (.cons (.var 4) .nil))))) .nil)) (.cons (.ife (.cmp .eq (.ix (.var 3) (.int 0)) (.str "if")) (.cons (.set (.v 2) (.bin .add (.bin .add (.var 2) (.call "_law_nests" (.cons (.ix (.var 3) (.int 2)) (.cons (.var 1) .nil)))) (.call "_law_nests" (.cons (.ix (.var 3) (.int 3)) (.cons (.var 1) .nil))))) .nil) (.cons (.ife (.cmp .eq (.ix (.var 3) (.int 0)) (.str "pause")) (.cons (.ex (.bm (.var 2) .append (.cons (.var 1) .nil))) .nil) (.cons (.ife (.cmp .eq (.ix (.var 3) (.int 0)) (.str "call")) (.cons (.set (.v 2) (.bin .add (.var 2) (.lst (.cons (.var 1) (.cons (.var 1) .nil))))) .nil) .nil) .nil)) .nil)) .nil)) .nil)) (.cons (.ret (.var 2)) .nil)))⟩
def f__law_reach : Df := ⟨1, [("core" : Str), ("pairs" : Str), ("p" : Str), ("turn" : Str), ("called" : Str), ("more" : Str), ("one" : Str), ("middle" : Str), ("q" : Str), ("k" : Str), ("first" : Str), ("last" : Str)],
  (.cons (.set (.v 1) (.lst .nil)) (.cons (.fr (.v 2) (.val (.var 0)) (.cons (.set (.v 4) (.call "_law_callees" (.cons (.var 2) .nil))) (.cons (.set (.v 1) (.bin .add (.var 1) (.lc (.tup (.cons (.ix (.var 2) (.int 0)) (.cons (.ix (.var 8) (.int 0)) .nil))) (.v 8) (.val (.var 0)) (.so (.orE (.cons (.cmp .eq (.ix (.var 8) (.int 0)) (.ix (.var 2) (.int 0))) (.cons (.cmp .in_ (.ix (.var 8) (.int 0)) (.var 4)) .nil)))) [8]))) .nil))) (.cons (.fr (.v 3) (.rng1 (.bi .len (.cons (.var 0) .nil))) (.cons (.set (.v 5) (.lst .nil)) (.cons (.fr (.t (.cons (.v 6) (.cons (.v 7) .nil))) (.val (.var 1)) (.cons (.set (.v 5) (.bin .add (.var 5) (.lc (.tup (.cons (.var 6) (.cons (.var 11) .nil))) (.t (.cons (.v 10) (.cons (.v 11) .nil))) (.val (.var 1)) (.so (.cmp .eq (.var 10) (.var 7))) [10, 11]))) .nil)) (.cons (.set (.v 1) (.bi .sorted (.cons (.lc (.ix (.var 5) (.var 9)) (.v 9) (.rng1 (.bi .len (.cons (.var 5) .nil))) (.so (.cmp .nin (.ix (.var 5) (.var 9)) (.sl (.var 5) .no (.so (.var 9))))) [9]) .nil))) .nil)))) (.cons (.ret (.var 1)) .nil))))⟩
def f__law_groups : Df := ⟨2, [("core" : Str), ("pairs" : Str), ("left" : Str), ("p" : Str), ("found" : Str), ("done" : Str), ("turn" : Str), ("group" : Str), ("needed" : Str), ("q" : Str), ("first" : Str), ("last" : Str), ("name" : Str)],
  (.cons (.set (.v 2) (.lst .nil)) (.cons (.fr (.v 3) (.val (.var 0)) (.cons (.set (.v 7) (.bi .tuple (.cons (.lc (.ix (.var 9) (.int 0)) (.v 9) (.val (.var 0)) (.so (.andE (.cons (.cmp .in_ (.tup (.cons (.ix (.var 3) (.int 0)) (.cons (.ix (.var 9) (.int 0)) .nil))) (.var 1)) (.cons (.cmp .in_ (.tup (.cons (.ix (.var 9) (.int 0)) (.cons (.ix (.var 3) (.int 0)) .nil))) (.var 1)) .nil)))) [9]) .nil))) (.cons (.ife (.cmp .nin (.var 7) (.var 2)) (.cons (.ex (.bm (.var 2) .append (.cons (.var 7) .nil))) .nil) .nil) .nil))) (.cons (.set (.v 4) (.lst .nil)) (.cons (.set (.v 5) (.lst .nil)) (.cons (.fr (.v 6) (.rng1 (.bi .len (.cons (.var 2) .nil))) (.cons (.fr (.v 7) (.val (.var 2)) (.cons (.set (.v 8) (.lc (.var 11) (.t (.cons (.v 10) (.cons (.v 11) .nil))) (.val (.var 1)) (.so (.andE (.cons (.cmp .eq (.var 10) (.ix (.var 7) (.int 0))) (.cons (.cmp .nin (.var 11) (.var 7)) .nil)))) [10, 11])) (.cons (.ife (.andE (.cons (.cmp .nin (.var 7) (.var 4)) (.cons (.bi .all (.cons (.lc (.cmp .in_ (.var 12) (.var 5)) (.v 12) (.val (.var 8)) .no [12]) .nil)) .nil))) (.cons (.ex (.bm (.var 4) .append (.cons (.var 7) .nil))) (.cons (.set (.v 5) (.bin .add (.var 5) (.bi .list (.cons (.var 7) .nil)))) (.cons .brk .nil))) .nil) .nil))) .nil)) (.cons (.ret (.var 4)) .nil))))))⟩
def f__law_ways : Df := ⟨2, [("core" : Str), ("groups" : Str), ("table" : Str), ("group" : Str), ("total" : Str), ("name" : Str), ("callee" : Str), ("p" : Str)],
  (.cons (.set (.v 2) (.dic .nil)) (.cons (.fr (.v 3) (.val (.var 1)) (.cons (.set (.v 4) (.int 0)) (.cons (.fr (.v 5) (.val (.var 3)) (.cons (.fr (.v 6) (.val (.call "_law_callees" (.cons (.ix (.lc (.var 7) (.v 7) (.val (.var 0)) (.so (.cmp .eq (.ix (.var 7) (.int 0)) (.var 5))) [7]) (.int 0)) .nil))) (.cons (.ife (.cmp .nin (.var 6) (.var 3)) (.cons (.set (.v 4) (.bin .add (.bin .add (.var 4) (.int 1)) (.ix (.var 2) (.var 6)))) .nil) .nil) .nil)) .nil)) (.cons (.fr (.v 5) (.val (.var 3)) (.cons (.setIx (.var 2) (.var 5) (.var 4)) .nil)) .nil)))) (.cons (.ret (.var 2)) .nil)))⟩
def f__law_start : Df := ⟨1, [("script" : Str)],
  (.cons (.ret (.lst (.cons (.bi .list (.cons (.var 0) .nil)) (.cons (.int 0) (.cons (.int 0) (.cons (.int 0) .nil)))))) .nil)⟩
def f__law_is_int : Df := ⟨1, [("x" : Str)],
  (.cons (.ret (.andE (.cons (.bi .isinstance (.cons (.var 0) (.cons (.ty "int") .nil))) (.cons (.notE (.bi .isinstance (.cons (.var 0) (.cons (.ty "bool") .nil)))) .nil)))) .nil)⟩
def f__law_same : Df := ⟨2, [("x" : Str), ("y" : Str), ("k" : Str)],
  (.cons (.ife (.bi .isinstance (.cons (.var 1) (.cons (.ty "tuple") .nil))) (.cons (.ife (.orE (.cons (.notE (.bi .isinstance (.cons (.var 0) (.cons (.ty "tuple") .nil)))) (.cons (.cmp .ne (.bi .len (.cons (.var 0) .nil)) (.bi .len (.cons (.var 1) .nil))) .nil))) (.cons (.ret (.bl false)) .nil) .nil) (.cons (.ret (.bi .all (.cons (.lc (.call "_law_same" (.cons (.ix (.var 0) (.var 2)) (.cons (.ix (.var 1) (.var 2)) .nil))) (.v 2) (.rng1 (.bi .len (.cons (.var 1) .nil))) .no [2]) .nil))) .nil)) .nil) (.cons (.ife (.bi .isinstance (.cons (.var 1) (.cons (.ty "str") .nil))) (.cons (.ret (.andE (.cons (.bi .isinstance (.cons (.var 0) (.cons (.ty "str") .nil))) (.cons (.cmp .eq (.var 0) (.var 1)) .nil)))) .nil) .nil) (.cons (.ret (.andE (.cons (.call "_law_is_int" (.cons (.var 0) .nil)) (.cons (.cmp .eq (.var 0) (.var 1)) .nil)))) .nil)))⟩
def f__law_mark : Df := ⟨2, [("body" : Str), ("point" : Str), ("found" : Str), ("s" : Str), ("inner" : Str), ("one" : Str), ("two" : Str)],
  (.cons (.set (.v 2) (.tup .nil)) (.cons (.fr (.v 3) (.val (.var 0)) (.cons (.ife (.cmp .eq (.ix (.var 3) (.int 0)) (.str "while")) (.cons (.set (.v 4) (.call "_law_mark" (.cons (.ix (.var 3) (.int 2)) (.cons (.bin .add (.var 1) (.int 1)) .nil)))) (.cons (.set (.v 2) (.bin .add (.var 2) (.tup (.cons (.tup (.cons (.str "while") (.cons (.ix (.var 3) (.int 1)) (.cons (.ix (.var 4) (.int 0)) (.cons (.var 1) .nil))))) .nil)))) (.cons (.set (.v 1) (.ix (.var 4) (.int 1))) .nil))) (.cons (.ife (.cmp .eq (.ix (.var 3) (.int 0)) (.str "if")) (.cons (.set (.v 5) (.call "_law_mark" (.cons (.ix (.var 3) (.int 2)) (.cons (.var 1) .nil)))) (.cons (.set (.v 6) (.call "_law_mark" (.cons (.ix (.var 3) (.int 3)) (.cons (.ix (.var 5) (.int 1)) .nil)))) (.cons (.set (.v 2) (.bin .add (.var 2) (.tup (.cons (.tup (.cons (.str "if") (.cons (.ix (.var 3) (.int 1)) (.cons (.ix (.var 5) (.int 0)) (.cons (.ix (.var 6) (.int 0)) .nil))))) .nil)))) (.cons (.set (.v 1) (.ix (.var 6) (.int 1))) .nil)))) (.cons (.ife (.cmp .eq (.ix (.var 3) (.int 0)) (.str "pause")) (.cons (.set (.v 2) (.bin .add (.var 2) (.tup (.cons (.tup (.cons (.str "pause") (.cons (.var 1) .nil))) .nil)))) (.cons (.set (.v 1) (.bin .add (.var 1) (.int 1))) .nil)) (.cons (.ife (.cmp .eq (.ix (.var 3) (.int 0)) (.str "call")) (.cons (.set (.v 2) (.bin .add (.var 2) (.tup (.cons (.bin .add (.var 3) (.tup (.cons (.var 1) .nil))) .nil)))) (.cons (.set (.v 1) (.bin .add (.var 1) (.int 2))) .nil)) (.cons (.set (.v 2) (.bin .add (.var 2) (.tup (.cons (.var 3) .nil)))) .nil)) .nil)) .nil)) .nil)) .nil)) (.cons (.ret (.tup (.cons (.var 2) (.cons (.var 1) .nil)))) .nil)))⟩
def f_law : Df := ⟨1, [("script" : Str), ("state" : Str), ("core" : Str), ("moves" : Str), ("p" : Str), ("groups" : Str), ("table" : Str), ("due" : Str), ("group" : Str), ("kind" : Str), ("x" : Str)],
  (.cons (.set (.v 1) (.call "_law_start" (.cons (.var 0) .nil))) (.cons (.set (.v 2) (.call "_law_core" (.cons (.var 1) .nil))) (.cons (.set (.v 3) (.call "_law_all_moves" (.cons (.var 2) .nil))) (.cons (.fr (.v 4) (.val (.var 2)) (.cons (.set (.v 7) (.bi .tuple (.cons (.lc (.var 10) (.t (.cons (.v 9) (.cons (.v 10) .nil))) (.val (.ix (.var 4) (.int 1))) (.so (.cmp .in_ (.tup (.cons (.ix (.var 4) (.int 0)) (.cons (.var 10) .nil))) (.var 3))) [9, 10]) .nil))) (.cons (.ife (.notE (.call "_law_same" (.cons (.call "moving_of" (.cons (.var 2) (.cons (.ix (.var 4) (.int 0)) .nil))) (.cons (.var 7) .nil)))) (.cons (.ret (.bl false)) .nil) .nil) (.cons (.ife (.notE (.call "_law_same" (.cons (.call "nests_of" (.cons (.var 2) (.cons (.ix (.var 4) (.int 0)) .nil))) (.cons (.bi .tuple (.cons (.bin .add (.lst (.cons (.tup .nil) .nil)) (.call "_law_nests" (.cons (.ix (.call "_law_mark" (.cons (.ix (.var 4) (.int 8)) (.cons (.int 1) .nil))) (.int 0)) (.cons (.tup .nil) .nil)))) .nil)) .nil)))) (.cons (.ret (.bl false)) .nil) .nil) .nil)))) (.cons (.set (.v 5) (.call "_law_groups" (.cons (.var 2) (.cons (.call "_law_reach" (.cons (.var 2) .nil)) .nil)))) (.cons (.ife (.notE (.call "_law_same" (.cons (.call "groups_of" (.cons (.var 2) .nil)) (.cons (.bi .tuple (.cons (.var 5) .nil)) .nil)))) (.cons (.ret (.bl false)) .nil) .nil) (.cons (.set (.v 6) (.call "_law_ways" (.cons (.var 2) (.cons (.var 5) .nil)))) (.cons (.ret (.bi .all (.cons (.lc (.call "_law_same" (.cons (.call "ways_down" (.cons (.var 2) (.cons (.var 8) .nil))) (.cons (.ix (.var 6) (.ix (.var 8) (.int 0))) .nil))) (.v 8) (.val (.var 5)) .no [8]) .nil))) .nil))))))))⟩
def mDefs : List (He.DefD × Df) := [(dd ("statements_in", none) "statements_in" "statements_in" (top 1), f_statements_in),
  (dd ("proc_named", none) "proc_named" "proc_named" (top 2), f_proc_named),
  (dd ("assigned_in", none) "assigned_in" "assigned_in" (top 3), f_assigned_in),
  (dd ("passed_on", none) "passed_on" "passed_on" (top 4), f_passed_on),
  (dd ("moving_table", none) "moving_table" "moving_table" (top 5), f_moving_table),
  (dd ("variable_of", none) "variable_of" "variable_of" (top 6), f_variable_of),
  (dd ("moving_items", none) "moving_items" "moving_items" (top 7), f_moving_items),
  (dd ("moving_of", none) "moving_of" "moving_of" (top 8), f_moving_of),
  (dd ("calls_in", none) "calls_in" "calls_in" (top 10), f_calls_in),
  (dd ("reached_from", none) "reached_from" "reached_from" (top 11), f_reached_from),
  (dd ("group_of", none) "group_of" "group_of" (top 12), f_group_of),
  (dd ("groups_of", none) "groups_of" "groups_of" (top 13), f_groups_of),
  (dd ("ways_table", none) "ways_table" "ways_table" (top 14), f_ways_table),
  (dd ("ways_down", none) "ways_down" "ways_down" (top 15), f_ways_down),
  (dd ("numbered", none) "numbered" "numbered" (top 17), f_numbered),
  (dd ("places_in", none) "places_in" "places_in" (top 18), f_places_in),
  (dd ("nests_in", none) "nests_in" "nests_in" (top 19), f_nests_in),
  (dd ("nests_of", none) "nests_of" "nests_of" (top 21), f_nests_of),
  (dd ("_law_draw", none) "_law_draw" "_law_draw" (top 23), f__law_draw),
  (dd ("_law_one_of", none) "_law_one_of" "_law_one_of" (top 24), f__law_one_of),
  (dd ("_law_shuffled", none) "_law_shuffled" "_law_shuffled" (top 25), f__law_shuffled),
  (dd ("_law_some_statements", none) "_law_some_statements" "_law_some_statements" (top 26), f__law_some_statements),
  (dd ("_law_one_statement", none) "_law_one_statement" "_law_one_statement" (top 27), f__law_one_statement),
  (dd ("_law_words", none) "_law_words" "_law_words" (top 28), f__law_words),
  (dd ("_law_core", none) "_law_core" "_law_core" (top 29), f__law_core),
  (dd ("_law_statements", none) "_law_statements" "_law_statements" (top 30), f__law_statements),
  (dd ("_law_callees", none) "_law_callees" "_law_callees" (top 31), f__law_callees),
  (dd ("_law_changed_by", none) "_law_changed_by" "_law_changed_by" (top 32), f__law_changed_by),
  (dd ("_law_handed_on", none) "_law_handed_on" "_law_handed_on" (top 33), f__law_handed_on),
  (dd ("_law_all_moves", none) "_law_all_moves" "_law_all_moves" (top 34), f__law_all_moves),
  (dd ("_law_nests", none) "_law_nests" "_law_nests" (top 35), f__law_nests),
  (dd ("_law_reach", none) "_law_reach" "_law_reach" (top 36), f__law_reach),
  (dd ("_law_groups", none) "_law_groups" "_law_groups" (top 37), f__law_groups),
  (dd ("_law_ways", none) "_law_ways" "_law_ways" (top 38), f__law_ways),
  (dd ("_law_start", none) "_law_start" "_law_start" (top 39), f__law_start),
  (dd ("_law_is_int", none) "_law_is_int" "_law_is_int" (top 40), f__law_is_int),
  (dd ("_law_same", none) "_law_same" "_law_same" (top 41), f__law_same),
  (dd ("_law_mark", none) "_law_mark" "_law_mark" (top 42), f__law_mark),
  (dd ("law", none) "law" "law" (top 43), f_law)]
def mo : Mo where
  tb := ⟨[("abs" : Str), ("all" : Str), ("bool" : Str), ("enumerate" : Str), ("int" : Str), ("isinstance" : Str), ("len" : Str), ("list" : Str), ("range" : Str), ("sorted" : Str), ("str" : Str), ("tuple" : Str), ("zip" : Str)], [("_law_all_moves" : Str), ("_law_callees" : Str), ("_law_changed_by" : Str), ("_law_core" : Str), ("_law_draw" : Str), ("_law_groups" : Str), ("_law_handed_on" : Str), ("_law_is_int" : Str), ("_law_mark" : Str), ("_law_nests" : Str), ("_law_one_of" : Str), ("_law_one_statement" : Str), ("_law_reach" : Str), ("_law_same" : Str), ("_law_shuffled" : Str), ("_law_some_statements" : Str), ("_law_start" : Str), ("_law_statements" : Str), ("_law_ways" : Str), ("_law_words" : Str), ("assigned_in" : Str), ("calls_in" : Str), ("group_of" : Str), ("groups_of" : Str), ("moving_items" : Str), ("moving_of" : Str), ("moving_table" : Str), ("nests_in" : Str), ("nests_of" : Str), ("numbered" : Str), ("passed_on" : Str), ("places_in" : Str), ("proc_named" : Str), ("reached_from" : Str), ("statements_in" : Str), ("variable_of" : Str), ("ways_down" : Str), ("ways_table" : Str)], []⟩
  lits := []
  clss := []
  noats := []
  mths := []
  defs := mDefs
def loose : List Str := [("statements_in" : Str), ("proc_named" : Str), ("assigned_in" : Str), ("passed_on" : Str), ("moving_table" : Str), ("variable_of" : Str), ("moving_items" : Str), ("moving_of" : Str), ("calls_in" : Str), ("reached_from" : Str), ("group_of" : Str), ("groups_of" : Str), ("ways_table" : Str), ("ways_down" : Str), ("numbered" : Str), ("places_in" : Str), ("nests_in" : Str), ("nests_of" : Str), ("_law_draw" : Str), ("_law_one_of" : Str), ("_law_shuffled" : Str), ("_law_some_statements" : Str), ("_law_one_statement" : Str), ("_law_words" : Str), ("_law_core" : Str), ("_law_statements" : Str), ("_law_callees" : Str), ("_law_changed_by" : Str), ("_law_handed_on" : Str), ("_law_all_moves" : Str), ("_law_nests" : Str), ("_law_reach" : Str), ("_law_groups" : Str), ("_law_ways" : Str), ("_law_start" : Str), ("_law_is_int" : Str), ("_law_same" : Str), ("_law_mark" : Str)]
abbrev R : PySem.W.OpenRow := PySem.W.OpenLaw.row PySem.Challenge.rw_tellsnomore_k58_groups_nests_and_moving
def aL : List Addr := [3, 6, 4, 21, 26, 31, 38, 43, 50, 55, 60, 65, 72, 77, 82, 89, 96, 103, 110, 117, 124, 131, 138, 145, 150, 157, 162, 169, 176, 181, 186, 191, 196, 203, 208, 213, 218, 225, 232, 237, 244, 249, 0, 20, 25, 30, 37, 42, 49, 54, 59, 64, 71, 76, 81, 88, 95, 102, 109, 116, 123, 130, 137, 144, 149, 156, 161, 168, 175, 180, 185, 190, 195, 202, 207, 212, 217, 224, 231, 236, 243, 248, 15, 16, 17, 18, 19, 22, 23, 24, 27, 28, 29, 32, 33, 34, 35, 36, 39, 40, 41, 44, 45, 46, 47, 48, 51, 52, 53, 56, 57, 58, 61, 62, 63, 66, 67, 68, 69, 70, 73, 74, 75, 78, 79, 80, 83, 84, 85, 86, 87, 90, 91, 92, 93, 94, 97, 98, 99, 100, 101, 104, 105, 106, 107, 108, 111, 112, 113, 114, 115, 118, 119, 120, 121, 122, 125, 126, 127, 128, 129, 132, 133, 134, 135, 136, 139, 140, 141, 142, 143, 146, 147, 148, 151, 152, 153, 154, 155, 158, 159, 160, 163, 164, 165, 166, 167, 170, 171, 172, 173, 174, 177, 178, 179, 182, 183, 184, 187, 188, 189, 192, 193, 194, 197, 198, 199, 200, 201, 204, 205, 206, 209, 210, 211, 214, 215, 216, 219, 220, 221, 222, 223, 226, 227, 228, 229, 230, 233, 234, 235, 238, 239, 240, 241, 242, 245, 246, 247]
theorem saysL {w : World} {h : Heap} (e : (He.obsT mo.fa mo.fn [] (He.frT h.get? aL), exB mo (He.frT h.get? aL)) = He.valX mo.fn [] w) : He.SaysX mo.fa mo.fn [] [] (exB mo) w h (He.frT h.get? aL) :=
  ⟨congrArg (fun z : He.AlX => z.1) e, congrArg (fun z : He.AlX => z.2) e, fun _ hp => (List.not_mem_nil hp).elim, fun _ hp => (List.not_mem_nil hp).elim, fun _ hp => (List.not_mem_nil hp).elim⟩
abbrev hk : PySem.W.Hook where
  α := He.AlX
  obs := fun s => (He.obsT mo.fa mo.fn [] (He.frT s.heap.get? aL), exB mo (He.frT s.heap.get? aL))
  val := fun w => He.valX mo.fn [] w
  says := fun w h => ∃ K : PySem.W.Frag, K.In h ∧ He.SaysX mo.fa mo.fn [] [] (exB mo) w h K
  of := fun _ _ e => ⟨_, He.frT_in, saysL e⟩
  keeps := fun _ _ _ ⟨K, hK, c⟩ k => ⟨K, PySem.W.Frag.In.keeps hK k, ⟨c.t, c.more, c.hd, c.out, fun p hp => k _ _ (c.empty p hp)⟩⟩
def ob (s : PySem.W.SharedT) : He.AlX := (He.obsT mo.fa mo.fn [] (He.frT (HandSHeadRun.getT s) aL), exB mo (He.frT (HandSHeadRun.getT s) aL))
theorem ob_eq (s : PySem.W.SharedT) : ob s = hk.obs s.abs := by
  have e : HandSHeadRun.getT s = s.abs.heap.get? := funext (HandSHeadRun.getT_eq s)
  unfold ob
  rw [e]
theorem mo_ok : moB mo = true := by decide +kernel
theorem defs_ok : (mo.defs.all fun p => dfB mo p) = true := by decide +kernel
theorem binds_all : AllP BindP mo.defs :=
  .cons (fun _ _ _ _ _ _ us hl => match us, hl with | [_], _ => rfl) <|
  .cons (fun _ _ _ _ _ _ us hl => match us, hl with | [_, _], _ => rfl) <|
  .cons (fun _ _ _ _ _ _ us hl => match us, hl with | [_], _ => rfl) <|
  .cons (fun _ _ _ _ _ _ us hl => match us, hl with | [_, _, _], _ => rfl) <|
  .cons (fun _ _ _ _ _ _ us hl => match us, hl with | [_], _ => rfl) <|
  .cons (fun _ _ _ _ _ _ us hl => match us, hl with | [_], _ => rfl) <|
  .cons (fun _ _ _ _ _ _ us hl => match us, hl with | [_, _], _ => rfl) <|
  .cons (fun _ _ _ _ _ _ us hl => match us, hl with | [_, _], _ => rfl) <|
  .cons (fun _ _ _ _ _ _ us hl => match us, hl with | [_], _ => rfl) <|
  .cons (fun _ _ _ _ _ _ us hl => match us, hl with | [_, _], _ => rfl) <|
  .cons (fun _ _ _ _ _ _ us hl => match us, hl with | [_, _], _ => rfl) <|
  .cons (fun _ _ _ _ _ _ us hl => match us, hl with | [_], _ => rfl) <|
  .cons (fun _ _ _ _ _ _ us hl => match us, hl with | [_], _ => rfl) <|
  .cons (fun _ _ _ _ _ _ us hl => match us, hl with | [_, _], _ => rfl) <|
  .cons (fun _ _ _ _ _ _ us hl => match us, hl with | [_, _], _ => rfl) <|
  .cons (fun _ _ _ _ _ _ us hl => match us, hl with | [_, _, _], _ => rfl) <|
  .cons (fun _ _ _ _ _ _ us hl => match us, hl with | [_], _ => rfl) <|
  .cons (fun _ _ _ _ _ _ us hl => match us, hl with | [_, _], _ => rfl) <|
  .cons (fun _ _ _ _ _ _ us hl => match us, hl with | [_, _], _ => rfl) <|
  .cons (fun _ _ _ _ _ _ us hl => match us, hl with | [_, _], _ => rfl) <|
  .cons (fun _ _ _ _ _ _ us hl => match us, hl with | [_, _], _ => rfl) <|
  .cons (fun _ _ _ _ _ _ us hl => match us, hl with | [_, _, _, _], _ => rfl) <|
  .cons (fun _ _ _ _ _ _ us hl => match us, hl with | [_, _, _, _], _ => rfl) <|
  .cons (fun _ _ _ _ _ _ us hl => match us, hl with | [_, _], _ => rfl) <|
  .cons (fun _ _ _ _ _ _ us hl => match us, hl with | [_], _ => rfl) <|
  .cons (fun _ _ _ _ _ _ us hl => match us, hl with | [_], _ => rfl) <|
  .cons (fun _ _ _ _ _ _ us hl => match us, hl with | [_], _ => rfl) <|
  .cons (fun _ _ _ _ _ _ us hl => match us, hl with | [_], _ => rfl) <|
  .cons (fun _ _ _ _ _ _ us hl => match us, hl with | [_, _], _ => rfl) <|
  .cons (fun _ _ _ _ _ _ us hl => match us, hl with | [_], _ => rfl) <|
  .cons (fun _ _ _ _ _ _ us hl => match us, hl with | [_, _], _ => rfl) <|
  .cons (fun _ _ _ _ _ _ us hl => match us, hl with | [_], _ => rfl) <|
  .cons (fun _ _ _ _ _ _ us hl => match us, hl with | [_, _], _ => rfl) <|
  .cons (fun _ _ _ _ _ _ us hl => match us, hl with | [_, _], _ => rfl) <|
  .cons (fun _ _ _ _ _ _ us hl => match us, hl with | [_], _ => rfl) <|
  .cons (fun _ _ _ _ _ _ us hl => match us, hl with | [_], _ => rfl) <|
  .cons (fun _ _ _ _ _ _ us hl => match us, hl with | [_, _], _ => rfl) <|
  .cons (fun _ _ _ _ _ _ us hl => match us, hl with | [_, _], _ => rfl) <|
  .cons (fun _ _ _ _ _ _ us hl => match us, hl with | [_], _ => rfl) <|
  .nil
namespace RunX
open PySem PySem.W PySem.Calls PyProof.Rows HandSHeadRun
def EqA (r : OpenRow) (M : Nat) (w : World) : Prop := ∀ os : OsState, (endF (stepQ (denQ tabQ) r.prog w) M r.prog w os).map (fun s => looksF r.prog (boot_heap w.params) s.abs) = some true
def EqB (r : OpenRow) (q : Program) (M : Nat) (loose : List PySem.Str) (w : World) : Prop := ∀ os : OsState, (endF (stepQ (denQ tabQ) r.prog w) M r.prog w os).map (fun s => seenQ q loose (importedModules r.prog.main.body) (fun s => xlAt q [] s && recOk r.toRowW.records s) s.abs) = some (openGood q loose)
def EqC (r : OpenRow) (H : Hook) (ob : SharedT → H.α) (M : Nat) (w : World) : Prop := ∀ os : OsState, (endF (stepQ (denQ tabQ) r.prog w) M r.prog w os).map (fun s => ob s) = some (H.val w)
theorem of {r : OpenRow} {q : Program} {H : Hook} {ob : SharedT → H.α} {M : Nat} {loose : List PySem.Str} {w : World} (a : EqA r M w) (b : EqB r q M loose w) (c : EqC r H ob M w) : RunEq r q H ob M loose w := by
  intro os
  have ea := a os
  have eb := b os
  have ec := c os
  revert ea eb ec
  generalize endF (stepQ (denQ tabQ) r.prog w) M r.prog w os = E
  intro ea eb ec
  cases E with
  | none => simp at ea
  | some s =>
    simp only [Option.map_some, Option.some.injEq] at ea eb ec ⊢
    rw [ea, eb, ec]
end RunX
theorem runA (w : World) : RunX.EqA R 20000 w := by
  intro os
  kernel_rfl
theorem runB (w : World) : RunX.EqB R (PySem.W.view R.prog [43]) 20000 loose w := by
  intro os
  kernel_rfl
theorem runC (w : World) : RunX.EqC R hk ob 20000 w := by
  intro os
  kernel_rfl
theorem run (w : World) : HandSHeadRun.RunEq R (PySem.W.view R.prog [43]) hk ob 20000 loose w := RunX.of (runA w) (runB w) (runC w)
end Z

namespace Z
open PySem PySem.Spec PyProof.Rows L2
local macro_rules
  | `(tactic| simp_all only [$as,*]) => `(tactic| (rw [wpSs_cons]; simp only [wpS, wp, wpEs, wpO, wpIf, wpI, wpAnd, wpOr, ofE, truthOf, asgW, asgWs, tgLen, List.getElem?_cons_zero, List.getElem?_cons_succ, List.set_cons_zero, List.set_cons_succ, ixC, ixL, setC, bopW, addW, subW, mulW, fdivW, modW, powW, negW, bfW, cmpC, eqC, ltC, leC, isC, inC, truC, slC, itemsL, tyName, up_same, atI_0, atI_1, atI_2, atI_3, atI_4, atI_5, ixN_0, ixN_1, ixN_2, ixN_3, wpSs_nil, wipeE, true_and, and_true, if_true, Bool.false_eq_true, if_false, Bool.not_true, Bool.not_false, decide_true, decide_false, tyIn1, tyIn2, tyIn3, tyIn4, tyIn5, isT_int_int, isT_int_str, isT_int_bool, isT_int_tuple, isT_int_list, isT_str_int, isT_str_str, isT_str_bool, isT_str_tuple, isT_str_list, isT_tuple_int, isT_tuple_str, isT_tuple_bool, isT_tuple_tuple, isT_tuple_list, isT_bool_int, isT_bool_str, isT_bool_bool, isT_bool_tuple, isT_bool_list, lz0, lz1, lz2, lz3, lz4, lz5, lz6, lz7, $as,*]))
  | `(tactic| simp_all only) => `(tactic| (rw [wpSs_cons]; simp only [wpS, wp, wpEs, wpO, wpIf, wpI, wpAnd, wpOr, ofE, truthOf, asgW, asgWs, tgLen, List.getElem?_cons_zero, List.getElem?_cons_succ, List.set_cons_zero, List.set_cons_succ, ixC, ixL, setC, bopW, addW, subW, mulW, fdivW, modW, powW, negW, bfW, cmpC, eqC, ltC, leC, isC, inC, truC, slC, itemsL, tyName, up_same, atI_0, atI_1, atI_2, atI_3, atI_4, atI_5, ixN_0, ixN_1, ixN_2, ixN_3, wpSs_nil, wipeE, true_and, and_true, if_true, Bool.false_eq_true, if_false, Bool.not_true, Bool.not_false, decide_true, decide_false, tyIn1, tyIn2, tyIn3, tyIn4, tyIn5, isT_int_int, isT_int_str, isT_int_bool, isT_int_tuple, isT_int_list, isT_str_int, isT_str_str, isT_str_bool, isT_str_tuple, isT_str_list, isT_tuple_int, isT_tuple_str, isT_tuple_bool, isT_tuple_tuple, isT_tuple_list, isT_bool_int, isT_bool_str, isT_bool_bool, isT_bool_tuple, isT_bool_list, lz0, lz1, lz2, lz3, lz4, lz5, lz6, lz7]))
local macro_rules
  | `(tactic| simp! only [$as,*]) => `(tactic| simp only [wpS, wp, wpEs, wpO, wpIf, wpI, wpAnd, wpOr, ofE, truthOf, asgW, asgWs, tgLen, List.getElem?_cons_zero, List.getElem?_cons_succ, List.set_cons_zero, List.set_cons_succ, ixC, ixL, setC, bopW, addW, subW, mulW, fdivW, modW, powW, negW, bfW, cmpC, eqC, ltC, leC, isC, inC, truC, slC, itemsL, tyName, up_same, atI_0, atI_1, atI_2, atI_3, atI_4, atI_5, ixN_0, ixN_1, ixN_2, ixN_3, wpSs_nil, wipeE, true_and, and_true, if_true, Bool.false_eq_true, if_false, Bool.not_true, Bool.not_false, decide_true, decide_false, tyIn1, tyIn2, tyIn3, tyIn4, tyIn5, isT_int_int, isT_int_str, isT_int_bool, isT_int_tuple, isT_int_list, isT_str_int, isT_str_str, isT_str_bool, isT_str_tuple, isT_str_list, isT_tuple_int, isT_tuple_str, isT_tuple_bool, isT_tuple_tuple, isT_tuple_list, isT_bool_int, isT_bool_str, isT_bool_bool, isT_bool_tuple, isT_bool_list, lz0, lz1, lz2, lz3, lz4, lz5, lz6, lz7, $as,*])
  | `(tactic| simp! only) => `(tactic| simp only [wpS, wp, wpEs, wpO, wpIf, wpI, wpAnd, wpOr, ofE, truthOf, asgW, asgWs, tgLen, List.getElem?_cons_zero, List.getElem?_cons_succ, List.set_cons_zero, List.set_cons_succ, ixC, ixL, setC, bopW, addW, subW, mulW, fdivW, modW, powW, negW, bfW, cmpC, eqC, ltC, leC, isC, inC, truC, slC, itemsL, tyName, up_same, atI_0, atI_1, atI_2, atI_3, atI_4, atI_5, ixN_0, ixN_1, ixN_2, ixN_3, wpSs_nil, wipeE, true_and, and_true, if_true, Bool.false_eq_true, if_false, Bool.not_true, Bool.not_false, decide_true, decide_false, tyIn1, tyIn2, tyIn3, tyIn4, tyIn5, isT_int_int, isT_int_str, isT_int_bool, isT_int_tuple, isT_int_list, isT_str_int, isT_str_str, isT_str_bool, isT_str_tuple, isT_str_list, isT_tuple_int, isT_tuple_str, isT_tuple_bool, isT_tuple_tuple, isT_tuple_list, isT_bool_int, isT_bool_str, isT_bool_bool, isT_bool_tuple, isT_bool_list, lz0, lz1, lz2, lz3, lz4, lz5, lz6, lz7])

abbrev cl (k : Nat) (f : Str) : WC := (lev mo k).1 (f, none)
abbrev gk (k : Nat) : G := gAt mo (lev mo k).1 (lev mo k).2
theorem cl_run {f : Str} {d : Df} (h : mo.df (f, none) = some d) {k : Nat} {ds : List D} {S : Sto} {Q : PK D} (w : ds.length = d.np ∧ wpSs (gk k) d.body (enR Q) (env0 d.N.length ds) S) : cl (k + 1) f ds S Q := by
  show (match mo.df (f, none) with
    | some d => runW d (gAt mo (lev mo k).1 (lev mo k).2)
    | none => fun _ _ _ => False) ds S Q
  rw [h]; exact w
theorem lev_run {key : Ky} {d : Df} (h : mo.df key = some d) {K : Nat} (hK : 1 ≤ K) {ds : List D} {S : Sto} {Q : PK D} (w : ds.length = d.np ∧ wpSs (gk (K - 1)) d.body (enR Q) (env0 d.N.length ds) S) : (lev mo K).1 key ds S Q := by
  obtain ⟨k, rfl⟩ : ∃ k, K = k + 1 := ⟨K - 1, by omega⟩
  show (match mo.df key with
    | some d => runW d (gAt mo (lev mo k).1 (lev mo k).2)
    | none => fun _ _ _ => False) ds S Q
  rw [h]; exact w
theorem Gr.fresh {S S1 S2 : Sto} {A : List Addr} (g : Gr [] S S1) (hA : ∀ q ∈ A, S q = none) (g2 : Gr A S1 S2) : Gr [] S S2 := fun q o _ h => by
  refine g2 q o ?_ (g q o (by simp) h)
  intro hq
  rw [hA q hq] at h
  cases h
theorem Gr.fresh1 {S S1 S2 : Sto} {a : Addr} (g : Gr [] S S1) (h : S a = none) (g2 : Gr [a] S1 S2) : Gr [] S S2 := g.fresh (A := [a]) (fun q hq => by rw [List.mem_singleton.mp hq]; exact h) g2
theorem hash_len (a : Str) : (("#" : Str) ++ a).length = a.length + 1 := by
  rw [strLen_app]
  have : ("#" : Str).length = 1 := by decide +kernel
  omega
theorem hash_ok {x : Str} (h : x.length ≤ 100) : ("#" : Str).length + x.length ≤ sizeLine := by
  have := hash_len x
  rw [strLen_app] at this
  have hsz : sizeLine = 2 ^ 24 := rfl
  omega
theorem cut_2 {α : Type} (a b : α) (l : List α) : cutG (a :: b :: l) (some 2) none = l := by
  rw [cut_lo _ (by decide) (by simp; omega)] <;> rfl
def isBlk : St → Bool
  | .ife _ _ _ _ => true
  | .wh _ _ _ _ => true
  | _ => false
def blkS : St → List (List St)
  | .ife _ _ a b => [a, b]
  | .wh _ _ b _ => [b]
  | _ => []
theorem in_blk (s : St) : inF (.str (kdS s)) [.str "if", .str "while"] = isBlk s := by cases s <;> simp only [kdS, isBlk] <;> decide +kernel
theorem kd_call (s : St) : decide (kdS s = "call") = isCall s := by
  cases s with
  | call f as ts p => exact decide_eq_true rfl
  | set x i v => exact k_set_call
  | push n a => exact k_push_call
  | store a j => exact k_store_call
  | pop x a => exact k_pop_call
  | pause p => exact k_pause_call
  | ife i n a b => exact k_if_call
  | wh i n b p => exact k_while_call
theorem enc_blk {s : St} (h : isBlk s = true) : ∃ c, encS false s = .tup (.str (kdS s) :: c :: (blkS s).map fun B => .tup (encB false B)) := by
  cases s with
  | ife i n a b => exact ⟨lessD i n, by rw [encS] <;> rfl⟩
  | wh i n b p => exact ⟨lessD i n, by rw [encS] <;> rfl⟩
  | _ => cases h
theorem stm_blk {s : St} (h : isBlk s = true) : stmS s = s :: (blkS s).flatMap stmB := by
  cases s with
  | ife i n a b => rw [stmS]; simp [blkS]
  | wh i n b p => rw [stmS]; simp [blkS]
  | _ => cases h
theorem stm_no {s : St} (h : isBlk s = false) : stmS s = [s] := by
  cases s with
  | ife i n a b => cases h
  | wh i n b p => cases h
  | _ => rw [stmS]
theorem blk_ok {V : Env} {d : Nat} {s : St} (h : okS V d s) : ∀ B ∈ blkS s, (0 < d ∧ B.length ≤ 4) ∧ okB V (d - 1) B := by
  cases s with
  | ife i n a b =>
    rw [okS] at h
    intro B hB
    simp only [blkS, List.mem_cons, List.not_mem_nil, or_false] at hB
    rcases hB with rfl | rfl
    · exact ⟨⟨h.1.1, h.1.2.1⟩, h.2.1⟩
    · exact ⟨⟨h.1.1, h.1.2.2⟩, h.2.2⟩
  | wh i n b p =>
    rw [okS] at h
    intro B hB
    simp only [blkS, List.mem_singleton] at hB
    subst hB
    exact h
  | _ => simp [blkS]
theorem stm_part {s : St} {b pre post : List St} (e : b = pre ++ s :: post) : (stmB b).length = (stmB pre).length + (stmS s).length + (stmB post).length := by
  rw [e, stmB_app, stmB]
  simp only [List.length_append]
  omega
theorem stmS_pos (s : St) : 1 ≤ (stmS s).length := by cases hb : isBlk s <;> simp [stm_blk, stm_no, hb]
/-- the statements with all blocks -/
theorem statements_w {V : Env} : ∀ (fuel d : Nat) (b : List St) {K : Nat} {S : Sto} {Q : PK D}, d < fuel → fuel ≤ K → okB V d b → b.length ≤ 4 → (stmB b).length ≤ 5000 → (∀ q S1, S q = none → Gr [] S S1 → S1 q = some (.lst ((stmB b).map (encS false))) → Q (.ref q) S1) → cl K "statements_in" [.tup (encB false b)] S Q
  | 0, d, b, K, S, Q, hf, _, _, _, _, _ => by omega
  | fuel + 1, d, b, K, S, Q, hf, hK, ok, hl, hu, hQ => by
    refine lev_run (d := f_statements_in) rfl (by omega) ⟨rfl, ?_⟩
    show wpSs (gk (K - 1)) _ (enR Q) [some (.tup (encB false b)), none, none, none] S
    have hsz : sizeLine = 2 ^ 24 := rfl
    unfold f_statements_in
    simp_all only
    intro q hq
    have g0 : Gr [] S (up S q (.lst [])) := .new hq
    simp_all only
    refine walk_of (S := S) (.inl rfl) g0 fun chk hc => ?_
    rw [encB_map]
    refine pre_loop (encS false) (fun pre ρ S' => (∃ u v : Option D, ρ = [some (.tup (b.map (encS false))), some (.ref q), u, v]) ∧ Gr [] S S' ∧ S' q = some (.lst ((stmB pre).map (encS false)))) b ?_ ?_ ⟨⟨_, _, rfl⟩, g0, by rw [up_same]; rfl⟩
    · rintro pre s post e ρ S' X ⟨⟨u, v, rfl⟩, g, h⟩ hX
      refine ⟨hc _ g, ?_⟩
      have hs : okS V d s := okB_iff.mp ok s (by rw [e]; simp)
      have hln := stm_part e
      have s1 := stmS_pos s
      obtain ⟨l, hl1⟩ := encS_hd false s
      simp! only
      simp_all only [rcv, bmT, bmW, h]
      refine ⟨by rw [List.length_map]; omega, ?_⟩
      have g1 : Gr [] S (up S' q (.lst ((stmB pre).map (encS false) ++ [encS false s]))) := g.set hq
      generalize hS2 : up S' q (.lst ((stmB pre).map (encS false) ++ [encS false s])) = S2 at g1
      have h2 : S2 q = some (.lst ((stmB pre).map (encS false) ++ [encS false s])) := by rw [← hS2]; exact up_same
      cases hb : isBlk s with
      | true =>
        obtain ⟨c, hc2⟩ := enc_blk hb
        simp_all only [hc2]
        refine .inl ⟨rfl, rfl, ?_⟩
        rw [in_blk, hb]
        simp! only
        simp_all only [cut_2]
        unfold walkC
        refine pre_loop (fun B => D.tup (encB false B)) (fun pb ρ S' => (∃ u : Option D, ρ = [some (.tup (b.map (encS false))), some (.ref q), some (.tup (.str (kdS s) :: c :: (blkS s).map fun B => .tup (encB false B))), u]) ∧ Gr [] S S' ∧ S' q = some (.lst ((stmB pre).map (encS false) ++ [encS false s] ++ (pb.flatMap stmB).map (encS false)))) (blkS s) ?_ ?_ ⟨⟨_, rfl⟩, g1, by rw [h2]; simp⟩
        · rintro pb B qb eb ρ S3 Y ⟨⟨u, rfl⟩, g3, h3⟩ hY
          refine ⟨trivial, ?_⟩
          obtain ⟨⟨b1, b2⟩, b3⟩ := blk_ok hs B (by rw [eb]; simp)
          have hpart : (stmS s).length = 1 + (pb.flatMap stmB).length + (stmB B).length + (qb.flatMap stmB).length := by
            rw [stm_blk hb, eb]
            simp only [List.flatMap_append, List.flatMap_cons, List.length_cons, List.length_append]
            omega
          simp! only
          simp_all only [rcv, bmT, h3]
          refine statements_w fuel (d - 1) B (by omega) (by omega) b3 b2 (by omega) fun q4 S4 f4 g4 h4 => ?_
          have h34 := g4 _ _ (by simp) h3
          simp! only [bmW, h34, h4]
          refine ⟨by simp only [List.length_map, List.length_append, List.length_singleton]; omega, hY _ _ ⟨⟨_, rfl⟩, (g3.trans g4).set hq, ?_⟩⟩
          rw [up_same]
          simp
        · rintro ρ S3 ⟨⟨u, rfl⟩, g3, h3⟩
          refine ⟨trivial, ?_⟩
          refine hX _ _ ⟨⟨_, _, by rw [← hc2]⟩, g3, ?_⟩
          rw [h3, stmB_app, stmB_one, stm_blk hb]
          simp
      | false =>
        simp_all only [hl1]
        refine .inl ⟨rfl, rfl, ?_⟩
        rw [in_blk, hb]
        simp! only
        refine hX _ _ ⟨⟨_, _, by rw [← hl1]⟩, g1, ?_⟩
        rw [h2, stmB_app, stmB_one, stm_no hb]
        simp
    · rintro ρ S' ⟨⟨u, v, rfl⟩, g, h⟩
      refine ⟨hc _ g, ?_⟩
      simp_all only
      exact ret_ok (hQ q S' hq g h)
theorem lstm_w {V : Env} : ∀ (fuel d : Nat) (b : List St) {K : Nat} {S : Sto} {Q : PK D}, d < fuel → fuel ≤ K → okB V d b → b.length ≤ 4 → (stmB b).length ≤ 5000 → (∀ q S1, S q = none → Gr [] S S1 → S1 q = some (.lst ((stmB b).map (encS false))) → Q (.ref q) S1) → cl K "_law_statements" [.tup (encB false b)] S Q
  | 0, d, b, K, S, Q, hf, _, _, _, _, _ => by omega
  | fuel + 1, d, b, K, S, Q, hf, hK, ok, hl, hu, hQ => by
    refine lev_run (d := f__law_statements) rfl (by omega) ⟨rfl, ?_⟩
    show wpSs (gk (K - 1)) _ (enR Q) [some (.tup (encB false b)), none, none] S
    have hsz : sizeLine = 2 ^ 24 := rfl
    unfold f__law_statements
    simp_all only
    intro q hq
    have g0 : Gr [] S (up S q (.lst [])) := .new hq
    simp_all only
    refine walk_of (S := S) (.inl rfl) g0 fun chk hc => ?_
    rw [encB_map]
    refine pre_loop (encS false) (fun pre ρ S' => (∃ (q : Addr) (u : Option D), ρ = [some (.tup (b.map (encS false))), some (.ref q), u] ∧ S' q = some (.lst ((stmB pre).map (encS false))) ∧ S q = none) ∧ Gr [] S S') b ?_ ?_ ⟨⟨q, _, rfl, by rw [up_same]; rfl, hq⟩, g0⟩
    · rintro pre s post e ρ S' X ⟨⟨q, u, rfl, h, hq⟩, g⟩ hX
      refine ⟨hc _ g, ?_⟩
      have hs : okS V d s := okB_iff.mp ok s (by rw [e]; simp)
      have hln := stm_part e
      have s1 := stmS_pos s
      simp! only
      simp_all only [rcv, bmT, bmW, h]
      refine ⟨by rw [List.length_map]; omega, ?_⟩
      have g1 : Gr [] S (up S' q (.lst ((stmB pre).map (encS false) ++ [encS false s]))) := g.set hq
      have h2 : up S' q (.lst ((stmB pre).map (encS false) ++ [encS false s])) q = some (.lst ((stmB pre).map (encS false) ++ [encS false s])) := up_same
      generalize up S' q (.lst ((stmB pre).map (encS false) ++ [encS false s])) = S2 at g1 h2 ⊢
      have fin0 : isBlk s = false → ∀ u, X [some (.tup (b.map (encS false))), some (.ref q), u] S2 := fun hb u => hX _ _ ⟨⟨q, u, rfl, by rw [h2, stmB_app, stmB_one, stm_no hb, List.map_append, List.map_singleton], hq⟩, g1⟩
      cases s with
      | wh i n B p =>
        rw [okS] at hs
        have e1 : encS false (.wh i n B p) = .tup [.str "while", lessD i n, .tup (encB false B)] := by rw [encS] <;> rfl
        have est : stmS (.wh i n B p) = .wh i n B p :: stmB B := by rw [stmS]
        rw [est, List.length_cons] at hln
        simp_all only [e1, eq_self]
        simp_all only
        refine lstm_w fuel (d - 1) B (by omega) (by omega) hs.2 hs.1.2 (by omega) fun q4 S4 _ g4 h4 => ?_
        have h24 := g4 _ _ (by simp) h2
        simp! only [h24, h4]
        refine ⟨by simp only [List.length_map, List.length_append, List.length_singleton]; omega, ?_⟩
        intro q5 hq5
        refine hX _ _ ⟨⟨q5, _, rfl, ?_, (g1.trans g4).free hq5⟩, (g1.trans g4).trans (.new hq5)⟩
        rw [up_same, stmB_app, stmB_one, est]
        simp
      | ife i n A C =>
        rw [okS] at hs
        have e1 : encS false (.ife i n A C) = .tup [.str "if", lessD i n, .tup (encB false A), .tup (encB false C)] := by rw [encS]
        have est : stmS (.ife i n A C) = .ife i n A C :: (stmB A ++ stmB C) := by rw [stmS]
        rw [est, List.length_cons, List.length_append] at hln
        simp_all only [e1, k_if_while]
        simp_all only [eq_self]
        simp_all only
        refine lstm_w fuel (d - 1) A (by omega) (by omega) hs.2.1 hs.1.2.1 (by omega) fun q4 S4 _ g4 h4 => ?_
        have h24 := g4 _ _ (by simp) h2
        simp! only [h24, h4]
        refine ⟨by simp only [List.length_map, List.length_append, List.length_singleton]; omega, ?_⟩
        intro q5 hq5
        have g5 : Gr [] S4 (up S4 q5 (.lst ((stmB pre).map (encS false) ++ [encS false (.ife i n A C)] ++ (stmB A).map (encS false)))) := .new hq5
        have h5 : up S4 q5 (.lst ((stmB pre).map (encS false) ++ [encS false (.ife i n A C)] ++ (stmB A).map (encS false))) q5 = some (.lst ((stmB pre).map (encS false) ++ [encS false (.ife i n A C)] ++ (stmB A).map (encS false))) := up_same
        generalize up S4 q5 (.lst ((stmB pre).map (encS false) ++ [encS false (.ife i n A C)] ++ (stmB A).map (encS false))) = S5 at g5 h5 ⊢
        refine lstm_w fuel (d - 1) C (by omega) (by omega) hs.2.2 hs.1.2.2 (by omega) fun q6 S6 _ g6 h6 => ?_
        have h56 := g6 _ _ (by simp) h5
        simp! only [h56, h6]
        refine ⟨by simp only [List.length_map, List.length_append, List.length_singleton]; omega, ?_⟩
        intro q7 hq7
        have G6 := ((g1.trans g4).trans g5).trans g6
        refine hX _ _ ⟨⟨q7, _, rfl, ?_, G6.free hq7⟩, G6.trans (.new hq7)⟩
        rw [up_same, stmB_app, stmB_one, est]
        simp
      | set x i v =>
        simp_all only [encS, k_set_while]
        simp_all only [k_set_if]
        exact fin0 rfl _
      | push n a =>
        simp_all only [encS, k_push_while]
        simp_all only [k_push_if]
        exact fin0 rfl _
      | store a j =>
        simp_all only [encS, k_store_while]
        simp_all only [k_store_if]
        exact fin0 rfl _
      | pop x a =>
        simp_all only [encS, k_pop_while]
        simp_all only [k_pop_if]
        exact fin0 rfl _
      | pause p =>
        simp_all only [encS, k_pause_while]
        simp_all only [k_pause_if]
        exact fin0 rfl _
      | call f as ts p =>
        simp_all only [encS, k_call_while]
        simp_all only [k_call_if]
        exact fin0 rfl _
    · rintro ρ S' ⟨⟨q, u, rfl, h, hq⟩, g⟩
      refine ⟨hc _ g, ?_⟩
      simp_all only
      exact ret_ok (hQ q S' hq g h)

def isWh : St → Bool
  | .wh _ _ _ _ => true
  | _ => false
def isIf : St → Bool
  | .ife _ _ _ _ => true
  | _ => false
def isPa : St → Bool
  | .pause _ => true
  | _ => false
theorem kd_while (s : St) : decide (kdS s = "while") = isWh s := by
  cases s with
  | wh i n b p => exact decide_eq_true rfl
  | set x i v => exact k_set_while
  | push n a => exact k_push_while
  | store a j => exact k_store_while
  | pop x a => exact k_pop_while
  | pause p => exact k_pause_while
  | ife i n a b => exact k_if_while
  | call f as ts p => exact k_call_while
theorem kd_if (s : St) : decide (kdS s = "if") = isIf s := by
  cases s with
  | ife i n a b => exact decide_eq_true rfl
  | set x i v => exact k_set_if
  | push n a => exact k_push_if
  | store a j => exact k_store_if
  | pop x a => exact k_pop_if
  | pause p => exact k_pause_if
  | wh i n b p => exact k_while_if
  | call f as ts p => exact k_call_if
theorem kd_pause (s : St) : decide (kdS s = "pause") = isPa s := by
  cases s with
  | pause p => exact decide_eq_true rfl
  | set x i v => exact k_set_pause
  | push n a => exact k_push_pause
  | store a j => exact k_store_pause
  | pop x a => exact k_pop_pause
  | ife i n a b => exact k_if_pause
  | wh i n b p => exact k_while_pause
  | call f as ts p => exact k_call_pause
def isPlain : St → Bool
  | .set _ _ _ => true
  | .push _ _ => true
  | .store _ _ => true
  | .pop _ _ => true
  | _ => false
theorem enc_plain {s : St} (h : isPlain s = true) (m : Bool) : encS m s = encS true s := by
  cases s <;> first | (cases h; done) | (rw [encS, encS])
theorem num_plain {s : St} (h : isPlain s = true) (p : Int) : numS s p = (s, p) := by
  cases s <;> first | (cases h; done) | (rw [numS])
theorem kd_plain {s : St} (h : isPlain s = true) : decide (kdS s = "while") = false ∧ decide (kdS s = "if") = false ∧ decide (kdS s = "pause") = false ∧ decide (kdS s = "call") = false := by
  rw [kd_while, kd_if, kd_pause, kd_call]
  cases s <;> first | (cases h; done) | exact ⟨rfl, rfl, rfl, rfl⟩
theorem numbered_w {V : Env} : ∀ (fuel d : Nat) (b : List St) {K : Nat} {S : Sto} {f : Int} {Q : PK D}, d < fuel → fuel ≤ K → okB V d b → b.length ≤ 4 → (∀ S1, Gr [] S S1 → Q (.tup [.tup (encB true (numB b f).1), .int (numB b f).2]) S1) → cl K "numbered" [.tup (encB false b), .int f] S Q
  | 0, d, b, K, S, f, Q, hf, _, _, _, _ => by omega
  | fuel + 1, d, b, K, S, f, Q, hf, hK, ok, hl, hQ => by
    refine lev_run (d := f_numbered) rfl (by omega) ⟨rfl, ?_⟩
    show wpSs (gk (K - 1)) _ (enR Q) [some (.tup (encB false b)), some (.int f), none, none, none, none, none, none, none, none, none] S
    have hsz : sizeLine = 2 ^ 24 := rfl
    unfold f_numbered
    simp_all only
    intro q hq
    have g0 : Gr [] S (up S q (.lst [])) := .new hq
    simp_all only
    simp_all only
    refine walk_of (S := S) (.inl rfl) g0 fun chk hc => ?_
    rw [encB_map]
    refine pre_loop (encS false) (fun pre ρ S' => (∃ u1 u2 u3 u4 u5 u6 u7 : Option D, ρ = [some (.tup (b.map (encS false))), some (.int f), some (.ref q), some (.int (numB pre f).2), u1, u2, u3, u4, u5, u6, u7]) ∧ Gr [] S S' ∧ S' q = some (.lst (encB true (numB pre f).1))) b ?_ ?_ ⟨⟨_, _, _, _, _, _, _, rfl⟩, g0, by rw [up_same]; rfl⟩
    · rintro pre s post e ρ S' X ⟨⟨u1, u2, u3, u4, u5, u6, u7, rfl⟩, g, h⟩ hX
      refine ⟨hc _ g, ?_⟩
      have hs : okS V d s := okB_iff.mp ok s (by rw [e]; simp)
      have hln : (encB true (numB pre f).1).length < sizeLine := by
        rw [encB_len]
        have hp : okB V d pre := okB_iff.mpr fun t ht => okB_iff.mp ok t (by rw [e]; simp [ht])
        rw [(numB_ok hp).2]
        have : pre.length < b.length := by rw [e]; simp
        omega
      have fin : ∀ {ρ' : Ev} {S2 : Sto}, (∃ u1 u2 u3 u4 u5 u6 u7 : Option D, ρ' = [some (.tup (b.map (encS false))), some (.int f), some (.ref q), some (.int (numS s (numB pre f).2).2), u1, u2, u3, u4, u5, u6, u7]) → Gr [] S S2 → S2 q = some (.lst (encB true (numB pre f).1 ++ [encS true (numS s (numB pre f).2).1])) → X ρ' S2 := fun h1 h2 h3 => hX _ _ ⟨by rw [numB_snoc]; exact h1, h2, by rw [numB_snoc, h3]; simp [encB_map]⟩
      generalize hpt : (numB pre f).2 = pt at fin ⊢
      cases hpl : isPlain s with
      | true =>
        obtain ⟨l, hl1⟩ := encS_hd false s
        obtain ⟨k1, k2, k3, k4⟩ := kd_plain hpl
        simp! only
        simp_all only [hl1]
        simp_all only [k1]
        simp_all only [k2]
        simp_all only [k3]
        simp_all only [k4]
        simp_all only [rcv, bmT, bmW, h]
        refine ⟨hln, fin ⟨_, _, _, _, _, _, _, by rw [num_plain hpl]⟩ (g.set hq) ?_⟩
        rw [up_same, num_plain hpl, ← hl1, enc_plain hpl]
      | false =>
        cases s with
        | wh i n B p =>
          rw [okS] at hs
          simp! only [encS]
          simp_all only
          simp_all only [eq_self]
          simp_all only
          refine numbered_w fuel (d - 1) B (by omega) (by omega) hs.2 hs.1.2 fun S2 g2 => ?_
          simp! only
          refine ⟨rfl, ?_⟩
          have h2 := g2 _ _ (by simp) h
          simp_all only [rcv, bmT, bmW, h2]
          refine ⟨hln, ?_⟩
          simp_all only
          refine fin ⟨_, _, _, _, _, _, _, by simp only [numS] <;> rfl⟩ ((g.trans g2).set hq) ?_
          rw [up_same]
          simp only [numS, encS, if_true]
        | ife i n A C =>
          rw [okS] at hs
          simp! only [encS]
          simp_all only
          simp_all only [k_if_while]
          simp_all only [eq_self]
          simp_all only
          refine numbered_w fuel (d - 1) A (by omega) (by omega) hs.2.1 hs.1.2.1 fun S2 g2 => ?_
          simp! only
          refine ⟨rfl, ?_⟩
          simp_all only
          refine numbered_w fuel (d - 1) C (by omega) (by omega) hs.2.2 hs.1.2.2 fun S3 g3 => ?_
          simp! only
          refine ⟨rfl, ?_⟩
          have h2 := (g2.trans g3) _ _ (by simp) h
          simp_all only [rcv, bmT, bmW, h2]
          refine ⟨hln, ?_⟩
          refine fin ⟨_, _, _, _, _, _, _, by simp only [numS] <;> rfl⟩ (((g.trans g2).trans g3).set hq) ?_
          rw [up_same]
          simp only [numS, encS]
        | pause p =>
          simp! only [encS]
          simp_all only
          simp_all only [k_pause_while]
          simp_all only [k_pause_if]
          simp_all only [eq_self]
          simp_all only [rcv, bmT, bmW, h]
          refine ⟨hln, ?_⟩
          simp_all only [augW]
          refine fin ⟨_, _, _, _, _, _, _, by simp only [numS] <;> rfl⟩ (g.set hq) ?_
          rw [up_same]
          simp only [numS, encS, if_true]
        | call f2 as ts p =>
          simp! only [encS]
          simp_all only
          simp_all only [k_call_while]
          simp_all only [k_call_if]
          simp_all only [k_call_pause]
          simp_all only [eq_self]
          simp_all only [rcv, bmT, bmW, h]
          refine ⟨by simp only [List.length_cons, List.length_nil]; omega, ?_⟩
          refine ⟨hln, ?_⟩
          simp_all only [augW]
          refine fin ⟨_, _, _, _, _, _, _, by simp only [numS] <;> rfl⟩ (g.set hq) ?_
          rw [up_same]
          simp only [numS, encS, if_true]
          rfl
        | _ => cases hpl
    · rintro ρ S' ⟨⟨u1, u2, u3, u4, u5, u6, u7, rfl⟩, g, h⟩
      refine ⟨hc _ g, ?_⟩
      simp_all only [h, bfW]
      exact ret_ok (hQ S' g)
theorem lmark_w {V : Env} : ∀ (fuel d : Nat) (b : List St) {K : Nat} {S : Sto} {f : Int} {Q : PK D}, d < fuel → fuel ≤ K → okB V d b → b.length ≤ 4 → Q (.tup [.tup (encB true (numB b f).1), .int (numB b f).2]) S → cl K "_law_mark" [.tup (encB false b), .int f] S Q
  | 0, d, b, K, S, f, Q, hf, _, _, _, _ => by omega
  | fuel + 1, d, b, K, S, f, Q, hf, hK, ok, hl, hQ => by
    refine lev_run (d := f__law_mark) rfl (by omega) ⟨rfl, ?_⟩
    show wpSs (gk (K - 1)) _ (enR Q) [some (.tup (encB false b)), some (.int f), none, none, none, none, none] S
    have hsz : sizeLine = 2 ^ 24 := rfl
    unfold f__law_mark
    simp_all only
    simp_all only
    refine walk_of (S := S) (.inl rfl) .refl fun chk hc => ?_
    rw [encB_map]
    refine pre_loop (encS false) (fun pre ρ S' => (∃ u3 u4 u5 u6 : Option D, ρ = [some (.tup (b.map (encS false))), some (.int (numB pre f).2), some (.tup (encB true (numB pre f).1)), u3, u4, u5, u6]) ∧ S' = S) b ?_ ?_ ⟨⟨_, _, _, _, rfl⟩, rfl⟩
    · rintro pre s post e ρ S' X ⟨⟨u3, u4, u5, u6, rfl⟩, rfl⟩ hX
      refine ⟨hc _ .refl, ?_⟩
      have hs : okS V d s := okB_iff.mp ok s (by rw [e]; simp)
      have hln : (encB true (numB pre f).1).length + 1 ≤ 200 := by
        rw [encB_len]
        have hp : okB V d pre := okB_iff.mpr fun t ht => okB_iff.mp ok t (by rw [e]; simp [ht])
        rw [(numB_ok hp).2]
        have : pre.length < b.length := by rw [e]; simp
        omega
      have fin : ∀ {ρ' : Ev}, (∃ u3 u4 u5 u6 : Option D, ρ' = [some (.tup (b.map (encS false))), some (.int (numS s (numB pre f).2).2), some (.tup (encB true (numB pre f).1 ++ [encS true (numS s (numB pre f).2).1])), u3, u4, u5, u6]) → X ρ' S' := fun ⟨u3, u4, u5, u6, h1⟩ => hX _ _ ⟨⟨u3, u4, u5, u6, by rw [numB_snoc, h1]; simp [encB_map]⟩, rfl⟩
      generalize hpt : (numB pre f).2 = pt at fin ⊢
      cases hpl : isPlain s with
      | true =>
        obtain ⟨l, hl1⟩ := encS_hd false s
        obtain ⟨k1, k2, k3, k4⟩ := kd_plain hpl
        simp! only
        simp_all only [hl1, k1]
        simp_all only [k2]
        simp_all only [k3]
        simp_all only [k4]
        simp_all only
        refine ⟨by rw [List.length_singleton]; omega, ?_⟩
        rw [num_plain hpl] at fin
        simp only at fin
        rw [← enc_plain hpl false, hl1] at fin
        exact fin ⟨_, _, _, _, rfl⟩
      | false =>
        cases s with
        | wh i n B p =>
          rw [okS] at hs
          simp! only [encS]
          simp_all only [eq_self]
          simp_all only
          refine lmark_w fuel (d - 1) B (by omega) (by omega) hs.2 hs.1.2 ?_
          simp_all only
          refine ⟨by rw [List.length_singleton]; omega, ?_⟩
          simp_all only
          exact fin ⟨_, _, _, _, by simp only [numS, encS, if_true] <;> rfl⟩
        | ife i n A C =>
          rw [okS] at hs
          simp! only [encS]
          simp_all only [k_if_while]
          simp_all only [eq_self]
          simp_all only
          refine lmark_w fuel (d - 1) A (by omega) (by omega) hs.2.1 hs.1.2.1 ?_
          simp_all only
          refine lmark_w fuel (d - 1) C (by omega) (by omega) hs.2.2 hs.1.2.2 ?_
          simp_all only
          refine ⟨by rw [List.length_singleton]; omega, ?_⟩
          simp_all only
          exact fin ⟨_, _, _, _, by simp only [numS, encS] <;> rfl⟩
        | pause p =>
          simp! only [encS]
          simp_all only [k_pause_while]
          simp_all only [k_pause_if]
          simp_all only [eq_self]
          simp_all only
          refine ⟨by rw [List.length_singleton]; omega, ?_⟩
          simp_all only
          exact fin ⟨_, _, _, _, by simp only [numS, encS, if_true] <;> rfl⟩
        | call f2 as ts p =>
          simp! only [encS]
          simp_all only [k_call_while]
          simp_all only [k_call_if]
          simp_all only [k_call_pause]
          simp_all only [eq_self]
          simp_all only
          refine ⟨by simp only [List.length_cons, List.length_nil]; omega, by rw [List.length_singleton]; omega, ?_⟩
          simp_all only
          exact fin ⟨_, _, _, _, by simp only [numS, encS, if_true] <;> rfl⟩
        | _ => cases hpl
    · rintro ρ S' ⟨⟨u3, u4, u5, u6, rfl⟩, rfl⟩
      refine ⟨hc _ .refl, ?_⟩
      simp_all only
      exact ret_ok hQ

theorem enumD_map {α : Type} (f : α → D) (l : List α) : enumD (l.map f) = l.zipIdx.map fun q => D.tup [.int ((q.2 : Nat) : Int), f q.1] := by
  unfold enumD
  rw [List.zipIdx_map, List.map_map] <;> rfl
theorem zipIdx_mid {α : Type} {l : List α} {pre post : List (α × Nat)} {a : α} {i : Nat} (e : l.zipIdx = pre ++ (a, i) :: post) : i = pre.length ∧ l = pre.map (·.1) ++ a :: post.map (·.1) := by
  constructor
  · have h1 : (l.zipIdx)[pre.length]? = some (a, i) := by rw [e]; simp
    rw [List.getElem?_zipIdx] at h1
    cases hl : l[pre.length]? with
    | none => rw [hl] at h1; cases h1
    | some b => rw [hl] at h1; simp at h1; exact h1.2.symm
  · have := congrArg (List.map (·.1)) e
    rw [List.zipIdx_map_fst] at this
    rw [this]; simp
theorem intsMap_snoc (ns : List Int) (p : Int) : ns.map D.int ++ [D.int p] = (ns ++ [p]).map D.int := by simp
theorem places_w {V : Env} : ∀ (fuel d : Nat) (b : List St) {K : Nat} {S : Sto} {r : D} {ns : List Int} {Q : PK D}, d < fuel → fuel ≤ K → okB V d b → b.length ≤ 4 → (stmB b).length ≤ 5000 → ns.length + d ≤ 100 → (∀ q S1, S q = none → Gr [] S S1 → S1 q = some (.lst ((plcB (.tup (encB true b)) r ns 0 b).map encQ)) → Q (.ref q) S1) → cl K "places_in" [.tup (encB true b), r, .tup (ns.map .int)] S Q
  | 0, d, b, K, S, r, ns, Q, hf, _, _, _, _, _, _ => by omega
  | fuel + 1, d, b, K, S, r, ns, Q, hf, hK, ok, hl, hu, hns, hQ => by
    refine lev_run (d := f_places_in) rfl (by omega) ⟨rfl, ?_⟩
    show wpSs (gk (K - 1)) _ (enR Q) [some (.tup (encB true b)), some r, some (.tup (ns.map .int)), none, none, none, none, none, none] S
    have hsz : sizeLine = 2 ^ 24 := rfl
    unfold f_places_in
    simp_all only
    intro q hq
    have g0 : Gr [] S (up S q (.lst [])) := .new hq
    simp_all only [walkLT]
    have hw : ∃ w, w = D.tup (encB true b) := ⟨_, rfl⟩
    obtain ⟨w, ew⟩ := hw
    have ew2 : D.tup (b.map (encS true)) = w := by rw [ew, encB_map]
    rw [← ew] at hQ
    rw [encB_map, enumD_map, ew2]
    refine pre_loop (fun z : St × Nat => D.tup [.int ((z.2 : Nat) : Int), encS true z.1]) (fun pre ρ S' => (∃ u4 u5 u6 u7 u8 : Option D, ρ = [some w, some r, some (.tup (ns.map .int)), some (.ref q), u4, u5, u6, u7, u8]) ∧ Gr [] S S' ∧ S' q = some (.lst ((plcB w r ns 0 (pre.map (·.1))).map encQ))) b.zipIdx ?_ ?_ ⟨⟨_, _, _, _, _, rfl⟩, g0, by rw [up_same]; rfl⟩
    · rintro pre ⟨s, i⟩ post e ρ S' X ⟨⟨u4, u5, u6, u7, u8, rfl⟩, g, h⟩ hX
      refine ⟨trivial, ?_⟩
      obtain ⟨ei, eb⟩ := zipIdx_mid e
      have hs : okS V d s := okB_iff.mp ok s (by rw [eb]; simp)
      have hln := stm_part eb
      have hpl1 := plcB_len w r ns 0 (pre.map (·.1))
      have hpl2 := plcS_len s (.tup [.str "body", w, .int ((i : Int) + 1), r]) ns
      have hsn : plcB w r ns 0 ((pre ++ [(s, i)]).map (·.1)) = plcB w r ns 0 (pre.map (·.1)) ++ plcS s (.tup [.str "body", w, .int ((i : Int) + 1), r]) ns := by
        rw [List.map_append, List.map_singleton, plcB_snoc, List.length_map, show 0 + pre.length = i by omega]
      have fin : ∀ {ρ' : Ev} {S2 : Sto} (k : List Plc), (∃ u4 u5 u6 u7 u8 : Option D, ρ' = [some w, some r, some (.tup (ns.map .int)), some (.ref q), u4, u5, u6, u7, u8]) → Gr [] S S2 → S2 q = some (.lst ((plcB w r ns 0 (pre.map (·.1))).map encQ ++ k.map encQ)) → plcS s (.tup [.str "body", w, .int ((i : Int) + 1), r]) ns = k → X ρ' S2 := fun k h1 h2 h3 h4 => hX _ _ ⟨h1, h2, by rw [h3, hsn, List.map_append, h4]⟩
      generalize hP : plcB w r ns 0 (pre.map (·.1)) = P at h fin hpl1
      cases hpl : isPlain s with
      | true =>
        obtain ⟨l2, hl2⟩ := encS_hd true s
        obtain ⟨k1, k2, k3, k4⟩ := kd_plain hpl
        simp! only [hl2]
        refine ⟨rfl, ?_⟩
        simp_all only
        simp_all only
        simp_all only [k1]
        simp_all only [k2]
        simp_all only [k3]
        simp_all only [k4]
        refine fin [] ⟨_, _, _, _, _, rfl⟩ g (by rw [h]; simp) ?_
        cases s <;> first | (cases hpl; done) | simp [plcS]
      | false =>
        cases s with
        | wh i2 n B p =>
          rw [okS] at hs
          have e1 : encS true (.wh i2 n B p) = .tup [.str "while", lessD i2 n, .tup (encB true B), .int p] := by rw [encS] <;> rfl
          have est : stmS (.wh i2 n B p) = .wh i2 n B p :: stmB B := by rw [stmS]
          rw [est, List.length_cons] at hln
          simp! only [e1]
          refine ⟨rfl, ?_⟩
          simp_all only
          simp_all only
          simp_all only [eq_self]
          simp_all only
          refine ⟨by rw [List.length_singleton, List.length_map]; omega, ?_⟩
          rw [intsMap_snoc]
          simp_all only [rcv, bmT, bmW, h]
          refine ⟨by rw [List.length_map]; omega, ?_⟩
          simp_all only [rcv, bmT, up_same]
          have hpB := plcB_len (.tup (encB true B)) (.tup [.str "loop", .int p]) (ns ++ [p]) 0 B
          refine places_w fuel (d - 1) B (by omega) (by omega) hs.2 hs.1.2 (by omega) (by simp; omega) fun q4 S4 hq4 g4 h4 => ?_
          have h34 := g4 _ _ (by simp) up_same
          simp! only [bmW, h34, h4]
          refine ⟨by simp only [List.length_map, List.length_append, List.length_singleton]; omega, ?_⟩
          refine fin ((p, .wh i2 n B p, .tup [.str "body", w, .int ((i : Int) + 1), r], ns ++ [p]) :: plcB (.tup (encB true B)) (.tup [.str "loop", .int p]) (ns ++ [p]) 0 B) ⟨_, _, _, _, _, rfl⟩ (((g.set hq).trans g4).set hq) ?_ (by rw [plcS])
          rw [up_same, List.append_assoc, List.map_cons]
          unfold encQ
          simp only [e1]
          rfl
        | ife i2 n A C =>
          rw [okS] at hs
          have e1 : encS true (.ife i2 n A C) = .tup [.str "if", lessD i2 n, .tup (encB true A), .tup (encB true C)] := by rw [encS] <;> rfl
          have est : stmS (.ife i2 n A C) = .ife i2 n A C :: (stmB A ++ stmB C) := by rw [stmS]
          rw [est, List.length_cons, List.length_append] at hln
          have hpA := plcB_len (.tup (encB true A)) (.tup [.str "body", w, .int ((i : Int) + 1), r]) ns 0 A
          have hpC := plcB_len (.tup (encB true C)) (.tup [.str "body", w, .int ((i : Int) + 1), r]) ns 0 C
          simp! only [e1]
          refine ⟨rfl, ?_⟩
          simp_all only
          simp_all only
          simp_all only [k_if_while]
          simp_all only [eq_self]
          simp_all only [rcv, bmT, h]
          refine places_w fuel (d - 1) A (by omega) (by omega) hs.2.1 hs.1.2.1 (by omega) (by omega) fun q4 S4 hq4 g4 h4 => ?_
          have h34 := g4 _ _ (by simp) h
          simp! only [bmW, h34, h4]
          refine ⟨by simp only [List.length_map, List.length_append, List.length_singleton]; omega, ?_⟩
          simp_all only [rcv, bmT, up_same]
          refine places_w fuel (d - 1) C (by omega) (by omega) hs.2.2 hs.1.2.2 (by omega) (by omega) fun q5 S5 hq5 g5 h5 => ?_
          have h45 := g5 _ _ (by simp) up_same
          simp! only [bmW, h45, h5]
          refine ⟨by simp only [List.length_map, List.length_append, List.length_singleton]; omega, ?_⟩
          refine fin (plcB (.tup (encB true A)) (.tup [.str "body", w, .int ((i : Int) + 1), r]) ns 0 A ++ plcB (.tup (encB true C)) (.tup [.str "body", w, .int ((i : Int) + 1), r]) ns 0 C) ⟨_, _, _, _, _, rfl⟩ ((((g.trans g4).set hq).trans g5).set hq) ?_ (by rw [plcS])
          rw [up_same, List.append_assoc, List.map_append]
        | pause p =>
          have e1 : encS true (.pause p) = .tup [.str "pause", .int p] := by rw [encS] <;> rfl
          simp! only [e1]
          refine ⟨rfl, ?_⟩
          simp_all only
          simp_all only
          simp_all only [k_pause_while]
          simp_all only [k_pause_if]
          simp_all only [eq_self]
          simp_all only [rcv, bmT, bmW, h]
          refine ⟨by rw [List.length_map]; omega, ?_⟩
          refine fin [(p, .pause p, .tup [.str "body", w, .int ((i : Int) + 1), r], ns)] ⟨_, _, _, _, _, rfl⟩ (g.set hq) ?_ (by rw [plcS])
          rw [up_same, List.map_singleton]
          unfold encQ
          simp only [e1]
        | call f2 as ts p =>
          have e1 : encS true (.call f2 as ts p) = .tup [.str "call", .str f2, .tup (as.map encA), .tup (ts.map .str), .int p] := by rw [encS] <;> rfl
          simp! only [e1]
          refine ⟨rfl, ?_⟩
          simp_all only
          simp_all only
          simp_all only [k_call_while]
          simp_all only [k_call_if]
          simp_all only [k_call_pause]
          simp_all only [eq_self]
          simp_all only [rcv, bmT, bmW, h]
          refine ⟨by rw [List.length_map]; omega, ?_⟩
          refine fin [(p, .call f2 as ts p, .tup [.str "body", w, .int ((i : Int) + 1), r], ns)] ⟨_, _, _, _, _, rfl⟩ (g.set hq) ?_ (by rw [plcS])
          rw [up_same, List.map_singleton]
          unfold encQ
          simp only [e1]
        | _ => cases hpl
    · rintro ρ S' ⟨⟨u4, u5, u6, u7, u8, rfl⟩, g, h⟩
      refine ⟨trivial, ?_⟩
      rw [List.zipIdx_map_fst] at h
      simp_all only
      exact ret_ok (hQ q S' hq g h)
def encN (n : List Int) : D := .tup (n.map .int)
theorem nestsin_w {V : Env} {b : List St} {K : Nat} (hK : 5 ≤ K) {S : Sto} {Q : PK D} (ok : okB V 3 b) (hl : b.length ≤ 4) (hu : (stmB b).length ≤ 5000) (hQ : ∀ S1, Gr [] S S1 → Q (.tup (([] :: nstB b []).map encN)) S1) : cl K "nests_in" [.tup (encB true b)] S Q := by
  refine lev_run (d := f_nests_in) rfl (by omega) ⟨rfl, ?_⟩
  show wpSs (gk (K - 1)) _ (enR Q) [some (.tup (encB true b)), none, none, none, none, none] S
  have hsz : sizeLine = 2 ^ 24 := rfl
  unfold f_nests_in
  simp_all only
  intro q hq
  have g0 : Gr [] S (up S q (.lst [.tup []])) := .new hq
  have hq0 : up S q (.lst [.tup []]) q = some (.lst ([([] : List Int)].map encN)) := up_same
  generalize up S q (.lst [.tup []]) = S1 at g0 hq0 ⊢
  simp_all only
  refine places_w (ns := []) 4 3 b (by omega) (by omega) ok hl hu (by simp) fun q4 S4 hq4 g4 h4 => ?_
  have hq1 := g4 _ _ (by simp) hq0
  simp! only [walkC, h4]
  have nq : q4 ≠ q := by rintro rfl; rw [hq0] at hq4; cases hq4
  refine pre_loop encQ (fun pre ρ S' => (∃ u1 u2 u3 u4 : Option D, ρ = [some (.tup (encB true b)), some (.ref q), u1, u2, u3, u4]) ∧ Gr [q] S4 S' ∧ S' q = some (.lst (([] :: pre.flatMap tolQ).map encN))) (plcB (.tup (encB true b)) (.tup []) [] 0 b) ?_ ?_ ⟨⟨_, _, _, _, rfl⟩, .refl, hq1⟩
  · rintro pre ⟨pt, s, af, ns⟩ post e ρ S' X ⟨⟨u1, u2, u3, u4, rfl⟩, g, h⟩ hX
    refine ⟨g _ _ (by simpa using nq) h4, ?_⟩
    have hlen : ((plcB (.tup (encB true b)) (.tup []) [] 0 b).flatMap tolQ).length ≤ 10000 := by
      rw [plcB_tol]
      have := nstB_len b []
      omega
    rw [e, List.flatMap_append, List.flatMap_cons, List.length_append, List.length_append] at hlen
    obtain ⟨l, hl2⟩ := encS_hd true s
    simp! only [encQ]
    refine ⟨rfl, ?_⟩
    simp_all only [rcv, bmT, bmW, h]
    have t2 : (tolQ (pt, s, af, ns)).length ≤ 2 := by unfold tolQ; split <;> simp
    have t1 : 1 ≤ (tolQ (pt, s, af, ns)).length := by unfold tolQ; split <;> simp
    refine ⟨by rw [List.length_map, List.length_cons]; omega, ?_⟩
    cases hc : isCall s with
    | true =>
      simp_all only [hl2, kd_call, hc]
      simp_all only [rcv, bmT, bmW, up_same]
      refine ⟨by simp only [List.length_map, List.length_append, List.length_cons, List.length_nil]; omega, ?_⟩
      refine hX _ _ ⟨⟨_, _, _, _, rfl⟩, (g.trans (.up (by simp))).trans (.up (by simp)), ?_⟩
      rw [up_same, List.flatMap_append]
      unfold tolQ
      simp [hc, encN]
    | false =>
      simp_all only [hl2, kd_call, hc]
      refine hX _ _ ⟨⟨_, _, _, _, rfl⟩, g.trans (.up (by simp)), ?_⟩
      rw [up_same, List.flatMap_append]
      unfold tolQ
      simp [hc, encN]
  · rintro ρ S' ⟨⟨u1, u2, u3, u4, rfl⟩, g, h⟩
    refine ⟨g _ _ (by simpa using nq) h4, ?_⟩
    simp_all only [h]
    rw [plcB_tol] at h ⊢
    exact ret_ok (hQ S' ((g0.trans g4).fresh1 hq g))
theorem lnests_w {V : Env} : ∀ (fuel d : Nat) (b : List St) {K : Nat} {S : Sto} {ns : List Int} {Q : PK D}, d < fuel → fuel ≤ K → okB V d b → b.length ≤ 4 → (stmB b).length ≤ 5000 → ns.length + d ≤ 100 → (∀ q S1, S q = none → Gr [] S S1 → S1 q = some (.lst ((nstB b ns).map encN)) → Q (.ref q) S1) → cl K "_law_nests" [.tup (encB true b), .tup (ns.map .int)] S Q
  | 0, d, b, K, S, ns, Q, hf, _, _, _, _, _, _ => by omega
  | fuel + 1, d, b, K, S, ns, Q, hf, hK, ok, hl, hu, hns, hQ => by
    refine lev_run (d := f__law_nests) rfl (by omega) ⟨rfl, ?_⟩
    show wpSs (gk (K - 1)) _ (enR Q) [some (.tup (encB true b)), some (.tup (ns.map .int)), none, none, none] S
    have hsz : sizeLine = 2 ^ 24 := rfl
    unfold f__law_nests
    simp_all only
    intro q hq
    have g0 : Gr [] S (up S q (.lst [])) := .new hq
    simp_all only
    refine walk_of (S := S) (.inl rfl) g0 fun chk hc => ?_
    rw [encB_map]
    refine pre_loop (encS true) (fun pre ρ S' => (∃ (q : Addr) (u v : Option D), ρ = [some (.tup (b.map (encS true))), some (.tup (ns.map .int)), some (.ref q), u, v] ∧ S' q = some (.lst ((nstB pre ns).map encN)) ∧ S q = none) ∧ Gr [] S S') b ?_ ?_ ⟨⟨q, _, _, rfl, by rw [up_same]; rfl, hq⟩, g0⟩
    · rintro pre s post e ρ S' X ⟨⟨q, u, v, rfl, h, hq⟩, g⟩ hX
      refine ⟨hc _ g, ?_⟩
      have hs : okS V d s := okB_iff.mp ok s (by rw [e]; simp)
      have hln := stm_part e
      have hn1 := nstB_len pre ns
      have fin : ∀ {S2 : Sto} (q' : Addr) (k : List (List Int)) u v, Gr [] S S2 → S q' = none → S2 q' = some (.lst ((nstB pre ns).map encN ++ k.map encN)) → nstS s ns = k → X [some (.tup (b.map (encS true))), some (.tup (ns.map .int)), some (.ref q'), u, v] S2 := fun q' k u v g2 f h2 h3 => hX _ _ ⟨⟨q', u, v, rfl, by rw [h2, nstB_snoc, List.map_append, h3], f⟩, g2⟩
      cases s with
      | wh i n B p =>
        rw [okS] at hs
        have e1 : encS true (.wh i n B p) = .tup [.str "while", lessD i n, .tup (encB true B), .int p] := by rw [encS] <;> rfl
        have est : stmS (.wh i n B p) = .wh i n B p :: stmB B := by rw [stmS]
        rw [est, List.length_cons] at hln
        have hnB := nstB_len B (ns ++ [p])
        simp! only
        simp_all only [e1, eq_self]
        simp_all only
        refine ⟨by rw [List.length_singleton, List.length_map]; omega, ?_⟩
        rw [intsMap_snoc]
        simp_all only
        intro q2 hq2
        have g2 : Gr [] S' (up S' q2 (.lst [.tup ((ns ++ [p]).map .int)])) := .new hq2
        have h2 := g2 _ _ (by simp) h
        have h22 : up S' q2 (.lst [.tup ((ns ++ [p]).map .int)]) q2 = some (.lst [.tup ((ns ++ [p]).map .int)]) := up_same
        generalize up S' q2 (.lst [.tup ((ns ++ [p]).map .int)]) = S2 at g2 h2 h22 ⊢
        simp! only [h2, h22]
        refine ⟨by simp only [List.length_map, List.length_singleton]; omega, ?_⟩
        intro q3 hq3
        have g3 : Gr [] S2 (up S2 q3 (.lst ((nstB pre ns).map encN ++ [.tup ((ns ++ [p]).map .int)]))) := .new hq3
        have h3 : up S2 q3 (.lst ((nstB pre ns).map encN ++ [.tup ((ns ++ [p]).map .int)])) q3 = some (.lst ((nstB pre ns).map encN ++ [.tup ((ns ++ [p]).map .int)])) := up_same
        generalize up S2 q3 (.lst ((nstB pre ns).map encN ++ [.tup ((ns ++ [p]).map .int)])) = S3 at g3 h3 ⊢
        refine lnests_w fuel (d - 1) B (by omega) (by omega) hs.2 hs.1.2 (by omega) (by simp; omega) fun q4 S4 _ g4 h4 => ?_
        have h34 := g4 _ _ (by simp) h3
        simp! only [h34, h4]
        refine ⟨by simp only [List.length_map, List.length_append, List.length_singleton]; omega, ?_⟩
        intro q5 hq5
        have G4 := ((g.trans g2).trans g3).trans g4
        refine fin q5 ((ns ++ [p]) :: nstB B (ns ++ [p])) _ _ (G4.trans (.new hq5)) (G4.free hq5) ?_ (by rw [nstS])
        rw [up_same, List.append_assoc, List.map_cons] <;> rfl
      | ife i n A C =>
        rw [okS] at hs
        have e1 : encS true (.ife i n A C) = .tup [.str "if", lessD i n, .tup (encB true A), .tup (encB true C)] := by rw [encS] <;> rfl
        have est : stmS (.ife i n A C) = .ife i n A C :: (stmB A ++ stmB C) := by rw [stmS]
        rw [est, List.length_cons, List.length_append] at hln
        have hnA := nstB_len A ns
        have hnC := nstB_len C ns
        simp! only
        simp_all only [e1, k_if_while]
        simp_all only [eq_self]
        simp_all only
        refine lnests_w fuel (d - 1) A (by omega) (by omega) hs.2.1 hs.1.2.1 (by omega) (by omega) fun q4 S4 _ g4 h4 => ?_
        have h24 := g4 _ _ (by simp) h
        simp! only [h24, h4]
        refine ⟨by simp only [List.length_map]; omega, ?_⟩
        intro q5 hq5
        have g5 : Gr [] S4 (up S4 q5 (.lst ((nstB pre ns).map encN ++ (nstB A ns).map encN))) := .new hq5
        have h5 : up S4 q5 (.lst ((nstB pre ns).map encN ++ (nstB A ns).map encN)) q5 = some (.lst ((nstB pre ns).map encN ++ (nstB A ns).map encN)) := up_same
        generalize up S4 q5 (.lst ((nstB pre ns).map encN ++ (nstB A ns).map encN)) = S5 at g5 h5 ⊢
        refine lnests_w fuel (d - 1) C (by omega) (by omega) hs.2.2 hs.1.2.2 (by omega) (by omega) fun q6 S6 _ g6 h6 => ?_
        have h56 := g6 _ _ (by simp) h5
        simp! only [h56, h6]
        refine ⟨by simp only [List.length_map, List.length_append]; omega, ?_⟩
        intro q7 hq7
        have G6 := ((g.trans g4).trans g5).trans g6
        refine fin q7 (nstB A ns ++ nstB C ns) _ _ (G6.trans (.new hq7)) (G6.free hq7) ?_ (by rw [nstS])
        rw [up_same, List.append_assoc, List.map_append]
      | set x i v =>
        simp! only
        simp_all only [encS, k_set_while]
        simp_all only [k_set_if]
        simp_all only [k_set_pause]
        simp_all only [k_set_call]
        exact fin q [] _ _ g hq (by rw [h]; simp) (by rw [nstS])
      | push n a =>
        simp! only
        simp_all only [encS, k_push_while]
        simp_all only [k_push_if]
        simp_all only [k_push_pause]
        simp_all only [k_push_call]
        exact fin q [] _ _ g hq (by rw [h]; simp) (by rw [nstS])
      | store a j =>
        simp! only
        simp_all only [encS, k_store_while]
        simp_all only [k_store_if]
        simp_all only [k_store_pause]
        simp_all only [k_store_call]
        exact fin q [] _ _ g hq (by rw [h]; simp) (by rw [nstS])
      | pop x a =>
        simp! only
        simp_all only [encS, k_pop_while]
        simp_all only [k_pop_if]
        simp_all only [k_pop_pause]
        simp_all only [k_pop_call]
        exact fin q [] _ _ g hq (by rw [h]; simp) (by rw [nstS])
      | pause p =>
        have hst := stmS_pos (.pause p)
        simp! only
        simp_all only [encS, k_pause_while]
        simp_all only [k_pause_if]
        simp_all only [eq_self]
        simp_all only [rcv, bmT, bmW, h]
        refine ⟨by rw [List.length_map]; omega, ?_⟩
        refine fin q [ns] _ _ (g.set hq) hq ?_ (by rw [nstS])
        rw [up_same] <;> rfl
      | call f2 as ts p =>
        have hst := stmS_pos (.call f2 as ts p)
        simp! only
        simp_all only [encS, k_call_while]
        simp_all only [k_call_if]
        simp_all only [k_call_pause]
        simp_all only [eq_self]
        simp_all only
        intro q2 hq2
        have g2 : Gr [] S' (up S' q2 (.lst [.tup (ns.map .int), .tup (ns.map .int)])) := .new hq2
        have h2 := g2 _ _ (by simp) h
        have h22 : up S' q2 (.lst [.tup (ns.map .int), .tup (ns.map .int)]) q2 = some (.lst [.tup (ns.map .int), .tup (ns.map .int)]) := up_same
        generalize up S' q2 (.lst [.tup (ns.map .int), .tup (ns.map .int)]) = S2 at g2 h2 h22 ⊢
        simp! only [h2, h22]
        refine ⟨by simp only [List.length_map, List.length_cons, List.length_nil]; omega, ?_⟩
        intro q3 hq3
        have G4 := g.trans g2
        refine fin q3 [ns, ns] _ _ (G4.trans (.new hq3)) (G4.free hq3) ?_ (by rw [nstS])
        rw [up_same] <;> rfl
    · rintro ρ S' ⟨⟨q, u, v, rfl, h, hq⟩, g⟩
      refine ⟨hc _ g, ?_⟩
      simp_all only
      exact ret_ok (hQ q S' hq g h)

theorem fm_if {α β : Type} (P : α → Bool) (f : α → β) : ∀ l : List α, (l.filterMap fun x => if P x = true then some (f x) else none) = (l.filter P).map f
  | [] => rfl
  | x :: l => by
    rw [List.filterMap_cons, List.filter_cons]
    cases h : P x
    · simp [fm_if P f l]
    · simp [fm_if P f l]
theorem OkC.len6 {C : List Pr} (h : OkC C) : C.length ≤ 6 := h.len.2
theorem core_walk {C : List Pr} {S : Sto} : Wkd (coreD C) S (C.map encP8) := .inl rfl
theorem proc_named_w {C : List Pr} (h : OkC C) {p : Pr} (hp : p ∈ C) {K : Nat} (hK : 1 ≤ K) {S : Sto} {Q : PK D} (hQ : ∀ S1, Gr [] S S1 → Q (encP8 p) S1) : cl K "proc_named" [coreD C, .str p.nm] S Q := by
  refine lev_run (d := f_proc_named) rfl hK ⟨rfl, ?_⟩
  show wpSs (gk (K - 1)) _ (enR Q) [some (coreD C), some (.str p.nm), none] S
  have hsz : sizeLine = 2 ^ 24 := rfl
  have h6 := h.len6
  unfold f_proc_named
  simp_all only
  refine walk_of (S := S) core_walk .refl fun chk hc => ?_
  refine lc_fm encP8 (fun q => if decide (q.nm = p.nm) = true then some (encP8 q) else none) (hc _ .refl) C [] ?_ (by simp; omega) ?_
  · intro q _ X hX
    unfold encP8
    simp! only [pr_0]
    split
    · rename_i e; rw [if_pos e] at hX; exact hX
    · rename_i e; rw [if_neg e] at hX; exact hX
  · intro q hq
    rw [fm_if, h.flt hp]
    simp! only [List.nil_append, List.map_cons, List.map_nil]
    exact ret_ok (hQ _ (.new hq))
theorem variable_of_w {K : Nat} (hK : 1 ≤ K) {S : Sto} {i : It} (hi : i.2.length ≤ 100) {Q : PK D} (hQ : Q (.str (keyI i)) S) : cl K "variable_of" [encI i] S Q := by
  refine lev_run (d := f_variable_of) rfl hK ⟨rfl, ?_⟩
  show wpSs (gk (K - 1)) _ (enR Q) [some (encI i)] S
  obtain ⟨b, x⟩ := i
  unfold f_variable_of
  cases b with
  | true =>
    unfold encI
    simp_all only [eq_self]
    simp_all only
    exact ⟨hash_ok hi, ret_ok hQ⟩
  | false =>
    unfold encI
    simp_all only [k_int_array]
    simp_all only
    exact ret_ok hQ
theorem stm_w {C : List Pr} (h : OkC C) {p : Pr} (hp : p ∈ C) {K : Nat} (hK : 4 ≤ K) {S : Sto} {Q : PK D} (hQ : ∀ q S1, S q = none → Gr [] S S1 → S1 q = some (.lst (p.stm.map (encS false))) → Q (.ref q) S1) : cl K "statements_in" [.tup (encB false p.body)] S Q :=
  statements_w 4 3 p.body (by omega) hK (h.ok p hp).ok (h.ok p hp).ln (by have := (h.ok p hp).sl; unfold Pr.stm at this; omega) hQ
theorem lst_w {C : List Pr} (h : OkC C) {p : Pr} (hp : p ∈ C) {K : Nat} (hK : 4 ≤ K) {S : Sto} {Q : PK D} (hQ : ∀ q S1, S q = none → Gr [] S S1 → S1 q = some (.lst (p.stm.map (encS false))) → Q (.ref q) S1) : cl K "_law_statements" [.tup (encB false p.body)] S Q :=
  lstm_w 4 3 p.body (by omega) hK (h.ok p hp).ok (h.ok p hp).ln (by have := (h.ok p hp).sl; unfold Pr.stm at this; omega) hQ
theorem asg_pre {C : List Pr} {p : Pr} (o : OkP C p) {pre post : List St} {s : St} (e : p.stm = pre ++ s :: post) : (pre.flatMap asgI).length ≤ 4700 := by
  have h1 := asgs_len o (l := pre) fun t ht => by rw [e]; simp [ht]
  have h2 := o.sl
  have h3 := congrArg List.length e
  simp at h3
  omega
def keysP (p : Pr) : List Str := (p.stm.flatMap asgI).map keyI
theorem assigned_w {C : List Pr} (hC : OkC C) {p : Pr} (hp : p ∈ C) {K : Nat} (hK : 6 ≤ K) {S : Sto} {Q : PK D} (hQ : ∀ q S1, S q = none → Gr [] S S1 → S1 q = some (.lst ((keysP p).map .str)) → Q (.ref q) S1) : cl K "assigned_in" [encP8 p] S Q := by
  refine lev_run (d := f_assigned_in) rfl (by omega) ⟨rfl, ?_⟩
  show wpSs (gk (K - 1)) _ (enR Q) [some (.tup (prL p)), none, none, none, none] S
  have hsz : sizeLine = 2 ^ 24 := rfl
  have o := hC.ok p hp
  unfold f_assigned_in
  simp_all only
  intro fo hfo
  have g0 : Gr [] S (up S fo (.lst [])) := .new hfo
  simp_all only [pr_8]
  refine stm_w hC hp (by omega) fun q S1 hq g1 h1 => ?_
  have hqf : q ≠ fo := by rintro rfl; rw [up_same] at hq; cases hq
  have hf1 := g1 _ _ (by simp) up_same
  refine walk_ofA (A := [fo]) (.inr ⟨q, rfl, h1⟩) (fun q' e => by cases e; simpa using hqf) fun chk hc => ?_
  refine pre_loop (encS false) (fun pre ρ S' => (∃ u v w : Option D, ρ = [some (.tup (prL p)), some (.ref fo), u, v, w]) ∧ Gr [fo] S1 S' ∧ Gr [] S S' ∧ S' fo = some (.lst (((pre.flatMap asgI).map keyI).map .str))) p.stm ?_ ?_ ⟨⟨_, _, _, rfl⟩, .refl, g0.trans g1, hf1⟩
  · rintro pre s post e ρ S' X ⟨⟨u, v, w, rfl⟩, g, g', h⟩ hX
    refine ⟨hc _ g, ?_⟩
    have hin : s ∈ p.stm := by rw [e]; simp
    have hs := o.st hin
    have hpl := asg_pre o e
    have ha2 := asgI_len o hin
    have sh : ∀ i ∈ asgI s, i.2.length ≤ 10 := fun i hi => o.sh i (asgI_all o hin hi)
    have keep : ∀ {ρ' : Ev} {S2 : Sto}, (∃ u v w : Option D, ρ' = [some (.tup (prL p)), some (.ref fo), u, v, w]) → Gr [fo] S' S2 → Gr [] S S2 → S2 fo = some (.lst (((pre.flatMap asgI).map keyI).map .str ++ ((asgI s).map keyI).map .str)) → X ρ' S2 := fun h1 h2 h3 h4 => hX _ _ ⟨h1, g.trans h2, h3, by rw [h4]; simp⟩
    have none2 : asgI s = [] → ∀ u v w, X [some (.tup (prL p)), some (.ref fo), u, v, w] S' := fun e0 u v w => keep ⟨u, v, w, rfl⟩ .refl g' (by rw [h, e0]; simp)
    cases s with
    | set x i ev =>
      simp! only [encS]
      simp_all only [eq_self]
      simp_all only [rcv, bmT, h]
      refine walk_of (S := S') (ds := [setD x i ev].map id) (.inl rfl) .refl fun chk2 hk2 => ?_
      refine lc_fm id (fun z => some (.str x)) (hk2 _ .refl) [setD x i ev] [] ?_ (by simp [hsz]) ?_
      · intro z hz Y hY
        rw [List.mem_singleton.mp hz]
        unfold setD
        exact ⟨rfl, hY⟩
      intro q4 hq4
      have h4 := (Gr.new (A := []) (o := .lst ([] ++ [setD x i ev].filterMap fun z => some (.str x))) hq4) _ _ (by simp) h
      simp! only [bmW, h4, up_same]
      refine ⟨by simp only [List.length_map, List.filterMap_cons, List.filterMap_nil, List.nil_append, List.length_cons, List.length_nil]; omega, keep ⟨_, _, _, rfl⟩ ((Gr.new hq4).trans (.up (by simp))) ((g'.trans (.new hq4)).set hfo) ?_⟩
      rw [up_same] <;> rfl
    | pop x a =>
      have hal : a.length ≤ 10 := sh (true, a) (by simp [asgI])
      simp! only [encS]
      simp_all only [k_pop_set]
      simp_all only [eq_self]
      simp_all only [rcv, bmT, h]
      refine ⟨hash_ok (by omega), ?_⟩
      intro q4 hq4
      have h4 := (Gr.new (A := []) (o := .lst [.str x, .str ("#" ++ a)]) hq4) _ _ (by simp) h
      simp! only [bmW, h4, up_same]
      refine ⟨by simp only [List.length_map, List.length_cons, List.length_nil]; omega, keep ⟨_, _, _, rfl⟩ ((Gr.new hq4).trans (.up (by simp))) ((g'.trans (.new hq4)).set hfo) ?_⟩
      rw [up_same] <;> rfl
    | push n a =>
      have hal : a.length ≤ 10 := sh (true, a) (by simp [asgI])
      simp! only [encS]
      simp_all only [k_push_set]
      simp_all only [k_push_pop]
      simp_all only [eq_self]
      simp_all only [rcv, bmT, h]
      refine ⟨hash_ok (by omega), ?_⟩
      simp! only [bmW, h]
      refine ⟨by simp only [List.length_map]; omega, keep ⟨_, _, _, rfl⟩ (.up (by simp)) (g'.set hfo) ?_⟩
      rw [up_same] <;> rfl
    | call f as ts n =>
      simp! only [encS]
      simp_all only [k_call_set]
      simp_all only [k_call_pop]
      simp_all only [k_call_push]
      simp_all only [eq_self]
      simp_all only [rcv, bmT, bmW, h]
      have hts : ts.length ≤ 2 := by simpa [asgI] using ha2
      refine ⟨by simp only [List.length_map]; omega, keep ⟨_, _, _, rfl⟩ (.up (by simp)) (g'.set hfo) ?_⟩
      rw [up_same]
      simp [asgI, keyI]
    | store a j =>
      simp! only [encS]
      simp_all only [k_store_set]
      simp_all only [k_store_pop]
      simp_all only [k_store_push]
      simp_all only [k_store_call]
      exact none2 rfl _ _ _
    | pause i =>
      simp! only [encS]
      simp_all only [k_pause_set]
      simp_all only [k_pause_pop]
      simp_all only [k_pause_push]
      simp_all only [k_pause_call]
      exact none2 rfl _ _ _
    | ife i n A C =>
      simp! only [encS]
      simp_all only [k_if_set]
      simp_all only [k_if_pop]
      simp_all only [k_if_push]
      simp_all only [k_if_call]
      exact none2 rfl _ _ _
    | wh i n A p2 =>
      simp! only [encS]
      simp_all only [k_while_set]
      simp_all only [k_while_pop]
      simp_all only [k_while_push]
      simp_all only [k_while_call]
      exact none2 rfl _ _ _
  · rintro ρ S' ⟨⟨u, v, w, rfl⟩, g, g', h⟩
    refine ⟨hc _ g, ?_⟩
    simp_all only
    exact ret_ok (hQ fo S' hfo g' h)
/-! the program's table -/
structure Cs (S0 S : Sto) (N : List Str) (T : Mt) (cs : List (Str × Addr)) : Prop where
  nm : cs.map (·.1) = N
  ad : (cs.map (·.2)).Nodup
  fr : ∀ c ∈ cs, S0 c.2 = none
  l : ∀ c ∈ cs, S c.2 = some (.lst ((T c.1).map .str))
def dcC (cs : List (Str × Addr)) : List (Key × D) := dicX (cs.map fun c => (c.1, D.ref c.2))
theorem Cs.keep {S0 S S1 : Sto} {N : List Str} {T : Mt} {cs : List (Str × Addr)} (h : Cs S0 S N T cs) (g : Gr [] S S1) : Cs S0 S1 N T cs := ⟨h.nm, h.ad, h.fr, fun c hc => g _ _ (by simp) (h.l c hc)⟩
theorem Cs.find {S0 S : Sto} {C : List Pr} {T : Mt} {cs : List (Str × Addr)} (h : Cs S0 S (nms C) T cs) (ok : OkC C) {p : Pr} (hp : p ∈ C) : ∃ a, (p.nm, a) ∈ cs ∧ getD (dcC cs) (.inr p.nm) = some (.ref a) ∧ S a = some (.lst ((T p.nm).map .str)) ∧ S0 a = none := by
  have : p.nm ∈ cs.map (·.1) := by rw [h.nm]; exact List.mem_map.mpr ⟨p, hp, rfl⟩
  obtain ⟨⟨x, a⟩, hc, e⟩ := List.mem_map.mp this
  simp only at e
  subst e
  refine ⟨a, hc, getX_in ?_ (List.mem_map.mpr ⟨_, hc, rfl⟩), h.l _ hc, h.fr _ hc⟩
  rw [List.map_map]
  have : ((fun x : Str × D => x.1) ∘ fun c : Str × Addr => (c.1, D.ref c.2)) = fun c => c.1 := rfl
  rw [this, h.nm]
  exact asc_nodup ok.asc
theorem zipD_map {α β : Type} (f : α → D) (g : β → D) (l : List α) (m : List β) : zipD (l.map f) (m.map g) = (l.zip m).map fun z => D.tup [f z.1, g z.2] := by
  unfold zipD
  rw [List.zip_map, List.map_map] <;> rfl
theorem inL_strs {x : Str} {xs : List Str} {Q : Bool → Prop} (h : Q (decide (x ∈ xs))) : inL (.str x) (xs.map .str) Q := .inl ⟨rfl, flat_strs xs, by rw [inF_strs]; exact h⟩
theorem passed_w {C : List Pr} (hC : OkC C) {p : Pr} (hp : p ∈ C) {K : Nat} (hK : 6 ≤ K) {S0 S : Sto} {t : Addr} {T : Mt} {cs : List (Str × Addr)} (hcs : Cs S0 S (nms C) T cs) (ht : S t = some (.dic (dcC cs))) {Q : PK D} (hQ : ∀ q S1, S q = none → Gr [] S S1 → S1 q = some (.lst ((pasP C T p).map .str)) → Q (.ref q) S1) : cl K "passed_on" [coreD C, .ref t, encP8 p] S Q := by
  refine lev_run (d := f_passed_on) rfl (by omega) ⟨rfl, ?_⟩
  show wpSs (gk (K - 1)) _ (enR Q) [some (coreD C), some (.ref t), some (.tup (prL p)), none, none, none, none, none] S
  have hsz : sizeLine = 2 ^ 24 := rfl
  have o := hC.ok p hp
  unfold f_passed_on
  simp_all only
  intro fo hfo
  have g0 : Gr [] S (up S fo (.lst [])) := .new hfo
  simp_all only [pr_8]
  refine stm_w hC hp (by omega) fun q S1 hq g1 h1 => ?_
  have hqf : q ≠ fo := by rintro rfl; rw [up_same] at hq; cases hq
  have hf1 := g1 _ _ (by simp) up_same
  refine walk_ofA (A := [fo]) (.inr ⟨q, rfl, h1⟩) (fun q' e => by cases e; simpa using hqf) fun chk hc => ?_
  refine pre_loop (encS false) (fun pre ρ S' => (∃ u v w x : Option D, ρ = [some (coreD C), some (.ref t), some (.tup (prL p)), some (.ref fo), u, v, w, x]) ∧ Gr [fo] S1 S' ∧ Gr [] S S' ∧ S' fo = some (.lst ((pre.flatMap (pasS C T)).map .str)) ∧ (pre.flatMap (pasS C T)).length ≤ 3 * pre.length) p.stm ?_ ?_ ⟨⟨_, _, _, _, rfl⟩, .refl, g0.trans g1, hf1, by simp⟩
  · rintro pre s post e ρ S' X ⟨⟨u, v, w, x, rfl⟩, g, g', h, hlen⟩ hX
    refine ⟨hc _ g, ?_⟩
    have hin : s ∈ p.stm := by rw [e]; simp
    have hpl : pre.length ≤ 2340 := by
      have h2 := o.sl
      have h3 := congrArg List.length e
      simp at h3
      omega
    cases hb : isCall s with
    | false =>
      have e0 : pasS C T s = [] := by cases s <;> first | rfl | cases hb
      obtain ⟨l, hl⟩ := encS_hd false s
      simp! only
      simp_all only [hl, kd_call, hb]
      exact hX _ _ ⟨⟨_, _, _, _, rfl⟩, g, g', by rw [h]; simp [e0], by simp only [List.flatMap_append, List.flatMap_cons, List.flatMap_nil, e0, List.append_nil, List.length_append, List.length_singleton]; omega⟩
    | true =>
      cases s with
      | call f as ts n =>
        obtain ⟨q2, hq2, rfl, hk, hl3, harr, _⟩ := hC.callee hp hin
        simp! only [encS]
        simp_all only [eq_self]
        simp_all only
        refine proc_named_w hC hq2 (by omega) fun S2 g2 => ?_
        have h2 := g2 _ _ (by simp) h
        unfold encP8
        simp! only [pr_1]
        simp_all only [walkLT]
        rw [zipD_map]
        refine pre_loop (fun z : It × Ar => D.tup [encI z.1, encA z.2]) (fun pz ρ S' => (∃ w x : Option D, ρ = [some (coreD C), some (.ref t), some (.tup (prL p)), some (.ref fo), some (encS false (.call q2.nm as ts n)), some (.tup (q2.its.map encI)), w, x]) ∧ Gr [fo] S2 S' ∧ Gr [] S S' ∧ S' fo = some (.lst ((pre.flatMap (pasS C T) ++ pz.filterMap (pasA T q2.nm)).map .str))) (q2.its.zip as) ?_ ?_ ⟨⟨_, _, by rw [encS] <;> rfl⟩, .refl, g'.trans g2, by rw [h2]; simp⟩
        · rintro pz ⟨i, ar⟩ qz ez ρ S3 Y ⟨⟨w, x, rfl⟩, g3, g3', h3⟩ hY
          refine ⟨trivial, ?_⟩
          have hz : (i, ar) ∈ q2.its.zip as := by rw [ez]; simp
          have hkind : i.1 = ar.isA := zip_kind (·.1) Ar.isA hk.symm _ hz
          have hil := (hC.ok q2 hq2).sh i ((hC.ok q2 hq2).it i (List.of_mem_zip hz).1)
          have hpz : (pz.filterMap (pasA T q2.nm)).length ≤ 3 := by
            refine Nat.le_trans (List.length_filterMap_le _ _) ?_
            have h5 := congrArg List.length ez
            rw [List.length_zip] at h5
            simp at h5
            omega
          obtain ⟨b, y⟩ := i
          cases ar with
          | sub n2 =>
            simp only [Ar.isA] at hkind
            subst hkind
            simp! only [encI, encA, encS]
            refine ⟨rfl, ?_⟩
            simp_all only [k_int_array]
            exact hY _ _ ⟨⟨_, _, by rw [encS] <;> rfl⟩, g3, g3', by rw [h3]; simp [pasA]⟩
          | arr a =>
            simp only [Ar.isA] at hkind
            subst hkind
            have hal : a.length ≤ 10 := o.sh (true, a) (List.mem_append_right _ (List.mem_map.mpr ⟨a, harr a (List.of_mem_zip hz).2, rfl⟩))
            obtain ⟨ad, hc1, hc2, hc3, hc4⟩ := hcs.find hC hq2
            have ht3 := g3' _ _ (by simp) ht
            have hc5 := g3' _ _ (by simp) hc3
            simp! only [encI, encA, encS]
            refine ⟨rfl, ?_⟩
            simp_all only [eq_self, ht3, keyOf, hc2]
            refine ⟨hash_ok (by simp only at hil; omega), ?_⟩
            simp! only [hc5]
            refine inL_strs ?_
            by_cases hm : ("#" ++ y : Str) ∈ T q2.nm
            · rw [decide_eq_true hm]
              simp! only
              simp_all only [rcv, bmT, h3]
              refine ⟨hash_ok (by omega), ?_⟩
              simp! only [bmW, h3]
              refine ⟨by simp only [List.length_map, List.length_append]; omega, hY _ _ ⟨⟨_, _, by rw [encS] <;> rfl⟩, g3.trans (.up (by simp)), g3'.set hfo, ?_⟩⟩
              rw [up_same, List.filterMap_append]
              simp [pasA, hm]
            · rw [decide_eq_false hm]
              simp! only
              exact hY _ _ ⟨⟨_, _, by rw [encS] <;> rfl⟩, g3, g3', by rw [h3]; simp [pasA, hm]⟩
        · rintro ρ S3 ⟨⟨w, x, rfl⟩, g3, g3', h3⟩
          refine ⟨trivial, ?_⟩
          have e0 : pasS C T (.call q2.nm as ts n) = (q2.its.zip as).filterMap (pasA T q2.nm) := by simp only [pasS]; rw [hC.its hq2]
          refine hX _ _ ⟨⟨_, _, _, _, rfl⟩, (g.trans (g2.mono (by simp))).trans g3, g3', by rw [h3]; simp [e0], ?_⟩
          rw [List.flatMap_append, List.length_append, List.length_append, List.length_singleton, List.flatMap_cons, List.flatMap_nil, List.append_nil, e0]
          have h5 := List.length_filterMap_le (pasA T q2.nm) (q2.its.zip as)
          rw [List.length_zip] at h5
          omega
      | _ => cases hb
  · rintro ρ S' ⟨⟨u, v, w, x, rfl⟩, g, g', h, _⟩
    refine ⟨hc _ g, ?_⟩
    simp_all only
    exact ret_ok (hQ fo S' hfo g' h)

theorem pre_dc' {α : Type} {chk : Sto → Prop} {turn : D → Sto → (Option (D × D) → Sto → Prop) → Prop} {k : List (Key × D) → Sto → Prop} (enc : α → D) (R : List α → List (Key × D) → Sto → Prop) (all : List α) (done : ∀ acc S, R all acc S → chk S ∧ k acc S) : ∀ (xs pre : List α), pre ++ xs = all →
    (∀ pre x post, all = pre ++ x :: post → ∀ acc S K, R pre acc S → (∀ kd v kk S1, keyOf kd = some kk → acc.length < sizeLine → R (pre ++ [x]) (putD acc kk v) S1 → K (some (kd, v)) S1) → chk S ∧ turn (enc x) S K) → ∀ acc S, R pre acc S → dcW chk turn k (xs.map enc) acc S
  | [], pre, e, step, acc, S, h => by
    unfold dcW
    rw [List.append_nil] at e
    subst e
    exact done acc S h
  | x :: xs, pre, e, step, acc, S, h => by
    rw [List.map_cons]
    unfold dcW
    refine step pre x xs e.symm acc S _ h fun kd v kk S1 h1 h2 h3 => ?_
    show (match keyOf kd with
      | some kk => acc.length < sizeLine ∧ dcW chk turn k (xs.map enc) (putD acc kk v) S1
      | none => False)
    rw [h1]
    exact ⟨h2, pre_dc' enc R all done xs (pre ++ [x]) (by simpa using e) step _ S1 h3⟩
theorem pre_dc {α : Type} {chk : Sto → Prop} {turn : D → Sto → (Option (D × D) → Sto → Prop) → Prop} {k : List (Key × D) → Sto → Prop} (enc : α → D) (R : List α → List (Key × D) → Sto → Prop) (xs : List α) {S : Sto}
    (step : ∀ pre x post, xs = pre ++ x :: post → ∀ acc S K, R pre acc S → (∀ kd v kk S1, keyOf kd = some kk → acc.length < sizeLine → R (pre ++ [x]) (putD acc kk v) S1 → K (some (kd, v)) S1) → chk S ∧ turn (enc x) S K) (done : ∀ acc S, R xs acc S → chk S ∧ k acc S) (h : R [] [] S) : dcW chk turn k (xs.map enc) [] S :=
  pre_dc' enc R xs done xs [] rfl step [] S h
theorem dcC_len (cs : List (Str × Addr)) : (dcC cs).length = cs.length := by unfold dcC dicX; rw [List.length_map, List.length_map]
theorem dcC_put {cs : List (Str × Addr)} {x : Str} {a : Addr} (h : x ∉ cs.map (·.1)) : putD (dcC cs) (.inr x) (.ref a) = dcC (cs ++ [(x, a)]) := by
  unfold dcC
  rw [putX_new, List.map_append] <;> try rfl
  rw [List.map_map]
  exact h
theorem Cs.len {S0 S : Sto} {N : List Str} {T : Mt} {cs : List (Str × Addr)} (h : Cs S0 S N T cs) : cs.length = N.length := by rw [← h.nm, List.length_map]
theorem Cs.snoc {S0 S S1 : Sto} {N : List Str} {T : Mt} {cs : List (Str × Addr)} {x : Str} {q : Addr} (h : Cs S0 S N T cs) (g : Gr [] S0 S) (g1 : Gr [] S S1) (fq : S q = none) (hq : S1 q = some (.lst ((T x).map .str))) : Cs S0 S1 (N ++ [x]) T (cs ++ [(x, q)]) := by
  refine ⟨by rw [List.map_append, h.nm] <;> rfl, ?_, fun c hc => ?_, fun c hc => ?_⟩
  · rw [List.map_append]
    refine List.nodup_append.mpr ⟨h.ad, by simp, fun a ha b hb => ?_⟩
    have hb' : b = q := by simpa using hb
    obtain ⟨c, hc, rfl⟩ := List.mem_map.mp ha
    rw [hb']
    intro e
    have := h.l c hc
    rw [e, fq] at this
    cases this
  · rcases List.mem_append.mp hc with hc | hc
    · exact h.fr c hc
    · rw [List.mem_singleton.mp hc]; exact g.free fq
  · rcases List.mem_append.mp hc with hc | hc
    · exact g1 _ _ (by simp) (h.l c hc)
    · rw [List.mem_singleton.mp hc]; exact hq
theorem Cs.nil {S0 S : Sto} {T : Mt} : Cs S0 S [] T [] := ⟨rfl, .nil, by simp, by simp⟩
def ofN {β : Type} (C : List Pr) (f : Pr → List β) (x : Str) : List β := ((C.filter fun q => decide (q.nm = x)).head?.map f).getD []
theorem OkC.ofN {β : Type} {C : List Pr} (h : OkC C) (f : Pr → List β) {p : Pr} (hp : p ∈ C) : Z.ofN C f p.nm = f p := by unfold Z.ofN; rw [h.flt hp]; rfl
structure MW (C : List Pr) (S S' : Sto) (t : Addr) (T : Mt) (cs : List (Str × Addr)) : Prop where
  c : Cs S S' (nms C) T cs
  ht : S' t = some (.dic (dcC cs))
  ft : S t = none
  g : Gr [] S S'
  snd : PSnd C T
  bas : PBas C T
  len : ∀ p ∈ C, (T p.nm).length + misP C T ≤ 5000
theorem MW.keep {C : List Pr} {S S1 S2 : Sto} {t : Addr} {T : Mt} {cs : List (Str × Addr)} (m : MW C S S1 t T cs) (g : Gr [] S1 S2) : MW C S S2 t T cs := ⟨m.c.keep g, g _ _ (by simp) m.ht, m.ft, m.g.trans g, m.snd, m.bas, m.len⟩
theorem MW.add {C : List Pr} (ok : OkC C) {S S' : Sto} {t : Addr} {T : Mt} {cs : List (Str × Addr)} (m : MW C S S' t T cs) {p : Pr} (hp : p ∈ C) {a : Str} (ha : a ∈ p.avs) (mv : Mv C p.nm (true, a)) (hn : ¬ ("#" ++ a : Str) ∈ T p.nm) {ad : Addr} (hc : (p.nm, ad) ∈ cs) :
    MW C S (up S' ad (.lst ((T p.nm).map .str ++ [.str ("#" ++ a)]))) t (addT T p.nm ("#" ++ a)) cs := by
  have nd1 : (cs.map (·.1)).Nodup := by rw [m.c.nm]; exact asc_nodup ok.asc
  have lt := misP_lt hp ha hn
  refine ⟨⟨m.c.nm, m.c.ad, m.c.fr, fun c hc2 => ?_⟩, ?_, m.ft, m.g.set (m.c.fr _ hc), fun q hq k hk => ?_, fun q hq s hs i hi => ?_, fun q hq => ?_⟩
  · by_cases e : c.1 = p.nm
    · have := nodup_inj (·.1) nd1 hc2 hc e
      subst this
      rw [up_same]
      unfold addT
      rw [if_pos rfl]
      simp
    · have ne : c.2 ≠ ad := fun e2 => e (by rw [nodup_inj (·.2) m.c.ad hc2 hc e2])
      rw [up_ne ne]
      unfold addT
      rw [if_neg e]
      exact m.c.l c hc2
  · have : t ≠ ad := fun e => by have h1 := m.ht; have h2 := m.c.l _ hc; rw [← e, h1] at h2; cases h2
    rw [up_ne this]; exact m.ht
  · unfold addT at hk
    split at hk
    · rename_i e
      have e2 := ok.inj hq hp e
      subst e2
      rcases List.mem_append.mp hk with hk | hk
      · exact m.snd q hq k hk
      · rw [List.mem_singleton.mp hk]; exact ⟨(true, a), rfl, mv⟩
    · exact m.snd q hq k hk
  · have := m.bas q hq s hs i hi
    unfold addT
    split
    · rename_i e; rw [← e]; exact List.mem_append_left _ this
    · exact this
  · have h1 := m.len q hq
    unfold addT
    split
    · rename_i e
      have e2 := ok.inj hq hp e
      subst e2
      rw [List.length_append, List.length_singleton]
      have : misP C (addT T q.nm ("#" ++ a)) < misP C T := lt
      unfold addT at this
      omega
    · unfold addT at lt
      omega
def mtBody : Ss := match f_moving_table.body with
  | .cons _ (.cons _ (.cons (.wh _ b) _)) => b
  | _ => .nil
theorem mturn_w {C : List Pr} (hC : OkC C) {K : Nat} (hK : 8 ≤ K) {S S1 : Sto} {t : Addr} {T0 : Mt} {cs : List (Str × Addr)} {u3 u4 : Option D} {k : En} (m : MW C S S1 t T0 cs)
    (hQ : ∀ gr u3 u4 S2 T, MW C S S2 t T cs → (gr = false → T = T0 ∧ ∀ p ∈ C, ∀ k ∈ pasP C T0 p, k ∈ T0 p.nm) → (gr = true → misP C T < misP C T0) → k.nx [some (coreD C), some (.ref t), some (.bl gr), u3, u4] S2) :
    wpSs (gk (K - 1)) mtBody k [some (coreD C), some (.ref t), some (.bl true), u3, u4] S1 := by
  have hsz : sizeLine = 2 ^ 24 := rfl
  unfold mtBody f_moving_table
  simp_all only
  simp_all only
  refine walk_of (S := S) core_walk m.g fun chk hc => ?_
  refine pre_loop encP8 (fun pre ρ S' => ∃ T gr u3 u4, ρ = [some (coreD C), some (.ref t), some (.bl gr), u3, u4] ∧ MW C S S' t T cs ∧ (gr = false → T = T0 ∧ ∀ p ∈ pre, ∀ k ∈ pasP C T0 p, k ∈ T0 p.nm) ∧ (gr = true → misP C T < misP C T0)) C ?_ ?_ ⟨T0, false, u3, u4, rfl, m, fun _ => ⟨rfl, by simp⟩, by simp⟩
  · rintro pre p post e ρ S' X ⟨T1, gr, u3, u4, rfl, m1, f0, f1⟩ hX
    refine ⟨hc _ m1.g, ?_⟩
    have hp : p ∈ C := by rw [e]; simp
    obtain ⟨ad, hc1, hc2, hc3, hc4⟩ := m1.c.find hC hp
    simp! only
    simp_all only
    refine passed_w hC hp (by omega) m1.c m1.ht fun q S2 fq g2 h2 => ?_
    have nq : q ≠ ad := by rintro rfl; rw [hc3] at fq; cases fq
    refine walk_ofA (A := [ad]) (.inr ⟨q, rfl, h2⟩) (fun q' e => by cases e; simpa using nq) fun chk2 hk2 => ?_
    refine pre_loop D.str (fun pk ρ S' => Gr [ad] S2 S' ∧ ∃ T gr u4, ρ = [some (coreD C), some (.ref t), some (.bl gr), some (encP8 p), u4] ∧ MW C S S' t T cs ∧ (gr = false → (T = T0 ∧ ∀ p ∈ pre, ∀ k ∈ pasP C T0 p, k ∈ T0 p.nm) ∧ T1 = T0 ∧ ∀ k ∈ pk, k ∈ T0 p.nm) ∧ (gr = true → misP C T < misP C T0)) (pasP C T1 p) ?_ ?_ ⟨.refl, T1, gr, u4, rfl, m1.keep g2, fun h => ⟨f0 h, (f0 h).1, by simp⟩, f1⟩
    · rintro pk k qk ek ρ S3 Y ⟨g3, T, gr2, u4', rfl, m3, f2, f3⟩ hY
      refine ⟨hk2 _ g3, ?_⟩
      obtain ⟨a, ha, hka, mv⟩ := pas_snd hC m1.snd hp (k := k) (by rw [ek]; simp)
      have hl3 := m3.c.l _ hc1
      have hlen := m3.len p hp
      have hgd : getD (dcC cs) (.inr p.nm) = some (.ref ad) := hc2
      unfold encP8
      simp! only
      simp_all only [pr_0, m3.ht, keyOf, hgd, hl3]
      refine inL_strs ?_
      by_cases hm : k ∈ T p.nm
      · rw [decide_eq_true hm]
        simp! only
        refine hY _ _ ⟨g3, T, gr2, _, rfl, m3, fun h => ⟨(f2 h).1, (f2 h).2.1, fun z hz => ?_⟩, f3⟩
        rcases List.mem_append.mp hz with hz | hz
        · exact (f2 h).2.2 z hz
        · rw [List.mem_singleton.mp hz, ← (f2 h).1.1]; exact hm
      · rw [decide_eq_false hm]
        simp! only
        simp_all only [pr_0, m3.ht, keyOf, hgd, rcv, bmT, bmW, hl3]
        subst hka
        refine ⟨by rw [List.length_map]; omega, ?_⟩
        simp_all only
        have lt := misP_lt hp ha hm
        refine hY _ _ ⟨g3.trans (.up (by simp)), _, true, _, rfl, m3.add hC hp ha mv hm hc1, by simp, fun _ => ?_⟩
        cases gr2 with
        | false => rw [← (f2 rfl).1.1]; exact lt
        | true => exact Nat.lt_trans lt (f3 rfl)
    · rintro ρ S3 ⟨g3, T, gr2, u4', rfl, m3, f2, f3⟩
      refine ⟨hk2 _ g3, ?_⟩
      refine hX _ _ ⟨T, gr2, _, _, rfl, m3, fun h => ⟨(f2 h).1.1, fun p2 hp2 z hz => ?_⟩, f3⟩
      rcases List.mem_append.mp hp2 with hp2 | hp2
      · exact (f2 h).1.2 p2 hp2 z hz
      · rw [List.mem_singleton.mp hp2] at hz ⊢
        rw [(f2 h).2.1] at f2
        rw [← (f2 h).2.1] at hz
        exact (f2 h).2.2 z hz
  · rintro ρ S' ⟨T1, gr, u3, u4, rfl, m1, f0, f1⟩
    refine ⟨hc _ m1.g, ?_⟩
    exact hQ gr _ _ _ _ m1 f0 f1
theorem mwh_w {C : List Pr} (hC : OkC C) {K : Nat} (hK : 8 ≤ K) {S : Sto} {t : Addr} {cs : List (Str × Addr)} {k : En}
    (hQ : ∀ u3 u4 S2 T, MW C S S2 t T cs → (∀ p ∈ C, ∀ k ∈ pasP C T p, k ∈ T p.nm) → k.nx [some (coreD C), some (.ref t), some (.bl false), u3, u4] S2) :
    ∀ (n : Nat) (T : Mt) (S1 : Sto) u3 u4, misP C T ≤ n → MW C S S1 t T cs → whW (wp (gk (K - 1)) (.var 2)).2 (wpSs (gk (K - 1)) mtBody) k (n + 2) [some (coreD C), some (.ref t), some (.bl true), u3, u4] S1 := by
  intro n
  induction n with
  | zero =>
    intro T S1 u3 u4 hn m
    unfold whW
    simp! only
    refine mturn_w hC hK m fun gr u3 u4 S2 T2 m2 f0 f1 => ?_
    cases gr with
    | true => have := f1 rfl; omega
    | false =>
      show whW _ _ _ _ _ _
      unfold whW
      simp! only
      obtain ⟨rfl, h⟩ := f0 rfl
      exact hQ _ _ _ _ m2 h
  | succ n ih =>
    intro T S1 u3 u4 hn m
    unfold whW
    simp! only
    refine mturn_w hC hK m fun gr u3 u4 S2 T2 m2 f0 f1 => ?_
    cases gr with
    | true => have := f1 rfl; exact ih T2 S2 u3 u4 (by omega) m2
    | false =>
      show whW _ _ _ _ _ _
      unfold whW
      simp! only
      obtain ⟨rfl, h⟩ := f0 rfl
      exact hQ _ _ _ _ m2 h
theorem mtab_w {C : List Pr} (hC : OkC C) {K : Nat} (hK : 8 ≤ K) {S : Sto} {Q : PK D} (hQ : ∀ t T cs S1, MW C S S1 t T cs → (∀ p ∈ C, ∀ i ∈ p.all, keyI i ∈ T p.nm ↔ Mv C p.nm i) → Q (.ref t) S1) : cl K "moving_table" [coreD C] S Q := by
  refine lev_run (d := f_moving_table) rfl (by omega) ⟨rfl, ?_⟩
  show wpSs (gk (K - 1)) _ (enR Q) [some (coreD C), none, none, none, none] S
  have hsz : sizeLine = 2 ^ 24 := rfl
  have h6 := hC.len6
  have eb : mtBody = (match f_moving_table.body with
    | .cons _ (.cons _ (.cons (.wh _ b) _)) => b
    | _ => .nil) := rfl
  unfold f_moving_table at eb ⊢
  simp only at eb
  rw [← eb]
  simp_all only
  refine walk_of (S := S) core_walk .refl fun chk hc => ?_
  refine pre_dc encP8 (fun pre acc S' => ∃ cs, acc = dcC cs ∧ Cs S S' (pre.map (·.nm)) (ofN C keysP) cs ∧ Gr [] S S') C ?_ ?_ ⟨[], rfl, .nil, .refl⟩
  · rintro pre p post e acc S' X ⟨cs, rfl, hcs, g⟩ hX
    refine ⟨hc _ g, ?_⟩
    have hp : p ∈ C := by rw [e]; simp
    have hpl : pre.length < C.length := by rw [e]; simp
    unfold encP8
    simp! only [pr_0]
    refine assigned_w hC hp (by omega) fun q S2 fq g2 h2 => ?_
    refine hX (.str p.nm) (.ref q) (.inr p.nm) S2 rfl (by rw [dcC_len, hcs.len, List.length_map]; omega) ⟨cs ++ [(p.nm, q)], ?_, ?_, g.trans g2⟩
    · refine dcC_put ?_
      rw [hcs.nm]
      have nd := asc_nodup hC.asc
      rw [e, List.map_append, List.nodup_append] at nd
      exact fun hin => nd.2.2 _ hin _ (by simp) rfl
    · rw [List.map_append]
      exact hcs.snoc g g2 fq (by rw [hC.ofN keysP hp]; exact h2)
  · rintro acc S' ⟨cs, rfl, hcs, g⟩
    refine ⟨hc _ g, ?_⟩
    intro t ht
    have gt : Gr [] S' (up S' t (.dic (dcC cs))) := .new ht
    have m : MW C S (up S' t (.dic (dcC cs))) t (ofN C keysP) cs := by
      refine ⟨hcs.keep gt, up_same, g.free ht, g.trans gt, fun p hp k hk => ?_, fun p hp s hs i hi => ?_, fun p hp => ?_⟩
      · rw [hC.ofN keysP hp] at hk
        obtain ⟨i, hi, rfl⟩ := List.mem_map.mp hk
        obtain ⟨s, hs, hi⟩ := List.mem_flatMap.mp hi
        exact ⟨i, rfl, .base hp hs hi⟩
      · rw [hC.ofN keysP hp]
        exact List.mem_map.mpr ⟨i, List.mem_flatMap.mpr ⟨s, hs, hi⟩, rfl⟩
      · rw [hC.ofN keysP hp]
        have h1 := asgs_len (hC.ok p hp) (l := p.stm) fun t ht => ht
        have h2 := (hC.ok p hp).sl
        have h3 := misP_le (C := C) (T := ofN C keysP)
        have h4 := uni_len hC
        have h5 : (keysP p).length = (p.stm.flatMap asgI).length := by unfold keysP; rw [List.length_map]
        omega
    generalize up S' t (.dic (dcC cs)) = S1 at m ⊢
    simp_all only
    rw [wpSs_cons]
    refine ⟨_, mwh_w hC hK (fun u3 u4 S2 T m2 hcl => ?_) _ _ S1 none none (Nat.le_refl _) m⟩
    dsimp only
    simp_all only
    exact ret_ok (hQ t T cs S2 m2 (prog_mv hC m2.snd m2.bas hcl))

theorem mitems_w {C : List Pr} (hC : OkC C) {p : Pr} (hp : p ∈ C) {K : Nat} (hK : 3 ≤ K) {S0 S : Sto} {t : Addr} {T : Mt} {cs : List (Str × Addr)} (m : MW C S0 S t T cs) {Q : PK D} (hQ : ∀ q S1, S q = none → Gr [] S S1 → S1 q = some (.lst ((p.its.filter fun i => decide (keyI i ∈ T p.nm)).map encI)) → Q (.ref q) S1) : cl K "moving_items" [encP8 p, .ref t] S Q := by
  refine lev_run (d := f_moving_items) rfl (by omega) ⟨rfl, ?_⟩
  show wpSs (gk (K - 1)) _ (enR Q) [some (encP8 p), some (.ref t), none] S
  have hsz : sizeLine = 2 ^ 24 := rfl
  have o := hC.ok p hp
  obtain ⟨ad, hc1, hc2, hc3, hc4⟩ := m.c.find hC hp
  unfold f_moving_items encP8
  simp_all only [pr_1, walkC]
  refine lc_fm encI (fun i => if decide (keyI i ∈ T p.nm) = true then some (encI i) else none) trivial p.its [] ?_ (by rw [o.il]; simp [hsz]) ?_
  · intro i hi X hX
    have hil := o.sh i (o.it i hi)
    refine variable_of_w (by omega) (by omega) ?_
    simp! only [pr_0, m.ht, keyOf, hc2, hc3]
    refine inL_strs ?_
    split
    · rename_i e; rw [if_pos e] at hX; exact hX
    · rename_i e; rw [if_neg e] at hX; exact hX
  · intro q hq
    rw [fm_if, List.nil_append]
    exact ret_ok (hQ q _ hq (.new hq) up_same)
theorem moving_of_w {C : List Pr} (hC : OkC C) {p : Pr} (hp : p ∈ C) {K : Nat} (hK : 10 ≤ K) {S : Sto} {Q : PK D} (hQ : ∀ S1, Gr [] S S1 → Q (.tup ((mvF C p).map .str)) S1) : cl K "moving_of" [coreD C, .str p.nm] S Q := by
  refine lev_run (d := f_moving_of) rfl (by omega) ⟨rfl, ?_⟩
  show wpSs (gk (K - 1)) _ (enR Q) [some (coreD C), some (.str p.nm), none] S
  have hsz : sizeLine = 2 ^ 24 := rfl
  have o := hC.ok p hp
  unfold f_moving_of
  simp_all only
  refine proc_named_w hC hp (by omega) fun S1 g1 => ?_
  refine mtab_w hC (by omega) fun t T cs S2 m2 hm => ?_
  refine mitems_w hC hp (by omega) m2 fun q S3 fq g3 h3 => ?_
  have ef : (p.its.filter fun i => decide (keyI i ∈ T p.nm)).map (·.2) = mvF C p := by
    unfold mvF
    congr 1
    apply List.filter_congr
    intro i hi
    apply decide_eq_decide.mpr
    exact hm p hp i (o.it i hi)
  have hfl := List.length_filter_le (fun i => decide (keyI i ∈ T p.nm)) p.its
  rw [o.il] at hfl
  simp! only [walkC, h3]
  refine lc_fm encI (fun i => some (.str i.2)) h3 _ [] ?_ (by simp only [List.length_nil]; omega) ?_
  · rintro ⟨b, x⟩ hi X hX
    cases b <;> · unfold encI; simp! only; exact hX
  · intro q4 hq4
    refine ret_ok ?_
    rw [List.nil_append, List.filterMap_eq_map']
    have := hQ _ ((((g1.trans m2.g).trans g3)).trans (Gr.new (o := .lst (((p.its.filter fun i => decide (keyI i ∈ T p.nm)).map fun i => D.str i.2))) hq4))
    rw [← ef, List.map_map] at this
    exact this
theorem nests_of_w {C : List Pr} (hC : OkC C) {p : Pr} (hp : p ∈ C) {K : Nat} (hK : 6 ≤ K) {S : Sto} {Q : PK D} (hQ : ∀ S1, Gr [] S S1 → Q (.tup (([] :: nstB (numB p.body 1).1 []).map encN)) S1) : cl K "nests_of" [coreD C, .str p.nm] S Q := by
  refine lev_run (d := f_nests_of) rfl (by omega) ⟨rfl, ?_⟩
  show wpSs (gk (K - 1)) _ (enR Q) [some (coreD C), some (.str p.nm)] S
  have hsz : sizeLine = 2 ^ 24 := rfl
  have o := hC.ok p hp
  unfold f_nests_of
  simp_all only
  refine proc_named_w hC hp (by omega) fun S1 g1 => ?_
  unfold encP8
  simp! only [pr_8]
  refine numbered_w 4 3 p.body (by omega) (by omega) o.ok o.ln fun S2 g2 => ?_
  simp! only
  have nk := numB_ok (p := 1) o.ok
  have h1 := stmB_len nk.1
  have h2 : (numB p.body 1).1.length * sN 3 ≤ 4 * sN 3 := Nat.mul_le_mul_right _ (by rw [nk.2]; exact o.ln)
  have h3 : sN 3 = 585 := rfl
  refine nestsin_w (by omega) nk.1 (by rw [nk.2]; exact o.ln) (by omega) fun S3 g3 => ?_
  exact ret_ok (hQ S3 ((g1.trans g2).trans g3))

theorem ife_ev {g : G} {c : E} {a b : Ss} {k : En} {ρ : Ev} {S : Sto} (t : Bool) (h : ∀ Q : Bool → Sto → Prop, Q t S → (wp g c).2 ρ S Q) (hk : if t = true then wpSs g a k ρ S else wpSs g b k ρ S) : wpS g (.ife c a b) k ρ S := by
  rw [wpS]
  exact h _ hk
theorem and_ev3 {g : G} {e f c : E} {ρ : Ev} {S : Sto} (b1 b2 b3 : Bool) (h1 : ∀ Q : Bool → Sto → Prop, Q b1 S → (wp g e).2 ρ S Q) (h2 : b1 = true → ∀ Q : Bool → Sto → Prop, Q b2 S → (wp g f).2 ρ S Q) (h3 : b1 = true → b2 = true → ∀ Q : Bool → Sto → Prop, Q b3 S → (wp g c).2 ρ S Q) :
    ∀ Q : Bool → Sto → Prop, Q (b1 && (b2 && b3)) S → (wp g (.andE (.cons e (.cons f (.cons c .nil))))).2 ρ S Q := by
  intro Q hQ
  rw [wp, wpAnd]
  refine h1 _ ?_
  cases b1 with
  | false => exact hQ
  | true =>
    show (wpAnd g (.cons f (.cons c .nil))).2 ρ S Q
    rw [wpAnd]
    refine h2 rfl _ ?_
    cases b2 with
    | false => exact hQ
    | true =>
      show (wpAnd g (.cons c .nil)).2 ρ S Q
      rw [wpAnd]
      exact h3 rfl rfl _ hQ
def raw2 (p : Pr) : List Str := (p.stm.flatMap asgI).map (·.2)
theorem lchanged_w {C : List Pr} (hC : OkC C) {p : Pr} (hp : p ∈ C) {K : Nat} (hK : 6 ≤ K) {S : Sto} {Q : PK D} (hQ : ∀ q S1, S q = none → Gr [] S S1 → S1 q = some (.lst ((raw2 p).map .str)) → Q (.ref q) S1) : cl K "_law_changed_by" [encP8 p] S Q := by
  refine lev_run (d := f__law_changed_by) rfl (by omega) ⟨rfl, ?_⟩
  show wpSs (gk (K - 1)) _ (enR Q) [some (.tup (prL p)), none, none, none, none] S
  have hsz : sizeLine = 2 ^ 24 := rfl
  have o := hC.ok p hp
  unfold f__law_changed_by
  simp_all only
  intro fo hfo
  have g0 : Gr [] S (up S fo (.lst [])) := .new hfo
  simp_all only [pr_8]
  refine lst_w hC hp (by omega) fun q S1 hq g1 h1 => ?_
  have hqf : fo ≠ q := by rintro rfl; rw [up_same] at hq; cases hq
  have hf1 := g1 _ _ (by simp) up_same
  simp! only [walkC, h1]
  refine pre_loop (encS false) (fun pre ρ S' => (∃ fo, ∃ u v w : Option D, ρ = [some (.tup (prL p)), some (.ref fo), u, v, w] ∧ S' fo = some (.lst (((pre.flatMap asgI).map (·.2)).map .str)) ∧ S fo = none ∧ fo ≠ q) ∧ Gr [] S S' ∧ S' q = some (.lst (p.stm.map (encS false)))) p.stm ?_ ?_ ⟨⟨fo, _, _, _, rfl, hf1, hfo, hqf⟩, g0.trans g1, h1⟩
  · rintro pre s post e ρ S' X ⟨⟨fo, u, v, w, rfl, h, ffo, nq⟩, g, hq'⟩ hX
    refine ⟨hq', ?_⟩
    have hin : s ∈ p.stm := by rw [e]; simp
    have hs := o.st hin
    have hpl := asg_pre o e
    have ha2 := asgI_len o hin
    have keep : ∀ {ρ' : Ev} {S2 : Sto} (fo' : Addr), (∃ u v w : Option D, ρ' = [some (.tup (prL p)), some (.ref fo'), u, v, w]) → Gr [fo] S' S2 → S2 fo' = some (.lst (((pre.flatMap asgI).map (·.2)).map .str ++ ((asgI s).map (·.2)).map .str)) → (fo' = fo ∨ S' fo' = none) → X ρ' S2 := fun fo' ⟨u, v, w, h1⟩ h2 h4 h5 => by
      refine hX _ _ ⟨⟨fo', u, v, w, h1, by rw [h4]; simp, ?_, ?_⟩, g.fresh1 ffo h2, h2 _ _ (by simpa using Ne.symm nq) hq'⟩
      · rcases h5 with rfl | h5
        · exact ffo
        · exact g.free h5
      · rcases h5 with rfl | h5
        · exact nq
        · rintro rfl; rw [hq'] at h5; cases h5
    have none2 : asgI s = [] → ∀ u v w, X [some (.tup (prL p)), some (.ref fo), u, v, w] S' := fun e0 u v w => keep fo ⟨u, v, w, rfl⟩ .refl (by rw [h, e0]; simp) (.inl rfl)
    cases s with
    | set x i ev =>
      simp! only [encS]
      simp_all only [eq_self]
      simp_all only
      refine walk_of (S := S') (ds := [setD x i ev].map id) (.inl rfl) .refl fun chk2 hk2 => ?_
      refine lc_fm id (fun z => some (.str x)) (hk2 _ .refl) [setD x i ev] [] ?_ (by simp [hsz]) ?_
      · intro z hz Y hY
        rw [List.mem_singleton.mp hz]
        unfold setD
        exact ⟨rfl, hY⟩
      intro q4 hq4
      have h4 := (Gr.new (A := []) (o := .lst ([] ++ [setD x i ev].filterMap fun z => some (.str x))) hq4) _ _ (by simp) h
      simp! only [h4, up_same]
      refine ⟨by simp only [List.length_map, List.filterMap_cons, List.filterMap_nil, List.nil_append, List.length_cons, List.length_nil]; omega, ?_⟩
      intro q5 hq5
      have f5 : S' q5 = none := (Gr.new (A := []) hq4).free hq5
      refine keep q5 ⟨_, _, _, rfl⟩ ((Gr.new hq4).trans (.new hq5)) ?_ (.inr f5)
      rw [up_same] <;> rfl
    | pop x a =>
      simp! only [encS]
      simp_all only [k_pop_set]
      simp_all only [eq_self]
      simp_all only
      intro q4 hq4
      have h4 := (Gr.new (A := []) (o := .lst [.str x, .str a]) hq4) _ _ (by simp) h
      simp! only [h4, up_same]
      refine ⟨by simp only [List.length_map, List.length_cons, List.length_nil]; omega, ?_⟩
      intro q5 hq5
      have f5 : S' q5 = none := (Gr.new (A := []) hq4).free hq5
      refine keep q5 ⟨_, _, _, rfl⟩ ((Gr.new hq4).trans (.new hq5)) ?_ (.inr f5)
      rw [up_same] <;> rfl
    | push n a =>
      simp! only [encS]
      simp_all only [k_push_set]
      simp_all only [k_push_pop]
      simp_all only [eq_self]
      simp_all only [rcv, bmT, bmW, h]
      refine ⟨by simp only [List.length_map]; omega, keep fo ⟨_, _, _, rfl⟩ (.up (by simp)) ?_ (.inl rfl)⟩
      rw [up_same] <;> rfl
    | call f as ts n =>
      simp! only [encS]
      simp_all only [k_call_set]
      simp_all only [k_call_pop]
      simp_all only [k_call_push]
      simp_all only [eq_self]
      simp_all only [bfW]
      have hts : ts.length ≤ 2 := by simpa [asgI] using ha2
      first | refine ⟨by simp only [List.length_map]; omega, ?_⟩ | skip
      intro q4 hq4
      have h4 := (Gr.new (A := []) (o := .lst (ts.map .str)) hq4) _ _ (by simp) h
      simp! only [h4, up_same]
      refine ⟨by simp only [List.length_map]; omega, ?_⟩
      intro q5 hq5
      have f5 : S' q5 = none := (Gr.new (A := []) hq4).free hq5
      refine keep q5 ⟨_, _, _, rfl⟩ ((Gr.new hq4).trans (.new hq5)) ?_ (.inr f5)
      rw [up_same]
      simp [asgI]
    | store a j =>
      simp! only [encS]
      simp_all only [k_store_set]
      simp_all only [k_store_pop]
      simp_all only [k_store_push]
      simp_all only [k_store_call]
      exact none2 rfl _ _ _
    | pause i =>
      simp! only [encS]
      simp_all only [k_pause_set]
      simp_all only [k_pause_pop]
      simp_all only [k_pause_push]
      simp_all only [k_pause_call]
      exact none2 rfl _ _ _
    | ife i n A C =>
      simp! only [encS]
      simp_all only [k_if_set]
      simp_all only [k_if_pop]
      simp_all only [k_if_push]
      simp_all only [k_if_call]
      exact none2 rfl _ _ _
    | wh i n A p2 =>
      simp! only [encS]
      simp_all only [k_while_set]
      simp_all only [k_while_pop]
      simp_all only [k_while_push]
      simp_all only [k_while_call]
      exact none2 rfl _ _ _
  · rintro ρ S' ⟨⟨fo, u, v, w, rfl, h, ffo, nq⟩, g, hq'⟩
    refine ⟨hq', ?_⟩
    simp_all only
    exact ret_ok (hQ fo S' ffo g h)
/-! the law's table -/
def encPr (z : Pair) : D := .tup [.str z.1, .str z.2]
theorem encPr_inj {a b : Pair} (h : encPr a = encPr b) : a = b := by
  unfold encPr at h
  simp only [D.tup.injEq, List.cons.injEq, D.str.injEq, and_true] at h
  exact Prod.ext h.1 h.2
theorem pr_dats (M : List Pair) : dats (M.map encPr) = true := dats_iff.mpr fun d hd => by
  obtain ⟨z, _, rfl⟩ := List.mem_map.mp hd
  rfl
open Classical in
theorem inL_prs {z : Pair} {M : List Pair} {Q : Bool → Prop} (h : Q (decide (z ∈ M))) : inL (encPr z) (M.map encPr) Q := by
  refine inL_dat (by rfl) (pr_dats M) (Nat.le_trans (Nat.min_le_right _ _) (by show dep (encPr z) ≤ 63; unfold encPr; simp [dep, deps])) ?_
  have e : decide (encPr z ∈ M.map encPr) = decide (z ∈ M) := by
    apply decide_eq_decide.mpr
    constructor
    · intro hm
      obtain ⟨y, hy, e⟩ := List.mem_map.mp hm
      rw [← encPr_inj e]; exact hy
    · intro hm
      exact List.mem_map.mpr ⟨z, hm, rfl⟩
  rw [e]; exact h
theorem hans_pre {C : List Pr} (hC : OkC C) {p : Pr} (hp : p ∈ C) (M : List Pair) : ∀ {l : List St}, (∀ s ∈ l, s ∈ p.stm) → (l.flatMap (hanS C M p.nm)).length ≤ 3 * l.length
  | [], _ => by simp
  | s :: l, hl => by
    have h2 := hans_pre hC hp M (l := l) fun t ht => hl t (by simp [ht])
    have h1 : (hanS C M p.nm s).length ≤ 3 := by
      have hs := hl s (by simp)
      cases s with
      | call f as ts n =>
        obtain ⟨q, hq, e, hk, h3, _, _⟩ := hC.callee hp hs
        refine Nat.le_trans (List.length_filterMap_le _ _) ?_
        rw [List.length_zip]
        omega
      | _ => simp [hanS]
    rw [List.flatMap_cons, List.length_append, List.length_cons]
    omega
theorem lhanded_w {C : List Pr} (hC : OkC C) {K : Nat} (hK : 6 ≤ K) {S : Sto} {mo : Addr} {M : List Pair} (hM : S mo = some (.lst (M.map encPr))) {Q : PK D} (hQ : ∀ q S1, S q = none → Gr [] S S1 → S1 q = some (.lst ((handed C M).map encPr)) → Q (.ref q) S1) : cl K "_law_handed_on" [coreD C, .ref mo] S Q := by
  refine lev_run (d := f__law_handed_on) rfl (by omega) ⟨rfl, ?_⟩
  show wpSs (gk (K - 1)) _ (enR Q) [some (coreD C), some (.ref mo), none, none, none, none, none, none] S
  have hsz : sizeLine = 2 ^ 24 := rfl
  have h6 := hC.len6
  unfold f__law_handed_on
  simp_all only
  intro fo hfo
  have g0 : Gr [] S (up S fo (.lst [])) := .new hfo
  simp_all only
  refine walk_of (S := S) core_walk g0 fun chk hc => ?_
  refine pre_loop encP8 (fun pre ρ S' => (∃ u3 u4 u5 u6 u7 : Option D, ρ = [some (coreD C), some (.ref mo), some (.ref fo), u3, u4, u5, u6, u7]) ∧ Gr [] S S' ∧ S' fo = some (.lst ((pre.flatMap fun p => p.stm.flatMap (hanS C M p.nm)).map encPr)) ∧ (pre.flatMap fun p => p.stm.flatMap (hanS C M p.nm)).length ≤ 7020 * pre.length) C ?_ ?_ ⟨⟨_, _, _, _, _, rfl⟩, g0, up_same, by simp⟩
  · rintro pre p post e ρ S' X ⟨⟨u3, u4, u5, u6, u7, rfl⟩, g, h, hlen⟩ hX
    refine ⟨hc _ g, ?_⟩
    have hp : p ∈ C := by rw [e]; simp
    have hpre : pre.length ≤ 6 := by have := congrArg List.length e; simp at this; omega
    have o := hC.ok p hp
    have osl := o.sl
    generalize hB : (pre.flatMap fun p => p.stm.flatMap (hanS C M p.nm)) = B at h hlen
    unfold encP8
    simp! only
    simp_all only [pr_8]
    refine lst_w hC hp (by omega) fun q S1 hq g1 h1 => ?_
    have hqf : q ≠ fo := by rintro rfl; rw [h] at hq; cases hq
    have hf1 := g1 _ _ (by simp) h
    refine walk_ofA (A := [fo]) (.inr ⟨q, rfl, h1⟩) (fun q' e => by cases e; simpa using hqf) fun chk2 hk2 => ?_
    refine pre_loop (encS false) (fun ps ρ S' => (∃ u4 u5 u6 u7 : Option D, ρ = [some (coreD C), some (.ref mo), some (.ref fo), some (.tup (prL p)), u4, u5, u6, u7]) ∧ Gr [fo] S1 S' ∧ Gr [] S S' ∧ S' fo = some (.lst ((B ++ ps.flatMap (hanS C M p.nm)).map encPr))) p.stm ?_ ?_ ⟨⟨_, _, _, _, rfl⟩, .refl, g.trans g1, by rw [hf1]; simp⟩
    · rintro ps s qs es ρ S2 Y ⟨⟨u4, u5, u6, u7, rfl⟩, g2, g2', h2⟩ hY
      refine ⟨hk2 _ g2, ?_⟩
      have hin : s ∈ p.stm := by rw [es]; simp
      have hpl : (ps.flatMap (hanS C M p.nm)).length ≤ 7020 := by
        have h3 := hans_pre hC hp M (l := ps) fun t ht => by rw [es]; simp [ht]
        have h4 := congrArg List.length es
        simp only [List.length_append, List.length_cons] at h4
        omega
      cases hb : isCall s with
      | false =>
        have e0 : hanS C M p.nm s = [] := by cases s <;> first | rfl | cases hb
        obtain ⟨l, hl⟩ := encS_hd false s
        simp! only
        simp_all only [hl, kd_call, hb]
        exact hY _ _ ⟨⟨_, _, _, _, rfl⟩, g2, g2', by rw [h2]; simp [e0]⟩
      | true =>
        cases s with
        | call f as ts n =>
          obtain ⟨q2, hq2, rfl, hk, hl3, harr, _⟩ := hC.callee hp hin
          have o2 := hC.ok q2 hq2
          have e1 : encS false (.call q2.nm as ts n) = .tup [.str "call", .str q2.nm, .tup (as.map encA), .tup (ts.map .str)] := by rw [encS] <;> rfl
          simp! only [e1]
          simp_all only [eq_self]
          simp_all only
          refine walk_of (S := S2) core_walk .refl fun chk3 hk3 => ?_
          refine lc_fm encP8 (fun q => if decide (q.nm = q2.nm) = true then some (encP8 q) else none) (hk3 _ .refl) C [] ?_ (by simp; omega) ?_
          · intro q _ X hX
            unfold encP8
            simp! only [pr_0]
            split
            · rename_i e; rw [if_pos e] at hX; exact hX
            · rename_i e; rw [if_neg e] at hX; exact hX
          intro q4 hq4
          have ed : ([] ++ [q2].map encP8 : List D) = [.tup (prL q2)] := rfl
          rw [fm_if, hC.flt hq2, ed]
          have g4 : Gr [] S2 (up S2 q4 (.lst [.tup (prL q2)])) := .new hq4
          generalize up S2 q4 (.lst [.tup (prL q2)]) = S4 at g4 ⊢
          have h4 := g4 _ _ (by simp) h2
          simp! only [pr_1]
          simp_all only [bfW]
          refine ⟨⟨by rw [List.length_map, o2.il]; omega, by rw [List.length_map, o2.il]; omega⟩, ?_⟩
          have il3 : ((q2.its.map encI).length : Int).toNat = 3 := by rw [List.length_map, o2.il]; rfl
          rw [il3]
          unfold rngD
          obtain ⟨zs, hzs⟩ : ∃ zs, zs = q2.its.zip as := ⟨_, rfl⟩
          have zl : zs.length = 3 := by rw [hzs, List.length_zip, o2.il, hl3]; rfl
          refine pre_loop (fun i : Nat => D.int (0 + (i : Int))) (fun pz ρ S' => (∃ u6 : Option D, ρ = [some (coreD C), some (.ref mo), some (.ref fo), some (.tup (prL p)), some (.tup [.str "call", .str q2.nm, .tup (as.map encA), .tup (ts.map .str)]), some (.tup (q2.its.map encI)), u6, u7]) ∧ Gr [fo] S4 S' ∧ Gr [] S S' ∧ S' fo = some (.lst ((B ++ ps.flatMap (hanS C M p.nm) ++ (zs.take pz.length).filterMap (hanA M p.nm q2.nm)).map encPr))) (List.range 3) ?_ ?_ ⟨⟨_, rfl⟩, .refl, g2'.trans g4, by rw [h4]; simp⟩
          · rintro pz k qz ez ρ S5 Z ⟨⟨u6, rfl⟩, g5, g5', h5⟩ hZ
            refine ⟨trivial, ?_⟩
            obtain ⟨k3, kl⟩ := range_mid ez
            rw [← kl] at h5
            have hzk : k < zs.length := by omega
            have hz : zs[k] ∈ zs := List.getElem_mem hzk
            have ik : k < q2.its.length := by rw [o2.il]; exact k3
            have ak : k < as.length := by omega
            have ezk : zs[k] = (q2.its[k], as[k]) := by simp only [hzs, List.getElem_zip]
            have htk : zs.take (k + 1) = zs.take k ++ [zs[k]] := by rw [List.take_succ_eq_append_getElem hzk]
            have fin : ∀ {S6 : Sto} u6, Gr [fo] S5 S6 → S6 fo = some (.lst ((B ++ ps.flatMap (hanS C M p.nm) ++ (zs.take k).filterMap (hanA M p.nm q2.nm)).map encPr ++ ((hanA M p.nm q2.nm (zs[k])).toList).map encPr)) → Z [some (coreD C), some (.ref mo), some (.ref fo), some (.tup (prL p)), some (.tup [.str "call", .str q2.nm, .tup (as.map encA), .tup (ts.map .str)]), some (.tup (q2.its.map encI)), u6, u7] S6 := fun u6 g6 h6 => by
              refine hZ _ _ ⟨⟨u6, rfl⟩, g5.trans g6, g5'.fresh1 hfo g6, ?_⟩
              rw [h6, List.length_append, List.length_singleton, ← kl, htk, List.filterMap_append]
              cases hh : hanA M p.nm q2.nm zs[k] <;> simp [hh]
            have hM5 := g5' _ _ (by simp) hM
            have ai : atI (q2.its.map encI) (0 + (k : Int)) = some (encI q2.its[k]) := by rw [atI_nat (by rw [List.length_map]; exact ik), List.getElem_map]
            have aa : atI (as.map encA) (0 + (k : Int)) = some (encA as[k]) := by rw [atI_nat (by rw [List.length_map]; exact ak), List.getElem_map]
            have hta : ((zs.take k).filterMap (hanA M p.nm q2.nm)).length ≤ 3 := by
              refine Nat.le_trans (List.length_filterMap_le _ _) ?_
              rw [List.length_take]; omega
            rw [ezk] at fin
            generalize q2.its[k] = it at ai fin
            obtain ⟨b, y⟩ := it
            obtain ⟨l, hl, hl1⟩ : ∃ l, encI (b, y) = .tup l ∧ atI l 1 = some (.str y) := by cases b <;> exact ⟨_, rfl, rfl⟩
            rw [hl] at ai
            cases har : as[k] with
            | sub n2 =>
              rw [har] at aa fin
              simp! only
              rw [wpSs_cons]
              refine ife_ev (false && (true && true)) (and_ev3 false true true (fun Q hQ => ?_) (fun h => by cases h) (fun h => by cases h)) ?_
              · simp! only [aa, encA, k_minus_array]
                exact hQ
              · simp! only [Bool.false_and]
                exact fin _ .refl (by rw [h5]; simp [hanA])
            | arr a =>
              rw [har] at aa fin
              simp! only
              rw [wpSs_cons]
              refine ife_ev (true && (decide ((q2.nm, y) ∈ M) && !decide ((p.nm, a) ∈ M))) (and_ev3 true (decide ((q2.nm, y) ∈ M)) (!decide ((p.nm, a) ∈ M)) (fun Q hQ => ?_) (fun _ Q hQ => ?_) (fun _ _ Q hQ => ?_)) ?_
              · simp! only [aa, encA, eq_self]
                exact hQ
              · simp! only [ai, hl1, hM5]
                exact inL_prs (z := (q2.nm, y)) hQ
              · simp! only [aa, encA, pr_0, hM5]
                exact inL_prs (z := (p.nm, a)) hQ
              · by_cases hc : (q2.nm, y) ∈ M ∧ ¬ (p.nm, a) ∈ M
                · rw [decide_eq_true hc.1, decide_eq_false hc.2]
                  simp! only [Bool.and_self]
                  simp_all only [aa, encA, pr_0, rcv, bmT, bmW, h5]
                  refine ⟨by simp only [List.length_map, List.length_append]; omega, ?_⟩
                  refine fin _ (.up (by simp)) ?_
                  rw [up_same]
                  simp [hanA, hc.1, hc.2, encPr]
                · have e0 : (true && (decide ((q2.nm, y) ∈ M) && !decide ((p.nm, a) ∈ M))) = false := by
                    by_cases c1 : (q2.nm, y) ∈ M
                    · have c2 : (p.nm, a) ∈ M := Classical.byContradiction fun c => hc ⟨c1, c⟩
                      simp [c2]
                    · simp [c1]
                  rw [e0]
                  simp! only
                  refine fin _ .refl ?_
                  have e1 : hanA M p.nm q2.nm ((b, y), .arr a) = none := if_neg hc
                  rw [h5, e1]
                  simp
          · rintro ρ S5 ⟨⟨u6, rfl⟩, g5, g5', h5⟩
            refine ⟨trivial, ?_⟩
            have e0 : hanS C M p.nm (.call q2.nm as ts n) = zs.filterMap (hanA M p.nm q2.nm) := by simp only [hanS]; rw [hC.its hq2, hzs]
            refine hY _ _ ⟨⟨_, _, _, _, rfl⟩, (g2.trans (g4.mono (by simp))).trans g5, g5', ?_⟩
            rw [h5, List.length_range, ← zl, List.take_length, List.flatMap_append, List.flatMap_cons, List.flatMap_nil, List.append_nil, e0, List.append_assoc]
        | _ => cases hb
    · rintro ρ S2 ⟨⟨u4, u5, u6, u7, rfl⟩, g2, g2', h2⟩
      refine ⟨hk2 _ g2, ?_⟩
      refine hX _ _ ⟨⟨_, _, _, _, _, rfl⟩, g2', ?_, ?_⟩
      · rw [h2, List.flatMap_append, List.flatMap_cons, List.flatMap_nil, List.append_nil, hB]
      · rw [List.flatMap_append, List.flatMap_cons, List.flatMap_nil, List.append_nil, hB, List.length_append, List.length_append, List.length_singleton]
        have := hans_pre hC hp M (l := p.stm) fun t ht => ht
        omega
  · rintro ρ S' ⟨⟨u3, u4, u5, u6, u7, rfl⟩, g, h, _⟩
    refine ⟨hc _ g, ?_⟩
    simp_all only
    exact ret_ok (hQ fo S' hfo g h)

theorem eqC_l0 {S : Sto} {a b : Addr} {ds : List D} {Q : Bool → Prop} (ha : S a = some (.lst ds)) (hb : S b = some (.lst [])) (hd : dats ds = true) (h : Q ds.isEmpty) : eqC (.ref a) (.ref b) S Q := by
  obtain ⟨ps, h1, h2⟩ := dats_py hd
  refine ⟨.list ps, .list [], by simp only [pyS, ha, h1] <;> rfl, by simp only [pyS, hb, pyDs] <;> rfl, ?_, ?_⟩
  · refine Nat.le_trans (Nat.min_le_right _ _) ?_
    simp [PyData.depth, PyData.depthAll]
  · have e : PyData.eqv (.list ps) (.list []) = ds.isEmpty := by
      cases ds with
      | nil => unfold pyDs at h1; cases h1; simp [PyData.eqv, PyData.eqvAll]
      | cons d ds =>
        unfold pyDs at h1
        split at h1 <;> cases h1
        simp [PyData.eqv, PyData.eqvAll]
    rw [e]; exact h
theorem bas_step (C : List Pr) (p : Pr) : basL (C ++ [p]) = basL C ++ (raw2 p).map fun x => (p.nm, x) := by
  unfold basL raw2
  rw [List.flatMap_append, List.flatMap_cons, List.flatMap_nil, List.append_nil, List.map_map] <;> rfl
theorem lmoves_w {C : List Pr} (hC : OkC C) {K : Nat} (hK : 8 ≤ K) {S : Sto} {Q : PK D} (hQ : ∀ (q : Addr) (M : List Pair) (S1 : Sto), Gr [] S S1 → S q = none → S1 q = some (.lst (M.map encPr)) → (∀ p ∈ C, ∀ i ∈ p.all, (p.nm, i.2) ∈ M ↔ Mv C p.nm i) → Q (.ref q) S1) : cl K "_law_all_moves" [coreD C] S Q := by
  refine lev_run (d := f__law_all_moves) rfl (by omega) ⟨rfl, ?_⟩
  show wpSs (gk (K - 1)) _ (enR Q) [some (coreD C), none, none, none, none, none] S
  have hsz : sizeLine = 2 ^ 24 := rfl
  have h6 := hC.len6
  unfold f__law_all_moves
  simp_all only
  intro m0 hm0
  have g0 : Gr [] S (up S m0 (.lst [])) := .new hm0
  simp_all only
  refine walk_of (S := S) core_walk g0 fun chk hc => ?_
  refine pre_loop encP8 (fun pre ρ S' => (∃ mo, ∃ u2 : Option D, ρ = [some (coreD C), some (.ref mo), u2, none, none, none] ∧ S' mo = some (.lst ((basL pre).map encPr)) ∧ S mo = none) ∧ Gr [] S S' ∧ (basL pre).length ≤ 4680 * pre.length) C ?_ ?_ ⟨⟨m0, _, rfl, up_same, hm0⟩, g0, by simp [basL]⟩
  · rintro pre p post e ρ S' X ⟨⟨mo, u2, rfl, h, fm⟩, g, hl⟩ hX
    refine ⟨hc _ g, ?_⟩
    have hp : p ∈ C := by rw [e]; simp
    have hpre : pre.length ≤ 6 := by have := congrArg List.length e; simp at this; omega
    have o := hC.ok p hp
    have h1 := asgs_len o (l := p.stm) fun t ht => ht
    have h2 := o.sl
    have hr : (raw2 p).length ≤ 4680 := by unfold raw2; rw [List.length_map]; omega
    simp! only
    simp_all only
    refine lchanged_w hC hp (by omega) fun q S1 fq g1 hq => ?_
    have hm1 := g1 _ _ (by simp) h
    refine walk_of (.inr ⟨q, rfl, hq⟩) .refl fun chk2 hk2 => ?_
    refine lc_fm D.str (fun x => some (encPr (p.nm, x))) (hk2 _ .refl) (raw2 p) [] ?_ (by simp; omega) ?_
    · intro x hx Y hY
      unfold encP8
      simp! only [pr_0]
      exact hY
    intro q4 hq4
    have h4 := (Gr.new (A := []) (o := .lst ([] ++ (raw2 p).filterMap fun x => some (encPr (p.nm, x)))) hq4) _ _ (by simp) hm1
    simp! only [h4, up_same]
    have ef : ([] ++ (raw2 p).filterMap fun x => some (encPr (p.nm, x))) = ((raw2 p).map fun x => (p.nm, x)).map encPr := by
      rw [List.nil_append, List.filterMap_eq_map', List.map_map] <;> rfl
    rw [ef] at h4 ⊢
    refine ⟨by simp only [List.length_map]; omega, ?_⟩
    intro q5 hq5
    have G4 := (g.trans g1).trans (Gr.new (o := .lst (((raw2 p).map fun x => (p.nm, x)).map encPr)) hq4)
    refine hX _ _ ⟨⟨q5, _, rfl, ?_, G4.free hq5⟩, G4.trans (.new hq5), ?_⟩
    · rw [up_same, bas_step, List.map_append]
    · rw [bas_step, List.length_append, List.length_map, List.length_append, List.length_singleton]
      omega
  · rintro ρ S' ⟨⟨mo, u2, rfl, h, fm⟩, g, hl⟩
    refine ⟨hc _ g, ?_⟩
    have fin : ∀ (mo : Addr) (M : List Pair) (S2 : Sto) (u3 u4 : Option D), S2 mo = some (.lst (M.map encPr)) → S mo = none → Gr [] S S2 → LSnd C M → LBas C M → handed C M = [] → wpSs (gk (K - 1)) (.cons (.ret (.var 1)) .nil) (enR Q) [some (coreD C), some (.ref mo), u2, u3, u4, none] S2 := fun mo M S2 u3 u4 h1 h2 h3 h4 h5 h6 => by
      simp_all only
      exact ret_ok (hQ mo M S2 h3 h2 h1 (law_mv hC h4 h5 h6))
    simp_all only
    refine ⟨⟨by decide, by decide⟩, ?_⟩
    unfold rngD
    refine pre_loop (fun i : Nat => D.int (0 + (i : Int))) (fun pre ρ S' => ∃ (mo : Addr) (M : List Pair) (u3 u4 : Option D), ρ = [some (coreD C), some (.ref mo), u2, u3, u4, none] ∧ S' mo = some (.lst (M.map encPr)) ∧ S mo = none ∧ Gr [] S S' ∧ LSnd C M ∧ LBas C M ∧ misL C M + pre.length ≤ 18 ∧ M.length ≤ 30000 + 50000 * pre.length) (List.range ((60 : Int).toNat)) ?_ ?_ ⟨mo, basL C, _, _, rfl, h, fm, g, bas_snd C, bas_bas C, ?_, by simp only [List.length_nil]; omega⟩
    · rintro pre i post e ρ S2 X ⟨mo, M, u3, u4, rfl, h, fm, g, sn, ba, hm, hl⟩ hX
      refine ⟨trivial, ?_⟩
      simp! only
      simp_all only
      refine lhanded_w hC (by omega) h fun q S3 fq g3 h3 => ?_
      have hm3 := g3 _ _ (by simp) h
      (rw [wpSs_cons]; simp only [wpS, wp, wpEs, wpO, wpIf, wpI, wpAnd, wpOr, ofE, truthOf, asgW, asgWs, tgLen, List.getElem?_cons_zero, List.getElem?_cons_succ, List.set_cons_zero, List.set_cons_succ, ixC, ixL, setC, bopW, addW, subW, mulW, fdivW, modW, powW, negW, bfW, cmpC, ltC, leC, isC, inC, truC, slC, itemsL, tyName, up_same, atI_0, atI_1, atI_2, atI_3, atI_4, atI_5, ixN_0, ixN_1, ixN_2, ixN_3, wpSs_nil, wipeE, true_and, and_true, if_true, Bool.false_eq_true, if_false, Bool.not_true, Bool.not_false, decide_true, decide_false, tyIn1, tyIn2, tyIn3, tyIn4, tyIn5, isT_int_int, isT_int_str, isT_int_bool, isT_int_tuple, isT_int_list, isT_str_int, isT_str_str, isT_str_bool, isT_str_tuple, isT_str_list, isT_tuple_int, isT_tuple_str, isT_tuple_bool, isT_tuple_tuple, isT_tuple_list, isT_bool_int, isT_bool_str, isT_bool_bool, isT_bool_tuple, isT_bool_list, lz0, lz1, lz2, lz3, lz4, lz5, lz6, lz7])
      intro q4 hq4
      have g4 : Gr [] S3 (up S3 q4 (.lst [])) := .new hq4
      have h34 := g4 _ _ (by simp) h3
      have hm4 := g4 _ _ (by simp) hm3
      have e4 : up S3 q4 (.lst []) q4 = some (.lst []) := up_same
      generalize up S3 q4 (.lst []) = S4 at g4 h34 hm4 e4 ⊢
      refine eqC_l0 h34 e4 (pr_dats _) ?_
      by_cases he : handed C M = []
      · rw [he]
        simp! only [List.map_nil, List.isEmpty_nil]
        rw [wpSs_cons, wpS]
        exact fin mo M S4 (some (.int (0 + (i : Int)))) (some (.ref q)) hm4 fm ((g.trans g3).trans g4) sn ba he
      · have e0 : ((handed C M).map encPr).isEmpty = false := by
          cases hh : handed C M with
          | nil => exact (he hh).elim
          | cons z r => rfl
        rw [e0]
        simp! only
        have hhl := han_len hC M
        have ml := misL_lt hC he
        simp_all only [hm4, h34]
        refine ⟨by simp only [List.length_map]; omega, ?_⟩
        intro q5 hq5
        have G4 := (g.trans g3).trans g4
        refine hX _ _ ⟨q5, M ++ handed C M, _, _, rfl, by rw [up_same, List.map_append], G4.free hq5, G4.trans (.new hq5), han_snd hC sn, fun p hp s hs i hi => List.mem_append_left _ (ba p hp s hs i hi), ?_, ?_⟩
        · rw [List.length_append, List.length_singleton]; omega
        · rw [List.length_append, List.length_append, List.length_singleton]; omega
    · rintro ρ S2 ⟨mo, M, u3, u4, rfl, h, fm, g, sn, ba, hm, hl⟩
      rw [List.length_range] at hm
      exfalso
      have : (60 : Int).toNat = 60 := rfl
      omega
    · have h1 := uni_len hC
      have h2 := List.length_filter_le (fun u => decide (¬ u ∈ basL C)) (uniL C)
      unfold misL
      simp only [List.length_nil]
      omega

theorem cals_map (p : Pr) : (p.stm.filterMap fun s => (calS s).map D.str) = (cals p).map .str := by
  unfold cals
  rw [List.map_filterMap]
theorem cals_len {C : List Pr} {p : Pr} (o : OkP C p) : (cals p).length ≤ 2340 := by
  have h1 := List.length_filterMap_le calS p.stm
  have h2 := o.sl
  unfold cals
  omega
theorem calls_w {C : List Pr} (hC : OkC C) {p : Pr} (hp : p ∈ C) {K : Nat} (hK : 5 ≤ K) {S : Sto} {Q : PK D} (hQ : ∀ q S1, S q = none → Gr [] S S1 → S1 q = some (.lst ((cals p).map .str)) → Q (.ref q) S1) : cl K "calls_in" [encP8 p] S Q := by
  refine lev_run (d := f_calls_in) rfl (by omega) ⟨rfl, ?_⟩
  show wpSs (gk (K - 1)) _ (enR Q) [some (.tup (prL p)), none] S
  have hsz : sizeLine = 2 ^ 24 := rfl
  have osl := (hC.ok p hp).sl
  unfold f_calls_in
  simp_all only [pr_8]
  refine stm_w hC hp (by omega) fun q S1 hq g1 h1 => ?_
  refine walk_of (.inr ⟨q, rfl, h1⟩) .refl fun chk hc => ?_
  refine lc_fm (encS false) (fun s => (calS s).map D.str) (hc _ .refl) p.stm [] ?_ (by simp; omega) ?_
  · intro s hs X hX
    cases s with
    | call f as ts n =>
      simp! only [encS, eq_self]
      exact hX
    | set x i v => simp! only [encS, k_set_call]; exact hX
    | push n a => simp! only [encS, k_push_call]; exact hX
    | store a j => simp! only [encS, k_store_call]; exact hX
    | pop x a => simp! only [encS, k_pop_call]; exact hX
    | pause q => simp! only [encS, k_pause_call]; exact hX
    | ife i n a b => simp! only [encS, k_if_call]; exact hX
    | wh i n a b => simp! only [encS, k_while_call]; exact hX
  · intro q4 hq4
    refine ret_ok ?_
    rw [List.nil_append, cals_map]
    exact hQ q4 _ (g1.free hq4) (g1.trans (.new hq4)) up_same
theorem lcalls_w {C : List Pr} (hC : OkC C) {p : Pr} (hp : p ∈ C) {K : Nat} (hK : 5 ≤ K) {S : Sto} {Q : PK D} (hQ : ∀ q S1, S q = none → Gr [] S S1 → S1 q = some (.lst ((cals p).map .str)) → Q (.ref q) S1) : cl K "_law_callees" [encP8 p] S Q := by
  refine lev_run (d := f__law_callees) rfl (by omega) ⟨rfl, ?_⟩
  show wpSs (gk (K - 1)) _ (enR Q) [some (.tup (prL p)), none] S
  have hsz : sizeLine = 2 ^ 24 := rfl
  have osl := (hC.ok p hp).sl
  unfold f__law_callees
  simp_all only [pr_8]
  refine lst_w hC hp (by omega) fun q S1 hq g1 h1 => ?_
  refine walk_of (.inr ⟨q, rfl, h1⟩) .refl fun chk hc => ?_
  refine lc_fm (encS false) (fun s => (calS s).map D.str) (hc _ .refl) p.stm [] ?_ (by simp; omega) ?_
  · intro s hs X hX
    cases s with
    | call f as ts n =>
      simp! only [encS, eq_self]
      exact hX
    | set x i v => simp! only [encS, k_set_call]; exact hX
    | push n a => simp! only [encS, k_push_call]; exact hX
    | store a j => simp! only [encS, k_store_call]; exact hX
    | pop x a => simp! only [encS, k_pop_call]; exact hX
    | pause q => simp! only [encS, k_pause_call]; exact hX
    | ife i n a b => simp! only [encS, k_if_call]; exact hX
    | wh i n a b => simp! only [encS, k_while_call]; exact hX
  · intro q4 hq4
    refine ret_ok ?_
    rw [List.nil_append, cals_map]
    exact hQ q4 _ (g1.free hq4) (g1.trans (.new hq4)) up_same
/-! what is reached -/
structure RF (C : List Pr) (x : Str) (L : List Str) (i : Nat) : Prop where
  nd : L.Nodup
  r : ∀ y ∈ L, Rch C x y
  x : x ∈ L
  c : ∀ j, j < i → ∀ z, L[j]? = some z → ∀ y, Cal C z y → y ∈ L
  i : i ≤ L.length
def rfBody : Ss := match f_reached_from.body with
  | .cons _ (.cons _ (.cons (.wh _ b) _)) => b
  | _ => .nil
def rfCond : E := match f_reached_from.body with
  | .cons _ (.cons _ (.cons (.wh c _) _)) => c
  | _ => .non
theorem RF.len {C : List Pr} (hC : OkC C) {x : Str} (hx : x ∈ nms C) {L : List Str} {i : Nat} (h : RF C x L i) : L.length ≤ C.length := by
  have := sub_length (m := nms C) h.nd fun y hy => Rch.mem hC hx (h.r y hy)
  rw [nms_len] at this
  exact this
theorem rfturn_w {C : List Pr} (hC : OkC C) {x : Str} (hx : x ∈ nms C) {K : Nat} (hK : 7 ≤ K) {S S1 : Sto} {fo : Addr} {L : List Str} {i : Nat} {u4 : Option D} {k : En} (rf : RF C x L i) (hi : i < L.length) (g : Gr [] S S1) (ff : S fo = none) (hf : S1 fo = some (.lst (L.map .str)))
    (hQ : ∀ u4 S2 L2, RF C x L2 (i + 1) → Gr [] S S2 → S2 fo = some (.lst (L2.map .str)) → k.nx [some (coreD C), some (.str x), some (.ref fo), some (.int ((i : Int) + 1)), u4] S2) :
    wpSs (gk (K - 1)) rfBody k [some (coreD C), some (.str x), some (.ref fo), some (.int (i : Int)), u4] S1 := by
  have hsz : sizeLine = 2 ^ 24 := rfl
  have h6 := hC.len6
  have hll := rf.len hC hx
  have hzi : L[i] ∈ nms C := Rch.mem hC hx (rf.r _ (List.getElem_mem hi))
  obtain ⟨p, hp, ep⟩ := List.mem_map.mp hzi
  have at1 : atI (L.map D.str) (i : Int) = some (.str p.nm) := by
    have := atI_nat (xs := L.map D.str) (i := i) (by rw [List.length_map]; exact hi)
    rw [Int.zero_add] at this
    rw [this, List.getElem_map, ← ep]
  unfold rfBody f_reached_from
  simp_all only [hf, at1]
  refine proc_named_w hC hp (by omega) fun S2 g2 => ?_
  have hf2 := g2 _ _ (by simp) hf
  refine calls_w hC hp (by omega) fun q S3 fq g3 h3 => ?_
  have hf3 := g3 _ _ (by simp) hf2
  have nq : q ≠ fo := by rintro rfl; rw [hf2] at fq; cases fq
  refine walk_ofA (A := [fo]) (.inr ⟨q, rfl, h3⟩) (fun q' e => by cases e; simpa using nq) fun chk hc => ?_
  have RP : ∀ {T : List Str}, L <+: T → T.Nodup → (∀ y ∈ T, Rch C x y) → T.length ≤ C.length := fun {T} _ h1 h2 => by
    have := sub_length (m := nms C) h1 fun y hy => Rch.mem hC hx (h2 y hy)
    rw [nms_len] at this
    exact this
  refine pre_loop D.str (fun pre ρ S' => (∃ u : Option D, ρ = [some (coreD C), some (.str x), some (.ref fo), some (.int (i : Int)), u]) ∧ Gr [fo] S3 S' ∧ ∃ T : List Str, S' fo = some (.lst (T.map .str)) ∧ L <+: T ∧ T.Nodup ∧ (∀ y ∈ T, Rch C x y) ∧ ∀ y ∈ pre, y ∈ T) (cals p) ?_ ?_ ⟨⟨_, rfl⟩, .refl, L, hf3, List.prefix_refl _, rf.nd, rf.r, by simp⟩
  · rintro pre y post e ρ S' X ⟨⟨u, rfl⟩, g4, T, hT, pf, nd, rr, hin⟩ hX
    refine ⟨hc _ g4, ?_⟩
    have hTl := RP pf nd rr
    simp! only
    simp_all only [hT]
    refine inL_strs ?_
    by_cases hm : y ∈ T
    · rw [decide_eq_true hm]
      simp! only
      refine hX _ _ ⟨⟨_, rfl⟩, g4, T, hT, pf, nd, rr, fun z hz => ?_⟩
      rcases List.mem_append.mp hz with hz | hz
      · exact hin z hz
      · rw [List.mem_singleton.mp hz]; exact hm
    · rw [decide_eq_false hm]
      simp! only
      simp_all only [rcv, bmT, bmW, hT]
      refine ⟨by rw [List.length_map]; omega, ?_⟩
      refine hX _ _ ⟨⟨_, rfl⟩, g4.trans (.up (by simp)), T ++ [y], by rw [up_same, List.map_append] <;> rfl, pf.trans (List.prefix_append _ _), ?_, fun z hz => ?_, fun z hz => ?_⟩
      · exact List.nodup_append.mpr ⟨nd, by simp, by intro a ha b hb; simp at hb; subst hb; rintro rfl; exact hm ha⟩
      · rcases List.mem_append.mp hz with hz | hz
        · exact rr z hz
        · rw [List.mem_singleton.mp hz]
          exact (rf.r _ (List.getElem_mem hi)).trans (.one ⟨p, hp, ep, by rw [e]; simp⟩)
      · rcases List.mem_append.mp hz with hz | hz
        · exact List.mem_append_left _ (hin z hz)
        · exact List.mem_append_right _ hz
  · rintro ρ S' ⟨⟨u, rfl⟩, g4, T, hT, pf, nd, rr, hin⟩
    refine ⟨hc _ g4, ?_⟩
    simp_all only [augW]
    refine hQ _ _ T ⟨nd, rr, pf.subset rf.x, fun j hj z hzj y hy => ?_, ?_⟩ (((g.trans g2).trans g3).fresh1 ff g4) hT
    · have hjl : j < L.length := by omega
      obtain ⟨t, rfl⟩ := pf
      rw [List.getElem?_append_left hjl] at hzj
      by_cases hji : j < i
      · exact List.mem_append_left _ (rf.c j hji z hzj y hy)
      · have : j = i := by omega
        subst this
        rw [List.getElem?_eq_getElem hjl] at hzj
        have ez : L[j] = z := Option.some.inj hzj
        obtain ⟨p2, hp2, e2, hc2⟩ := hy
        have : p2 = p := hC.inj hp2 hp (by rw [e2, ← ez, ← ep])
        rw [this] at hc2
        exact hin y hc2
    · have := pf.length_le
      omega
theorem rfwh_w {C : List Pr} (hC : OkC C) {x : Str} (hx : x ∈ nms C) {K : Nat} (hK : 7 ≤ K) {S : Sto} {fo : Addr} {k : En} (ff : S fo = none)
    (hQ : ∀ i u4 S2 (L : List Str), L.Nodup → (∀ y, y ∈ L ↔ Rch C x y) → Gr [] S S2 → S2 fo = some (.lst (L.map .str)) → k.nx [some (coreD C), some (.str x), some (.ref fo), i, u4] S2) :
    ∀ (m : Nat) (L : List Str) (i : Nat) (S1 : Sto) u4, C.length ≤ i + m → RF C x L i → Gr [] S S1 → S1 fo = some (.lst (L.map .str)) → whW (wp (gk (K - 1)) rfCond).2 (wpSs (gk (K - 1)) rfBody) k (m + 1) [some (coreD C), some (.str x), some (.ref fo), some (.int (i : Int)), u4] S1 := by
  have fin : ∀ {L : List Str} {i : Nat}, RF C x L i → i = L.length → ∀ y, y ∈ L ↔ Rch C x y := fun {L i} rf e y => ⟨rf.r y, fun r => r.ind (P := fun y => y ∈ L) rf.x fun z w hz hw => by
    obtain ⟨j, hj, ej⟩ := List.getElem_of_mem hz
    exact rf.c j (by omega) z (by rw [List.getElem?_eq_getElem hj, ej]) w hw⟩
  intro m
  induction m with
  | zero =>
    intro L i S1 u4 hm rf g hf
    have hl := rf.len hC hx
    have hi := rf.i
    have e : i = L.length := by omega
    unfold whW rfCond f_reached_from
    simp! only [hf, bfW, List.length_map]
    rw [decide_eq_false (by omega), if_neg (by simp)]
    exact hQ _ _ _ L rf.nd (fin rf e) g hf
  | succ m ih =>
    intro L i S1 u4 hm rf g hf
    have hi := rf.i
    unfold whW rfCond f_reached_from
    simp! only [hf, bfW, List.length_map]
    by_cases hlt : i < L.length
    · rw [decide_eq_true (by omega), if_pos rfl]
      refine rfturn_w hC hx hK rf hlt g ff hf fun u4 S2 L2 rf2 g2 hf2 => ?_
      have e : ((i : Int) + 1) = ((i + 1 : Nat) : Int) := by omega
      rw [e]
      exact ih L2 (i + 1) S2 u4 (by omega) rf2 g2 hf2
    · rw [decide_eq_false (by omega), if_neg (by simp)]
      exact hQ _ _ _ L rf.nd (fin rf (by omega)) g hf
theorem reached_w {C : List Pr} (hC : OkC C) {x : Str} (hx : x ∈ nms C) {K : Nat} (hK : 7 ≤ K) {S : Sto} {Q : PK D} (hQ : ∀ q (L : List Str) S1, S q = none → Gr [] S S1 → S1 q = some (.lst (L.map .str)) → L.Nodup → (∀ y, y ∈ L ↔ Rch C x y) → Q (.ref q) S1) : cl K "reached_from" [coreD C, .str x] S Q := by
  refine lev_run (d := f_reached_from) rfl (by omega) ⟨rfl, ?_⟩
  show wpSs (gk (K - 1)) _ (enR Q) [some (coreD C), some (.str x), none, none, none] S
  have hsz : sizeLine = 2 ^ 24 := rfl
  have eb : rfBody = (match f_reached_from.body with
    | .cons _ (.cons _ (.cons (.wh _ b) _)) => b
    | _ => .nil) := rfl
  have ec : rfCond = (match f_reached_from.body with
    | .cons _ (.cons _ (.cons (.wh c _) _)) => c
    | _ => .non) := rfl
  unfold f_reached_from at eb ec ⊢
  simp only at eb ec
  rw [← eb, ← ec]
  simp_all only
  intro fo hfo
  have g0 : Gr [] S (up S fo (.lst [.str x])) := .new hfo
  have h0 : up S fo (.lst [.str x]) fo = some (.lst ([x].map .str)) := up_same
  generalize up S fo (.lst [.str x]) = S1 at g0 h0 ⊢
  simp_all only
  rw [wpSs_cons]
  refine ⟨_, rfwh_w hC hx hK hfo (fun i u4 S2 L nd hm g hf => ?_) C.length [x] 0 S1 none (by omega) ⟨by simp, fun y hy => by rw [List.mem_singleton.mp hy]; exact .refl _, by simp, fun j hj => by omega, by simp⟩ g0 h0⟩
  dsimp only
  simp_all only
  exact ret_ok (hQ fo L S2 hfo g hf nd hm)

theorem strsOf_m : ∀ l : List Str, strsOf (l.map D.str) = some l
  | [] => rfl
  | x :: l => by
    rw [List.map_cons]
    unfold strsOf
    rw [strsOf_m l] <;> rfl
theorem blsOf_m {α : Type} (f : α → Bool) : ∀ l : List α, blsOf (l.map fun x => D.bl (f x)) = some (l.map f)
  | [] => rfl
  | x :: l => by
    rw [List.map_cons]
    unfold blsOf
    rw [blsOf_m f l] <;> rfl
theorem pre_sc' {α : Type} {chk : Sto → Prop} {turn : D → Sto → (Option D → Sto → Prop) → Prop} {k : List (List Str) → Sto → Prop} (enc : α → D) (R : List α → List (List Str) → Sto → Prop) (all : List α) (done : ∀ acc S, R all acc S → chk S ∧ k acc S) : ∀ (xs pre : List α), pre ++ xs = all →
    (∀ pre x post, all = pre ++ x :: post → ∀ acc S K, R pre acc S → (∀ v q S1, tsOf v = some q → (acc.length + 1 < 64 ∧ q ≠ []) → R (pre ++ [x]) (acc ++ [q]) S1 → K (some v) S1) → chk S ∧ turn (enc x) S K) → ∀ acc S, R pre acc S → scW chk turn k (xs.map enc) acc S
  | [], pre, e, step, acc, S, h => by
    unfold scW
    rw [List.append_nil] at e
    subst e
    exact done acc S h
  | x :: xs, pre, e, step, acc, S, h => by
    rw [List.map_cons]
    unfold scW
    refine step pre x xs e.symm acc S _ h fun v q S1 h1 h2 h3 => ?_
    show (match tsOf v with
      | some q => (acc.length + 1 < 64 ∧ q ≠ []) ∧ scW chk turn k (xs.map enc) (acc ++ [q]) S1
      | none => False)
    rw [h1]
    exact ⟨h2, pre_sc' enc R all done xs (pre ++ [x]) (by simpa using e) step _ S1 h3⟩
theorem pre_sc {α : Type} {chk : Sto → Prop} {turn : D → Sto → (Option D → Sto → Prop) → Prop} {k : List (List Str) → Sto → Prop} (enc : α → D) (R : List α → List (List Str) → Sto → Prop) (xs : List α) {S : Sto}
    (step : ∀ pre x post, xs = pre ++ x :: post → ∀ acc S K, R pre acc S → (∀ v q S1, tsOf v = some q → (acc.length + 1 < 64 ∧ q ≠ []) → R (pre ++ [x]) (acc ++ [q]) S1 → K (some v) S1) → chk S ∧ turn (enc x) S K) (done : ∀ acc S, R xs acc S → chk S ∧ k acc S) (h : R [] [] S) : scW chk turn k (xs.map enc) [] S :=
  pre_sc' enc R xs done xs [] rfl step [] S h
theorem tsOf_ts (g : List Str) : tsOf (tsD g) = some g := by
  show strsOf (g.map D.str) = some g
  exact strsOf_m g
def TOk (C : List Pr) (T : Mt) : Prop := ∀ p ∈ C, (T p.nm).Nodup ∧ ∀ y, y ∈ T p.nm ↔ Rch C p.nm y
theorem TOk.len {C : List Pr} (hC : OkC C) {T : Mt} (h : TOk C T) {p : Pr} (hp : p ∈ C) : (T p.nm).length ≤ 6 := by
  have := sub_length (m := nms C) (h p hp).1 fun y hy => Rch.mem hC (List.mem_map.mpr ⟨p, hp, rfl⟩) (((h p hp).2 y).mp hy)
  rw [nms_len] at this
  have := hC.len6
  omega
open Classical in
theorem group_of_w {C : List Pr} (hC : OkC C) {p : Pr} (hp : p ∈ C) {K : Nat} (hK : 1 ≤ K) {S0 S : Sto} {t : Addr} {o : Obj} {vs : List (Key × V)} {T : Mt} {cs : List (Str × Addr)} (hcs : Cs S0 S (nms C) T cs) (hT : TOk C T) (ht : S t = some (.fdc o vs (dcC cs))) {Q : PK D} (hQ : ∀ S1, Gr [] S S1 → Q (tsD (grp C p.nm)) S1) : cl K "group_of" [.ref t, .str p.nm] S Q := by
  refine lev_run (d := f_group_of) rfl (by omega) ⟨rfl, ?_⟩
  show wpSs (gk (K - 1)) _ (enR Q) [some (.ref t), some (.str p.nm), none] S
  have hsz : sizeLine = 2 ^ 24 := rfl
  obtain ⟨ad, hc1, hc2, hc3, hc4⟩ := hcs.find hC hp
  have hx : p.nm ∈ nms C := List.mem_map.mpr ⟨p, hp, rfl⟩
  have tl := hT.len hC hp
  unfold f_group_of
  simp_all only [ht, keyOf, hc2, hc3, strsOf_m]
  refine ⟨by omega, fun q hq => ?_⟩
  have g1 : Gr [] S (up S q (.lst ((sortStr (T p.nm)).map D.str))) := .new hq
  have e1 : up S q (.lst ((sortStr (T p.nm)).map D.str)) q = some (.lst ((sortStr (T p.nm)).map D.str)) := up_same
  generalize up S q (.lst ((sortStr (T p.nm)).map D.str)) = S1 at g1 e1 ⊢
  refine walk_of (.inr ⟨q, rfl, e1⟩) .refl fun chk hc => ?_
  have sl : (sortStr (T p.nm)).length = (T p.nm).length := (sortStr_perm _).length_eq
  refine lc_fm D.str (fun y => if decide (Rch C y p.nm) = true then some (.str y) else none) (hc _ .refl) _ [] ?_ (by simp only [List.length_nil]; omega) ?_
  · intro y hy X hX
    have hyr := ((hT p hp).2 y).mp ((sortStr_perm _).mem_iff.mp hy)
    obtain ⟨p2, hp2, rfl⟩ := List.mem_map.mp (Rch.mem hC hx hyr)
    obtain ⟨ad2, hd1, hd2, hd3, hd4⟩ := hcs.find hC hp2
    simp! only [g1 _ _ (by simp) ht, keyOf, hd2, g1 _ _ (by simp) hd3]
    refine inL_strs ?_
    have e : decide (p.nm ∈ T p2.nm) = decide (Rch C p2.nm p.nm) := decide_eq_decide.mpr ((hT p2 hp2).2 p.nm)
    rw [e]
    split
    · rename_i e; rw [if_pos e] at hX; exact hX
    · rename_i e; rw [if_neg e] at hX; exact hX
  · intro q4 hq4
    refine ret_ok ?_
    rw [fm_if, List.nil_append, grp_of hC (hT p hp).1 (hT p hp).2 hx]
    exact hQ _ (g1.trans (.new hq4))

theorem ts_inj {a b : List Str} (h : tsD a = tsD b) : a = b := by
  have := congrArg tsOf h
  rw [tsOf_ts, tsOf_ts] at this
  exact Option.some.inj this
theorem pyDs_at : ∀ {ds : List D} {ps : List PyData} {i : Nat} {d : D}, pyDs ds = some ps → ds[i]? = some d → ∃ p, ps[i]? = some p ∧ pyD d = some p
  | [], ps, i, d, _, h => by simp at h
  | e :: ds, ps, i, d, h, hd => by
    unfold pyDs at h
    cases h1 : pyD e with
    | none => rw [h1] at h; simp at h
    | some p =>
      cases h2 : pyDs ds with
      | none => rw [h1, h2] at h; simp at h
      | some qs =>
        rw [h1, h2] at h
        cases h
        cases i with
        | zero =>
          have : e = d := by simpa using hd
          exact ⟨p, rfl, by rw [← this]; exact h1⟩
        | succ i => exact pyDs_at (i := i) h2 (by simpa using hd)
theorem ts_dat (g : List Str) : dat (tsD g) = true := by
  unfold tsD dat
  exact dats_iff.mpr fun d hd => by
    obtain ⟨x, _, rfl⟩ := List.mem_map.mp hd
    rfl
theorem ts_dep (g : List Str) : dep (tsD g) ≤ 63 := by
  unfold tsD dep
  have := deps_le (ds := g.map D.str) (n := 0) fun d hd => by
    obtain ⟨x, _, rfl⟩ := List.mem_map.mp hd
    exact Nat.le_refl _
  omega
theorem ts_dats (gs : List (List Str)) : dats (gs.map tsD) = true := dats_iff.mpr fun d hd => by
  obtain ⟨x, _, rfl⟩ := List.mem_map.mp hd
  exact ts_dat x
open Classical in
theorem removeW_ts {S : Sto} {a : Addr} {pre post : List (List Str)} {g : List Str} (ha : S a = some (.lst ((pre ++ g :: post).map tsD))) (hg : g ∉ pre) {Q : PK D} (h : Q .non (up S a (.lst ((pre ++ post).map tsD)))) : removeW (.ref a) [tsD g] S Q := by
  obtain ⟨p, h1, h2⟩ := dat_py (ts_dat g)
  obtain ⟨ps, h3, h4⟩ := dats_py (ts_dats (pre ++ g :: post))
  simp only [removeW, ha]
  refine ⟨p, ps, pre.length, h1, h3, ?_, ?_, ?_, ?_⟩
  · have := ts_dep g
    rw [h2]; omega
  · obtain ⟨p2, e1, e2⟩ := pyDs_at (i := pre.length) (d := tsD g) h3 (by simp)
    rw [e1, Option.map_some, eqv_dec (ts_dat g) (ts_dat g) e2 h1, decide_eq_true rfl]
  · intro i hi
    obtain ⟨p2, e1, e2⟩ := pyDs_at (i := i) (d := tsD pre[i]) h3 (by rw [List.getElem?_map, List.getElem?_append_left hi, List.getElem?_eq_getElem hi] <;> rfl)
    rw [e1, Option.map_some, eqv_dec (ts_dat _) (ts_dat g) e2 h1, decide_eq_false fun e => hg (by rw [← ts_inj e]; exact List.getElem_mem hi)]
  · have : ((pre ++ g :: post).map tsD).eraseIdx pre.length = (pre ++ post).map tsD := by
      rw [List.map_append, List.map_cons, List.eraseIdx_append_of_length_le (by simp), List.map_append]
      simp
    rw [this]; exact h
def goBody : Ss := match f_groups_of.body with
  | .cons _ (.cons _ (.cons _ (.cons _ (.cons (.wh _ b) _)))) => b
  | _ => .nil
open Classical in
noncomputable def wtg (C : List Pr) (f : List (List Str)) : List (List Str) := (left C).filter fun g => decide (¬ g ∈ f)
open Classical in
theorem wtg_rdy {C : List Pr} {f : List (List Str)} {g : List Str} (h : nextG C f = some g) : ∃ r, (wtg C f).filter (fun g => decide (Rdy C f g)) = g :: r := by
  unfold nextG at h
  rw [← List.head?_filter] at h
  have e : (wtg C f).filter (fun g => decide (Rdy C f g)) = (left C).filter fun g => decide (¬ g ∈ f ∧ Rdy C f g) := by
    unfold wtg
    rw [List.filter_filter]
    apply List.filter_congr
    intro x _
    by_cases a : x ∈ f <;> by_cases b : Rdy C f x <;> simp [a, b]
  rw [e]
  cases hh : (left C).filter fun g => decide (¬ g ∈ f ∧ Rdy C f g) with
  | nil => rw [hh] at h; cases h
  | cons x r => rw [hh] at h; cases h; exact ⟨r, rfl⟩
theorem wtg_cut {C : List Pr} (ok : OkC C) {f : List (List Str)} {g : List Str} (h : nextG C f = some g) : ∃ a b, wtg C f = a ++ g :: b ∧ g ∉ a ∧ wtg C (f ++ [g]) = a ++ b := by
  obtain ⟨h1, h2, h3⟩ := next_ok h
  have hm : g ∈ wtg C f := List.mem_filter.mpr ⟨h1, by simpa using h2⟩
  have hn : (wtg C f).Nodup := (left_nodup ok).sublist List.filter_sublist
  obtain ⟨a, b, e⟩ := List.append_of_mem hm
  rw [e, List.nodup_append, List.nodup_cons] at hn
  have ga : g ∉ a := fun hc => hn.2.2 g hc g (by simp) rfl
  refine ⟨a, b, e, ga, ?_⟩
  have e2 : wtg C (f ++ [g]) = (wtg C f).filter fun x => decide (x ≠ g) := by
    unfold wtg
    rw [List.filter_filter]
    apply List.filter_congr
    intro x _
    by_cases a : x ∈ f <;> by_cases b : x = g <;> simp [a, b]
  rw [e2, e, List.filter_append, List.filter_cons, decide_eq_false (by simp), if_neg (by simp), List.filter_eq_self.mpr, List.filter_eq_self.mpr]
  · intro x hx
    exact decide_eq_true fun e => hn.2.1.1 (by rw [← e]; exact hx)
  · intro x hx
    exact decide_eq_true fun e => ga (by rw [← e]; exact hx)
structure GW (C : List Pr) (S S' : Sto) (t w fo pl : Addr) (o : Obj) (vs : List (Key × V)) (T : Mt) (cs : List (Str × Addr)) (f : List (List Str)) : Prop where
  hw : S' w = some (.lst ((wtg C f).map tsD))
  hfo : S' fo = some (.lst (f.map tsD))
  hpl : S' pl = some (.lst (f.flatten.map .str))
  ht : S' t = some (.fdc o vs (dcC cs))
  hcs : Cs S S' (nms C) T cs
  fr : S w = none ∧ S fo = none ∧ S pl = none ∧ S t = none
  ne : w ≠ fo ∧ w ≠ pl ∧ fo ≠ pl
  nc : ∀ c ∈ cs, c.2 ≠ w ∧ c.2 ≠ fo ∧ c.2 ≠ pl
  g : Gr [] S S'
theorem GW.keep {C : List Pr} {S S1 S2 : Sto} {t w fo pl : Addr} {o : Obj} {vs : List (Key × V)} {T : Mt} {cs : List (Str × Addr)} {f : List (List Str)} (h : GW C S S1 t w fo pl o vs T cs f) (g : Gr [] S1 S2) : GW C S S2 t w fo pl o vs T cs f :=
  ⟨g _ _ (by simp) h.hw, g _ _ (by simp) h.hfo, g _ _ (by simp) h.hpl, g _ _ (by simp) h.ht, h.hcs.keep g, h.fr, h.ne, h.nc, h.g.trans g⟩
theorem flat_len {C : List Pr} (ok : OkC C) {f : List (List Str)} (h : OrdOk C f) : f.length ≤ 6 ∧ f.flatten.length ≤ 36 := by
  have h1 : f.length ≤ (left C).length := by
    have key : ∀ (l m : List (List Str)), l.Nodup → (∀ x ∈ l, x ∈ m) → l.length ≤ m.length := by
      intro l
      induction l with
      | nil => intro m _ _; simp
      | cons x l ih =>
        intro m hl h
        rw [List.nodup_cons] at hl
        have hx := h x (by simp)
        have := ih (m.erase x) hl.2 fun y hy => (List.mem_erase_of_ne (fun e => hl.1 (by rw [← e]; exact hy))).mpr (h y (by simp [hy]))
        rw [List.length_erase_of_mem hx] at this
        have := List.length_pos_of_mem hx
        rw [List.length_cons]
        omega
    exact key f _ h.nd h.sub
  have h2 := left_len ok
  refine ⟨by omega, ?_⟩
  have key : ∀ l : List (List Str), (∀ g ∈ l, g.length ≤ 6) → l.flatten.length ≤ 6 * l.length := by
    intro l
    induction l with
    | nil => intro _; simp
    | cons x l ih =>
      intro hl
      have a := hl x (by simp)
      have b := ih fun g hg => hl g (by simp [hg])
      rw [List.flatten_cons, List.length_append, List.length_cons]
      omega
  have := key f fun g hg => by
    obtain ⟨_, _, e⟩ := left_hd ok (h.sub g hg)
    rw [e]; exact grp_len ok _
  omega
theorem ts_hd {C : List Pr} (ok : OkC C) {g : List Str} (hg : g ∈ left C) : ∃ p ∈ C, p.nm = hdS g ∧ atI (g.map D.str) 0 = some (.str p.nm) := by
  obtain ⟨_, hn, _⟩ := left_hd ok hg
  obtain ⟨as, e⟩ := left_cons ok hg
  obtain ⟨p, hp, e2⟩ := List.mem_map.mp hn
  refine ⟨p, hp, e2, ?_⟩
  rw [e, List.map_cons, atI_0, e2]
open Classical in
theorem rdy_dec {C : List Pr} {T : Mt} (hT : TOk C T) {p : Pr} (hp : p ∈ C) {f : List (List Str)} {g : List Str} (e : p.nm = hdS g) : (((T p.nm).map fun x => (decide (x ∈ f.flatten) || decide (x ∈ g))).all id) = decide (Rdy C f g) := by
  rw [Bool.eq_iff_iff, List.all_eq_true, decide_eq_true_eq]
  unfold Rdy
  constructor
  · intro h y hy
    have := h _ (List.mem_map.mpr ⟨y, ((hT p hp).2 y).mpr (by rw [e]; exact hy), rfl⟩)
    simp only [id, Bool.or_eq_true, decide_eq_true_eq] at this
    exact this.symm
  · intro h b hb
    obtain ⟨y, hy, rfl⟩ := List.mem_map.mp hb
    have := h y (by rw [← e]; exact ((hT p hp).2 y).mp hy)
    simp only [id, Bool.or_eq_true, decide_eq_true_eq]
    exact this.symm
open Classical in
theorem goturn_w {C : List Pr} (hC : OkC C) {K : Nat} (hK : 8 ≤ K) {S S1 : Sto} {t w fo pl : Addr} {o : Obj} {vs : List (Key × V)} {T : Mt} {cs : List (Str × Addr)} {f : List (List Str)} {nx : List Str} {u5 u6 u7 u8 u9 : Option D} {k : En} (hT : TOk C T) (h : GW C S S1 t w fo pl o vs T cs f) (hf : OrdOk C f) (hn : nextG C f = some nx)
    (hQ : ∀ u5 u6 u7 u8 u9 S2, GW C S S2 t w fo pl o vs T cs (f ++ [nx]) → k.nx [some (coreD C), some (.ref t), some (.ref w), some (.ref fo), some (.ref pl), u5, u6, u7, u8, u9] S2) :
    wpSs (gk (K - 1)) goBody k [some (coreD C), some (.ref t), some (.ref w), some (.ref fo), some (.ref pl), u5, u6, u7, u8, u9] S1 := by
  have hsz : sizeLine = 2 ^ 24 := rfl
  obtain ⟨fl1, fl2⟩ := flat_len hC hf
  have lfl := left_len hC
  have wl : (wtg C f).length ≤ 6 := by
    have := List.length_filter_le (fun g => decide (¬ g ∈ f)) (left C)
    unfold wtg
    omega
  unfold goBody f_groups_of
  simp_all only
  refine walk_of (.inr ⟨w, rfl, h.hw⟩) .refl fun chk hc => ?_
  refine pre_lc tsD (fun pre acc S' => acc = (pre.filter fun g => decide (Rdy C f g)).map tsD ∧ Gr [] S1 S') (wtg C f) (by omega) ?_ ?_ ⟨rfl, .refl⟩
  · rintro pre g post e acc S' X ⟨rfl, g'⟩ hX hXn
    refine ⟨hc _ g', ?_⟩
    have hg : g ∈ left C := (List.mem_filter.mp (show g ∈ wtg C f by rw [e]; simp)).1
    obtain ⟨p, hp, ep, hat⟩ := ts_hd hC hg
    have h2 := h.keep g'
    obtain ⟨ad, hc1, hc2, hc3, hc4⟩ := h2.hcs.find hC hp
    have tl := hT.len hC hp
    unfold tsD
    simp! only [hat, h2.ht, keyOf, hc2]
    refine walk_of (.inr ⟨ad, rfl, hc3⟩) .refl fun chk2 hk2 => ?_
    refine lc_fm D.str (fun x => some (.bl (decide (x ∈ f.flatten) || decide (x ∈ g)))) (hk2 _ .refl) (T p.nm) [] ?_ (by simp only [List.length_nil]; omega) ?_
    · intro x hx Y hY
      simp! only [h2.hpl]
      refine inL_strs ?_
      by_cases hm : x ∈ f.flatten
      · rw [decide_eq_true hm] at hY ⊢
        simp! only
        rw [Bool.true_or] at hY
        exact hY
      · rw [decide_eq_false hm] at hY ⊢
        simp! only
        refine inL_strs ?_
        rw [Bool.false_or] at hY
        exact hY
    · intro q4 hq4
      have eb : ([] ++ (T p.nm).filterMap fun x => some (D.bl (decide (x ∈ f.flatten) || decide (x ∈ g)))) = (T p.nm).map fun x => D.bl (decide (x ∈ f.flatten) || decide (x ∈ g)) := by rw [List.nil_append, List.filterMap_eq_map']
      rw [eb]
      have g4 : Gr [] S' (up S' q4 (.lst ((T p.nm).map fun x => D.bl (decide (x ∈ f.flatten) || decide (x ∈ g))))) := .new hq4
      simp! only [bfW, blsOf_m, rdy_dec hT hp ep]
      by_cases hr : Rdy C f g
      · rw [decide_eq_true hr, if_pos rfl]
        refine hX _ _ ⟨?_, g'.trans g4⟩
        rw [List.filter_append, List.map_append, List.filter_cons, decide_eq_true hr, if_pos rfl] <;> rfl
      · rw [decide_eq_false hr, if_neg (by simp)]
        refine hXn _ ⟨?_, g'.trans g4⟩
        rw [List.filter_append, List.map_append, List.filter_cons, decide_eq_false hr, if_neg (by simp)]
        simp
  · rintro acc S' ⟨rfl, g'⟩
    refine ⟨hc _ g', ?_⟩
    intro r hr
    obtain ⟨rest, er⟩ := wtg_rdy hn
    rw [er, List.map_cons]
    generalize rest.map tsD = rs
    have gr : Gr [] S' (up S' r (.lst (tsD nx :: rs))) := .new hr
    have hr1 : up S' r (.lst (tsD nx :: rs)) r = some (.lst (.tup (nx.map D.str) :: rs)) := up_same
    have h2 := (h.keep g').keep gr
    have nr : r ≠ w ∧ r ≠ fo ∧ r ≠ pl := by
      have h3 := h.keep g'
      exact ⟨(by rintro rfl; rw [h3.hw] at hr; cases hr), (by rintro rfl; rw [h3.hfo] at hr; cases hr), (by rintro rfl; rw [h3.hpl] at hr; cases hr)⟩
    generalize up S' r (.lst (tsD nx :: rs)) = S2 at gr hr1 h2 ⊢
    have gl : nx.length ≤ 6 := by
      obtain ⟨_, _, e⟩ := left_hd hC (next_ok hn).1
      rw [e]; exact grp_len hC _
    simp_all only [rcv, bmT, h2.hfo, hr1]
    simp! only [bmW, h2.hfo]
    refine ⟨by rw [List.length_map]; omega, ?_⟩
    have hp2 : up S2 fo (.lst (f.map tsD ++ [.tup (nx.map D.str)])) pl = some (.lst (f.flatten.map .str)) := by rw [up_ne (Ne.symm h2.ne.2.2)]; exact h2.hpl
    have hr2 : up S2 fo (.lst (f.map tsD ++ [.tup (nx.map D.str)])) r = some (.lst (.tup (nx.map D.str) :: rs)) := by rw [up_ne nr.2.1]; exact hr1
    have hw2 : up S2 fo (.lst (f.map tsD ++ [.tup (nx.map D.str)])) w = some (.lst ((wtg C f).map tsD)) := by rw [up_ne h2.ne.1]; exact h2.hw
    have hf2 : up S2 fo (.lst (f.map tsD ++ [.tup (nx.map D.str)])) fo = some (.lst ((f ++ [nx]).map tsD)) := by rw [up_same, List.map_append] <;> rfl
    have G2 : Gr [fo] S2 (up S2 fo (.lst (f.map tsD ++ [.tup (nx.map D.str)]))) := .up (by simp)
    generalize up S2 fo (.lst (f.map tsD ++ [.tup (nx.map D.str)])) = S3 at hp2 hr2 hw2 hf2 G2 ⊢
    simp_all only [rcv, bmT, bmW, hp2, hr2]
    refine ⟨by simp only [List.length_map]; omega, ?_⟩
    have hr3 : up S3 pl (.lst (f.flatten.map .str ++ nx.map D.str)) r = some (.lst (.tup (nx.map D.str) :: rs)) := by rw [up_ne nr.2.2]; exact hr2
    have hw3 : up S3 pl (.lst (f.flatten.map .str ++ nx.map D.str)) w = some (.lst ((wtg C f).map tsD)) := by rw [up_ne h2.ne.2.1]; exact hw2
    have hf3 : up S3 pl (.lst (f.flatten.map .str ++ nx.map D.str)) fo = some (.lst ((f ++ [nx]).map tsD)) := by rw [up_ne h2.ne.2.2]; exact hf2
    have hp3 : up S3 pl (.lst (f.flatten.map .str ++ nx.map D.str)) pl = some (.lst ((f ++ [nx]).flatten.map .str)) := by rw [up_same, List.flatten_append, List.map_append]; simp
    have G3 : Gr [fo, pl] S2 (up S3 pl (.lst (f.flatten.map .str ++ nx.map D.str))) := (G2.mono (by simp)).trans (.up (by simp))
    generalize up S3 pl (.lst (f.flatten.map .str ++ nx.map D.str)) = S4 at hr3 hw3 hf3 hp3 G3 ⊢
    obtain ⟨a, b, ew, ga, ew2⟩ := wtg_cut hC hn
    simp_all only [rcv, bmT, bmW, hw3, hr3]
    rw [ew] at hw3
    refine removeW_ts hw3 ga ?_
    have G4 : Gr [w, fo, pl] S2 (up S4 w (.lst ((a ++ b).map tsD))) := (G3.mono (by simp)).trans (.up (by simp))
    refine hQ _ _ _ _ _ _ ⟨by rw [up_same, ew2], by rw [up_ne (Ne.symm h2.ne.1)]; exact hf3, by rw [up_ne (Ne.symm h2.ne.2.1)]; exact hp3, ?_, ⟨h2.hcs.nm, h2.hcs.ad, h2.hcs.fr, fun c hc => ?_⟩, h2.fr, h2.ne, h2.nc, ?_⟩
    · refine G4 _ _ ?_ h2.ht
      have t1 : t ≠ w := fun e => by have a := h2.ht; rw [e, h2.hw] at a; cases a
      have t2 : t ≠ fo := fun e => by have a := h2.ht; rw [e, h2.hfo] at a; cases a
      have t3 : t ≠ pl := fun e => by have a := h2.ht; rw [e, h2.hpl] at a; cases a
      simp [t1, t2, t3]
    · obtain ⟨c1, c2, c3⟩ := h2.nc c hc
      exact G4 _ _ (by simp [c1, c2, c3]) (h2.hcs.l c hc)
    · exact h2.g.fresh (A := [w, fo, pl]) (fun q hq => by
        simp only [List.mem_cons, List.not_mem_nil, or_false] at hq
        rcases hq with rfl | rfl | rfl
        · exact h2.fr.1
        · exact h2.fr.2.1
        · exact h2.fr.2.2.1) G4

theorem gowh_w {C : List Pr} (hC : OkC C) {K : Nat} (hK : 8 ≤ K) {S : Sto} {t w fo pl : Addr} {o : Obj} {vs : List (Key × V)} {T : Mt} {cs : List (Str × Addr)} {k : En} {G : List (List Str)} (hT : TOk C T)
    (hQ : ∀ u5 u6 u7 u8 u9 S2, GW C S S2 t w fo pl o vs T cs G → k.nx [some (coreD C), some (.ref t), some (.ref w), some (.ref fo), some (.ref pl), u5, u6, u7, u8, u9] S2) :
    ∀ (n : Nat) (f : List (List Str)) (S1 : Sto) u5 u6 u7 u8 u9, (wtg C f).length = n → OrdOk C f → ordF C n f = G → GW C S S1 t w fo pl o vs T cs f → whW (wp (gk (K - 1)) (.var 2)).2 (wpSs (gk (K - 1)) goBody) k (n + 1) [some (coreD C), some (.ref t), some (.ref w), some (.ref fo), some (.ref pl), u5, u6, u7, u8, u9] S1 := by
  intro n
  induction n with
  | zero =>
    intro f S1 u5 u6 u7 u8 u9 hl hf hG h
    have e := List.eq_nil_of_length_eq_zero hl
    have hw := h.hw
    rw [e] at hw
    unfold whW
    simp! only [hw, List.map_nil, List.isEmpty_nil]
    rw [show f = G from hG] at h
    exact hQ _ _ _ _ _ _ h
  | succ n ih =>
    intro f S1 u5 u6 u7 u8 u9 hl hf hG h
    have hw := h.hw
    obtain ⟨g0, r0, e0⟩ : ∃ g r, wtg C f = g :: r := by
      cases e : wtg C f with
      | nil => rw [e] at hl; cases hl
      | cons g r => exact ⟨g, r, rfl⟩
    have hm := List.mem_filter.mp (show g0 ∈ wtg C f by rw [e0]; simp)
    obtain ⟨nx, hn⟩ := next_some hC hm.1 (by simpa using hm.2)
    obtain ⟨a, b, e1, e2, e3⟩ := wtg_cut hC hn
    unfold whW
    rw [e0] at hw
    simp! only [hw, List.map_cons, List.isEmpty_cons]
    refine goturn_w hC hK hT h hf hn fun u5 u6 u7 u8 u9 S2 h2 => ?_
    refine ih (f ++ [nx]) S2 u5 u6 u7 u8 u9 ?_ (hf.snoc hn) ?_ h2
    · rw [e3]
      rw [e1] at hl
      simp only [List.length_append, List.length_cons] at hl ⊢
      omega
    · rw [← hG, ordF, hn]
theorem Cs.congr {S0 S : Sto} {N : List Str} {T T' : Mt} {cs : List (Str × Addr)} (h : Cs S0 S N T cs) (e : ∀ x ∈ N, T' x = T x) : Cs S0 S N T' cs := ⟨h.nm, h.ad, h.fr, fun c hc => by
  rw [e c.1 (by rw [← h.nm]; exact List.mem_map.mpr ⟨c, hc, rfl⟩)]
  exact h.l c hc⟩
theorem dcC_keys {S0 S : Sto} {N : List Str} {T : Mt} {cs : List (Str × Addr)} (h : Cs S0 S N T cs) : ((dcC cs).map fun p => keyD p.1) = N.map D.str := by
  rw [← h.nm]
  unfold dcC dicX
  rw [List.map_map, List.map_map, List.map_map] <;> rfl
theorem groups_w {C : List Pr} (hC : OkC C) {K : Nat} (hK : 9 ≤ K) {S : Sto} {Q : PK D} (hQ : ∀ S1, Gr [] S S1 → Q (.tup ((grps C).map tsD)) S1) : cl K "groups_of" [coreD C] S Q := by
  refine lev_run (d := f_groups_of) rfl (by omega) ⟨rfl, ?_⟩
  show wpSs (gk (K - 1)) _ (enR Q) [some (coreD C), none, none, none, none, none, none, none, none, none] S
  have hsz : sizeLine = 2 ^ 24 := rfl
  have h6 := hC.len6
  have eb : goBody = (match f_groups_of.body with
    | .cons _ (.cons _ (.cons _ (.cons _ (.cons (.wh _ b) _)))) => b
    | _ => .nil) := rfl
  unfold f_groups_of at eb ⊢
  simp only at eb
  rw [← eb]
  simp_all only
  refine walk_of (S := S) core_walk .refl fun chk hc => ?_
  refine pre_dc encP8 (fun pre acc S' => ∃ T cs, acc = dcC cs ∧ Cs S S' (pre.map (·.nm)) T cs ∧ (∀ p ∈ pre, (T p.nm).Nodup ∧ ∀ y, y ∈ T p.nm ↔ Rch C p.nm y) ∧ Gr [] S S') C ?_ ?_ ⟨fun _ => [], [], rfl, .nil, by simp, .refl⟩
  · rintro pre p post e acc S' X ⟨T, cs, rfl, hcs, hT, g⟩ hX
    refine ⟨hc _ g, ?_⟩
    have hp : p ∈ C := by rw [e]; simp
    have hpl : pre.length < C.length := by rw [e]; simp
    have hno : p.nm ∉ pre.map (·.nm) := by
      have nd := asc_nodup hC.asc
      rw [e, List.map_append, List.nodup_append] at nd
      exact fun hin => nd.2.2 _ hin _ (by simp) rfl
    unfold encP8
    simp! only [pr_0]
    refine reached_w hC (List.mem_map.mpr ⟨p, hp, rfl⟩) (by omega) fun q L S2 fq g2 h2 nd hm => ?_
    have hT' : ∀ x ∈ pre.map (·.nm), (fun g => if g = p.nm then L else T g) x = T x := fun x hx => if_neg (fun e => hno (by rw [← e]; exact hx))
    refine hX (.str p.nm) (.ref q) (.inr p.nm) S2 rfl (by rw [dcC_len, hcs.len, List.length_map]; omega) ⟨fun g => if g = p.nm then L else T g, cs ++ [(p.nm, q)], dcC_put (by rw [hcs.nm]; exact hno), ?_, fun p2 hp2 => ?_, g.trans g2⟩
    · rw [List.map_append]
      exact (hcs.congr hT').snoc g g2 fq (by simp only [if_pos]; exact h2)
    · rcases List.mem_append.mp hp2 with hp2 | hp2
      · rw [hT' p2.nm (List.mem_map.mpr ⟨p2, hp2, rfl⟩)]
        exact hT p2 hp2
      · rw [List.mem_singleton.mp hp2]
        simp only [if_pos]
        exact ⟨nd, hm⟩
  · rintro acc S' ⟨T, cs, rfl, hcs, hT, g⟩
    refine ⟨hc _ g, ?_⟩
    intro t ht
    have ft := g.free ht
    have g1 := g.trans (Gr.new (o := .dic (dcC cs)) ht)
    have hcs1 := hcs.keep (Gr.new (o := .dic (dcC cs)) ht)
    have ht1 : up S' t (.dic (dcC cs)) t = some (.dic (dcC cs)) := up_same
    generalize up S' t (.dic (dcC cs)) = S1 at g1 hcs1 ht1 ⊢
    simp_all only [keysC, ht1]
    intro o vs
    have nct : ∀ c ∈ cs, c.2 ≠ t := fun c hc2 e => by have := hcs1.l c hc2; rw [e, ht1] at this; cases this
    have hcs2 : Cs S (up S1 t (.fdc o vs (dcC cs))) (nms C) T cs := ⟨hcs1.nm, hcs1.ad, hcs1.fr, fun c hc2 => by rw [up_ne (nct c hc2)]; exact hcs1.l c hc2⟩
    have g2 : Gr [] S (up S1 t (.fdc o vs (dcC cs))) := g1.set ft
    have ht2 : up S1 t (.fdc o vs (dcC cs)) t = some (.fdc o vs (dcC cs)) := up_same
    generalize up S1 t (.fdc o vs (dcC cs)) = S2 at hcs2 g2 ht2 ⊢
    rw [dcC_keys hcs2]
    refine pre_sc D.str (fun pre acc S' => acc = pre.map (grp C) ∧ Gr [] S2 S') (nms C) ?_ ?_ ⟨rfl, .refl⟩
    · rintro pre x post e acc S' X ⟨rfl, g'⟩ hX
      refine ⟨g' _ _ (by simp) ht2, ?_⟩
      have hx : x ∈ nms C := by rw [e]; simp
      have hpl : pre.length < 6 := by
        have h1 := congrArg List.length e
        rw [nms_len] at h1
        simp at h1
        omega
      obtain ⟨p, hp, rfl⟩ := List.mem_map.mp hx
      refine group_of_w hC hp (by omega) (hcs2.keep g') hT (g' _ _ (by simp) ht2) fun S4 g4 => ?_
      refine hX _ _ _ (tsOf_ts _) ⟨by rw [List.length_map]; omega, fun e => ?_⟩ ⟨by rw [List.map_append] <;> rfl, g'.trans g4⟩
      have := grp_self hx
      rw [e] at this
      cases this
    · rintro acc S' ⟨rfl, g'⟩
      refine ⟨g' _ _ (by simp) ht2, ?_⟩
      intro out hn hm hp w hw
      have el : out = left C := left_uniq hC hn hp fun q => by rw [hm q, List.mem_map]; exact ⟨fun ⟨x, hx, e⟩ => ⟨x, hx, e.symm⟩, fun ⟨x, hx, e⟩ => ⟨x, hx, e.symm⟩⟩
      rw [el]
      have G3 := (g2.trans g').trans (Gr.new (o := .lst ((left C).map tsD)) hw)
      have fw := (g2.trans g').free hw
      have hw3 : up S' w (.lst ((left C).map tsD)) w = some (.lst ((wtg C []).map tsD)) := by
        rw [up_same]
        unfold wtg
        rw [List.filter_eq_self.mpr fun g _ => by simp]
      have ht3 : up S' w (.lst ((left C).map tsD)) t = some (.fdc o vs (dcC cs)) := (g'.trans (Gr.new hw)) _ _ (by simp) ht2
      have hcs3 := hcs2.keep (g'.trans (Gr.new (o := .lst ((left C).map tsD)) hw))
      have nw : ∀ c ∈ cs, c.2 ≠ w := fun c hc2 e => by have := (hcs2.keep g').l c hc2; rw [e, hw] at this; cases this
      generalize up S' w (.lst ((left C).map tsD)) = S3 at G3 hw3 ht3 hcs3 ⊢
      simp_all only
      intro fo hfo
      have g4 : Gr [] S3 (up S3 fo (.lst [])) := .new hfo
      have ho4 : up S3 fo (.lst []) fo = some (.lst (([] : List (List Str)).map tsD)) := up_same
      generalize up S3 fo (.lst []) = S4 at g4 ho4 ⊢
      simp_all only
      intro pl hpl
      have g5 : Gr [] S4 (up S4 pl (.lst [])) := .new hpl
      have hp5 : up S4 pl (.lst []) pl = some (.lst ((([] : List (List Str)).flatten).map .str)) := up_same
      generalize up S4 pl (.lst []) = S5 at g5 hp5 ⊢
      have h : GW C S S5 t w fo pl o vs T cs [] := by
        refine ⟨(g4.trans g5) _ _ (by simp) hw3, g5 _ _ (by simp) ho4, hp5, (g4.trans g5) _ _ (by simp) ht3, hcs3.keep (g4.trans g5), ⟨fw, G3.free hfo, (G3.trans g4).free hpl, ft⟩, ⟨?_, ?_, ?_⟩, fun c hc2 => ⟨nw c hc2, ?_, ?_⟩, (G3.trans g4).trans g5⟩
        · rintro rfl; rw [hw3] at hfo; cases hfo
        · rintro rfl; rw [g4 _ _ (by simp) hw3] at hpl; cases hpl
        · rintro rfl; rw [ho4] at hpl; cases hpl
        · intro e; have := hcs3.l c hc2; rw [e, hfo] at this; cases this
        · intro e; have := (hcs3.keep g4).l c hc2; rw [e, hpl] at this; cases this
      rw [wpSs_cons]
      have wl : (wtg C []).length = (left C).length := by unfold wtg; rw [List.filter_eq_self.mpr fun g _ => by simp]
      refine ⟨_, gowh_w hC (by omega) (G := grps C) hT (fun u5 u6 u7 u8 u9 S6 h6 => ?_) _ [] S5 none none none none none wl .nil rfl h⟩
      dsimp only
      simp_all only [bfW, h6.hfo]
      exact ret_ok (hQ S6 h6.g)
/-! ways down -/
theorem dic_len (T : Ps) : (dicE T).length = T.length := by unfold dicE; rw [List.length_map]
theorem ways_w {C : List Pr} (hC : OkC C) {K : Nat} (hK : 11 ≤ K) {S : Sto} {Q : PK D} (hQ : ∀ t S1, Gr [] S S1 → S1 t = some (.dic (dicE (wayF C (grps C)))) → Q (.ref t) S1) : cl K "ways_table" [coreD C] S Q := by
  refine lev_run (d := f_ways_table) rfl (by omega) ⟨rfl, ?_⟩
  show wpSs (gk (K - 1)) _ (enR Q) [some (coreD C), none, none, none, none, none] S
  have hsz : sizeLine = 2 ^ 24 := rfl
  have ok := grps_ok (C := C)
  obtain ⟨fl1, fl2⟩ := flat_len hC ok
  unfold f_ways_table
  simp_all only
  intro t ht
  have g0 : Gr [] S (up S t (.dic [])) := .new ht
  have h0 : up S t (.dic []) t = some (.dic (dicE (wayF C []))) := up_same
  generalize up S t (.dic []) = S1 at g0 h0 ⊢
  simp_all only
  refine groups_w hC (by omega) fun S2 g2 => ?_
  have h02 := g2 _ _ (by simp) h0
  unfold walkC
  refine pre_loop tsD (fun pre ρ S' => (∃ u2 u3 u4 u5 : Option D, ρ = [some (coreD C), some (.ref t), u2, u3, u4, u5]) ∧ Gr [] S S' ∧ S' t = some (.dic (dicE (wayF C pre)))) (grps C) ?_ ?_ ⟨⟨_, _, _, _, rfl⟩, g0.trans g2, h02⟩
  · rintro pre g post e ρ S' X ⟨⟨u2, u3, u4, u5, rfl⟩, gr, h⟩ hX
    refine ⟨trivial, ?_⟩
    have hg : g ∈ left C := ok.sub g (by rw [e]; simp)
    have gl : g.length ≤ 6 := by
      obtain ⟨_, _, e⟩ := left_hd hC hg
      rw [e]; exact grp_len hC _
    have pl : pre.length ≤ 6 := by have := congrArg List.length e; simp at this; omega
    have wl : (wayF C pre).length ≤ 36 := by
      have h1 := wayF_len (C := C) pre []
      have h2 : (pre.map List.length).sum = pre.flatten.length := by rw [List.length_flatten]
      have h3 : pre.flatten.length ≤ (grps C).flatten.length := by rw [e, List.flatten_append, List.length_append]; omega
      unfold wayF
      simp only [List.length_nil] at h1
      omega
    unfold tsD
    simp! only
    simp_all only
    simp_all only
    unfold walkC
    refine pre_loop D.str (fun px ρ S2 => (∃ u4 u5 : Option D, ρ = [some (coreD C), some (.ref t), some (.tup (g.map D.str)), some (.int ((px.flatMap (calsN C)).foldl (stepT g (wayF C pre)) 0)), u4, u5]) ∧ Gr [] S' S2) g ?_ ?_ ⟨⟨_, _, rfl⟩, .refl⟩
    · rintro px x qx ex ρ S2 Y ⟨⟨u4, u5, rfl⟩, g2⟩ hY
      refine ⟨trivial, ?_⟩
      have hxg : x ∈ g := by rw [ex]; simp
      obtain ⟨hxn, _⟩ := left_in hC hg hxg
      obtain ⟨p, hp, rfl⟩ := List.mem_map.mp hxn
      simp! only
      simp_all only
      refine proc_named_w hC hp (by omega) fun S3 g3 => ?_
      refine calls_w hC hp (by omega) fun q S4 fq g4 h4 => ?_
      have G4 := (g2.trans g3).trans g4
      have ht4 := G4 _ _ (by simp) h
      refine walk_of (.inr ⟨q, rfl, h4⟩) .refl fun chk hc => ?_
      refine pre_loop D.str (fun pc ρ S5 => (∃ u5 : Option D, ρ = [some (coreD C), some (.ref t), some (.tup (g.map D.str)), some (.int (pc.foldl (stepT g (wayF C pre)) ((px.flatMap (calsN C)).foldl (stepT g (wayF C pre)) 0))), some (.str p.nm), u5]) ∧ S5 = S4) (cals p) ?_ ?_ ⟨⟨_, rfl⟩, rfl⟩
      · rintro pc c qc ec ρ S5 Z ⟨⟨u5, rfl⟩, rfl⟩ hZ
        refine ⟨hc _ .refl, ?_⟩
        simp! only
        simp_all only
        refine inL_strs ?_
        by_cases hm : c ∈ g
        · rw [decide_eq_true hm]
          simp! only
          refine hZ _ _ ⟨⟨some (.str c), ?_⟩, rfl⟩
          have es : ∀ z, stepT g (wayF C pre) z c = z := fun z => if_pos hm
          rw [List.foldl_append, List.foldl_cons, List.foldl_nil, es]
        · rw [decide_eq_false hm]
          have hk := call_out hC ok e hxg (by rw [hC.cn hp, ec]; simp) hm
          simp! only
          simp_all only [ht4, keyOf, find_mem hk, augW]
          refine hZ _ _ ⟨⟨some (.str c), ?_⟩, rfl⟩
          have es : ∀ z, stepT g (wayF C pre) z c = z + (1 + getA (wayF C pre) c) := fun z => if_neg hm
          rw [List.foldl_append, List.foldl_cons, List.foldl_nil, es]
      · rintro ρ S5 ⟨⟨u5, rfl⟩, rfl⟩
        refine ⟨hc _ .refl, ?_⟩
        refine hY _ _ ⟨⟨some (.str p.nm), u5, ?_⟩, G4⟩
        rw [List.flatMap_append, List.foldl_append, List.flatMap_cons, List.flatMap_nil, List.append_nil, hC.cn hp]
    · rintro ρ S2 ⟨⟨u4, u5, rfl⟩, g2⟩
      refine ⟨trivial, ?_⟩
      have et : (g.flatMap (calsN C)).foldl (stepT g (wayF C pre)) 0 = totF C (wayF C pre) g := rfl
      rw [et]
      simp_all only
      unfold walkC
      refine pre_loop D.str (fun px ρ S3 => (∃ u4 u5 : Option D, ρ = [some (coreD C), some (.ref t), some (.tup (g.map D.str)), some (.int (totF C (wayF C pre) g)), u4, u5]) ∧ Gr [] S S3 ∧ S3 t = some (.dic (dicE (px.foldl (fun T' x => putA T' x (totF C (wayF C pre) g)) (wayF C pre)))) ∧ (px.foldl (fun T' x => putA T' x (totF C (wayF C pre) g)) (wayF C pre)).length ≤ 36 + px.length) g ?_ ?_ ⟨⟨_, _, rfl⟩, gr.trans g2, g2 _ _ (by simp) h, by simpa using wl⟩
      · rintro px x qx ex ρ S3 Y ⟨⟨u4, u5, rfl⟩, g3, h3, l3⟩ hY
        refine ⟨trivial, ?_⟩
        have pxl : px.length ≤ 6 := by have := congrArg List.length ex; simp at this; omega
        simp! only
        simp_all only [h3, setC, keyOf]
        refine ⟨by rw [dic_len]; omega, ?_⟩
        refine hY _ _ ⟨⟨_, _, rfl⟩, g3.set ht, ?_, ?_⟩
        · rw [up_same, List.foldl_append, List.foldl_cons, List.foldl_nil, putD_dicE]
        · rw [List.foldl_append, List.foldl_cons, List.foldl_nil, List.length_append, List.length_singleton]
          have := (putA_length (acc := px.foldl (fun T' x => putA T' x (totF C (wayF C pre) g)) (wayF C pre)) (x := x) (v := totF C (wayF C pre) g)).2
          omega
      · rintro ρ S3 ⟨⟨u4, u5, rfl⟩, g3, h3, l3⟩
        refine ⟨trivial, ?_⟩
        exact hX _ _ ⟨⟨_, _, _, _, rfl⟩, g3, by rw [h3, wayF_snoc] <;> rfl⟩
  · rintro ρ S' ⟨⟨u2, u3, u4, u5, rfl⟩, gr, h⟩
    refine ⟨trivial, ?_⟩
    simp_all only
    exact ret_ok (hQ t S' gr h)
theorem ways_down_w {C : List Pr} (hC : OkC C) {g : List Str} (hg : g ∈ grps C) {K : Nat} (hK : 12 ≤ K) {S : Sto} {Q : PK D} (hQ : ∀ S1, Gr [] S S1 → Q (.int (getA (wayF C (grps C)) (hdS g))) S1) : cl K "ways_down" [coreD C, tsD g] S Q := by
  refine lev_run (d := f_ways_down) rfl (by omega) ⟨rfl, ?_⟩
  show wpSs (gk (K - 1)) _ (enR Q) [some (coreD C), some (.tup (g.map D.str))] S
  obtain ⟨p, hp, ep, hat⟩ := ts_hd hC (grps_ok.sub g hg)
  have hk : p.nm ∈ (wayF C (grps C)).map (·.1) := wayF_key (List.mem_flatten.mpr ⟨g, hg, by rw [ep]; exact (left_hd hC (grps_ok.sub g hg)).1⟩)
  unfold f_ways_down
  simp_all only
  refine ways_w hC (by omega) fun t S1 g1 h1 => ?_
  simp! only [hat, h1, keyOf, find_mem hk]
  rw [ep]
  exact ret_ok (hQ S1 g1)

theorem perm_map_inv {α β : Type} (f : α → β) {l es : List β} (h : l.Perm es) : ∀ L : List α, l = L.map f → ∃ L' : List α, L'.Perm L ∧ es = L'.map f := by
  induction h with
  | nil =>
    intro L e
    cases L with
    | nil => exact ⟨[], .nil, rfl⟩
    | cons _ _ => simp at e
  | cons x h ih =>
    intro L e
    cases L with
    | nil => simp at e
    | cons a L =>
      simp only [List.map_cons, List.cons.injEq] at e
      obtain ⟨L', p, e2⟩ := ih L e.2
      exact ⟨a :: L', p.cons a, by rw [List.map_cons, e.1, e2]⟩
  | swap x y l =>
    intro L e
    match L, e with
    | a :: b :: L, e =>
      simp only [List.map_cons, List.cons.injEq] at e
      exact ⟨b :: a :: L, List.Perm.swap a b L, by rw [List.map_cons, List.map_cons, e.1, e.2.1, e.2.2]⟩
  | trans h1 h2 ih1 ih2 =>
    intro L e
    obtain ⟨L1, p1, e1⟩ := ih1 L e
    obtain ⟨L2, p2, e2⟩ := ih2 L1 e1
    exact ⟨L2, p2.trans p1, e2⟩
def parL (C : List Pr) (p : Pr) : List Pair := (C.filter fun q => decide (q.nm = p.nm) || decide (q.nm ∈ cals p)).map fun q => (p.nm, q.nm)
theorem parL_len (C : List Pr) (p : Pr) : (parL C p).length ≤ C.length := by unfold parL; rw [List.length_map]; exact List.length_filter_le _ _
theorem parF_len (C : List Pr) : ∀ l : List Pr, (l.flatMap (parL C)).length ≤ C.length * l.length
  | [] => by simp
  | p :: l => by
    have h1 := parL_len C p
    have h2 := parF_len C l
    rw [List.flatMap_cons, List.length_append, List.length_cons, Nat.mul_add, Nat.mul_one]
    omega
theorem par_ok {C : List Pr} (hC : OkC C) : LRch C 0 (C.flatMap (parL C)) := by
  refine ⟨?_, fun z hz => ?_, fun x hx y hy => ?_⟩
  · have := parF_len C C
    have e := hC.len6
    have : C.length * C.length ≤ 6 * 6 := Nat.mul_le_mul e e
    omega
  · obtain ⟨p, hp, hz⟩ := List.mem_flatMap.mp hz
    obtain ⟨q, hq, rfl⟩ := List.mem_map.mp hz
    obtain ⟨h1, h2⟩ := List.mem_filter.mp hq
    refine ⟨List.mem_map.mpr ⟨p, hp, rfl⟩, ?_⟩
    rw [Bool.or_eq_true, decide_eq_true_eq, decide_eq_true_eq] at h2
    rcases h2 with h2 | h2
    · show Rch C p.nm q.nm
      rw [h2]; exact .refl _
    · exact .one ⟨p, hp, rfl, h2⟩
  · obtain ⟨z, e, h⟩ := hy
    have e : x = z := e
    subst e
    obtain ⟨p, hp, rfl⟩ := List.mem_map.mp hx
    refine List.mem_flatMap.mpr ⟨p, hp, ?_⟩
    have hy : y ∈ nms C := by
      rcases h with rfl | h
      · exact hx
      · exact cal_mem hC h
    obtain ⟨q, hq, rfl⟩ := List.mem_map.mp hy
    refine List.mem_map.mpr ⟨q, List.mem_filter.mpr ⟨hq, ?_⟩, rfl⟩
    rw [Bool.or_eq_true, decide_eq_true_eq, decide_eq_true_eq]
    rcases h with h | ⟨p2, hp2, e2, h⟩
    · exact .inl h.symm
    · rw [hC.inj hp2 hp e2] at h
      exact .inr h
theorem cmp_len {P : List Pair} (h : P.length ≤ 36) (l : List Pair) : (l.flatMap fun w => (P.filter fun z => decide (z.1 = w.2)).map fun z => (w.1, z.2)).length ≤ 36 * l.length := by
  induction l with
  | nil => simp
  | cons w l ih =>
    have h1 := List.length_filter_le (fun z => decide (z.1 = w.2)) P
    rw [List.flatMap_cons, List.length_append, List.length_map, List.length_cons]
    omega
theorem ts_pr (z : Pair) : encPr z = tsD [z.1, z.2] := rfl
theorem lreach_w {C : List Pr} (hC : OkC C) {K : Nat} (hK : 7 ≤ K) {S : Sto} {Q : PK D} (hQ : ∀ (q : Addr) (P : List Pair) (S1 : Sto), S q = none → Gr [] S S1 → S1 q = some (.lst (P.map encPr)) → P.length ≤ 36 → (∀ x y, (x, y) ∈ P ↔ x ∈ nms C ∧ Rch C x y) → Q (.ref q) S1) : cl K "_law_reach" [coreD C] S Q := by
  refine lev_run (d := f__law_reach) rfl (by omega) ⟨rfl, ?_⟩
  show wpSs (gk (K - 1)) _ (enR Q) [some (coreD C), none, none, none, none, none, none, none, none, none, none, none] S
  have hsz : sizeLine = 2 ^ 24 := rfl
  have h6 := hC.len6
  unfold f__law_reach
  simp_all only
  intro p0 hp0
  have g0 : Gr [] S (up S p0 (.lst [])) := .new hp0
  simp_all only
  refine walk_of (S := S) core_walk g0 fun chk hc => ?_
  refine pre_loop encP8 (fun pre ρ S' => (∃ (pa : Addr) (u2 u4 : Option D), ρ = [some (coreD C), some (.ref pa), u2, none, u4, none, none, none, none, none, none, none] ∧ S' pa = some (.lst ((pre.flatMap (parL C)).map encPr)) ∧ S pa = none) ∧ Gr [] S S') C ?_ ?_ ⟨⟨p0, _, _, rfl, up_same, hp0⟩, g0⟩
  · rintro pre p post e ρ S' X ⟨⟨pa, u2, u4, rfl, h, fp⟩, g⟩ hX
    refine ⟨hc _ g, ?_⟩
    have hp : p ∈ C := by rw [e]; simp
    have hpre : pre.length ≤ 6 := by have := congrArg List.length e; simp at this; omega
    have hl1 := parF_len C pre
    have hl2 := parL_len C p
    have hl3 : C.length * pre.length ≤ 6 * 6 := Nat.mul_le_mul h6 hpre
    simp! only
    simp_all only
    refine lcalls_w hC hp (by omega) fun q S1 fq g1 h1 => ?_
    have hp1 := g1 _ _ (by simp) h
    simp_all only
    refine walk_of (S := S1) core_walk .refl fun chk2 hk2 => ?_
    refine lc_fm encP8 (fun q => if (decide (q.nm = p.nm) || decide (q.nm ∈ cals p)) = true then some (encPr (p.nm, q.nm)) else none) (hk2 _ .refl) C [] ?_ (by simp; omega) ?_
    · intro q2 hq2 Y hY
      unfold encP8
      simp! only [pr_0]
      by_cases e1 : q2.nm = p.nm
      · rw [decide_eq_true e1, Bool.true_or] at hY
        rw [decide_eq_true e1]
        simp! only [pr_0]
        exact hY
      · rw [decide_eq_false e1, Bool.false_or] at hY
        rw [decide_eq_false e1]
        simp! only [pr_0, h1]
        refine inL_strs ?_
        by_cases e2 : q2.nm ∈ cals p
        · rw [decide_eq_true e2] at hY ⊢
          exact hY
        · rw [decide_eq_false e2] at hY ⊢
          exact hY
    intro q4 hq4
    rw [fm_if, List.nil_append]
    have em : ((C.filter fun q => decide (q.nm = p.nm) || decide (q.nm ∈ cals p)).map fun q => encPr (p.nm, q.nm)) = (parL C p).map encPr := by unfold parL; rw [List.map_map] <;> rfl
    rw [em]
    have h4 := (Gr.new (A := []) (o := .lst ((parL C p).map encPr)) hq4) _ _ (by simp) hp1
    simp! only [h4, up_same]
    refine ⟨by simp only [List.length_map]; omega, ?_⟩
    intro q5 hq5
    have G4 := (g.trans g1).trans (Gr.new (o := .lst ((parL C p).map encPr)) hq4)
    refine hX _ _ ⟨⟨q5, _, _, rfl, ?_, G4.free hq5⟩, G4.trans (.new hq5)⟩
    rw [up_same, List.flatMap_append, List.map_append]
    simp
  · rintro ρ S' ⟨⟨pa, u2, u4, rfl, h, fp⟩, g⟩
    refine ⟨hc _ g, ?_⟩
    simp_all only
    have cl : ((C.map encP8).length : Int).toNat = C.length := by rw [List.length_map]; rfl
    unfold coreD
    simp! only [bfW]
    refine ⟨⟨by rw [List.length_map]; omega, by rw [List.length_map]; omega⟩, ?_⟩
    rw [cl]
    unfold rngD
    refine pre_loop (fun i : Nat => D.int (0 + (i : Int))) (fun pre ρ S' => ∃ (pa : Addr) (P : List Pair) (u3 u5 u6 u7 : Option D), ρ = [some (.tup (C.map encP8)), some (.ref pa), u2, u3, u4, u5, u6, u7, none, none, none, none] ∧ S' pa = some (.lst (P.map encPr)) ∧ S pa = none ∧ Gr [] S S' ∧ LRch C pre.length P) (List.range C.length) ?_ ?_ ⟨pa, _, _, _, _, _, rfl, h, fp, g, par_ok hC⟩
    · rintro pre i post e ρ S2 X ⟨pa, P, u3, u5, u6, u7, rfl, h, fp, g, lr⟩ hX
      refine ⟨trivial, ?_⟩
      have hpl := lr.ln
      simp! only
      simp_all only
      intro m0 hm0
      have gm : Gr [] S2 (up S2 m0 (.lst [])) := .new hm0
      have hm : up S2 m0 (.lst []) m0 = some (.lst (([] : List Pair).map encPr)) := up_same
      have hP := gm _ _ (by simp) h
      have fm := g.free hm0
      have G3 := g.trans gm
      generalize up S2 m0 (.lst []) = S3 at gm hm hP G3 ⊢
      simp_all only
      refine walk_of (.inr ⟨pa, rfl, hP⟩) .refl fun chk2 hk2 => ?_
      refine pre_loop encPr (fun pw ρ S' => (∃ (mo : Addr) (u6 u7 : Option D), ρ = [some (.tup (C.map encP8)), some (.ref pa), u2, some (.int (0 + (i : Int))), u4, some (.ref mo), u6, u7, none, none, none, none] ∧ S' mo = some (.lst ((pw.flatMap fun w => (P.filter fun z => decide (z.1 = w.2)).map fun z => (w.1, z.2)).map encPr)) ∧ S mo = none) ∧ Gr [] S3 S') P ?_ ?_ ⟨⟨m0, _, _, rfl, hm, fm⟩, .refl⟩
      · rintro pw w qw ew ρ S4 Y ⟨⟨mo, u6, u7, rfl, h4, fmo⟩, g4⟩ hY
        refine ⟨hk2 _ g4, ?_⟩
        have pwl : pw.length ≤ 36 := by have := congrArg List.length ew; simp at this; omega
        have hcl := cmp_len hpl pw
        have hP4 := g4 _ _ (by simp) hP
        unfold encPr
        simp! only
        refine ⟨rfl, ?_⟩
        simp_all only
        refine walk_of (.inr ⟨pa, rfl, hP4⟩) .refl fun chk3 hk3 => ?_
        refine lc_fm encPr (fun z => if decide (z.1 = w.2) = true then some (encPr (w.1, z.2)) else none) (hk3 _ .refl) P [] ?_ (by simp; omega) ?_
        · intro z hz Z hZ
          unfold encPr
          simp! only
          refine ⟨rfl, ?_⟩
          split
          · rename_i e; rw [if_pos e] at hZ; exact hZ
          · rename_i e; rw [if_neg e] at hZ; exact hZ
        intro q5 hq5
        rw [fm_if, List.nil_append]
        have em : ((P.filter fun z => decide (z.1 = w.2)).map fun z => encPr (w.1, z.2)) = ((P.filter fun z => decide (z.1 = w.2)).map fun z => (w.1, z.2)).map encPr := by rw [List.map_map] <;> rfl
        have el := List.length_filter_le (fun z => decide (z.1 = w.2)) P
        rw [em]
        have h5 := (Gr.new (A := []) (o := .lst (((P.filter fun z => decide (z.1 = w.2)).map fun z => (w.1, z.2)).map encPr)) hq5) _ _ (by simp) h4
        unfold encPr at h5 ⊢
        simp! only [h5, up_same]
        refine ⟨by simp only [List.length_map]; omega, ?_⟩
        intro q6 hq6
        have G5 : Gr [] S3 (up S4 q5 (.lst (((P.filter fun z => decide (z.1 = w.2)).map fun z => (w.1, z.2)).map encPr))) := g4.trans (Gr.new hq5)
        refine hY _ _ ⟨⟨q6, _, _, rfl, ?_, (G3.trans G5).free hq6⟩, G5.trans (.new hq6)⟩
        rw [up_same, List.flatMap_append, List.map_append]
        simp
        rfl
      · rintro ρ S4 ⟨⟨mo, u6, u7, rfl, h4, fmo⟩, g4⟩
        refine ⟨hk2 _ g4, ?_⟩
        have hcl := cmp_len hpl P
        have ec : (P.flatMap fun w => (P.filter fun z => decide (z.1 = w.2)).map fun z => (w.1, z.2)) = cmpP P := rfl
        rw [ec] at h4 hcl
        generalize hMM : cmpP P = M at h4 hcl
        simp_all only [h4, bfW, List.length_map]
        refine ⟨⟨by omega, by omega⟩, ?_⟩
        rw [show ((M.length : Int)).toNat = M.length from rfl]
        unfold rngD
        refine pre_lc (fun i : Nat => D.int (0 + (i : Int))) (fun pre acc S' => ∃ L : List Pair, acc = L.map encPr ∧ L.Nodup ∧ (∀ z, z ∈ L ↔ z ∈ M.take pre.length) ∧ Gr [] S4 S') (List.range M.length) (by simp; omega) ?_ ?_ ⟨[], rfl, .nil, by simp, .refl⟩
        · rintro pk k qk ek acc S5 Y ⟨L, rfl, nd, hm, g5⟩ hY hYn
          refine ⟨trivial, ?_⟩
          obtain ⟨k1, k2⟩ := range_mid ek
          have h45 := g5 _ _ (by simp) h4
          have ak : atI (M.map encPr) (0 + (k : Int)) = some (encPr M[k]) := by rw [atI_nat (by rw [List.length_map]; exact k1), List.getElem_map]
          have ecut : cutG (M.map encPr) none (some (0 + (k : Int))) = (M.take k).map encPr := by
            rw [cut_hi _ (by omega) (by rw [List.length_map]; omega), ← List.map_take]
            congr 2
            omega
          simp! only [h45, ak, slC, ecut]
          intro q6 hq6
          have g6 : Gr [] S5 (up S5 q6 (.lst ((M.take k).map encPr))) := .new hq6
          have h46 := g6 _ _ (by simp) h45
          have e6 : up S5 q6 (.lst ((M.take k).map encPr)) q6 = some (.lst ((M.take k).map encPr)) := up_same
          generalize up S5 q6 (.lst ((M.take k).map encPr)) = S6 at g6 h46 e6 ⊢
          have etk : M.take (k + 1) = M.take k ++ [M[k]] := by rw [List.take_succ_eq_append_getElem k1]
          first | simp! only [e6] | skip
          refine inL_prs (z := M[k]) ?_
          by_cases hin : M[k] ∈ M.take k
          · rw [decide_eq_true hin]
            simp! only
            refine hYn _ ⟨L, rfl, nd, fun z => ?_, g5.trans g6⟩
            rw [hm z, List.length_append, List.length_singleton, ← k2, etk, List.mem_append, List.mem_singleton]
            exact ⟨.inl, fun h => h.elim id fun h => by rw [h]; exact hin⟩
          · rw [decide_eq_false hin]
            simp! only [h46, ak]
            refine hY _ _ ⟨L ++ [M[k]], by simp, ?_, fun z => ?_, g5.trans g6⟩
            · refine List.nodup_append.mpr ⟨nd, by simp, fun a ha b hb => ?_⟩
              rw [List.mem_singleton.mp hb]
              rintro rfl
              rw [hm, ← k2] at ha
              exact hin ha
            · rw [List.mem_append, hm z, List.length_append, List.length_singleton, ← k2, etk, List.mem_append]
        · rintro acc S5 ⟨L, rfl, nd, hm, g5⟩
          refine ⟨trivial, ?_⟩
          rw [List.length_range, List.take_length] at hm
          intro q6 hq6
          have g6 : Gr [] S5 (up S5 q6 (.lst (L.map encPr))) := .new hq6
          have e6 : up S5 q6 (.lst (L.map encPr)) q6 = some (.lst (L.map encPr)) := up_same
          generalize up S5 q6 (.lst (L.map encPr)) = S6 at g6 e6 ⊢
          have lr2 : LRch C (pre.length + 1) L := lr.next nd (fun z => by rw [hm z, hMM]) hC
          have ne : L ≠ [] := fun e0 => by
            have hc0 : ∃ p, p ∈ C := by
              cases hh : C with
              | nil => have := hC.len.1; rw [hh] at this; simp at this
              | cons p r => exact ⟨p, by simp⟩
            obtain ⟨p, hp⟩ := hc0
            have := lr2.cmp p.nm (List.mem_map.mpr ⟨p, hp, rfl⟩) p.nm ((Stp.le (k := 0) (m := 2 ^ (pre.length + 1)) rfl (Nat.zero_le _)))
            rw [e0] at this
            cases this
          have es : strsOf (L.map encPr) = none := by
            cases L with
            | nil => exact (ne rfl).elim
            | cons z r => rfl
          have et : tupsOf (L.map encPr) = some (L.map fun z => [z.1, z.2]) := by
            have := tupsOf_map (L.map fun z => [z.1, z.2])
            rw [List.map_map] at this
            exact this
          simp! only [e6, es, et]
          refine ⟨⟨by rw [List.length_map]; have := lr2.ln; omega, fun k hk => by obtain ⟨z, _, rfl⟩ := List.mem_map.mp hk; simp⟩, fun out hperm hsort q7 hq7 => ?_⟩
          obtain ⟨P2, pp, rfl⟩ := perm_map_inv (fun z : Pair => [z.1, z.2]) hperm.symm L rfl
          have eo : (P2.map fun z => [z.1, z.2]).map tsD = P2.map encPr := by rw [List.map_map] <;> rfl
          rw [eo]
          have G6 := ((G3.trans g4).trans g5).trans g6
          refine hX _ _ ⟨q7, P2, _, _, _, _, rfl, up_same, G6.free hq7, G6.trans (.new hq7), ?_⟩
          rw [List.length_append, List.length_singleton]
          exact lr.next (pp.nodup_iff.mpr nd) (fun z => by rw [pp.mem_iff, hm z, hMM]) hC
    · rintro ρ S2 ⟨pa, P, u3, u5, u6, u7, rfl, h, fp, g, lr⟩
      refine ⟨trivial, ?_⟩
      rw [List.length_range] at lr
      simp_all only
      exact ret_ok (hQ pa P S2 fp g h lr.ln fun x y => lr.iff hC)

theorem and_ev2 {g : G} {e f : E} {ρ : Ev} {S : Sto} (b1 b2 : Bool) (h1 : ∀ Q : Bool → Sto → Prop, Q b1 S → (wp g e).2 ρ S Q) (h2 : b1 = true → ∀ Q : Bool → Sto → Prop, Q b2 S → (wp g f).2 ρ S Q) :
    ∀ Q : Bool → Sto → Prop, Q (b1 && b2) S → (wp g (.andE (.cons e (.cons f .nil)))).2 ρ S Q := by
  intro Q hQ
  rw [wp, wpAnd]
  refine h1 _ ?_
  cases b1 with
  | false => exact hQ
  | true =>
    show (wpAnd g (.cons f .nil)).2 ρ S Q
    rw [wpAnd]
    exact h2 rfl _ hQ
open Classical in
theorem inL_ts {g : List Str} {L : List (List Str)} {Q : Bool → Prop} (h : Q (decide (g ∈ L))) : inL (tsD g) (L.map tsD) Q := by
  refine inL_dat (ts_dat g) (ts_dats L) (Nat.le_trans (Nat.min_le_right _ _) (ts_dep g)) ?_
  have e : decide (tsD g ∈ L.map tsD) = decide (g ∈ L) := by
    apply decide_eq_decide.mpr
    constructor
    · intro hm
      obtain ⟨y, hy, e⟩ := List.mem_map.mp hm
      rw [← ts_inj e]; exact hy
    · intro hm
      exact List.mem_map.mpr ⟨g, hm, rfl⟩
  rw [e]; exact h
theorem ordF_none {C : List Pr} {f : List (List Str)} (h : nextG C f = none) : ∀ m, ordF C m f = f
  | 0 => rfl
  | m + 1 => by rw [ordF, h]
theorem leftP_len (C : List Pr) : ∀ (post : List Str) (acc : List (List Str)), (post.foldl (lfA C) acc).length ≤ acc.length + post.length
  | [], acc => by simp
  | x :: post, acc => by
    have h1 := leftP_len C post (lfA C acc x)
    have h2 : (lfA C acc x).length ≤ acc.length + 1 := by unfold lfA; split <;> simp
    rw [List.foldl_cons, List.length_cons]; omega
open Classical in
theorem rdy_dec2 {C : List Pr} (hC : OkC C) {P : List Pair} (hP : ∀ x y, (x, y) ∈ P ↔ x ∈ nms C ∧ Rch C x y) {f : List (List Str)} {g : List Str} (hg : g ∈ left C) : ((((P.filter fun z => decide (z.1 = hdS g) && !decide (z.2 ∈ g)).map (·.2)).map fun y => decide (y ∈ f.flatten)).all id) = decide (Rdy C f g) := by
  obtain ⟨_, hn, _⟩ := left_hd hC hg
  rw [Bool.eq_iff_iff, List.all_eq_true, decide_eq_true_eq]
  unfold Rdy
  constructor
  · intro h y hy
    by_cases hyg : y ∈ g
    · exact .inl hyg
    · have := h _ (List.mem_map.mpr ⟨y, List.mem_map.mpr ⟨(hdS g, y), List.mem_filter.mpr ⟨(hP _ _).mpr ⟨hn, hy⟩, by simp [hyg]⟩, rfl⟩, rfl⟩)
      exact .inr (by simpa using this)
  · intro h b hb
    obtain ⟨y, hy, rfl⟩ := List.mem_map.mp hb
    obtain ⟨z, hz, rfl⟩ := List.mem_map.mp hy
    obtain ⟨h1, h2⟩ := List.mem_filter.mp hz
    simp only [Bool.and_eq_true, decide_eq_true_eq, Bool.not_eq_true', decide_eq_false_iff_not] at h2
    have := h z.2 (by rw [← h2.1]; exact ((hP z.1 z.2).mp h1).2)
    rcases this with q | q
    · exact (h2.2 q).elim
    · simpa using q
open Classical in
theorem lgroups_w {C : List Pr} (hC : OkC C) {K : Nat} (hK : 1 ≤ K) {S : Sto} {pa : Addr} {P : List Pair} (hPa : S pa = some (.lst (P.map encPr))) (hPl : P.length ≤ 36) (hP : ∀ x y, (x, y) ∈ P ↔ x ∈ nms C ∧ Rch C x y) {Q : PK D} (hQ : ∀ (q : Addr) (S1 : Sto), S q = none → Gr [] S S1 → S1 q = some (.lst ((grps C).map tsD)) → Q (.ref q) S1) : cl K "_law_groups" [coreD C, .ref pa] S Q := by
  refine lev_run (d := f__law_groups) rfl (by omega) ⟨rfl, ?_⟩
  show wpSs (gk (K - 1)) _ (enR Q) [some (coreD C), some (.ref pa), none, none, none, none, none, none, none, none, none, none, none] S
  have hsz : sizeLine = 2 ^ 24 := rfl
  have h6 := hC.len6
  have lfl := left_len hC
  unfold f__law_groups
  simp_all only
  intro le hle
  have g0 : Gr [] S (up S le (.lst [])) := .new hle
  simp_all only
  refine walk_of (S := S) core_walk g0 fun chk hc => ?_
  refine pre_loop encP8 (fun pre ρ S' => (∃ u3 u7 : Option D, ρ = [some (coreD C), some (.ref pa), some (.ref le), u3, none, none, none, u7, none, none, none, none, none]) ∧ S' le = some (.lst (((pre.map (·.nm)).foldl (lfA C) []).map tsD)) ∧ Gr [] S S') C ?_ ?_ ⟨⟨_, _, rfl⟩, up_same, g0⟩
  · rintro pre p post e ρ S' X ⟨⟨u3, u7, rfl⟩, h, g⟩ hX
    refine ⟨hc _ g, ?_⟩
    have hp : p ∈ C := by rw [e]; simp
    have hpre : pre.length ≤ 6 := by have := congrArg List.length e; simp at this; omega
    have hll := leftP_len C (pre.map (·.nm)) []
    rw [List.length_map, List.length_nil] at hll
    have hPa' := g _ _ (by simp) hPa
    have hpn : p.nm ∈ nms C := List.mem_map.mpr ⟨p, hp, rfl⟩
    simp! only
    simp_all only
    refine walk_of (S := S') core_walk .refl fun chk2 hk2 => ?_
    refine lc_fm encP8 (fun q => if decide (Rch C p.nm q.nm ∧ Rch C q.nm p.nm) = true then some (.str q.nm) else none) (hk2 _ .refl) C [] ?_ (by simp; omega) ?_
    · intro q2 hq2 Y hY
      have hqn : q2.nm ∈ nms C := List.mem_map.mpr ⟨q2, hq2, rfl⟩
      have e1 : decide ((p.nm, q2.nm) ∈ P) = decide (Rch C p.nm q2.nm) := decide_eq_decide.mpr ⟨fun h => ((hP _ _).mp h).2, fun h => (hP _ _).mpr ⟨hpn, h⟩⟩
      have e2 : decide ((q2.nm, p.nm) ∈ P) = decide (Rch C q2.nm p.nm) := decide_eq_decide.mpr ⟨fun h => ((hP _ _).mp h).2, fun h => (hP _ _).mpr ⟨hqn, h⟩⟩
      unfold encP8
      simp! only [pr_0, hPa']
      refine inL_prs (z := (p.nm, q2.nm)) ?_
      rw [e1]
      by_cases c1 : Rch C p.nm q2.nm
      · rw [decide_eq_true c1]
        simp! only [pr_0, hPa']
        refine inL_prs (z := (q2.nm, p.nm)) ?_
        rw [e2]
        by_cases c2 : Rch C q2.nm p.nm
        · rw [decide_eq_true ⟨c1, c2⟩] at hY
          rw [decide_eq_true c2]
          simp! only [pr_0]
          exact hY
        · rw [decide_eq_false fun h => c2 h.2] at hY
          rw [decide_eq_false c2]
          simp! only
          exact hY
      · rw [decide_eq_false fun h => c1 h.1] at hY
        rw [decide_eq_false c1]
        simp! only
        exact hY
    intro q4 hq4
    have eg : (C.filter fun q => decide (Rch C p.nm q.nm ∧ Rch C q.nm p.nm)).map (fun q => D.str q.nm) = (grp C p.nm).map D.str := by
      unfold grp nms
      rw [List.filter_map, List.map_map] <;> rfl
    rw [fm_if, List.nil_append, eg]
    have h4 := (Gr.new (A := []) (o := .lst ((grp C p.nm).map D.str)) hq4) _ _ (by simp) h
    have g4 : Gr [] S' (up S' q4 (.lst ((grp C p.nm).map D.str))) := .new hq4
    generalize up S' q4 (.lst ((grp C p.nm).map D.str)) = S4 at h4 g4 ⊢
    simp_all only [h4]
    refine inL_ts (g := grp C p.nm) ?_
    have es : ((pre ++ [p]).map (·.nm)).foldl (lfA C) [] = lfA C ((pre.map (·.nm)).foldl (lfA C) []) p.nm := by rw [List.map_append, List.foldl_append] <;> rfl
    by_cases hin : grp C p.nm ∈ (pre.map (·.nm)).foldl (lfA C) []
    · rw [decide_eq_true hin]
      simp! only
      refine hX _ _ ⟨⟨_, _, rfl⟩, ?_, g.trans g4⟩
      have ea : lfA C ((pre.map (·.nm)).foldl (lfA C) []) p.nm = (pre.map (·.nm)).foldl (lfA C) [] := if_pos hin
      rw [h4, es, ea]
    · rw [decide_eq_false hin]
      simp! only
      simp_all only [rcv, bmT, bmW, h4]
      refine ⟨by rw [List.length_map]; omega, ?_⟩
      refine hX _ _ ⟨⟨_, _, rfl⟩, ?_, (g.trans g4).set hle⟩
      have ea : lfA C ((pre.map (·.nm)).foldl (lfA C) []) p.nm = (pre.map (·.nm)).foldl (lfA C) [] ++ [grp C p.nm] := if_neg hin
      rw [up_same, es, ea, List.map_append] <;> rfl
  · rintro ρ S' ⟨⟨u3, u7, rfl⟩, h, g⟩
    refine ⟨hc _ g, ?_⟩
    have el : (C.map (·.nm)).foldl (lfA C) [] = left C := rfl
    rw [el] at h
    simp_all only
    intro fo hfo
    have g1 : Gr [] S' (up S' fo (.lst [])) := .new hfo
    have h1 : up S' fo (.lst []) fo = some (.lst (([] : List (List Str)).map tsD)) := up_same
    have hl1 := g1 _ _ (by simp) h
    have G1 := g.trans g1
    have ffo := g.free hfo
    have nfl : fo ≠ le := by rintro rfl; rw [h] at hfo; cases hfo
    generalize up S' fo (.lst []) = S1 at g1 h1 hl1 G1 ⊢
    simp_all only
    intro d0 hd0
    have g2 : Gr [] S1 (up S1 d0 (.lst [])) := .new hd0
    have h2 : up S1 d0 (.lst []) d0 = some (.lst ((([] : List (List Str)).flatten).map .str)) := up_same
    have h12 := g2 _ _ (by simp) h1
    have hl2 := g2 _ _ (by simp) hl1
    have G2 := G1.trans g2
    have fd := G1.free hd0
    have nfd : fo ≠ d0 := by rintro rfl; rw [h1] at hd0; cases hd0
    generalize up S1 d0 (.lst []) = S2 at g2 h2 h12 hl2 G2 ⊢
    simp_all only [bfW, hl2, List.length_map]
    refine ⟨⟨by omega, by omega⟩, ?_⟩
    rw [show (((left C).length : Nat) : Int).toNat = (left C).length from rfl]
    unfold rngD
    refine pre_loop (fun i : Nat => D.int (0 + (i : Int))) (fun pre ρ S' => ∃ (dn : Addr) (f : List (List Str)) (u6 u7 u8 : Option D), ρ = [some (coreD C), some (.ref pa), some (.ref le), u3, some (.ref fo), some (.ref dn), u6, u7, u8, none, none, none, none] ∧ S' le = some (.lst ((left C).map tsD)) ∧ S' fo = some (.lst (f.map tsD)) ∧ S' dn = some (.lst (f.flatten.map .str)) ∧ S dn = none ∧ fo ≠ dn ∧ Gr [] S S' ∧ OrdOk C f ∧ ordF C ((left C).length - pre.length) f = grps C) (List.range (left C).length) ?_ ?_ ⟨d0, [], _, _, _, rfl, hl2, h12, h2, fd, nfd, G2, .nil, rfl⟩
    · rintro pre i post e ρ S3 X ⟨dn, f, u6, u7, u8, rfl, hl3, hf3, hd3, fdn, nfd, G3, of, hord⟩ hX
      refine ⟨trivial, ?_⟩
      obtain ⟨k1, k2⟩ := range_mid e
      have hrem : (left C).length - pre.length = ((left C).length - (pre ++ [i]).length) + 1 := by rw [List.length_append, List.length_singleton]; omega
      rw [hrem] at hord
      obtain ⟨fl1, fl2⟩ := flat_len hC of
      simp! only
      simp_all only [walkC, hl3]
      refine pre_loop tsD (fun pg ρ S4 => (∃ u7 u8 : Option D, ρ = [some (coreD C), some (.ref pa), some (.ref le), u3, some (.ref fo), some (.ref dn), some (.int (0 + (i : Int))), u7, u8, none, none, none, none]) ∧ Gr [] S3 S4 ∧ ∀ g ∈ pg, ¬ (¬ g ∈ f ∧ Rdy C f g)) (left C) ?_ ?_ ⟨⟨_, _, rfl⟩, .refl, by simp⟩
      · rintro pg g qg eg ρ S4 Y ⟨⟨u7, u8, rfl⟩, g4, hno⟩ hY
        refine ⟨g4 _ _ (by simp) hl3, ?_⟩
        have hg : g ∈ left C := by rw [eg]; simp
        obtain ⟨p, hp, ep, hat⟩ := ts_hd hC hg
        have hPa4 := (G3.trans g4) _ _ (by simp) hPa
        have gl : g.length ≤ 6 := by
          obtain ⟨_, _, e⟩ := left_hd hC hg
          rw [e]; exact grp_len hC _
        unfold tsD
        simp! only
        simp_all only
        refine walk_of (.inr ⟨pa, rfl, hPa4⟩) .refl fun chk3 hk3 => ?_
        refine lc_fm encPr (fun z => if (decide (z.1 = hdS g) && !decide (z.2 ∈ g)) = true then some (.str z.2) else none) (hk3 _ .refl) P [] ?_ (by simp; omega) ?_
        · intro z hz Z hZ
          unfold encPr
          simp! only
          refine ⟨rfl, ?_⟩
          simp! only [hat]
          rw [ep]
          by_cases c1 : z.1 = hdS g
          · rw [decide_eq_true c1, Bool.true_and] at hZ
            rw [decide_eq_true c1]
            simp! only
            refine inL_strs ?_
            by_cases c2 : z.2 ∈ g
            · rw [decide_eq_true c2] at hZ ⊢
              exact hZ
            · rw [decide_eq_false c2] at hZ ⊢
              exact hZ
          · rw [decide_eq_false c1, Bool.false_and] at hZ
            rw [decide_eq_false c1]
            simp! only
            exact hZ
        intro nd hnd
        have efl := List.length_filter_le (fun z => decide (z.1 = hdS g) && !decide (z.2 ∈ g)) P
        have em : (P.filter fun z => decide (z.1 = hdS g) && !decide (z.2 ∈ g)).map (fun z => D.str z.2) = ((P.filter fun z => decide (z.1 = hdS g) && !decide (z.2 ∈ g)).map (·.2)).map D.str := by rw [List.map_map] <;> rfl
        rw [fm_if, List.nil_append, em]
        have hrd := rdy_dec2 hC hP (f := f) hg
        generalize hN : (P.filter fun z => decide (z.1 = hdS g) && !decide (z.2 ∈ g)).map (·.2) = N at hrd ⊢
        have hNl : N.length ≤ 36 := by rw [← hN, List.length_map]; omega
        have g5 : Gr [] S4 (up S4 nd (.lst (N.map D.str))) := .new hnd
        have h5 : up S4 nd (.lst (N.map D.str)) nd = some (.lst (N.map D.str)) := up_same
        generalize up S4 nd (.lst (N.map D.str)) = S5 at g5 h5 ⊢
        have hf5 := (g4.trans g5) _ _ (by simp) hf3
        have hd5 := (g4.trans g5) _ _ (by simp) hd3
        have hl5 := (g4.trans g5) _ _ (by simp) hl3
        have stay : ¬ (¬ g ∈ f ∧ Rdy C f g) → ∀ {S6 : Sto} u7 u8, Gr [] S5 S6 → Y [some (coreD C), some (.ref pa), some (.ref le), u3, some (.ref fo), some (.ref dn), some (.int (0 + (i : Int))), u7, u8, none, none, none, none] S6 := fun hn S6 u7 u8 g6 => hY _ _ ⟨⟨u7, u8, rfl⟩, (g4.trans g5).trans g6, fun z hz => by
          rcases List.mem_append.mp hz with hz | hz
          · exact hno z hz
          · rw [List.mem_singleton.mp hz]; exact hn⟩
        simp_all only [hf5]
        refine inL_ts (g := g) ?_
        by_cases hin : g ∈ f
        · rw [decide_eq_true hin]
          simp! only
          exact stay (fun h => h.1 hin) _ _ .refl
        · rw [decide_eq_false hin]
          simp! only
          refine walk_of (.inr ⟨nd, rfl, h5⟩) .refl fun chk4 hk4 => ?_
          refine lc_fm D.str (fun y => some (.bl (decide (y ∈ f.flatten)))) (hk4 _ .refl) N [] ?_ (by simp only [List.length_nil]; omega) ?_
          · intro y hy Z hZ
            simp! only [hd5]
            exact inL_strs hZ
          intro q7 hq7
          have eb : ([] ++ N.filterMap fun y => some (D.bl (decide (y ∈ f.flatten)))) = N.map fun y => D.bl (decide (y ∈ f.flatten)) := by rw [List.nil_append, List.filterMap_eq_map']
          rw [eb]
          have g7 : Gr [] S5 (up S5 q7 (.lst (N.map fun y => D.bl (decide (y ∈ f.flatten))))) := .new hq7
          simp! only [bfW, blsOf_m, hrd]
          by_cases hr : Rdy C f g
          · rw [decide_eq_true hr, if_pos rfl]
            have hnx : nextG C f = some g := by
              unfold nextG
              rw [eg, List.find?_append, List.find?_eq_none.mpr fun z hz => by rw [decide_eq_true_eq]; exact hno z hz, Option.none_or, List.find?_cons, decide_eq_true ⟨hin, hr⟩]
            have hf7 := g7 _ _ (by simp) hf5
            have hd7 := g7 _ _ (by simp) hd5
            have hl7 := g7 _ _ (by simp) hl5
            have G7 := ((G3.trans g4).trans g5).trans g7
            generalize up S5 q7 (.lst (N.map fun y => D.bl (decide (y ∈ f.flatten)))) = S7 at hf7 hd7 hl7 G7 ⊢
            simp_all only [rcv, bmT, bmW, hf7]
            refine ⟨by rw [List.length_map]; omega, ?_⟩
            have hd8 : up S7 fo (.lst (f.map tsD ++ [.tup (g.map D.str)])) dn = some (.lst (f.flatten.map .str)) := by rw [up_ne (Ne.symm nfd)]; exact hd7
            have hl8 : up S7 fo (.lst (f.map tsD ++ [.tup (g.map D.str)])) le = some (.lst ((left C).map tsD)) := by rw [up_ne (Ne.symm nfl)]; exact hl7
            have hf8 : up S7 fo (.lst (f.map tsD ++ [.tup (g.map D.str)])) fo = some (.lst ((f ++ [g]).map tsD)) := by rw [up_same, List.map_append] <;> rfl
            have G8 : Gr [] S (up S7 fo (.lst (f.map tsD ++ [.tup (g.map D.str)]))) := G7.set ffo
            generalize up S7 fo (.lst (f.map tsD ++ [.tup (g.map D.str)])) = S8 at hd8 hl8 hf8 G8 ⊢
            simp_all only [bfW]
            first | refine ⟨by rw [List.length_map]; omega, ?_⟩ | skip
            intro q9 hq9
            have g9 : Gr [] S8 (up S8 q9 (.lst (g.map D.str))) := .new hq9
            have h9 : up S8 q9 (.lst (g.map D.str)) q9 = some (.lst (g.map D.str)) := up_same
            have hd9 := g9 _ _ (by simp) hd8
            generalize up S8 q9 (.lst (g.map D.str)) = S9 at g9 h9 hd9 ⊢
            simp! only [hd9, h9]
            refine ⟨by simp only [List.length_map]; omega, ?_⟩
            intro qa hqa
            have ga : Gr [] S9 (up S9 qa (.lst (f.flatten.map .str ++ g.map D.str))) := .new hqa
            have nqa : fo ≠ qa := by rintro rfl; rw [g9 _ _ (by simp) hf8] at hqa; cases hqa
            rw [wpSs_cons, wpS]
            have ho2 : ordF C ((left C).length - (pre ++ [i]).length) (f ++ [g]) = grps C := by
              rw [← hord, ordF, hnx]
            refine hX _ _ ⟨qa, f ++ [g], some (.int (0 + (i : Int))), some (.tup (g.map D.str)), some (.ref nd), rfl, (g9.trans ga) _ _ (by simp) hl8, (g9.trans ga) _ _ (by simp) hf8, ?_, (G8.trans g9).free hqa, nqa, (G8.trans g9).trans ga, of.snoc hnx, ho2⟩
            rw [up_same, List.flatten_append, List.map_append]
            simp
          · rw [decide_eq_false hr, if_neg (by simp)]
            exact stay (fun h => hr h.2) _ _ g7
      · rintro ρ S4 ⟨⟨u7, u8, rfl⟩, g4, hno⟩
        refine ⟨g4 _ _ (by simp) hl3, ?_⟩
        have hnx : nextG C f = none := by
          unfold nextG
          exact List.find?_eq_none.mpr fun z hz => by rw [decide_eq_true_eq]; exact hno z hz
        rw [ordF_none hnx] at hord
        refine hX _ _ ⟨dn, f, _, _, _, rfl, g4 _ _ (by simp) hl3, g4 _ _ (by simp) hf3, g4 _ _ (by simp) hd3, fdn, nfd, G3.trans g4, of, by rw [ordF_none hnx]; exact hord⟩
    · rintro ρ S3 ⟨dn, f, u6, u7, u8, rfl, hl3, hf3, hd3, fdn, nfd, G3, of, hord⟩
      refine ⟨trivial, ?_⟩
      rw [List.length_range, Nat.sub_self] at hord
      rw [show f = grps C from hord] at hf3
      simp_all only
      exact ret_ok (hQ fo S3 ffo G3 hf3)

theorem lways_w {C : List Pr} (hC : OkC C) {K : Nat} (hK : 6 ≤ K) {S : Sto} {ga : Addr} (hga : S ga = some (.lst ((grps C).map tsD))) {Q : PK D} (hQ : ∀ t S1, Gr [] S S1 → S1 t = some (.dic (dicE (wayF C (grps C)))) → Q (.ref t) S1) : cl K "_law_ways" [coreD C, .ref ga] S Q := by
  refine lev_run (d := f__law_ways) rfl (by omega) ⟨rfl, ?_⟩
  show wpSs (gk (K - 1)) _ (enR Q) [some (coreD C), some (.ref ga), none, none, none, none, none, none] S
  have hsz : sizeLine = 2 ^ 24 := rfl
  have h6 := hC.len6
  have ok := grps_ok (C := C)
  obtain ⟨fl1, fl2⟩ := flat_len hC ok
  unfold f__law_ways
  simp_all only
  intro t ht
  have g0 : Gr [] S (up S t (.dic [])) := .new ht
  have h0 : up S t (.dic []) t = some (.dic (dicE (wayF C []))) := up_same
  generalize up S t (.dic []) = S1 at g0 h0 ⊢
  simp_all only
  refine walk_of (.inr ⟨ga, rfl, hga⟩) g0 fun chk hc => ?_
  refine pre_loop tsD (fun pre ρ S' => (∃ u3 u4 u5 u6 : Option D, ρ = [some (coreD C), some (.ref ga), some (.ref t), u3, u4, u5, u6, none]) ∧ Gr [] S S' ∧ S' t = some (.dic (dicE (wayF C pre)))) (grps C) ?_ ?_ ⟨⟨_, _, _, _, rfl⟩, g0, h0⟩
  · rintro pre g post e ρ S' X ⟨⟨u3, u4, u5, u6, rfl⟩, gr, h⟩ hX
    refine ⟨hc _ gr, ?_⟩
    have hg : g ∈ left C := ok.sub g (by rw [e]; simp)
    have gl : g.length ≤ 6 := by
      obtain ⟨_, _, e⟩ := left_hd hC hg
      rw [e]; exact grp_len hC _
    have pl : pre.length ≤ 6 := by have := congrArg List.length e; simp at this; omega
    have wl : (wayF C pre).length ≤ 36 := by
      have h1 := wayF_len (C := C) pre []
      have h2 : (pre.map List.length).sum = pre.flatten.length := by rw [List.length_flatten]
      have h3 : pre.flatten.length ≤ (grps C).flatten.length := by rw [e, List.flatten_append, List.length_append]; omega
      unfold wayF
      simp only [List.length_nil] at h1
      omega
    unfold tsD
    simp! only
    simp_all only
    simp_all only
    unfold walkC
    refine pre_loop D.str (fun px ρ S2 => (∃ u5 u6 : Option D, ρ = [some (coreD C), some (.ref ga), some (.ref t), some (.tup (g.map D.str)), some (.int ((px.flatMap (calsN C)).foldl (stepT g (wayF C pre)) 0)), u5, u6, none]) ∧ Gr [] S' S2) g ?_ ?_ ⟨⟨_, _, rfl⟩, .refl⟩
    · rintro px x qx ex ρ S2 Y ⟨⟨u5, u6, rfl⟩, g2⟩ hY
      refine ⟨trivial, ?_⟩
      have hxg : x ∈ g := by rw [ex]; simp
      obtain ⟨hxn, _⟩ := left_in hC hg hxg
      obtain ⟨p, hp, rfl⟩ := List.mem_map.mp hxn
      simp! only
      simp_all only
      refine walk_of (S := S2) core_walk .refl fun chk3 hk3 => ?_
      refine lc_fm encP8 (fun q => if decide (q.nm = p.nm) = true then some (encP8 q) else none) (hk3 _ .refl) C [] ?_ (by simp; omega) ?_
      · intro q _ Z hZ
        unfold encP8
        simp! only [pr_0]
        split
        · rename_i e; rw [if_pos e] at hZ; exact hZ
        · rename_i e; rw [if_neg e] at hZ; exact hZ
      intro q3 hq3
      have ed : ([] ++ [p].map encP8 : List D) = [encP8 p] := rfl
      rw [fm_if, hC.flt hp, ed]
      have g3 : Gr [] S2 (up S2 q3 (.lst [encP8 p])) := .new hq3
      generalize up S2 q3 (.lst [encP8 p]) = S3 at g3 ⊢
      simp! only
      refine lcalls_w hC hp (by omega) fun q S4 fq g4 h4 => ?_
      have G4 := (g2.trans g3).trans g4
      have ht4 := G4 _ _ (by simp) h
      refine walk_of (.inr ⟨q, rfl, h4⟩) .refl fun chk hc => ?_
      refine pre_loop D.str (fun pc ρ S5 => (∃ u6 : Option D, ρ = [some (coreD C), some (.ref ga), some (.ref t), some (.tup (g.map D.str)), some (.int (pc.foldl (stepT g (wayF C pre)) ((px.flatMap (calsN C)).foldl (stepT g (wayF C pre)) 0))), some (.str p.nm), u6, none]) ∧ S5 = S4) (cals p) ?_ ?_ ⟨⟨_, rfl⟩, rfl⟩
      · rintro pc c qc ec ρ S5 Z ⟨⟨u6, rfl⟩, rfl⟩ hZ
        refine ⟨hc _ .refl, ?_⟩
        simp! only
        simp_all only
        refine inL_strs ?_
        by_cases hm : c ∈ g
        · rw [decide_eq_true hm]
          simp! only
          refine hZ _ _ ⟨⟨some (.str c), ?_⟩, rfl⟩
          have es : ∀ z, stepT g (wayF C pre) z c = z := fun z => if_pos hm
          rw [List.foldl_append, List.foldl_cons, List.foldl_nil, es]
        · rw [decide_eq_false hm]
          have hk := call_out hC ok e hxg (by rw [hC.cn hp, ec]; simp) hm
          simp! only
          simp_all only [ht4, keyOf, find_mem hk]
          refine hZ _ _ ⟨⟨some (.str c), ?_⟩, rfl⟩
          have es : ∀ z, stepT g (wayF C pre) z c = z + 1 + getA (wayF C pre) c := fun z => by
            have : stepT g (wayF C pre) z c = z + (1 + getA (wayF C pre) c) := if_neg hm
            rw [this]; omega
          rw [List.foldl_append, List.foldl_cons, List.foldl_nil, es]
      · rintro ρ S5 ⟨⟨u6, rfl⟩, rfl⟩
        refine ⟨hc _ .refl, ?_⟩
        refine hY _ _ ⟨⟨some (.str p.nm), u6, ?_⟩, G4⟩
        rw [List.flatMap_append, List.foldl_append, List.flatMap_cons, List.flatMap_nil, List.append_nil, hC.cn hp]
    · rintro ρ S2 ⟨⟨u5, u6, rfl⟩, g2⟩
      refine ⟨trivial, ?_⟩
      have et : (g.flatMap (calsN C)).foldl (stepT g (wayF C pre)) 0 = totF C (wayF C pre) g := rfl
      rw [et]
      simp_all only
      unfold walkC
      refine pre_loop D.str (fun px ρ S3 => (∃ u5 u6 : Option D, ρ = [some (coreD C), some (.ref ga), some (.ref t), some (.tup (g.map D.str)), some (.int (totF C (wayF C pre) g)), u5, u6, none]) ∧ Gr [] S S3 ∧ S3 t = some (.dic (dicE (px.foldl (fun T' x => putA T' x (totF C (wayF C pre) g)) (wayF C pre)))) ∧ (px.foldl (fun T' x => putA T' x (totF C (wayF C pre) g)) (wayF C pre)).length ≤ 36 + px.length) g ?_ ?_ ⟨⟨_, _, rfl⟩, gr.trans g2, g2 _ _ (by simp) h, by simpa using wl⟩
      · rintro px x qx ex ρ S3 Y ⟨⟨u5, u6, rfl⟩, g3, h3, l3⟩ hY
        refine ⟨trivial, ?_⟩
        have pxl : px.length ≤ 6 := by have := congrArg List.length ex; simp at this; omega
        simp! only
        simp_all only [h3, setC, keyOf]
        refine ⟨by rw [dic_len]; omega, ?_⟩
        refine hY _ _ ⟨⟨_, _, rfl⟩, g3.set ht, ?_, ?_⟩
        · rw [up_same, List.foldl_append, List.foldl_cons, List.foldl_nil, putD_dicE]
        · rw [List.foldl_append, List.foldl_cons, List.foldl_nil, List.length_append, List.length_singleton]
          have := (putA_length (acc := px.foldl (fun T' x => putA T' x (totF C (wayF C pre) g)) (wayF C pre)) (x := x) (v := totF C (wayF C pre) g)).2
          omega
      · rintro ρ S3 ⟨⟨u5, u6, rfl⟩, g3, h3, l3⟩
        refine ⟨trivial, ?_⟩
        exact hX _ _ ⟨⟨_, _, _, _, rfl⟩, g3, by rw [h3, wayF_snoc] <;> rfl⟩
  · rintro ρ S' ⟨⟨u3, u4, u5, u6, rfl⟩, gr, h⟩
    refine ⟨hc _ gr, ?_⟩
    simp_all only
    exact ret_ok (hQ t S' gr h)

theorem isint_K {K : Nat} (hK : 1 ≤ K) {S : Sto} {i : Int} {Q : PK D} (hQ : Q (.bl true) S) : cl K "_law_is_int" [.int i] S Q := by
  refine lev_run (d := f__law_is_int) rfl hK ⟨rfl, ?_⟩
  show wpSs (gk (K - 1)) _ (enR Q) [some (.int i)] S
  unfold f__law_is_int
  (rw [wpSs_cons]; simp only [wpS, wp, wpEs, wpO, wpIf, wpI, wpAnd, wpOr, ofE, truthOf, asgW, asgWs, tgLen, List.getElem?_cons_zero, List.getElem?_cons_succ, List.set_cons_zero, List.set_cons_succ, ixC, ixL, setC, bopW, addW, subW, mulW, fdivW, modW, powW, negW, bfW, cmpC, eqC, ltC, leC, isC, inC, truC, slC, itemsL, tyName, fldC, up_same, atI_0, atI_1, atI_2, atI_3, atI_4, atI_5, ixN_0, ixN_1, ixN_2, ixN_3, wpSs_nil, wipeE, true_and, and_true, if_true, Bool.false_eq_true, if_false, Bool.not_true, Bool.not_false, decide_true, decide_false, tyIn1, tyIn2, tyIn3, tyIn4, tyIn5, isT_int_int, isT_int_str, isT_int_bool, isT_int_tuple, isT_int_list, isT_str_int, isT_str_str, isT_str_bool, isT_str_tuple, isT_str_list, isT_tuple_int, isT_tuple_str, isT_tuple_bool, isT_tuple_tuple, isT_tuple_list, isT_bool_int, isT_bool_str, isT_bool_bool, isT_bool_tuple, isT_bool_list])
  exact ret_ok hQ
theorem lsame_w : ∀ (n K : Nat) (d : D) (S : Sto) (Q : PK D), n + 2 ≤ K → nice n d → (∀ S1, Gr [] S S1 → Q (.bl true) S1) → cl K "_law_same" [d, d] S Q := by
  intro n
  induction n with
  | zero =>
    intro K d S Q hK hn hQ
    refine lev_run (d := f__law_same) rfl (by omega) ⟨rfl, ?_⟩
    show wpSs (gk (K - 1)) _ (enR Q) [some d, some d, none] S
    unfold f__law_same
    cases d with
    | int i =>
      (rw [wpSs_cons]; simp only [wpS, wp, wpEs, wpO, wpIf, wpI, wpAnd, wpOr, ofE, truthOf, asgW, asgWs, tgLen, List.getElem?_cons_zero, List.getElem?_cons_succ, List.set_cons_zero, List.set_cons_succ, ixC, ixL, setC, bopW, addW, subW, mulW, fdivW, modW, powW, negW, bfW, cmpC, eqC, ltC, leC, isC, inC, truC, slC, itemsL, tyName, fldC, up_same, atI_0, atI_1, atI_2, atI_3, atI_4, atI_5, ixN_0, ixN_1, ixN_2, ixN_3, wpSs_nil, wipeE, true_and, and_true, if_true, Bool.false_eq_true, if_false, Bool.not_true, Bool.not_false, decide_true, decide_false, tyIn1, tyIn2, tyIn3, tyIn4, tyIn5, isT_int_int, isT_int_str, isT_int_bool, isT_int_tuple, isT_int_list, isT_str_int, isT_str_str, isT_str_bool, isT_str_tuple, isT_str_list, isT_tuple_int, isT_tuple_str, isT_tuple_bool, isT_tuple_tuple, isT_tuple_list, isT_bool_int, isT_bool_str, isT_bool_bool, isT_bool_tuple, isT_bool_list])
      (rw [wpSs_cons]; simp only [wpS, wp, wpEs, wpO, wpIf, wpI, wpAnd, wpOr, ofE, truthOf, asgW, asgWs, tgLen, List.getElem?_cons_zero, List.getElem?_cons_succ, List.set_cons_zero, List.set_cons_succ, ixC, ixL, setC, bopW, addW, subW, mulW, fdivW, modW, powW, negW, bfW, cmpC, eqC, ltC, leC, isC, inC, truC, slC, itemsL, tyName, fldC, up_same, atI_0, atI_1, atI_2, atI_3, atI_4, atI_5, ixN_0, ixN_1, ixN_2, ixN_3, wpSs_nil, wipeE, true_and, and_true, if_true, Bool.false_eq_true, if_false, Bool.not_true, Bool.not_false, decide_true, decide_false, tyIn1, tyIn2, tyIn3, tyIn4, tyIn5, isT_int_int, isT_int_str, isT_int_bool, isT_int_tuple, isT_int_list, isT_str_int, isT_str_str, isT_str_bool, isT_str_tuple, isT_str_list, isT_tuple_int, isT_tuple_str, isT_tuple_bool, isT_tuple_tuple, isT_tuple_list, isT_bool_int, isT_bool_str, isT_bool_bool, isT_bool_tuple, isT_bool_list])
      (rw [wpSs_cons]; simp only [wpS, wp, wpEs, wpO, wpIf, wpI, wpAnd, wpOr, ofE, truthOf, asgW, asgWs, tgLen, List.getElem?_cons_zero, List.getElem?_cons_succ, List.set_cons_zero, List.set_cons_succ, ixC, ixL, setC, bopW, addW, subW, mulW, fdivW, modW, powW, negW, bfW, cmpC, eqC, ltC, leC, isC, inC, truC, slC, itemsL, tyName, fldC, up_same, atI_0, atI_1, atI_2, atI_3, atI_4, atI_5, ixN_0, ixN_1, ixN_2, ixN_3, wpSs_nil, wipeE, true_and, and_true, if_true, Bool.false_eq_true, if_false, Bool.not_true, Bool.not_false, decide_true, decide_false, tyIn1, tyIn2, tyIn3, tyIn4, tyIn5, isT_int_int, isT_int_str, isT_int_bool, isT_int_tuple, isT_int_list, isT_str_int, isT_str_str, isT_str_bool, isT_str_tuple, isT_str_list, isT_tuple_int, isT_tuple_str, isT_tuple_bool, isT_tuple_tuple, isT_tuple_list, isT_bool_int, isT_bool_str, isT_bool_bool, isT_bool_tuple, isT_bool_list])
      refine isint_K (by omega) ?_
      simp only [wpS, wp, wpEs, wpO, wpIf, wpI, wpAnd, wpOr, ofE, truthOf, asgW, asgWs, tgLen, List.getElem?_cons_zero, List.getElem?_cons_succ, List.set_cons_zero, List.set_cons_succ, ixC, ixL, setC, bopW, addW, subW, mulW, fdivW, modW, powW, negW, bfW, cmpC, eqC, ltC, leC, isC, inC, truC, slC, itemsL, tyName, fldC, up_same, atI_0, atI_1, atI_2, atI_3, atI_4, atI_5, ixN_0, ixN_1, ixN_2, ixN_3, wpSs_nil, wipeE, true_and, and_true, if_true, Bool.false_eq_true, if_false, Bool.not_true, Bool.not_false, decide_true, decide_false, tyIn1, tyIn2, tyIn3, tyIn4, tyIn5, isT_int_int, isT_int_str, isT_int_bool, isT_int_tuple, isT_int_list, isT_str_int, isT_str_str, isT_str_bool, isT_str_tuple, isT_str_list, isT_tuple_int, isT_tuple_str, isT_tuple_bool, isT_tuple_tuple, isT_tuple_list, isT_bool_int, isT_bool_str, isT_bool_bool, isT_bool_tuple, isT_bool_list]
      exact ret_ok (hQ _ .refl)
    | str x =>
      (rw [wpSs_cons]; simp only [wpS, wp, wpEs, wpO, wpIf, wpI, wpAnd, wpOr, ofE, truthOf, asgW, asgWs, tgLen, List.getElem?_cons_zero, List.getElem?_cons_succ, List.set_cons_zero, List.set_cons_succ, ixC, ixL, setC, bopW, addW, subW, mulW, fdivW, modW, powW, negW, bfW, cmpC, eqC, ltC, leC, isC, inC, truC, slC, itemsL, tyName, fldC, up_same, atI_0, atI_1, atI_2, atI_3, atI_4, atI_5, ixN_0, ixN_1, ixN_2, ixN_3, wpSs_nil, wipeE, true_and, and_true, if_true, Bool.false_eq_true, if_false, Bool.not_true, Bool.not_false, decide_true, decide_false, tyIn1, tyIn2, tyIn3, tyIn4, tyIn5, isT_int_int, isT_int_str, isT_int_bool, isT_int_tuple, isT_int_list, isT_str_int, isT_str_str, isT_str_bool, isT_str_tuple, isT_str_list, isT_tuple_int, isT_tuple_str, isT_tuple_bool, isT_tuple_tuple, isT_tuple_list, isT_bool_int, isT_bool_str, isT_bool_bool, isT_bool_tuple, isT_bool_list])
      (rw [wpSs_cons]; simp only [wpS, wp, wpEs, wpO, wpIf, wpI, wpAnd, wpOr, ofE, truthOf, asgW, asgWs, tgLen, List.getElem?_cons_zero, List.getElem?_cons_succ, List.set_cons_zero, List.set_cons_succ, ixC, ixL, setC, bopW, addW, subW, mulW, fdivW, modW, powW, negW, bfW, cmpC, eqC, ltC, leC, isC, inC, truC, slC, itemsL, tyName, fldC, up_same, atI_0, atI_1, atI_2, atI_3, atI_4, atI_5, ixN_0, ixN_1, ixN_2, ixN_3, wpSs_nil, wipeE, true_and, and_true, if_true, Bool.false_eq_true, if_false, Bool.not_true, Bool.not_false, decide_true, decide_false, tyIn1, tyIn2, tyIn3, tyIn4, tyIn5, isT_int_int, isT_int_str, isT_int_bool, isT_int_tuple, isT_int_list, isT_str_int, isT_str_str, isT_str_bool, isT_str_tuple, isT_str_list, isT_tuple_int, isT_tuple_str, isT_tuple_bool, isT_tuple_tuple, isT_tuple_list, isT_bool_int, isT_bool_str, isT_bool_bool, isT_bool_tuple, isT_bool_list])
      (rw [wpSs_cons]; simp only [wpS, wp, wpEs, wpO, wpIf, wpI, wpAnd, wpOr, ofE, truthOf, asgW, asgWs, tgLen, List.getElem?_cons_zero, List.getElem?_cons_succ, List.set_cons_zero, List.set_cons_succ, ixC, ixL, setC, bopW, addW, subW, mulW, fdivW, modW, powW, negW, bfW, cmpC, eqC, ltC, leC, isC, inC, truC, slC, itemsL, tyName, fldC, up_same, atI_0, atI_1, atI_2, atI_3, atI_4, atI_5, ixN_0, ixN_1, ixN_2, ixN_3, wpSs_nil, wipeE, true_and, and_true, if_true, Bool.false_eq_true, if_false, Bool.not_true, Bool.not_false, decide_true, decide_false, tyIn1, tyIn2, tyIn3, tyIn4, tyIn5, isT_int_int, isT_int_str, isT_int_bool, isT_int_tuple, isT_int_list, isT_str_int, isT_str_str, isT_str_bool, isT_str_tuple, isT_str_list, isT_tuple_int, isT_tuple_str, isT_tuple_bool, isT_tuple_tuple, isT_tuple_list, isT_bool_int, isT_bool_str, isT_bool_bool, isT_bool_tuple, isT_bool_list])
      exact ret_ok (hQ _ .refl)
    | _ => exact hn.elim
  | succ n ih =>
    intro K d S Q hK hn hQ
    refine lev_run (d := f__law_same) rfl (by omega) ⟨rfl, ?_⟩
    show wpSs (gk (K - 1)) _ (enR Q) [some d, some d, none] S
    unfold f__law_same
    cases d with
    | int i =>
      (rw [wpSs_cons]; simp only [wpS, wp, wpEs, wpO, wpIf, wpI, wpAnd, wpOr, ofE, truthOf, asgW, asgWs, tgLen, List.getElem?_cons_zero, List.getElem?_cons_succ, List.set_cons_zero, List.set_cons_succ, ixC, ixL, setC, bopW, addW, subW, mulW, fdivW, modW, powW, negW, bfW, cmpC, eqC, ltC, leC, isC, inC, truC, slC, itemsL, tyName, fldC, up_same, atI_0, atI_1, atI_2, atI_3, atI_4, atI_5, ixN_0, ixN_1, ixN_2, ixN_3, wpSs_nil, wipeE, true_and, and_true, if_true, Bool.false_eq_true, if_false, Bool.not_true, Bool.not_false, decide_true, decide_false, tyIn1, tyIn2, tyIn3, tyIn4, tyIn5, isT_int_int, isT_int_str, isT_int_bool, isT_int_tuple, isT_int_list, isT_str_int, isT_str_str, isT_str_bool, isT_str_tuple, isT_str_list, isT_tuple_int, isT_tuple_str, isT_tuple_bool, isT_tuple_tuple, isT_tuple_list, isT_bool_int, isT_bool_str, isT_bool_bool, isT_bool_tuple, isT_bool_list])
      (rw [wpSs_cons]; simp only [wpS, wp, wpEs, wpO, wpIf, wpI, wpAnd, wpOr, ofE, truthOf, asgW, asgWs, tgLen, List.getElem?_cons_zero, List.getElem?_cons_succ, List.set_cons_zero, List.set_cons_succ, ixC, ixL, setC, bopW, addW, subW, mulW, fdivW, modW, powW, negW, bfW, cmpC, eqC, ltC, leC, isC, inC, truC, slC, itemsL, tyName, fldC, up_same, atI_0, atI_1, atI_2, atI_3, atI_4, atI_5, ixN_0, ixN_1, ixN_2, ixN_3, wpSs_nil, wipeE, true_and, and_true, if_true, Bool.false_eq_true, if_false, Bool.not_true, Bool.not_false, decide_true, decide_false, tyIn1, tyIn2, tyIn3, tyIn4, tyIn5, isT_int_int, isT_int_str, isT_int_bool, isT_int_tuple, isT_int_list, isT_str_int, isT_str_str, isT_str_bool, isT_str_tuple, isT_str_list, isT_tuple_int, isT_tuple_str, isT_tuple_bool, isT_tuple_tuple, isT_tuple_list, isT_bool_int, isT_bool_str, isT_bool_bool, isT_bool_tuple, isT_bool_list])
      (rw [wpSs_cons]; simp only [wpS, wp, wpEs, wpO, wpIf, wpI, wpAnd, wpOr, ofE, truthOf, asgW, asgWs, tgLen, List.getElem?_cons_zero, List.getElem?_cons_succ, List.set_cons_zero, List.set_cons_succ, ixC, ixL, setC, bopW, addW, subW, mulW, fdivW, modW, powW, negW, bfW, cmpC, eqC, ltC, leC, isC, inC, truC, slC, itemsL, tyName, fldC, up_same, atI_0, atI_1, atI_2, atI_3, atI_4, atI_5, ixN_0, ixN_1, ixN_2, ixN_3, wpSs_nil, wipeE, true_and, and_true, if_true, Bool.false_eq_true, if_false, Bool.not_true, Bool.not_false, decide_true, decide_false, tyIn1, tyIn2, tyIn3, tyIn4, tyIn5, isT_int_int, isT_int_str, isT_int_bool, isT_int_tuple, isT_int_list, isT_str_int, isT_str_str, isT_str_bool, isT_str_tuple, isT_str_list, isT_tuple_int, isT_tuple_str, isT_tuple_bool, isT_tuple_tuple, isT_tuple_list, isT_bool_int, isT_bool_str, isT_bool_bool, isT_bool_tuple, isT_bool_list])
      refine isint_K (by omega) ?_
      simp only [wpS, wp, wpEs, wpO, wpIf, wpI, wpAnd, wpOr, ofE, truthOf, asgW, asgWs, tgLen, List.getElem?_cons_zero, List.getElem?_cons_succ, List.set_cons_zero, List.set_cons_succ, ixC, ixL, setC, bopW, addW, subW, mulW, fdivW, modW, powW, negW, bfW, cmpC, eqC, ltC, leC, isC, inC, truC, slC, itemsL, tyName, fldC, up_same, atI_0, atI_1, atI_2, atI_3, atI_4, atI_5, ixN_0, ixN_1, ixN_2, ixN_3, wpSs_nil, wipeE, true_and, and_true, if_true, Bool.false_eq_true, if_false, Bool.not_true, Bool.not_false, decide_true, decide_false, tyIn1, tyIn2, tyIn3, tyIn4, tyIn5, isT_int_int, isT_int_str, isT_int_bool, isT_int_tuple, isT_int_list, isT_str_int, isT_str_str, isT_str_bool, isT_str_tuple, isT_str_list, isT_tuple_int, isT_tuple_str, isT_tuple_bool, isT_tuple_tuple, isT_tuple_list, isT_bool_int, isT_bool_str, isT_bool_bool, isT_bool_tuple, isT_bool_list]
      exact ret_ok (hQ _ .refl)
    | str x =>
      (rw [wpSs_cons]; simp only [wpS, wp, wpEs, wpO, wpIf, wpI, wpAnd, wpOr, ofE, truthOf, asgW, asgWs, tgLen, List.getElem?_cons_zero, List.getElem?_cons_succ, List.set_cons_zero, List.set_cons_succ, ixC, ixL, setC, bopW, addW, subW, mulW, fdivW, modW, powW, negW, bfW, cmpC, eqC, ltC, leC, isC, inC, truC, slC, itemsL, tyName, fldC, up_same, atI_0, atI_1, atI_2, atI_3, atI_4, atI_5, ixN_0, ixN_1, ixN_2, ixN_3, wpSs_nil, wipeE, true_and, and_true, if_true, Bool.false_eq_true, if_false, Bool.not_true, Bool.not_false, decide_true, decide_false, tyIn1, tyIn2, tyIn3, tyIn4, tyIn5, isT_int_int, isT_int_str, isT_int_bool, isT_int_tuple, isT_int_list, isT_str_int, isT_str_str, isT_str_bool, isT_str_tuple, isT_str_list, isT_tuple_int, isT_tuple_str, isT_tuple_bool, isT_tuple_tuple, isT_tuple_list, isT_bool_int, isT_bool_str, isT_bool_bool, isT_bool_tuple, isT_bool_list])
      (rw [wpSs_cons]; simp only [wpS, wp, wpEs, wpO, wpIf, wpI, wpAnd, wpOr, ofE, truthOf, asgW, asgWs, tgLen, List.getElem?_cons_zero, List.getElem?_cons_succ, List.set_cons_zero, List.set_cons_succ, ixC, ixL, setC, bopW, addW, subW, mulW, fdivW, modW, powW, negW, bfW, cmpC, eqC, ltC, leC, isC, inC, truC, slC, itemsL, tyName, fldC, up_same, atI_0, atI_1, atI_2, atI_3, atI_4, atI_5, ixN_0, ixN_1, ixN_2, ixN_3, wpSs_nil, wipeE, true_and, and_true, if_true, Bool.false_eq_true, if_false, Bool.not_true, Bool.not_false, decide_true, decide_false, tyIn1, tyIn2, tyIn3, tyIn4, tyIn5, isT_int_int, isT_int_str, isT_int_bool, isT_int_tuple, isT_int_list, isT_str_int, isT_str_str, isT_str_bool, isT_str_tuple, isT_str_list, isT_tuple_int, isT_tuple_str, isT_tuple_bool, isT_tuple_tuple, isT_tuple_list, isT_bool_int, isT_bool_str, isT_bool_bool, isT_bool_tuple, isT_bool_list])
      (rw [wpSs_cons]; simp only [wpS, wp, wpEs, wpO, wpIf, wpI, wpAnd, wpOr, ofE, truthOf, asgW, asgWs, tgLen, List.getElem?_cons_zero, List.getElem?_cons_succ, List.set_cons_zero, List.set_cons_succ, ixC, ixL, setC, bopW, addW, subW, mulW, fdivW, modW, powW, negW, bfW, cmpC, eqC, ltC, leC, isC, inC, truC, slC, itemsL, tyName, fldC, up_same, atI_0, atI_1, atI_2, atI_3, atI_4, atI_5, ixN_0, ixN_1, ixN_2, ixN_3, wpSs_nil, wipeE, true_and, and_true, if_true, Bool.false_eq_true, if_false, Bool.not_true, Bool.not_false, decide_true, decide_false, tyIn1, tyIn2, tyIn3, tyIn4, tyIn5, isT_int_int, isT_int_str, isT_int_bool, isT_int_tuple, isT_int_list, isT_str_int, isT_str_str, isT_str_bool, isT_str_tuple, isT_str_list, isT_tuple_int, isT_tuple_str, isT_tuple_bool, isT_tuple_tuple, isT_tuple_list, isT_bool_int, isT_bool_str, isT_bool_bool, isT_bool_tuple, isT_bool_list])
      exact ret_ok (hQ _ .refl)
    | tup ds =>
      obtain ⟨hl, hds⟩ := hn
      have hsz : sizeLine = 2 ^ 24 := rfl
      (rw [wpSs_cons]; simp only [wpS, wp, wpEs, wpO, wpIf, wpI, wpAnd, wpOr, ofE, truthOf, asgW, asgWs, tgLen, List.getElem?_cons_zero, List.getElem?_cons_succ, List.set_cons_zero, List.set_cons_succ, ixC, ixL, setC, bopW, addW, subW, mulW, fdivW, modW, powW, negW, bfW, cmpC, eqC, ltC, leC, isC, inC, truC, slC, itemsL, tyName, fldC, up_same, atI_0, atI_1, atI_2, atI_3, atI_4, atI_5, ixN_0, ixN_1, ixN_2, ixN_3, wpSs_nil, wipeE, true_and, and_true, if_true, Bool.false_eq_true, if_false, Bool.not_true, Bool.not_false, decide_true, decide_false, tyIn1, tyIn2, tyIn3, tyIn4, tyIn5, isT_int_int, isT_int_str, isT_int_bool, isT_int_tuple, isT_int_list, isT_str_int, isT_str_str, isT_str_bool, isT_str_tuple, isT_str_list, isT_tuple_int, isT_tuple_str, isT_tuple_bool, isT_tuple_tuple, isT_tuple_list, isT_bool_int, isT_bool_str, isT_bool_bool, isT_bool_tuple, isT_bool_list])
      (rw [wpSs_cons]; simp only [wpS, wp, wpEs, wpO, wpIf, wpI, wpAnd, wpOr, ofE, truthOf, asgW, asgWs, tgLen, List.getElem?_cons_zero, List.getElem?_cons_succ, List.set_cons_zero, List.set_cons_succ, ixC, ixL, setC, bopW, addW, subW, mulW, fdivW, modW, powW, negW, bfW, cmpC, eqC, ltC, leC, isC, inC, truC, slC, itemsL, tyName, fldC, up_same, atI_0, atI_1, atI_2, atI_3, atI_4, atI_5, ixN_0, ixN_1, ixN_2, ixN_3, wpSs_nil, wipeE, true_and, and_true, if_true, Bool.false_eq_true, if_false, Bool.not_true, Bool.not_false, decide_true, decide_false, tyIn1, tyIn2, tyIn3, tyIn4, tyIn5, isT_int_int, isT_int_str, isT_int_bool, isT_int_tuple, isT_int_list, isT_str_int, isT_str_str, isT_str_bool, isT_str_tuple, isT_str_list, isT_tuple_int, isT_tuple_str, isT_tuple_bool, isT_tuple_tuple, isT_tuple_list, isT_bool_int, isT_bool_str, isT_bool_bool, isT_bool_tuple, isT_bool_list])
      (rw [wpSs_cons]; simp only [wpS, wp, wpEs, wpO, wpIf, wpI, wpAnd, wpOr, ofE, truthOf, asgW, asgWs, tgLen, List.getElem?_cons_zero, List.getElem?_cons_succ, List.set_cons_zero, List.set_cons_succ, ixC, ixL, setC, bopW, addW, subW, mulW, fdivW, modW, powW, negW, bfW, cmpC, eqC, ltC, leC, isC, inC, truC, slC, itemsL, tyName, fldC, up_same, atI_0, atI_1, atI_2, atI_3, atI_4, atI_5, ixN_0, ixN_1, ixN_2, ixN_3, wpSs_nil, wipeE, true_and, and_true, if_true, Bool.false_eq_true, if_false, Bool.not_true, Bool.not_false, decide_true, decide_false, tyIn1, tyIn2, tyIn3, tyIn4, tyIn5, isT_int_int, isT_int_str, isT_int_bool, isT_int_tuple, isT_int_list, isT_str_int, isT_str_str, isT_str_bool, isT_str_tuple, isT_str_list, isT_tuple_int, isT_tuple_str, isT_tuple_bool, isT_tuple_tuple, isT_tuple_list, isT_bool_int, isT_bool_str, isT_bool_bool, isT_bool_tuple, isT_bool_list, rngD, Int.toNat_natCast])
      refine ⟨⟨by omega, by omega⟩, ?_⟩
      refine pre_lc (fun i : Nat => D.int (0 + (i : Int))) (fun pre acc S1 => acc = List.replicate pre.length (D.bl true) ∧ Gr [] S S1) (List.range ds.length) (by simpa using hl) ?_ ?_ ⟨rfl, .refl⟩
      · rintro pre x post e acc S1 X ⟨rfl, g⟩ hX _
        obtain ⟨hx, _⟩ := range_mid e
        refine ⟨trivial, ?_⟩
        simp only [wpS, wp, wpEs, wpO, wpIf, wpI, wpAnd, wpOr, ofE, truthOf, asgW, asgWs, tgLen, List.getElem?_cons_zero, List.getElem?_cons_succ, List.set_cons_zero, List.set_cons_succ, ixC, ixL, setC, bopW, addW, subW, mulW, fdivW, modW, powW, negW, bfW, cmpC, eqC, ltC, leC, isC, inC, truC, slC, itemsL, tyName, fldC, up_same, atI_0, atI_1, atI_2, atI_3, atI_4, atI_5, ixN_0, ixN_1, ixN_2, ixN_3, wpSs_nil, wipeE, true_and, and_true, if_true, Bool.false_eq_true, if_false, Bool.not_true, Bool.not_false, decide_true, decide_false, tyIn1, tyIn2, tyIn3, tyIn4, tyIn5, isT_int_int, isT_int_str, isT_int_bool, isT_int_tuple, isT_int_list, isT_str_int, isT_str_str, isT_str_bool, isT_str_tuple, isT_str_list, isT_tuple_int, isT_tuple_str, isT_tuple_bool, isT_tuple_tuple, isT_tuple_list, isT_bool_int, isT_bool_str, isT_bool_bool, isT_bool_tuple, isT_bool_list, atI_nat hx]
        exact ih (K - 1) ds[x] S1 (fun v S1 => X (some v) S1) (by omega) (hds _ (List.getElem_mem hx)) fun S2 g2 => hX _ S2 ⟨by rw [List.length_append, List.length_singleton, List.replicate_succ'], g.trans g2⟩
      · rintro acc S1 ⟨rfl, g⟩
        refine ⟨trivial, fun p hp => ?_⟩
        rw [List.length_range]
        simp only [wpS, wp, wpEs, wpO, wpIf, wpI, wpAnd, wpOr, ofE, truthOf, asgW, asgWs, tgLen, List.getElem?_cons_zero, List.getElem?_cons_succ, List.set_cons_zero, List.set_cons_succ, ixC, ixL, setC, bopW, addW, subW, mulW, fdivW, modW, powW, negW, bfW, cmpC, eqC, ltC, leC, isC, inC, truC, slC, itemsL, tyName, fldC, up_same, atI_0, atI_1, atI_2, atI_3, atI_4, atI_5, ixN_0, ixN_1, ixN_2, ixN_3, wpSs_nil, wipeE, true_and, and_true, if_true, Bool.false_eq_true, if_false, Bool.not_true, Bool.not_false, decide_true, decide_false, tyIn1, tyIn2, tyIn3, tyIn4, tyIn5, isT_int_int, isT_int_str, isT_int_bool, isT_int_tuple, isT_int_list, isT_str_int, isT_str_str, isT_str_bool, isT_str_tuple, isT_str_list, isT_tuple_int, isT_tuple_str, isT_tuple_bool, isT_tuple_tuple, isT_tuple_list, isT_bool_int, isT_bool_str, isT_bool_bool, isT_bool_tuple, isT_bool_list, bls_rep, all_rep]
        exact ret_ok (hQ _ (g.new' hp))
    | _ => exact hn.elim

theorem nice_strs {n : Nat} {l : List Str} (hl : l.length ≤ 100000) : nice (n + 1) (.tup (l.map .str)) := ⟨by rw [List.length_map]; exact Nat.le_trans hl (by decide), fun d hd => by
  obtain ⟨x, _, rfl⟩ := List.mem_map.mp hd
  cases n <;> trivial⟩
theorem nice_ints {n : Nat} {l : List Int} (hl : l.length ≤ 100000) : nice (n + 1) (.tup (l.map .int)) := ⟨by rw [List.length_map]; exact Nat.le_trans hl (by decide), fun d hd => by
  obtain ⟨x, _, rfl⟩ := List.mem_map.mp hd
  cases n <;> trivial⟩
theorem nstS_in : ∀ (s : St) (ns : List Int) {V : Env} {d : Nat}, okS V d s → ∀ q ∈ nstS s ns, q.length ≤ ns.length + d := fun s ns V d h q hq => by
  rw [← plcS_tol s (.int 0) ns] at hq
  obtain ⟨z, hz, hq⟩ := List.mem_flatMap.mp hq
  have := plcS_nst s (.int 0) ns h z hz
  unfold tolQ at hq
  split at hq
  · simp only [List.mem_cons, List.not_mem_nil, or_false, or_self] at hq
    rw [hq]; exact this
  · rw [List.mem_singleton.mp hq]; exact this
theorem nstB_in {b : List St} {ns : List Int} {V : Env} {d : Nat} (h : okB V d b) : ∀ q ∈ nstB b ns, q.length ≤ ns.length + d := fun q hq => by
  rw [← plcB_tol (.int 0) (.int 0) ns 0 b] at hq
  obtain ⟨z, hz, hq⟩ := List.mem_flatMap.mp hq
  have := plcB_nst (.int 0) (.int 0) ns 0 b h z hz
  unfold tolQ at hq
  split at hq
  · simp only [List.mem_cons, List.not_mem_nil, or_false, or_self] at hq
    rw [hq]; exact this
  · rw [List.mem_singleton.mp hq]; exact this
open Classical in
theorem lawbody_w {C : List Pr} (hC : OkC C) {ns : List Int} {S : Sto} {u1 : Option D} {Q : PK D} (hQ : ∀ S1, Q (.bl true) S1) : wpSs (gk 29) (f_law.body.drop 2) (enR Q) [some (.scr ns), u1, some (coreD C), none, none, none, none, none, none, none, none] S := by
  have hsz : sizeLine = 2 ^ 24 := rfl
  have h6 := hC.len6
  have fl := flat_len hC (grps_ok (C := C))
  unfold f_law
  simp only [Ss.drop]
  simp_all only
  refine lmoves_w (K := 29) hC (by omega) fun mo M S1 g1 fm hm hM => ?_
  simp_all only
  refine walk_of (S := S1) core_walk .refl fun chk hc => ?_
  refine pre_loop encP8 (fun pre ρ S' => (∃ u4 u7 : Option D, ρ = [some (.scr ns), u1, some (coreD C), some (.ref mo), u4, none, none, u7, none, none, none]) ∧ Gr [] S1 S') C ?_ ?_ ⟨⟨_, _, rfl⟩, .refl⟩
  · rintro pre p post e ρ S' X ⟨⟨u4, u7, rfl⟩, g⟩ hX
    refine ⟨hc _ g, ?_⟩
    have hp : p ∈ C := by rw [e]; simp
    have o := hC.ok p hp
    have hm1 := g _ _ (by simp) hm
    unfold encP8
    simp! only
    simp_all only [pr_1, walkC]
    refine lc_fm encI (fun i => if decide (Mv C p.nm i) = true then some (.str i.2) else none) trivial p.its [] ?_ (by rw [o.il]; simp [hsz]) ?_
    · rintro ⟨b, x⟩ hi Y hY
      have em : decide ((p.nm, x) ∈ M) = decide (Mv C p.nm (b, x)) := decide_eq_decide.mpr (hM p hp _ (o.it _ hi))
      cases b with
      | true =>
        unfold encI
        simp! only
        refine ⟨rfl, ?_⟩
        simp! only [pr_0, hm1]
        refine inL_prs (z := (p.nm, x)) ?_
        rw [em]
        split
        · rename_i e; rw [if_pos e] at hY; exact hY
        · rename_i e; rw [if_neg e] at hY; exact hY
      | false =>
        unfold encI
        simp! only
        refine ⟨rfl, ?_⟩
        simp! only [pr_0, hm1]
        refine inL_prs (z := (p.nm, x)) ?_
        rw [em]
        split
        · rename_i e; rw [if_pos e] at hY; exact hY
        · rename_i e; rw [if_neg e] at hY; exact hY
    intro q4 hq4
    have ef : (p.its.filter fun i => decide (Mv C p.nm i)).map (fun i => D.str i.2) = (mvF C p).map D.str := by
      unfold mvF
      rw [List.map_map] <;> rfl
    rw [fm_if, List.nil_append, ef]
    have g4 : Gr [] S' (up S' q4 (.lst ((mvF C p).map D.str))) := .new hq4
    generalize up S' q4 (.lst ((mvF C p).map D.str)) = S4 at g4 ⊢
    have ml : (mvF C p).length ≤ 3 := by
      unfold mvF
      rw [List.length_map, ← o.il]
      exact List.length_filter_le _ _
    simp_all only [pr_0]
    refine moving_of_w (K := 29) hC hp (by omega) fun S5 g5 => ?_
    refine lsame_w 1 29 (.tup ((mvF C p).map D.str)) _ _ (by omega) (nice_strs (Nat.le_trans ml (by decide))) fun S6 g6 => ?_
    simp! only
    simp_all only [pr_0]
    refine nests_of_w (K := 29) hC hp (by omega) fun S7 g7 => ?_
    intro q8 hq8
    have g8 : Gr [] S7 (up S7 q8 (.lst [.tup []])) := .new hq8
    have e8 : up S7 q8 (.lst [.tup []]) q8 = some (.lst [.tup []]) := up_same
    generalize up S7 q8 (.lst [.tup []]) = S8 at g8 e8 ⊢
    simp! only [pr_8]
    refine lmark_w (K := 29) 4 3 p.body (by omega) (by omega) o.ok o.ln ?_
    have nk := numB_ok (p := 1) o.ok
    have h1 := stmB_len nk.1
    have h2 : (numB p.body 1).1.length * sN 3 ≤ 4 * sN 3 := Nat.mul_le_mul_right _ (by rw [nk.2]; exact o.ln)
    have h3 : sN 3 = 585 := rfl
    have nl := nstB_len (numB p.body 1).1 []
    simp! only
    refine lnests_w (K := 29) (ns := []) 4 3 (numB p.body 1).1 (by omega) (by omega) nk.1 (by rw [nk.2]; exact o.ln) (by omega) (by simp) fun q9 S9 f9 g9 h9 => ?_
    have e89 := g9 _ _ (by simp) e8
    simp! only [e89, h9]
    refine ⟨by simp only [List.length_map, List.length_singleton]; omega, ?_⟩
    intro qa hqa
    have ga : Gr [] S9 (up S9 qa (.lst ([.tup []] ++ (nstB (numB p.body 1).1 []).map encN))) := .new hqa
    generalize up S9 qa (.lst ([.tup []] ++ (nstB (numB p.body 1).1 []).map encN)) = SA at ga ⊢
    have en : ([.tup []] ++ (nstB (numB p.body 1).1 []).map encN : List D) = ([] :: nstB (numB p.body 1).1 []).map encN := rfl
    first | rw [en] | skip
    refine lsame_w 2 29 _ _ _ (by omega) ⟨by rw [List.length_map, List.length_cons]; omega, fun d hd => ?_⟩ fun SB gb => ?_
    · obtain ⟨z, hz, rfl⟩ := List.mem_map.mp hd
      refine nice_ints ?_
      rcases List.mem_cons.mp hz with rfl | hz
      · simp
      · have := nstB_in nk.1 z hz
        simp at this
        omega
    · simp! only
      exact hX _ _ ⟨⟨_, _, rfl⟩, (((((((g.trans g4).trans g5).trans g6).trans g7).trans g8).trans g9).trans ga).trans gb⟩
  · rintro ρ S' ⟨⟨u4, u7, rfl⟩, g⟩
    refine ⟨hc _ g, ?_⟩
    simp_all only
    refine lreach_w (K := 29) hC (by omega) fun pa P S2 fp g2 hp2 pl hP => ?_
    refine lgroups_w (K := 29) hC (by omega) hp2 pl hP fun ga S3 fg g3 h3 => ?_
    simp_all only
    refine groups_w (K := 29) hC (by omega) fun S4 g4 => ?_
    have h34 := g4 _ _ (by simp) h3
    simp! only [h34, bfW]
    refine lsame_w 2 29 _ _ _ (by omega) ⟨by rw [List.length_map]; omega, fun d hd => ?_⟩ fun S5 g5 => ?_
    · obtain ⟨z, hz, rfl⟩ := List.mem_map.mp hd
      have hz1 := grps_ok.sub z hz
      have := grp_len hC (hdS z)
      rw [← (left_hd hC hz1).2.2] at this
      exact nice_strs (by omega)
    simp! only
    have h35 := g5 _ _ (by simp) h34
    simp_all only
    refine lways_w (K := 29) hC (by omega) h35 fun t S6 g6 h6' => ?_
    have h36 := g6 _ _ (by simp) h35
    simp_all only
    refine walk_of (.inr ⟨ga, rfl, h36⟩) .refl fun chk2 hk2 => ?_
    refine pre_lc tsD (fun pre acc S' => acc = List.replicate pre.length (D.bl true) ∧ Gr [] S6 S') (grps C) (by omega) ?_ ?_ ⟨rfl, .refl⟩
    · rintro pre gp post e acc S' X ⟨rfl, g7⟩ hX _
      refine ⟨hk2 _ g7, ?_⟩
      have hgm : gp ∈ grps C := by rw [e]; simp
      refine ways_down_w (K := 29) hC hgm (by omega) fun S8 g8 => ?_
      obtain ⟨p, hp, ep, hat⟩ := ts_hd hC (grps_ok.sub gp hgm)
      have hk : p.nm ∈ (wayF C (grps C)).map (·.1) := wayF_key (List.mem_flatten.mpr ⟨gp, hgm, by rw [ep]; exact (left_hd hC (grps_ok.sub gp hgm)).1⟩)
      have ht8 := (g7.trans g8) _ _ (by simp) h6'
      unfold tsD
      simp! only [hat, ht8, keyOf, find_mem hk]
      rw [← ep]
      refine lsame_w 0 29 _ _ _ (by omega) trivial fun S9 g9 => ?_
      exact hX _ _ ⟨by rw [List.length_append, List.length_singleton, List.replicate_succ'], (g7.trans g8).trans g9⟩
    · rintro acc S' ⟨rfl, g7⟩
      refine ⟨hk2 _ g7, fun q hq => ?_⟩
      simp! only [bls_rep, all_rep]
      exact ret_ok (hQ _)

/-- the law's drawing state -/
def Sc (a b : Addr) (ns : List Int) (n : Nat) (S : Sto) : Prop := a ≠ b ∧ S b = some (.lst (ns.map D.int)) ∧ ∃ i h c : Int, S a = some (.lst [.ref b, .int i, .int h, .int c]) ∧ 0 ≤ c ∧ c ≤ n
theorem Sc.mono {a b : Addr} {ns : List Int} {n m : Nat} {S : Sto} (h : Sc a b ns n S) (hm : n ≤ m) : Sc a b ns m S := by
  obtain ⟨hab, hb, i, h, c, ha, c1, c2⟩ := h
  exact ⟨hab, hb, i, h, c, ha, c1, by omega⟩
theorem Sc.keep {a b : Addr} {ns : List Int} {n : Nat} {S S1 : Sto} (h : Sc a b ns n S) (g : Gr [] S S1) : Sc a b ns n S1 := by
  obtain ⟨hab, hb, i, h, c, ha, c1, c2⟩ := h
  exact ⟨hab, g b _ (by simp) hb, i, h, c, g a _ (by simp) ha, c1, c2⟩
theorem Sc.new {a b p : Addr} {ns : List Int} {n : Nat} {S : Sto} {o : O} (h : Sc a b ns n S) (hp : S p = none) : Sc a b ns n (up S p o) := h.keep (.new hp)
theorem draw_w {k : Nat} {a b : Addr} {ns : List Int} {n : Nat} {S : Sto} {most : Int} {Q : PK D} (hn : n < 2 ^ 60) (hm : 0 < most) (hm2 : most < 2 ^ 64) (hs : Sc a b ns n S)
    (hq : ∀ (v : Int) S1, 0 ≤ v → v < most → Gr [a] S S1 → Sc a b ns (n + 1) S1 → Q (.int v) S1) : cl (k + 1) "_law_draw" [.ref a, .int most] S Q := by
  obtain ⟨hab, hb, i, h, c, ha, c1, c2⟩ := hs
  have hdv : ∀ z : Int, CDivW z most := fun z => ⟨hm, by
    have : most.natAbs < 2 ^ 64 := by omega
    exact Nat.lt_of_lt_of_le (PySem.Flt.log2_lt_of (by decide) this) (by decide)⟩
  refine cl_run (d := f__law_draw) rfl ⟨rfl, ?_⟩
  show wpSs (gk k) _ (enR Q) [some (.ref a), some (.int most), none, none, none] S
  unfold f__law_draw
  (rw [wpSs_cons]; simp only [wpS, wp, wpEs, wpO, wpIf, wpI, wpAnd, wpOr, ofE, truthOf, asgW, asgWs, tgLen, List.getElem?_cons_zero, List.getElem?_cons_succ, List.set_cons_zero, List.set_cons_succ, ixC, ixL, setC, bopW, addW, subW, mulW, fdivW, modW, powW, negW, bfW, cmpC, eqC, ltC, leC, isC, inC, truC, slC, itemsL, tyName, fldC, up_same, atI_0, atI_1, atI_2, atI_3, atI_4, atI_5, ixN_0, ixN_1, ixN_2, ixN_3, wpSs_nil, wipeE, true_and, and_true, if_true, Bool.false_eq_true, if_false, Bool.not_true, Bool.not_false, decide_true, decide_false, tyIn1, tyIn2, tyIn3, tyIn4, tyIn5, isT_int_int, isT_int_str, isT_int_bool, isT_int_tuple, isT_int_list, isT_str_int, isT_str_str, isT_str_bool, isT_str_tuple, isT_str_list, isT_tuple_int, isT_tuple_str, isT_tuple_bool, isT_tuple_tuple, isT_tuple_list, isT_bool_int, isT_bool_str, isT_bool_bool, isT_bool_tuple, isT_bool_list, ha])
  (rw [wpSs_cons]; simp only [wpS, wp, wpEs, wpO, wpIf, wpI, wpAnd, wpOr, ofE, truthOf, asgW, asgWs, tgLen, List.getElem?_cons_zero, List.getElem?_cons_succ, List.set_cons_zero, List.set_cons_succ, ixC, ixL, setC, bopW, addW, subW, mulW, fdivW, modW, powW, negW, bfW, cmpC, eqC, ltC, leC, isC, inC, truC, slC, itemsL, tyName, fldC, up_same, atI_0, atI_1, atI_2, atI_3, atI_4, atI_5, ixN_0, ixN_1, ixN_2, ixN_3, wpSs_nil, wipeE, true_and, and_true, if_true, Bool.false_eq_true, if_false, Bool.not_true, Bool.not_false, decide_true, decide_false, tyIn1, tyIn2, tyIn3, tyIn4, tyIn5, isT_int_int, isT_int_str, isT_int_bool, isT_int_tuple, isT_int_list, isT_str_int, isT_str_str, isT_str_bool, isT_str_tuple, isT_str_list, isT_tuple_int, isT_tuple_str, isT_tuple_bool, isT_tuple_tuple, isT_tuple_list, isT_bool_int, isT_bool_str, isT_bool_bool, isT_bool_tuple, isT_bool_list, ha])
  have fin : ∀ (v j l : Int) S1, S1 a = some (.lst [.ref b, .int j, .int l, .int (c + 1)]) → 0 ≤ v → v < most → Gr [a] S S1 → S1 b = some (.lst (ns.map D.int)) → (enR Q).rt (.int v) S1 := fun v j l S1 h1 h2 h3 h4 h5 =>
    ret_ok (hq v S1 h2 h3 h4 ⟨hab, h5, j, l, c + 1, h1, by omega, by omega⟩)
  have hba : b ≠ a := Ne.symm hab
  split
  · (rw [wpSs_cons]; simp only [wpS, wp, wpEs, wpO, wpIf, wpI, wpAnd, wpOr, ofE, truthOf, asgW, asgWs, tgLen, List.getElem?_cons_zero, List.getElem?_cons_succ, List.set_cons_zero, List.set_cons_succ, ixC, ixL, setC, bopW, addW, subW, mulW, fdivW, modW, powW, negW, bfW, cmpC, eqC, ltC, leC, isC, inC, truC, slC, itemsL, tyName, fldC, up_same, atI_0, atI_1, atI_2, atI_3, atI_4, atI_5, ixN_0, ixN_1, ixN_2, ixN_3, wpSs_nil, wipeE, true_and, and_true, if_true, Bool.false_eq_true, if_false, Bool.not_true, Bool.not_false, decide_true, decide_false, tyIn1, tyIn2, tyIn3, tyIn4, tyIn5, isT_int_int, isT_int_str, isT_int_bool, isT_int_tuple, isT_int_list, isT_str_int, isT_str_str, isT_str_bool, isT_str_tuple, isT_str_list, isT_tuple_int, isT_tuple_str, isT_tuple_bool, isT_tuple_tuple, isT_tuple_list, isT_bool_int, isT_bool_str, isT_bool_bool, isT_bool_tuple, isT_bool_list, ha])
    refine ⟨hm, ?_⟩
    (rw [wpSs_cons]; simp only [wpS, wp, wpEs, wpO, wpIf, wpI, wpAnd, wpOr, ofE, truthOf, asgW, asgWs, tgLen, List.getElem?_cons_zero, List.getElem?_cons_succ, List.set_cons_zero, List.set_cons_succ, ixC, ixL, setC, bopW, addW, subW, mulW, fdivW, modW, powW, negW, bfW, cmpC, eqC, ltC, leC, isC, inC, truC, slC, itemsL, tyName, fldC, up_same, atI_0, atI_1, atI_2, atI_3, atI_4, atI_5, ixN_0, ixN_1, ixN_2, ixN_3, wpSs_nil, wipeE, true_and, and_true, if_true, Bool.false_eq_true, if_false, Bool.not_true, Bool.not_false, decide_true, decide_false, tyIn1, tyIn2, tyIn3, tyIn4, tyIn5, isT_int_int, isT_int_str, isT_int_bool, isT_int_tuple, isT_int_list, isT_str_int, isT_str_str, isT_str_bool, isT_str_tuple, isT_str_list, isT_tuple_int, isT_tuple_str, isT_tuple_bool, isT_tuple_tuple, isT_tuple_list, isT_bool_int, isT_bool_str, isT_bool_bool, isT_bool_tuple, isT_bool_list, ha])
    refine ⟨hdv _, ?_⟩
    (rw [wpSs_cons]; simp only [wpS, wp, wpEs, wpO, wpIf, wpI, wpAnd, wpOr, ofE, truthOf, asgW, asgWs, tgLen, List.getElem?_cons_zero, List.getElem?_cons_succ, List.set_cons_zero, List.set_cons_succ, ixC, ixL, setC, bopW, addW, subW, mulW, fdivW, modW, powW, negW, bfW, cmpC, eqC, ltC, leC, isC, inC, truC, slC, itemsL, tyName, fldC, up_same, atI_0, atI_1, atI_2, atI_3, atI_4, atI_5, ixN_0, ixN_1, ixN_2, ixN_3, wpSs_nil, wipeE, true_and, and_true, if_true, Bool.false_eq_true, if_false, Bool.not_true, Bool.not_false, decide_true, decide_false, tyIn1, tyIn2, tyIn3, tyIn4, tyIn5, isT_int_int, isT_int_str, isT_int_bool, isT_int_tuple, isT_int_list, isT_str_int, isT_str_str, isT_str_bool, isT_str_tuple, isT_str_list, isT_tuple_int, isT_tuple_str, isT_tuple_bool, isT_tuple_tuple, isT_tuple_list, isT_bool_int, isT_bool_str, isT_bool_bool, isT_bool_tuple, isT_bool_list, ha])
    refine fin _ i (h / most) _ up_same (Int.emod_nonneg _ (by omega)) (Int.emod_lt_of_pos _ hm) ((Gr.up (by simp)).trans (Gr.up (by simp))) ?_
    rw [up_ne hba, up_ne hba]; exact hb
  · (rw [wpSs_cons]; simp only [wpS, wp, wpEs, wpO, wpIf, wpI, wpAnd, wpOr, ofE, truthOf, asgW, asgWs, tgLen, List.getElem?_cons_zero, List.getElem?_cons_succ, List.set_cons_zero, List.set_cons_succ, ixC, ixL, setC, bopW, addW, subW, mulW, fdivW, modW, powW, negW, bfW, cmpC, eqC, ltC, leC, isC, inC, truC, slC, itemsL, tyName, fldC, up_same, atI_0, atI_1, atI_2, atI_3, atI_4, atI_5, ixN_0, ixN_1, ixN_2, ixN_3, wpSs_nil, wipeE, true_and, and_true, if_true, Bool.false_eq_true, if_false, Bool.not_true, Bool.not_false, decide_true, decide_false, tyIn1, tyIn2, tyIn3, tyIn4, tyIn5, isT_int_int, isT_int_str, isT_int_bool, isT_int_tuple, isT_int_list, isT_str_int, isT_str_str, isT_str_bool, isT_str_tuple, isT_str_list, isT_tuple_int, isT_tuple_str, isT_tuple_bool, isT_tuple_tuple, isT_tuple_list, isT_bool_int, isT_bool_str, isT_bool_bool, isT_bool_tuple, isT_bool_list, ha])
    -- the cell
    have tail : ∀ cell : Int, 0 ≤ cell → wpSs (gk k) (f__law_draw.body.drop 4) (enR Q) [some (.ref a), some (.int most), some (.int cell), none, none] (up S a (.lst [.ref b, .int i, .int h, .int (c + 1)])) := by
      intro cell h0
      unfold f__law_draw
      simp only [Ss.drop]
      (rw [wpSs_cons]; simp only [wpS, wp, wpEs, wpO, wpIf, wpI, wpAnd, wpOr, ofE, truthOf, asgW, asgWs, tgLen, List.getElem?_cons_zero, List.getElem?_cons_succ, List.set_cons_zero, List.set_cons_succ, ixC, ixL, setC, bopW, addW, subW, mulW, fdivW, modW, powW, negW, bfW, cmpC, eqC, ltC, leC, isC, inC, truC, slC, itemsL, tyName, fldC, up_same, atI_0, atI_1, atI_2, atI_3, atI_4, atI_5, ixN_0, ixN_1, ixN_2, ixN_3, wpSs_nil, wipeE, true_and, and_true, if_true, Bool.false_eq_true, if_false, Bool.not_true, Bool.not_false, decide_true, decide_false, tyIn1, tyIn2, tyIn3, tyIn4, tyIn5, isT_int_int, isT_int_str, isT_int_bool, isT_int_tuple, isT_int_list, isT_str_int, isT_str_str, isT_str_bool, isT_str_tuple, isT_str_list, isT_tuple_int, isT_tuple_str, isT_tuple_bool, isT_tuple_tuple, isT_tuple_list, isT_bool_int, isT_bool_str, isT_bool_bool, isT_bool_tuple, isT_bool_list])
      (rw [wpSs_cons]; simp only [wpS, wp, wpEs, wpO, wpIf, wpI, wpAnd, wpOr, ofE, truthOf, asgW, asgWs, tgLen, List.getElem?_cons_zero, List.getElem?_cons_succ, List.set_cons_zero, List.set_cons_succ, ixC, ixL, setC, bopW, addW, subW, mulW, fdivW, modW, powW, negW, bfW, cmpC, eqC, ltC, leC, isC, inC, truC, slC, itemsL, tyName, fldC, up_same, atI_0, atI_1, atI_2, atI_3, atI_4, atI_5, ixN_0, ixN_1, ixN_2, ixN_3, wpSs_nil, wipeE, true_and, and_true, if_true, Bool.false_eq_true, if_false, Bool.not_true, Bool.not_false, decide_true, decide_false, tyIn1, tyIn2, tyIn3, tyIn4, tyIn5, isT_int_int, isT_int_str, isT_int_bool, isT_int_tuple, isT_int_list, isT_str_int, isT_str_str, isT_str_bool, isT_str_tuple, isT_str_list, isT_tuple_int, isT_tuple_str, isT_tuple_bool, isT_tuple_tuple, isT_tuple_list, isT_bool_int, isT_bool_str, isT_bool_bool, isT_bool_tuple, isT_bool_list])
      refine ⟨⟨by decide, by decide, by decide⟩, ?_⟩
      split
      · (rw [wpSs_cons]; simp only [wpS, wp, wpEs, wpO, wpIf, wpI, wpAnd, wpOr, ofE, truthOf, asgW, asgWs, tgLen, List.getElem?_cons_zero, List.getElem?_cons_succ, List.set_cons_zero, List.set_cons_succ, ixC, ixL, setC, bopW, addW, subW, mulW, fdivW, modW, powW, negW, bfW, cmpC, eqC, ltC, leC, isC, inC, truC, slC, itemsL, tyName, fldC, up_same, atI_0, atI_1, atI_2, atI_3, atI_4, atI_5, ixN_0, ixN_1, ixN_2, ixN_3, wpSs_nil, wipeE, true_and, and_true, if_true, Bool.false_eq_true, if_false, Bool.not_true, Bool.not_false, decide_true, decide_false, tyIn1, tyIn2, tyIn3, tyIn4, tyIn5, isT_int_int, isT_int_str, isT_int_bool, isT_int_tuple, isT_int_list, isT_str_int, isT_str_str, isT_str_bool, isT_str_tuple, isT_str_list, isT_tuple_int, isT_tuple_str, isT_tuple_bool, isT_tuple_tuple, isT_tuple_list, isT_bool_int, isT_bool_str, isT_bool_bool, isT_bool_tuple, isT_bool_list])
        refine ⟨hdv _, ?_⟩
        (rw [wpSs_cons]; simp only [wpS, wp, wpEs, wpO, wpIf, wpI, wpAnd, wpOr, ofE, truthOf, asgW, asgWs, tgLen, List.getElem?_cons_zero, List.getElem?_cons_succ, List.set_cons_zero, List.set_cons_succ, ixC, ixL, setC, bopW, addW, subW, mulW, fdivW, modW, powW, negW, bfW, cmpC, eqC, ltC, leC, isC, inC, truC, slC, itemsL, tyName, fldC, up_same, atI_0, atI_1, atI_2, atI_3, atI_4, atI_5, ixN_0, ixN_1, ixN_2, ixN_3, wpSs_nil, wipeE, true_and, and_true, if_true, Bool.false_eq_true, if_false, Bool.not_true, Bool.not_false, decide_true, decide_false, tyIn1, tyIn2, tyIn3, tyIn4, tyIn5, isT_int_int, isT_int_str, isT_int_bool, isT_int_tuple, isT_int_list, isT_str_int, isT_str_str, isT_str_bool, isT_str_tuple, isT_str_list, isT_tuple_int, isT_tuple_str, isT_tuple_bool, isT_tuple_tuple, isT_tuple_list, isT_bool_int, isT_bool_str, isT_bool_bool, isT_bool_tuple, isT_bool_list])
        refine ⟨hm, fin _ (i + 1) (cell / most) _ up_same (Int.emod_nonneg _ (by omega)) (Int.emod_lt_of_pos _ hm) (((Gr.up (by simp)).trans (Gr.up (by simp))).trans (Gr.up (by simp))) ?_⟩
        rw [up_ne hba, up_ne hba, up_ne hba]; exact hb
      · rename_i hlt
        rw [decide_eq_true_eq] at hlt
        have hc : cell < 10 ^ 18 := by
          have : (10 : Int) ^ (18 : Int).toNat = 10 ^ 18 := rfl
          omega
        (rw [wpSs_cons]; simp only [wpS, wp, wpEs, wpO, wpIf, wpI, wpAnd, wpOr, ofE, truthOf, asgW, asgWs, tgLen, List.getElem?_cons_zero, List.getElem?_cons_succ, List.set_cons_zero, List.set_cons_succ, ixC, ixL, setC, bopW, addW, subW, mulW, fdivW, modW, powW, negW, bfW, cmpC, eqC, ltC, leC, isC, inC, truC, slC, itemsL, tyName, fldC, up_same, atI_0, atI_1, atI_2, atI_3, atI_4, atI_5, ixN_0, ixN_1, ixN_2, ixN_3, wpSs_nil, wipeE, true_and, and_true, if_true, Bool.false_eq_true, if_false, Bool.not_true, Bool.not_false, decide_true, decide_false, tyIn1, tyIn2, tyIn3, tyIn4, tyIn5, isT_int_int, isT_int_str, isT_int_bool, isT_int_tuple, isT_int_list, isT_str_int, isT_str_str, isT_str_bool, isT_str_tuple, isT_str_list, isT_tuple_int, isT_tuple_str, isT_tuple_bool, isT_tuple_tuple, isT_tuple_list, isT_bool_int, isT_bool_str, isT_bool_bool, isT_bool_tuple, isT_bool_list])
        refine ⟨wide_mul (a := 64) (b := 64) (by omega) (by decide) (by decide) (by decide) (by decide), wide_mul (a := 64) (b := 64) (by omega) (by decide) (by decide) (by decide) (by decide), by decide, ?_⟩
        have m0 := Int.emod_nonneg ((cell + 1) * 48271 + (c + 1) * 69621) (show (2147483647 : Int) ≠ 0 by decide)
        have m1 := Int.emod_lt_of_pos ((cell + 1) * 48271 + (c + 1) * 69621) (show (0 : Int) < 2147483647 by decide)
        generalize ((cell + 1) * 48271 + (c + 1) * 69621) % 2147483647 = m at m0 m1
        (rw [wpSs_cons]; simp only [wpS, wp, wpEs, wpO, wpIf, wpI, wpAnd, wpOr, ofE, truthOf, asgW, asgWs, tgLen, List.getElem?_cons_zero, List.getElem?_cons_succ, List.set_cons_zero, List.set_cons_succ, ixC, ixL, setC, bopW, addW, subW, mulW, fdivW, modW, powW, negW, bfW, cmpC, eqC, ltC, leC, isC, inC, truC, slC, itemsL, tyName, fldC, up_same, atI_0, atI_1, atI_2, atI_3, atI_4, atI_5, ixN_0, ixN_1, ixN_2, ixN_3, wpSs_nil, wipeE, true_and, and_true, if_true, Bool.false_eq_true, if_false, Bool.not_true, Bool.not_false, decide_true, decide_false, tyIn1, tyIn2, tyIn3, tyIn4, tyIn5, isT_int_int, isT_int_str, isT_int_bool, isT_int_tuple, isT_int_list, isT_str_int, isT_str_str, isT_str_bool, isT_str_tuple, isT_str_list, isT_tuple_int, isT_tuple_str, isT_tuple_bool, isT_tuple_tuple, isT_tuple_list, isT_bool_int, isT_bool_str, isT_bool_bool, isT_bool_tuple, isT_bool_list])
        refine ⟨wide_mul (a := 64) (b := 64) (by omega) (by decide) (by decide) (by decide) (by decide), ⟨by decide, by decide +kernel⟩, by decide, ?_⟩
        (rw [wpSs_cons]; simp only [wpS, wp, wpEs, wpO, wpIf, wpI, wpAnd, wpOr, ofE, truthOf, asgW, asgWs, tgLen, List.getElem?_cons_zero, List.getElem?_cons_succ, List.set_cons_zero, List.set_cons_succ, ixC, ixL, setC, bopW, addW, subW, mulW, fdivW, modW, powW, negW, bfW, cmpC, eqC, ltC, leC, isC, inC, truC, slC, itemsL, tyName, fldC, up_same, atI_0, atI_1, atI_2, atI_3, atI_4, atI_5, ixN_0, ixN_1, ixN_2, ixN_3, wpSs_nil, wipeE, true_and, and_true, if_true, Bool.false_eq_true, if_false, Bool.not_true, Bool.not_false, decide_true, decide_false, tyIn1, tyIn2, tyIn3, tyIn4, tyIn5, isT_int_int, isT_int_str, isT_int_bool, isT_int_tuple, isT_int_list, isT_str_int, isT_str_str, isT_str_bool, isT_str_tuple, isT_str_list, isT_tuple_int, isT_tuple_str, isT_tuple_bool, isT_tuple_tuple, isT_tuple_list, isT_bool_int, isT_bool_str, isT_bool_bool, isT_bool_tuple, isT_bool_list])
        refine ⟨⟨by decide, by decide +kernel⟩, hm, fin _ (i + 1) h _ up_same (Int.emod_nonneg _ (by omega)) (Int.emod_lt_of_pos _ hm) ((Gr.up (by simp)).trans (Gr.up (by simp))) ?_⟩
        rw [up_ne hba, up_ne hba]; exact hb
    (rw [wpSs_cons]; simp only [wpS, wp, wpEs, wpO, wpIf, wpI, wpAnd, wpOr, ofE, truthOf, asgW, asgWs, tgLen, List.getElem?_cons_zero, List.getElem?_cons_succ, List.set_cons_zero, List.set_cons_succ, ixC, ixL, setC, bopW, addW, subW, mulW, fdivW, modW, powW, negW, bfW, cmpC, eqC, ltC, leC, isC, inC, truC, slC, itemsL, tyName, fldC, up_same, atI_0, atI_1, atI_2, atI_3, atI_4, atI_5, ixN_0, ixN_1, ixN_2, ixN_3, wpSs_nil, wipeE, true_and, and_true, if_true, Bool.false_eq_true, if_false, Bool.not_true, Bool.not_false, decide_true, decide_false, tyIn1, tyIn2, tyIn3, tyIn4, tyIn5, isT_int_int, isT_int_str, isT_int_bool, isT_int_tuple, isT_int_list, isT_str_int, isT_str_str, isT_str_bool, isT_str_tuple, isT_str_list, isT_tuple_int, isT_tuple_str, isT_tuple_bool, isT_tuple_tuple, isT_tuple_list, isT_bool_int, isT_bool_str, isT_bool_bool, isT_bool_tuple, isT_bool_list, ha, up_ne hba, hb, List.length_map])
    split
    · rename_i hl
      rw [decide_eq_true_eq] at hl
      have j0 := Int.emod_nonneg i (show (ns.length : Int) ≠ 0 by omega)
      have j1 := Int.emod_lt_of_pos i hl
      (rw [wpSs_cons]; simp only [wpS, wp, wpEs, wpO, wpIf, wpI, wpAnd, wpOr, ofE, truthOf, asgW, asgWs, tgLen, List.getElem?_cons_zero, List.getElem?_cons_succ, List.set_cons_zero, List.set_cons_succ, ixC, ixL, setC, bopW, addW, subW, mulW, fdivW, modW, powW, negW, bfW, cmpC, eqC, ltC, leC, isC, inC, truC, slC, itemsL, tyName, fldC, up_same, atI_0, atI_1, atI_2, atI_3, atI_4, atI_5, ixN_0, ixN_1, ixN_2, ixN_3, wpSs_nil, wipeE, true_and, and_true, if_true, Bool.false_eq_true, if_false, Bool.not_true, Bool.not_false, decide_true, decide_false, tyIn1, tyIn2, tyIn3, tyIn4, tyIn5, isT_int_int, isT_int_str, isT_int_bool, isT_int_tuple, isT_int_list, isT_str_int, isT_str_str, isT_str_bool, isT_str_tuple, isT_str_list, isT_tuple_int, isT_tuple_str, isT_tuple_bool, isT_tuple_tuple, isT_tuple_list, isT_bool_int, isT_bool_str, isT_bool_bool, isT_bool_tuple, isT_bool_list, ha, up_ne hba, hb, List.length_map])
      refine ⟨hl, ?_⟩
      rw [atI_in j0 (by rw [List.length_map]; exact j1), List.getElem_map]
      exact tail _ (by split <;> omega)
    · exact tail 0 (by decide)
/-! drawing -/
theorem draw_K {K : Nat} (hK : 1 ≤ K) {a b : Addr} {ns : List Int} {n : Nat} {S : Sto} {most : Int} {Q : PK D} (hn : n < 2 ^ 60) (hm : 0 < most) (hm2 : most < 2 ^ 64) (hs : Sc a b ns n S)
    (hq : ∀ (v : Int) S1, 0 ≤ v → v < most → Gr [a] S S1 → Sc a b ns (n + 1) S1 → Q (.int v) S1) : cl K "_law_draw" [.ref a, .int most] S Q := by
  obtain ⟨k, rfl⟩ : ∃ k, K = k + 1 := ⟨K - 1, by omega⟩
  exact draw_w hn hm hm2 hs hq
theorem Sc.ne {a b q : Addr} {ns : List Int} {n : Nat} {S : Sto} (h : Sc a b ns n S) (hq : S q = none) : q ≠ a := by
  obtain ⟨_, _, i, h, c, ha, _⟩ := h
  rintro rfl
  rw [ha] at hq; cases hq
theorem oneof_K {K : Nat} (hK : 2 ≤ K) {a b q : Addr} {ns : List Int} {n : Nat} {S : Sto} {ds : List D} {Q : PK D} (hn : n < 2 ^ 60) (hs : Sc a b ns n S) (hq : S q = some (.lst ds)) (hqa : q ≠ a) (h0 : 0 < ds.length) (h1 : ds.length < 2 ^ 60)
    (hQ : ∀ d ∈ ds, ∀ S1, Gr [a] S S1 → Sc a b ns (n + 1) S1 → Q d S1) : cl K "_law_one_of" [.ref a, .ref q] S Q := by
  refine lev_run (d := f__law_one_of) rfl (by omega) ⟨rfl, ?_⟩
  show wpSs (gk (K - 1)) _ (enR Q) [some (.ref a), some (.ref q)] S
  unfold f__law_one_of
  (rw [wpSs_cons]; simp only [wpS, wp, wpEs, wpO, wpIf, wpI, wpAnd, wpOr, ofE, truthOf, asgW, asgWs, tgLen, List.getElem?_cons_zero, List.getElem?_cons_succ, List.set_cons_zero, List.set_cons_succ, ixC, ixL, setC, bopW, addW, subW, mulW, fdivW, modW, powW, negW, bfW, cmpC, eqC, ltC, leC, isC, inC, truC, slC, itemsL, tyName, fldC, up_same, atI_0, atI_1, atI_2, atI_3, atI_4, atI_5, ixN_0, ixN_1, ixN_2, ixN_3, wpSs_nil, wipeE, true_and, and_true, if_true, Bool.false_eq_true, if_false, Bool.not_true, Bool.not_false, decide_true, decide_false, tyIn1, tyIn2, tyIn3, tyIn4, tyIn5, isT_int_int, isT_int_str, isT_int_bool, isT_int_tuple, isT_int_list, isT_str_int, isT_str_str, isT_str_bool, isT_str_tuple, isT_str_list, isT_tuple_int, isT_tuple_str, isT_tuple_bool, isT_tuple_tuple, isT_tuple_list, isT_bool_int, isT_bool_str, isT_bool_bool, isT_bool_tuple, isT_bool_list, hq])
  refine draw_K (by omega) hn (by omega) (by omega) hs fun v S1 v0 v1 g1 s1 => ?_
  simp only [wpS, wp, wpEs, wpO, wpIf, wpI, wpAnd, wpOr, ofE, truthOf, asgW, asgWs, tgLen, List.getElem?_cons_zero, List.getElem?_cons_succ, List.set_cons_zero, List.set_cons_succ, ixC, ixL, setC, bopW, addW, subW, mulW, fdivW, modW, powW, negW, bfW, cmpC, eqC, ltC, leC, isC, inC, truC, slC, itemsL, tyName, fldC, up_same, atI_0, atI_1, atI_2, atI_3, atI_4, atI_5, ixN_0, ixN_1, ixN_2, ixN_3, wpSs_nil, wipeE, true_and, and_true, if_true, Bool.false_eq_true, if_false, Bool.not_true, Bool.not_false, decide_true, decide_false, tyIn1, tyIn2, tyIn3, tyIn4, tyIn5, isT_int_int, isT_int_str, isT_int_bool, isT_int_tuple, isT_int_list, isT_str_int, isT_str_str, isT_str_bool, isT_str_tuple, isT_str_list, isT_tuple_int, isT_tuple_str, isT_tuple_bool, isT_tuple_tuple, isT_tuple_list, isT_bool_int, isT_bool_str, isT_bool_bool, isT_bool_tuple, isT_bool_list, g1 q _ (by simpa using hqa) hq]
  rw [atI_in v0 v1]
  exact ret_ok (hQ _ (List.getElem_mem _) S1 g1 s1)
theorem shuf_w {K : Nat} (hK : 2 ≤ K) {a b q : Addr} {ns : List Int} {n : Nat} {S : Sto} {ds : List D} {Q : PK D} (hn : n + 200 < 2 ^ 60) (hs : Sc a b ns n S) (hq : S q = some (.lst ds)) (hqa : q ≠ a) (h1 : ds.length ≤ 100)
    (hQ : ∀ r es S1, S r = none → es.Perm ds → S1 r = some (.lst es) → Gr [a] S S1 → Sc a b ns (n + ds.length) S1 → Q (.ref r) S1) : cl K "_law_shuffled" [.ref a, .ref q] S Q := by
  refine lev_run (d := f__law_shuffled) rfl (by omega) ⟨rfl, ?_⟩
  show wpSs (gk (K - 1)) _ (enR Q) [some (.ref a), some (.ref q), none, none] S
  have hsz : sizeLine = 2 ^ 24 := rfl
  unfold f__law_shuffled
  (rw [wpSs_cons]; simp only [wpS, wp, wpEs, wpO, wpIf, wpI, wpAnd, wpOr, ofE, truthOf, asgW, asgWs, tgLen, List.getElem?_cons_zero, List.getElem?_cons_succ, List.set_cons_zero, List.set_cons_succ, ixC, ixL, setC, bopW, addW, subW, mulW, fdivW, modW, powW, negW, bfW, cmpC, eqC, ltC, leC, isC, inC, truC, slC, itemsL, tyName, fldC, up_same, atI_0, atI_1, atI_2, atI_3, atI_4, atI_5, ixN_0, ixN_1, ixN_2, ixN_3, wpSs_nil, wipeE, true_and, and_true, if_true, Bool.false_eq_true, if_false, Bool.not_true, Bool.not_false, decide_true, decide_false, tyIn1, tyIn2, tyIn3, tyIn4, tyIn5, isT_int_int, isT_int_str, isT_int_bool, isT_int_tuple, isT_int_list, isT_str_int, isT_str_str, isT_str_bool, isT_str_tuple, isT_str_list, isT_tuple_int, isT_tuple_str, isT_tuple_bool, isT_tuple_tuple, isT_tuple_list, isT_bool_int, isT_bool_str, isT_bool_bool, isT_bool_tuple, isT_bool_list])
  refine ⟨by simp, ?_⟩
  intro r hr
  have hra := hs.ne hr
  have g0 : Gr [] S (up S r (.lst [])) := .new hr
  have nqr : q ≠ r := by rintro rfl; rw [hq] at hr; cases hr
  (rw [wpSs_cons]; simp only [wpS, wp, wpEs, wpO, wpIf, wpI, wpAnd, wpOr, ofE, truthOf, asgW, asgWs, tgLen, List.getElem?_cons_zero, List.getElem?_cons_succ, List.set_cons_zero, List.set_cons_succ, ixC, ixL, setC, bopW, addW, subW, mulW, fdivW, modW, powW, negW, bfW, cmpC, eqC, ltC, leC, isC, inC, truC, slC, itemsL, tyName, fldC, up_same, atI_0, atI_1, atI_2, atI_3, atI_4, atI_5, ixN_0, ixN_1, ixN_2, ixN_3, wpSs_nil, wipeE, true_and, and_true, if_true, Bool.false_eq_true, if_false, Bool.not_true, Bool.not_false, decide_true, decide_false, tyIn1, tyIn2, tyIn3, tyIn4, tyIn5, isT_int_int, isT_int_str, isT_int_bool, isT_int_tuple, isT_int_list, isT_str_int, isT_str_str, isT_str_bool, isT_str_tuple, isT_str_list, isT_tuple_int, isT_tuple_str, isT_tuple_bool, isT_tuple_tuple, isT_tuple_list, isT_bool_int, isT_bool_str, isT_bool_bool, isT_bool_tuple, isT_bool_list])
  have hw : Wkd (.ref q) (up S r (.lst [])) ds := .inr ⟨q, rfl, by rw [up_ne nqr]; exact hq⟩
  refine walk_ofA (A := [a, r]) hw (fun q' e => by cases e; simp [hqa, nqr]) fun chk hc => ?_
  have e0 : ds = ds.map id := by simp
  rw [e0]
  refine pre_loop (fun d : D => d) (fun pre ρ S' => (∃ u, ρ = [some (.ref a), some (.ref q), some (.ref r), u]) ∧ (∃ es, S' r = some (.lst es) ∧ es.Perm pre) ∧ Gr [a, r] (up S r (.lst [])) S' ∧ Gr [a] S S' ∧ Sc a b ns (n + pre.length) S') ds ?_ ?_ ⟨⟨_, rfl⟩, ⟨[], up_same, .nil⟩, .refl, g0.mono (by simp), hs.keep g0⟩
  · rintro pre d post e ρ S' X ⟨⟨u, rfl⟩, ⟨es, h, pm⟩, g, g', sc⟩ hX
    refine ⟨hc _ g, ?_⟩
    have hpl : pre.length < ds.length := by have := congrArg List.length e; simp at this; omega
    have hel : es.length = pre.length := pm.length_eq
    simp only [wpS, wp, wpEs, wpO, wpIf, wpI, wpAnd, wpOr, ofE, truthOf, asgW, asgWs, tgLen, List.getElem?_cons_zero, List.getElem?_cons_succ, List.set_cons_zero, List.set_cons_succ, ixC, ixL, setC, bopW, addW, subW, mulW, fdivW, modW, powW, negW, bfW, cmpC, eqC, ltC, leC, isC, inC, truC, slC, itemsL, tyName, fldC, up_same, atI_0, atI_1, atI_2, atI_3, atI_4, atI_5, ixN_0, ixN_1, ixN_2, ixN_3, wpSs_nil, wipeE, true_and, and_true, if_true, Bool.false_eq_true, if_false, Bool.not_true, Bool.not_false, decide_true, decide_false, tyIn1, tyIn2, tyIn3, tyIn4, tyIn5, isT_int_int, isT_int_str, isT_int_bool, isT_int_tuple, isT_int_list, isT_str_int, isT_str_str, isT_str_bool, isT_str_tuple, isT_str_list, isT_tuple_int, isT_tuple_str, isT_tuple_bool, isT_tuple_tuple, isT_tuple_list, isT_bool_int, isT_bool_str, isT_bool_bool, isT_bool_tuple, isT_bool_list]
    (rw [wpSs_cons]; simp only [wpS, wp, wpEs, wpO, wpIf, wpI, wpAnd, wpOr, ofE, truthOf, asgW, asgWs, tgLen, List.getElem?_cons_zero, List.getElem?_cons_succ, List.set_cons_zero, List.set_cons_succ, ixC, ixL, setC, bopW, addW, subW, mulW, fdivW, modW, powW, negW, bfW, cmpC, eqC, ltC, leC, isC, inC, truC, slC, itemsL, tyName, fldC, up_same, atI_0, atI_1, atI_2, atI_3, atI_4, atI_5, ixN_0, ixN_1, ixN_2, ixN_3, wpSs_nil, wipeE, true_and, and_true, if_true, Bool.false_eq_true, if_false, Bool.not_true, Bool.not_false, decide_true, decide_false, tyIn1, tyIn2, tyIn3, tyIn4, tyIn5, isT_int_int, isT_int_str, isT_int_bool, isT_int_tuple, isT_int_list, isT_str_int, isT_str_str, isT_str_bool, isT_str_tuple, isT_str_list, isT_tuple_int, isT_tuple_str, isT_tuple_bool, isT_tuple_tuple, isT_tuple_list, isT_bool_int, isT_bool_str, isT_bool_bool, isT_bool_tuple, isT_bool_list, rcv, bmT, h])
    refine draw_K (by omega) (by omega) (by omega) (by omega) sc fun v S2 v0 v1 g2 sc2 => ?_
    have h2 := g2 _ _ (by simpa using hra) h
    simp only [wpS, wp, wpEs, wpO, wpIf, wpI, wpAnd, wpOr, ofE, truthOf, asgW, asgWs, tgLen, List.getElem?_cons_zero, List.getElem?_cons_succ, List.set_cons_zero, List.set_cons_succ, ixC, ixL, setC, bopW, addW, subW, mulW, fdivW, modW, powW, negW, bfW, cmpC, eqC, ltC, leC, isC, inC, truC, slC, itemsL, tyName, fldC, up_same, atI_0, atI_1, atI_2, atI_3, atI_4, atI_5, ixN_0, ixN_1, ixN_2, ixN_3, wpSs_nil, wipeE, true_and, and_true, if_true, Bool.false_eq_true, if_false, Bool.not_true, Bool.not_false, decide_true, decide_false, tyIn1, tyIn2, tyIn3, tyIn4, tyIn5, isT_int_int, isT_int_str, isT_int_bool, isT_int_tuple, isT_int_list, isT_str_int, isT_str_str, isT_str_bool, isT_str_tuple, isT_str_list, isT_tuple_int, isT_tuple_str, isT_tuple_bool, isT_tuple_tuple, isT_tuple_list, isT_bool_int, isT_bool_str, isT_bool_bool, isT_bool_tuple, isT_bool_list, bmW, h2]
    refine ⟨⟨by omega, v0, by omega⟩, ?_⟩
    have nrb : b ≠ r := by
      obtain ⟨_, hb0, _⟩ := hs
      rintro rfl; rw [hb0] at hr; cases hr
    refine hX _ _ ⟨⟨_, rfl⟩, ⟨_, up_same, ?_⟩, (g.trans (g2.mono (by simp))).trans (.up (by simp)), (g'.trans g2).set hr, ?_⟩
    · have h3 : (es.take v.toNat ++ [d] ++ es.drop v.toNat).Perm (d :: es) := by
        have : (es.take v.toNat ++ [d] ++ es.drop v.toNat).Perm (d :: (es.take v.toNat ++ es.drop v.toNat)) := by
          rw [List.append_assoc]
          exact List.perm_middle
        rwa [List.take_append_drop] at this
      exact h3.trans ((pm.cons d).trans (List.perm_append_comm (l₁ := [d])))
    · obtain ⟨hab, hb5, i, hh, c, ha, c1, c2⟩ := sc2
      exact ⟨hab, by rw [up_ne nrb]; exact hb5, i, hh, c, by rw [up_ne (Ne.symm hra)]; exact ha, c1, by simp; omega⟩
  · rintro ρ S' ⟨⟨u, rfl⟩, ⟨es, h, pm⟩, g, g', sc⟩
    refine ⟨hc _ g, ?_⟩
    (rw [wpSs_cons]; simp only [wpS, wp, wpEs, wpO, wpIf, wpI, wpAnd, wpOr, ofE, truthOf, asgW, asgWs, tgLen, List.getElem?_cons_zero, List.getElem?_cons_succ, List.set_cons_zero, List.set_cons_succ, ixC, ixL, setC, bopW, addW, subW, mulW, fdivW, modW, powW, negW, bfW, cmpC, eqC, ltC, leC, isC, inC, truC, slC, itemsL, tyName, fldC, up_same, atI_0, atI_1, atI_2, atI_3, atI_4, atI_5, ixN_0, ixN_1, ixN_2, ixN_3, wpSs_nil, wipeE, true_and, and_true, if_true, Bool.false_eq_true, if_false, Bool.not_true, Bool.not_false, decide_true, decide_false, tyIn1, tyIn2, tyIn3, tyIn4, tyIn5, isT_int_int, isT_int_str, isT_int_bool, isT_int_tuple, isT_int_list, isT_str_int, isT_str_str, isT_str_bool, isT_str_tuple, isT_str_list, isT_tuple_int, isT_tuple_str, isT_tuple_bool, isT_tuple_tuple, isT_tuple_list, isT_bool_int, isT_bool_str, isT_bool_bool, isT_bool_tuple, isT_bool_list])
    exact ret_ok (hQ r es S' hr pm h g' sc)
/-- a word of letters -/
def lowS (x : Str) : Prop := ∀ c ∈ x.cps.toList, 97 ≤ c ∧ c ≤ 122
def Wd (m : Nat) (x : Str) : Prop := x.length = m ∧ lowS x
theorem cps_app (x y : Str) : (x ++ y).cps.toList = x.cps.toList ++ y.cps.toList := by
  show (x.cps ++ y.cps).toList = _
  simp
theorem low_app {x y : Str} (h : lowS x) (h2 : lowS y) : lowS (x ++ y) := fun c hc => by
  rw [cps_app] at hc
  rcases List.mem_append.mp hc with hc | hc
  · exact h c hc
  · exact h2 c hc
theorem abc_ok : (("abcdefghijklmnopqrstuvwxyz" : Str).cps.toList.all fun c => decide (97 ≤ c) && decide (c ≤ 122)) = true ∧ ("abcdefghijklmnopqrstuvwxyz" : Str).cps.toList.length = 26 := by decide +kernel
theorem abc_at {i : Int} (h0 : 0 ≤ i) (h1 : i < 26) : ∃ c, atI ("abcdefghijklmnopqrstuvwxyz" : Str).cps.toList i = some c ∧ Wd 1 ⟨#[c]⟩ := by
  have hl := abc_ok.2
  have h := atI_in h0 (by rw [hl]; exact h1) (xs := ("abcdefghijklmnopqrstuvwxyz" : Str).cps.toList)
  refine ⟨_, h, rfl, fun c hc => ?_⟩
  have hc' : c = ("abcdefghijklmnopqrstuvwxyz" : Str).cps.toList[i.toNat]'(by rw [hl]; omega) := by simpa using hc
  have := List.all_eq_true.mp abc_ok.1 c (by rw [hc']; exact List.getElem_mem _)
  simpa using this
theorem qxz_ok : ∀ d : _root_.Fin 4, ((cutS ("qxz" : Str) none (some ((d.val : Nat) : Int))).cps.toList.all fun c => decide (97 ≤ c) && decide (c ≤ 122)) = true ∧ (cutS ("qxz" : Str) none (some ((d.val : Nat) : Int))).length ≤ 3 := by decide +kernel
theorem qxz_w {d : Int} (h0 : 0 ≤ d) (h1 : d < 4) : ∃ m, m ≤ 3 ∧ Wd m (cutS ("qxz" : Str) none (some d)) := by
  obtain ⟨a, b⟩ := qxz_ok ⟨d.toNat, by omega⟩
  have e : ((d.toNat : Nat) : Int) = d := by omega
  simp only [e] at a b
  refine ⟨_, b, rfl, fun c hc => ?_⟩
  have := List.all_eq_true.mp a c hc
  simpa using this

theorem abc_inj : ∀ i j : _root_.Fin 26, atI ("abcdefghijklmnopqrstuvwxyz" : Str).cps.toList ((i.val : Nat) : Int) = atI ("abcdefghijklmnopqrstuvwxyz" : Str).cps.toList ((j.val : Nat) : Int) → i = j := by decide +kernel
theorem abc_inj' {i j : Int} {c : Nat} (hi : 0 ≤ i ∧ i < 26) (hj : 0 ≤ j ∧ j < 26) (h1 : atI ("abcdefghijklmnopqrstuvwxyz" : Str).cps.toList i = some c) (h2 : atI ("abcdefghijklmnopqrstuvwxyz" : Str).cps.toList j = some c) : i = j := by
  have ei : ((i.toNat : Nat) : Int) = i := by omega
  have ej : ((j.toNat : Nat) : Int) = j := by omega
  have := abc_inj ⟨i.toNat, by omega⟩ ⟨j.toNat, by omega⟩ (by simp only [ei, ej]; rw [h1, h2])
  have := congrArg (fun z : _root_.Fin 26 => z.val) this
  simp only at this
  omega
theorem step_inj {st sp : Int} {x y : Nat} (s0 : 0 ≤ sp) (s1 : sp < 6) (hx : x < 6) (hy : y < 6) (h : (st + (0 + (x : Int)) * (1 + 2 * sp)) % 26 = (st + (0 + (y : Int)) * (1 + 2 * sp)) % 26) : x = y := by
  have c : sp = 0 ∨ sp = 1 ∨ sp = 2 ∨ sp = 3 ∨ sp = 4 ∨ sp = 5 := by omega
  rcases c with rfl | rfl | rfl | rfl | rfl | rfl <;> omega
theorem one_inj {c d : Nat} (h : (⟨#[c]⟩ : Str) = ⟨#[d]⟩) : c = d := by
  have := congrArg (fun z : Str => z.cps.toList) h
  simpa using this
theorem app_l {x y z : Str} (h : x ++ y = x ++ z) : y = z := by
  have := congrArg (fun z : Str => z.cps.toList) h
  simp only [cps_app, List.append_cancel_left_eq] at this
  exact str_ext this
theorem app_r {x y z : Str} (h : y ++ x = z ++ x) : y = z := by
  have := congrArg (fun z : Str => z.cps.toList) h
  simp only [cps_app, List.append_cancel_right_eq] at this
  exact str_ext this
/-- words are drawn without doubles -/
theorem words_w {K : Nat} (hK : 2 ≤ K) {a b : Addr} {ns : List Int} {n : Nat} {S : Sto} {many : Nat} {Q : PK D} (hn : n + 200 < 2 ^ 60) (hm : many ≤ 6) (hs : Sc a b ns n S)
    (hQ : ∀ q m (ws : List Str) S1, S q = none → m ≤ 4 → 1 ≤ m → ws.length = many → (∀ w ∈ ws, Wd m w) → ws.Nodup → S1 q = some (.lst (ws.map .str)) → Gr [a] S S1 → Sc a b ns (n + 4) S1 → Q (.ref q) S1) : cl K "_law_words" [.ref a, .int many] S Q := by
  refine lev_run (d := f__law_words) rfl (by omega) ⟨rfl, ?_⟩
  show wpSs (gk (K - 1)) _ (enR Q) [some (.ref a), some (.int many), none, none, none, none, none] S
  have hsz : sizeLine = 2 ^ 24 := rfl
  have hal : ("abcdefghijklmnopqrstuvwxyz" : Str).length ≤ sizeLine := by decide +kernel
  have hql : ("qxz" : Str).length ≤ sizeLine := by decide +kernel
  unfold f__law_words
  (rw [wpSs_cons]; simp only [wpS, wp, wpEs, wpO, wpIf, wpI, wpAnd, wpOr, ofE, truthOf, asgW, asgWs, tgLen, List.getElem?_cons_zero, List.getElem?_cons_succ, List.set_cons_zero, List.set_cons_succ, ixC, ixL, setC, bopW, addW, subW, mulW, fdivW, modW, powW, negW, bfW, cmpC, eqC, ltC, leC, isC, inC, truC, slC, itemsL, tyName, fldC, up_same, atI_0, atI_1, atI_2, atI_3, atI_4, atI_5, ixN_0, ixN_1, ixN_2, ixN_3, wpSs_nil, wipeE, true_and, and_true, if_true, Bool.false_eq_true, if_false, Bool.not_true, Bool.not_false, decide_true, decide_false, tyIn1, tyIn2, tyIn3, tyIn4, tyIn5, isT_int_int, isT_int_str, isT_int_bool, isT_int_tuple, isT_int_list, isT_str_int, isT_str_str, isT_str_bool, isT_str_tuple, isT_str_list, isT_tuple_int, isT_tuple_str, isT_tuple_bool, isT_tuple_tuple, isT_tuple_list, isT_bool_int, isT_bool_str, isT_bool_bool, isT_bool_tuple, isT_bool_list])
  (rw [wpSs_cons]; simp only [wpS, wp, wpEs, wpO, wpIf, wpI, wpAnd, wpOr, ofE, truthOf, asgW, asgWs, tgLen, List.getElem?_cons_zero, List.getElem?_cons_succ, List.set_cons_zero, List.set_cons_succ, ixC, ixL, setC, bopW, addW, subW, mulW, fdivW, modW, powW, negW, bfW, cmpC, eqC, ltC, leC, isC, inC, truC, slC, itemsL, tyName, fldC, up_same, atI_0, atI_1, atI_2, atI_3, atI_4, atI_5, ixN_0, ixN_1, ixN_2, ixN_3, wpSs_nil, wipeE, true_and, and_true, if_true, Bool.false_eq_true, if_false, Bool.not_true, Bool.not_false, decide_true, decide_false, tyIn1, tyIn2, tyIn3, tyIn4, tyIn5, isT_int_int, isT_int_str, isT_int_bool, isT_int_tuple, isT_int_list, isT_str_int, isT_str_str, isT_str_bool, isT_str_tuple, isT_str_list, isT_tuple_int, isT_tuple_str, isT_tuple_bool, isT_tuple_tuple, isT_tuple_list, isT_bool_int, isT_bool_str, isT_bool_bool, isT_bool_tuple, isT_bool_list])
  refine draw_K (by omega) (by omega) (by decide) (by decide) hs fun st S1 s0 s1 g1 sc1 => ?_
  (rw [wpSs_cons]; simp only [wpS, wp, wpEs, wpO, wpIf, wpI, wpAnd, wpOr, ofE, truthOf, asgW, asgWs, tgLen, List.getElem?_cons_zero, List.getElem?_cons_succ, List.set_cons_zero, List.set_cons_succ, ixC, ixL, setC, bopW, addW, subW, mulW, fdivW, modW, powW, negW, bfW, cmpC, eqC, ltC, leC, isC, inC, truC, slC, itemsL, tyName, fldC, up_same, atI_0, atI_1, atI_2, atI_3, atI_4, atI_5, ixN_0, ixN_1, ixN_2, ixN_3, wpSs_nil, wipeE, true_and, and_true, if_true, Bool.false_eq_true, if_false, Bool.not_true, Bool.not_false, decide_true, decide_false, tyIn1, tyIn2, tyIn3, tyIn4, tyIn5, isT_int_int, isT_int_str, isT_int_bool, isT_int_tuple, isT_int_list, isT_str_int, isT_str_str, isT_str_bool, isT_str_tuple, isT_str_list, isT_tuple_int, isT_tuple_str, isT_tuple_bool, isT_tuple_tuple, isT_tuple_list, isT_bool_int, isT_bool_str, isT_bool_bool, isT_bool_tuple, isT_bool_list])
  refine draw_K (by omega) (by omega) (by decide) (by decide) sc1 fun sp S2 p0 p1 g2 sc2 => ?_
  simp only [wpS, wp, wpEs, wpO, wpIf, wpI, wpAnd, wpOr, ofE, truthOf, asgW, asgWs, tgLen, List.getElem?_cons_zero, List.getElem?_cons_succ, List.set_cons_zero, List.set_cons_succ, ixC, ixL, setC, bopW, addW, subW, mulW, fdivW, modW, powW, negW, bfW, cmpC, eqC, ltC, leC, isC, inC, truC, slC, itemsL, tyName, fldC, up_same, atI_0, atI_1, atI_2, atI_3, atI_4, atI_5, ixN_0, ixN_1, ixN_2, ixN_3, wpSs_nil, wipeE, true_and, and_true, if_true, Bool.false_eq_true, if_false, Bool.not_true, Bool.not_false, decide_true, decide_false, tyIn1, tyIn2, tyIn3, tyIn4, tyIn5, isT_int_int, isT_int_str, isT_int_bool, isT_int_tuple, isT_int_list, isT_str_int, isT_str_str, isT_str_bool, isT_str_tuple, isT_str_list, isT_tuple_int, isT_tuple_str, isT_tuple_bool, isT_tuple_tuple, isT_tuple_list, isT_bool_int, isT_bool_str, isT_bool_bool, isT_bool_tuple, isT_bool_list]
  refine ⟨wide_mul (a := 64) (b := 64) (by decide) (by omega) (by decide) (by decide) (by decide), ?_⟩
  (rw [wpSs_cons]; simp only [wpS, wp, wpEs, wpO, wpIf, wpI, wpAnd, wpOr, ofE, truthOf, asgW, asgWs, tgLen, List.getElem?_cons_zero, List.getElem?_cons_succ, List.set_cons_zero, List.set_cons_succ, ixC, ixL, setC, bopW, addW, subW, mulW, fdivW, modW, powW, negW, bfW, cmpC, eqC, ltC, leC, isC, inC, truC, slC, itemsL, tyName, fldC, up_same, atI_0, atI_1, atI_2, atI_3, atI_4, atI_5, ixN_0, ixN_1, ixN_2, ixN_3, wpSs_nil, wipeE, true_and, and_true, if_true, Bool.false_eq_true, if_false, Bool.not_true, Bool.not_false, decide_true, decide_false, tyIn1, tyIn2, tyIn3, tyIn4, tyIn5, isT_int_int, isT_int_str, isT_int_bool, isT_int_tuple, isT_int_list, isT_str_int, isT_str_str, isT_str_bool, isT_str_tuple, isT_str_list, isT_tuple_int, isT_tuple_str, isT_tuple_bool, isT_tuple_tuple, isT_tuple_list, isT_bool_int, isT_bool_str, isT_bool_bool, isT_bool_tuple, isT_bool_list])
  refine draw_K (by omega) (by omega) (by decide) (by decide) sc2 fun sh S3 h0 h1 g3 sc3 => ?_
  simp only [wpS, wp, wpEs, wpO, wpIf, wpI, wpAnd, wpOr, ofE, truthOf, asgW, asgWs, tgLen, List.getElem?_cons_zero, List.getElem?_cons_succ, List.set_cons_zero, List.set_cons_succ, ixC, ixL, setC, bopW, addW, subW, mulW, fdivW, modW, powW, negW, bfW, cmpC, eqC, ltC, leC, isC, inC, truC, slC, itemsL, tyName, fldC, up_same, atI_0, atI_1, atI_2, atI_3, atI_4, atI_5, ixN_0, ixN_1, ixN_2, ixN_3, wpSs_nil, wipeE, true_and, and_true, if_true, Bool.false_eq_true, if_false, Bool.not_true, Bool.not_false, decide_true, decide_false, tyIn1, tyIn2, tyIn3, tyIn4, tyIn5, isT_int_int, isT_int_str, isT_int_bool, isT_int_tuple, isT_int_list, isT_str_int, isT_str_str, isT_str_bool, isT_str_tuple, isT_str_list, isT_tuple_int, isT_tuple_str, isT_tuple_bool, isT_tuple_tuple, isT_tuple_list, isT_bool_int, isT_bool_str, isT_bool_bool, isT_bool_tuple, isT_bool_list]
  refine ⟨hql, ?_⟩
  obtain ⟨m, m3, hw⟩ := qxz_w h0 h1
  generalize cutS ("qxz" : Str) none (some sh) = shared at hw ⊢
  (rw [wpSs_cons]; simp only [wpS, wp, wpEs, wpO, wpIf, wpI, wpAnd, wpOr, ofE, truthOf, asgW, asgWs, tgLen, List.getElem?_cons_zero, List.getElem?_cons_succ, List.set_cons_zero, List.set_cons_succ, ixC, ixL, setC, bopW, addW, subW, mulW, fdivW, modW, powW, negW, bfW, cmpC, eqC, ltC, leC, isC, inC, truC, slC, itemsL, tyName, fldC, up_same, atI_0, atI_1, atI_2, atI_3, atI_4, atI_5, ixN_0, ixN_1, ixN_2, ixN_3, wpSs_nil, wipeE, true_and, and_true, if_true, Bool.false_eq_true, if_false, Bool.not_true, Bool.not_false, decide_true, decide_false, tyIn1, tyIn2, tyIn3, tyIn4, tyIn5, isT_int_int, isT_int_str, isT_int_bool, isT_int_tuple, isT_int_list, isT_str_int, isT_str_str, isT_str_bool, isT_str_tuple, isT_str_list, isT_tuple_int, isT_tuple_str, isT_tuple_bool, isT_tuple_tuple, isT_tuple_list, isT_bool_int, isT_bool_str, isT_bool_bool, isT_bool_tuple, isT_bool_list])
  refine draw_K (by omega) (by omega) (by decide) (by decide) sc3 fun v S4 v0 v1 g4 sc4 => ?_
  have G4 : Gr [a] S S4 := ((g1.trans g2).trans g3).trans g4
  have hwl := hw.1
  have rg : ∀ k : Nat, 0 ≤ (st + (0 + (k : Int)) * (1 + 2 * sp)) % 26 ∧ (st + (0 + (k : Int)) * (1 + 2 * sp)) % 26 < 26 := fun k => ⟨Int.emod_nonneg _ (by decide), Int.emod_lt_of_pos _ (by decide)⟩
  have lett : ∀ k : Nat, ∃ c, atI ("abcdefghijklmnopqrstuvwxyz" : Str).cps.toList ((st + (0 + (k : Int)) * (1 + 2 * sp)) % 26) = some c ∧ Wd 1 ⟨#[c]⟩ := fun k => abc_at (rg k).1 (rg k).2
  have mw : ∀ k : Nat, k < 10 → CMulW (0 + (k : Int)) (1 + 2 * sp) := fun k hk => wide_mul (a := 64) (b := 64) (by omega) (by omega) (by decide) (by decide) (by decide)
  have fresh : ∀ (F : Nat → Str), (∀ c d, F c = F d → c = d) → ∀ (ws : List Str) (x : Nat) (c : Nat), x < 6 → (∀ w ∈ ws, ∃ i c, i < x ∧ atI ("abcdefghijklmnopqrstuvwxyz" : Str).cps.toList ((st + (0 + (i : Int)) * (1 + 2 * sp)) % 26) = some c ∧ w = F c) → atI ("abcdefghijklmnopqrstuvwxyz" : Str).cps.toList ((st + (0 + (x : Int)) * (1 + 2 * sp)) % 26) = some c → F c ∉ ws := by
    intro F hF ws x c hx hws hc hin
    obtain ⟨i, d, hi, hd, e⟩ := hws _ hin
    have ecd := hF _ _ e
    subst ecd
    have := step_inj p0 p1 (by omega) hx (abc_inj' (rg i) (rg x) hd hc)
    omega
  simp only [wpS, wp, wpEs, wpO, wpIf, wpI, wpAnd, wpOr, ofE, truthOf, asgW, asgWs, tgLen, List.getElem?_cons_zero, List.getElem?_cons_succ, List.set_cons_zero, List.set_cons_succ, ixC, ixL, setC, bopW, addW, subW, mulW, fdivW, modW, powW, negW, bfW, cmpC, eqC, ltC, leC, isC, inC, truC, slC, itemsL, tyName, fldC, up_same, atI_0, atI_1, atI_2, atI_3, atI_4, atI_5, ixN_0, ixN_1, ixN_2, ixN_3, wpSs_nil, wipeE, true_and, and_true, if_true, Bool.false_eq_true, if_false, Bool.not_true, Bool.not_false, decide_true, decide_false, tyIn1, tyIn2, tyIn3, tyIn4, tyIn5, isT_int_int, isT_int_str, isT_int_bool, isT_int_tuple, isT_int_list, isT_str_int, isT_str_str, isT_str_bool, isT_str_tuple, isT_str_list, isT_tuple_int, isT_tuple_str, isT_tuple_bool, isT_tuple_tuple, isT_tuple_list, isT_bool_int, isT_bool_str, isT_bool_bool, isT_bool_tuple, isT_bool_list]
  split
  · (rw [wpSs_cons]; simp only [wpS, wp, wpEs, wpO, wpIf, wpI, wpAnd, wpOr, ofE, truthOf, asgW, asgWs, tgLen, List.getElem?_cons_zero, List.getElem?_cons_succ, List.set_cons_zero, List.set_cons_succ, ixC, ixL, setC, bopW, addW, subW, mulW, fdivW, modW, powW, negW, bfW, cmpC, eqC, ltC, leC, isC, inC, truC, slC, itemsL, tyName, fldC, up_same, atI_0, atI_1, atI_2, atI_3, atI_4, atI_5, ixN_0, ixN_1, ixN_2, ixN_3, wpSs_nil, wipeE, true_and, and_true, if_true, Bool.false_eq_true, if_false, Bool.not_true, Bool.not_false, decide_true, decide_false, tyIn1, tyIn2, tyIn3, tyIn4, tyIn5, isT_int_int, isT_int_str, isT_int_bool, isT_int_tuple, isT_int_list, isT_str_int, isT_str_str, isT_str_bool, isT_str_tuple, isT_str_list, isT_tuple_int, isT_tuple_str, isT_tuple_bool, isT_tuple_tuple, isT_tuple_list, isT_bool_int, isT_bool_str, isT_bool_bool, isT_bool_tuple, isT_bool_list])
    refine ⟨⟨by omega, by omega⟩, ?_⟩
    unfold rngD
    rw [Int.toNat_natCast]
    refine pre_lc (fun i : Nat => D.int (0 + (i : Int))) (fun pre acc S' => ∃ ws : List Str, acc = ws.map .str ∧ ws.length = pre.length ∧ (∀ w ∈ ws, Wd (m + 1) w) ∧ ws.Nodup ∧ (∀ w ∈ ws, ∃ i c, i < pre.length ∧ atI ("abcdefghijklmnopqrstuvwxyz" : Str).cps.toList ((st + (0 + (i : Int)) * (1 + 2 * sp)) % 26) = some c ∧ w = shared ++ ⟨#[c]⟩) ∧ S' = S4) (List.range many) (by simp; omega) ?_ ?_ ⟨[], rfl, rfl, by simp, .nil, by simp, rfl⟩
    · rintro pre x post e acc S' X ⟨ws, rfl, hl, hws, nd, hix, rfl⟩ hX _
      obtain ⟨hx1, hx2⟩ := range_mid e
      refine ⟨trivial, ?_⟩
      obtain ⟨c, hc, hcw⟩ := lett x
      have nin := fresh (fun c => shared ++ ⟨#[c]⟩) (fun c d e => one_inj (app_l e)) ws x c (by omega) (by rw [hx2]; exact hix) hc
      simp only [wpS, wp, wpEs, wpO, wpIf, wpI, wpAnd, wpOr, ofE, truthOf, asgW, asgWs, tgLen, List.getElem?_cons_zero, List.getElem?_cons_succ, List.set_cons_zero, List.set_cons_succ, ixC, ixL, setC, bopW, addW, subW, mulW, fdivW, modW, powW, negW, bfW, cmpC, eqC, ltC, leC, isC, inC, truC, slC, itemsL, tyName, fldC, up_same, atI_0, atI_1, atI_2, atI_3, atI_4, atI_5, ixN_0, ixN_1, ixN_2, ixN_3, wpSs_nil, wipeE, true_and, and_true, if_true, Bool.false_eq_true, if_false, Bool.not_true, Bool.not_false, decide_true, decide_false, tyIn1, tyIn2, tyIn3, tyIn4, tyIn5, isT_int_int, isT_int_str, isT_int_bool, isT_int_tuple, isT_int_list, isT_str_int, isT_str_str, isT_str_bool, isT_str_tuple, isT_str_list, isT_tuple_int, isT_tuple_str, isT_tuple_bool, isT_tuple_tuple, isT_tuple_list, isT_bool_int, isT_bool_str, isT_bool_bool, isT_bool_tuple, isT_bool_list]
      refine ⟨mw x (by omega), by decide, hal, ?_⟩
      simp only [wpS, wp, wpEs, wpO, wpIf, wpI, wpAnd, wpOr, ofE, truthOf, asgW, asgWs, tgLen, List.getElem?_cons_zero, List.getElem?_cons_succ, List.set_cons_zero, List.set_cons_succ, ixC, ixL, setC, bopW, addW, subW, mulW, fdivW, modW, powW, negW, bfW, cmpC, eqC, ltC, leC, isC, inC, truC, slC, itemsL, tyName, fldC, up_same, atI_0, atI_1, atI_2, atI_3, atI_4, atI_5, ixN_0, ixN_1, ixN_2, ixN_3, wpSs_nil, wipeE, true_and, and_true, if_true, Bool.false_eq_true, if_false, Bool.not_true, Bool.not_false, decide_true, decide_false, tyIn1, tyIn2, tyIn3, tyIn4, tyIn5, isT_int_int, isT_int_str, isT_int_bool, isT_int_tuple, isT_int_list, isT_str_int, isT_str_str, isT_str_bool, isT_str_tuple, isT_str_list, isT_tuple_int, isT_tuple_str, isT_tuple_bool, isT_tuple_tuple, isT_tuple_list, isT_bool_int, isT_bool_str, isT_bool_bool, isT_bool_tuple, isT_bool_list, hc]
      refine ⟨?_, hX _ _ ⟨ws ++ [shared ++ ⟨#[c]⟩], by simp, by simp [hl], fun w hw' => ?_, ?_, fun w hw' => ?_, rfl⟩⟩
      · show shared.length + 1 ≤ sizeLine; omega
      · rcases List.mem_append.mp hw' with hw' | hw'
        · exact hws w hw'
        · rw [List.mem_singleton.mp hw']
          exact ⟨by rw [strLen_app, hwl]; rfl, low_app hw.2 hcw.2⟩
      · refine List.nodup_append.mpr ⟨nd, by simp, fun y hy z hz => ?_⟩
        rw [List.mem_singleton.mp hz]
        rintro rfl
        exact nin hy
      · rw [List.length_append, List.length_singleton]
        rcases List.mem_append.mp hw' with hw' | hw'
        · obtain ⟨i, c, hi, h1, h2⟩ := hix w hw'
          exact ⟨i, c, by omega, h1, h2⟩
        · exact ⟨x, c, by omega, hc, List.mem_singleton.mp hw'⟩
    · rintro acc S' ⟨ws, rfl, hl, hws, nd, hix, rfl⟩
      refine ⟨trivial, ?_⟩
      intro q hq
      have fq : S q = none := G4.free1 hq (sc4.ne hq)
      exact ret_ok (hQ q (m + 1) ws _ fq (by omega) (by omega) (by rw [hl]; simp) hws nd up_same (G4.trans (.new hq)) (sc4.new hq))
  · (rw [wpSs_cons]; simp only [wpS, wp, wpEs, wpO, wpIf, wpI, wpAnd, wpOr, ofE, truthOf, asgW, asgWs, tgLen, List.getElem?_cons_zero, List.getElem?_cons_succ, List.set_cons_zero, List.set_cons_succ, ixC, ixL, setC, bopW, addW, subW, mulW, fdivW, modW, powW, negW, bfW, cmpC, eqC, ltC, leC, isC, inC, truC, slC, itemsL, tyName, fldC, up_same, atI_0, atI_1, atI_2, atI_3, atI_4, atI_5, ixN_0, ixN_1, ixN_2, ixN_3, wpSs_nil, wipeE, true_and, and_true, if_true, Bool.false_eq_true, if_false, Bool.not_true, Bool.not_false, decide_true, decide_false, tyIn1, tyIn2, tyIn3, tyIn4, tyIn5, isT_int_int, isT_int_str, isT_int_bool, isT_int_tuple, isT_int_list, isT_str_int, isT_str_str, isT_str_bool, isT_str_tuple, isT_str_list, isT_tuple_int, isT_tuple_str, isT_tuple_bool, isT_tuple_tuple, isT_tuple_list, isT_bool_int, isT_bool_str, isT_bool_bool, isT_bool_tuple, isT_bool_list])
    refine ⟨⟨by omega, by omega⟩, ?_⟩
    unfold rngD
    rw [Int.toNat_natCast]
    refine pre_lc (fun i : Nat => D.int (0 + (i : Int))) (fun pre acc S' => ∃ ws : List Str, acc = ws.map .str ∧ ws.length = pre.length ∧ (∀ w ∈ ws, Wd (m + 1) w) ∧ ws.Nodup ∧ (∀ w ∈ ws, ∃ i c, i < pre.length ∧ atI ("abcdefghijklmnopqrstuvwxyz" : Str).cps.toList ((st + (0 + (i : Int)) * (1 + 2 * sp)) % 26) = some c ∧ w = ⟨#[c]⟩ ++ shared) ∧ S' = S4) (List.range many) (by simp; omega) ?_ ?_ ⟨[], rfl, rfl, by simp, .nil, by simp, rfl⟩
    · rintro pre x post e acc S' X ⟨ws, rfl, hl, hws, nd, hix, rfl⟩ hX _
      obtain ⟨hx1, hx2⟩ := range_mid e
      refine ⟨trivial, ?_⟩
      obtain ⟨c, hc, hcw⟩ := lett x
      have nin := fresh (fun c => ⟨#[c]⟩ ++ shared) (fun c d e => one_inj (app_r e)) ws x c (by omega) (by rw [hx2]; exact hix) hc
      simp only [wpS, wp, wpEs, wpO, wpIf, wpI, wpAnd, wpOr, ofE, truthOf, asgW, asgWs, tgLen, List.getElem?_cons_zero, List.getElem?_cons_succ, List.set_cons_zero, List.set_cons_succ, ixC, ixL, setC, bopW, addW, subW, mulW, fdivW, modW, powW, negW, bfW, cmpC, eqC, ltC, leC, isC, inC, truC, slC, itemsL, tyName, fldC, up_same, atI_0, atI_1, atI_2, atI_3, atI_4, atI_5, ixN_0, ixN_1, ixN_2, ixN_3, wpSs_nil, wipeE, true_and, and_true, if_true, Bool.false_eq_true, if_false, Bool.not_true, Bool.not_false, decide_true, decide_false, tyIn1, tyIn2, tyIn3, tyIn4, tyIn5, isT_int_int, isT_int_str, isT_int_bool, isT_int_tuple, isT_int_list, isT_str_int, isT_str_str, isT_str_bool, isT_str_tuple, isT_str_list, isT_tuple_int, isT_tuple_str, isT_tuple_bool, isT_tuple_tuple, isT_tuple_list, isT_bool_int, isT_bool_str, isT_bool_bool, isT_bool_tuple, isT_bool_list]
      refine ⟨mw x (by omega), by decide, hal, ?_⟩
      simp only [wpS, wp, wpEs, wpO, wpIf, wpI, wpAnd, wpOr, ofE, truthOf, asgW, asgWs, tgLen, List.getElem?_cons_zero, List.getElem?_cons_succ, List.set_cons_zero, List.set_cons_succ, ixC, ixL, setC, bopW, addW, subW, mulW, fdivW, modW, powW, negW, bfW, cmpC, eqC, ltC, leC, isC, inC, truC, slC, itemsL, tyName, fldC, up_same, atI_0, atI_1, atI_2, atI_3, atI_4, atI_5, ixN_0, ixN_1, ixN_2, ixN_3, wpSs_nil, wipeE, true_and, and_true, if_true, Bool.false_eq_true, if_false, Bool.not_true, Bool.not_false, decide_true, decide_false, tyIn1, tyIn2, tyIn3, tyIn4, tyIn5, isT_int_int, isT_int_str, isT_int_bool, isT_int_tuple, isT_int_list, isT_str_int, isT_str_str, isT_str_bool, isT_str_tuple, isT_str_list, isT_tuple_int, isT_tuple_str, isT_tuple_bool, isT_tuple_tuple, isT_tuple_list, isT_bool_int, isT_bool_str, isT_bool_bool, isT_bool_tuple, isT_bool_list, hc]
      refine ⟨?_, hX _ _ ⟨ws ++ [⟨#[c]⟩ ++ shared], by simp, by simp [hl], fun w hw' => ?_, ?_, fun w hw' => ?_, rfl⟩⟩
      · show 1 + shared.length ≤ sizeLine; omega
      · rcases List.mem_append.mp hw' with hw' | hw'
        · exact hws w hw'
        · rw [List.mem_singleton.mp hw']
          exact ⟨by rw [strLen_app, hwl]; show 1 + m = _; omega, low_app hcw.2 hw.2⟩
      · refine List.nodup_append.mpr ⟨nd, by simp, fun y hy z hz => ?_⟩
        rw [List.mem_singleton.mp hz]
        rintro rfl
        exact nin hy
      · rw [List.length_append, List.length_singleton]
        rcases List.mem_append.mp hw' with hw' | hw'
        · obtain ⟨i, c, hi, h1, h2⟩ := hix w hw'
          exact ⟨i, c, by omega, h1, h2⟩
        · exact ⟨x, c, by omega, hc, List.mem_singleton.mp hw'⟩
    · rintro acc S' ⟨ws, rfl, hl, hws, nd, hix, rfl⟩
      refine ⟨trivial, ?_⟩
      intro q hq
      have fq : S q = none := G4.free1 hq (sc4.ne hq)
      exact ret_ok (hQ q (m + 1) ws _ fq (by omega) (by omega) (by rw [hl]; simp) hws nd up_same (G4.trans (.new hq)) (sc4.new hq))

theorem lstart_w {k : Nat} {ns : List Int} {S : Sto} {Q : PK D} (hQ : ∀ a b S1, Sc a b ns 0 S1 → Gr [] S S1 → Q (.ref a) S1) : cl (k + 1) "_law_start" [.scr ns] S Q := by
  refine cl_run (d := f__law_start) rfl ⟨rfl, ?_⟩
  show wpSs (gk k) _ (enR Q) [some (.scr ns)] S
  unfold f__law_start
  (rw [wpSs_cons]; simp only [wpS, wp, wpEs, wpO, wpIf, wpI, wpAnd, wpOr, ofE, truthOf, asgW, asgWs, tgLen, List.getElem?_cons_zero, List.getElem?_cons_succ, List.set_cons_zero, List.set_cons_succ, ixC, ixL, setC, bopW, addW, subW, mulW, fdivW, modW, powW, negW, bfW, cmpC, eqC, ltC, leC, isC, inC, truC, slC, itemsL, tyName, fldC, up_same, atI_0, atI_1, atI_2, atI_3, atI_4, atI_5, ixN_0, ixN_1, ixN_2, ixN_3, wpSs_nil, wipeE, true_and, and_true, if_true, Bool.false_eq_true, if_false, Bool.not_true, Bool.not_false, decide_true, decide_false, tyIn1, tyIn2, tyIn3, tyIn4, tyIn5, isT_int_int, isT_int_str, isT_int_bool, isT_int_tuple, isT_int_list, isT_str_int, isT_str_str, isT_str_bool, isT_str_tuple, isT_str_list, isT_tuple_int, isT_tuple_str, isT_tuple_bool, isT_tuple_tuple, isT_tuple_list, isT_bool_int, isT_bool_str, isT_bool_bool, isT_bool_tuple, isT_bool_list])
  intro p hp
  refine ⟨by show 4 ≤ sizeLine; decide, fun q hq => ret_ok (hQ q p _ ⟨?_, ?_, 0, 0, 0, up_same, by omega, by omega⟩ ((Gr.new hp).trans (.new hq)))⟩
  · rintro rfl
    rw [up_same] at hq; cases hq
  · have : p ≠ q := by
      rintro rfl
      rw [up_same] at hq; cases hq
    rw [up_ne this, up_same]

abbrev Hed := Str × Addr × List Bool × List Str
def kdStr : Bool → Str
  | true => "array"
  | false => "int"
def kdD (b : Bool) : D := .str (kdStr b)
def hedD (h : Hed) : D := .tup [.str h.1, .ref h.2.1, .tup (h.2.2.2.map .str)]
structure HdS (a : Addr) (S : Sto) (hd : Addr) (hs : List Hed) : Prop where
  h : S hd = some (.lst (hs.map hedD))
  na : hd ≠ a
  k : ∀ h ∈ hs, S h.2.1 = some (.lst (h.2.2.1.map kdD)) ∧ h.2.1 ≠ a ∧ h.2.2.1.length = 3 ∧ h.2.2.2.length ≤ 1
  len : 1 ≤ hs.length ∧ hs.length ≤ 6
theorem HdS.gr {a : Addr} {S S1 : Sto} {hd : Addr} {hs : List Hed} (h : HdS a S hd hs) (g : Gr [a] S S1) : HdS a S1 hd hs :=
  ⟨g _ _ (by simpa using h.na) h.h, h.na, fun z hz => ⟨g _ _ (by simpa using (h.k z hz).2.1) (h.k z hz).1, (h.k z hz).2⟩, h.len⟩
def envH (hs : List Hed) (n i j x y z : Str) : Env := ⟨[n, i, j], [x, y, z], hs.map fun h => (h.1, h.2.2.1)⟩
mutual
def coS : Nat → Nat
  | 0 => 300
  | d + 1 => 300 + 2 * coB d
def coB : Nat → Nat
  | d => 4 * coS d + 10
end
theorem coS_0 : coS 0 = 300 := by rw [coS]
theorem coS_s (d : Nat) : coS (d + 1) = 300 + 2 * (4 * coS d + 10) := by rw [coS, coB]
theorem coS_ge : ∀ d, 300 ≤ coS d
  | 0 => by rw [coS_0]; exact Nat.le_refl _
  | d + 1 => by rw [coS_s]; omega
def StC (K d : Nat) : Prop := ∀ (a b ow hd : Addr) (ns : List Int) (nn : Nat) (S : Sto) (n i j x y z : Str) (hs : List Hed) (Q : PK D), HdS a S hd hs → S ow = some (.lst [.str n, .str i, .str j, .str x, .str y, .str z]) → ow ≠ a → nn + coS d < 2 ^ 60 → Sc a b ns nn S →
  (∀ s S1, okS (envH hs n i j x y z) d s → Gr [a] S S1 → Sc a b ns (nn + coS d) S1 → Q (encS false s) S1) → cl K "_law_one_statement" [.ref a, .ref ow, .ref hd, .int d] S Q
def BlC (K d : Nat) : Prop := ∀ (a b ow hd : Addr) (ns : List Int) (nn : Nat) (S : Sto) (n i j x y z : Str) (hs : List Hed) (Q : PK D), HdS a S hd hs → S ow = some (.lst [.str n, .str i, .str j, .str x, .str y, .str z]) → ow ≠ a → nn + coB d < 2 ^ 60 → Sc a b ns nn S →
  (∀ B S1, okB (envH hs n i j x y z) d B → B.length ≤ 4 → Gr [a] S S1 → Sc a b ns (nn + coB d) S1 → Q (.tup (encB false B)) S1) → cl K "_law_some_statements" [.ref a, .ref ow, .ref hd, .int d] S Q
theorem block_of {K d : Nat} (hK : 3 ≤ K) (hs : StC (K - 1) d) (hd3 : d ≤ 3) : BlC K d := by
  intro a b ow hd ns nn S n i j x y z heads Q H how nao hn sc hQ
  refine lev_run (d := f__law_some_statements) rfl (by omega) ⟨rfl, ?_⟩
  show wpSs (gk (K - 1)) _ (enR Q) [some (.ref a), some (.ref ow), some (.ref hd), some (.int d), none, none] S
  have hsz : sizeLine = 2 ^ 24 := rfl
  rw [coB] at hn hQ
  have out : ∀ (m : Int) (S1 : Sto), 0 ≤ m → m ≤ 4 → Gr [a] S S1 → Sc a b ns (nn + 2) S1 → wpSs (gk (K - 1)) (f__law_some_statements.body.drop 2) (enR Q) [some (.ref a), some (.ref ow), some (.ref hd), some (.int d), some (.int m), none] S1 := by
    intro m S1 m0 m1 g1 s1
    unfold f__law_some_statements
    simp only [Ss.drop]
    simp_all only
    refine ⟨⟨by omega, by omega⟩, ?_⟩
    unfold rngD
    refine pre_lc (fun i : Nat => D.int (0 + (i : Int))) (fun pre acc S' => ∃ B : List St, acc = encB false B ∧ B.length = pre.length ∧ okB (envH heads n i j x y z) d B ∧ Gr [a] S S' ∧ Sc a b ns (nn + 2 + pre.length * coS d) S') (List.range m.toNat) (by simp; omega) ?_ ?_ ⟨[], rfl, rfl, trivial, g1, by simpa using s1⟩
    · rintro pre q post e acc S' X ⟨B, rfl, hl, ok, g, s⟩ hX _
      obtain ⟨hi1, hi2⟩ := range_mid e
      have hpl : pre.length ≤ 3 := by omega
      have hmul : pre.length * coS d ≤ 3 * coS d := Nat.mul_le_mul_right _ hpl
      refine ⟨trivial, ?_⟩
      refine hs a b ow hd ns _ S' n i j x y z heads _ (H.gr g) (g _ _ (by simpa using nao) how) nao (by omega) s fun s2 S2 o2 g2 sc2 => ?_
      refine hX _ _ ⟨B ++ [s2], by simp [encB_map], by simp [hl], okB_app ok (by rw [okB, okB]; exact ⟨o2, trivial⟩), g.trans g2, ?_⟩
      rw [List.length_append, List.length_singleton, Nat.add_mul, Nat.one_mul]
      exact sc2.mono (by omega)
    · rintro acc S2 ⟨B, rfl, hl, ok, g, s⟩
      refine ⟨trivial, ?_⟩
      rw [List.length_range] at hl s
      have hmul : m.toNat * coS d ≤ 4 * coS d := Nat.mul_le_mul_right _ (by omega)
      intro q hq
      exact ret_ok (hQ B _ ok (by omega) (g.trans ((Gr.new (A := []) hq).mono (by simp))) ((s.new hq).mono (by omega)))
  have cg := coS_ge d
  unfold f__law_some_statements at out ⊢
  simp only [Ss.drop] at out
  simp_all only
  refine draw_K (by omega) (by omega) (by decide) (by decide) sc fun v S1 v0 v1 g1 s1 => ?_
  simp_all only
  by_cases h3 : (d : Int) = 3
  · rw [decide_eq_true h3, if_pos rfl]
    simp_all only
    refine draw_K (by omega) (by omega) (by decide) (by decide) s1 fun w S2 w0 w1 g2 s2 => ?_
    exact out (v + w) S2 (by omega) (by omega) (g1.trans g2) s2
  · rw [decide_eq_false h3, if_neg (by simp)]
    exact out v S1 v0 (by omega) g1 (s1.mono (by omega))
theorem k_array_int : decide (("array" : Str) = "int") = false := by decide +kernel
theorem stmt_of {K d : Nat} (hK : 6 ≤ K) (hbl : d = 0 ∨ ∃ d', d = d' + 1 ∧ BlC (K - 1) d') (hd3 : d ≤ 3) : StC K d := by
  intro a b ow hd ns nn S n i j x y z heads Q H how nao hn sc hQ
  refine lev_run (d := f__law_one_statement) rfl (by omega) ⟨rfl, ?_⟩
  show wpSs (gk (K - 1)) _ (enR Q) [some (.ref a), some (.ref ow), some (.ref hd), some (.int d), none, none, none, none, none, none, none, none, none, none, none, none, none, none, none, none] S
  have hsz : sizeLine = 2 ^ 24 := rfl
  have cg := coS_ge d
  unfold f__law_one_statement
  simp_all only
  refine draw_K (by omega) (by omega) (by decide) (by decide) sc fun pk S1 pk0 pk1 g1 s1 => ?_
  have how1 := g1 _ _ (by simpa using nao) how
  simp_all only [how1]
  refine ⟨rfl, ?_⟩
  simp_all only
  intro q1 hq1
  have h1 : Gr [a] S1 (up S1 q1 (.lst [.str x, .str y, .str z])) := (Gr.new (A := []) hq1).mono (by simp)
  have e1 : up S1 q1 (.lst [.str x, .str y, .str z]) q1 = some (.lst [.str x, .str y, .str z]) := up_same
  have nq1 := s1.ne hq1
  have t1 := s1.new (o := .lst [.str x, .str y, .str z]) hq1
  generalize up S1 q1 (.lst [.str x, .str y, .str z]) = S2 at h1 e1 t1 ⊢
  refine oneof_K (by omega) (by omega) t1 e1 nq1 (by simp) (by simp) fun dar har S3 g3 s3 => ?_
  obtain ⟨ar, hA, rfl⟩ : ∃ ar, ar ∈ [x, y, z] ∧ dar = .str ar := by
    simp only [List.mem_cons, List.not_mem_nil, or_false] at har
    rcases har with rfl | rfl | rfl
    · exact ⟨x, by simp, rfl⟩
    · exact ⟨y, by simp, rfl⟩
    · exact ⟨z, by simp, rfl⟩
  simp_all only
  intro q2 hq2
  have h2 : Gr [a] S3 (up S3 q2 (.lst [.str n, .str i, .str j, .str j])) := (Gr.new (A := []) hq2).mono (by simp)
  have e2 : up S3 q2 (.lst [.str n, .str i, .str j, .str j]) q2 = some (.lst [.str n, .str i, .str j, .str j]) := up_same
  have nq2 := s3.ne hq2
  have t3 := s3.new (o := .lst [.str n, .str i, .str j, .str j]) hq2
  generalize up S3 q2 (.lst [.str n, .str i, .str j, .str j]) = S4 at h2 e2 t3 ⊢
  refine oneof_K (by omega) (by omega) t3 e2 nq2 (by simp) (by simp) fun dx hx S5 g5 s5 => ?_
  obtain ⟨xx, hX, rfl⟩ : ∃ xx, xx ∈ [n, i, j] ∧ dx = .str xx := by
    simp only [List.mem_cons, List.not_mem_nil, or_false, or_self] at hx
    rcases hx with rfl | rfl | rfl
    · exact ⟨n, by simp, rfl⟩
    · exact ⟨i, by simp, rfl⟩
    · exact ⟨j, by simp, rfl⟩
  have G5 : Gr [a] S S5 := (((g1.trans h1).trans g3).trans h2).trans g5
  have H5 := H.gr G5
  have how5 := G5 _ _ (by simpa using nao) how
  have fin : ∀ s S6, okS (envH heads n i j x y z) d s → Gr [a] S5 S6 → Sc a b ns (nn + coS d) S6 → (enR Q).rt (encS false s) S6 := fun s S6 o g sc => ret_ok (hQ s S6 o (G5.trans g) sc)
  simp_all only
  split
  · simp_all only
    refine draw_K (by omega) (by omega) (by decide) (by decide) s5 fun v S6 v0 v1 g6 s6 => ?_
    have := fin (.set xx i v) S6 (by rw [okS]; exact hX) g6 (s6.mono (by omega))
    rw [encS] at this
    exact this
  simp_all only
  split
  · simp_all only
    have := fin (.push n ar) S5 (by rw [okS]; exact hA) .refl (s5.mono (by omega))
    rw [encS] at this
    exact this
  simp_all only
  split
  · simp_all only
    have := fin (.store ar j) S5 (by rw [okS]; trivial) .refl (s5.mono (by omega))
    rw [encS] at this
    exact this
  simp_all only
  split
  · simp_all only
    have := fin (.pop xx ar) S5 (by rw [okS]; exact ⟨hX, hA⟩) .refl (s5.mono (by omega))
    rw [encS] at this
    exact this
  simp_all only
  split
  · simp_all only
    have := fin (.pause 0) S5 (by rw [okS]; trivial) .refl (s5.mono (by omega))
    rw [encS] at this
    exact this
  have cll : wpSs (gk (K - 1)) (match f__law_one_statement.body.drop 9 with
      | .cons (.ife _ b _) _ => b
      | _ => .nil) { enR Q with nx := fun ρ1 S1 => wpSs (gk (K - 1)) (f__law_one_statement.body.drop 10) (enR Q) ρ1 S1 } [some (.ref a), some (.ref ow), some (.ref hd), some (.int d), some (.int pk), some (.str ar), some (.str xx), none, none, some (.str n), some (.str i), some (.str j), some (.str x), some (.str y), some (.str z), none, none, none, none, none] S5 := by
    unfold f__law_one_statement
    simp only [Ss.drop]
    simp_all only
    refine oneof_K (by omega) (by omega) s5 H5.h H5.na (by rw [List.length_map]; exact H5.len.1) (by rw [List.length_map]; have := H5.len.2; omega) fun dh hh S6 g6 s6 => ?_
    obtain ⟨h, hm0, rfl⟩ := List.mem_map.mp hh
    have H6 := H5.gr g6
    obtain ⟨k1, k2, k3, k4⟩ := H6.k h hm0
    simp_all only
    intro q3 hq3
    have h3 : Gr [a] S6 (up S6 q3 (.lst [.str x, .str y, .str z])) := (Gr.new (A := []) hq3).mono (by simp)
    have e3 : up S6 q3 (.lst [.str x, .str y, .str z]) q3 = some (.lst [.str x, .str y, .str z]) := up_same
    have nq3 := s6.ne hq3
    have t6 := s6.new (o := .lst [.str x, .str y, .str z]) hq3
    generalize up S6 q3 (.lst [.str x, .str y, .str z]) = S7 at h3 e3 t6 ⊢
    refine shuf_w (by omega) (by omega) t6 e3 nq3 (by simp) fun pa es S8 fpa pm hpa g8 s8 => ?_
    obtain ⟨ps, pp, rfl⟩ := perm_map_inv D.str pm.symm [x, y, z] rfl
    have pl3 : ps.length = 3 := pp.length_eq
    have npa := t6.ne fpa
    simp_all only
    intro ar0 har0
    have k8 := (h3.trans g8) _ _ (by simpa using k2) k1
    have g9 : Gr [] S8 (up S8 ar0 (.lst [])) := .new har0
    have s9 := s8.keep g9
    have k9 := g9 _ _ (by simp) k8
    have p9 := g9 _ _ (by simp) hpa
    have a9 : up S8 ar0 (.lst []) ar0 = some (.lst (([] : List Ar).map encA)) := up_same
    have nar : ar0 ≠ a := s8.ne har0
    have nap : ar0 ≠ pa := by rintro rfl; rw [hpa] at har0; cases har0
    have nkp : h.2.1 ≠ pa := fun e => by
      have : S7 h.2.1 = _ := h3 _ _ (by simpa using k2) k1
      rw [e, fpa] at this
      cases this
    have nka : h.2.1 ≠ ar0 := fun e => by rw [e, har0] at k8; cases k8
    have nb : b ≠ pa ∧ b ≠ ar0 := by
      constructor
      · rintro rfl
        obtain ⟨_, hb, _⟩ := t6
        rw [hb] at fpa; cases fpa
      · rintro rfl
        obtain ⟨_, hb, _⟩ := s8
        rw [hb] at har0; cases har0
    have G9 : Gr [a] S5 (up S8 ar0 (.lst [])) := (((g6.trans h3).trans g8).trans (g9.mono (by simp)))
    have fpa5 : S5 pa = none := by
      cases e : S5 pa with
      | none => rfl
      | some o =>
        have := (g6.trans h3) pa o (by simpa using npa) e
        rw [fpa] at this; cases this
    have far5 : S5 ar0 = none := by
      cases e : S5 ar0 with
      | none => rfl
      | some o =>
        have := ((g6.trans h3).trans g8) ar0 o (by simpa using nar) e
        rw [har0] at this; cases this
    generalize up S8 ar0 (.lst []) = S9 at g9 s9 k9 p9 a9 G9 ⊢
    unfold hedD
    simp_all only
    refine walk_ofA (A := [pa, ar0]) (.inr ⟨h.2.1, rfl, k9⟩) (fun q e => by cases e; simp [nkp, nka]) fun chk hc => ?_
    refine pre_loop kdD (fun pre ρ S' => (∃ u18 : Option D, ρ = [some (.ref a), some (.ref ow), some (.ref hd), some (.int d), some (.int pk), some (.str ar), some (.str xx), none, none, some (.str n), some (.str i), some (.str j), some (.str x), some (.str y), some (.str z), some (.tup [.str h.1, .ref h.2.1, .tup (h.2.2.2.map .str)]), some (.ref pa), some (.ref ar0), u18, none]) ∧ Gr [pa, ar0] S9 S' ∧ ∃ (as : List Ar) (qs : List Str), S' pa = some (.lst (qs.map .str)) ∧ S' ar0 = some (.lst (as.map encA)) ∧ as.map Ar.isA = pre ∧ 3 ≤ qs.length + pre.length ∧ (∀ v ∈ qs, v ∈ [x, y, z]) ∧ ∀ v, Ar.arr v ∈ as → v ∈ [x, y, z]) h.2.2.1 ?_ ?_ ⟨⟨_, rfl⟩, .refl, [], ps, p9, a9, rfl, by simp; omega, fun v hv => pp.mem_iff.mp hv, by simp⟩
    · rintro pre k post e ρ S' X ⟨⟨u18, rfl⟩, g, as, qs, hq, has, hk, hl, hv, hw⟩ hY
      refine ⟨hc _ g, ?_⟩
      have pre2 : pre.length ≤ 2 := by have := congrArg List.length e; rw [k3] at this; simp at this; omega
      have asl : as.length = pre.length := by rw [← hk, List.length_map]
      cases k with
      | true =>
        have ne : qs ≠ [] := fun e0 => by rw [e0] at hl; simp at hl; omega
        have hlast : (qs.map D.str)[(qs.map D.str).length - 1]? = some (.str (qs.getLast ne)) := by
          rw [← List.getLast?_eq_getElem?, List.getLast?_map, List.getLast?_eq_some_getLast ne] <;> rfl
        unfold kdD kdStr
        simp! only
        simp_all only [eq_self]
        simp_all only [rcv, bmT, bmW, has, hq, hlast]
        rw [up_ne nap]
        simp only [has]
        refine ⟨by rw [List.length_map]; omega, ?_⟩
        refine hY _ _ ⟨⟨_, rfl⟩, (g.trans (.up (by simp))).trans (.up (by simp)), as ++ [.arr (qs.getLast ne)], qs.dropLast, ?_, ?_, by rw [List.map_append, hk] <;> rfl, ?_, fun v h => hv v (List.dropLast_subset _ h), fun v h => ?_⟩
        · rw [up_ne (Ne.symm nap), up_same, List.map_dropLast]
        · rw [up_same, List.map_append] <;> rfl
        · rw [List.length_dropLast, List.length_append, List.length_singleton]
          have := List.length_pos_iff.mpr ne
          omega
        · rcases List.mem_append.mp h with h | h
          · exact hw v h
          · have := List.mem_singleton.mp h
            cases this
            exact hv _ (List.getLast_mem ne)
      | false =>
        unfold kdD kdStr
        simp! only
        simp_all only [k_int_array]
        simp_all only [rcv, bmT, bmW, has]
        refine ⟨by rw [List.length_map]; omega, ?_⟩
        refine hY _ _ ⟨⟨_, rfl⟩, g.trans (.up (by simp)), as ++ [.sub n], qs, ?_, ?_, by rw [List.map_append, hk] <;> rfl, ?_, hv, fun v h => ?_⟩
        · rw [up_ne (Ne.symm nap)]; exact hq
        · rw [up_same, List.map_append] <;> rfl
        · rw [List.length_append, List.length_singleton]; omega
        · rcases List.mem_append.mp h with h | h
          · exact hw v h
          · have := List.mem_singleton.mp h
            cases this
    · rintro ρ S' ⟨⟨u18, rfl⟩, g, as, qs, hq, has, hk, hl, hv, hw⟩
      refine ⟨hc _ g, ?_⟩
      have asl : as.length = 3 := by rw [← k3, ← hk, List.length_map]
      have s' : Sc a b ns (nn + 1 + 1 + 1 + 1 + 3) S' := by
        obtain ⟨hab, hb5, p, hh, c, ha, c1, c2⟩ := s9
        refine ⟨hab, g _ _ (by simp [nb.1, nb.2]) hb5, p, hh, c, g _ _ (by simp [Ne.symm npa, Ne.symm nar]) ha, c1, ?_⟩
        simp at c2; omega
      have gg : Gr [a] S5 S' := fun p o hp h => by
        refine g p o ?_ (G9 p o hp h)
        simp only [List.mem_cons, List.not_mem_nil, or_false, not_or]
        constructor
        · rintro rfl; rw [fpa5] at h; cases h
        · rintro rfl; rw [far5] at h; cases h
      have last : ∀ (m : Nat), m ≤ 1 → h.2.2.2.length = m → ∀ v : Int, 0 ≤ v → v < (m : Int) + 1 → ∃ ts : List Str, atI ((if (m : Int) = 1 then [D.tup [.str xx]] else []) ++ [.tup []]) v = some (.tup (ts.map .str)) ∧ ts.length ≤ 1 ∧ ∀ t ∈ ts, t ∈ [n, i, j] := by
        intro m hm _ v v0 v1
        have c : m = 0 ∨ m = 1 := by omega
        rcases c with rfl | rfl
        · have : v = 0 := by omega
          subst this
          exact ⟨[], rfl, by simp, by simp⟩
        · have : v = 0 ∨ v = 1 := by omega
          rcases this with rfl | rfl
          · exact ⟨[xx], rfl, by simp, fun t ht => by rw [List.mem_singleton.mp ht]; exact hX⟩
          · exact ⟨[], rfl, by simp, by simp⟩
      obtain ⟨m, hm⟩ : ∃ m, m = h.2.2.2.length := ⟨_, rfl⟩
      have hm1 : m ≤ 1 := by omega
      simp_all only [bfW, List.length_map]
      rw [← hm]
      refine ⟨⟨by simp, by omega⟩, ?_⟩
      refine ⟨by split <;> simp [hsz], ?_⟩
      simp_all only [has]
      have tl : (((if (m : Int) = 1 then [D.tup [.str xx]] else []) ++ [.tup []] : List D).length : Int) = (m : Int) + 1 := by
        have c : m = 0 ∨ m = 1 := by omega
        rcases c with rfl | rfl <;> rfl
      rw [tl]
      refine draw_K (by omega) (by omega) (by omega) (by omega) s' fun v SA v0 v1 gA sA => ?_
      obtain ⟨ts, ht1, ht2, ht3⟩ := last m hm1 hm.symm v v0 v1
      simp! only [ht1]
      have := fin (.call h.1 as ts 0) SA (by
        rw [okS]
        exact ⟨List.mem_map.mpr ⟨h, hm0, by rw [hk]⟩, hw, ht2, ht3, asl⟩) (gg.trans gA) (sA.mono (by omega))
      rw [encS] at this
      exact this
  have blk : 0 < d → wpSs (gk (K - 1)) (f__law_one_statement.body.drop 10) (enR Q) [some (.ref a), some (.ref ow), some (.ref hd), some (.int d), some (.int pk), some (.str ar), some (.str xx), none, none, some (.str n), some (.str i), some (.str j), some (.str x), some (.str y), some (.str z), none, none, none, none, none] S5 := by
    intro d0
    rcases hbl with h | ⟨d', rfl, hB⟩
    · omega
    rw [coS_s] at fin hn
    have eB : coB d' = 4 * coS d' + 10 := by rw [coB]
    have ed : ((d' + 1 : Nat) : Int) - 1 = (d' : Int) := by omega
    unfold f__law_one_statement
    simp only [Ss.drop]
    simp_all only
    simp_all only [ed]
    refine hB a b ow hd ns _ S5 n i j x y z heads _ H5 how5 nao (by omega) s5 fun B S6 oB bl g6 s6 => ?_
    simp_all only
    split
    · simp_all only [ed]
      refine hB a b ow hd ns _ S6 n i j x y z heads _ (H5.gr g6) (g6 _ _ (by simpa using nao) how5) nao (by omega) s6 fun B2 S7 oB2 bl2 g7 s7 => ?_
      have := fin (.ife i n B B2) S7 (by rw [okS]; exact ⟨⟨by omega, bl, bl2⟩, oB, oB2⟩) (g6.trans g7) (s7.mono (by omega))
      rw [encS] at this
      exact this
    · simp_all only
      have := fin (.wh i n B 0) S6 (by rw [okS]; exact ⟨⟨by omega, bl⟩, oB⟩) g6 (s6.mono (by omega))
      rw [encS] at this
      exact this
  unfold f__law_one_statement at cll blk
  simp only [Ss.drop] at cll blk
  simp_all only
  by_cases c1 : pk < 8
  · rw [decide_eq_true c1]
    simp! only
    exact cll
  · rw [decide_eq_false c1]
    simp! only
    by_cases c2 : (d : Int) = 0
    · rw [decide_eq_true c2]
      simp! only
      exact cll
    · rw [decide_eq_false c2]
      simp! only
      exact blk (by omega)

theorem len6 {ws : List Str} (h : ws.length = 6) : ∃ w0 w1 w2 w3 w4 w5, ws = [w0, w1, w2, w3, w4, w5] := by
  match ws, h with
  | [w0, w1, w2, w3, w4, w5], _ => exact ⟨w0, w1, w2, w3, w4, w5, rfl⟩
theorem last_str {qs : List Str} (ne : qs ≠ []) : (qs.map D.str)[(qs.map D.str).length - 1]? = some (.str (qs.getLast ne)) := by
  rw [← List.getLast?_eq_getElem?, List.getLast?_map, List.getLast?_eq_some_getLast ne] <;> rfl
/-- a drawn procedure is in order -/
theorem okP_of {m : Nat} {hs : List Hed} {nm w0 w1 w2 w3 w4 w5 : Str} {its loc : List It} {res : List Str} {B : List St} (hm : m ≤ 4) (hw : ∀ w ∈ [w0, w1, w2, w3, w4, w5], Wd m w) (hn : [w0, w1, w2, w3, w4, w5].Nodup) (hB : okB (envH hs w0 w1 w2 w3 w4 w5) 3 B) (hl : B.length ≤ 4) (h3 : its.length = 3)
    (hi : ∀ i ∈ its, i ∈ [(false, w0), (true, w3), (true, w4)]) (hnm : nm.length ≤ 10) : ∀ C : List Pr, hdsC C = hs.map (fun h => (h.1, h.2.2.1)) → OkP C ⟨nm, its, res, loc, B, [w0, w1, w2], [w3, w4, w5]⟩ := by
  intro C hC
  have eall : (⟨nm, its, res, loc, B, [w0, w1, w2], [w3, w4, w5]⟩ : Pr).all = [(false, w0), (false, w1), (false, w2), (true, w3), (true, w4), (true, w5)] := rfl
  have esnd : ([(false, w0), (false, w1), (false, w2), (true, w3), (true, w4), (true, w5)] : List It).map (·.2) = [w0, w1, w2, w3, w4, w5] := rfl
  have i2 : ∀ i ∈ ([(false, w0), (false, w1), (false, w2), (true, w3), (true, w4), (true, w5)] : List It), ∀ j ∈ ([(false, w0), (false, w1), (false, w2), (true, w3), (true, w4), (true, w5)] : List It), i.2 = j.2 → i = j := fun i hi j hj e => nodup_inj (·.2) (by rw [esnd]; exact hn) hi hj e
  have ln : ∀ i ∈ ([(false, w0), (false, w1), (false, w2), (true, w3), (true, w4), (true, w5)] : List It), i.2.length = m := fun i hi => (hw i.2 (by rw [← esnd]; exact List.mem_map.mpr ⟨i, hi, rfl⟩)).1
  refine ⟨?_, hl, h3, fun i h => ?_, rfl, fun i h => ?_, ?_, ?_, hnm⟩
  · show okB ⟨[w0, w1, w2], [w3, w4, w5], hdsC C⟩ 3 B
    rw [hC]; exact hB
  · rw [eall]
    have := hi i h
    simp only [List.mem_cons, List.not_mem_nil, or_false] at this ⊢
    rcases this with rfl | rfl | rfl <;> simp
  · rw [eall] at h
    rw [ln i h]; omega
  · rw [eall]; exact i2
  · rw [eall]
    intro i hi j hj e
    refine i2 i hi j hj ?_
    have li := ln i hi
    have lj := ln j hj
    obtain ⟨bi, x⟩ := i
    obtain ⟨bj, y⟩ := j
    simp only at li lj
    cases bi <;> cases bj <;> simp only [keyI] at e
    · exact e
    · have := congrArg Str.length e
      rw [hash_len] at this
      omega
    · have := congrArg Str.length e
      rw [hash_len] at this
      omega
    · exact app_l e
theorem core_w {K : Nat} (hK : 20 ≤ K) {a b : Addr} {ns : List Int} {S : Sto} {Q : PK D} (hs : Sc a b ns 0 S) (hQ : ∀ (C : List Pr) S1, OkC C → Gr [a] S S1 → Q (coreD C) S1) : cl K "_law_core" [.ref a] S Q := by
  refine lev_run (d := f__law_core) rfl (by omega) ⟨rfl, ?_⟩
  show wpSs (gk (K - 1)) _ (enR Q) [some (.ref a), none, none, none, none, none, none, none, none, none, none, none, none] S
  have hsz : sizeLine = 2 ^ 24 := rfl
  have c0 : coS 0 = 300 := coS_0
  have c1 : coS 1 = 300 + 2 * (4 * coS 0 + 10) := coS_s 0
  have c2 : coS 2 = 300 + 2 * (4 * coS 1 + 10) := coS_s 1
  have c3 : coS 3 = 300 + 2 * (4 * coS 2 + 10) := coS_s 2
  have cb : coB 3 = 4 * coS 3 + 10 := by rw [coB]
  have big : 100000000 < 2 ^ 60 := by decide
  have B3 : BlC (K - 1) 3 := block_of (by omega) (stmt_of (by omega) (.inr ⟨2, rfl, block_of (by omega) (stmt_of (by omega) (.inr ⟨1, rfl, block_of (by omega) (stmt_of (by omega) (.inr ⟨0, rfl, block_of (by omega) (stmt_of (by omega) (.inl rfl) (by omega)) (by omega)⟩) (by omega)) (by omega)⟩) (by omega)) (by omega)⟩) (by omega)) (by omega)
  unfold f__law_core
  simp_all only
  refine draw_K (by omega) (by omega) (by decide) (by decide) hs fun v S1 v0 v1 g1 s1 => ?_
  have ev : (2 + v : Int) = (((2 + v).toNat : Nat) : Int) := by omega
  simp! only
  rw [ev]
  refine words_w (by omega) (by omega) (by omega) s1 fun q m ws S2 fq m4 m1 hwl hws nd hq g2 s2 => ?_
  have G2 := g1.trans g2
  simp! only [bfW, hq, strsOf_m]
  refine ⟨by omega, fun nl hnl => ?_⟩
  have nnl : nl ≠ a := s2.ne hnl
  have g3 : Gr [a] S2 (up S2 nl (.lst ((sortStr ws).map D.str))) := (Gr.new (A := []) hnl).mono (by simp)
  have e3 : up S2 nl (.lst ((sortStr ws).map D.str)) nl = some (.lst ((sortStr ws).map D.str)) := up_same
  have s3 := s2.new (o := .lst ((sortStr ws).map D.str)) hnl
  generalize up S2 nl (.lst ((sortStr ws).map D.str)) = S3 at g3 e3 s3 ⊢
  have pms := sortStr_perm ws
  have wsl : (sortStr ws).length = (2 + v).toNat := by rw [pms.length_eq, hwl]
  have asc : (sortStr ws).Pairwise sLt := by
    have h1 := sortStr_sorted ws
    have h2 : (sortStr ws).Pairwise (· ≠ ·) := pms.nodup_iff.mpr nd
    exact (h1.and h2).imp fun h => sLt_of h.1 h.2
  have wln : ∀ x ∈ sortStr ws, x.length ≤ 10 := fun x hx => by have := (hws x (pms.mem_iff.mp hx)).1; omega
  generalize hNN : sortStr ws = NN at wsl asc wln e3
  simp_all only
  intro hd hhd
  have nhd : hd ≠ a := s3.ne hhd
  have g4 : Gr [a] S3 (up S3 hd (.lst [])) := (Gr.new (A := []) hhd).mono (by simp)
  have e4 : up S3 hd (.lst []) hd = some (.lst (([] : List Hed).map hedD)) := up_same
  have s4 := s3.new (o := .lst []) hhd
  have e34 := g4 _ _ (by simpa using nnl) e3
  generalize up S3 hd (.lst []) = S4 at g4 e4 s4 e34 ⊢
  have nlh : nl ≠ hd := by rintro rfl; rw [e3] at hhd; cases hhd
  simp_all only
  refine walk_ofA (A := [a, hd]) (.inr ⟨nl, rfl, e34⟩) (fun q e => by cases e; simp [nnl, nlh]) fun chk hc => ?_
  refine pre_loop D.str (fun pre ρ S' => (∃ u3 u5 : Option D, ρ = [some (.ref a), some (.ref nl), some (.ref hd), u3, none, u5, none, none, none, none, none, none, none]) ∧ Gr [a, hd] S4 S' ∧ Sc a b ns (5 + 10 * pre.length) S' ∧ ∃ hs : List Hed, S' hd = some (.lst (hs.map hedD)) ∧ hs.map (·.1) = pre ∧ ∀ h ∈ hs, S' h.2.1 = some (.lst (h.2.2.1.map kdD)) ∧ h.2.1 ≠ a ∧ h.2.1 ≠ hd ∧ h.2.2.1.Perm [false, true, true] ∧ h.2.2.2.length ≤ 1) NN ?_ ?_ ⟨⟨_, _, rfl⟩, .refl, by simpa using s4.mono (by omega), [], e4, rfl, by simp⟩
  · rintro pre x post e ρ S' X ⟨⟨u3, u5, rfl⟩, g, s, hs, hh, hn, hk⟩ hX
    refine ⟨hc _ g, ?_⟩
    have prl : pre.length ≤ 6 := by have := congrArg List.length e; simp at this; omega
    have hsl : hs.length = pre.length := by rw [← hn, List.length_map]
    simp! only
    simp_all only
    intro q5 hq5
    have g5 : Gr [a] S' (up S' q5 (.lst [.str "int", .str "array", .str "array"])) := (Gr.new (A := []) hq5).mono (by simp)
    have e5 : up S' q5 (.lst [.str "int", .str "array", .str "array"]) q5 = some (.lst ([false, true, true].map kdD)) := up_same
    have nq5 := s.ne hq5
    have s5 := s.new (o := .lst [.str "int", .str "array", .str "array"]) hq5
    generalize up S' q5 (.lst [.str "int", .str "array", .str "array"]) = S5 at g5 e5 s5 ⊢
    refine shuf_w (by omega) (by simp; omega) s5 e5 nq5 (by simp) fun kl es S6 fkl pm hkl g6 s6 => ?_
    obtain ⟨ks, kp, rfl⟩ := perm_map_inv kdD pm.symm [false, true, true] rfl
    have nkl : kl ≠ a := s5.ne fkl
    have nkh : kl ≠ hd := fun e => by
      have := g5 _ _ (by simpa using nhd) hh
      rw [← e, fkl] at this; cases this
    have hh6 := (g5.trans g6) _ _ (by simpa using nhd) hh
    simp_all only [rcv, bmT, hh6]
    intro q7 hq7
    have g7 : Gr [a] S6 (up S6 q7 (.lst [.tup [], .tup [.str "result"]])) := (Gr.new (A := []) hq7).mono (by simp)
    have e7 : up S6 q7 (.lst [.tup [], .tup [.str "result"]]) q7 = some (.lst [.tup [], .tup [.str "result"]]) := up_same
    have nq7 := s6.ne hq7
    have s7 := s6.new (o := .lst [.tup [], .tup [.str "result"]]) hq7
    generalize up S6 q7 (.lst [.tup [], .tup [.str "result"]]) = S7 at g7 e7 s7 ⊢
    refine draw_K (by omega) (by simp; omega) (by decide) (by decide) s7 fun v S8 v0 v1 g8 s8 => ?_
    have e8 := g8 _ _ (by simpa using nq7) e7
    obtain ⟨rs, hr1, hr2⟩ : ∃ rs : List Str, atI [.tup [], .tup [.str "result"]] v = some (D.tup (rs.map .str)) ∧ rs.length ≤ 1 := by
      have : v = 0 ∨ v = 1 := by omega
      rcases this with rfl | rfl
      · exact ⟨[], rfl, by simp⟩
      · exact ⟨["result"], rfl, by simp⟩
    have hh8 := (g7.trans g8) _ _ (by simpa using nhd) hh6
    have hkl8 := (g7.trans g8) _ _ (by simpa using nkl) hkl
    have G8 := ((g5.trans g6).trans g7).trans g8
    simp! only [e8, hr1, bmW, hh8]
    refine ⟨by rw [List.length_map]; omega, ?_⟩
    have nhb : hd ≠ b := by
      obtain ⟨_, hb, _⟩ := s3
      rintro rfl; rw [hb] at hhd; cases hhd
    refine hX _ _ ⟨⟨_, _, rfl⟩, (g.trans (G8.mono (by simp))).trans (.up (by simp)), ?_, hs ++ [(x, kl, ks, rs)], ?_, by rw [List.map_append, hn] <;> rfl, fun h hh2 => ?_⟩
    · obtain ⟨hab, hb5, p, hh', c, ha, c1, c2⟩ := s8
      refine ⟨hab, by rw [up_ne (Ne.symm nhb)]; exact hb5, p, hh', c, by rw [up_ne (Ne.symm nhd)]; exact ha, c1, ?_⟩
      simp at c2 ⊢; omega
    · rw [up_same, List.map_append] <;> rfl
    · rcases List.mem_append.mp hh2 with hh2 | hh2
      · obtain ⟨h1, h2, h3, h4⟩ := hk h hh2
        exact ⟨by rw [up_ne h3]; exact G8 _ _ (by simpa using h2) h1, h2, h3, h4⟩
      · rw [List.mem_singleton.mp hh2]
        exact ⟨by rw [up_ne nkh]; exact hkl8, nkl, nkh, kp, hr2⟩
  · rintro ρ S5 ⟨⟨u3, u5, rfl⟩, g, s, hs, hh, hn, hk⟩
    refine ⟨hc _ g, ?_⟩
    have hsl : hs.length = NN.length := by rw [← hn, List.length_map]
    have G5 : Gr [a] S S5 := fun p o hp h => by
      have h3 := (G2.trans g3) p o hp h
      have nph : p ≠ hd := by rintro rfl; rw [hhd] at h3; cases h3
      exact g p o (by simp at hp; simp [hp, nph]) (g4 p o hp h3)
    have HD : HdS a S5 hd hs := ⟨hh, nhd, fun h h2 => ⟨(hk h h2).1, (hk h h2).2.1, (hk h h2).2.2.2.1.length_eq, (hk h h2).2.2.2.2⟩, by omega, by omega⟩
    simp_all only
    intro co hco
    have nco : co ≠ a := s.ne hco
    have nch : co ≠ hd := by rintro rfl; rw [hh] at hco; cases hco
    have g6 : Gr [a] S5 (up S5 co (.lst [])) := (Gr.new (A := []) hco).mono (by simp)
    have e6 : up S5 co (.lst []) co = some (.lst (([] : List Pr).map encP8)) := up_same
    have s6 := s.new (o := .lst []) hco
    generalize up S5 co (.lst []) = S6 at g6 e6 s6 ⊢
    have HD6 := HD.gr g6
    simp_all only
    refine walk_ofA (A := [a, co]) (.inr ⟨hd, rfl, HD6.h⟩) (fun q e => by cases e; simp [nhd, Ne.symm nch]) fun chk2 hk2 => ?_
    refine pre_loop hedD (fun pre ρ S' => (∃ u3 u5 u6 u7 u8 u9 u10 u11 u12 : Option D, ρ = [some (.ref a), some (.ref nl), some (.ref hd), u3, some (.ref co), u5, u6, u7, u8, u9, u10, u11, u12]) ∧ Gr [a, co] S6 S' ∧ Gr [a] S5 S' ∧ Sc a b ns (100 + 1000000 * pre.length) S' ∧ ∃ Cs : List Pr, S' co = some (.lst (Cs.map encP8)) ∧ Cs.map (fun p => (p.nm, p.its.map (·.1))) = pre.map (fun h => (h.1, h.2.2.1)) ∧ ∀ p ∈ Cs, ∀ C, hdsC C = hs.map (fun h => (h.1, h.2.2.1)) → OkP C p) hs ?_ ?_ ⟨⟨_, _, _, _, _, _, _, _, _, rfl⟩, .refl, g6, by simpa using s6.mono (by omega), [], e6, rfl, by simp⟩
    · rintro pre h post e ρ S7 X ⟨⟨u3, u5, u6, u7, u8, u9, u10, u11, u12, rfl⟩, g7, g57, s7, Cs, hco7, hcs, hok⟩ hX
      refine ⟨hk2 _ g7, ?_⟩
      have hh2 : h ∈ hs := by rw [e]; simp
      have prl : pre.length < 6 := by have := congrArg List.length e; simp at this; omega
      have csl : Cs.length = pre.length := by have := congrArg List.length hcs; simpa using this
      have HD7 := HD.gr g57
      unfold hedD
      simp! only
      refine ⟨rfl, ?_⟩
      simp_all only
      refine words_w (many := 6) (by omega) (by simp; omega) (by omega) s7 fun ow m2 ws2 S8 fow m24 m21 hwl2 hws2 nd2 how g8 s8 => ?_
      obtain ⟨w0, w1, w2, w3, w4, w5, rfl⟩ := len6 hwl2
      have how' : S8 ow = some (.lst [.str w0, .str w1, .str w2, .str w3, .str w4, .str w5]) := how
      have now : ow ≠ a := s7.ne fow
      simp_all only [how']
      intro sp hsp
      have g9 : Gr [a] S8 (up S8 sp (.lst [.str w3, .str w4])) := (Gr.new (A := []) hsp).mono (by simp)
      have e9 : up S8 sp (.lst [.str w3, .str w4]) sp = some (.lst ([w3, w4].map .str)) := up_same
      have s9 := s8.new (o := .lst [.str w3, .str w4]) hsp
      have nsp : sp ≠ a := s8.ne hsp
      generalize up S8 sp (.lst [.str w3, .str w4]) = S9 at g9 e9 s9 ⊢
      simp_all only
      intro il hil
      have gA : Gr [a] S9 (up S9 il (.lst [])) := (Gr.new (A := []) hil).mono (by simp)
      have eA : up S9 il (.lst []) il = some (.lst (([] : List It).map encI)) := up_same
      have sA := s9.new (o := .lst []) hil
      have nil' : il ≠ a := s9.ne hil
      have nis : il ≠ sp := by rintro rfl; rw [e9] at hil; cases hil
      have e9A := gA _ _ (by simpa using nsp) e9
      generalize up S9 il (.lst []) = SA at gA eA sA e9A ⊢
      have G7A := (g8.trans g9).trans gA
      have HDA := HD7.gr G7A
      obtain ⟨k1, k2, k3, k4⟩ := HDA.k h hh2
      have kperm := (hk h hh2).2.2.2.1
      have howA := (g9.trans gA) _ _ (by simpa using now) how'
      have nks : h.2.1 ≠ sp := fun e => by
        have := (HD7.gr g8).k h hh2
        rw [e, hsp] at this; cases this.1
      have nki : h.2.1 ≠ il := fun e => by
        have := ((HD7.gr g8).gr g9).k h hh2
        rw [e, hil] at this; cases this.1
      have fsp7 : S7 sp = none := by
        cases e : S7 sp with
        | none => rfl
        | some o => have := g8 sp o (by simpa using nsp) e; rw [hsp] at this; cases this
      have fil7 : S7 il = none := by
        cases e : S7 il with
        | none => rfl
        | some o => have := (g8.trans g9) il o (by simpa using nil') e; rw [hil] at this; cases this
      have nows : ow ≠ sp := by rintro rfl; rw [how'] at hsp; cases hsp
      have nowi : ow ≠ il := fun e => by
        have := g9 _ _ (by simpa using now) how'
        rw [e, hil] at this; cases this
      have nb : b ≠ sp ∧ b ≠ il := by
        constructor
        · rintro rfl
          obtain ⟨_, hb, _⟩ := s8
          rw [hb] at hsp; cases hsp
        · rintro rfl
          obtain ⟨_, hb, _⟩ := s9
          rw [hb] at hil; cases hil
      simp_all only
      refine walk_ofA (A := [sp, il]) (.inr ⟨h.2.1, rfl, k1⟩) (fun q e => by cases e; simp [nks, nki]) fun chk3 hk3 => ?_
      refine pre_loop kdD (fun pk ρ S' => (∃ u10 : Option D, ρ = [some (.ref a), some (.ref nl), some (.ref hd), some (.str h.1), some (.ref co), some (.ref h.2.1), some (.tup (h.2.2.2.map .str)), some (.ref ow), some (.ref sp), some (.ref il), u10, u11, u12]) ∧ Gr [sp, il] SA S' ∧ ∃ (its : List It) (qs : List Str), S' il = some (.lst (its.map encI)) ∧ S' sp = some (.lst (qs.map .str)) ∧ its.map (·.1) = pk ∧ qs.length + pk.count true = 2 ∧ (∀ v ∈ qs, v ∈ [w3, w4]) ∧ ∀ i ∈ its, i ∈ [(false, w0), (true, w3), (true, w4)]) h.2.2.1 ?_ ?_ ⟨⟨_, rfl⟩, .refl, [], [w3, w4], eA, e9A, rfl, by simp, fun v hv => hv, by simp⟩
      · rintro pk k qk ek ρ S' Y ⟨⟨u10', rfl⟩, g, its, qs, hi, hq, hk5, hl, hv, hw⟩ hY
        refine ⟨hk3 _ g, ?_⟩
        have pk2 : pk.length ≤ 2 := by have := congrArg List.length ek; rw [k3] at this; simp at this; omega
        have itl : its.length = pk.length := by rw [← hk5, List.length_map]
        cases k with
        | true =>
          have hcnt : pk.count true ≤ 1 := by
            have h1 := kperm.count_eq true
            rw [ek, List.count_append, List.count_cons_self] at h1
            have : ([false, true, true] : List Bool).count true = 2 := rfl
            omega
          have ne : qs ≠ [] := fun e0 => by rw [e0] at hl; simp at hl; omega
          have hlast := last_str ne
          unfold kdD kdStr
          simp! only
          simp_all only [k_array_int]
          simp_all only [rcv, bmT, bmW, hi, hq, hlast]
          rw [up_ne nis]
          simp only [hi]
          refine ⟨by rw [List.length_map]; omega, ?_⟩
          refine hY _ _ ⟨⟨_, rfl⟩, (g.trans (.up (by simp))).trans (.up (by simp)), its ++ [(true, qs.getLast ne)], qs.dropLast, ?_, ?_, by rw [List.map_append, hk5] <;> rfl, ?_, fun v h => hv v (List.dropLast_subset _ h), fun i h => ?_⟩
          · rw [up_same, List.map_append] <;> rfl
          · rw [up_ne (Ne.symm nis), up_same, List.map_dropLast]
          · rw [List.length_dropLast, List.count_append]
            have := List.length_pos_iff.mpr ne
            have : ([true] : List Bool).count true = 1 := rfl
            omega
          · rcases List.mem_append.mp h with h | h
            · exact hw i h
            · rw [List.mem_singleton.mp h]
              have := hv _ (List.getLast_mem ne)
              simp only [List.mem_cons, List.not_mem_nil, or_false] at this ⊢
              rcases this with e | e <;> rw [e] <;> simp
        | false =>
          have how9 := g _ _ (by simp [nows, nowi]) howA
          unfold kdD kdStr
          simp! only
          simp_all only [eq_self]
          simp_all only [rcv, bmT, bmW, hi, how9]
          refine ⟨by rw [List.length_map]; omega, ?_⟩
          refine hY _ _ ⟨⟨_, rfl⟩, g.trans (.up (by simp)), its ++ [(false, w0)], qs, ?_, ?_, by rw [List.map_append, hk5] <;> rfl, ?_, hv, fun i h => ?_⟩
          · rw [up_same, List.map_append] <;> rfl
          · rw [up_ne (Ne.symm nis)]; exact hq
          · rw [List.count_append]
            have : ([false] : List Bool).count true = 0 := rfl
            omega
          · rcases List.mem_append.mp h with h | h
            · exact hw i h
            · rw [List.mem_singleton.mp h]; simp
      · rintro ρ SB ⟨⟨u10', rfl⟩, g, its, qs, hi, hq, hk5, hl, hv, hw⟩
        refine ⟨hk3 _ g, ?_⟩
        have itl : its.length = 3 := by rw [← k3, ← hk5, List.length_map]
        have howB := g _ _ (by simp [nows, nowi]) howA
        have GB : Gr [a] S7 SB := fun p o hp h => by
          refine g p o ?_ (G7A p o hp h)
          simp only [List.mem_cons, List.not_mem_nil, or_false, not_or]
          constructor
          · rintro rfl; rw [fsp7] at h; cases h
          · rintro rfl; rw [fil7] at h; cases h
        have sB : Sc a b ns (100 + 1000000 * pre.length + 4) SB := by
          obtain ⟨hab, hb5, p, hh', c, ha, c1, c2⟩ := sA
          exact ⟨hab, g _ _ (by simp [nb.1, nb.2]) hb5, p, hh', c, g _ _ (by simp [Ne.symm nsp, Ne.symm nil']) ha, c1, c2⟩
        have HDB := HD7.gr GB
        simp_all only [howB]
        simp_all only
        refine B3 a b ow hd ns _ SB w0 w1 w2 w3 w4 w5 hs _ HDB howB now (by omega) sB fun B SC oB bl gC sC => ?_
        have hiC := gC _ _ (by simpa using nil') hi
        have hcoC := (GB.trans gC) _ _ (by simpa using nco) hco7
        simp_all only [rcv, bmT, hcoC, hiC]
        refine ⟨by simp only [List.length_cons, List.length_nil]; omega, ?_⟩
        simp! only [bmW, hcoC]
        refine ⟨by rw [List.length_map]; omega, ?_⟩
        have ncb : co ≠ b := by
          obtain ⟨_, hb, _⟩ := s
          rintro rfl; rw [hb] at hco; cases hco
        have GC7 := GB.trans gC
        refine hX _ _ ⟨⟨_, _, _, _, _, _, _, _, _, rfl⟩, (g7.trans (GC7.mono (by simp))).trans (.up (by simp)), (g57.trans GC7).set hco, ?_, Cs ++ [⟨h.1, its, h.2.2.2, [(false, w1), (false, w2), (true, w5)], B, [w0, w1, w2], [w3, w4, w5]⟩], ?_, ?_, fun p hp => ?_⟩
        · obtain ⟨hab, hb5, p, hh', c, ha, c1, c2⟩ := sC
          refine ⟨hab, by rw [up_ne (Ne.symm ncb)]; exact hb5, p, hh', c, by rw [up_ne (Ne.symm nco)]; exact ha, c1, ?_⟩
          simp at c2 ⊢; omega
        · rw [up_same, List.map_append] <;> rfl
        · rw [List.map_append, List.map_append, hcs, List.map_singleton, List.map_singleton, hk5]
        · rcases List.mem_append.mp hp with hp | hp
          · exact hok p hp
          · rw [List.mem_singleton.mp hp]
            refine okP_of m24 hws2 nd2 oB bl itl hw (wln _ ?_)
            rw [← hn]
            exact List.mem_map.mpr ⟨h, hh2, rfl⟩
    · rintro ρ S7 ⟨⟨u3, u5, u6, u7, u8, u9, u10, u11, u12, rfl⟩, g7, g57, s7, Cs, hco7, hcs, hok⟩
      refine ⟨hk2 _ g7, ?_⟩
      have csl : Cs.length = hs.length := by have := congrArg List.length hcs; simpa using this
      have enm : Cs.map (·.nm) = NN := by
        rw [← hn]
        have := congrArg (List.map (·.1)) hcs
        rw [List.map_map, List.map_map] at this
        exact this
      have okc : OkC Cs := ⟨⟨by omega, by omega⟩, by rw [enm]; exact asc, fun p hp => hok p hp Cs hcs⟩
      simp_all only [bfW, hco7]
      exact ret_ok (hQ Cs S7 okc (G5.trans g57))
theorem law_w (ns : List Int) (S : Sto) : cl 30 "law" [.scr ns] S fun d _ => d = .bl true := by
  refine cl_run (d := f_law) rfl ⟨rfl, ?_⟩
  show wpSs (gk 29) _ (enR _) [some (.scr ns), none, none, none, none, none, none, none, none, none, none] S
  have tl : ∀ (C : List Pr) (u1 : Option D) S3, OkC C → wpSs (gk 29) (f_law.body.drop 2) (enR fun d _ => d = .bl true) [some (.scr ns), u1, some (coreD C), none, none, none, none, none, none, none, none] S3 := fun C u1 S3 h => lawbody_w h fun _ => rfl
  unfold f_law at tl ⊢
  simp only [Ss.drop] at tl
  simp_all only
  refine lstart_w fun a b S1 hs g0 => ?_
  simp_all only
  refine core_w (K := 29) (by omega) hs fun C S2 okc g1 => ?_
  exact tl C _ S2 okc

end Z
open PySem PySem.W PySem.Calls PyProof.Rows
theorem PySem.Challenge.cw_tellsnomore_k58_groups_nests_and_moving_holds : PySem.Challenge.rw_tellsnomore_k58_groups_nests_and_moving.Holds := by
  w_on; o_law
  refine HandSHeadRun.head_any (r := OpenLaw.row PySem.Challenge.rw_tellsnomore_k58_groups_nests_and_moving) (q := view (OpenLaw.row PySem.Challenge.rw_tellsnomore_k58_groups_nests_and_moving).prog [43]) (H := Z.hk) (ob := Z.ob) (M := 20000) (loose := Z.loose) (d := HandSHeadRun.topDef (OpenLaw.row PySem.Challenge.rw_tellsnomore_k58_groups_nests_and_moving).prog 43) (kwd := []) Z.ob_eq
    (by kernel_rfl) (fun s => by kernel_rfl) Z.run (by kernel_rfl) (by kernel_rfl) (by kernel_rfl) (by rfl) (by first | assumption | decide +kernel) (by decide +kernel) ⟨rfl, rfl, rfl, rfl, rfl, by decide +kernel⟩ ?hw ?hc
  case hw => w_witness2
  case hc =>
    refine L2.walk_ofE (l := PySem.Challenge.rw_tellsnomore_k58_groups_nests_and_moving) (n := 63) (k := 30 + 1) (x := "script") (CX := L2.CX0) rfl (by decide) (by kernel_rfl) ⟨rfl, by decide, by decide⟩ ?F (fun _ _ _ _ z => z)
    intro w mg fa h Y G hmg0
    obtain ⟨K, KX, c⟩ := Y
    have hmg : mg ("law" : PySem.Str) = some (.ref fa) := by
      have e : (HandSHeadRun.topDef (OpenLaw.row PySem.Challenge.rw_tellsnomore_k58_groups_nests_and_moving).prog 43).name = ("law" : PySem.Str) := by kernel_rfl
      rw [← e]
      exact hmg0
    obtain ⟨fd, hb, hF⟩ := Z.law_facts (P := (PySem.Challenge.rw_tellsnomore_k58_groups_nests_and_moving).prog) (w := w) (k := 30) KX G hmg c Z.mo_ok (List.all_eq_true.mp Z.defs_ok) Z.binds_all.mem ⟨Z.f_law, rfl, rfl, rfl⟩
    exact ⟨K, fd, _, KX, hb, fun H a ns hl hO hS => Z.law_sp hO hS (Z.law_w ns _), hF⟩
