import PyProof.Rows.All
import Wide.All
import OpenK.AllK
import Wide.FinOn
import KE.KStateDown
import Lean
import HandS.ForMost
import HandS.Exc
import HandS.More
import HandS.Wide
import HandS.Defaults
import HandS.Flow
import HandS.TupAny
import HandS.TupMul
import HandS.Zip
import HandS.Rev
import HandS.IsInst
import HandS.HeadHook1
import HandS.HeadHook2
import HandS.Deep
import HandS.HeadWalk
import HandS.DictComp
import HandS.HeadHook3
import HandS.HeadHook4
import HandS.HeadEnd
import HandS.Head0
import HandS.Head1
import HandS.Head2
import PySem.Challenge.RW_tellsnomore_k49_image_and_value
set_option Elab.async false
set_option linter.all false
set_option maxRecDepth 100000
set_option maxHeartbeats 0
/-! ### Z1 -/
/-! Z1: deep data, the store, and how they lie in the layer's heap. -/
namespace Z
open PySem PySem.Spec PyProof.Rows L2
abbrev Frag := PySem.W.Frag
/-- a value with its tuples written out -/
inductive D where
  | non | bl (b : Bool) | int (i : Int) | str (x : Str) | tup (ds : List D) | ref (a : Addr) | ty (n : String) | scr (ns : List Int)
instance : Inhabited D := ⟨.non⟩
/-- an object that may change -/
inductive O where
  | lst (ds : List D) | dic (kvs : List (Key × D)) | ins (C : Str) (fs : List (Str × D))
abbrev Sto := Addr → Option O
abbrev Ev := List (Option D)
def up (S : Sto) (a : Addr) (o : O) : Sto := fun b => if b = a then some o else S b
theorem up_same {S : Sto} {a : Addr} {o : O} : up S a o a = some o := by unfold up; rw [if_pos rfl]
theorem up_ne {S : Sto} {a b : Addr} {o : O} (h : b ≠ a) : up S a o b = S b := by unfold up; rw [if_neg h]
theorem up_up {S : Sto} {a : Addr} {o u : O} : up (up S a o) a u = up S a u := by
  funext b; unfold up; split <;> rfl
/-- a list that nothing changes -/
def FrzL (K : Frag) (H : Hp) (a : Addr) (xs : List V) : Prop := (∃ o, H a = some (.frz o (.lst xs))) ∨
  ∃ (o : Obj) (its : Array Value) (n : Nat), K.lookup a = some o ∧ o.cls = .type "list" ∧ o.dict = none ∧ o.data = .seq its n ∧ its.size ≤ sizeLine ∧ Vals xs its.toList
theorem FrzL.sq {K : Frag} {H : Hp} {a : Addr} {xs : List V} (h : FrzL K H a xs) : SqL K H a xs := by
  rcases h with h | h
  · exact .inl (.inr h)
  · exact .inr h
mutual
def Rep (K : Frag) (H : Hp) : D → V → Prop
  | .non, v => v = .non
  | .bl b, v => v = .bl b
  | .int i, v => v = .int i
  | .str x, v => v = .str x
  | .ref a, v => v = .ref a
  | .ty n, v => v = .ty n
  | .scr ns, v => ∃ a, v = .ref a ∧ FrzL K H a (ns.map V.int)
  | .tup ds, v => ∃ a xs, v = .ref a ∧ SqT K H a xs ∧ Reps K H ds xs
def Reps (K : Frag) (H : Hp) : List D → List V → Prop
  | [], xs => xs = []
  | d :: ds, xs => ∃ v vs, xs = v :: vs ∧ Rep K H d v ∧ Reps K H ds vs
end
def TupLe (K : Frag) (H H1 : Hp) : Prop := ∀ a xs, (SqT K H a xs → SqT K H1 a xs) ∧ (FrzL K H a xs → FrzL K H1 a xs)
mutual
theorem Rep.mono {K : Frag} {H H1 : Hp} (h : TupLe K H H1) : ∀ (d : D) (v : V), Rep K H d v → Rep K H1 d v
  | .non, v, r => by unfold Rep at *; exact r
  | .bl b, v, r => by unfold Rep at *; exact r
  | .int i, v, r => by unfold Rep at *; exact r
  | .str x, v, r => by unfold Rep at *; exact r
  | .ref a, v, r => by unfold Rep at *; exact r
  | .ty a, v, r => by unfold Rep at *; exact r
  | .scr ns, v, r => by
    unfold Rep at *
    obtain ⟨a, e, q⟩ := r
    exact ⟨a, e, (h a _).2 q⟩
  | .tup ds, v, r => by
    unfold Rep at *
    obtain ⟨a, xs, e, q, rs⟩ := r
    exact ⟨a, xs, e, (h a xs).1 q, Reps.mono h ds xs rs⟩
theorem Reps.mono {K : Frag} {H H1 : Hp} (h : TupLe K H H1) : ∀ (ds : List D) (xs : List V), Reps K H ds xs → Reps K H1 ds xs
  | [], xs, r => by unfold Reps at *; exact r
  | d :: ds, xs, r => by
    unfold Reps at *
    obtain ⟨v, vs, e, q, rs⟩ := r
    exact ⟨v, vs, e, Rep.mono h d v q, Reps.mono h ds vs rs⟩
end
theorem rep_non {K : Frag} {H : Hp} {v : V} : Rep K H .non v ↔ v = .non := by unfold Rep; exact Iff.rfl
theorem rep_bl {K : Frag} {H : Hp} {v : V} {b : Bool} : Rep K H (.bl b) v ↔ v = .bl b := by unfold Rep; exact Iff.rfl
theorem rep_int {K : Frag} {H : Hp} {v : V} {b : Int} : Rep K H (.int b) v ↔ v = .int b := by unfold Rep; exact Iff.rfl
theorem rep_str {K : Frag} {H : Hp} {v : V} {b : Str} : Rep K H (.str b) v ↔ v = .str b := by unfold Rep; exact Iff.rfl
theorem rep_ref {K : Frag} {H : Hp} {v : V} {b : Addr} : Rep K H (.ref b) v ↔ v = .ref b := by unfold Rep; exact Iff.rfl
theorem rep_ty {K : Frag} {H : Hp} {v : V} {b : String} : Rep K H (.ty b) v ↔ v = .ty b := by unfold Rep; exact Iff.rfl
theorem rep_scr {K : Frag} {H : Hp} {v : V} {ns : List Int} : Rep K H (.scr ns) v ↔ ∃ a, v = .ref a ∧ FrzL K H a (ns.map V.int) := by
  constructor
  · intro h; unfold Rep at h; exact h
  · intro h; unfold Rep; exact h
theorem rep_tup {K : Frag} {H : Hp} {v : V} {ds : List D} : Rep K H (.tup ds) v ↔ ∃ a xs, v = .ref a ∧ SqT K H a xs ∧ Reps K H ds xs := by
  constructor
  · intro h; unfold Rep at h; exact h
  · intro h; unfold Rep; exact h
theorem reps_nil {K : Frag} {H : Hp} {xs : List V} : Reps K H [] xs ↔ xs = [] := by unfold Reps; exact Iff.rfl
theorem reps_cons {K : Frag} {H : Hp} {xs : List V} {d : D} {ds : List D} : Reps K H (d :: ds) xs ↔ ∃ v vs, xs = v :: vs ∧ Rep K H d v ∧ Reps K H ds vs := by
  constructor
  · intro h; unfold Reps at h; exact h
  · intro h; unfold Reps; exact h
theorem Reps.length {K : Frag} {H : Hp} : ∀ {ds : List D} {xs : List V}, Reps K H ds xs → xs.length = ds.length
  | [], xs, r => by rw [reps_nil.mp r] <;> rfl
  | d :: ds, xs, r => by
    obtain ⟨v, vs, rfl, _, rs⟩ := reps_cons.mp r
    simp [Reps.length rs]
theorem Reps.get {K : Frag} {H : Hp} : ∀ {ds : List D} {xs : List V} {i : Nat} {d : D}, Reps K H ds xs → ds[i]? = some d → ∃ v, xs[i]? = some v ∧ Rep K H d v
  | [], xs, i, d, r, e => by simp at e
  | d0 :: ds, xs, 0, d, r, e => by
    obtain ⟨v, vs, rfl, q, rs⟩ := reps_cons.mp r
    simp at e; subst e
    exact ⟨v, rfl, q⟩
  | d0 :: ds, xs, i + 1, d, r, e => by
    obtain ⟨v, vs, rfl, q, rs⟩ := reps_cons.mp r
    obtain ⟨u, hu, ru⟩ := Reps.get (i := i) (d := d) rs (by simpa using e)
    exact ⟨u, by simpa using hu, ru⟩
theorem Reps.get' {K : Frag} {H : Hp} : ∀ {ds : List D} {xs : List V} {i : Nat} {v : V}, Reps K H ds xs → xs[i]? = some v → ∃ d, ds[i]? = some d ∧ Rep K H d v
  | [], xs, i, v, r, e => by rw [reps_nil.mp r] at e; simp at e
  | d0 :: ds, xs, 0, v, r, e => by
    obtain ⟨u, vs, rfl, q, rs⟩ := reps_cons.mp r
    simp at e; subst e
    exact ⟨d0, rfl, q⟩
  | d0 :: ds, xs, i + 1, v, r, e => by
    obtain ⟨u, vs, rfl, q, rs⟩ := reps_cons.mp r
    obtain ⟨d, hd, rd⟩ := Reps.get' (i := i) (v := v) rs (by simpa using e)
    exact ⟨d, by simpa using hd, rd⟩
theorem Reps.append {K : Frag} {H : Hp} : ∀ {ds es : List D} {xs ys : List V}, Reps K H ds xs → Reps K H es ys → Reps K H (ds ++ es) (xs ++ ys)
  | [], es, xs, ys, r, q => by rw [reps_nil.mp r]; exact q
  | d :: ds, es, xs, ys, r, q => by
    obtain ⟨v, vs, rfl, rv, rs⟩ := reps_cons.mp r
    exact reps_cons.mpr ⟨v, vs ++ ys, rfl, rv, Reps.append rs q⟩
theorem Reps.take {K : Frag} {H : Hp} : ∀ {ds : List D} {xs : List V} (n : Nat), Reps K H ds xs → Reps K H (ds.take n) (xs.take n)
  | ds, xs, 0, r => by simp [reps_nil]
  | [], xs, n + 1, r => by rw [reps_nil.mp r]; exact reps_nil.mpr rfl
  | d :: ds, xs, n + 1, r => by
    obtain ⟨v, vs, rfl, rv, rs⟩ := reps_cons.mp r
    exact reps_cons.mpr ⟨v, vs.take n, rfl, rv, Reps.take n rs⟩
theorem Reps.drop {K : Frag} {H : Hp} : ∀ {ds : List D} {xs : List V} (n : Nat), Reps K H ds xs → Reps K H (ds.drop n) (xs.drop n)
  | ds, xs, 0, r => by simpa using r
  | [], xs, n + 1, r => by rw [reps_nil.mp r]; exact reps_nil.mpr rfl
  | d :: ds, xs, n + 1, r => by
    obtain ⟨v, vs, rfl, rv, rs⟩ := reps_cons.mp r
    simpa using Reps.drop n rs
theorem Reps.set {K : Frag} {H : Hp} {d : D} {v : V} (q : Rep K H d v) : ∀ {ds : List D} {xs : List V} (i : Nat), Reps K H ds xs → Reps K H (ds.set i d) (xs.set i v)
  | [], xs, i, r => by rw [reps_nil.mp r]; exact reps_nil.mpr rfl
  | e :: ds, xs, 0, r => by
    obtain ⟨u, vs, rfl, rv, rs⟩ := reps_cons.mp r
    exact reps_cons.mpr ⟨v, vs, rfl, q, rs⟩
  | e :: ds, xs, i + 1, r => by
    obtain ⟨u, vs, rfl, rv, rs⟩ := reps_cons.mp r
    exact reps_cons.mpr ⟨u, vs.set i v, rfl, rv, Reps.set q i rs⟩
theorem Reps.reverse {K : Frag} {H : Hp} : ∀ {ds : List D} {xs : List V}, Reps K H ds xs → Reps K H ds.reverse xs.reverse
  | [], xs, r => by rw [reps_nil.mp r]; exact reps_nil.mpr rfl
  | d :: ds, xs, r => by
    obtain ⟨v, vs, rfl, rv, rs⟩ := reps_cons.mp r
    rw [List.reverse_cons, List.reverse_cons]
    exact Reps.append (Reps.reverse rs) (reps_cons.mpr ⟨v, [], rfl, rv, reps_nil.mpr rfl⟩)
theorem Reps.dropLast {K : Frag} {H : Hp} {ds : List D} {xs : List V} (r : Reps K H ds xs) : Reps K H ds.dropLast xs.dropLast := by
  rw [List.dropLast_eq_take, List.dropLast_eq_take, r.length]
  exact r.take _
theorem Reps.ints {K : Frag} {H : Hp} : ∀ {ns : List Int} {xs : List V}, Reps K H (ns.map D.int) xs ↔ xs = ns.map V.int
  | [], xs => by exact reps_nil
  | n :: ns, xs => by
    rw [List.map_cons, reps_cons]
    constructor
    · rintro ⟨v, vs, rfl, q, rs⟩
      rw [rep_int.mp q, Reps.ints.mp rs] <;> rfl
    · rintro rfl
      exact ⟨_, _, rfl, rep_int.mpr rfl, Reps.ints.mpr rfl⟩
theorem Reps.strs {K : Frag} {H : Hp} : ∀ {ns : List Str} {xs : List V}, Reps K H (ns.map D.str) xs ↔ xs = ns.map V.str
  | [], xs => by exact reps_nil
  | n :: ns, xs => by
    rw [List.map_cons, reps_cons]
    constructor
    · rintro ⟨v, vs, rfl, q, rs⟩
      rw [rep_str.mp q, Reps.strs.mp rs] <;> rfl
    · rintro rfl
      exact ⟨_, _, rfl, rep_str.mpr rfl, Reps.strs.mpr rfl⟩
theorem Reps.bls {K : Frag} {H : Hp} : ∀ {ns : List Bool} {xs : List V}, Reps K H (ns.map D.bl) xs ↔ xs = ns.map V.bl
  | [], xs => by exact reps_nil
  | n :: ns, xs => by
    rw [List.map_cons, reps_cons]
    constructor
    · rintro ⟨v, vs, rfl, q, rs⟩
      rw [rep_bl.mp q, Reps.bls.mp rs] <;> rfl
    · rintro rfl
      exact ⟨_, _, rfl, rep_bl.mpr rfl, Reps.bls.mpr rfl⟩

/-! ### the store in the heap -/
def keyD : Key → D
  | .inl i => .int i
  | .inr x => .str x
theorem rep_key {K : Frag} {H : Hp} {k : Key} {v : V} : Rep K H (keyD k) v ↔ v = kV k := by
  cases k with
  | inl i => exact rep_int
  | inr x => exact rep_str
/-- pairs with equal firsts and related seconds -/
def RepKV {κ : Type} (K : Frag) (H : Hp) : List (κ × D) → List (κ × V) → Prop := Paired fun p q => p.1 = q.1 ∧ Rep K H p.2 q.2
theorem RepKV.mono {κ : Type} {K : Frag} {H H1 : Hp} (h : TupLe K H H1) {a : List (κ × D)} {b : List (κ × V)} (r : RepKV K H a b) : RepKV K H1 a b := Paired.mapP r fun p q z => ⟨z.1, Rep.mono h _ _ z.2⟩
def RepO (K : Frag) (H : Hp) (a : Addr) : O → Prop
  | .lst ds => ∃ xs, H a = some (.lst xs) ∧ Reps K H ds xs
  | .dic kvs => ∃ vs, H a = some (.dK vs) ∧ RepKV K H kvs vs
  | .ins C fs => ∃ dx vs, H a = some (.ins (He.ga K C) dx vs) ∧ RepKV K H fs vs
def StR (K : Frag) (H : Hp) (S : Sto) : Prop := ∀ a o, S a = some o → RepO K H a o
/-- what the store does not hold is as it was, and is not held -/
def Ext (H : Hp) (S : Sto) (H1 : Hp) (S1 : Sto) : Prop := ∀ a o, H a = some o → S a = none → H1 a = some o ∧ S1 a = none
theorem Ext.refl {H : Hp} {S : Sto} : Ext H S H S := fun _ _ h q => ⟨h, q⟩
theorem Ext.trans {H H1 H2 : Hp} {S S1 S2 : Sto} (a : Ext H S H1 S1) (b : Ext H1 S1 H2 S2) : Ext H S H2 S2 := fun c o h q => b c o (a c o h q).1 (a c o h q).2
def Sub (S S1 : Sto) : Prop := ∀ a o, S a = some o → S1 a = some o
theorem Sub.refl {S : Sto} : Sub S S := fun _ _ h => h
theorem Sub.trans {S S1 S2 : Sto} (a : Sub S S1) (b : Sub S1 S2) : Sub S S2 := fun c o h => b c o (a c o h)
theorem Sub.free {S S1 : Sto} (a : Sub S S1) {p : Addr} (h : S1 p = none) : S p = none := by
  cases e : S p with
  | none => rfl
  | some o => rw [a p o e] at h; cases h
theorem Sub.up {S S1 : Sto} (a : Sub S S1) {p : Addr} {o : O} (h : S p = none) : Sub S (up S1 p o) := fun c u e => by
  have : c ≠ p := by rintro rfl; rw [h] at e; cases e
  rw [up_ne this]; exact a c u e
theorem sub_up {S : Sto} {p : Addr} {o : O} (h : S p = none) : Sub S (up S p o) := Sub.refl.up h
theorem Ext.sub {H H1 : Hp} {S S1 S2 : Sto} (a : Ext H S H1 S1) (b : Sub S2 S1) : Ext H S H1 S2 := fun c o h q => ⟨(a c o h q).1, b.free (a c o h q).2⟩
theorem StR.sub {K : Frag} {H : Hp} {S S1 : Sto} (a : StR K H S1) (b : Sub S S1) : StR K H S := fun c o h => a c o (b c o h)
theorem StR.fresh {K : Frag} {H : Hp} {S : Sto} (a : StR K H S) {p : Addr} (h : H p = none) : S p = none := by
  cases e : S p with
  | none => rfl
  | some o =>
    have r := a p o e
    cases o with
    | lst ds => obtain ⟨_, q, _⟩ := r; rw [h] at q; cases q
    | dic ds => obtain ⟨_, q, _⟩ := r; rw [h] at q; cases q
    | ins C ds => obtain ⟨_, _, q, _⟩ := r; rw [h] at q; cases q
theorem StR.notup {K : Frag} {H : Hp} {S : Sto} (a : StR K H S) {p : Addr} {xs : List V} (h : Rd H p (.tup xs)) : S p = none := by
  cases e : S p with
  | none => rfl
  | some o =>
    have r := a p o e
    cases o with
    | lst ds => obtain ⟨_, q, _⟩ := r; rcases h with h | ⟨_, h⟩ <;> (rw [h] at q; cases q)
    | dic ds => obtain ⟨_, q, _⟩ := r; rcases h with h | ⟨_, h⟩ <;> (rw [h] at q; cases q)
    | ins C ds => obtain ⟨_, _, q, _⟩ := r; rcases h with h | ⟨_, h⟩ <;> (rw [h] at q; cases q)
theorem StR.nofrz {K : Frag} {H : Hp} {S : Sto} (a : StR K H S) {p : Addr} {o : Obj} {xs : List V} (h : H p = some (.frz o (.lst xs))) : S p = none := by
  cases e : S p with
  | none => rfl
  | some o =>
    have r := a p o e
    cases o with
    | lst ds => obtain ⟨_, q, _⟩ := r; rw [h] at q; cases q
    | dic ds => obtain ⟨_, q, _⟩ := r; rw [h] at q; cases q
    | ins C ds => obtain ⟨_, _, q, _⟩ := r; rw [h] at q; cases q
theorem Ext.tups {K : Frag} {H H1 : Hp} {S S1 : Sto} (a : Ext H S H1 S1) (s : StR K H S) : TupLe K H H1 := fun p xs => by
  constructor
  · intro h
    rcases h with h | h
    · have n := s.notup h
      rcases h with h | ⟨o, h⟩
      · exact .inl (.inl (a p _ h n).1)
      · exact .inl (.inr ⟨o, (a p _ h n).1⟩)
    · exact .inr h
  · intro h
    rcases h with ⟨o, h⟩ | h
    · exact .inl ⟨o, (a p _ h (s.nofrz h)).1⟩
    · exact .inr h
/-- a new object on the heap that the store does not take -/
theorem tupLe_new {K : Frag} {H : Hp} {p : Addr} {o : HO} (h : H p = none) : TupLe K H (upd H p o) := fun a xs => by
  constructor
  · intro q
    rcases q with q | q
    · rcases q with q | ⟨u, q⟩
      · exact .inl (.inl (by rw [upd_ne (ne_of_none q h)]; exact q))
      · exact .inl (.inr ⟨u, by rw [upd_ne (ne_of_none q h)]; exact q⟩)
    · exact .inr q
  · intro q
    rcases q with ⟨u, q⟩ | q
    · exact .inl ⟨u, by rw [upd_ne (ne_of_none q h)]; exact q⟩
    · exact .inr q
theorem RepO.mono {K : Frag} {H H1 : Hp} {a : Addr} {o : O} (r : RepO K H a o) (t : TupLe K H H1) (k : ∀ u, H a = some u → H1 a = some u) : RepO K H1 a o := by
  cases o with
  | lst ds => obtain ⟨xs, h, r⟩ := r; exact ⟨xs, k _ h, Reps.mono t _ _ r⟩
  | dic ds => obtain ⟨xs, h, r⟩ := r; exact ⟨xs, k _ h, r.mono t⟩
  | ins C ds => obtain ⟨dx, xs, h, r⟩ := r; exact ⟨dx, xs, k _ h, r.mono t⟩
theorem StR.new {K : Frag} {H : Hp} {S : Sto} (s : StR K H S) {p : Addr} {o : HO} (h : H p = none) : StR K (upd H p o) S := fun a u e =>
  (s a u e).mono (tupLe_new h) fun v q => by rw [upd_ne (ne_of_none q h)]; exact q
theorem StR.newUp {K : Frag} {H : Hp} {S : Sto} (s : StR K H S) {p : Addr} {o : HO} {u : O} (h : H p = none) (r : RepO K (upd H p o) p u) : StR K (upd H p o) (up S p u) := fun a v e => by
  by_cases hap : a = p
  · subst hap; rw [up_same] at e; cases e; exact r
  · rw [up_ne hap] at e; exact s.new h a v e
theorem ext_new {H : Hp} {S : Sto} {p : Addr} {o : HO} (h : H p = none) : Ext H S (upd H p o) S := fun a u e n => ⟨by rw [upd_ne (ne_of_none e h)]; exact e, n⟩
theorem ext_newUp {H : Hp} {S : Sto} {p : Addr} {o : HO} {v : O} (h : H p = none) : Ext H S (upd H p o) (up S p v) := fun a u e n => ⟨by rw [upd_ne (ne_of_none e h)]; exact e, by rw [up_ne (ne_of_none e h)]; exact n⟩
/-- an object of the store is changed -/
theorem tupLe_set {K : Frag} {H : Hp} {S : Sto} (s : StR K H S) {p : Addr} {o : O} {u : HO} (h : S p = some o) : TupLe K H (upd H p u) := fun a xs => by
  constructor
  · intro q
    rcases q with q | q
    · have n := s.notup q
      have : a ≠ p := by rintro rfl; rw [h] at n; cases n
      rcases q with q | ⟨w, q⟩
      · exact .inl (.inl (by rw [upd_ne this]; exact q))
      · exact .inl (.inr ⟨w, by rw [upd_ne this]; exact q⟩)
    · exact .inr q
  · intro q
    rcases q with ⟨w, q⟩ | q
    · have n := s.nofrz q
      have : a ≠ p := by rintro rfl; rw [h] at n; cases n
      exact .inl ⟨w, by rw [upd_ne this]; exact q⟩
    · exact .inr q
theorem StR.setUp {K : Frag} {H : Hp} {S : Sto} (s : StR K H S) {p : Addr} {o' : O} {o : HO} {u : O} (h : S p = some o') (r : RepO K (upd H p o) p u) : StR K (upd H p o) (up S p u) := fun a v e => by
  by_cases hap : a = p
  · subst hap; rw [up_same] at e; cases e; exact r
  · rw [up_ne hap] at e
    exact (s a v e).mono (tupLe_set s h) fun v q => by rw [upd_ne hap]; exact q
theorem ext_setUp {H : Hp} {S : Sto} {p : Addr} {o : HO} {o' v : O} (h : S p = some o') : Ext H S (upd H p o) (up S p v) := fun a u e n => by
  have : a ≠ p := by rintro rfl; rw [h] at n; cases n
  exact ⟨by rw [upd_ne this]; exact e, by rw [up_ne this]; exact n⟩

/-! ### environments -/
def EnvR (K : Frag) (H : Hp) (ρ : Ev) (σ : L2.St) : Prop := ρ.length = σ.length ∧ ∀ (i : Nat) (d : D), ρ[i]? = some (some d) → ∃ v, σ[i]? = some (some v) ∧ Rep K H d v
theorem EnvR.mono {K : Frag} {H H1 : Hp} {ρ : Ev} {σ : L2.St} (e : EnvR K H ρ σ) (t : TupLe K H H1) : EnvR K H1 ρ σ := ⟨e.1, fun i d h => let ⟨v, a, b⟩ := e.2 i d h; ⟨v, a, Rep.mono t _ _ b⟩⟩
theorem EnvR.set {K : Frag} {H : Hp} {ρ : Ev} {σ : L2.St} (e : EnvR K H ρ σ) {i : Nat} {d : D} {v : V} (r : Rep K H d v) : EnvR K H (ρ.set i (some d)) (σ.set i (some v)) := by
  refine ⟨by simp [e.1], fun j u h => ?_⟩
  by_cases hj : i = j
  · subst hj
    by_cases hl : i < ρ.length
    · rw [List.getElem?_set_self hl] at h
      cases h
      exact ⟨v, by rw [List.getElem?_set_self (by rw [← e.1]; exact hl)], r⟩
    · rw [List.getElem?_eq_none (by simpa using hl)] at h; cases h
  · rw [List.getElem?_set_ne hj] at h
    obtain ⟨w, a, b⟩ := e.2 j u h
    exact ⟨w, by rw [List.getElem?_set_ne hj]; exact a, b⟩

/-! ### readings over deep data -/
abbrev PK (α : Type) := α → Sto → Prop
abbrev WE := Ev → Sto → PK D → Prop
abbrev WT := Ev → Sto → PK Bool → Prop
abbrev WA := Ev → Sto → PK (List D) → Prop
/-- what is behind -/
def Fin (K : Frag) (H : Hp) (S : Sto) (Q' : PK D) (Q : VK) : Prop := ∀ d v H1 S1, Ext H S H1 S1 → StR K H1 S1 → Rep K H1 d v → Q' d S1 → Q v H1
def FinT (K : Frag) (H : Hp) (S : Sto) (Q' : PK Bool) (Q : Bool → Hp → Prop) : Prop := ∀ b H1 S1, Ext H S H1 S1 → StR K H1 S1 → Q' b S1 → Q b H1
def FinA (K : Frag) (H : Hp) (S : Sto) (Q' : PK (List D)) (Q : List V → Hp → Prop) : Prop := ∀ ds vs H1 S1, Ext H S H1 S1 → StR K H1 S1 → Reps K H1 ds vs → Q' ds S1 → Q vs H1
def lift (K : Frag) (W : WE) : TE := fun σ H Q => ∃ ρ S Q', EnvR K H ρ σ ∧ StR K H S ∧ W ρ S Q' ∧ Fin K H S Q' Q
def liftT (K : Frag) (W : WT) : TT := fun σ H Q => ∃ ρ S Q', EnvR K H ρ σ ∧ StR K H S ∧ W ρ S Q' ∧ FinT K H S Q' Q
def liftA (K : Frag) (W : WA) : TA := fun σ H Q => ∃ ρ S Q', EnvR K H ρ σ ∧ StR K H S ∧ W ρ S Q' ∧ FinA K H S Q' Q
abbrev SE (X : Cx) (e : Expr) (W : WE) : Prop := PE X e (lift X.K W)
abbrev ST (X : Cx) (e : Expr) (W : WT) : Prop := PT X e (liftT X.K W)
abbrev SW (X : Cx) (e : Expr) (W : WT) : Prop := PW X e (liftT X.K W)
abbrev SA (X : Cx) (es : List Expr) (W : WA) : Prop := PA X es (liftA X.K W)
theorem pe_imp {X : Cx} {e : Expr} {t t' : TE} (h : PE X e t) (i : ∀ σ H Q, t' σ H Q → t σ H Q) : PE X e t' := ⟨fun pins s σ H Q I w => h.run pins s σ H Q I (i σ H Q w)⟩
theorem pt_imp {X : Cx} {e : Expr} {t t' : TT} (h : PT X e t) (i : ∀ σ H Q, t' σ H Q → t σ H Q) : PT X e t' := ⟨fun pins s σ H Q I w => h.run pins s σ H Q I (i σ H Q w)⟩
theorem pw_imp {X : Cx} {e : Expr} {t t' : TT} (h : PW X e t) (i : ∀ σ H Q, t' σ H Q → t σ H Q) : PW X e t' := ⟨fun wh pins s σ H Q I w => h.run wh pins s σ H Q I (i σ H Q w)⟩
theorem pa_imp {X : Cx} {e : List Expr} {t t' : TA} (h : PA X e t) (i : ∀ σ H Q, t' σ H Q → t σ H Q) : PA X e t' := ⟨fun pos pins s σ H Q I w => h.run pos pins s σ H Q I (i σ H Q w)⟩
theorem ps_imp {X : Cx} {e : Stmt} {t t' : TS} (h : PS X e t) (i : ∀ D σ H, t' D σ H → t D σ H) : PS X e t' := ⟨fun pins s σ H D I w => h.run pins s σ H D I (i D σ H w)⟩
theorem pss_imp {X : Cx} {e : List Stmt} {t t' : TS} (h : PSs X e t) (i : ∀ D σ H, t' D σ H → t D σ H) : PSs X e t' := ⟨fun pins s σ H D I w => h.run pins s σ H D I (i D σ H w)⟩
theorem Fin.after {K : Frag} {H H1 : Hp} {S S1 : Sto} {Q' : PK D} {Q : VK} (f : Fin K H S Q' Q) (e : Ext H S H1 S1) : Fin K H1 S1 Q' Q := fun d v H2 S2 e2 s r q => f d v H2 S2 (e.trans e2) s r q
theorem FinT.after {K : Frag} {H H1 : Hp} {S S1 : Sto} {Q' : PK Bool} {Q : Bool → Hp → Prop} (f : FinT K H S Q' Q) (e : Ext H S H1 S1) : FinT K H1 S1 Q' Q := fun d H2 S2 e2 s q => f d H2 S2 (e.trans e2) s q
theorem FinA.after {K : Frag} {H H1 : Hp} {S S1 : Sto} {Q' : PK (List D)} {Q : List V → Hp → Prop} (f : FinA K H S Q' Q) (e : Ext H S H1 S1) : FinA K H1 S1 Q' Q := fun d v H2 S2 e2 s r q => f d v H2 S2 (e.trans e2) s r q
end Z

/-! ### Z2 -/
/-! Z2: operations by values over deep data. -/
namespace Z
open PySem PySem.Spec PyProof.Rows L2
section
variable {K : Frag} {H : Hp} {S : Sto} {Q' : PK D} {Q : VK}
theorem Fin.val (f : Fin K H S Q' Q) (s : StR K H S) {d : D} {v : V} (r : Rep K H d v) (q : Q' d S) : Q v H := f d v H S .refl s r q
theorem Fin.int (f : Fin K H S Q' Q) (s : StR K H S) {i : Int} (q : Q' (.int i) S) : Q (.int i) H := f.val s (rep_int.mpr rfl) q
theorem Fin.bl (f : Fin K H S Q' Q) (s : StR K H S) {i : Bool} (q : Q' (.bl i) S) : Q (.bl i) H := f.val s (rep_bl.mpr rfl) q
theorem Fin.str (f : Fin K H S Q' Q) (s : StR K H S) {i : Str} (q : Q' (.str i) S) : Q (.str i) H := f.val s (rep_str.mpr rfl) q
theorem Fin.non (f : Fin K H S Q' Q) (s : StR K H S) (q : Q' .non S) : Q .non H := f.val s (rep_non.mpr rfl) q
/-- a new tuple -/
theorem Fin.tup (f : Fin K H S Q' Q) (s : StR K H S) {ds : List D} {xs : List V} (r : Reps K H ds xs) (q : Q' (.tup ds) S) {p : Addr} (h : H p = none) : Q (.ref p) (upd H p (.tup xs)) :=
  f (.tup ds) _ _ S (ext_new h) (s.new h) (rep_tup.mpr ⟨p, xs, rfl, .inl (.inl upd_same), Reps.mono (tupLe_new h) _ _ r⟩) q
/-- a new object of the store -/
theorem Fin.new (f : Fin K H S Q' Q) (s : StR K H S) {o : HO} {u : O} {p : Addr} (h : H p = none) (r : RepO K (upd H p o) p u) (q : Q' (.ref p) (up S p u)) : Q (.ref p) (upd H p o) :=
  f (.ref p) _ _ _ (ext_newUp h) (s.newUp h r) (rep_ref.mpr rfl) q
theorem Fin.lst (f : Fin K H S Q' Q) (s : StR K H S) {ds : List D} {xs : List V} (r : Reps K H ds xs) (q : ∀ p, S p = none → Q' (.ref p) (up S p (.lst ds))) {p : Addr} (h : H p = none) : Q (.ref p) (upd H p (.lst xs)) :=
  f.new (u := .lst ds) s h ⟨xs, upd_same, Reps.mono (tupLe_new h) _ _ r⟩ (q p (s.fresh h))
/-- an object of the store changed -/
theorem Fin.set (f : Fin K H S Q' Q) (s : StR K H S) {o : HO} {u o' : O} {p : Addr} {d : D} {v : V} (h : S p = some o') (r : RepO K (upd H p o) p u) (rd : Rep K (upd H p o) d v) (q : Q' d (up S p u)) : Q v (upd H p o) :=
  f d _ _ _ (ext_setUp h) (s.setUp h r) rd q
end
/-! ### lifted relations by values -/
abbrev W2 := D → D → Sto → PK D → Prop
abbrev W1 := D → Sto → PK D → Prop
abbrev WC := List D → Sto → PK D → Prop
abbrev WM := D → List D → Sto → PK D → Prop
def lift2 (K : Frag) (W : W2) : R2 := fun x y H Q => ∃ d e S Q', Rep K H d x ∧ Rep K H e y ∧ StR K H S ∧ W d e S Q' ∧ Fin K H S Q' Q
def lift1 (K : Frag) (W : W1) : V → Hp → VK → Prop := fun x H Q => ∃ d S Q', Rep K H d x ∧ StR K H S ∧ W d S Q' ∧ Fin K H S Q' Q
def liftC (K : Frag) (W : WC) : List V → Hp → VK → Prop := fun xs H Q => ∃ ds S Q', Reps K H ds xs ∧ StR K H S ∧ W ds S Q' ∧ Fin K H S Q' Q
def liftM (K : Frag) (W : WM) : V → List V → Hp → VK → Prop := fun x xs H Q => ∃ d ds S Q', Rep K H d x ∧ Reps K H ds xs ∧ StR K H S ∧ W d ds S Q' ∧ Fin K H S Q' Q
section
variable {X : Cx}
/-! ### numbers, texts -/
def addW : W2
  | .int i, .int j, S, Q => Q (.int (i + j)) S
  | .str x, .str y, S, Q => x.length + y.length ≤ sizeLine ∧ Q (.str (x ++ y)) S
  | .tup xs, .tup ys, S, Q => xs.length + ys.length ≤ sizeLine ∧ Q (.tup (xs ++ ys)) S
  | .ref a, .ref b, S, Q => match S a, S b with
    | some (.lst xs), some (.lst ys) => xs.length + ys.length ≤ sizeLine ∧ ∀ p, S p = none → Q (.ref p) (up S p (.lst (xs ++ ys)))
    | _, _ => False
  | _, _, _, _ => False
theorem opz_add : OpR X (binaryOp .Add) (lift2 X.K addW) := by
  intro pins s σ H x y v u Q I rx ry ⟨d, e, S, Q', rd, re, hs, w, f⟩
  unfold addW at w
  split at w
  · obtain rfl := rep_int.mp rd
    obtain rfl := rep_int.mp re
    exact op_add pins s σ H _ _ v u Q I rx ry ⟨_, _, rfl, rfl, f.int hs w⟩
  · obtain rfl := rep_str.mp rd
    obtain rfl := rep_str.mp re
    exact op_add_str pins s σ H _ _ v u Q I rx ry ⟨_, _, rfl, rfl, w.1, f.str hs w.2⟩
  · rename_i xs ys
    obtain ⟨a, vs, rfl, ta, ra⟩ := rep_tup.mp rd
    obtain ⟨b, ws, rfl, tb, rb⟩ := rep_tup.mp re
    refine op_catA pins s σ H _ _ v u Q I rx ry ⟨a, b, vs, ws, rfl, rfl, ta, tb, by rw [ra.length, rb.length]; exact w.1, fun e => ?_, fun _ e => ?_, fun _ _ p hp => f.tup hs (ra.append rb) w.2 hp⟩
    · subst e
      have : xs = [] := List.eq_nil_of_length_eq_zero ra.length.symm
      subst this
      exact f.val hs (rep_tup.mpr ⟨b, ws, rfl, tb, rb⟩) w.2
    · subst e
      have : ys = [] := List.eq_nil_of_length_eq_zero rb.length.symm
      subst this
      rw [List.append_nil] at w
      exact f.val hs (rep_tup.mpr ⟨a, vs, rfl, ta, ra⟩) w.2
  · obtain rfl := rep_ref.mp rd
    obtain rfl := rep_ref.mp re
    split at w
    · rename_i xs ys ha hb
      obtain ⟨vs, h1, r1⟩ := hs _ _ ha
      obtain ⟨ws, h2, r2⟩ := hs _ _ hb
      exact op_cat pins s σ H _ _ v u Q I rx ry ⟨_, _, vs, ws, rfl, rfl, h1, h2, by rw [r1.length, r2.length]; exact w.1, fun p hp => f.lst hs (r1.append r2) w.2 hp⟩
    · exact w.elim
  · exact w.elim
def subW : W2
  | .int i, .int j, S, Q => Q (.int (i - j)) S
  | _, _, _, _ => False
theorem opz_sub : OpR X (binaryOp .Sub) (lift2 X.K subW) := by
  intro pins s σ H x y v u Q I rx ry ⟨d, e, S, Q', rd, re, hs, w, f⟩
  unfold subW at w
  split at w
  · obtain rfl := rep_int.mp rd
    obtain rfl := rep_int.mp re
    exact op_sub pins s σ H _ _ v u Q I rx ry ⟨_, _, rfl, rfl, f.int hs w⟩
  · exact w.elim
def mulW : W2
  | .int i, .int j, S, Q => CMulW i j ∧ Q (.int (i * j)) S
  | _, _, _, _ => False
theorem opz_mulI : OpR X (binaryOp .Mult) (lift2 X.K fun d e S Q => ∃ i j, d = .int i ∧ e = .int j ∧ CMulW i j ∧ Q (.int (i * j)) S) := by
  intro pins s σ H x y v u Q I rx ry ⟨d, e, S, Q', rd, re, hs, ⟨i, j, e1, e2, c, w⟩, f⟩
  subst e1 e2
  obtain rfl := rep_int.mp rd
  obtain rfl := rep_int.mp re
  exact op_mulW pins s σ H _ _ v u Q I rx ry ⟨_, _, rfl, rfl, c, f.int hs w⟩
def fdivW : W2
  | .int i, .int j, S, Q => CDivW i j ∧ Q (.int (i / j)) S
  | _, _, _, _ => False
theorem opz_fdiv : OpR X (binaryOp .FloorDiv) (lift2 X.K fdivW) := by
  intro pins s σ H x y v u Q I rx ry ⟨d, e, S, Q', rd, re, hs, w, f⟩
  unfold fdivW at w
  split at w
  · obtain rfl := rep_int.mp rd
    obtain rfl := rep_int.mp re
    exact op_fdivW pins s σ H _ _ v u Q I rx ry ⟨_, _, rfl, rfl, w.1, f.int hs w.2⟩
  · exact w.elim
def modW : W2
  | .int i, .int j, S, Q => 0 < j ∧ Q (.int (i % j)) S
  | _, _, _, _ => False
theorem opz_mod : OpR X (binaryOp .Mod) (lift2 X.K modW) := by
  intro pins s σ H x y v u Q I rx ry ⟨d, e, S, Q', rd, re, hs, w, f⟩
  unfold modW at w
  split at w
  · obtain rfl := rep_int.mp rd
    obtain rfl := rep_int.mp re
    exact op_mod pins s σ H _ _ v u Q I rx ry ⟨_, _, rfl, rfl, w.1, f.int hs w.2⟩
  · exact w.elim
def powW : W2
  | .int i, .int j, S, Q => CPow i j ∧ Q (.int (i ^ j.toNat)) S
  | _, _, _, _ => False
theorem opz_pow : OpR X (binaryOp .Pow) (lift2 X.K powW) := by
  intro pins s σ H x y v u Q I rx ry ⟨d, e, S, Q', rd, re, hs, w, f⟩
  unfold powW at w
  split at w
  · obtain rfl := rep_int.mp rd
    obtain rfl := rep_int.mp re
    exact op_pow pins s σ H _ _ v u Q I rx ry ⟨_, _, rfl, rfl, w.1, f.int hs w.2⟩
  · exact w.elim
theorem opz_mul : OpR X (binaryOp .Mult) (lift2 X.K mulW) := by
  intro pins s σ H x y v u Q I rx ry ⟨d, e, S, Q', rd, re, hs, w, f⟩
  unfold mulW at w
  split at w
  · exact opz_mulI pins s σ H x y v u Q I rx ry ⟨_, _, S, Q', rd, re, hs, ⟨_, _, rfl, rfl, w.1, w.2⟩, f⟩
  · exact w.elim
def negW : W1
  | .int i, S, Q => Q (.int (-i)) S
  | _, _, _ => False
theorem unz_neg : UnR X (unaryOp .USub) (lift1 X.K negW) := by
  intro pins s σ H x v Q I rx ⟨d, S, Q', rd, hs, w, f⟩
  unfold negW at w
  split at w
  · obtain rfl := rep_int.mp rd
    exact un_neg pins s σ H _ v Q I rx ⟨_, rfl, f.int hs w⟩
  · exact w.elim
end
end Z

/-! ### Z3 -/
/-! Z3: comparisons, truth, subscripts, built-in calls and methods over deep data. -/
namespace Z
open PySem PySem.Spec PyProof.Rows L2
/-! ### data as the library's comparisons take it -/
mutual
def pyD : D → Option PyData
  | .non => some .none
  | .bl b => some (.bool b)
  | .int i => some (.int i)
  | .str x => some (.str x)
  | .tup ds => (pyDs ds).map .tuple
  | .ref _ => none
  | .ty _ => none
  | .scr _ => none
def pyDs : List D → Option (List PyData)
  | [] => some []
  | d :: ds => match pyD d, pyDs ds with
    | some p, some ps => some (p :: ps)
    | _, _ => none
end
/-- a list's items too -/
def pyS (S : Sto) : D → Option PyData
  | .ref a => match S a with
    | some (.lst ds) => (pyDs ds).map .list
    | _ => none
  | d => pyD d
mutual
theorem dp_of {K : Frag} {H : Hp} : ∀ (d : D) (v : V) (p : PyData), Rep K H d v → pyD d = some p → Dp K H v p
  | .non, v, p, r, e => by rw [rep_non.mp r]; unfold pyD at e; cases e; exact .non
  | .bl b, v, p, r, e => by rw [rep_bl.mp r]; unfold pyD at e; cases e; exact .bl _
  | .int b, v, p, r, e => by rw [rep_int.mp r]; unfold pyD at e; cases e; exact .int _
  | .str b, v, p, r, e => by rw [rep_str.mp r]; unfold pyD at e; cases e; exact .str _
  | .tup ds, v, p, r, e => by
    obtain ⟨a, xs, rfl, t, rs⟩ := rep_tup.mp r
    unfold pyD at e
    cases q : pyDs ds with
    | none => rw [q] at e; cases e
    | some ps =>
      rw [q] at e; cases e
      exact .tup t (dps_of ds xs ps rs q)
  | .ref a, v, p, r, e => by unfold pyD at e; cases e
  | .ty a, v, p, r, e => by unfold pyD at e; cases e
  | .scr a, v, p, r, e => by unfold pyD at e; cases e
theorem dps_of {K : Frag} {H : Hp} : ∀ (ds : List D) (xs : List V) (ps : List PyData), Reps K H ds xs → pyDs ds = some ps → DpAll K H xs ps
  | [], xs, ps, r, e => by rw [reps_nil.mp r]; unfold pyDs at e; cases e; exact .nil
  | d :: ds, xs, ps, r, e => by
    obtain ⟨v, vs, rfl, q, rs⟩ := reps_cons.mp r
    unfold pyDs at e
    cases h1 : pyD d with
    | none => rw [h1] at e; cases e
    | some p =>
      cases h2 : pyDs ds with
      | none => rw [h1, h2] at e; cases e
      | some ps' =>
        rw [h1, h2] at e; cases e
        exact .cons (dp_of d v p q h1) (dps_of ds vs ps' rs h2)
end
theorem dpS_of {K : Frag} {H : Hp} {S : Sto} (hs : StR K H S) {d : D} {v : V} {p : PyData} (r : Rep K H d v) (e : pyS S d = some p) : Dp K H v p := by
  cases d with
  | ref a =>
    rw [rep_ref.mp r]
    simp only [pyS] at e
    cases q : S a with
    | none => rw [q] at e; cases e
    | some o =>
      rw [q] at e
      cases o with
      | lst ds =>
        obtain ⟨xs, h, rs⟩ := hs _ _ q
        cases z : pyDs ds with
        | none => simp only [z] at e; cases e
        | some ps => simp only [z] at e; cases e; exact .lst (.inl (.inl h)) (dps_of _ _ _ rs z)
      | dic _ => cases e
      | ins _ _ => cases e
  | non => exact dp_of _ _ _ r e
  | bl _ => exact dp_of _ _ _ r e
  | int _ => exact dp_of _ _ _ r e
  | str _ => exact dp_of _ _ _ r e
  | tup _ => exact dp_of _ _ _ r e
  | ty _ => exact dp_of _ _ _ r e
  | scr _ => exact dp_of _ _ _ r e
theorem dD_int {i j : Int} : decide (V.int i = V.int j) = decide (i = j) := by rw [dec_int, Bool.beq_eq_decide_eq]
theorem dD_str {i j : Str} : decide (V.str i = V.str j) = decide (i = j) := by rw [dec_str, Bool.beq_eq_decide_eq]
theorem dD_bl {i j : Bool} : decide (V.bl i = V.bl j) = decide (i = j) := by rw [dec_bl, Bool.beq_eq_decide_eq]
def strLe (a b : Str) : Bool := !decide (b.cps.toList < a.cps.toList)
section
variable {X : Cx}
/-! ### comparisons -/
/-- d == e -/
def eqC (d e : D) (S : Sto) (Q : Bool → Prop) : Prop := match d, e with
  | .int i, .int j => Q (decide (i = j))
  | .str x, .str y => Q (decide (x = y))
  | .bl x, .bl y => Q (decide (x = y))
  | d, e => ∃ p q, pyS S d = some p ∧ pyS S e = some q ∧ SeqAt.shaped p = true ∧ SeqAt.shaped q = true ∧ Q (PyData.eqv p q)
def eqW : W2 := fun d e S Q => eqC d e S fun b => Q (.bl b) S
def neW : W2 := fun d e S Q => eqC d e S fun b => Q (.bl (!b)) S
theorem opz_eq (hu : X.A.units + 64 < cLine) : OpR X (compareOp .Eq) (lift2 X.K eqW) := by
  intro pins s σ H x y v u Q I rx ry ⟨d, e, S, Q', rd, re, hs, w, f⟩
  unfold eqW eqC at w
  split at w
  · obtain rfl := rep_int.mp rd
    obtain rfl := rep_int.mp re
    refine op_eq pins s σ H _ _ v u Q I rx ry ⟨rfl, ?_⟩
    rw [dD_int]
    exact f.bl hs w
  · obtain rfl := rep_str.mp rd
    obtain rfl := rep_str.mp re
    refine op_eq pins s σ H _ _ v u Q I rx ry ⟨rfl, ?_⟩
    rw [dD_str]
    exact f.bl hs w
  · obtain rfl := rep_bl.mp rd
    obtain rfl := rep_bl.mp re
    refine op_eq pins s σ H _ _ v u Q I rx ry ⟨rfl, ?_⟩
    rw [dD_bl]
    exact f.bl hs w
  · obtain ⟨p, q, h1, h2, s1, s2, w⟩ := w
    exact op_eqD hu pins s σ H _ _ v u Q I rx ry ⟨p, q, dpS_of hs rd h1, dpS_of hs re h2, s1, s2, f.bl hs w⟩
theorem opz_ne (hu : X.A.units + 64 < cLine) : OpR X (compareOp .NotEq) (lift2 X.K neW) := by
  intro pins s σ H x y v u Q I rx ry ⟨d, e, S, Q', rd, re, hs, w, f⟩
  unfold neW eqC at w
  split at w
  · obtain rfl := rep_int.mp rd
    obtain rfl := rep_int.mp re
    refine op_ne pins s σ H _ _ v u Q I rx ry ⟨rfl, ?_⟩
    rw [dD_int]
    exact f.bl hs w
  · obtain rfl := rep_str.mp rd
    obtain rfl := rep_str.mp re
    refine op_ne pins s σ H _ _ v u Q I rx ry ⟨rfl, ?_⟩
    rw [dD_str]
    exact f.bl hs w
  · obtain rfl := rep_bl.mp rd
    obtain rfl := rep_bl.mp re
    refine op_ne pins s σ H _ _ v u Q I rx ry ⟨rfl, ?_⟩
    rw [dD_bl]
    exact f.bl hs w
  · obtain ⟨p, q, h1, h2, s1, s2, w⟩ := w
    exact op_neD hu pins s σ H _ _ v u Q I rx ry ⟨p, q, dpS_of hs rd h1, dpS_of hs re h2, s1, s2, f.bl hs w⟩
def ltC (d e : D) (Q : Bool → Prop) : Prop := match d, e with
  | .int i, .int j => Q (decide (i < j))
  | .str x, .str y => Q (!strLe y x)
  | _, _ => False
def leC (d e : D) (Q : Bool → Prop) : Prop := match d, e with
  | .int i, .int j => Q (decide (i ≤ j))
  | .str x, .str y => Q (strLe x y)
  | _, _ => False
def ltW : W2 := fun d e S Q => ltC d e fun b => Q (.bl b) S
def leW : W2 := fun d e S Q => leC d e fun b => Q (.bl b) S
def gtW : W2 := fun d e S Q => ltC e d fun b => Q (.bl b) S
def geW : W2 := fun d e S Q => leC e d fun b => Q (.bl b) S
theorem opz_lt : OpR X (compareOp .Lt) (lift2 X.K ltW) := by
  intro pins s σ H x y v u Q I rx ry ⟨d, e, S, Q', rd, re, hs, w, f⟩
  unfold ltW ltC at w
  split at w
  · obtain rfl := rep_int.mp rd
    obtain rfl := rep_int.mp re
    exact op_lt pins s σ H _ _ v u Q I rx ry ⟨_, _, rfl, rfl, f.bl hs w⟩
  · obtain rfl := rep_str.mp rd
    obtain rfl := rep_str.mp re
    refine op_lt_str pins s σ H _ _ v u Q I rx ry ⟨_, _, rfl, rfl, ?_⟩
    unfold strLe at w
    rw [Bool.not_not] at w
    exact f.bl hs w
  · exact w.elim
theorem opz_gt : OpR X (compareOp .Gt) (lift2 X.K gtW) := by
  intro pins s σ H x y v u Q I rx ry ⟨d, e, S, Q', rd, re, hs, w, f⟩
  unfold gtW ltC at w
  split at w
  · obtain rfl := rep_int.mp rd
    obtain rfl := rep_int.mp re
    exact op_gt pins s σ H _ _ v u Q I rx ry ⟨_, _, rfl, rfl, f.bl hs w⟩
  · obtain rfl := rep_str.mp rd
    obtain rfl := rep_str.mp re
    refine op_gt_str pins s σ H _ _ v u Q I rx ry ⟨_, _, rfl, rfl, ?_⟩
    unfold strLe at w
    rw [Bool.not_not] at w
    exact f.bl hs w
  · exact w.elim
theorem opz_le : OpR X (compareOp .LtE) (lift2 X.K leW) := by
  intro pins s σ H x y v u Q I rx ry ⟨d, e, S, Q', rd, re, hs, w, f⟩
  unfold leW leC at w
  split at w
  · obtain rfl := rep_int.mp rd
    obtain rfl := rep_int.mp re
    exact op_le pins s σ H _ _ v u Q I rx ry ⟨_, _, rfl, rfl, f.bl hs w⟩
  · obtain rfl := rep_str.mp rd
    obtain rfl := rep_str.mp re
    exact op_le_str pins s σ H _ _ v u Q I rx ry ⟨_, _, rfl, rfl, f.bl hs w⟩
  · exact w.elim
theorem opz_ge : OpR X (compareOp .GtE) (lift2 X.K geW) := by
  intro pins s σ H x y v u Q I rx ry ⟨d, e, S, Q', rd, re, hs, w, f⟩
  unfold geW leC at w
  split at w
  · obtain rfl := rep_int.mp rd
    obtain rfl := rep_int.mp re
    exact op_ge pins s σ H _ _ v u Q I rx ry ⟨_, _, rfl, rfl, f.bl hs w⟩
  · obtain rfl := rep_str.mp rd
    obtain rfl := rep_str.mp re
    exact op_ge_str pins s σ H _ _ v u Q I rx ry ⟨_, _, rfl, rfl, f.bl hs w⟩
  · exact w.elim
/-- d is None -/
def isC (d e : D) (Q : Bool → Prop) : Prop := match d, e with
  | .non, .non => Q true
  | _, .non => Q false
  | _, _ => False
def isW : W2 := fun d e S Q => isC d e fun b => Q (.bl b) S
def isnW : W2 := fun d e S Q => isC d e fun b => Q (.bl (!b)) S
theorem is_non {K : Frag} {H : Hp} {d : D} {v : V} (r : Rep K H d v) (h : d ≠ .non) : decide (v = .non) = false := by
  cases d with
  | non => exact absurd rfl h
  | bl b => rw [rep_bl.mp r] <;> rfl
  | int b => rw [rep_int.mp r] <;> rfl
  | str b => rw [rep_str.mp r] <;> rfl
  | ref b => rw [rep_ref.mp r] <;> rfl
  | ty b => rw [rep_ty.mp r] <;> rfl
  | scr b => obtain ⟨a, rfl, _⟩ := rep_scr.mp r; rfl
  | tup b => obtain ⟨a, xs, rfl, _⟩ := rep_tup.mp r; rfl
theorem opz_is : OpR X (compareOp .Is) (lift2 X.K isW) := by
  intro pins s σ H x y v u Q I rx ry ⟨d, e, S, Q', rd, re, hs, w, f⟩
  unfold isW isC at w
  split at w
  · obtain rfl := rep_non.mp rd
    obtain rfl := rep_non.mp re
    exact op_isN pins s σ H _ _ v u Q I rx ry ⟨rfl, f.bl hs w⟩
  · rename_i h
    obtain rfl := rep_non.mp re
    refine op_isN pins s σ H _ _ v u Q I rx ry ⟨rfl, ?_⟩
    rw [is_non rd fun z => h z]
    exact f.bl hs w
  · exact w.elim
theorem opz_isn : OpR X (compareOp .IsNot) (lift2 X.K isnW) := by
  intro pins s σ H x y v u Q I rx ry ⟨d, e, S, Q', rd, re, hs, w, f⟩
  unfold isnW isC at w
  split at w
  · obtain rfl := rep_non.mp rd
    obtain rfl := rep_non.mp re
    exact op_notN pins s σ H _ _ v u Q I rx ry ⟨rfl, f.bl hs w⟩
  · rename_i h
    obtain rfl := rep_non.mp re
    refine op_notN pins s σ H _ _ v u Q I rx ry ⟨rfl, ?_⟩
    rw [is_non rd fun z => h z]
    exact f.bl hs w
  · exact w.elim
end
end Z

/-! ### Z4 -/
/-! Z4: in, truth, subscripts, slices, stores. -/
namespace Z
open PySem PySem.Spec PyProof.Rows L2
/-! ### dicts over deep data -/
section
variable {κ : Type} [DecidableEq κ]
def getD (kvs : List (κ × D)) (k : κ) : Option D := (kvs.find? fun kv => decide (kv.1 = k)).map (·.2)
def putD (kvs : List (κ × D)) (k : κ) (v : D) : List (κ × D) :=
  if (kvs.any fun kv => decide (kv.1 = k)) = true then kvs.map (fun kv => if kv.1 = k then (kv.1, v) else kv) else kvs ++ [(k, v)]
theorem getD_nil {k : κ} : getD ([] : List (κ × D)) k = none := rfl
theorem getD_pos {p : κ × D} {r : List (κ × D)} {k : κ} (e : p.1 = k) : getD (p :: r) k = some p.2 := by simp [getD, List.find?_cons, e]
theorem getD_neg {p : κ × D} {r : List (κ × D)} {k : κ} (e : ¬ p.1 = k) : getD (p :: r) k = getD r k := by simp [getD, List.find?_cons, e]
def RelOD (K : Frag) (H : Hp) : Option D → Option V → Prop
  | some d, some v => Rep K H d v
  | none, none => True
  | _, _ => False
theorem RepKV.val {K : Frag} {H : Hp} {kvs : List (κ × D)} {vs : List (κ × V)} (r : RepKV K H kvs vs) (k : κ) : RelOD K H (getD kvs k) (valV vs k) := by
  unfold RepKV at r
  induction r with
  | nil => exact True.intro
  | @cons p q ps qs h t ih =>
    obtain ⟨h1, h2⟩ := h
    by_cases e : p.1 = k
    · rw [getD_pos e, valV_pos (h1.symm.trans e)]; exact h2
    · rw [getD_neg e, valV_neg (fun z => e (h1.trans z))]; exact ih
theorem RepKV.any {K : Frag} {H : Hp} {kvs : List (κ × D)} {vs : List (κ × V)} (r : RepKV K H kvs vs) (k : κ) : (kvs.any fun kv => decide (kv.1 = k)) = vs.any fun kv => decide (kv.1 = k) := by
  unfold RepKV at r
  induction r with
  | nil => rfl
  | cons h t ih => rw [List.any_cons, List.any_cons, ih, h.1]
theorem RepKV.put {K : Frag} {H : Hp} {kvs : List (κ × D)} {vs : List (κ × V)} (r : RepKV K H kvs vs) (k : κ) {y : D} {u : V} (ry : Rep K H y u) : RepKV K H (putD kvs k y) (putK vs k u) := by
  unfold putD putK
  rw [r.any k]
  by_cases e : (vs.any fun kv => decide (kv.1 = k)) = true
  · rw [if_pos e, if_pos e]
    unfold RepKV at r ⊢
    clear e
    induction r with
    | nil => exact .nil
    | @cons p q ps qs h t ih =>
      rw [List.map_cons, List.map_cons]
      refine .cons ?_ ih
      obtain ⟨h1, h2⟩ := h
      by_cases e : p.1 = k
      · rw [if_pos e, if_pos (h1.symm.trans e)]; exact ⟨h1, ry⟩
      · rw [if_neg e, if_neg (fun z => e (h1.trans z))]; exact ⟨h1, h2⟩
  · rw [if_neg e, if_neg e]; exact Paired.snoc r ⟨rfl, ry⟩
theorem RepKV.length {K : Frag} {H : Hp} {kvs : List (κ × D)} {vs : List (κ × V)} (r : RepKV K H kvs vs) : vs.length = kvs.length := (Paired.length r).symm
theorem RepKV.keys {K : Frag} {H : Hp} {kvs : List (κ × D)} {vs : List (κ × V)} (r : RepKV K H kvs vs) : kvs.map (·.1) = vs.map (·.1) := by
  unfold RepKV at r
  induction r with
  | nil => rfl
  | cons h t ih => rw [List.map_cons, List.map_cons, ih, h.1]
end
def keyOf : D → Option Key
  | .int i => some (.inl i)
  | .str x => some (.inr x)
  | _ => none
theorem keyOf_eq {K : Frag} {H : Hp} {d : D} {k : Key} {v : V} (h : keyOf d = some k) (r : Rep K H d v) : v = kV k := by
  cases d with
  | int i => cases h; exact rep_int.mp r
  | str i => cases h; exact rep_str.mp r
  | _ => cases h
/-! ### flat values -/
def D.flat : D → Bool
  | .non => true | .bl _ => true | .int _ => true | .str _ => true
  | _ => false
def eqF : D → D → Bool
  | .non, .non => true
  | .bl a, .bl b => a == b
  | .bl a, .int b => (if a then 1 else 0) == b
  | .int a, .bl b => a == (if b then 1 else 0)
  | .int a, .int b => decide (a = b)
  | .str a, .str b => decide (a = b)
  | _, _ => false
def inF (d : D) (ds : List D) : Bool := ds.any fun e => eqF e d
theorem flat_rep {K : Frag} {H : Hp} {d : D} {v : V} (h : d.flat = true) (r : Rep K H d v) : flatV v = true := by
  cases d with
  | non => rw [rep_non.mp r] <;> rfl
  | bl b => rw [rep_bl.mp r] <;> rfl
  | int b => rw [rep_int.mp r] <;> rfl
  | str b => rw [rep_str.mp r] <;> rfl
  | _ => cases h
theorem eqF_rep {K : Frag} {H : Hp} {d e : D} {v u : V} (hd : d.flat = true) (he : e.flat = true) (r : Rep K H d v) (q : Rep K H e u) : eqV v u = eqF d e := by
  cases d with
  | non => rw [rep_non.mp r]; cases e with
    | non => rw [rep_non.mp q] <;> rfl
    | bl b => rw [rep_bl.mp q] <;> rfl
    | int b => rw [rep_int.mp q] <;> rfl
    | str b => rw [rep_str.mp q] <;> rfl
    | _ => cases he
  | bl b => rw [rep_bl.mp r]; cases e with
    | non => rw [rep_non.mp q] <;> rfl
    | bl b => rw [rep_bl.mp q] <;> rfl
    | int b => rw [rep_int.mp q] <;> rfl
    | str b => rw [rep_str.mp q] <;> rfl
    | _ => cases he
  | int b => rw [rep_int.mp r]; cases e with
    | non => rw [rep_non.mp q] <;> rfl
    | bl b => rw [rep_bl.mp q] <;> rfl
    | int c => rw [rep_int.mp q]; unfold eqV eqF; exact Bool.beq_eq_decide_eq _ _
    | str b => rw [rep_str.mp q] <;> rfl
    | _ => cases he
  | str b => rw [rep_str.mp r]; cases e with
    | non => rw [rep_non.mp q] <;> rfl
    | bl b => rw [rep_bl.mp q] <;> rfl
    | int b => rw [rep_int.mp q] <;> rfl
    | str c => rw [rep_str.mp q]; unfold eqV eqF; exact Bool.beq_eq_decide_eq _ _
    | _ => cases he
  | _ => cases hd
theorem flats_rep {K : Frag} {H : Hp} : ∀ {ds : List D} {xs : List V}, ds.all D.flat = true → Reps K H ds xs → xs.all flatV = true
  | [], xs, h, r => by rw [reps_nil.mp r] <;> rfl
  | d :: ds, xs, h, r => by
    obtain ⟨v, vs, rfl, q, rs⟩ := reps_cons.mp r
    rw [List.all_cons, Bool.and_eq_true] at h ⊢
    exact ⟨flat_rep h.1 q, flats_rep h.2 rs⟩
theorem inF_rep {K : Frag} {H : Hp} {d : D} {v : V} (hd : d.flat = true) (r : Rep K H d v) : ∀ {ds : List D} {xs : List V}, ds.all D.flat = true → Reps K H ds xs → inV v xs = inF d ds
  | [], xs, h, q => by rw [reps_nil.mp q] <;> rfl
  | e :: ds, xs, h, q => by
    obtain ⟨u, vs, rfl, q1, rs⟩ := reps_cons.mp q
    rw [List.all_cons, Bool.and_eq_true] at h
    have ih := inF_rep hd r h.2 rs
    unfold inV inF at ih ⊢
    rw [List.any_cons, List.any_cons, ih, eqF_rep h.1 hd q1 r]
def strIn (x y : Str) : Bool := !(Builtin.Str.occurrences y x 0 y.length 1).isEmpty
def inL (d : D) (ds : List D) (Q : Bool → Prop) : Prop := (d.flat = true ∧ ds.all D.flat = true ∧ Q (inF d ds)) ∨
  ∃ p ps, pyD d = some p ∧ pyDs ds = some ps ∧ SeqAt.shaped p = true ∧ SeqAt.shaped (.list ps) = true ∧ Q (ps.any fun z => PyData.eqv z p)
def inC (d e : D) (S : Sto) (Q : Bool → Prop) : Prop := match e with
  | .str y => match d with
    | .str x => Q (strIn x y)
    | _ => False
  | .tup ds => d.flat = true ∧ ds.all D.flat = true ∧ Q (inF d ds)
  | .ref a => match S a with
    | some (.lst ds) => inL d ds Q
    | some (.dic kvs) => match keyOf d with
      | some k => Q (getD kvs k).isSome
      | none => False
    | _ => False
  | _ => False
def inW : W2 := fun d e S Q => inC d e S fun b => Q (.bl b) S
def ninW : W2 := fun d e S Q => inC d e S fun b => Q (.bl (!b)) S
theorem RelOD.isSome {K : Frag} {H : Hp} {o : Option D} {u : Option V} (r : RelOD K H o u) : u.isSome = o.isSome := by
  cases o <;> cases u <;> first | rfl | exact r.elim
section
variable {X : Cx}
theorem opz_in (hu : X.A.units + 65 < cLine) : OpR X (compareOp .In) (lift2 X.K inW) := by
  intro pins s σ H x y v u Q I rx ry ⟨d, e, S, Q', rd, re, hs, w, f⟩
  unfold inW inC at w
  have list : ∀ {a : Addr} {ds : List D} {xs : List V}, y = .ref a → SqL X.K H a xs → Reps X.K H ds xs → inL d ds (fun b => Q' (.bl b) S) → wpAny (model X.prog X.w) X.A (compareOp .In v u) (EP X pins σ Q) X.xe s := fun {a ds xs} ey hl hr w => by
    rcases w with ⟨h1, h2, w⟩ | ⟨p, ps, h1, h2, h3, h4, w⟩
    · refine op_in_seq pins s σ H x y v u Q I rx ry ⟨a, xs, ey, .inl hl, flat_rep h1 rd, flats_rep h2 hr, ?_⟩
      rw [if_neg Bool.false_ne_true, inF_rep h1 rd h2 hr]
      exact f.bl hs w
    · subst ey
      exact op_inD hu pins s σ H x _ v u Q I rx ry ⟨p, ps, dp_of _ _ _ rd h1, .lst hl (dps_of _ _ _ hr h2), h3, h4, f.bl hs w⟩
  split at w
  · split at w
    · obtain rfl := rep_str.mp rd
      obtain rfl := rep_str.mp re
      exact op_in_str pins s σ H _ _ v u Q I rx ry ⟨_, _, rfl, rfl, f.bl hs w⟩
    · exact w.elim
  · obtain ⟨a, xs, rfl, t, hr⟩ := rep_tup.mp re
    obtain ⟨h1, h2, w⟩ := w
    refine op_in_seq pins s σ H x _ v u Q I rx ry ⟨a, xs, rfl, .inr t, flat_rep h1 rd, flats_rep h2 hr, ?_⟩
    rw [if_neg Bool.false_ne_true, inF_rep h1 rd h2 hr]
    exact f.bl hs w
  · obtain rfl := rep_ref.mp re
    split at w
    · rename_i ha
      obtain ⟨xs, h, hr⟩ := hs _ _ ha
      exact list rfl (.inl (.inl h)) hr w
    · rename_i ha
      obtain ⟨xs, h, hr⟩ := hs _ _ ha
      split at w
      · rename_i k hk
        obtain rfl := keyOf_eq hk rd
        cases ry
        refine d_in (by omega) I (.k h) rx fun s2 I2 => ?_
        rw [(hr.val k).isSome]
        exact ⟨.bl _, H, I2, rfl, f.bl hs w⟩
      · exact w.elim
    · exact w.elim
  · exact w.elim
theorem opz_nin (hu : X.A.units + 65 < cLine) : OpR X (compareOp .NotIn) (lift2 X.K ninW) := by
  intro pins s σ H x y v u Q I rx ry ⟨d, e, S, Q', rd, re, hs, w, f⟩
  unfold ninW inC at w
  have list : ∀ {a : Addr} {ds : List D} {xs : List V}, y = .ref a → SqL X.K H a xs → Reps X.K H ds xs → inL d ds (fun b => Q' (.bl (!b)) S) → wpAny (model X.prog X.w) X.A (compareOp .NotIn v u) (EP X pins σ Q) X.xe s := fun {a ds xs} ey hl hr w => by
    rcases w with ⟨h1, h2, w⟩ | ⟨p, ps, h1, h2, h3, h4, w⟩
    · refine op_notIn_seq pins s σ H x y v u Q I rx ry ⟨a, xs, ey, .inl hl, flat_rep h1 rd, flats_rep h2 hr, ?_⟩
      rw [if_pos rfl, inF_rep h1 rd h2 hr]
      exact f.bl hs w
    · subst ey
      exact op_notInD hu pins s σ H x _ v u Q I rx ry ⟨p, ps, dp_of _ _ _ rd h1, .lst hl (dps_of _ _ _ hr h2), h3, h4, f.bl hs w⟩
  split at w
  · split at w
    · obtain rfl := rep_str.mp rd
      obtain rfl := rep_str.mp re
      exact op_notIn_str pins s σ H _ _ v u Q I rx ry ⟨_, _, rfl, rfl, f.bl hs w⟩
    · exact w.elim
  · obtain ⟨a, xs, rfl, t, hr⟩ := rep_tup.mp re
    obtain ⟨h1, h2, w⟩ := w
    refine op_notIn_seq pins s σ H x _ v u Q I rx ry ⟨a, xs, rfl, .inr t, flat_rep h1 rd, flats_rep h2 hr, ?_⟩
    rw [if_pos rfl, inF_rep h1 rd h2 hr]
    exact f.bl hs w
  · obtain rfl := rep_ref.mp re
    split at w
    · rename_i ha
      obtain ⟨xs, h, hr⟩ := hs _ _ ha
      exact list rfl (.inl (.inl h)) hr w
    · rename_i ha
      obtain ⟨xs, h, hr⟩ := hs _ _ ha
      split at w
      · rename_i k hk
        obtain rfl := keyOf_eq hk rd
        cases ry
        refine d_notIn (by omega) I (.k h) rx fun s2 I2 => ?_
        rw [(hr.val k).isSome]
        exact ⟨.bl _, H, I2, rfl, f.bl hs w⟩
      · exact w.elim
    · exact w.elim
  · exact w.elim
/-! ### truth -/
def truC (d : D) (S : Sto) (Q : Bool → Prop) : Prop := match d with
  | .non => Q false
  | .bl b => Q b
  | .int i => Q (decide (i ≠ 0))
  | .str x => x.length ≤ sizeLine ∧ Q (decide (x.length ≠ 0))
  | .tup ds => Q (!ds.isEmpty)
  | .ref a => match S a with
    | some (.lst ds) => Q (!ds.isEmpty)
    | some (.dic kvs) => Q (!kvs.isEmpty)
    | _ => False
  | .ty _ => False
  | .scr _ => False
theorem Reps.isEmpty {K : Frag} {H : Hp} {ds : List D} {xs : List V} (r : Reps K H ds xs) : xs.isEmpty = ds.isEmpty := by
  cases ds with
  | nil => rw [reps_nil.mp r] <;> rfl
  | cons d ds => obtain ⟨v, vs, rfl, _⟩ := reps_cons.mp r; rfl
theorem RepKV.isEmpty {κ : Type} {K : Frag} {H : Hp} {kvs : List (κ × D)} {vs : List (κ × V)} (r : RepKV K H kvs vs) : vs.isEmpty = kvs.isEmpty := by cases r <;> rfl
theorem truZ {K : Frag} {H : Hp} {S : Sto} (hs : StR K H S) {d : D} {v : V} (r : Rep K H d v) {Q : Bool → Prop} (w : truC d S Q) : ∃ k, TruV K v H k ∧ Q k := by
  cases d with
  | non => rw [rep_non.mp r]; exact ⟨_, rfl, w⟩
  | bl b => rw [rep_bl.mp r]; exact ⟨_, rfl, w⟩
  | int i =>
    rw [rep_int.mp r]
    refine ⟨_, rfl, ?_⟩
    have e : (i != 0) = decide (i ≠ 0) := by
      by_cases h : i = 0
      · subst h; rfl
      · simp [h]
    rw [e]; exact w
  | str x =>
    rw [rep_str.mp r]
    refine ⟨_, ⟨w.1, rfl⟩, ?_⟩
    have e : ((x.length : Int) != 0) = decide (x.length ≠ 0) := by
      by_cases h : x.length = 0
      · rw [h]; rfl
      · have : (x.length : Int) ≠ 0 := by omega
        simp [h, this]
    rw [e]; exact w.2
  | tup ds =>
    obtain ⟨a, xs, rfl, t, rs⟩ := rep_tup.mp r
    exact ⟨_, .inr (.inl ⟨xs, t, rfl⟩), by rw [rs.isEmpty]; exact w⟩
  | ref a =>
    rw [rep_ref.mp r]
    simp only [truC] at w
    split at w
    · rename_i ha
      obtain ⟨xs, h, hr⟩ := hs _ _ ha
      exact ⟨_, .inl ⟨xs, .inl (.inl h), rfl⟩, by rw [hr.isEmpty]; exact w⟩
    · rename_i ha
      obtain ⟨xs, h, hr⟩ := hs _ _ ha
      exact ⟨_, .inr (.inr ⟨xs, h, rfl⟩), by rw [hr.isEmpty]; exact w⟩
    · exact w.elim
  | ty _ => exact w.elim
  | scr _ => exact w.elim
/-! ### a[i] -/
def ixL (ds : List D) (i : D) (Q : D → Prop) : Prop := match i with
  | .int i => match atI ds i with
    | some d => Q d
    | none => False
  | _ => False
def ixC (d i : D) (S : Sto) (Q : D → Prop) : Prop := match d with
  | .tup ds => ixL ds i Q
  | .str x => match i with
    | .int i => x.length ≤ sizeLine ∧ match atI x.cps.toList i with
      | some c => Q (.str ⟨#[c]⟩)
      | none => False
    | _ => False
  | .ref a => match S a with
    | some (.lst ds) => ixL ds i Q
    | some (.dic kvs) => match keyOf i with
      | some k => match getD kvs k with
        | some d => Q d
        | none => False
      | none => False
    | _ => False
  | _ => False
def ixW : W2 := fun d i S Q => ixC d i S fun d => Q d S
theorem Reps.at {K : Frag} {H : Hp} {ds : List D} {xs : List V} (r : Reps K H ds xs) {i : Int} {d : D} (h : atI ds i = some d) : ∃ v, atI xs i = some v ∧ Rep K H d v := by
  unfold atI at h ⊢
  rw [r.length]
  cases e : ixN ds.length i with
  | none => rw [e] at h; cases h
  | some j =>
    rw [e] at h
    exact r.get h
theorem ixL_ok {K : Frag} {H : Hp} {ds : List D} {xs : List V} {i : D} {y : V} {Q : D → Prop} (r : Reps K H ds xs) (ri : Rep K H i y) (w : ixL ds i Q) : ∃ k d v, y = .int k ∧ atI xs k = some v ∧ Rep K H d v ∧ Q d := by
  unfold ixL at w
  split at w
  · split at w
    · rename_i h
      obtain ⟨v, hv, rv⟩ := r.at h
      exact ⟨_, _, v, rep_int.mp ri, hv, rv, w⟩
    · exact w.elim
  · exact w.elim
theorem sub_tail {prog : Program} {w : World} {A : Around} {E : Value → Shared → Prop} {s : Shared} {value slice : Expr} {T id : String} {o i : Value} {Q : Value → Shared → Prop}
    (hl : typeLookup (.type T) "__getitem__" = pure (some (.builtin id))) (hT : s.TypeIs o T) (hs : subscripted slice false o i = operate [o, i] (getItem o i))
    (h : wpAny (model prog w) A (getItem o i) Q E s) : wpAny (model prog w) A (subscriptTail value slice o i) Q E s := by
  unfold subscriptTail
  refine wpAny_bind ?_
  rw [getitemInPython_of_ne hT.not_modules]
  refine wpAny_bind (wpAny_specialOf hT hl ?_)
  have fin : wpAny (model prog w) A (subscripted slice false o i) (fun r s₃ => wpAny (model prog w) A (letTemporaryGo value o r >>= fun _ => pure r) Q E s₃) E s := by
    rw [hs]
    exact wpAny_operating (wpAny_mono h (fun r s₃ h₃ => wpAny_bind (wpAny_letTemporaryGo (wpAny_pure h₃))) fun _ _ x => x)
  first
    | exact wpAny_pure (wpAny_bind fin)
    | exact wpAny_bind (wpAny_pure (wpAny_bind fin))
    | exact wpAny_bind fin
theorem ixz (hu : X.A.units + 1 < cLine) : IxR X (lift2 X.K ixW) := by
  intro value slice pins s σ H x y v u Q I rx ry ⟨d, e, S, Q', rd, re, hs, w, f⟩ hsl
  unfold ixW ixC at w
  split at w
  · obtain ⟨a, xs, rfl, t, hr⟩ := rep_tup.mp rd
    obtain ⟨k, d, z, rfl, h1, h2, w⟩ := ixL_ok hr re w
    exact ix_tup value slice pins s σ H _ _ v u Q I rx ry ⟨a, xs, k, z, rfl, rfl, t, h1, f.val hs h2 w⟩ hsl
  · split at w
    · obtain rfl := rep_str.mp rd
      obtain rfl := rep_int.mp re
      obtain ⟨h1, w⟩ := w
      split at w
      · rename_i h
        exact ix_str value slice pins s σ H _ _ v u Q I rx ry ⟨_, _, _, rfl, rfl, h1, h, f.str hs w⟩ hsl
      · exact w.elim
    · exact w.elim
  · obtain rfl := rep_ref.mp rd
    split at w
    · rename_i ha
      obtain ⟨xs, h, hr⟩ := hs _ _ ha
      obtain ⟨k, d, z, rfl, h1, h2, w⟩ := ixL_ok hr re w
      exact ix_list value slice pins s σ H _ _ v u Q I rx ry ⟨_, xs, k, z, rfl, rfl, .inl (.inl h), h1, f.val hs h2 w⟩ hsl
    · rename_i ha
      obtain ⟨xs, h, hr⟩ := hs _ _ ha
      split at w
      · rename_i k hk
        obtain rfl := keyOf_eq hk re
        split at w
        · rename_i dv hd
          have rv := hr.val k
          rw [hd] at rv
          cases hv : valV xs k with
          | none => rw [hv] at rv; exact rv.elim
          | some z =>
            rw [hv] at rv
            cases rx
            have g := DGet.k (k := k) h
            rw [hv] at g
            refine sub_tail (T := "dict") PySem.F.slot_dict_getitem.lookup (dict_typeIs I g) hsl (d_getItem hu I g ry fun w' s3 I3 rw' => ⟨z, H, I3, rw', f.val hs rv w⟩)
        · exact w.elim
      · exact w.elim
    · exact w.elim
  · exact w.elim
end
end Z

/-! ### Z5 -/
/-! Z5: slices, stores, built-in calls and methods. -/
namespace Z
open PySem PySem.Spec PyProof.Rows L2
/-! ### slices -/
def cutG {α : Type} (xs : List α) (lo hi : Option Int) : List α := (xs.drop (HT.sIx xs.length 0 lo)).take (HT.sIx xs.length xs.length hi - HT.sIx xs.length 0 lo)
def slC (d : D) (lo hi : Option Int) (S : Sto) (Q : PK D) : Prop := match d with
  | .tup ds => Q (.tup (cutG ds lo hi)) S
  | .str x => x.length ≤ sizeLine ∧ Q (.str (cutS x lo hi)) S
  | .ref a => match S a with
    | some (.lst ds) => ∀ p, S p = none → Q (.ref p) (up S p (.lst (cutG ds lo hi)))
    | _ => False
  | _ => False
def liftSl (K : Frag) (W : D → Option Int → Option Int → Sto → PK D → Prop) : V → Option Int → Option Int → Hp → VK → Prop := fun x lo hi H Q => ∃ d S Q', Rep K H d x ∧ StR K H S ∧ W d lo hi S Q' ∧ Fin K H S Q' Q
theorem Reps.cut {K : Frag} {H : Hp} {ds : List D} {xs : List V} (r : Reps K H ds xs) (lo hi : Option Int) : Reps K H (cutG ds lo hi) (cutV xs lo hi) := by
  unfold cutG cutV
  rw [r.length]
  exact (r.drop _).take _
theorem cut_whole {α : Type} (xs : List α) (lo hi : Option Int) (h1 : HT.sIx xs.length 0 lo = 0) (h2 : HT.sIx xs.length xs.length hi = xs.length) : cutG xs lo hi = xs := by
  unfold cutG
  rw [h1, h2]
  simp
section
variable {X : Cx}
theorem slz : SlR X (liftSl X.K slC) := by
  intro pins s σ H x v vl vu lo hi sl Q I rx hsl pl pu ⟨d, S, Q', rd, hs, w, f⟩
  unfold slC at w
  split at w
  · rename_i ds
    obtain ⟨a, xs, rfl, t, hr⟩ := rep_tup.mp rd
    refine sl_tupA pins s σ H _ v vl vu lo hi sl Q I rx hsl pl pu ⟨a, xs, rfl, t, fun h => ?_, fun _ p hp => f.tup hs (hr.cut lo hi) w hp⟩
    rw [hr.length] at h
    rw [cut_whole ds lo hi h.1 h.2] at w
    exact f.val hs rd w
  · obtain rfl := rep_str.mp rd
    exact sl_str pins s σ H _ v vl vu lo hi sl Q I rx hsl pl pu ⟨_, rfl, w.1, f.str hs w.2⟩
  · obtain rfl := rep_ref.mp rd
    split at w
    · rename_i ha
      obtain ⟨xs, h, hr⟩ := hs _ _ ha
      exact sl_list pins s σ H _ v vl vu lo hi sl Q I rx hsl pl pu ⟨_, xs, rfl, .inl (.inl h), fun p hp => f.lst hs (hr.cut lo hi) w hp⟩
    · exact w.elim
  · exact w.elim
end
/-! ### o[i] = v -/
def setC (o i v : D) (S : Sto) (Q : Sto → Prop) : Prop := match o with
  | .ref a => match S a with
    | some (.lst ds) => match i with
      | .int k => match ixN ds.length k with
        | some j => Q (up S a (.lst (ds.set j v)))
        | none => False
      | _ => False
    | some (.dic kvs) => match keyOf i with
      | some k => kvs.length < sizeLine ∧ Q (up S a (.dic (putD kvs k v)))
      | none => False
    | _ => False
  | _ => False
def FinS (K : Frag) (H : Hp) (S : Sto) (Q' : Sto → Prop) (Q : Hp → Prop) : Prop := ∀ H1 S1, Ext H S H1 S1 → StR K H1 S1 → Q' S1 → Q H1
def liftSet (K : Frag) (W : D → D → D → Sto → (Sto → Prop) → Prop) : V → V → V → Hp → (Hp → Prop) → Prop := fun o i v H Q => ∃ d e f S Q', Rep K H d o ∧ Rep K H e i ∧ Rep K H f v ∧ StR K H S ∧ W d e f S Q' ∧ FinS K H S Q' Q
theorem FinS.set {K : Frag} {H : Hp} {S : Sto} {Q' : Sto → Prop} {Q : Hp → Prop} (f : FinS K H S Q' Q) (s : StR K H S) {o : HO} {u o' : O} {p : Addr} (h : S p = some o') (r : RepO K (upd H p o) p u) (q : Q' (up S p u)) : Q (upd H p o) :=
  f _ _ (ext_setUp h) (s.setUp h r) q
section
variable {X : Cx}
theorem setz (hu : X.A.units + 1 < cLine) : PSet X (liftSet X.K setC) := by
  intro pins s σ H o i v ov iv u Q I ro ri rv ⟨d, e, g, S, Q', rd, re, rg, hs, w, f⟩
  unfold setC at w
  split at w
  · obtain rfl := rep_ref.mp rd
    split at w
    · rename_i ha
      obtain ⟨xs, h, hr⟩ := hs _ _ ha
      split at w
      · obtain rfl := rep_int.mp re
        split at w
        · rename_i j hj
          refine set_list pins s σ H _ _ v ov iv u Q I ro ri rv ⟨_, xs, _, j, rfl, rfl, h, by rw [hr.length]; exact hj, ?_⟩
          exact f.set (u := .lst _) hs ha ⟨_, upd_same, Reps.set (Rep.mono (tupLe_set hs ha) _ _ rg) j (Reps.mono (tupLe_set hs ha) _ _ hr)⟩ w
        · exact w.elim
      · exact w.elim
    · rename_i ha
      obtain ⟨xs, h, hr⟩ := hs _ _ ha
      split at w
      · rename_i k hk
        obtain rfl := keyOf_eq hk re
        cases ro
        refine d_setItem hu I (.k h (by rw [hr.length]; exact w.1)) ri rv fun s2 I2 => ⟨_, I2, ?_⟩
        exact f.set (u := .dic _) hs ha ⟨_, upd_same, RepKV.put (hr.mono (tupLe_set hs ha)) k (Rep.mono (tupLe_set hs ha) _ _ rg)⟩ w.2
      · exact w.elim
    · exact w.elim
  · exact w.elim
end
/-! ### lists of one kind -/
def intsOf : List D → Option (List Int)
  | [] => some []
  | .int i :: r => (intsOf r).map (i :: ·)
  | _ :: _ => none
def strsOf : List D → Option (List Str)
  | [] => some []
  | .str i :: r => (strsOf r).map (i :: ·)
  | _ :: _ => none
def blsOf : List D → Option (List Bool)
  | [] => some []
  | .bl i :: r => (blsOf r).map (i :: ·)
  | _ :: _ => none
theorem intsOf_map : ∀ ns : List Int, intsOf (ns.map D.int) = some ns
  | [] => rfl
  | n :: ns => by rw [List.map_cons, intsOf, intsOf_map ns] <;> rfl
theorem strsOf_map : ∀ ns : List Str, strsOf (ns.map D.str) = some ns
  | [] => rfl
  | n :: ns => by rw [List.map_cons, strsOf, strsOf_map ns] <;> rfl
theorem blsOf_map : ∀ ns : List Bool, blsOf (ns.map D.bl) = some ns
  | [] => rfl
  | n :: ns => by rw [List.map_cons, blsOf, blsOf_map ns] <;> rfl
theorem intsOf_eq : ∀ {ds : List D} {ns : List Int}, intsOf ds = some ns → ds = ns.map D.int
  | [], ns, h => by unfold intsOf at h; cases h; rfl
  | d :: ds, ns, h => by
    cases d with
    | int i =>
      unfold intsOf at h
      cases e : intsOf ds with
      | none => rw [e] at h; cases h
      | some r => rw [e] at h; cases h; rw [intsOf_eq e] <;> rfl
    | _ => cases h
theorem strsOf_eq : ∀ {ds : List D} {ns : List Str}, strsOf ds = some ns → ds = ns.map D.str
  | [], ns, h => by unfold strsOf at h; cases h; rfl
  | d :: ds, ns, h => by
    cases d with
    | str i =>
      unfold strsOf at h
      cases e : strsOf ds with
      | none => rw [e] at h; cases h
      | some r => rw [e] at h; cases h; rw [strsOf_eq e] <;> rfl
    | _ => cases h
theorem blsOf_eq : ∀ {ds : List D} {ns : List Bool}, blsOf ds = some ns → ds = ns.map D.bl
  | [], ns, h => by unfold blsOf at h; cases h; rfl
  | d :: ds, ns, h => by
    cases d with
    | bl i =>
      unfold blsOf at h
      cases e : blsOf ds with
      | none => rw [e] at h; cases h
      | some r => rw [e] at h; cases h; rw [blsOf_eq e] <;> rfl
    | _ => cases h
/-- the items of a list in the store -/
def itemsL (S : Sto) : D → Option (List D)
  | .ref a => match S a with
    | some (.lst ds) => some ds
    | _ => none
  | .scr ns => some (ns.map D.int)
  | _ => none
theorem itemsL_ok {K : Frag} {H : Hp} {S : Sto} (hs : StR K H S) {d : D} {v : V} {ds : List D} (r : Rep K H d v) (h : itemsL S d = some ds) : ∃ a xs, v = .ref a ∧ SqL K H a xs ∧ Reps K H ds xs := by
  cases d with
  | ref a =>
    simp only [itemsL] at h
    split at h
    · rename_i ha
      cases h
      obtain ⟨xs, h, hr⟩ := hs _ _ ha
      exact ⟨a, xs, rep_ref.mp r, .inl (.inl h), hr⟩
    · cases h
  | scr ns =>
    cases h
    obtain ⟨a, rfl, q⟩ := rep_scr.mp r
    exact ⟨a, _, rfl, q.sq, Reps.ints.mpr rfl⟩
  | _ => cases h
/-! ### sorted texts -/
def sortStr (ks : List Str) : List Str := ks.mergeSort strLe
theorem str_ext {a b : Str} (h : a.cps.toList = b.cps.toList) : a = b := by
  cases a; cases b
  have : _ := Array.toList_inj.mp h
  simp only at this
  rw [this]
theorem strLe_refl (a : Str) : strLe a a = true := by unfold strLe; simp
theorem strLe_total (a b : Str) : (strLe a b || strLe b a) = true := by
  unfold strLe
  by_cases h : b.cps.toList < a.cps.toList
  · have : ¬ a.cps.toList < b.cps.toList := fun h2 => List.lt_irrefl _ (List.lt_trans h h2)
    simp [h, this]
  · simp [h]
theorem strLe_iff {a b : Str} : strLe a b = true ↔ a.cps.toList ≤ b.cps.toList := by
  unfold strLe
  rw [Bool.not_eq_true', decide_eq_false_iff_not]
  exact List.not_lt
theorem strLe_trans (a b c : Str) (h1 : strLe a b = true) (h2 : strLe b c = true) : strLe a c = true := strLe_iff.mpr (List.le_trans (strLe_iff.mp h1) (strLe_iff.mp h2))
theorem strLe_anti {a b : Str} (h1 : strLe a b = true) (h2 : strLe b a = true) : a = b := str_ext (List.le_antisymm (strLe_iff.mp h1) (strLe_iff.mp h2))
theorem sortStr_perm (ks : List Str) : (sortStr ks).Perm ks := List.mergeSort_perm _ _
theorem sortStr_sorted (ks : List Str) : (sortStr ks).Pairwise fun a b => strLe a b = true := List.pairwise_mergeSort strLe_trans strLe_total ks
theorem rising_pairwise : ∀ (x : Str) (r : List Str), risingS x r = true → (x :: r).Pairwise fun a b => strLe a b = true
  | x, [], _ => by simp
  | x, y :: r, h => by
    unfold risingS at h
    rw [Bool.and_eq_true] at h
    have ih := rising_pairwise y r h.2
    have hxy : strLe x y = true := by
      unfold strLe
      rw [PyProof.Rows.le_meets]
      exact h.1
    refine List.pairwise_cons.mpr ⟨fun z hz => ?_, ih⟩
    rcases List.mem_cons.mp hz with rfl | hz
    · exact hxy
    · exact strLe_trans _ _ _ hxy ((List.pairwise_cons.mp ih).1 z hz)
theorem sortedS_pairwise {ys : List Str} (h : sortedS ys = true) : ys.Pairwise fun a b => strLe a b = true := by
  cases ys with
  | nil => exact .nil
  | cons x r => exact rising_pairwise x r h
theorem sortStr_unique {ys ks : List Str} (p : ys.Perm ks) (h : sortedS ys = true) : ys = sortStr ks :=
  List.Perm.eq_of_pairwise (fun a b _ _ => strLe_anti) (sortedS_pairwise h) (sortStr_sorted ks) (p.trans (sortStr_perm ks).symm)
def intLe (a b : Int) : Bool := decide (a ≤ b)
def sortInt (ks : List Int) : List Int := ks.mergeSort intLe
theorem sortInt_unique {ys ks : List Int} (p : ys.Perm ks) (h : ys.Pairwise (· ≤ ·)) : ys = sortInt ks :=
  List.Perm.eq_of_pairwise (le := fun a b => a ≤ b) (fun a b _ _ => Int.le_antisymm) h (((List.pairwise_mergeSort (le := intLe) (fun a b c h1 h2 => decide_eq_true (Int.le_trans (of_decide_eq_true h1) (of_decide_eq_true h2)))
    (fun a b => by unfold intLe; rcases Int.le_total a b with h | h <;> simp [h]) ks)).imp of_decide_eq_true) (p.trans (List.mergeSort_perm _ _).symm)
/-! ### built-in calls -/
inductive BF where
  | len | abs | max | min | sum | sorted | all | any | isinstance | str | int | tuple | list | dict
def BF.name : BF → Str
  | .len => "len" | .abs => "abs" | .max => "max" | .min => "min" | .sum => "sum" | .sorted => "sorted" | .all => "all" | .any => "any" | .isinstance => "isinstance"
  | .str => "str" | .int => "int" | .tuple => "tuple" | .list => "list" | .dict => "dict"
def BF.val : BF → Value
  | .len => .builtin "len" | .abs => .builtin "abs" | .max => .builtin "max" | .min => .builtin "min" | .sum => .builtin "sum" | .sorted => .builtin "sorted" | .all => .builtin "all" | .any => .builtin "any"
  | .isinstance => .builtin "isinstance" | .str => .type "str" | .int => .type "int" | .tuple => .type "tuple" | .list => .type "list" | .dict => .type "dict"
def tyName (d : D) (S : Sto) : Option String := match d with
  | .non => some "NoneType" | .bl _ => some "bool" | .int _ => some "int" | .str _ => some "str" | .tup _ => some "tuple"
  | .ref a => match S a with
    | some (.lst _) => some "list"
    | some (.dic _) => some "dict"
    | _ => none
  | .ty _ => none
  | .scr _ => none
/-- isinstance of built-in types -/
def isT (a b : String) : Bool := decide (a = b) || (decide (a = "bool") && decide (b = "int"))
def strKeys : List (Key × D) → Option (List Str)
  | [] => some []
  | (.inr x, _) :: r => (strKeys r).map (x :: ·)
  | _ :: _ => none
def bfW : BF → WC
  | .len, [d], S, Q => match d with
    | .tup ds => Q (.int ds.length) S
    | .str x => x.length ≤ sizeLine ∧ Q (.int x.length) S
    | .ref a => match S a with
      | some (.lst ds) => Q (.int ds.length) S
      | some (.dic kvs) => Q (.int kvs.length) S
      | _ => False
    | _ => False
  | .abs, [d], S, Q => match d with
    | .int i => Q (.int (if i < 0 then -i else i)) S
    | _ => False
  | .max, [d, e], S, Q => match d, e with
    | .int i, .int j => Q (.int (if j > i then j else i)) S
    | _, _ => False
  | .min, [d, e], S, Q => match d, e with
    | .int i, .int j => Q (.int (if j < i then j else i)) S
    | _, _ => False
  | .sum, [d], S, Q => match itemsL S d with
    | some ds => match intsOf ds with
      | some ns => Q (.int ns.sum) S
      | none => False
    | none => False
  | .all, [d], S, Q => match itemsL S d with
    | some ds => match blsOf ds with
      | some bs => Q (.bl (bs.all id)) S
      | none => False
    | none => False
  | .any, [d], S, Q => match itemsL S d with
    | some ds => match blsOf ds with
      | some bs => Q (.bl (bs.any id)) S
      | none => False
    | none => False
  | .sorted, [d], S, Q => match d with
    | .ref a => match S a with
      | some (.dic kvs) => match strKeys kvs with
        | some ks => ks.length < 64 ∧ ∀ p, S p = none → Q (.ref p) (up S p (.lst ((sortStr ks).map D.str)))
        | none => False
      | some (.lst ds) => match strsOf ds with
        | some ks => ks.length < 64 ∧ ∀ p, S p = none → Q (.ref p) (up S p (.lst ((sortStr ks).map D.str)))
        | none => False
      | _ => False
    | _ => False
  | .isinstance, [d, e], S, Q => match e with
    | .ty T => match tyName d S with
      | some t => T ∈ ["int", "str", "bool", "tuple", "list", "dict"] ∧ Q (.bl (isT t T)) S
      | none => False
    | _ => False
  | .str, [d], S, Q => match d with
    | .int i => i.natAbs.log2 < 1920 ∧ Q (.str (toString i)) S
    | _ => False
  | .int, [d], S, Q => match d with
    | .int i => Q (.int i) S
    | .bl b => Q (.int (if b then 1 else 0)) S
    | _ => False
  | .tuple, [d], S, Q => match d with
    | .tup ds => Q (.tup ds) S
    | d => match itemsL S d with
      | some ds => Q (.tup ds) S
      | none => False
  | .list, [d], S, Q => match d with
    | .tup ds => ∀ p, S p = none → Q (.ref p) (up S p (.lst ds))
    | d => match itemsL S d with
      | some ds => ∀ p, S p = none → Q (.ref p) (up S p (.lst ds))
      | none => False
  | .dict, [d], S, Q => match d with
    | .ref a => match S a with
      | some (.dic kvs) => ∀ p, S p = none → Q (.ref p) (up S p (.dic kvs))
      | _ => False
    | _ => False
  | _, _, _, _ => False
theorem kit_isT {t T : String} (h1 : t ∈ ["NoneType", "bool", "int", "str", "tuple", "list", "dict"]) (h2 : T ∈ ["int", "str", "bool", "tuple", "list", "dict"]) : kitB t T = some (isT t T) := by
  have key : (["NoneType", "bool", "int", "str", "tuple", "list", "dict"].all fun t => ["int", "str", "bool", "tuple", "list", "dict"].all fun T => decide (kitB t T = some (isT t T))) = true := by decide +kernel
  exact of_decide_eq_true (List.all_eq_true.mp (List.all_eq_true.mp key t h1) T h2)
theorem tyX_of {K : Frag} {H : Hp} {S : Sto} (hs : StR K H S) {d : D} {v : V} {t : String} (r : Rep K H d v) (h : tyName d S = some t) : TyX K H v (.type t) ∧ t ∈ ["NoneType", "bool", "int", "str", "tuple", "list", "dict"] := by
  cases d with
  | non => cases h; rw [rep_non.mp r]; exact ⟨.base .non, by simp⟩
  | bl b => cases h; rw [rep_bl.mp r]; exact ⟨.base (.bl _), by simp⟩
  | int b => cases h; rw [rep_int.mp r]; exact ⟨.base (.int _), by simp⟩
  | str b => cases h; rw [rep_str.mp r]; exact ⟨.base (.str _), by simp⟩
  | ty _ => cases h
  | scr _ => cases h
  | tup ds =>
    cases h
    obtain ⟨a, xs, rfl, t, rs⟩ := rep_tup.mp r
    refine ⟨?_, by simp⟩
    rcases t with (t | ⟨o, t⟩) | ⟨o, its, n, h1, h2, _⟩
    · exact .base (.tup t)
    · exact .fTuple t
    · exact .kTuple h1 h2
  | ref a =>
    rw [rep_ref.mp r]
    simp only [tyName] at h
    split at h
    · rename_i ha
      cases h
      obtain ⟨xs, h, hr⟩ := hs _ _ ha
      exact ⟨.base (.lst h), by simp⟩
    · rename_i ha
      cases h
      obtain ⟨xs, h, hr⟩ := hs _ _ ha
      exact ⟨.base (.dK h), by simp⟩
    · cases h
theorem strKeys_eq : ∀ {kvs : List (Key × D)} {ks : List Str}, strKeys kvs = some ks → kvs.map (·.1) = ks.map Sum.inr
  | [], ks, h => by unfold strKeys at h; cases h; rfl
  | (.inr x, d) :: r, ks, h => by
    unfold strKeys at h
    cases e : strKeys r with
    | none => rw [e] at h; cases h
    | some r' => rw [e] at h; cases h; rw [List.map_cons, strKeys_eq e] <;> rfl
  | (.inl x, d) :: r, ks, h => by cases h
theorem reps1 {K : Frag} {H : Hp} {d : D} {xs : List V} (r : Reps K H [d] xs) : ∃ v, xs = [v] ∧ Rep K H d v := by
  obtain ⟨v, vs, rfl, q, rs⟩ := reps_cons.mp r
  rw [reps_nil.mp rs]
  exact ⟨v, rfl, q⟩
theorem reps2 {K : Frag} {H : Hp} {d e : D} {xs : List V} (r : Reps K H [d, e] xs) : ∃ v u, xs = [v, u] ∧ Rep K H d v ∧ Rep K H e u := by
  obtain ⟨v, vs, rfl, q, rs⟩ := reps_cons.mp r
  obtain ⟨u, rfl, q2⟩ := reps1 rs
  exact ⟨v, u, rfl, q, q2⟩
section
variable {X : Cx}
theorem bfz (hc : X.calm = true) (b : BF) : CallR X b.val (liftC X.K (bfW b)) := by
  intro pins s σ H xs us Q I rx ⟨ds, S, Q', rd, hs, w, f⟩
  unfold bfW at w
  split at w
  · -- len
    obtain ⟨v, rfl, r⟩ := reps1 rd
    split at w
    · obtain ⟨a, xs, rfl, t, hr⟩ := rep_tup.mp r
      refine call_len pins s σ H _ us Q I rx ⟨_, xs.length, rfl, .inr ⟨xs, t, rfl⟩, ?_⟩
      rw [hr.length]; exact f.int hs w
    · obtain rfl := rep_str.mp r
      exact call_len pins s σ H _ us Q I rx ⟨_, _, rfl, ⟨w.1, rfl⟩, f.int hs w.2⟩
    · obtain rfl := rep_ref.mp r
      split at w
      · rename_i ha
        obtain ⟨xs, h, hr⟩ := hs _ _ ha
        refine call_len pins s σ H _ us Q I rx ⟨_, xs.length, rfl, .inl ⟨xs, .inl (.inl h), rfl⟩, ?_⟩
        rw [hr.length]; exact f.int hs w
      · rename_i ha
        obtain ⟨xs, h, hr⟩ := hs _ _ ha
        refine call_lenD pins s σ H _ us Q I rx ⟨_, xs, rfl, h, ?_⟩
        rw [hr.length]; exact f.int hs w
      · exact w.elim
    · exact w.elim
  · -- abs
    obtain ⟨v, rfl, r⟩ := reps1 rd
    split at w
    · obtain rfl := rep_int.mp r
      exact call_abs pins s σ H _ us Q I rx ⟨_, rfl, f.int hs w⟩
    · exact w.elim
  · -- max
    obtain ⟨v, u, rfl, r, r2⟩ := reps2 rd
    split at w
    · obtain rfl := rep_int.mp r
      obtain rfl := rep_int.mp r2
      exact call_max2 hc pins s σ H _ us Q I rx ⟨_, _, rfl, f.int hs w⟩
    · exact w.elim
  · obtain ⟨v, u, rfl, r, r2⟩ := reps2 rd
    split at w
    · obtain rfl := rep_int.mp r
      obtain rfl := rep_int.mp r2
      exact call_min2 hc pins s σ H _ us Q I rx ⟨_, _, rfl, f.int hs w⟩
    · exact w.elim
  · -- sum
    obtain ⟨v, rfl, r⟩ := reps1 rd
    split at w
    · rename_i hi
      obtain ⟨a, xs, rfl, hl, hr⟩ := itemsL_ok hs r hi
      split at w
      · rename_i hn
        rw [intsOf_eq hn] at hr
        obtain rfl := Reps.ints.mp hr
        exact cr_sum hc pins s σ H _ us Q I rx ⟨a, _, rfl, hl, f.int hs w⟩
      · exact w.elim
    · exact w.elim
  · -- all
    obtain ⟨v, rfl, r⟩ := reps1 rd
    split at w
    · rename_i hi
      obtain ⟨a, xs, rfl, hl, hr⟩ := itemsL_ok hs r hi
      split at w
      · rename_i hn
        rw [blsOf_eq hn] at hr
        obtain rfl := Reps.bls.mp hr
        exact cr_all hc pins s σ H _ us Q I rx ⟨a, _, rfl, hl, f.bl hs w⟩
      · exact w.elim
    · exact w.elim
  · obtain ⟨v, rfl, r⟩ := reps1 rd
    split at w
    · rename_i hi
      obtain ⟨a, xs, rfl, hl, hr⟩ := itemsL_ok hs r hi
      split at w
      · rename_i hn
        rw [blsOf_eq hn] at hr
        obtain rfl := Reps.bls.mp hr
        exact cr_any hc pins s σ H _ us Q I rx ⟨a, _, rfl, hl, f.bl hs w⟩
      · exact w.elim
    · exact w.elim
  · -- sorted
    obtain ⟨v, rfl, r⟩ := reps1 rd
    split at w
    · obtain rfl := rep_ref.mp r
      split at w
      · rename_i ha
        obtain ⟨xs, h, hr⟩ := hs _ _ ha
        split at w
        · rename_i ks hk
          refine call_sortedD hc pins s σ H _ us Q I rx ⟨_, xs, ks, rfl, .inl h, by rw [← hr.keys]; exact strKeys_eq hk, w.1, fun ys p hp hy hf => ?_⟩
          rw [sortStr_unique hp hy]
          exact f.lst hs (Reps.strs.mpr rfl) w.2 hf
        · exact w.elim
      · rename_i ha
        obtain ⟨xs, h, hr⟩ := hs _ _ ha
        split at w
        · rename_i ks hk
          rw [strsOf_eq hk] at hr
          obtain rfl := Reps.strs.mp hr
          refine cr_sortedS pins s σ H _ us Q I rx ⟨_, ks, rfl, .inl (.inl h), w.1, fun ys p hp hy hf => ?_⟩
          rw [sortStr_unique hp hy]
          exact f.lst hs (Reps.strs.mpr rfl) w.2 hf
        · exact w.elim
      · exact w.elim
    · exact w.elim
  · -- isinstance
    obtain ⟨v, u, rfl, r, r2⟩ := reps2 rd
    split at w
    · obtain rfl := rep_ty.mp r2
      split at w
      · rename_i ht
        obtain ⟨h1, h2⟩ := tyX_of hs r ht
        exact call_isi pins s σ H _ us Q I rx ⟨v, _, _, _, _, rfl, .ty _, h1, kit_ty (kit_isT h2 w.1), f.bl hs w.2⟩
      · exact w.elim
    · exact w.elim
  · -- str
    obtain ⟨v, rfl, r⟩ := reps1 rd
    split at w
    · obtain rfl := rep_int.mp r
      exact call_str_int pins s σ H _ us Q I rx ⟨_, rfl, w.1, f.str hs w.2⟩
    · exact w.elim
  · -- int
    obtain ⟨v, rfl, r⟩ := reps1 rd
    split at w
    · obtain rfl := rep_int.mp r
      exact call_int1 pins s σ H _ us Q I rx (.inl ⟨_, rfl, f.int hs w⟩)
    · obtain rfl := rep_bl.mp r
      exact call_int1 pins s σ H _ us Q I rx (.inr ⟨_, rfl, f.int hs w⟩)
    · exact w.elim
  · -- tuple
    obtain ⟨v, rfl, r⟩ := reps1 rd
    split at w
    · obtain ⟨a, xs, rfl, t, hr⟩ := rep_tup.mp r
      exact call_tupleT pins s σ H _ us Q I rx ⟨a, xs, rfl, t, f.val hs r w⟩
    · split at w
      · rename_i hi
        obtain ⟨a, xs, rfl, hl, hr⟩ := itemsL_ok hs r hi
        exact call_tuple_of pins s σ H _ us Q I rx ⟨a, xs, rfl, .inl ⟨hl, fun p hp => f.tup hs hr w hp⟩⟩
      · exact w.elim
  · -- list
    obtain ⟨v, rfl, r⟩ := reps1 rd
    split at w
    · obtain ⟨a, xs, rfl, t, hr⟩ := rep_tup.mp r
      exact call_list_of pins s σ H _ us Q I rx ⟨a, xs, rfl, .inr t, fun p hp => f.lst hs hr w hp⟩
    · split at w
      · rename_i hi
        obtain ⟨a, xs, rfl, hl, hr⟩ := itemsL_ok hs r hi
        exact call_list_of pins s σ H _ us Q I rx ⟨a, xs, rfl, .inl hl, fun p hp => f.lst hs hr w hp⟩
      · exact w.elim
  · -- dict
    obtain ⟨v, rfl, r⟩ := reps1 rd
    split at w
    · obtain rfl := rep_ref.mp r
      split at w
      · rename_i ha
        obtain ⟨xs, h, hr⟩ := hs _ _ ha
        refine call_dictD pins s σ H _ us Q I rx ⟨_, xs, rfl, .inl h, fun p hp => ?_⟩
        exact f.new (u := .dic _) hs hp ⟨xs, upd_same, hr.mono (tupLe_new hp)⟩ (w p (hs.fresh hp))
      · exact w.elim
    · exact w.elim
  · exact w.elim
end
end Z

/-! ### Z6 -/
/-! Z6: methods of built-in types. -/
namespace Z
open PySem PySem.Spec PyProof.Rows L2
inductive BM where
  | append | extend | pop | insert | get | join | startswith
def BM.name : BM → Str
  | .append => "append" | .extend => "extend" | .pop => "pop" | .insert => "insert" | .get => "get" | .join => "join" | .startswith => "startswith"
/-- the receiver's type -/
def rcv (d : D) (S : Sto) : Option String := match d with
  | .str _ => some "str"
  | .ref a => match S a with
    | some (.lst _) => some "list"
    | some (.dic _) => some "dict"
    | _ => none
  | _ => none
def bmW : BM → WM
  | .append, d, [v], S, Q => match d with
    | .ref a => match S a with
      | some (.lst ds) => ds.length < sizeLine ∧ Q .non (up S a (.lst (ds ++ [v])))
      | _ => False
    | _ => False
  | .extend, d, [v], S, Q => match d, v with
    | .ref a, .ref b => match S a, S b with
      | some (.lst ds), some (.lst es) => ds.length + es.length ≤ sizeLine ∧ Q .non (up S a (.lst (ds ++ es)))
      | _, _ => False
    | _, _ => False
  | .pop, d, [], S, Q => match d with
    | .ref a => match S a with
      | some (.lst ds) => match ds[ds.length - 1]? with
        | some v => Q v (up S a (.lst ds.dropLast))
        | none => False
      | _ => False
    | _ => False
  | .insert, d, [i, v], S, Q => match d, i with
    | .ref a, .int i => match S a with
      | some (.lst ds) => (ds.length < sizeLine ∧ 0 ≤ i ∧ i < 2 ^ 63) ∧ Q .non (up S a (.lst (ds.take i.toNat ++ [v] ++ ds.drop i.toNat)))
      | _ => False
    | _, _ => False
  | .get, d, [k, v], S, Q => match d with
    | .ref a => match S a with
      | some (.dic kvs) => match keyOf k with
        | some k => Q ((getD kvs k).getD v) S
        | none => False
      | _ => False
    | _ => False
  | .join, d, [v], S, Q => match d with
    | .str x => match itemsL S v with
      | some ds => match strsOf ds with
        | some ys => (ys.map (·.length)).sum + ys.length * x.length ≤ 16777216 ∧ Q (.str (Txt.join x ys)) S
        | none => False
      | none => False
    | _ => False
  | .startswith, d, [v], S, Q => match d, v with
    | .str x, .str y => Q (.bl (Txt.startswith x y)) S
    | _, _ => False
  | _, _, _, _, _ => False
/-- what a method call of a built-in type leans on -/
structure BMok (X : Cx) (T : String) (name : Str) (id : String) (r : V → List V → Hp → VK → Prop) : Prop where
  pa : PlainAttrs T
  slot : Slot T name id
  ty : typeOf (.builtin id) = pure (.type "method_descriptor")
  rule : MtR X id r
def tBMz (X : Cx) (name : Str) (to : TE) (t : TA) : TE := fun σ H Q => to σ H fun x H1 => ∃ T id r, BMok X T name id r ∧ tyV X.K T x H1 ∧ t σ H1 fun xs H2 => r x xs H2 Q
section
variable {X : Cx} {o e : Expr} {es : List Expr} {to : TE} {t : TA} {name : Str} {apos cpos : Pos}
theorem pe_bmz0 (ho : PE X o to) (hbase : attributeBase o name X.env (eval o X.env) = eval o X.env) (hline : (apos.endLine == cpos.line) = true) :
    PE X (.Call (.Attribute o name apos) [] [] cpos) (tBMz X name to tNil) := by
  refine ⟨fun pins s σ H Q I h => ?_⟩
  refine wpAny_Call_method0_late hbase hline (thn (ho.run pins s σ H _ I h) fun v s1 ⟨x, H1, I1, r1, T, id, r, b, ty, q1⟩ => ?_)
  obtain ⟨h1, h2⟩ := tyV_is I1 r1 ty
  exact ⟨T, id, b.pa, b.slot, b.ty, h1, h2, Calls.callWith_builtin rfl (PySem.evalArgs_none (b.rule pins s1 σ H1 x [] v [] Q I1 r1 .nil q1))⟩
theorem pe_bmz (ho : PE X o to) (ha : PA X (e :: es) t) (hbase : attributeBase o name X.env (eval o X.env) = eval o X.env)
    (hfew : ((backTo cpos (starEach (e :: es) X.env)).all (fun x => !x.1) && (backToKw cpos (keywordEach [] X.env)).all (fun x => x.1.isSome)
      && decide ((e :: es).length + ([] : List Keyword).length + (if ([] : List Keyword).isEmpty then 0 else 1) < 30)) = true)
    (hline : (apos.endLine == cpos.line) = true) (hs : starEach (e :: es) X.env = (false, eval e X.env) :: starEach es X.env) (hplain : (backTo cpos (starEach es X.env)).any (·.1) = false) :
    PE X (.Call (.Attribute o name apos) (e :: es) [] cpos) (tBMz X name to t) := by
  refine ⟨fun pins s σ H Q I h => ?_⟩
  refine wpAny_Call_method_late hbase hfew hline rfl (thn (ho.run pins s σ H _ I h) fun v s1 ⟨x, H1, I1, r1, T, id, r, b, ty, q1⟩ => ?_)
  obtain ⟨h1, h2⟩ := tyV_is I1 r1 ty
  refine ⟨T, id, b.pa, b.slot, b.ty, h1, h2, ?_⟩
  have hA := ha.run cpos pins s1 σ H1 _ I1 q1
  rw [hs] at hA ⊢
  refine Calls.callWith_builtin (by show (false || (backTo cpos (starEach es X.env)).any (·.1)) = false; rw [hplain] <;> rfl) (Calls.evalArgs_plain ?_)
  exact thn hA fun us s2 ⟨vs, H2, I2, r2, q2⟩ => b.rule pins s2 σ H2 x vs v us Q I2 r1 r2 q2
theorem rcv_ok {S : Sto} {H : Hp} (hs : StR X.K H S) {d : D} {v : V} {T : String} (r : Rep X.K H d v) (h : rcv d S = some T) : tyV X.K T v H ∧ T ∈ ["str", "list", "dict"] := by
  cases d with
  | str x => cases h; rw [rep_str.mp r]; exact ⟨rfl, by simp⟩
  | ref a =>
    rw [rep_ref.mp r]
    simp only [rcv] at h
    split at h
    · rename_i ha
      cases h
      obtain ⟨xs, h, hr⟩ := hs _ _ ha
      exact ⟨.inl ⟨rfl, xs, .inl (.inl h)⟩, by simp⟩
    · rename_i ha
      cases h
      obtain ⟨xs, h, hr⟩ := hs _ _ ha
      exact ⟨.inr (.inr (.inl ⟨rfl, .inl ⟨xs, h⟩⟩)), by simp⟩
    · cases h
  | _ => cases h
/-- a method of lists alone -/
theorem bm_append : BMok X "list" "append" "list.append" (liftM X.K (bmW .append)) := by
  refine ⟨F.plainAttrs_list, F.slot_list_append, F.type_list_append, ?_⟩
  intro pins s σ H x xs v us Q I rx rs ⟨d, ds, S, Q', rd, rds, hs, w, f⟩
  unfold bmW at w
  split at w <;> first | contradiction | skip
  rename_i z _ _ _ _
  obtain ⟨y, rfl, ry⟩ := reps1 rds
  split at w
  · obtain rfl := rep_ref.mp rd
    split at w
    · rename_i ha
      obtain ⟨zs, h, hr⟩ := hs _ _ ha
      refine mt_append pins s σ H _ _ v us Q I rx rs ⟨_, zs, y, rfl, rfl, h, by rw [hr.length]; exact w.1, ?_⟩
      exact f.set (u := .lst _) hs ha ⟨_, upd_same, Reps.mono (tupLe_set hs ha) _ _ (hr.append (reps_cons.mpr ⟨y, [], rfl, ry, reps_nil.mpr rfl⟩))⟩ (rep_non.mpr rfl) w.2
    · exact w.elim
  · exact w.elim
theorem bm_extend : BMok X "list" "extend" "list.extend" (liftM X.K (bmW .extend)) := by
  refine ⟨F.plainAttrs_list, F.slot_list_extend, F.type_list_extend, ?_⟩
  intro pins s σ H x xs v us Q I rx rs ⟨d, ds, S, Q', rd, rds, hs, w, f⟩
  unfold bmW at w
  split at w <;> first | contradiction | skip
  obtain ⟨y, rfl, ry⟩ := reps1 rds
  split at w
  · obtain rfl := rep_ref.mp rd
    obtain rfl := rep_ref.mp ry
    split at w
    · rename_i ha hb
      obtain ⟨zs, h, hr⟩ := hs _ _ ha
      obtain ⟨zs2, h2, hr2⟩ := hs _ _ hb
      refine mt_extend pins s σ H _ _ v us Q I rx rs ⟨_, _, zs, zs2, rfl, rfl, h, h2, by rw [hr.length, hr2.length]; exact w.1, ?_⟩
      exact f.set (u := .lst _) hs ha ⟨_, upd_same, Reps.mono (tupLe_set hs ha) _ _ (hr.append hr2)⟩ (rep_non.mpr rfl) w.2
    · exact w.elim
  · exact w.elim
theorem bm_pop : BMok X "list" "pop" "list.pop" (liftM X.K (bmW .pop)) := by
  refine ⟨F.plainAttrs_list, F.slot_list_pop, F.type_list_pop, ?_⟩
  intro pins s σ H x xs v us Q I rx rs ⟨d, ds, S, Q', rd, rds, hs, w, f⟩
  unfold bmW at w
  split at w <;> first | contradiction | skip
  obtain rfl := reps_nil.mp rds
  split at w
  · obtain rfl := rep_ref.mp rd
    split at w
    · rename_i ha
      obtain ⟨zs, h, hr⟩ := hs _ _ ha
      split at w
      · rename_i hl
        obtain ⟨y, hy, ry⟩ := hr.get hl
        rw [← hr.length] at hy
        refine mt_pop pins s σ H _ _ v us Q I rx rs ⟨_, zs, y, rfl, rfl, h, hy, ?_⟩
        exact f.set (u := .lst _) hs ha ⟨_, upd_same, Reps.mono (tupLe_set hs ha) _ _ hr.dropLast⟩ (Rep.mono (tupLe_set hs ha) _ _ ry) w
      · exact w.elim
    · exact w.elim
  · exact w.elim
theorem bm_insert : BMok X "list" "insert" "list.insert" (liftM X.K (bmW .insert)) := by
  refine ⟨F.plainAttrs_list, F.slot_list_insert, F.type_list_insert, ?_⟩
  intro pins s σ H x xs v us Q I rx rs ⟨d, ds, S, Q', rd, rds, hs, w, f⟩
  unfold bmW at w
  split at w <;> first | contradiction | skip
  obtain ⟨i, y, rfl, ri, ry⟩ := reps2 rds
  split at w
  · obtain rfl := rep_ref.mp rd
    obtain rfl := rep_int.mp ri
    split at w
    · rename_i ha
      obtain ⟨zs, h, hr⟩ := hs _ _ ha
      obtain ⟨⟨w1, w2, w3⟩, w⟩ := w
      refine mt_insert pins s σ H _ _ v us Q I rx rs ⟨_, zs, _, y, rfl, rfl, h, by rw [hr.length]; exact w1, w2, w3, ?_⟩
      exact f.set (u := .lst _) hs ha ⟨_, upd_same, Reps.mono (tupLe_set hs ha) _ _ (((hr.take _).append (reps_cons.mpr ⟨y, [], rfl, ry, reps_nil.mpr rfl⟩)).append (hr.drop _))⟩ (rep_non.mpr rfl) w
    · exact w.elim
  · exact w.elim
theorem bm_get (hu : X.A.units + 1 < cLine) : BMok X "dict" "get" "dict.get" (liftM X.K (bmW .get)) := by
  refine ⟨F.plainAttrs_dict, F.slot_dict_get, F.type_dict_get, ?_⟩
  intro pins s σ H x xs v us Q I rx rs ⟨d, ds, S, Q', rd, rds, hs, w, f⟩
  unfold bmW at w
  split at w <;> first | contradiction | skip
  obtain ⟨i, y, rfl, ri, ry⟩ := reps2 rds
  split at w
  · obtain rfl := rep_ref.mp rd
    split at w
    · rename_i ha
      obtain ⟨zs, h, hr⟩ := hs _ _ ha
      split at w
      · rename_i k hk
        obtain rfl := keyOf_eq hk ri
        cases rx
        cases rs with
        | cons r1 rs =>
          cases rs with
          | cons r2 rs =>
            cases rs
            refine d_get2 hu I (.k h) r1 r2 fun w' s2 I2 rw' => ⟨_, H, I2, rw', ?_⟩
            refine f.val hs ?_ w
            have rv := hr.val k
            cases e1 : getD _ k with
            | none =>
              rw [e1] at rv
              cases e2 : valV zs k with
              | none => exact ry
              | some _ => rw [e2] at rv; exact rv.elim
            | some dv =>
              rw [e1] at rv
              cases e2 : valV zs k with
              | none => rw [e2] at rv; exact rv.elim
              | some vv => rw [e2] at rv; exact rv
      · exact w.elim
    · exact w.elim
  · exact w.elim
theorem bm_join : BMok X "str" "join" "str.join" (liftM X.K (bmW .join)) := by
  refine ⟨F.plainAttrs_str, F.slot_str_join, F.type_str_join, ?_⟩
  intro pins s σ H x xs v us Q I rx rs ⟨d, ds, S, Q', rd, rds, hs, w, f⟩
  unfold bmW at w
  split at w <;> first | contradiction | skip
  obtain ⟨y, rfl, ry⟩ := reps1 rds
  split at w
  · obtain rfl := rep_str.mp rd
    split at w
    · rename_i hi
      obtain ⟨a, ys, rfl, hl, hr⟩ := itemsL_ok hs ry hi
      split at w
      · rename_i hk
        rw [strsOf_eq hk] at hr
        obtain rfl := Reps.strs.mp hr
        exact mt_join pins s σ H _ _ v us Q I rx rs ⟨_, a, _, rfl, rfl, .inl hl, w.1, f.str hs w.2⟩
      · exact w.elim
    · exact w.elim
  · exact w.elim
theorem bm_startswith : BMok X "str" "startswith" "str.startswith" (liftM X.K (bmW .startswith)) := by
  refine ⟨F.plainAttrs_str, F.slot_str_startswith, F.type_str_startswith, ?_⟩
  intro pins s σ H x xs v us Q I rx rs ⟨d, ds, S, Q', rd, rds, hs, w, f⟩
  unfold bmW at w
  split at w <;> first | contradiction | skip
  obtain ⟨y, rfl, ry⟩ := reps1 rds
  split at w
  · obtain rfl := rep_str.mp rd
    obtain rfl := rep_str.mp ry
    exact mt_startswith pins s σ H _ _ v us Q I rx rs ⟨_, _, rfl, rfl, f.bl hs w⟩
  · exact w.elim
def bmT : BM → String → Bool
  | .append, "list" => true | .extend, "list" => true | .pop, "list" => true | .insert, "list" => true | .get, "dict" => true | .join, "str" => true | .startswith, "str" => true
  | _, _ => false
theorem bmz (hu : X.A.units + 1 < cLine) (m : BM) (T : String) (h : bmT m T = true) : ∃ id, BMok X T m.name id (liftM X.K (bmW m)) := by
  unfold bmT at h
  split at h
  · exact ⟨_, bm_append⟩
  · exact ⟨_, bm_extend⟩
  · exact ⟨_, bm_pop⟩
  · exact ⟨_, bm_insert⟩
  · exact ⟨_, bm_get hu⟩
  · exact ⟨_, bm_join⟩
  · exact ⟨_, bm_startswith⟩
  · cases h
end
end Z

/-! ### Z7 -/
/-! Z7: the syntax and what a piece of it asks. -/
namespace Z
open PySem PySem.Spec PyProof.Rows L2
inductive BOp where
  | add | sub | mul | fdiv | mod | pow
inductive COp where
  | eq | ne | lt | le | gt | ge | is | isn | in_ | nin
mutual
/-- a target: a slot, or a tuple of targets -/
inductive Tg where
  | v (i : Nat)
  | t (ts : Tgs)
inductive Tgs where
  | nil
  | cons (t : Tg) (r : Tgs)
end
mutual
inductive E where
  | non | bl (b : Bool) | int (i : Int) | str (x : Str)
  | var (i : Nat) | glob (x : Str) | ty (x : String)
  | bin (o : BOp) (a b : E) | neg (a : E)
  | cmp (o : COp) (a b : E) | chn (o p : COp) (a b c : E)
  | notE (a : E) | andE (es : Es) | orE (es : Es) | ite (c a b : E)
  | tup (es : Es) | lst (es : Es) | dic (ks vs : Es)
  | ix (a b : E) | sl (a : E) (lo hi : EO)
  | fld (a : E) (f : Str)
  | call (f : Str) (es : Es) | make (C : Str) (es : Es) | meth (o : E) (m : Str) (es : Es)
  | bi (f : BF) (es : Es) | trev (e : E) | bm (o : E) (m : BM) (es : Es)
  | lc (elt : E) (tg : Tg) (it : Wk) (ifs : EO) (own : List Nat)
  | dc (k v : E) (tg : Tg) (it : Wk) (ifs : EO) (own : List Nat)
inductive Es where
  | nil
  | cons (e : E) (r : Es)
inductive EO where
  | no
  | so (e : E)
/-- what is walked -/
inductive Wk where
  | val (e : E) | rng1 (a : E) | rng2 (a b : E) | enum (e : E) | zip (a b : E) | rev (e : E)
end
mutual
inductive S where
  | set (t : Tg) (e : E) | setIx (o i e : E) | setFld (o : E) (f : Str) (e : E)
  | aug (i : Nat) (o : BOp) (e : E) | augFld (o : E) (f : Str) (p : BOp) (e : E) | augIx (o i : E) (p : BOp) (e : E)
  | ex (e : E) | ret (e : E) | retN | ife (c : E) (a b : Ss) | fr (t : Tg) (it : Wk) (b : Ss) | wh (c : E) (b : Ss) | brk | cnt | pas | nev
inductive Ss where
  | nil
  | cons (s : S) (r : Ss)
end
def putFD (f : Str) (v : D) : List (Str × D) → List (Str × D)
  | [] => [(f, v)]
  | (g, x) :: r => if g = f then (g, v) :: r else (g, x) :: putFD f v r
/-- what the names of the module stand for -/
structure G where
  glob : Str → Option D
  call : Str → WC
  meth : Str → Str → WC
  init : Str → WC
  noat : Str → Str → Bool
  ism : Str → Str → Bool
def bopW : BOp → W2
  | .add => addW | .sub => subW | .mul => mulW | .fdiv => fdivW | .mod => modW | .pow => powW
def cmpC : COp → D → D → Sto → (Bool → Prop) → Prop
  | .eq, d, e, S, Q => eqC d e S Q
  | .ne, d, e, S, Q => eqC d e S fun b => Q (!b)
  | .lt, d, e, _, Q => ltC d e Q
  | .le, d, e, _, Q => leC d e Q
  | .gt, d, e, _, Q => ltC e d Q
  | .ge, d, e, _, Q => leC e d Q
  | .is, d, e, _, Q => isC d e Q
  | .isn, d, e, _, Q => isC d e fun b => Q (!b)
  | .in_, d, e, S, Q => inC d e S Q
  | .nin, d, e, S, Q => inC d e S fun b => Q (!b)
def truthOf (W : WE) : WT := fun ρ S Q => W ρ S fun d S1 => truC d S1 fun b => Q b S1
abbrev ofE (W : WE) : WE × WT := (W, truthOf W)
def wipeE (ρ : Ev) : List Nat → Ev
  | [] => ρ
  | v :: vs => (wipeE ρ vs).set v none
def tgLen : Tgs → Nat
  | .nil => 0
  | .cons _ r => tgLen r + 1
mutual
def asgW : Tg → D → Ev → (Ev → Prop) → Prop
  | .v i, d, ρ, k => k (ρ.set i (some d))
  | .t ts, d, ρ, k => match d with
    | .tup ds => ds.length = tgLen ts ∧ asgWs ts ds ρ k
    | _ => False
def asgWs : Tgs → List D → Ev → (Ev → Prop) → Prop
  | .nil, [], ρ, k => k ρ
  | .cons t r, d :: ds, ρ, k => asgW t d ρ fun ρ1 => asgWs r ds ρ1 k
  | _, _, _, _ => False
end
/-- a loop over items: chk, what must hold ahead of each turn -/
def loopW (chk : Sto → Prop) (turn : D → Ev → Sto → (Ev → Sto → Prop) → Prop) (nx : Ev → Sto → Prop) : List D → Ev → Sto → Prop
  | [], ρ, S => chk S ∧ nx ρ S
  | d :: r, ρ, S => chk S ∧ turn d ρ S (loopW chk turn nx r)
def lcW (chk : Sto → Prop) (turn : D → Sto → (Option D → Sto → Prop) → Prop) (k : List D → Sto → Prop) : List D → List D → Sto → Prop
  | [], acc, S => chk S ∧ k acc S
  | d :: r, acc, S => chk S ∧ turn d S fun o S1 => match o with
    | some v => acc.length < sizeLine ∧ lcW chk turn k r (acc ++ [v]) S1
    | none => lcW chk turn k r acc S1
def dcW (chk : Sto → Prop) (turn : D → Sto → (Option (D × D) → Sto → Prop) → Prop) (k : List (Key × D) → Sto → Prop) : List D → List (Key × D) → Sto → Prop
  | [], acc, S => chk S ∧ k acc S
  | d :: r, acc, S => chk S ∧ turn d S fun o S1 => match o with
    | some (kd, v) => match keyOf kd with
      | some kk => acc.length < sizeLine ∧ dcW chk turn k r (putD acc kk v) S1
      | none => False
    | none => dcW chk turn k r acc S1
/-- the items of a value that is walked, and what must stay -/
def walkC (d : D) (S : Sto) (R : List D → (Sto → Prop) → Prop) : Prop := match d with
  | .tup ds => R ds fun _ => True
  | .str x => R (x.cps.toList.map fun c => .str ⟨#[c]⟩) fun _ => True
  | .ref a => match S a with
    | some (.lst ds) => R ds fun S1 => S1 a = some (.lst ds)
    | _ => False
  | _ => False
/-- .. of a list -/
def walkL (d : D) (S : Sto) (R : List D → (Sto → Prop) → Prop) : Prop := match d with
  | .ref a => match S a with
    | some (.lst ds) => R ds fun S1 => S1 a = some (.lst ds)
    | _ => False
  | _ => False
/-- .. of a list or a tuple -/
def walkLT (d : D) (S : Sto) (R : List D → (Sto → Prop) → Prop) : Prop := match d with
  | .tup ds => R ds fun _ => True
  | d => walkL d S R
def rngD (lo : Int) (n : Nat) : List D := (List.range n).map fun (i : Nat) => .int (lo + (i : Int))
def enumD (ds : List D) : List D := ds.zipIdx.map fun p => .tup [.int ((p.2 : Nat) : Int), p.1]
def zipD (ds es : List D) : List D := (ds.zip es).map fun p => .tup [p.1, p.2]
def zipC (d e : D) (S : Sto) (R : List D → (Sto → Prop) → Prop) : Prop := match d, e with
  | .tup ds, .tup es => R (zipD ds es) fun _ => True
  | d, e => walkL d S fun ds c1 => walkL e S fun es c2 => R (zipD ds es) fun S => c1 S ∧ c2 S
abbrev WI := Ev → Sto → (List D → (Sto → Prop) → Sto → Prop) → Prop
def fldC (g : G) (d : D) (f : Str) (S : Sto) (Q : D → Prop) : Prop := match d with
  | .ref a => match S a with
    | some (.ins C fs) => g.noat C f = true ∧ match fs.lookup f with
      | some v => Q v
      | none => False
    | _ => False
  | _ => False
mutual
def wp (g : G) : E → WE × WT
  | .non => ofE fun _ S Q => Q .non S
  | .bl b => ofE fun _ S Q => Q (.bl b) S
  | .int i => ofE fun _ S Q => Q (.int i) S
  | .str x => ofE fun _ S Q => Q (.str x) S
  | .ty x => ofE fun _ S Q => Q (.ty x) S
  | .var i => ofE fun ρ S Q => match ρ[i]? with
    | some (some d) => Q d S
    | _ => False
  | .glob x => ofE fun _ S Q => match g.glob x with
    | some d => Q d S
    | none => False
  | .bin o a b => ofE fun ρ S Q => (wp g a).1 ρ S fun d S1 => (wp g b).1 ρ S1 fun e S2 => bopW o d e S2 Q
  | .neg a => ofE fun ρ S Q => (wp g a).1 ρ S fun d S1 => negW d S1 Q
  | .cmp o a b => (fun ρ S Q => (wp g a).1 ρ S fun d S1 => (wp g b).1 ρ S1 fun e S2 => cmpC o d e S2 fun k => Q (.bl k) S2,
      fun ρ S Q => (wp g a).1 ρ S fun d S1 => (wp g b).1 ρ S1 fun e S2 => cmpC o d e S2 fun k => Q k S2)
  | .chn o p a b c => (fun ρ S Q => (wp g a).1 ρ S fun d S1 => (wp g b).1 ρ S1 fun e S2 => cmpC o d e S2 fun k => if k = true then (wp g c).1 ρ S2 fun f S3 => cmpC p e f S3 fun k => Q (.bl k) S3 else Q (.bl false) S2,
      fun ρ S Q => (wp g a).1 ρ S fun d S1 => (wp g b).1 ρ S1 fun e S2 => cmpC o d e S2 fun k => if k = true then (wp g c).1 ρ S2 fun f S3 => cmpC p e f S3 fun k => Q k S3 else Q false S2)
  | .notE a => (fun ρ S Q => (wp g a).1 ρ S fun d S1 => truC d S1 fun b => Q (.bl (!b)) S1, fun ρ S Q => (wp g a).2 ρ S fun b S1 => Q (!b) S1)
  | .andE es => ((wpAnd g es).1, (wpAnd g es).2)
  | .orE es => ((wpOr g es).1, (wpOr g es).2)
  | .ite c a b => (fun ρ S Q => (wp g c).2 ρ S fun k S1 => if k = true then (wp g a).1 ρ S1 Q else (wp g b).1 ρ S1 Q, fun _ _ _ => False)
  | .tup es => ofE fun ρ S Q => wpEs g es ρ S fun ds S1 => ds.length ≤ sizeLine ∧ Q (.tup ds) S1
  | .lst es => ofE fun ρ S Q => wpEs g es ρ S fun ds S1 => ds.length ≤ sizeLine ∧ ∀ p, S1 p = none → Q (.ref p) (up S1 p (.lst ds))
  | .dic ks vs => ofE fun ρ S Q => match ks, vs with
    | .nil, .nil => ∀ p, S p = none → Q (.ref p) (up S p (.dic []))
    | _, _ => False
  | .ix a b => ofE fun ρ S Q => (wp g a).1 ρ S fun d S1 => (wp g b).1 ρ S1 fun e S2 => ixC d e S2 fun v => Q v S2
  | .sl a lo hi => ofE fun ρ S Q => (wp g a).1 ρ S fun d S1 => wpO g lo ρ S1 fun l S2 => wpO g hi ρ S2 fun h S3 => slC d l h S3 Q
  | .fld a f => ofE fun ρ S Q => (wp g a).1 ρ S fun d S1 => fldC g d f S1 fun v => Q v S1
  | .call f es => ofE fun ρ S Q => wpEs g es ρ S fun ds S1 => g.call f ds S1 Q
  | .make C es => ofE fun ρ S Q => wpEs g es ρ S fun ds S1 => ∀ p, S1 p = none → g.init C (.ref p :: ds) (up S1 p (.ins C [])) fun d S2 => d matches .non ∧ Q (.ref p) S2
  | .meth o m es => ofE fun ρ S Q => (wp g o).1 ρ S fun d S1 => match d with
    | .ref a => match S1 a with
      | some (.ins C fs) => (g.ism C m = true ∧ fs.lookup m = none) ∧ wpEs g es ρ S1 fun ds S2 => g.meth C m (.ref a :: ds) S2 Q
      | _ => False
    | _ => False
  | .bi f es => ofE fun ρ S Q => wpEs g es ρ S fun ds S1 => bfW f ds S1 Q
  | .trev e => ofE fun ρ S Q => (wp g e).1 ρ S fun d S1 => match itemsL S1 d with
    | some ds => Q (.tup ds.reverse) S1
    | none => False
  | .bm o m es => ofE fun ρ S Q => (wp g o).1 ρ S fun d S1 => match rcv d S1 with
    | some T => bmT m T = true ∧ wpEs g es ρ S1 fun ds S2 => bmW m d ds S2 Q
    | none => False
  | .lc elt tg it ifs own => ofE fun ρ S Q => wpI g it ρ S fun ds chk S1 =>
      lcW chk (fun d S2 k => asgW tg d (wipeE ρ own) fun ρ1 => wpIf g ifs ρ1 S2 fun b S3 => if b = true then (wp g elt).1 ρ1 S3 fun v S4 => k (some v) S4 else k none S3)
        (fun acc S2 => ∀ p, S2 p = none → Q (.ref p) (up S2 p (.lst acc))) ds [] S1
  | .dc ke ve tg it ifs own => ofE fun ρ S Q => wpI g it ρ S fun ds chk S1 =>
      dcW chk (fun d S2 k => asgW tg d (wipeE ρ own) fun ρ1 => wpIf g ifs ρ1 S2 fun b S3 => if b = true then (wp g ke).1 ρ1 S3 fun kd S4 => (wp g ve).1 ρ1 S4 fun v S5 => k (some (kd, v)) S5 else k none S3)
        (fun acc S2 => ∀ p, S2 p = none → Q (.ref p) (up S2 p (.dic acc))) ds [] S1
def wpEs (g : G) : Es → WA
  | .nil => fun _ S Q => Q [] S
  | .cons e r => fun ρ S Q => (wp g e).1 ρ S fun d S1 => wpEs g r ρ S1 fun ds S2 => Q (d :: ds) S2
def wpAnd (g : G) : Es → WE × WT
  | .nil => (fun _ _ _ => False, fun _ _ _ => False)
  | .cons e r => match r with
    | .nil => ((wp g e).1, (wp g e).2)
    | .cons _ _ => (fun ρ S Q => (wp g e).1 ρ S fun d S1 => truC d S1 fun b => if b = true then (wpAnd g r).1 ρ S1 Q else Q d S1,
        fun ρ S Q => (wp g e).2 ρ S fun b S1 => if b = true then (wpAnd g r).2 ρ S1 Q else Q false S1)
def wpOr (g : G) : Es → WE × WT
  | .nil => (fun _ _ _ => False, fun _ _ _ => False)
  | .cons e r => match r with
    | .nil => ((wp g e).1, (wp g e).2)
    | .cons _ _ => (fun ρ S Q => (wp g e).1 ρ S fun d S1 => truC d S1 fun b => if b = true then Q d S1 else (wpOr g r).1 ρ S1 Q,
        fun ρ S Q => (wp g e).2 ρ S fun b S1 => if b = true then Q true S1 else (wpOr g r).2 ρ S1 Q)
def wpO (g : G) : EO → Ev → Sto → (Option Int → Sto → Prop) → Prop
  | .no => fun _ S Q => Q none S
  | .so e => fun ρ S Q => (wp g e).1 ρ S fun d S1 => match d with
    | .int i => Q (some i) S1
    | _ => False
def wpIf (g : G) : EO → WT
  | .no => fun _ S Q => Q true S
  | .so e => fun ρ S Q => (wp g e).2 ρ S Q
def wpI (g : G) : Wk → WI
  | .val e => fun ρ S R => (wp g e).1 ρ S fun d S1 => walkC d S1 fun ds chk => R ds chk S1
  | .rng1 a => fun ρ S R => (wp g a).1 ρ S fun d S1 => match d with
    | .int n => (-(2 ^ 62) ≤ n ∧ n < 2 ^ 62) ∧ R (rngD 0 n.toNat) (fun _ => True) S1
    | _ => False
  | .rng2 a b => fun ρ S R => (wp g a).1 ρ S fun d S1 => (wp g b).1 ρ S1 fun e S2 => match d, e with
    | .int m, .int n => ((-(2 ^ 62) ≤ m ∧ m < 2 ^ 62) ∧ -(2 ^ 62) ≤ n ∧ n < 2 ^ 62) ∧ R (rngD m (n - m).toNat) (fun _ => True) S2
    | _, _ => False
  | .enum e => fun ρ S R => (wp g e).1 ρ S fun d S1 => walkL d S1 fun ds chk => R (enumD ds) chk S1
  | .zip a b => fun ρ S R => (wp g a).1 ρ S fun d S1 => (wp g b).1 ρ S1 fun e S2 => zipC d e S2 fun ds chk => R ds chk S2
  | .rev e => fun ρ S R => (wp g e).1 ρ S fun d S1 => walkLT d S1 fun ds chk => R ds.reverse chk S1
end
structure En where
  nx : Ev → Sto → Prop
  rt : PK D
  bk : Ev → Sto → Prop := fun _ _ => False
  ct : Ev → Sto → Prop := fun _ _ => False
def whW (c : WT) (b : En → Ev → Sto → Prop) (k : En) : Nat → Ev → Sto → Prop
  | 0 => fun _ _ => False
  | n + 1 => fun ρ S => c ρ S fun t S1 => if t = true then b { k with nx := whW c b k n, ct := whW c b k n, bk := k.nx } ρ S1 else k.nx ρ S1
/-- x op= e -/
def augW : BOp → W2
  | .add, .int i, .int j, S, Q => Q (.int (i + j)) S
  | .add, .str i, .str j, S, Q => i.length + j.length ≤ sizeLine ∧ Q (.str (i ++ j)) S
  | .sub, .int i, .int j, S, Q => Q (.int (i - j)) S
  | _, _, _, _, _ => False
mutual
def wpS (g : G) : S → En → Ev → Sto → Prop
  | .set t e => fun k ρ S => (wp g e).1 ρ S fun d S1 => asgW t d ρ fun ρ1 => k.nx ρ1 S1
  | .setIx o i e => fun k ρ S => (wp g e).1 ρ S fun v S1 => (wp g o).1 ρ S1 fun d S2 => (wp g i).1 ρ S2 fun j S3 => setC d j v S3 fun S4 => k.nx ρ S4
  | .setFld o f e => fun k ρ S => (wp g e).1 ρ S fun v S1 => (wp g o).1 ρ S1 fun d S2 => match d with
    | .ref a => match S2 a with
      | some (.ins C fs) => (g.noat C f = true ∧ fs.length < 1000) ∧ k.nx ρ (up S2 a (.ins C (putFD f v fs)))
      | _ => False
    | _ => False
  | .aug i o e => fun k ρ S => match ρ[i]? with
    | some (some x) => (wp g e).1 ρ S fun y S1 => augW o x y S1 fun z S2 => k.nx (ρ.set i (some z)) S2
    | _ => False
  | .augFld o f p e => fun k ρ S => (wp g o).1 ρ S fun d S1 => match d with
    | .ref a => match S1 a with
      | some (.ins C fs) => g.noat C f = true ∧ match fs.lookup f with
        | some v => (wp g e).1 ρ S1 fun y S2 => augW p v y S2 fun z S3 => match S3 a with
          | some (.ins C' fs') => (C' = C ∧ fs'.length < 1000) ∧ k.nx ρ (up S3 a (.ins C (putFD f z fs')))
          | _ => False
        | none => False
      | _ => False
    | _ => False
  | .augIx o i p e => fun k ρ S => False
  | .ex e => fun k ρ S => (wp g e).1 ρ S fun _ S1 => k.nx ρ S1
  | .ret e => fun k ρ S => (wp g e).1 ρ S k.rt
  | .retN => fun k _ S => k.rt .non S
  | .ife c a b => fun k ρ S => (wp g c).2 ρ S fun t S1 => if t = true then wpSs g a k ρ S1 else wpSs g b k ρ S1
  | .fr t it b => fun k ρ S => wpI g it ρ S fun ds chk S1 =>
      loopW chk (fun d ρ1 S2 nx => asgW t d ρ1 fun ρ2 => wpSs g b { k with nx := nx, ct := nx, bk := k.nx } ρ2 S2) k.nx ds ρ S1
  | .wh c b => fun k ρ S => ∃ n, whW (wp g c).2 (wpSs g b) k n ρ S
  | .brk => fun k ρ S => k.bk ρ S
  | .cnt => fun k ρ S => k.ct ρ S
  | .pas => fun k ρ S => k.nx ρ S
  | .nev => fun _ _ _ => False
def wpSs (g : G) : Ss → En → Ev → Sto → Prop
  | .nil => fun k ρ S => k.nx ρ S
  | .cons s r => fun k ρ S => wpS g s { k with nx := fun ρ1 S1 => wpSs g r k ρ1 S1 } ρ S
end
end Z

/-! ### Z8 -/
/-! Z8: each construct's reading is what the syntax asks. -/
namespace Z
open PySem PySem.Spec PyProof.Rows L2
section
variable {X : Cx}
theorem lift_bind {X : Cx} {Wa : WE} {σ : L2.St} {H : Hp} {Q : VK} {ρ : Ev} {S : Sto} (he : EnvR X.K H ρ σ) (hs : StR X.K H S) {P : PK D} (w : Wa ρ S P)
    (k : ∀ d v H1 S1, Ext H S H1 S1 → EnvR X.K H1 ρ σ → StR X.K H1 S1 → TupLe X.K H H1 → Rep X.K H1 d v → P d S1 → Q v H1) : lift X.K Wa σ H Q :=
  ⟨ρ, S, P, he, hs, w, fun d v H1 S1 e s r q => k d v H1 S1 e (he.mono (e.tups hs)) s (e.tups hs) r q⟩
theorem liftT_bind {X : Cx} {Wa : WT} {σ : L2.St} {H : Hp} {Q : Bool → Hp → Prop} {ρ : Ev} {S : Sto} (he : EnvR X.K H ρ σ) (hs : StR X.K H S) {P : PK Bool} (w : Wa ρ S P)
    (k : ∀ b H1 S1, Ext H S H1 S1 → EnvR X.K H1 ρ σ → StR X.K H1 S1 → P b S1 → Q b H1) : liftT X.K Wa σ H Q :=
  ⟨ρ, S, P, he, hs, w, fun b H1 S1 e s q => k b H1 S1 e (he.mono (e.tups hs)) s q⟩
theorem liftA_bind {X : Cx} {Wa : WA} {σ : L2.St} {H : Hp} {Q : List V → Hp → Prop} {ρ : Ev} {S : Sto} (he : EnvR X.K H ρ σ) (hs : StR X.K H S) {P : PK (List D)} (w : Wa ρ S P)
    (k : ∀ ds vs H1 S1, Ext H S H1 S1 → EnvR X.K H1 ρ σ → StR X.K H1 S1 → TupLe X.K H H1 → Reps X.K H1 ds vs → P ds S1 → Q vs H1) : liftA X.K Wa σ H Q :=
  ⟨ρ, S, P, he, hs, w, fun d v H1 S1 e s r q => k d v H1 S1 e (he.mono (e.tups hs)) s (e.tups hs) r q⟩
variable {a b c : Expr} {Wa Wb Wc : WE} {pos : Pos}
theorem se_const {d : D} {v : V} {e : Expr} (h : PE X e (tC v)) (r : ∀ H, Rep X.K H d v) : SE X e (fun _ S Q => Q d S) :=
  pe_imp h fun σ H Q ⟨ρ, S, Q', he, hs, w, f⟩ => f.val hs (r H) w
theorem se_var {i : Nat} {x : Str} (hN : X.N[i]? = some x) (hv : Vis X.env.scope x) (hd : (x == ("__debug__" : Str)) = false) (hcd : (x == ("__classdict__" : Str)) = false) :
    SE X (.Name x pos) (fun ρ S Q => match ρ[i]? with
      | some (some d) => Q d S
      | _ => False) := pe_imp (pe_var hN hv hd hcd) fun σ H Q ⟨ρ, S, Q', he, hs, w, f⟩ => by
  dsimp only at w
  split at w
  · rename_i d hd
    obtain ⟨v, h1, h2⟩ := he.2 i d hd
    exact ⟨v, h1, f.val hs h2 w⟩
  · exact w.elim
theorem se_bin {op : Operator} {W : W2} (ho : OpR X (binaryOp op) (lift2 X.K W)) (ha : SE X a Wa) (hb : SE X b Wb) :
    SE X (.BinOp a op b pos) (fun ρ S Q => Wa ρ S fun d S1 => Wb ρ S1 fun e S2 => W d e S2 Q) :=
  pe_imp (pe_op ho ha hb) fun σ H Q ⟨ρ, S, Q', he, hs, w, f⟩ => lift_bind he hs w fun d v H1 S1 e1 he1 hs1 t1 r1 w1 => lift_bind he1 hs1 w1 fun d2 v2 H2 S2 e2 he2 hs2 t2 r2 w2 =>
    ⟨d, d2, S2, Q', Rep.mono t2 _ _ r1, r2, hs2, w2, f.after (e1.trans e2)⟩
theorem se_un {op : UnaryOp} {W : W1} (ho : UnR X (unaryOp op) (lift1 X.K W)) (ha : SE X a Wa) : SE X (.UnaryOp op a pos) (fun ρ S Q => Wa ρ S fun d S1 => W d S1 Q) :=
  pe_imp (pe_un ho ha) fun σ H Q ⟨ρ, S, Q', he, hs, w, f⟩ => lift_bind he hs w fun d v H1 S1 e1 he1 hs1 t1 r1 w1 => ⟨d, S1, Q', r1, hs1, w1, f.after e1⟩
/-- a comparison that answers a Bool and changes nothing -/
def liftCmp (K : Frag) (C : D → D → Sto → (Bool → Prop) → Prop) : R2 := fun x y H Q => ∃ d e S P, Rep K H d x ∧ Rep K H e y ∧ StR K H S ∧ C d e S P ∧ ∀ b H1, Ext H S H1 S → StR K H1 S → P b → Q (.bl b) H1
theorem cmp_of {op : CmpOp} {C : D → D → Sto → (Bool → Prop) → Prop} (mono : ∀ d e S P P', (∀ b, P b → P' b) → C d e S P → C d e S P') (h : OpR X (compareOp op) (lift2 X.K fun d e S Q => C d e S fun b => Q (.bl b) S)) : OpR X (compareOp op) (liftCmp X.K C) := by
  intro pins s σ H x y v u Q I rx ry ⟨d, e, S, P, rd, re, hs, w, f⟩
  refine h pins s σ H x y v u Q I rx ry ⟨d, e, S, fun d' S' => ∃ b, d' = .bl b ∧ S' = S ∧ P b, rd, re, hs, mono _ _ _ _ _ (fun b q => ⟨b, rfl, rfl, q⟩) w, fun d' v' H1 S1 e1 s1 r1 q1 => ?_⟩
  obtain ⟨b, rfl, rfl, q⟩ := q1
  rw [rep_bl.mp r1]
  exact f b H1 e1 s1 q
theorem se_cmp {op : CmpOp} {C : D → D → Sto → (Bool → Prop) → Prop} (ho : OpR X (compareOp op) (liftCmp X.K C)) (ha : SE X a Wa) (hb : SE X b Wb) (hm : behindInMarks op b = false) :
    SE X (.Compare a [op] [b] pos) (fun ρ S Q => Wa ρ S fun d S1 => Wb ρ S1 fun e S2 => C d e S2 fun k => Q (.bl k) S2) :=
  pe_imp (pe_cmpR ho ha hb hm) fun σ H Q ⟨ρ, S, Q', he, hs, w, f⟩ => lift_bind he hs w fun d v H1 S1 e1 he1 hs1 t1 r1 w1 => lift_bind he1 hs1 w1 fun d2 v2 H2 S2 e2 he2 hs2 t2 r2 w2 =>
    ⟨d, d2, S2, _, Rep.mono t2 _ _ r1, r2, hs2, w2, fun b H3 e3 hs3 q => f (.bl b) _ H3 S2 ((e1.trans e2).trans e3) hs3 (rep_bl.mpr rfl) q⟩
theorem st_cmp {op : CmpOp} {C : D → D → Sto → (Bool → Prop) → Prop} (ho : OpR X (compareOp op) (liftCmp X.K C)) (ha : SE X a Wa) (hb : SE X b Wb) (hm : behindInMarks op b = false) :
    ST X (.Compare a [op] [b] pos) (fun ρ S Q => Wa ρ S fun d S1 => Wb ρ S1 fun e S2 => C d e S2 fun k => Q k S2) :=
  pt_imp (pt_cmpR ho ha hb hm) fun σ H Q ⟨ρ, S, Q', he, hs, w, f⟩ => lift_bind he hs w fun d v H1 S1 e1 he1 hs1 t1 r1 w1 => lift_bind he1 hs1 w1 fun d2 v2 H2 S2 e2 he2 hs2 t2 r2 w2 =>
    ⟨d, d2, S2, _, Rep.mono t2 _ _ r1, r2, hs2, w2, fun b H3 e3 hs3 q => ⟨b, rfl, f b H3 S2 ((e1.trans e2).trans e3) hs3 q⟩⟩
theorem se_chn {op op' : CmpOp} {C C' : D → D → Sto → (Bool → Prop) → Prop} (ho : OpR X (compareOp op) (liftCmp X.K C)) (ho' : OpR X (compareOp op') (liftCmp X.K C')) (ha : SE X a Wa) (hb : SE X b Wb) (hc : SE X c Wc) (hm : lastMarks [op, op'] [b, c] = false) :
    SE X (.Compare a [op, op'] [b, c] pos) (fun ρ S Q => Wa ρ S fun d S1 => Wb ρ S1 fun e S2 => C d e S2 fun k => if k = true then Wc ρ S2 fun f S3 => C' e f S3 fun k => Q (.bl k) S3 else Q (.bl false) S2) :=
  pe_imp (pe_chain ho ho' ha hb hc hm) fun σ H Q ⟨ρ, S, Q', he, hs, w, f⟩ => lift_bind he hs w fun d v H1 S1 e1 he1 hs1 t1 r1 w1 => lift_bind he1 hs1 w1 fun d2 v2 H2 S2 e2 he2 hs2 t2 r2 w2 =>
    ⟨d, d2, S2, _, Rep.mono t2 _ _ r1, r2, hs2, w2, fun b H3 e3 hs3 q => ⟨b, rfl, by
      have e03 := (e1.trans e2).trans e3
      have t3 := e3.tups hs2
      have he3 := he2.mono t3
      cases b with
      | false => exact iteF ((f.after e03).bl hs3 (by simpa using q))
      | true => exact iteT (lift_bind he3 hs3 (by simpa using q) fun d3 v3 H4 S4 e4 he4 hs4 t4 r4 w4 => ⟨d2, d3, S4, _, Rep.mono t4 _ _ (Rep.mono t3 _ _ r2), r4, hs4, w4, fun b H5 e5 hs5 q => f (.bl b) _ H5 S4 ((e03.trans e4).trans e5) hs5 (rep_bl.mpr rfl) q⟩)⟩⟩
theorem st_chn {op op' : CmpOp} {C C' : D → D → Sto → (Bool → Prop) → Prop} (ho : OpR X (compareOp op) (liftCmp X.K C)) (ho' : OpR X (compareOp op') (liftCmp X.K C')) (ha : SE X a Wa) (hb : SE X b Wb) (hc : SE X c Wc) (hm : lastMarks [op, op'] [b, c] = false) :
    ST X (.Compare a [op, op'] [b, c] pos) (fun ρ S Q => Wa ρ S fun d S1 => Wb ρ S1 fun e S2 => C d e S2 fun k => if k = true then Wc ρ S2 fun f S3 => C' e f S3 fun k => Q k S3 else Q false S2) :=
  pt_imp (pt_chain ho ho' ha hb hc hm) fun σ H Q ⟨ρ, S, Q', he, hs, w, f⟩ => lift_bind he hs w fun d v H1 S1 e1 he1 hs1 t1 r1 w1 => lift_bind he1 hs1 w1 fun d2 v2 H2 S2 e2 he2 hs2 t2 r2 w2 =>
    ⟨d, d2, S2, _, Rep.mono t2 _ _ r1, r2, hs2, w2, fun b H3 e3 hs3 q => ⟨b, rfl, by
      have e03 := (e1.trans e2).trans e3
      have t3 := e3.tups hs2
      have he3 := he2.mono t3
      cases b with
      | false => exact iteF ⟨_, rfl, f false H3 S2 e03 hs3 (by simpa using q)⟩
      | true => exact iteT (lift_bind he3 hs3 (by simpa using q) fun d3 v3 H4 S4 e4 he4 hs4 t4 r4 w4 => ⟨d2, d3, S4, _, Rep.mono t4 _ _ (Rep.mono t3 _ _ r2), r4, hs4, w4, fun b H5 e5 hs5 q => ⟨b, rfl, f b H5 S4 ((e03.trans e4).trans e5) hs5 q⟩⟩)⟩⟩
/-! truth -/
theorem st_truth (ha : SE X a Wa) (hp : ∀ whole, isTrue a X.env whole = (do let v ← whole; standAt a.pos; holding [v] (truthy v))) : ST X a (truthOf Wa) :=
  pt_imp (pt_truth ha hp) fun σ H Q ⟨ρ, S, Q', he, hs, w, f⟩ => lift_bind he hs w fun d v H1 S1 e1 he1 hs1 t1 r1 w1 => by
    obtain ⟨k, h1, h2⟩ := truZ hs1 r1 w1
    exact ⟨k, h1, f k H1 S1 e1 hs1 h2⟩
theorem se_not (ha : SE X a Wa) : SE X (.UnaryOp .Not a pos) (fun ρ S Q => Wa ρ S fun d S1 => truC d S1 fun b => Q (.bl (!b)) S1) :=
  pe_imp (pe_notT ha) fun σ H Q ⟨ρ, S, Q', he, hs, w, f⟩ => lift_bind he hs w fun d v H1 S1 e1 he1 hs1 t1 r1 w1 => by
    obtain ⟨k, h1, h2⟩ := truZ hs1 r1 w1
    exact ⟨k, h1, (f.after e1).bl hs1 h2⟩
theorem st_not {Ta : WT} (ha : ST X a Ta) : ST X (.UnaryOp .Not a pos) (fun ρ S Q => Ta ρ S fun b S1 => Q (!b) S1) :=
  pt_imp (pt_not ha) fun σ H Q ⟨ρ, S, Q', he, hs, w, f⟩ => liftT_bind he hs w fun b H1 S1 e1 he1 hs1 w1 => f (!b) H1 S1 e1 hs1 w1
variable {rest : List Expr}
theorem se_and1 {op} (ha : SE X a Wa) : SE X (.BoolOp op [a] pos) Wa := pe_one ha
theorem se_and (ha : SE X a Wa) (hb : SE X (.BoolOp .And (b :: rest) pos) Wb) : SE X (.BoolOp .And (a :: b :: rest) pos) (fun ρ S Q => Wa ρ S fun d S1 => truC d S1 fun k => if k = true then Wb ρ S1 Q else Q d S1) :=
  pe_imp (pe_andT ha hb) fun σ H Q ⟨ρ, S, Q', he, hs, w, f⟩ => lift_bind he hs w fun d v H1 S1 e1 he1 hs1 t1 r1 w1 => by
    obtain ⟨k, h1, h2⟩ := truZ hs1 r1 w1
    refine ⟨k, h1, ?_⟩
    cases k with
    | true => exact iteT ⟨ρ, S1, Q', he1, hs1, by simpa using h2, f.after e1⟩
    | false => exact iteF ((f.after e1).val hs1 r1 (by simpa using h2))
theorem se_or (ha : SE X a Wa) (hb : SE X (.BoolOp .Or (b :: rest) pos) Wb) : SE X (.BoolOp .Or (a :: b :: rest) pos) (fun ρ S Q => Wa ρ S fun d S1 => truC d S1 fun k => if k = true then Q d S1 else Wb ρ S1 Q) :=
  pe_imp (pe_orT ha hb) fun σ H Q ⟨ρ, S, Q', he, hs, w, f⟩ => lift_bind he hs w fun d v H1 S1 e1 he1 hs1 t1 r1 w1 => by
    obtain ⟨k, h1, h2⟩ := truZ hs1 r1 w1
    refine ⟨k, h1, ?_⟩
    cases k with
    | false => exact iteF ⟨ρ, S1, Q', he1, hs1, by simpa using h2, f.after e1⟩
    | true => exact iteT ((f.after e1).val hs1 r1 (by simpa using h2))
theorem sw_and1 {Ta : WT} (ha : ST X a Ta) : SW X (.BoolOp .And [a] pos) Ta := pw_and1 ha
theorem sw_or1 {Ta : WT} (ha : ST X a Ta) : SW X (.BoolOp .Or [a] pos) Ta := pw_or1 ha
theorem sw_and {Ta Tb : WT} (ha : ST X a Ta) (hb : SW X (.BoolOp .And (b :: rest) pos) Tb) : SW X (.BoolOp .And (a :: b :: rest) pos) (fun ρ S Q => Ta ρ S fun k S1 => if k = true then Tb ρ S1 Q else Q false S1) :=
  pw_imp (pw_and ha hb) fun σ H Q ⟨ρ, S, Q', he, hs, w, f⟩ => liftT_bind he hs w fun k H1 S1 e1 he1 hs1 w1 => by
    cases k with
    | true => exact iteT ⟨ρ, S1, Q', he1, hs1, by simpa using w1, f.after e1⟩
    | false => exact iteF (f false H1 S1 e1 hs1 (by simpa using w1))
theorem sw_or {Ta Tb : WT} (ha : ST X a Ta) (hb : SW X (.BoolOp .Or (b :: rest) pos) Tb) : SW X (.BoolOp .Or (a :: b :: rest) pos) (fun ρ S Q => Ta ρ S fun k S1 => if k = true then Q true S1 else Tb ρ S1 Q) :=
  pw_imp (pw_or ha hb) fun σ H Q ⟨ρ, S, Q', he, hs, w, f⟩ => liftT_bind he hs w fun k H1 S1 e1 he1 hs1 w1 => by
    cases k with
    | false => exact iteF ⟨ρ, S1, Q', he1, hs1, by simpa using w1, f.after e1⟩
    | true => exact iteT (f true H1 S1 e1 hs1 (by simpa using w1))
theorem se_ite {Tc : WT} (hc : ST X c Tc) (ha : SE X a Wa) (hb : SE X b Wb) : SE X (.IfExp c a b pos) (fun ρ S Q => Tc ρ S fun k S1 => if k = true then Wa ρ S1 Q else Wb ρ S1 Q) :=
  pe_imp (pe_ifExp hc ha hb) fun σ H Q ⟨ρ, S, Q', he, hs, w, f⟩ => liftT_bind he hs w fun k H1 S1 e1 he1 hs1 w1 => by
    cases k with
    | true => exact iteT ⟨ρ, S1, Q', he1, hs1, by simpa using w1, f.after e1⟩
    | false => exact iteF ⟨ρ, S1, Q', he1, hs1, by simpa using w1, f.after e1⟩
/-! argument lists, displays -/
variable {es : List Expr} {Ws : WA}
theorem sa_nil : SA X [] (fun _ S Q => Q [] S) := pa_imp pa_nil fun σ H Q ⟨ρ, S, Q', he, hs, w, f⟩ => f [] [] H S .refl hs (reps_nil.mpr rfl) w
theorem sa_cons (ha : SE X a Wa) (hr : SA X es Ws) (hst : starEach (a :: es) X.env = (false, eval a X.env) :: starEach es X.env) : SA X (a :: es) (fun ρ S Q => Wa ρ S fun d S1 => Ws ρ S1 fun ds S2 => Q (d :: ds) S2) :=
  pa_imp (pa_cons ha hr hst) fun σ H Q ⟨ρ, S, Q', he, hs, w, f⟩ => lift_bind he hs w fun d v H1 S1 e1 he1 hs1 t1 r1 w1 => liftA_bind he1 hs1 w1 fun ds vs H2 S2 e2 he2 hs2 t2 r2 w2 =>
    f (d :: ds) (v :: vs) H2 S2 (e1.trans e2) hs2 (reps_cons.mpr ⟨v, vs, rfl, Rep.mono t2 _ _ r1, r2⟩) w2
theorem se_tup {k : Nat} (h : SA X es Ws) : SE X (.Tuple es k pos) (fun ρ S Q => Ws ρ S fun ds S1 => ds.length ≤ sizeLine ∧ Q (.tup ds) S1) :=
  pe_imp (pe_tup h) fun σ H Q ⟨ρ, S, Q', he, hs, w, f⟩ => liftA_bind he hs w fun ds vs H1 S1 e1 he1 hs1 t1 r1 w1 => ⟨by rw [r1.length]; exact w1.1, fun p hp => (f.after e1).tup hs1 r1 w1.2 hp⟩
theorem se_lst (h : SA X es Ws) : SE X (.List es pos) (fun ρ S Q => Ws ρ S fun ds S1 => ds.length ≤ sizeLine ∧ ∀ p, S1 p = none → Q (.ref p) (up S1 p (.lst ds))) :=
  pe_imp (pe_lst h) fun σ H Q ⟨ρ, S, Q', he, hs, w, f⟩ => liftA_bind he hs w fun ds vs H1 S1 e1 he1 hs1 t1 r1 w1 => ⟨by rw [r1.length]; exact w1.1, fun p hp => (f.after e1).lst hs1 r1 w1.2 hp⟩
theorem se_dnew : SE X (.Dict [] [] pos) (fun _ S Q => ∀ p, S p = none → Q (.ref p) (up S p (.dic []))) :=
  pe_imp pe_dnewK fun σ H Q ⟨ρ, S, Q', he, hs, w, f⟩ => fun p hp => f.new (u := .dic []) hs hp ⟨[], upd_same, .nil⟩ (w p (hs.fresh hp))
/-! subscripts, slices, fields -/
theorem se_ix (hu : X.A.units + 1 < cLine) (ha : SE X a Wa) (hb : SE X b Wb) (hp : PlainIx b) : SE X (.Subscript a b pos) (fun ρ S Q => Wa ρ S fun d S1 => Wb ρ S1 fun e S2 => ixC d e S2 fun v => Q v S2) :=
  pe_imp (pe_ix (ixz hu) ha hb hp) fun σ H Q ⟨ρ, S, Q', he, hs, w, f⟩ => lift_bind he hs w fun d v H1 S1 e1 he1 hs1 t1 r1 w1 => lift_bind he1 hs1 w1 fun d2 v2 H2 S2 e2 he2 hs2 t2 r2 w2 =>
    ⟨d, d2, S2, Q', Rep.mono t2 _ _ r1, r2, hs2, w2, f.after (e1.trans e2)⟩
abbrev WO := Ev → Sto → (Option Int → Sto → Prop) → Prop
def liftO (K : Frag) (W : WO) : TO := fun σ H Q => ∃ ρ S Q', EnvR K H ρ σ ∧ StR K H S ∧ W ρ S Q' ∧ ∀ o H1 S1, Ext H S H1 S1 → StR K H1 S1 → Q' o S1 → Q o H1
theorem po_imp {e : Option Expr} {t t' : TO} (h : PO X e t) (i : ∀ σ H Q, t' σ H Q → t σ H Q) : PO X e t' := ⟨fun pins s σ H Q I w => h.run pins s σ H Q I (i σ H Q w)⟩
theorem so_none : PO X none (liftO X.K fun _ S Q => Q none S) := po_imp po_none fun σ H Q ⟨ρ, S, Q', he, hs, w, f⟩ => f none H S .refl hs w
theorem so_some (ha : SE X a Wa) : PO X (some a) (liftO X.K fun ρ S Q => Wa ρ S fun d S1 => match d with
    | .int i => Q (some i) S1
    | _ => False) := po_imp (po_some ha) fun σ H Q ⟨ρ, S, Q', he, hs, w, f⟩ => lift_bind he hs w fun d v H1 S1 e1 he1 hs1 t1 r1 w1 => by
  split at w1
  · exact ⟨_, rep_int.mp r1, f _ H1 S1 e1 hs1 w1⟩
  · exact w1.elim
theorem se_sl {lo hi : Option Expr} {p2 : Pos} {Wl Wh : WO} (ha : SE X a Wa) (hl : PO X lo (liftO X.K Wl)) (hh : PO X hi (liftO X.K Wh)) :
    SE X (.Subscript a (.Slice lo hi none p2) pos) (fun ρ S Q => Wa ρ S fun d S1 => Wl ρ S1 fun l S2 => Wh ρ S2 fun h S3 => slC d l h S3 Q) :=
  pe_imp (pe_slice slz ha hl hh) fun σ H Q ⟨ρ, S, Q', he, hs, w, f⟩ => lift_bind he hs w fun d v H1 S1 e1 he1 hs1 t1 r1 w1 => by
    refine ⟨ρ, S1, _, he1, hs1, w1, fun o H2 S2 e2 hs2 w2 => ?_⟩
    have t2 := e2.tups hs1
    have he2 := he1.mono t2
    refine ⟨ρ, S2, _, he2, hs2, w2, fun o3 H3 S3 e3 hs3 w3 => ?_⟩
    have t3 := e3.tups hs2
    exact ⟨d, S3, Q', Rep.mono t3 _ _ (Rep.mono t2 _ _ r1), hs3, w3, f.after ((e1.trans e2).trans e3)⟩
theorem RepKV.lookup {K : Frag} {H : Hp} {fs : List (Str × D)} {vs : List (Str × V)} (r : RepKV K H fs vs) (f : Str) : RelOD K H (fs.lookup f) (vs.lookup f) := by
  unfold RepKV at r
  induction r with
  | nil => exact True.intro
  | @cons p q ps qs h t ih =>
    obtain ⟨p1, p2⟩ := p
    obtain ⟨q1, q2⟩ := q
    obtain ⟨h1, h2⟩ := h
    simp only at h1 h2
    subst h1
    rw [List.lookup_cons, List.lookup_cons]
    split
    · exact h2
    · exact ih
theorem RelOD.some_of {K : Frag} {H : Hp} {o : Option V} {d : D} (r : RelOD K H (some d) o) : ∃ v, o = some v ∧ Rep K H d v := by
  cases o with
  | none => exact r.elim
  | some v => exact ⟨v, rfl, r⟩
theorem RelOD.none_of {K : Frag} {H : Hp} {o : Option V} (r : RelOD K H none o) : o = none := by
  cases o with
  | none => rfl
  | some v => exact r.elim
theorem se_fld {g : G} {f : Str} (hn : ∀ C, g.noat C f = true → Cls X.K (He.ga X.K C) ∧ NoAttr X.K (He.ga X.K C) f) (ha : SE X a Wa) (hb : attributeBase a f X.env (eval a X.env) = eval a X.env) :
    SE X (.Attribute a f pos) (fun ρ S Q => Wa ρ S fun d S1 => fldC g d f S1 fun v => Q v S1) :=
  pe_imp (pe_fld ha hb) fun σ H Q ⟨ρ, S, Q', he, hs, w, fn⟩ => lift_bind he hs w fun d v H1 S1 e1 he1 hs1 t1 r1 w1 => by
    unfold fldC at w1
    split at w1
    · obtain rfl := rep_ref.mp r1
      split at w1
      · rename_i C fs hC
        obtain ⟨dx, vs, h, hr⟩ := hs1 _ _ hC
        obtain ⟨c1, c2⟩ := hn C w1.1
        have w1 := w1.2
        have rl := hr.lookup f
        split at w1
        · rename_i dv hl
          rw [hl] at rl
          obtain ⟨z, hz, rz⟩ := rl.some_of
          exact ⟨_, _, dx, vs, z, rfl, h, c1, c2, hz, (fn.after e1).val hs1 rz w1⟩
        · exact w1.elim
      · exact w1.elim
    · exact w1.elim
/-! calls -/
def spOf (K : Frag) (W : WC) : Sp := fun vs H Q _ => liftC K W vs H Q
theorem se_call0 {CX : CXT} {k : Nat} {f : Addr} {fd : FuncData} {ps : List Str} {W : WC} {x : Str} {p : Pos} (F : FnOk X.prog X.w X.K X.mg X.base CX k f fd ps (spOf X.K W)) (hr : Room k X.A) (hg : Gl X x) (hm : X.mg x = some (.ref f))
    (hk : PySem.W.keepIn X.K (.ref f) = true) (hb : Binds X.K fd ps []) (hx : Passes CX X E0) (hd : (x == ("__debug__" : Str)) = false) : SE X (.Call (.Name x p) [] [] pos) (fun _ S Q => W [] S Q) :=
  pe_imp (pe_call0 (dvs := []) (ds := []) F hr hg hm hk hb .nil hx hd) fun σ H Q ⟨ρ, S, Q', he, hs, w, f⟩ => ⟨[], S, Q', reps_nil.mpr rfl, hs, w, f⟩
theorem se_call {CX : CXT} {k : Nat} {f : Addr} {fd : FuncData} {ps : List Str} {W : WC} {x : Str} {p : Pos} {e : Expr} (F : FnOk X.prog X.w X.K X.mg X.base CX k f fd ps (spOf X.K W)) (hr : Room k X.A) (hg : Gl X x) (hm : X.mg x = some (.ref f))
    (hk : PySem.W.keepIn X.K (.ref f) = true) (hb : Binds X.K fd ps []) (hx : Passes CX X E0) (hd : (x == ("__debug__" : Str)) = false) (h : SA X (e :: es) Ws) (hst : starEach (e :: es) X.env = (false, eval e X.env) :: starEach es X.env)
    (hpl : (backTo pos (starEach es X.env)).any (·.1) = false) : SE X (.Call (.Name x p) (e :: es) [] pos) (fun ρ S Q => Ws ρ S fun ds S1 => W ds S1 Q) :=
  pe_imp (pe_call (dvs := []) (ds := []) F hr hg hm hk hb .nil hx h hd hst hpl) fun σ H Q ⟨ρ, S, Q', he, hs, w, f⟩ => liftA_bind he hs w fun ds vs H1 S1 e1 he1 hs1 t1 r1 w1 => by
      rw [List.append_nil]
      exact ⟨ds, S1, Q', r1, hs1, w1, f.after e1⟩
/-- a new instance -/
theorem made_ext {H : Hp} {S : Sto} {x dx C : Addr} {o : O} (h1 : H x = none) (h2 : H dx = none) : Ext H S (upd (upd H dx (.own x)) x (.ins C dx [])) (up S x o) := fun a u e n => by
  have a1 : a ≠ x := ne_of_none e h1
  have a2 : a ≠ dx := ne_of_none e h2
  exact ⟨by rw [upd_ne a1, upd_ne a2]; exact e, by rw [up_ne a1]; exact n⟩
theorem made_st {K : Frag} {H : Hp} {S : Sto} (s : StR K H S) {x dx : Addr} {C : Str} (h1 : H x = none) (h2 : H dx = none) (h3 : dx ≠ x) : StR K (upd (upd H dx (.own x)) x (.ins (He.ga K C) dx [])) (up S x (.ins C [])) := by
  have s1 : StR K (upd H dx (.own x)) S := s.new h2
  have h4 : (upd H dx (.own x)) x = none := by rw [upd_ne h3.symm]; exact h1
  exact s1.newUp h4 ⟨dx, [], upd_same, .nil⟩
theorem make_post {K : Frag} {H : Hp} {S : Sto} {Q' : PK D} {Q : VK} {x dx : Addr} {C : Str} {W : WC} {ds : List D} {vs : List V} (f : Fin K H S Q' Q) (hs : StR K H S) (r : Reps K H ds vs) (h1 : H x = none) (h2 : H dx = none) (h3 : dx ≠ x)
    (w : ∀ p, S p = none → W (.ref p :: ds) (up S p (.ins C [])) fun d S2 => d matches .non ∧ Q' (.ref p) S2) :
    spOf K W (.ref x :: (vs ++ [])) (upd (upd H dx (.own x)) x (.ins (He.ga K C) dx [])) (fun v H2 => v = .non ∧ Q (.ref x) H2) E0 := by
  rw [List.append_nil]
  have hs2 := made_st (C := C) hs h1 h2 h3
  have ex := made_ext (S := S) (C := He.ga K C) (o := .ins C []) h1 h2
  refine ⟨.ref x :: ds, _, _, reps_cons.mpr ⟨_, _, rfl, rep_ref.mpr rfl, Reps.mono (ex.tups hs) _ _ r⟩, hs2, w x (hs.fresh h1), fun d v H1 S1 e1 s1 r1 q1 => ?_⟩
  obtain ⟨q1, q2⟩ := q1
  cases d with
  | non => exact ⟨rep_non.mp r1, (f.after ex).after e1 |>.val s1 (rep_ref.mpr rfl) q2⟩
  | _ => cases q1
theorem se_make0 {CX : CXT} {k : Nat} {f : Addr} {fd : FuncData} {ps : List Str} {W : WC} {C : Str} {p : Pos} (M : Mk X.K (He.ga X.K C) f) (F : FnOk X.prog X.w X.K X.mg X.base CX k f fd ps (spOf X.K W)) (hr : Room (k + 1) X.A) (hg : Gl X C) (hm : X.mg C = some (.ref (He.ga X.K C)))
    (hb : Binds X.K fd ps []) (hx : Passes CX X E0) (hd : (C == ("__debug__" : Str)) = false) :
    SE X (.Call (.Name C p) [] [] pos) (fun _ S Q => ∀ p, S p = none → W [.ref p] (up S p (.ins C [])) fun d S2 => d matches .non ∧ Q (.ref p) S2) :=
  pe_imp (pe_make0 (dvs := []) (ds := []) M F hr hg hm hb .nil hx hd) fun σ H Q ⟨ρ, S, Q', he, hs, w, f⟩ => fun x dx h1 h2 h3 => make_post (vs := []) f hs (reps_nil.mpr rfl) h1 h2 h3 w
theorem se_make {CX : CXT} {k : Nat} {f : Addr} {fd : FuncData} {ps : List Str} {W : WC} {C : Str} {p : Pos} {e : Expr} (M : Mk X.K (He.ga X.K C) f) (F : FnOk X.prog X.w X.K X.mg X.base CX k f fd ps (spOf X.K W)) (hr : Room (k + 1) X.A) (hg : Gl X C) (hm : X.mg C = some (.ref (He.ga X.K C)))
    (hb : Binds X.K fd ps []) (hx : Passes CX X E0) (hd : (C == ("__debug__" : Str)) = false) (h : SA X (e :: es) Ws) (hst : starEach (e :: es) X.env = (false, eval e X.env) :: starEach es X.env) (hpl : (backTo pos (starEach es X.env)).any (·.1) = false) :
    SE X (.Call (.Name C p) (e :: es) [] pos) (fun ρ S Q => Ws ρ S fun ds S1 => ∀ p, S1 p = none → W (.ref p :: ds) (up S1 p (.ins C [])) fun d S2 => d matches .non ∧ Q (.ref p) S2) :=
  pe_imp (pe_make (dvs := []) (ds := []) M F hr hg hm hb .nil hx h hd hst hpl) fun σ H Q ⟨ρ, S, Q', he, hs, w, f⟩ => liftA_bind he hs w fun ds vs H1 S1 e1 he1 hs1 t1 r1 w1 => fun x dx h1 h2 h3 => make_post (f.after e1) hs1 r1 h1 h2 h3 w1
/-! methods of own classes, by the receiver's class -/
structure MethF (X : Cx) (C m : Str) (W : WC) : Prop where
  ex : ∃ (k : Nat) (f : Addr) (fd : FuncData) (ps : List Str), Cls X.K (He.ga X.K C) ∧ Meth X.K (He.ga X.K C) m f ∧ FnOk X.prog X.w X.K X.mg X.base CX0 k f fd ps (spOf X.K W) ∧ Room k X.A ∧ Binds X.K fd ps []
theorem meth_tree {o : Expr} {m : Str} {apos pos : Pos} {args : List Expr} {env : Env} (hb : attributeBase o m env (eval o env) = eval o env) (hf : methodCallForm args.length (backTo pos (starEach args env)) [] = true) (hl : (apos.endLine == pos.line) = true) :
    eval (.Call (.Attribute o m apos) args [] pos) env = (do
      let ov ← eval o env
      standAt apos.atName
      let (f, first) ← holding [ov] (getMethod ov m (plainOf o env))
      callWith pos f first (backTo pos (starEach args env)) (backToKw pos (keywordEach [] env))) := by
  have e1 : eval (.Call (.Attribute o m apos) args [] pos) env = (do
      let ov ← attributeBase o m env (eval o env)
      standAt apos.atName
      methodCall o m apos pos env ov (args.length + ([] : List Keyword).length) (backTo pos (starEach args env)) (backToKw pos (keywordEach [] env))) := by
    simp only [eval]
  rw [e1, hb]
  congr 1
  funext ov
  congr 1
  funext _
  exact mcall_line hf hl
theorem se_meth0 {g : G} {o : Expr} {Wo : WE} {m : Str} {apos : Pos} (ho : SE X o Wo) (hm : ∀ C, g.ism C m = true → MethF X C m (g.meth C m)) (hb : attributeBase o m X.env (eval o X.env) = eval o X.env)
    (hf : methodCallForm 0 (backTo pos (starEach [] X.env)) [] = true) (hl : (apos.endLine == pos.line) = true) :
    SE X (.Call (.Attribute o m apos) [] [] pos) (fun ρ S Q => Wo ρ S fun d S1 => match d with
      | .ref a => match S1 a with
        | some (.ins C fs) => (g.ism C m = true ∧ fs.lookup m = none) ∧ g.meth C m [.ref a] S1 Q
        | _ => False
      | _ => False) := by
  refine ⟨fun pins s σ H Q I ⟨ρ, S, Q', he, hs, w, f⟩ => ?_⟩
  refine PySem.W.methodCall_KW (pl := plainOf o X.env) (thn (ho.run pins s σ H _ I (lift_bind he hs w fun d v H1 S1 e1 he1 hs1 t1 r1 w1 => show ∃ d S1, Ext H S H1 S1 ∧ StR X.K H1 S1 ∧ Rep X.K H1 d v ∧ _ from ⟨d, S1, e1, hs1, r1, w1⟩)) fun u s1 ⟨x, H1, I1, rx, d, S1, e1, hs1, r1, w1⟩ => ?_) (meth_tree hb hf hl)
  split at w1
  · rename_i a
    obtain rfl := rep_ref.mp r1
    obtain rfl : u = Value.ref a := rx
    split at w1
    · rename_i C fs hC
      obtain ⟨dx, vs, h, hr⟩ := hs1 _ _ hC
      have hl2 := hr.lookup m
      rw [w1.1.2] at hl2
      obtain ⟨k, fa, fd, ps, c1, c2, F, rm, bd⟩ := hm C w1.1.1
      · refine getmeth_ok I1 h c1 c2 hl2.none_of ?_
        exact PySem.W.callWith_K0 (first := [.ref a]) I1.kIn c2.kp (run_fn (us := [.ref a]) (vs := [.ref a]) (dvs := []) (ds := []) F rm bd .nil pass0 I1 (.cons rfl .nil) ⟨[.ref a], S1, Q', reps_cons.mpr ⟨_, _, rfl, rep_ref.mpr rfl, reps_nil.mpr rfl⟩, hs1, w1.2, f.after e1⟩)
    · exact w1.elim
  · exact w1.elim
theorem se_meth {g : G} {o e : Expr} {Wo : WE} {m : Str} {apos : Pos} (ho : SE X o Wo) (hm : ∀ C, g.ism C m = true → MethF X C m (g.meth C m)) (hb : attributeBase o m X.env (eval o X.env) = eval o X.env)
    (hf : methodCallForm (e :: es).length (backTo pos (starEach (e :: es) X.env)) [] = true) (hl : (apos.endLine == pos.line) = true) (h : SA X (e :: es) Ws) (hst : starEach (e :: es) X.env = (false, eval e X.env) :: starEach es X.env) (hpl : (backTo pos (starEach es X.env)).any (·.1) = false) :
    SE X (.Call (.Attribute o m apos) (e :: es) [] pos) (fun ρ S Q => Wo ρ S fun d S1 => match d with
      | .ref a => match S1 a with
        | some (.ins C fs) => (g.ism C m = true ∧ fs.lookup m = none) ∧ Ws ρ S1 fun ds S2 => g.meth C m (.ref a :: ds) S2 Q
        | _ => False
      | _ => False) := by
  refine ⟨fun pins s σ H Q I ⟨ρ, S, Q', he, hs, w, f⟩ => ?_⟩
  refine PySem.W.methodCall_KW (pl := plainOf o X.env) (thn (ho.run pins s σ H _ I (lift_bind he hs w fun d v H1 S1 e1 he1 hs1 t1 r1 w1 => show ∃ d S1, Ext H S H1 S1 ∧ EnvR X.K H1 ρ σ ∧ StR X.K H1 S1 ∧ Rep X.K H1 d v ∧ _ from ⟨d, S1, e1, he1, hs1, r1, w1⟩)) fun u s1 ⟨x, H1, I1, rx, d, S1, e1, he1, hs1, r1, w1⟩ => ?_) (meth_tree hb hf hl)
  split at w1
  · rename_i a
    obtain rfl := rep_ref.mp r1
    obtain rfl : u = Value.ref a := rx
    split at w1
    · rename_i C fs hC
      obtain ⟨dx, vs, hh, hr⟩ := hs1 _ _ hC
      have hl2 := hr.lookup m
      rw [w1.1.2] at hl2
      obtain ⟨k, fa, fd, ps, c1, c2, F, rm, bd⟩ := hm C w1.1.1
      · refine getmeth_ok I1 hh c1 c2 hl2.none_of ?_
        refine PySem.W.callWith_K (first := [.ref a]) (h₀ := X.base) I.ok.mod.kin c2.kp (thn (h.run pos pins s1 σ H1 _ I1 (liftA_bind he1 hs1 w1.2 fun ds vs H2 S2 e2 he2 hs2 t2 r2 w2 => show ∃ ds S2, Ext H1 S1 H2 S2 ∧ StR X.K H2 S2 ∧ Reps X.K H2 ds vs ∧ _ from ⟨ds, S2, e2, hs2, r2, w2⟩)) fun us s2 ⟨vs, H2, I2, r, ds, S2, e2, hs2, r2, w2⟩ => ⟨I2.kIn, ?_⟩) hst hpl
        exact run_fn (us := .ref a :: us) (vs := .ref a :: vs) (dvs := []) (ds := []) F rm bd .nil pass0 I2 (.cons rfl r) (by
          rw [List.append_nil]
          exact ⟨.ref a :: ds, S2, Q', reps_cons.mpr ⟨_, _, rfl, rep_ref.mpr rfl, r2⟩, hs2, w2, (f.after e1).after e2⟩)
    · exact w1.elim
  · exact w1.elim
/-! built-in calls -/
theorem se_bi {b : BF} {e : Expr} {p : Pos} (hc : X.calm = true) (hg : Gl X b.name) (hm : X.mg b.name = none) (h : SA X (e :: es) Ws) (hst : starEach (e :: es) X.env = (false, eval e X.env) :: starEach es X.env) (hpl : (backTo pos (starEach es X.env)).any (·.1) = false) :
    SE X (.Call (.Name b.name p) (e :: es) [] pos) (fun ρ S Q => Ws ρ S fun ds S1 => bfW b ds S1 Q) := by
  have key : ∀ t, PE X (.Call (.Name b.name p) (e :: es) [] pos) (tCB (liftC X.K (bfW b)) t) → (t = liftA X.K Ws) → SE X (.Call (.Name b.name p) (e :: es) [] pos) (fun ρ S Q => Ws ρ S fun ds S1 => bfW b ds S1 Q) := fun t h e => by
    subst e
    exact pe_imp h fun σ H Q ⟨ρ, S, Q', he, hs, w, f⟩ => liftA_bind he hs w fun ds vs H1 S1 e1 he1 hs1 t1 r1 w1 => ⟨ds, S1, Q', r1, hs1, w1, f.after e1⟩
  have hz := bfz hc b
  have nn : b.name ≠ "__name__" := by cases b <;> decide
  have nd : (b.name == ("__debug__" : Str)) = false := by cases b <;> decide
  cases b with
  | len => exact key _ (pe_callB hz hg hm (by decide +kernel) h nn nd hst hpl) rfl
  | abs => exact key _ (pe_callB hz hg hm (by decide +kernel) h nn nd hst hpl) rfl
  | max => exact key _ (pe_callB hz hg hm (by decide +kernel) h nn nd hst hpl) rfl
  | min => exact key _ (pe_callB hz hg hm (by decide +kernel) h nn nd hst hpl) rfl
  | sum => exact key _ (pe_callB hz hg hm (by decide +kernel) h nn nd hst hpl) rfl
  | sorted => exact key _ (pe_callB hz hg hm (by decide +kernel) h nn nd hst hpl) rfl
  | all => exact key _ (pe_callB hz hg hm (by decide +kernel) h nn nd hst hpl) rfl
  | any => exact key _ (pe_callB hz hg hm (by decide +kernel) h nn nd hst hpl) rfl
  | isinstance => exact key _ (pe_callB hz hg hm (by decide +kernel) h nn nd hst hpl) rfl
  | str => exact key _ (pe_callTy hz hg hm (by decide +kernel) h nn nd hst hpl) rfl
  | int => exact key _ (pe_callTy hz hg hm (by decide +kernel) h nn nd hst hpl) rfl
  | tuple => exact key _ (pe_callTy hz hg hm (by decide +kernel) h nn nd hst hpl) rfl
  | list => exact key _ (pe_callTy hz hg hm (by decide +kernel) h nn nd hst hpl) rfl
  | dict => exact key _ (pe_callTy hz hg hm (by decide +kernel) h nn nd hst hpl) rfl
theorem se_bm0 {o : Expr} {Wo : WE} {m : BM} {apos : Pos} (hu : X.A.units + 1 < cLine) (ho : SE X o Wo) (hb : attributeBase o m.name X.env (eval o X.env) = eval o X.env) (hl : (apos.endLine == pos.line) = true) :
    SE X (.Call (.Attribute o m.name apos) [] [] pos) (fun ρ S Q => Wo ρ S fun d S1 => match rcv d S1 with
      | some T => bmT m T = true ∧ bmW m d [] S1 Q
      | none => False) :=
  pe_imp (pe_bmz0 ho hb hl) fun σ H Q ⟨ρ, S, Q', he, hs, w, f⟩ => lift_bind he hs w fun d v H1 S1 e1 he1 hs1 t1 r1 w1 => by
    split at w1
    · rename_i T hT
      obtain ⟨c1, _⟩ := rcv_ok hs1 r1 hT
      obtain ⟨id, bk⟩ := bmz hu m T w1.1
      exact ⟨T, id, _, bk, c1, d, [], S1, Q', r1, reps_nil.mpr rfl, hs1, w1.2, f.after e1⟩
    · exact w1.elim
theorem se_bm {o e : Expr} {Wo : WE} {m : BM} {apos : Pos} (hu : X.A.units + 1 < cLine) (ho : SE X o Wo) (hb : attributeBase o m.name X.env (eval o X.env) = eval o X.env) (hl : (apos.endLine == pos.line) = true)
    (hfew : ((backTo pos (starEach (e :: es) X.env)).all (fun x => !x.1) && (backToKw pos (keywordEach [] X.env)).all (fun x => x.1.isSome)
      && decide ((e :: es).length + ([] : List Keyword).length + (if ([] : List Keyword).isEmpty then 0 else 1) < 30)) = true)
    (h : SA X (e :: es) Ws) (hst : starEach (e :: es) X.env = (false, eval e X.env) :: starEach es X.env) (hpl : (backTo pos (starEach es X.env)).any (·.1) = false) :
    SE X (.Call (.Attribute o m.name apos) (e :: es) [] pos) (fun ρ S Q => Wo ρ S fun d S1 => match rcv d S1 with
      | some T => bmT m T = true ∧ Ws ρ S1 fun ds S2 => bmW m d ds S2 Q
      | none => False) :=
  pe_imp (pe_bmz ho h hb hfew hl hst hpl) fun σ H Q ⟨ρ, S, Q', he, hs, w, f⟩ => lift_bind he hs w fun d v H1 S1 e1 he1 hs1 t1 r1 w1 => by
    split at w1
    · rename_i T hT
      obtain ⟨c1, _⟩ := rcv_ok hs1 r1 hT
      obtain ⟨id, bk⟩ := bmz hu m T w1.1
      exact ⟨T, id, _, bk, c1, liftA_bind he1 hs1 w1.2 fun ds vs H2 S2 e2 he2 hs2 t2 r2 w2 => ⟨d, ds, S2, Q', Rep.mono t2 _ _ r1, r2, hs2, w2, (f.after e1).after e2⟩⟩
    · exact w1.elim
/-! operators by name -/
def bopOk : BOp → Operator → Bool
  | .add, .Add => true | .sub, .Sub => true | .mul, .Mult => true | .fdiv, .FloorDiv => true | .mod, .Mod => true | .pow, .Pow => true
  | _, _ => false
theorem bop_ok {o : BOp} {p : Operator} (h : bopOk o p = true) : OpR X (binaryOp p) (lift2 X.K (bopW o)) := by
  unfold bopOk at h
  split at h
  · exact opz_add
  · exact opz_sub
  · exact opz_mul
  · exact opz_fdiv
  · exact opz_mod
  · exact opz_pow
  · cases h
def copOk : COp → CmpOp → Bool
  | .eq, .Eq => true | .ne, .NotEq => true | .lt, .Lt => true | .le, .LtE => true | .gt, .Gt => true | .ge, .GtE => true | .is, .Is => true | .isn, .IsNot => true | .in_, .In => true | .nin, .NotIn => true
  | _, _ => false
theorem eqC_mono {d e : D} {S : Sto} {P P' : Bool → Prop} (m : ∀ b, P b → P' b) (h : eqC d e S P) : eqC d e S P' := by
  unfold eqC at h ⊢
  split at h
  · exact m _ h
  · exact m _ h
  · exact m _ h
  · obtain ⟨p, q, h1, h2, h3, h4, w⟩ := h
    exact ⟨p, q, h1, h2, h3, h4, m _ w⟩
theorem ltC_mono {d e : D} {P P' : Bool → Prop} (m : ∀ b, P b → P' b) (h : ltC d e P) : ltC d e P' := by
  unfold ltC at h ⊢
  split at h
  · exact m _ h
  · exact m _ h
  · exact h.elim
theorem leC_mono {d e : D} {P P' : Bool → Prop} (m : ∀ b, P b → P' b) (h : leC d e P) : leC d e P' := by
  unfold leC at h ⊢
  split at h
  · exact m _ h
  · exact m _ h
  · exact h.elim
theorem isC_mono {d e : D} {P P' : Bool → Prop} (m : ∀ b, P b → P' b) (h : isC d e P) : isC d e P' := by
  unfold isC at h ⊢
  split at h
  · exact m _ h
  · exact m _ h
  · exact h.elim
theorem inL_mono {d : D} {ds : List D} {P P' : Bool → Prop} (m : ∀ b, P b → P' b) (h : inL d ds P) : inL d ds P' := by
  rcases h with ⟨h1, h2, h⟩ | ⟨p, ps, h1, h2, h3, h4, h⟩
  · exact .inl ⟨h1, h2, m _ h⟩
  · exact .inr ⟨p, ps, h1, h2, h3, h4, m _ h⟩
theorem inC_mono {d e : D} {S : Sto} {P P' : Bool → Prop} (m : ∀ b, P b → P' b) (h : inC d e S P) : inC d e S P' := by
  unfold inC at h ⊢
  split at h
  · split at h
    · exact m _ h
    · exact h.elim
  · exact ⟨h.1, h.2.1, m _ h.2.2⟩
  · split at h
    · exact inL_mono m h
    · split at h
      · exact m _ h
      · exact h.elim
    · exact h.elim
  · exact h.elim
theorem cmpC_mono (o : COp) : ∀ d e S (P P' : Bool → Prop), (∀ b, P b → P' b) → cmpC o d e S P → cmpC o d e S P' := fun d e S P P' m h => by
  cases o with
  | eq => exact eqC_mono m h
  | ne => exact eqC_mono (fun b => m (!b)) h
  | lt => exact ltC_mono m h
  | le => exact leC_mono m h
  | gt => exact ltC_mono m h
  | ge => exact leC_mono m h
  | is => exact isC_mono m h
  | isn => exact isC_mono (fun b => m (!b)) h
  | in_ => exact inC_mono m h
  | nin => exact inC_mono (fun b => m (!b)) h
theorem cop_ok (hu : X.A.units + 65 < cLine) {o : COp} {p : CmpOp} (h : copOk o p = true) : OpR X (compareOp p) (liftCmp X.K (cmpC o)) := by
  refine cmp_of (cmpC_mono o) ?_
  unfold copOk at h
  split at h
  · exact opz_eq (by omega)
  · exact opz_ne (by omega)
  · exact opz_lt
  · exact opz_le
  · exact opz_gt
  · exact opz_ge
  · exact opz_is
  · exact opz_isn
  · exact opz_in hu
  · exact opz_nin hu
  · cases h
end
end Z

/-! ### Z9 -/
/-! Z9: what is walked; targets; comprehensions. -/
namespace Z
open PySem PySem.Spec PyProof.Rows L2 RZ RT
/-- an iterator gives these items while chk holds -/
def ItOk (K : Frag) (H0 : Hp) (J : It) (ds : List D) (chk : Sto → Prop) : Prop := ∀ H S, TupLe K H0 H → StR K H S → chk S →
  (∀ i, i < ds.length → J.go i H) ∧ (∀ i x H' d, J.yld i H x H' → ds[i]? = some d → Ext H S H' S ∧ StR K H' S ∧ Rep K H' d x) ∧ J.stop ds.length H
def liftI (K : Frag) (W : WI) : TI := fun σ H R => ∃ ρ S R', EnvR K H ρ σ ∧ StR K H S ∧ W ρ S R' ∧ ∀ ds chk H1 S1 J, Ext H S H1 S1 → StR K H1 S1 → ItOk K H1 J ds chk → R' ds chk S1 → R J H1
abbrev SI (X : Cx) (tg e : Expr) (W : WI) : Prop := PI X tg e (liftI X.K W)
theorem pi_imp {X : Cx} {tg e : Expr} {t t' : TI} (h : PI X tg e t) (i : ∀ σ H R, t' σ H R → t σ H R) : PI X tg e t' := ⟨fun pins s σ H R I w => h.run pins s σ H R I (i σ H R w)⟩
theorem SqL.inj {K : Frag} {H : Hp} {S : Sto} {a : Addr} {ds : List D} {xs ys : List V} (hs : StR K H S) (h : S a = some (.lst ds)) (h1 : H a = some (.lst xs)) : SqL K H a xs := .inl (.inl h1)
theorem itok_tup {K : Frag} {H0 : Hp} {a : Addr} {xs : List V} {ds : List D} (t : SqT K H0 a xs) (r : Reps K H0 ds xs) : ItOk K H0 (Itt K a) ds fun _ => True := fun H S tl hs _ => by
  have hr := Reps.mono tl _ _ r
  refine ⟨fun i hi => ?_, fun i x H' d y e => ?_, ⟨xs, (tl _ _).1 t, by rw [r.length]; exact Nat.le_refl _⟩⟩
  · obtain ⟨v, hv, _⟩ := hr.get (List.getElem?_eq_getElem hi)
    exact ⟨xs, v, (tl _ _).1 t, hv⟩
  · obtain ⟨rfl, y⟩ := y
    obtain ⟨v, hv, rv⟩ := hr.get e
    rw [y xs ((tl _ _).1 t)] at hv
    cases hv
    exact ⟨.refl, hs, rv⟩
theorem itok_list {K : Frag} {H0 : Hp} {a : Addr} {ds : List D} {chk : Sto → Prop} (hc : ∀ H S, StR K H S → chk S → ∃ xs, SqL K H a xs ∧ Reps K H ds xs) : ItOk K H0 (Itl K a) ds chk := fun H S tl hs c => by
  obtain ⟨xs, t, hr⟩ := hc H S hs c
  refine ⟨fun i hi => ?_, fun i x H' d y e => ?_, ⟨xs, t, by rw [hr.length]; exact Nat.le_refl _⟩⟩
  · obtain ⟨v, hv, _⟩ := hr.get (List.getElem?_eq_getElem hi)
    exact ⟨xs, v, t, hv⟩
  · obtain ⟨rfl, y⟩ := y
    obtain ⟨v, hv, rv⟩ := hr.get e
    rw [y xs t] at hv
    cases hv
    exact ⟨.refl, hs, rv⟩
theorem chk_lst {K : Frag} {a : Addr} {ds : List D} : ∀ H S, StR K H S → S a = some (.lst ds) → ∃ xs, SqL K H a xs ∧ Reps K H ds xs := fun H S hs h => by
  obtain ⟨xs, h1, r⟩ := hs _ _ h
  exact ⟨xs, .inl (.inl h1), r⟩
theorem itok_str {K : Frag} {H0 : Hp} (x : Str) : ItOk K H0 (Its x) (x.cps.toList.map fun c => D.str ⟨#[c]⟩) fun _ => True := fun H S tl hs _ => by
  refine ⟨fun i hi => by simpa [Its] using hi, fun i v H' d y e => ?_, by simp [Its]⟩
  obtain ⟨rfl, c, hc, rfl⟩ := y
  rw [List.getElem?_map, Array.getElem?_toList, hc] at e
  cases e
  exact ⟨.refl, hs, rep_str.mpr rfl⟩
theorem itok_rng {K : Frag} {H0 : Hp} (lo : Int) (n : Nat) : ItOk K H0 (Itr lo n) (rngD lo n) fun _ => True := fun H S tl hs _ => by
  refine ⟨fun i hi => by simpa [Itr, rngD] using hi, fun i v H' d y e => ?_, by simp [Itr, rngD]⟩
  obtain ⟨rfl, rfl⟩ := y
  unfold rngD at e
  rw [List.getElem?_map] at e
  cases hr : (List.range n)[i]? with
  | none => rw [hr] at e; cases e
  | some j =>
    rw [hr] at e
    cases e
    have : j = i := by
      rw [List.getElem?_range] at hr
      · exact (Option.some.inj hr).symm
      · have := (List.getElem?_eq_some_iff.mp hr).1
        simpa using this
    subst this
    exact ⟨.refl, hs, rep_int.mpr rfl⟩
theorem itok_enum {K : Frag} {H0 : Hp} {a : Addr} {ds : List D} {chk : Sto → Prop} (hc : ∀ H S, StR K H S → chk S → ∃ xs, SqL K H a xs ∧ Reps K H ds xs) : ItOk K H0 (Ite K a) (enumD ds) chk := fun H S tl hs c => by
  obtain ⟨xs, t, hr⟩ := hc H S hs c
  have hl : (enumD ds).length = ds.length := by unfold enumD; simp
  refine ⟨fun i hi => ?_, fun i x H' d y e => ?_, ⟨xs, t, by rw [hr.length, hl]; exact Nat.le_refl _⟩⟩
  · rw [hl] at hi
    obtain ⟨v, hv, _⟩ := hr.get (List.getElem?_eq_getElem hi)
    exact ⟨xs, v, t, hv⟩
  · obtain ⟨T, z, rfl, nT, rfl, y⟩ := y
    have hv := y xs t
    obtain ⟨d0, hd0, rd0⟩ := hr.get' hv
    have ed : d = .tup [.int ((i : Nat) : Int), d0] := by
      unfold enumD at e
      rw [List.getElem?_map, List.getElem?_zipIdx, hd0] at e
      cases e
      simp
    subst ed
    have tn := tupLe_new (K := K) (o := .tup [.int ((i : Nat) : Int), z]) nT
    exact ⟨ext_new nT, hs.new nT, rep_tup.mpr ⟨T, _, rfl, .inl (.inl upd_same), reps_cons.mpr ⟨_, _, rfl, rep_int.mpr rfl, reps_cons.mpr ⟨_, _, rfl, Rep.mono tn _ _ rd0, reps_nil.mpr rfl⟩⟩⟩⟩
theorem itok_zip_aux {K : Frag} {H : Hp} {S : Sto} {T : Addr} {x y : V} {d e : D} (hs : StR K H S) (nT : H T = none) (rd : Rep K H d x) (re : Rep K H e y) : Ext H S (upd H T (.tup [x, y])) S ∧ StR K (upd H T (.tup [x, y])) S ∧ Rep K (upd H T (.tup [x, y])) (.tup [d, e]) (.ref T) := by
  have tn := tupLe_new (K := K) (o := .tup [x, y]) nT
  exact ⟨ext_new nT, hs.new nT, rep_tup.mpr ⟨T, _, rfl, .inl (.inl upd_same), reps_cons.mpr ⟨_, _, rfl, Rep.mono tn _ _ rd, reps_cons.mpr ⟨_, _, rfl, Rep.mono tn _ _ re, reps_nil.mpr rfl⟩⟩⟩⟩
theorem zipD_get {ds es : List D} {i : Nat} {d : D} (h : (zipD ds es)[i]? = some d) : ∃ a b, ds[i]? = some a ∧ es[i]? = some b ∧ d = .tup [a, b] := by
  unfold zipD at h
  rw [List.getElem?_map] at h
  cases hz : (ds.zip es)[i]? with
  | none => rw [hz] at h; cases h
  | some p =>
    rw [hz] at h
    cases h
    obtain ⟨h1, h2⟩ := List.getElem?_zip_eq_some.mp hz
    exact ⟨_, _, h1, h2, rfl⟩
theorem zipD_len {ds es : List D} : (zipD ds es).length = min ds.length es.length := by unfold zipD; simp
theorem itok_zipT {K : Frag} {H0 : Hp} {a b : Addr} {xs ys : List V} {ds es : List D} (t : SqT K H0 a xs) (r : Reps K H0 ds xs) (t2 : SqT K H0 b ys) (r2 : Reps K H0 es ys) : ItOk K H0 (ItzT K a b) (zipD ds es) fun _ => True := fun H S tl hs _ => by
  have hr := Reps.mono tl _ _ r
  have hr2 := Reps.mono tl _ _ r2
  refine ⟨fun i hi => ?_, fun i x H' d y e => ?_, ⟨xs, ys, (tl _ _).1 t, (tl _ _).1 t2, ?_⟩⟩
  · rw [zipD_len] at hi
    obtain ⟨v, hv, _⟩ := hr.get (List.getElem?_eq_getElem (show i < ds.length by omega))
    obtain ⟨u, hu, _⟩ := hr2.get (List.getElem?_eq_getElem (show i < es.length by omega))
    exact ⟨xs, ys, v, u, (tl _ _).1 t, (tl _ _).1 t2, hv, hu⟩
  · obtain ⟨T, x1, x2, rfl, nT, rfl, y1, y2⟩ := y
    obtain ⟨d1, d2, h1, h2, rfl⟩ := zipD_get e
    obtain ⟨v, hv, rv⟩ := hr.get h1
    obtain ⟨u, hu, ru⟩ := hr2.get h2
    rw [y1 xs ((tl _ _).1 t)] at hv
    rw [y2 ys ((tl _ _).1 t2)] at hu
    cases hv; cases hu
    exact itok_zip_aux hs nT rv ru
  · rw [zipD_len, r.length, r2.length]; omega
theorem itok_zipL {K : Frag} {H0 : Hp} {a b : Addr} {ds es : List D} {c1 c2 : Sto → Prop} (hc : ∀ H S, StR K H S → c1 S → ∃ xs, SqL K H a xs ∧ Reps K H ds xs) (hc2 : ∀ H S, StR K H S → c2 S → ∃ xs, SqL K H b xs ∧ Reps K H es xs) : ItOk K H0 (Itz K a b) (zipD ds es) fun S => c1 S ∧ c2 S := fun H S tl hs c => by
  obtain ⟨xs, t, hr⟩ := hc H S hs c.1
  obtain ⟨ys, t2, hr2⟩ := hc2 H S hs c.2
  refine ⟨fun i hi => ?_, fun i x H' d y e => ?_, ⟨xs, ys, t, t2, ?_⟩⟩
  · rw [zipD_len] at hi
    obtain ⟨v, hv, _⟩ := hr.get (List.getElem?_eq_getElem (show i < ds.length by omega))
    obtain ⟨u, hu, _⟩ := hr2.get (List.getElem?_eq_getElem (show i < es.length by omega))
    exact ⟨xs, ys, v, u, t, t2, hv, hu⟩
  · obtain ⟨T, x1, x2, rfl, nT, rfl, y1, y2⟩ := y
    obtain ⟨d1, d2, h1, h2, rfl⟩ := zipD_get e
    obtain ⟨v, hv, rv⟩ := hr.get h1
    obtain ⟨u, hu, ru⟩ := hr2.get h2
    rw [y1 xs t] at hv
    rw [y2 ys t2] at hu
    cases hv; cases hu
    exact itok_zip_aux hs nT rv ru
  · rw [zipD_len, hr.length, hr2.length]; omega
theorem rev_get {α : Type} {xs : List α} {n i : Nat} (hn : xs.length = n) (hi : i < n) : xs.reverse[i]? = xs[n - 1 - i]? := by
  subst hn
  rw [List.getElem?_reverse hi]
theorem itok_revT {K : Frag} {H0 : Hp} {a : Addr} {xs : List V} {ds : List D} (t : SqT K H0 a xs) (r : Reps K H0 ds xs) : ItOk K H0 (ItvT K a xs.length) ds.reverse fun _ => True := fun H S tl hs _ => by
  have hr := Reps.mono tl _ _ r
  have hl := r.length
  refine ⟨fun i hi => ?_, fun i x H' d y e => ?_, ?_⟩
  · rw [List.length_reverse] at hi
    obtain ⟨v, hv, _⟩ := hr.get (List.getElem?_eq_getElem (show xs.length - 1 - i < ds.length by omega))
    exact ⟨by omega, xs, v, (tl _ _).1 t, hv⟩
  · obtain ⟨rfl, y⟩ := y
    have hi := (List.getElem?_eq_some_iff.mp e).1
    rw [List.length_reverse] at hi
    rw [rev_get hl.symm (by omega)] at e
    obtain ⟨v, hv, rv⟩ := hr.get e
    rw [y xs ((tl _ _).1 t)] at hv
    cases hv
    exact ⟨.refl, hs, rv⟩
  · show xs.length ≤ ds.reverse.length
    rw [List.length_reverse, hl]; exact Nat.le_refl _
theorem itok_revL {K : Frag} {H0 : Hp} {a : Addr} {n : Nat} {ds : List D} {chk : Sto → Prop} (hn : n = ds.length) (hc : ∀ H S, StR K H S → chk S → ∃ xs, SqL K H a xs ∧ Reps K H ds xs) : ItOk K H0 (Itv K a n) ds.reverse chk := fun H S tl hs c => by
  obtain ⟨xs, t, hr⟩ := hc H S hs c
  have hl := hr.length
  refine ⟨fun i hi => ?_, fun i x H' d y e => ?_, ?_⟩
  · rw [List.length_reverse] at hi
    obtain ⟨v, hv, _⟩ := hr.get (List.getElem?_eq_getElem (show n - 1 - i < ds.length by omega))
    exact ⟨by omega, xs, v, t, hv⟩
  · obtain ⟨rfl, y⟩ := y
    have hi := (List.getElem?_eq_some_iff.mp e).1
    rw [List.length_reverse] at hi
    rw [rev_get hn.symm (by omega)] at e
    obtain ⟨v, hv, rv⟩ := hr.get e
    rw [y xs t] at hv
    cases hv
    exact ⟨.refl, hs, rv⟩
  · show n ≤ ds.reverse.length
    rw [List.length_reverse, hn]; exact Nat.le_refl _
section
variable {X : Cx} {tg a b : Expr} {Wa Wb : WE} {pos p : Pos}
theorem si_val (ha : SE X a Wa) : SI X tg a (fun ρ S R => Wa ρ S fun d S1 => walkC d S1 fun ds chk => R ds chk S1) := by
  refine ⟨fun pins s σ H R I ⟨ρ, S, R', he, hs, w, f⟩ => ?_⟩
  refine thn (ha.run pins s σ H _ I (lift_bind he hs w fun d v H1 S1 e1 he1 hs1 t1 r1 w1 => show ∃ d S1, Ext H S H1 S1 ∧ StR X.K H1 S1 ∧ Rep X.K H1 d v ∧ _ from ⟨d, S1, e1, hs1, r1, w1⟩)) fun v s1 ⟨x, H1, I1, rx, d, S1, e1, hs1, r1, w1⟩ => ?_
  unfold walkC at w1
  have list : ∀ {a : Addr} {xs : List V} {ds : List D} {chk : Sto → Prop}, x = .ref a → SqL X.K H1 a xs → (∀ H S, StR X.K H S → chk S → ∃ xs, SqL X.K H a xs ∧ Reps X.K H ds xs) → R' ds chk S1 → wpAny (model X.prog X.w) X.A (pyIter v) (PIE X pins σ tg R) X.xe s1 := fun {a xs ds chk} ex hq hc w1 => by
    subst ex
    cases rx
    obtain ⟨its, rv, p, hz⟩ := I1.list hq
    refine wpAny_pyIter_list p.isList ?_
    refine ⟨s1.heap.objs.size, [s1.heap.objs.size], _, _, H1, rfl, I1.kept (t' := s1.toks) fun b o e => Heap.get?_push_of_some _ e, turn_list a _, ⟨_, Heap.get?_push_size _ rfl, rfl, rfl⟩, fun b hb => ?_, f _ _ H1 S1 _ e1 hs1 (itok_list hc) w1⟩
    have e : b = s1.heap.objs.size := by simpa using hb
    subst e
    exact I1.fpOk (Nat.le_refl _) (I1.hok.fresh (Nat.le_refl _))
  split at w1
  · obtain ⟨a, xs, rfl, hq, hr⟩ := rep_tup.mp r1
    cases rx
    obtain ⟨its, rv, p, hz⟩ := I1.tuple hq
    refine wpAny_pyIter_tuple (show s1.heap.IsTuple a its.toArray from p) ?_
    refine ⟨s1.heap.objs.size, [s1.heap.objs.size], _, _, H1, rfl, I1.kept (t' := s1.toks) fun b o e => Heap.get?_push_of_some _ e, turn_tuple a _, ⟨_, Heap.get?_push_size _ rfl, rfl, rfl⟩, fun b hb => ?_, f _ _ H1 S1 _ e1 hs1 (itok_tup hq hr) w1⟩
    have e : b = s1.heap.objs.size := by simpa using hb
    subst e
    exact I1.fpOk (Nat.le_refl _) (I1.hok.fresh (Nat.le_refl _))
  · rename_i z
    obtain rfl := rep_str.mp r1
    obtain ⟨t, rfl⟩ := rx
    have q := f _ _ H1 S1 _ e1 hs1 (itok_str z) w1
    cases ha : z.cps.all (· < 128)
    · exact wpAny_pyIter_wide ha (pi_one (tk := s1.toks) I1 _ (turn_str _ z t "str_iterator" (.inr rfl)) ⟨_, Heap.get?_push_size _ rfl, rfl, rfl⟩ q)
    · exact wpAny_pyIter_ascii ha (pi_one (tk := s1.toks) I1 _ (turn_str _ z t "str_ascii_iterator" (.inl rfl)) ⟨_, Heap.get?_push_size _ rfl, rfl, rfl⟩ q)
  · obtain rfl := rep_ref.mp r1
    split at w1
    · rename_i hC
      obtain ⟨xs, h, hr⟩ := hs1 _ _ hC
      exact list rfl (.inl (.inl h)) chk_lst w1
    · exact w1.elim
  · exact w1.elim
theorem si_rng1 (hg : Gl X "range") (hm : X.mg "range" = none) (ha : SE X a Wa) (hs : starEach [a] X.env = [(false, eval a X.env)]) : SI X tg (.Call (.Name "range" p) [a] [] pos) (fun ρ S R => Wa ρ S fun d S1 => match d with
    | .int n => (-(2 ^ 62) ≤ n ∧ n < 2 ^ 62) ∧ R (rngD 0 n.toNat) (fun _ => True) S1
    | _ => False) :=
  pi_imp (pi_range1 hg hm (pa_cons ha pa_nil (by rw [hs] <;> simp [starEach])) hs) fun σ H R ⟨ρ, S, R', he, hs, w, f⟩ => lift_bind he hs w fun d v H1 S1 e1 he1 hs1 t1 r1 w1 => by
    split at w1
    · obtain rfl := rep_int.mp r1
      exact ⟨_, rfl, w1.1.1, w1.1.2, f _ _ H1 S1 _ e1 hs1 (itok_rng 0 _) w1.2⟩
    · exact w1.elim
theorem si_rng2 (hg : Gl X "range") (hm : X.mg "range" = none) (ha : SE X a Wa) (hb : SE X b Wb) (hs : starEach [a, b] X.env = [(false, eval a X.env), (false, eval b X.env)]) (hs2 : starEach [b] X.env = [(false, eval b X.env)]) :
    SI X tg (.Call (.Name "range" p) [a, b] [] pos) (fun ρ S R => Wa ρ S fun d S1 => Wb ρ S1 fun e S2 => match d, e with
    | .int m, .int n => ((-(2 ^ 62) ≤ m ∧ m < 2 ^ 62) ∧ -(2 ^ 62) ≤ n ∧ n < 2 ^ 62) ∧ R (rngD m (n - m).toNat) (fun _ => True) S2
    | _, _ => False) :=
  pi_imp (pi_range2 hg hm (pa_cons ha (pa_cons hb pa_nil (by rw [hs2] <;> simp [starEach])) (by rw [hs, hs2])) hs hs2) fun σ H R ⟨ρ, S, R', he, hs, w, f⟩ => lift_bind he hs w fun d v H1 S1 e1 he1 hs1 t1 r1 w1 => lift_bind he1 hs1 w1 fun d2 v2 H2 S2 e2 he2 hs2 t2 r2 w2 => by
    split at w2
    · obtain rfl := rep_int.mp r1
      obtain rfl := rep_int.mp r2
      obtain ⟨⟨⟨c1, c2⟩, c3, c4⟩, w2⟩ := w2
      exact ⟨_, _, rfl, ⟨c1, c2, c3, c4⟩, f _ _ H2 S2 _ (e1.trans e2) hs2 (itok_rng _ _) w2⟩
    · exact w2.elim
theorem walkL_ok {K : Frag} {H : Hp} {S : Sto} (hs : StR K H S) {d : D} {v : V} {R : List D → (Sto → Prop) → Prop} (r : Rep K H d v) (w : walkL d S R) : ∃ a xs ds chk, v = .ref a ∧ SqL K H a xs ∧ Reps K H ds xs ∧ (∀ H S, StR K H S → chk S → ∃ xs, SqL K H a xs ∧ Reps K H ds xs) ∧ R ds chk := by
  unfold walkL at w
  split at w
  · split at w
    · rename_i hC
      obtain ⟨xs, h, hr⟩ := hs _ _ hC
      exact ⟨_, xs, _, _, rep_ref.mp r, .inl (.inl h), hr, chk_lst, w⟩
    · exact w.elim
  · exact w.elim
theorem si_enum {elts : List Expr} {kk : Nat} {tpos : Pos} (hg : Gl X "enumerate") (hm : X.mg "enumerate" = none) (ha : SE X a Wa) (hs : starEach [a] X.env = [(false, eval a X.env)]) :
    SI X (.Tuple elts kk tpos) (.Call (.Name "enumerate" p) [a] [] pos) (fun ρ S R => Wa ρ S fun d S1 => walkL d S1 fun ds chk => R (enumD ds) chk S1) :=
  pi_imp (pi_enum hg hm (pa_cons ha pa_nil (by rw [hs] <;> simp [starEach])) hs) fun σ H R ⟨ρ, S, R', he, hs, w, f⟩ => lift_bind he hs w fun d v H1 S1 e1 he1 hs1 t1 r1 w1 => by
    obtain ⟨a, xs, ds, chk, rfl, hq, hr, hc, w1⟩ := walkL_ok hs1 r1 w1
    exact ⟨a, xs, rfl, hq, f _ _ H1 S1 _ e1 hs1 (itok_enum hc) w1⟩
theorem si_zip {elts : List Expr} {kk : Nat} {tpos : Pos} (hg : Gl X "zip") (hm : X.mg "zip" = none) (ha : SE X a Wa) (hb : SE X b Wb) (hs : starEach [a, b] X.env = (false, eval a X.env) :: starEach [b] X.env) (hs2 : starEach [b] X.env = [(false, eval b X.env)]) :
    SI X (.Tuple elts kk tpos) (.Call (.Name "zip" p) [a, b] [] pos) (fun ρ S R => Wa ρ S fun d S1 => Wb ρ S1 fun e S2 => zipC d e S2 fun ds chk => R ds chk S2) :=
  pi_imp (pi_zipA hg hm (pa_cons ha (pa_cons hb pa_nil (by rw [hs2] <;> simp [starEach])) hs) hs (by rw [hs2]; simp [backTo])) fun σ H R ⟨ρ, S, R', he, hs, w, f⟩ => lift_bind he hs w fun d v H1 S1 e1 he1 hs1 t1 r1 w1 => lift_bind he1 hs1 w1 fun d2 v2 H2 S2 e2 he2 hs2 t2 r2 w2 => by
    have r1' := Rep.mono t2 _ _ r1
    unfold zipC at w2
    split at w2
    · obtain ⟨a, xs, rfl, hq, hr⟩ := rep_tup.mp r1'
      obtain ⟨b, ys, rfl, hq2, hr2⟩ := rep_tup.mp r2
      exact ⟨a, b, xs, ys, rfl, .inr ⟨hq, hq2, f _ _ H2 S2 _ (e1.trans e2) hs2 (itok_zipT hq hr hq2 hr2) w2⟩⟩
    · obtain ⟨a, xs, ds, c1, rfl, hq, hr, hc, w3⟩ := walkL_ok hs2 r1' w2
      obtain ⟨b, ys, es, c2, rfl, hq2, hr2, hc2, w4⟩ := walkL_ok hs2 r2 w3
      exact ⟨a, b, xs, ys, rfl, .inl ⟨hq, hq2, f _ _ H2 S2 _ (e1.trans e2) hs2 (itok_zipL hc hc2) w4⟩⟩
theorem si_rev (hg : Gl X "reversed") (hm : X.mg "reversed" = none) (ha : SE X a Wa) (hs : starEach [a] X.env = (false, eval a X.env) :: starEach [] X.env) :
    SI X tg (.Call (.Name "reversed" p) [a] [] pos) (fun ρ S R => Wa ρ S fun d S1 => walkLT d S1 fun ds chk => R ds.reverse chk S1) :=
  pi_imp (pi_revA hg hm ha hs) fun σ H R ⟨ρ, S, R', he, hs, w, f⟩ => lift_bind he hs w fun d v H1 S1 e1 he1 hs1 t1 r1 w1 => by
    unfold walkLT at w1
    split at w1
    · obtain ⟨a, xs, rfl, hq, hr⟩ := rep_tup.mp r1
      exact ⟨a, xs, rfl, .inr ⟨hq, f _ _ H1 S1 _ e1 hs1 (itok_revT hq hr) w1⟩⟩
    · obtain ⟨a, xs, ds, chk, rfl, hq, hr, hc, w1⟩ := walkL_ok hs1 r1 w1
      exact ⟨a, xs, rfl, .inl ⟨hq, f _ _ H1 S1 _ e1 hs1 (itok_revL hr.length hc) w1⟩⟩
theorem se_trev {e : Expr} {We : WE} {p p2 pos2 : Pos} (hc : X.calm = true) (hg : Gl X "tuple") (hm : X.mg "tuple" = none) (hg2 : Gl X "reversed") (hm2 : X.mg "reversed" = none) (he : SE X e We) (hs : starEach [e] X.env = (false, eval e X.env) :: starEach [] X.env) :
    SE X (.Call (.Name "tuple" p) [.Call (.Name "reversed" p2) [e] [] pos2] [] pos) (fun ρ S Q => We ρ S fun d S1 => match itemsL S1 d with
      | some ds => Q (.tup ds.reverse) S1
      | none => False) :=
  pe_imp (pe_tupRev hc hg hm hg2 hm2 he hs) fun σ H Q ⟨ρ, S, Q', he, hs, w, f⟩ => lift_bind he hs w fun d v H1 S1 e1 he1 hs1 t1 r1 w1 => by
    split at w1
    · rename_i hi
      obtain ⟨a, xs, rfl, hl, hr⟩ := itemsL_ok hs1 r1 hi
      exact ⟨a, xs, rfl, hl, fun q hq => (f.after e1).tup hs1 hr.reverse w1 hq⟩
    · exact w1.elim
end
end Z

/-! ### Z10 -/
/-! Z10: targets, comprehensions, statements. -/
namespace Z
open PySem PySem.Spec PyProof.Rows L2
/-! ### targets -/
mutual
def tgSl : Tg → List Nat
  | .v i => [i]
  | .t ts => tgSls ts
def tgSls : Tgs → List Nat
  | .nil => []
  | .cons t r => tgSl t ++ tgSls r
end
mutual
def gTg (K : Frag) : Tg → TG
  | .v i => gName i
  | .t ts => gTup K (tgLen ts) (gTgs K ts)
def gTgs (K : Frag) : Tgs → TGs
  | .nil => gNil
  | .cons t r => gCons (gTg K t) (gTgs K r)
end
theorem wipe_set {σ : L2.St} {i : Nat} {x : Option V} : ∀ {vs : List Nat}, i ∈ vs → wipe (σ.set i x) vs = wipe σ vs
  | v :: vs, h => by
    unfold wipe
    by_cases hi : i ∈ vs
    · rw [wipe_set hi]
    · rcases List.mem_cons.mp h with e | e
      · subst e
        have key : ∀ (us : List Nat) (σ : L2.St), (wipe (σ.set i x) us).set i none = (wipe σ us).set i none := by
          intro us
          induction us with
          | nil => intro σ; simp [wipe]
          | cons u us ih =>
            intro σ
            unfold wipe
            by_cases hu : u = i
            · subst hu
              rw [List.set_set, List.set_set]
              exact ih σ
            · rw [List.set_comm _ _ hu, ih σ, List.set_comm _ _ (Ne.symm hu)]
        exact key vs σ
      · exact absurd e hi
theorem wipe_wipe {σ : L2.St} : ∀ {us vs : List Nat}, (∀ i ∈ us, i ∈ vs) → L2.wipe (L2.wipe σ us) vs = L2.wipe σ vs
  | [], vs, _ => rfl
  | u :: us, vs, h => by
    rw [show L2.wipe σ (u :: us) = (L2.wipe σ us).set u none from rfl, wipe_set (h u List.mem_cons_self)]
    exact wipe_wipe fun i hi => h i (List.mem_cons_of_mem _ hi)
theorem EnvR.wipe {K : Frag} {H : Hp} {ρ : Ev} {σ : L2.St} (e : EnvR K H ρ σ) : ∀ vs : List Nat, EnvR K H (wipeE ρ vs) (wipe σ vs)
  | [] => e
  | v :: vs => by
    have ih := EnvR.wipe e vs
    refine ⟨by unfold wipeE L2.wipe; simp [ih.1], fun i d h => ?_⟩
    unfold wipeE at h
    unfold L2.wipe
    by_cases hv : v = i
    · subst hv
      by_cases hl : v < (wipeE ρ vs).length
      · rw [List.getElem?_set_self hl] at h; cases h
      · rw [List.getElem?_eq_none (by simpa using hl)] at h; cases h
    · rw [List.getElem?_set_ne hv] at h ⊢
      exact ih.2 i d h
mutual
theorem gTg_ok {K : Frag} {H : Hp} : ∀ (t : Tg) (d : D) (v : V) (ρ : Ev) (σ : L2.St) (k : Ev → Prop) (Q : L2.St → Hp → Prop), Rep K H d v → EnvR K H ρ σ → asgW t d ρ k →
    (∀ ρ1 σ1, EnvR K H ρ1 σ1 → (∀ vs : List Nat, (∀ i ∈ tgSl t, i ∈ vs) → wipe σ1 vs = wipe σ vs) → k ρ1 → Q σ1 H) → gTg K t v σ H Q
  | .v i, d, v, ρ, σ, k, Q, r, e, w, f => by
    unfold asgW at w
    unfold gTg
    exact f _ _ (e.set r) (fun vs h => wipe_set (h i (by simp [tgSl]))) w
  | .t ts, d, v, ρ, σ, k, Q, r, e, w, f => by
    unfold asgW at w
    unfold gTg
    split at w
    · obtain ⟨a, xs, rfl, t, hr⟩ := rep_tup.mp r
      exact ⟨a, xs, rfl, t, by rw [hr.length]; exact w.1, gTgs_ok ts _ xs ρ σ k Q hr e w.2 (fun ρ1 σ1 e1 hw q => f ρ1 σ1 e1 (fun vs h => hw vs (by simpa [tgSl] using h)) q)⟩
    · exact w.elim
theorem gTgs_ok {K : Frag} {H : Hp} : ∀ (ts : Tgs) (ds : List D) (xs : List V) (ρ : Ev) (σ : L2.St) (k : Ev → Prop) (Q : L2.St → Hp → Prop), Reps K H ds xs → EnvR K H ρ σ → asgWs ts ds ρ k →
    (∀ ρ1 σ1, EnvR K H ρ1 σ1 → (∀ vs : List Nat, (∀ i ∈ tgSls ts, i ∈ vs) → wipe σ1 vs = wipe σ vs) → k ρ1 → Q σ1 H) → gTgs K ts xs σ H Q
  | .nil, ds, xs, ρ, σ, k, Q, r, e, w, f => by
    unfold asgWs at w
    cases ds with
    | nil =>
      obtain rfl := reps_nil.mp r
      unfold gTgs
      exact ⟨rfl, f ρ σ e (fun _ _ => rfl) w⟩
    | cons d ds => exact w.elim
  | .cons t ts, ds, xs, ρ, σ, k, Q, r, e, w, f => by
    cases ds with
    | nil => unfold asgWs at w; exact w.elim
    | cons d ds =>
      unfold asgWs at w
      obtain ⟨v, vs, rfl, rv, rs⟩ := reps_cons.mp r
      unfold gTgs
      refine ⟨v, vs, rfl, ?_⟩
      refine gTg_ok t d v ρ σ _ _ rv e w fun ρ1 σ1 e1 hw q => ?_
      exact gTgs_ok ts ds vs ρ1 σ1 k Q rs e1 q fun ρ2 σ2 e2 hw2 q2 => f ρ2 σ2 e2 (fun us h => (hw2 us fun i hi => h i (by simp [tgSls, hi])).trans (hw us fun i hi => h i (by simp [tgSls, hi]))) q2
end
/-! ### comprehensions -/
theorem tupLe_lst {K : Frag} {H : Hp} {p : Addr} {xs : List V} {o : HO} (h : H p = some (.lst xs)) : TupLe K H (upd H p o) := fun a ys => by
  constructor
  · intro q
    rcases q with q | q
    · have : a ≠ p := by
        rintro rfl
        rcases q with q | ⟨w, q⟩ <;> (rw [h] at q; cases q)
      rcases q with q | ⟨w, q⟩
      · exact .inl (.inl (by rw [upd_ne this]; exact q))
      · exact .inl (.inr ⟨w, by rw [upd_ne this]; exact q⟩)
    · exact .inr q
  · intro q
    rcases q with ⟨w, q⟩ | q
    · have : a ≠ p := by rintro rfl; rw [h] at q; cases q
      exact .inl ⟨w, by rw [upd_ne this]; exact q⟩
    · exact .inr q
theorem tupLe_dic {K : Frag} {H : Hp} {p : Addr} {xs : List (Key × V)} {o : HO} (h : H p = some (.dK xs)) : TupLe K H (upd H p o) := fun a ys => by
  constructor
  · intro q
    rcases q with q | q
    · have : a ≠ p := by
        rintro rfl
        rcases q with q | ⟨w, q⟩ <;> (rw [h] at q; cases q)
      rcases q with q | ⟨w, q⟩
      · exact .inl (.inl (by rw [upd_ne this]; exact q))
      · exact .inl (.inr ⟨w, by rw [upd_ne this]; exact q⟩)
    · exact .inr q
  · intro q
    rcases q with ⟨w, q⟩ | q
    · have : a ≠ p := by rintro rfl; rw [h] at q; cases q
      exact .inl ⟨w, by rw [upd_ne this]; exact q⟩
    · exact .inr q
/-- an object off the store is changed -/
theorem StR.off {K : Frag} {H : Hp} {S : Sto} (s : StR K H S) {p : Addr} {o : HO} (n : S p = none) (t : TupLe K H (upd H p o)) : StR K (upd H p o) S := fun a u e => by
  have : a ≠ p := by rintro rfl; rw [n] at e; cases e
  exact (s a u e).mono t fun v q => by rw [upd_ne this]; exact q
section
variable {X : Cx} {tg iter elt kx vx : Expr} {ifs : List Expr} {scope : Scope} {own : List (Str × Nat)} {pos : Pos} {Wi : WI} {Wt : WT} {We Wk : WE} {t : Tg}
theorem lc_read {σ : L2.St} {H : Hp} {Q : VK} (hown : ∀ i ∈ tgSl t, i ∈ own.map (·.2))
    (h : lift X.K (fun ρ S Q => Wi ρ S fun ds chk S1 =>
      lcW chk (fun d S2 k => asgW t d (wipeE ρ (own.map (·.2))) fun ρ1 => Wt ρ1 S2 fun b S3 => if b = true then We ρ1 S3 fun v S4 => k (some v) S4 else k none S3)
        (fun acc S2 => ∀ p, S2 p = none → Q (.ref p) (up S2 p (.lst acc))) ds [] S1) σ H Q) : tLc (liftI X.K Wi) (gTg X.K t) (liftT X.K Wt) (lift X.K We) (own.map (·.2)) σ H Q := by
  obtain ⟨ρ, S, Q', he, hs, w, f⟩ := h
  refine ⟨ρ, S, _, he, hs, w, fun ds chk H1 S1 J e1 hs1 ok w1 => fun D hD => ?_⟩
  have he1 := he.mono (e1.tups hs)
  refine ⟨fun i m H2 => ∃ pre rest acc xs S2, ds = pre ++ rest ∧ pre.length = i ∧ m = rest.length ∧ H2 D = some (.lst xs) ∧ Reps X.K H2 acc xs ∧ StR X.K H2 S2 ∧ S2 D = none ∧ Ext H1 S1 H2 S2 ∧
    lcW chk (fun d S2 k => asgW t d (wipeE ρ (own.map (·.2))) fun ρ1 => Wt ρ1 S2 fun b S3 => if b = true then We ρ1 S3 fun v S4 => k (some v) S4 else k none S3)
      (fun acc S2 => ∀ p, S2 p = none → Q' (.ref p) (up S2 p (.lst acc))) rest acc S2,
    ⟨ds.length, [], ds, [], [], S1, rfl, rfl, rfl, upd_same, reps_nil.mpr rfl, hs1.new hD, hs1.fresh hD, ext_new hD, w1⟩, ?_⟩
  rintro i m H2 ⟨pre, rest, acc, xs, S2, rfl, rfl, rfl, h2, r2, hs2, n2, e2, w2⟩
  have t2 := e2.tups hs1
  cases rest with
  | nil =>
    unfold lcW at w2
    obtain ⟨c, w2⟩ := w2
    obtain ⟨_, _, st⟩ := ok H2 S2 t2 hs2 c
    left
    rw [List.append_nil] at st
    refine ⟨st, f (.ref D) (.ref D) H2 (up S2 D (.lst acc)) (fun a o q n => ?_) (fun a o q => ?_) (rep_ref.mpr rfl) (w2 D n2)⟩
    · obtain ⟨q1, n1⟩ := e1 a o q n
      obtain ⟨q2, n2⟩ := e2 a o q1 n1
      exact ⟨q2, by rw [up_ne (ne_of_none q1 hD)]; exact n2⟩
    · by_cases ha : a = D
      · subst ha; rw [up_same] at q; cases q; exact ⟨xs, h2, r2⟩
      · rw [up_ne ha] at q; exact hs2 a o q
  | cons d r =>
    unfold lcW at w2
    obtain ⟨c, w2⟩ := w2
    obtain ⟨go, yl, _⟩ := ok H2 S2 t2 hs2 c
    right
    refine ⟨go _ (by simp), _, fun H' h => ⟨r.length, Nat.lt_succ_self _, h⟩, fun x H3 hy => ?_⟩
    obtain ⟨e3, hs3, r3⟩ := yl _ x H3 d hy (by simp)
    have e13 := e2.trans e3
    have t13 := e13.tups hs1
    have h3 : H3 D = some (.lst xs) := (e3 D _ h2 n2).1
    have ra3 := Reps.mono (e3.tups hs2) _ _ r2
    refine gTg_ok t d x _ _ _ _ r3 ((he1.mono t13).wipe _) w2 fun ρ1 σ1 ee hw w3 => ⟨(hw _ hown).trans (wipe_wipe fun _ h => h), ?_⟩
    refine liftT_bind ee hs3 w3 fun b H4 S4 e4 ee4 hs4 w4 => ?_
    have n4 := (e4 D _ h3 n2).2
    have h4 := (e4 D _ h3 n2).1
    have ra4 := Reps.mono (e4.tups hs3) _ _ ra3
    cases b with
    | false =>
      rw [if_neg Bool.false_ne_true] at w4 ⊢
      exact ⟨pre ++ [d], r, acc, xs, S4, by simp, by simp, rfl, h4, ra4, hs4, n4, e13.trans e4, w4⟩
    | true =>
      rw [if_pos rfl] at w4 ⊢
      refine lift_bind ee4 hs4 w4 fun y v H5 S5 e5 ee5 hs5 t5 r5 w5 => ?_
      have n5 := (e5 D _ h4 n4).2
      have h5 := (e5 D _ h4 n4).1
      have ra5 := Reps.mono t5 _ _ ra4
      have tn := tupLe_lst (K := X.K) (o := .lst (xs ++ [v])) h5
      refine ⟨xs, h5, by rw [ra5.length]; exact w5.1, pre ++ [d], r, acc ++ [y], xs ++ [v], S5, by simp, by simp, rfl, upd_same, Reps.mono tn _ _ (ra5.append (reps_cons.mpr ⟨v, [], rfl, r5, reps_nil.mpr rfl⟩)), hs5.off n5 tn, n5, fun a o q n => ?_, w5.2⟩
      obtain ⟨q2, n2⟩ := (e13.trans e4).trans e5 a o q n
      exact ⟨by rw [upd_ne (ne_of_none q hD)]; exact q2, n2⟩
theorem dc_read {σ : L2.St} {H : Hp} {Q : VK} (hown : ∀ i ∈ tgSl t, i ∈ own.map (·.2))
    (h : lift X.K (fun ρ S Q => Wi ρ S fun ds chk S1 =>
      dcW chk (fun d S2 k => asgW t d (wipeE ρ (own.map (·.2))) fun ρ1 => Wt ρ1 S2 fun b S3 => if b = true then Wk ρ1 S3 fun kd S4 => We ρ1 S4 fun v S5 => k (some (kd, v)) S5 else k none S3)
        (fun acc S2 => ∀ p, S2 p = none → Q (.ref p) (up S2 p (.dic acc))) ds [] S1) σ H Q) : tDc (liftI X.K Wi) (gTg X.K t) (liftT X.K Wt) (lift X.K Wk) (lift X.K We) (own.map (·.2)) σ H Q := by
  obtain ⟨ρ, S, Q', he, hs, w, f⟩ := h
  refine ⟨ρ, S, _, he, hs, w, fun ds chk H1 S1 J e1 hs1 ok w1 => fun D hD => ?_⟩
  have he1 := he.mono (e1.tups hs)
  refine ⟨fun i m H2 => ∃ pre rest acc xs S2, ds = pre ++ rest ∧ pre.length = i ∧ m = rest.length ∧ H2 D = some (.dK xs) ∧ RepKV X.K H2 acc xs ∧ StR X.K H2 S2 ∧ S2 D = none ∧ Ext H1 S1 H2 S2 ∧
    dcW chk (fun d S2 k => asgW t d (wipeE ρ (own.map (·.2))) fun ρ1 => Wt ρ1 S2 fun b S3 => if b = true then Wk ρ1 S3 fun kd S4 => We ρ1 S4 fun v S5 => k (some (kd, v)) S5 else k none S3)
      (fun acc S2 => ∀ p, S2 p = none → Q' (.ref p) (up S2 p (.dic acc))) rest acc S2,
    ⟨ds.length, [], ds, [], [], S1, rfl, rfl, rfl, upd_same, .nil, hs1.new hD, hs1.fresh hD, ext_new hD, w1⟩, ?_⟩
  rintro i m H2 ⟨pre, rest, acc, xs, S2, rfl, rfl, rfl, h2, r2, hs2, n2, e2, w2⟩
  have t2 := e2.tups hs1
  cases rest with
  | nil =>
    unfold dcW at w2
    obtain ⟨c, w2⟩ := w2
    obtain ⟨_, _, st⟩ := ok H2 S2 t2 hs2 c
    left
    rw [List.append_nil] at st
    refine ⟨st, f (.ref D) (.ref D) H2 (up S2 D (.dic acc)) (fun a o q n => ?_) (fun a o q => ?_) (rep_ref.mpr rfl) (w2 D n2)⟩
    · obtain ⟨q1, n1⟩ := e1 a o q n
      obtain ⟨q2, n2⟩ := e2 a o q1 n1
      exact ⟨q2, by rw [up_ne (ne_of_none q1 hD)]; exact n2⟩
    · by_cases ha : a = D
      · subst ha; rw [up_same] at q; cases q; exact ⟨xs, h2, r2⟩
      · rw [up_ne ha] at q; exact hs2 a o q
  | cons d r =>
    unfold dcW at w2
    obtain ⟨c, w2⟩ := w2
    obtain ⟨go, yl, _⟩ := ok H2 S2 t2 hs2 c
    right
    refine ⟨go _ (by simp), _, fun H' h => ⟨r.length, Nat.lt_succ_self _, h⟩, fun x H3 hy => ?_⟩
    obtain ⟨e3, hs3, r3⟩ := yl _ x H3 d hy (by simp)
    have e13 := e2.trans e3
    have t13 := e13.tups hs1
    have h3 : H3 D = some (.dK xs) := (e3 D _ h2 n2).1
    have ra3 := RepKV.mono (e3.tups hs2) r2
    refine gTg_ok t d x _ _ _ _ r3 ((he1.mono t13).wipe _) w2 fun ρ1 σ1 ee hw w3 => ⟨(hw _ hown).trans (wipe_wipe fun _ h => h), ?_⟩
    refine liftT_bind ee hs3 w3 fun b H4 S4 e4 ee4 hs4 w4 => ?_
    have n4 := (e4 D _ h3 n2).2
    have h4 := (e4 D _ h3 n2).1
    have ra4 := RepKV.mono (e4.tups hs3) ra3
    cases b with
    | false =>
      rw [if_neg Bool.false_ne_true] at w4 ⊢
      exact ⟨pre ++ [d], r, acc, xs, S4, by simp, by simp, rfl, h4, ra4, hs4, n4, e13.trans e4, w4⟩
    | true =>
      rw [if_pos rfl] at w4 ⊢
      refine lift_bind ee4 hs4 w4 fun y v H5 S5 e5 ee5 hs5 t5 r5 w5 => ?_
      have n5 := (e5 D _ h4 n4).2
      have h5 := (e5 D _ h4 n4).1
      have ra5 := RepKV.mono t5 ra4
      refine lift_bind ee5 hs5 w5 fun y2 v2 H6 S6 e6 ee6 hs6 t6 r6 w6 => ?_
      have n6 := (e6 D _ h5 n5).2
      have h6 := (e6 D _ h5 n5).1
      have ra6 := RepKV.mono t6 ra5
      dsimp only at w6
      split at w6
      · rename_i kk hk
        have ev := keyOf_eq hk (Rep.mono t6 _ _ r5)
        have tn := tupLe_dic (K := X.K) (o := .dK (putK xs kk v2)) h6
        refine ⟨xs, kk, ev, h6, by rw [ra6.length]; exact w6.1, pre ++ [d], r, putD acc kk y2, putK xs kk v2, S6, by simp, by simp, rfl, upd_same, RepKV.mono tn (ra6.put kk r6), hs6.off n6 tn, n6, fun a o q n => ?_, w6.2⟩
        obtain ⟨q2, n2⟩ := ((e13.trans e4).trans e5).trans e6 a o q n
        exact ⟨by rw [upd_ne (ne_of_none q hD)]; exact q2, n2⟩
      · exact w6.elim
end
end Z

/-! ### Z11 -/
/-! Z11: side conditions by the syntax; statements. -/
namespace Z
open PySem PySem.Spec PyProof.Rows L2
/-! ### forms -/
def noStar : Expr → Bool
  | .Starred .. => false
  | _ => true
def noSlice : Expr → Bool
  | .Slice .. => false
  | _ => true
def noSet : Expr → Bool
  | .Set .. => false
  | _ => true
def noCall0 : Expr → Bool
  | .Call (.Name _ _) [] [] _ => false
  | _ => true
def plainTest : Expr → Bool
  | .UnaryOp .Not .. => false
  | .BoolOp .. => false
  | .IfExp .. => false
  | .Compare .. => false
  | _ => true
def noComp : Expr → Bool
  | .ListComp .. => false
  | .SetComp .. => false
  | .DictComp .. => false
  | _ => true
def noDisp : Expr → Bool
  | .Tuple .. => false
  | .List .. => false
  | _ => true
section
variable {e : Expr} {es : List Expr} {env : PySem.Env}
theorem star_cons (h : noStar e = true) : starEach (e :: es) env = (false, eval e env) :: starEach es env := by cases e <;> first | rfl | cases h
theorem assign_cons (h : noStar e = true) : assignEach (e :: es) env = (false, assign e env) :: assignEach es env := by cases e <;> first | rfl | cases h
theorem ix_plain (h : noSlice e = true) : PlainIx e := by cases e <;> first | (intro _ _; rfl) | cases h
theorem set_behind {op : CmpOp} (h : noSet e = true) : behindInMarks op e = false := by cases e <;> first | rfl | cases h
theorem set_folded (h : noSet e = true) : ∀ x, foldedSetIterable e env x = pure x := by cases e <;> first | (intro _; rfl) | cases h
theorem test_plain (h : plainTest e = true) : ∀ whole, isTrue e env whole = (do let v ← whole; standAt e.pos; holding [v] (truthy v)) := by
  cases e <;> first | (intro _; rfl) | cases h | skip
  rename_i op x p
  cases op <;> first | (intro _; rfl) | cases h
theorem base_plain {m : Str} (h : noCall0 e = true) : attributeBase e m env (eval e env) = eval e env := by
  cases e with
  | Call f as ks p =>
    cases f <;> first | rfl | skip
    cases as <;> first | rfl | skip
    cases ks <;> first | rfl | cases h
  | _ => rfl
theorem sw_no {t : Option Expr} {l : Nat} (h : noComp e = true) : swapsWith e t l env = pure false := by cases e <;> first | rfl | cases h
theorem any_back : ∀ {es : List Expr} {pos : Pos}, es.all noStar = true → (backTo pos (starEach es env)).any (·.1) = false
  | [], pos, h => rfl
  | e :: es, pos, h => by
    rw [List.all_cons, Bool.and_eq_true] at h
    rw [star_cons h.1]
    show (false || (backTo pos (starEach es env)).any (·.1)) = false
    rw [any_back h.2] <;> rfl
theorem all_back : ∀ {es : List Expr} {pos : Pos}, es.all noStar = true → (backTo pos (starEach es env)).all (fun x => !x.1) = true
  | [], pos, h => rfl
  | e :: es, pos, h => by
    rw [List.all_cons, Bool.and_eq_true] at h
    rw [star_cons h.1]
    show (true && (backTo pos (starEach es env)).all (fun x => !x.1)) = true
    rw [all_back h.2] <;> rfl
theorem form_few {pos : Pos} (h : es.all noStar = true) (hl : es.length < 30) : methodCallForm es.length (backTo pos (starEach es env)) [] = true := by
  unfold methodCallForm
  rw [all_back h]
  simp
  omega
theorem few30 {pos : Pos} (h : (e :: es).all noStar = true) (hl : (e :: es).length < 30) : ((backTo pos (starEach (e :: es) env)).all (fun x => !x.1) && (backToKw pos (keywordEach [] env)).all (fun x => x.1.isSome)
      && decide ((e :: es).length + ([] : List Keyword).length + (if ([] : List Keyword).isEmpty then 0 else 1) < 30)) = true := by
  rw [all_back h]
  have h2 : decide ((e :: es).length + ([] : List Keyword).length + (if ([] : List Keyword).isEmpty then 0 else 1) < 30) = true := decide_eq_true (by simpa using hl)
  rw [h2]
  rfl
end
/-! ### statements -/
def FinE (K : Frag) (H : Hp) (S : Sto) (k : En) (D : Ends) : Prop :=
  (∀ ρ1 σ1 H1 S1, Ext H S H1 S1 → StR K H1 S1 → EnvR K H1 ρ1 σ1 → k.nx ρ1 S1 → D.nx σ1 H1) ∧ Fin K H S k.rt D.rt ∧
  (∀ ρ1 σ1 H1 S1, Ext H S H1 S1 → StR K H1 S1 → EnvR K H1 ρ1 σ1 → k.bk ρ1 S1 → D.bk σ1 H1) ∧ (∀ ρ1 σ1 H1 S1, Ext H S H1 S1 → StR K H1 S1 → EnvR K H1 ρ1 σ1 → k.ct ρ1 S1 → D.ct σ1 H1)
theorem FinE.after {K : Frag} {H H1 : Hp} {S S1 : Sto} {k : En} {D : Ends} (f : FinE K H S k D) (e : Ext H S H1 S1) : FinE K H1 S1 k D :=
  ⟨fun ρ1 σ1 H2 S2 e2 => f.1 ρ1 σ1 H2 S2 (e.trans e2), f.2.1.after e, fun ρ1 σ1 H2 S2 e2 => f.2.2.1 ρ1 σ1 H2 S2 (e.trans e2), fun ρ1 σ1 H2 S2 e2 => f.2.2.2 ρ1 σ1 H2 S2 (e.trans e2)⟩
abbrev WS := En → Ev → Sto → Prop
def liftS (K : Frag) (W : WS) : TS := fun D σ H => ∃ ρ S k, EnvR K H ρ σ ∧ StR K H S ∧ W k ρ S ∧ FinE K H S k D
abbrev SS (X : Cx) (st : Stmt) (W : WS) : Prop := PS X st (liftS X.K W)
abbrev SSs (X : Cx) (st : List Stmt) (W : WS) : Prop := PSs X st (liftS X.K W)
section
variable {X : Cx} {a b c e : Expr} {Wa Wb We : WE} {Wc : WT} {pos : Pos} {st : Stmt} {rest : List Stmt} {W1 W2 : WS} {t : Tg}
theorem sss_nil : SSs X [] (fun k ρ S => k.nx ρ S) := pss_imp pss_nil fun D σ H ⟨ρ, S, k, he, hs, w, f⟩ => f.1 ρ σ H S .refl hs he w
theorem sss_cons (h1 : SS X st W1) (h2 : SSs X rest W2) : SSs X (st :: rest) (fun k ρ S => W1 { k with nx := fun ρ1 S1 => W2 k ρ1 S1 } ρ S) :=
  pss_imp (pss_cons h1 h2) fun D σ H ⟨ρ, S, k, he, hs, w, f⟩ => ⟨ρ, S, _, he, hs, w, fun ρ1 σ1 H1 S1 e1 hs1 he1 q => ⟨ρ1, S1, k, he1, hs1, q, f.after e1⟩, f.2.1, f.2.2.1, f.2.2.2⟩
theorem ss_pas : SS X (.Pass pos) (fun k ρ S => k.nx ρ S) := ps_imp ps_pass fun D σ H ⟨ρ, S, k, he, hs, w, f⟩ => f.1 ρ σ H S .refl hs he w
theorem ss_brk : SS X (.Break pos) (fun k ρ S => k.bk ρ S) := ps_imp ps_break fun D σ H ⟨ρ, S, k, he, hs, w, f⟩ => f.2.2.1 ρ σ H S .refl hs he w
theorem ss_cnt : SS X (.Continue pos) (fun k ρ S => k.ct ρ S) := ps_imp ps_continue fun D σ H ⟨ρ, S, k, he, hs, w, f⟩ => f.2.2.2 ρ σ H S .refl hs he w
theorem ss_ret (he : SE X e We) : SS X (.Return (some e) pos) (fun k ρ S => We ρ S k.rt) := ps_imp (ps_ret he) fun D σ H ⟨ρ, S, k, he, hs, w, f⟩ => ⟨ρ, S, k.rt, he, hs, w, f.2.1⟩
theorem ss_retN : SS X (.Return none pos) (fun k _ S => k.rt .non S) := ps_imp ps_retN fun D σ H ⟨ρ, S, k, he, hs, w, f⟩ => f.2.1.non hs w
theorem ss_never : SS X st (fun _ _ _ => False) := ps_imp ps_never fun D σ H ⟨ρ, S, k, he, hs, w, f⟩ => w
theorem ss_ex (he : SE X e We) (hs : swapsWith e none pos.line X.env = pure false) : SS X (.Expr e pos) (fun k ρ S => We ρ S fun _ S1 => k.nx ρ S1) :=
  ps_imp (ps_expr he hs) fun D σ H ⟨ρ, S, k, he, hs, w, f⟩ => lift_bind he hs w fun d v H1 S1 e1 he1 hs1 t1 r1 w1 => f.1 ρ σ H1 S1 e1 hs1 he1 w1
theorem ss_if {p q : List Stmt} (hc : ST X c Wc) (ha : SSs X p W1) (hb : SSs X q W2) : SS X (.If c p q pos) (fun k ρ S => Wc ρ S fun t S1 => if t = true then W1 k ρ S1 else W2 k ρ S1) :=
  ps_imp (ps_if hc ha hb) fun D σ H ⟨ρ, S, k, he, hs, w, f⟩ => liftT_bind he hs w fun b H1 S1 e1 he1 hs1 w1 => by
    cases b with
    | true => exact iteT ⟨ρ, S1, k, he1, hs1, by simpa using w1, f.after e1⟩
    | false => exact iteF ⟨ρ, S1, k, he1, hs1, by simpa using w1, f.after e1⟩
theorem ss_set {tg : Expr} (he : SE X e We) (hg : PG X tg (gTg X.K t)) (hs : swapsWithSole [tg] e pos.line X.env = pure false) (hw : swappedStores [tg] e X.env = pure none) (h1 : (assignEach [tg] X.env).map (·.2) = [assign tg X.env]) :
    SS X (.Assign [tg] e pos) (fun k ρ S => We ρ S fun d S1 => asgW t d ρ fun ρ1 => k.nx ρ1 S1) :=
  ps_imp (ps_asg he hg hs hw h1) fun D σ H ⟨ρ, S, k, he, hs, w, f⟩ => lift_bind he hs w fun d v H1 S1 e1 he1 hs1 t1 r1 w1 =>
    gTg_ok t d v ρ σ _ _ r1 he1 w1 fun ρ1 σ1 e2 _ q => f.1 ρ1 σ1 H1 S1 e1 hs1 e2 q
/-- name = [..] and name = {..} in one line -/
theorem ss_setC {te : TE} {i : Nat} (h : PS X st (tAsg te (gName i))) (hr : ∀ σ H Q, lift X.K We σ H Q → te σ H Q) : SS X st (fun k ρ S => We ρ S fun d S1 => asgW (.v i) d ρ fun ρ1 => k.nx ρ1 S1) :=
  ps_imp h fun D σ H ⟨ρ, S, k, he, hs, w, f⟩ => hr _ _ _ (lift_bind he hs w fun d v H1 S1 e1 he1 hs1 t1 r1 w1 => by
    unfold asgW at w1
    exact f.1 _ _ H1 S1 e1 hs1 (he1.set r1) w1)
theorem ss_setIx {o i : Expr} {Wo Wi : WE} {p : Pos} (hu : X.A.units + 1 < cLine) (he : SE X e We) (ho : SE X o Wo) (hi : SE X i Wi) (hn : noSlice i = true) (h1 : noStar (.Subscript o i p) = true := by rfl) :
    SS X (.Assign [.Subscript o i p] e pos) (fun k ρ S => We ρ S fun v S1 => Wo ρ S1 fun d S2 => Wi ρ S2 fun j S3 => setC d j v S3 fun S4 => k.nx ρ S4) :=
  ps_imp (ps_asg he (pg_sub ho hi (setz hu) (by cases i <;> first | (intro _; rfl) | cases hn)) (by cases e <;> rfl) (by rfl) (by rfl)) fun D σ H ⟨ρ, S, k, he, hs, w, f⟩ => lift_bind he hs w fun d v H1 S1 e1 he1 hs1 t1 r1 w1 =>
    lift_bind he1 hs1 w1 fun d2 v2 H2 S2 e2 he2 hs2 t2 r2 w2 => lift_bind he2 hs2 w2 fun d3 v3 H3 S3 e3 he3 hs3 t3 r3 w3 =>
      ⟨d2, d3, d, S3, _, Rep.mono t3 _ _ r2, r3, Rep.mono t3 _ _ (Rep.mono t2 _ _ r1), hs3, w3, fun H4 S4 e4 hs4 q => f.1 ρ σ H4 S4 (((e1.trans e2).trans e3).trans e4) hs4 (he3.mono (e4.tups hs3)) q⟩
theorem RepKV.putF {K : Frag} {H : Hp} {f : Str} {d : D} {v : V} (r : Rep K H d v) : ∀ {fs : List (Str × D)} {vs : List (Str × V)}, RepKV K H fs vs → RepKV K H (putFD f d fs) (L2.putF f v vs)
  | [], vs, h => by cases h; exact .cons ⟨rfl, r⟩ .nil
  | (g, x) :: fs, vs, h => by
    cases h with
    | cons p q =>
      rename_i y ys
      obtain ⟨y1, y2⟩ := y
      obtain ⟨p1, p2⟩ := p
      simp only at p1 p2
      subst p1
      unfold putFD L2.putF
      by_cases hg : g = f
      · rw [if_pos hg, if_pos hg]; exact .cons ⟨rfl, r⟩ q
      · rw [if_neg hg, if_neg hg]; exact .cons ⟨rfl, p2⟩ (RepKV.putF r q)
theorem ss_setFld {g : G} {o : Expr} {Wo : WE} {f : Str} {p : Pos} (hn : ∀ C, g.noat C f = true → Cls X.K (He.ga X.K C) ∧ NoAttr X.K (He.ga X.K C) f) (he : SE X e We) (ho : SE X o Wo) :
    SS X (.Assign [.Attribute o f p] e pos) (fun k ρ S => We ρ S fun v S1 => Wo ρ S1 fun d S2 => match d with
      | .ref a => match S2 a with
        | some (.ins C fs) => (g.noat C f = true ∧ fs.length < 1000) ∧ k.nx ρ (up S2 a (.ins C (putFD f v fs)))
        | _ => False
      | _ => False) :=
  ps_imp (ps_fld ho he (by cases e <;> rfl)) fun D σ H ⟨ρ, S, k, he, hs, w, fn⟩ => lift_bind he hs w fun d v H1 S1 e1 he1 hs1 t1 r1 w1 =>
    lift_bind he1 hs1 w1 fun d2 v2 H2 S2 e2 he2 hs2 t2 r2 w2 => by
      split at w2
      · obtain rfl := rep_ref.mp r2
        split at w2
        · rename_i C fs hC
          obtain ⟨dx, vs, h, hr⟩ := hs2 _ _ hC
          obtain ⟨⟨n1, n2⟩, w2⟩ := w2
          obtain ⟨c1, c2⟩ := hn C n1
          have tn := tupLe_set (u := .ins (He.ga X.K C) dx (L2.putF f v vs)) hs2 hC
          refine ⟨_, _, dx, vs, rfl, h, c1, c2, by rw [hr.length]; exact n2, ?_⟩
          exact fn.1 ρ σ _ _ ((e1.trans e2).trans (ext_setUp hC)) (hs2.setUp (u := .ins C _) hC ⟨dx, _, upd_same, RepKV.putF (Rep.mono tn _ _ (Rep.mono t2 _ _ r1)) (hr.mono tn)⟩) (he2.mono tn) w2
        · exact w2.elim
      · exact w2.elim
/-! augmented -/
theorem iopz {p : BOp} {op : Operator} (h : bopOk p op = true) : OpR X (inplaceOp op) (lift2 X.K (augW p)) := by
  intro pins s σ H x y v u Q I rx ry ⟨d, e, S, Q', rd, re, hs, w, f⟩
  unfold augW at w
  split at w
  · cases op <;> first | cases h | skip
    obtain rfl := rep_int.mp rd
    obtain rfl := rep_int.mp re
    exact iop_add pins s σ H _ _ v u Q I rx ry ⟨_, _, rfl, rfl, f.int hs w⟩
  · cases op <;> first | cases h | skip
    obtain rfl := rep_str.mp rd
    obtain rfl := rep_str.mp re
    exact iop_add_str pins s σ H _ _ v u Q I rx ry ⟨_, _, rfl, rfl, w.1, f.str hs w.2⟩
  · cases op <;> first | cases h | skip
    obtain rfl := rep_int.mp rd
    obtain rfl := rep_int.mp re
    exact iop_sub pins s σ H _ _ v u Q I rx ry ⟨_, _, rfl, rfl, f.int hs w⟩
  · exact w.elim
theorem ss_aug {i : Nat} {x : Str} {p : BOp} {op : Operator} {px : Pos} (hN : X.N.Nodup) (hi : X.N[i]? = some x) (hx : Loc X.env.scope x) (hf : X.fn x = true ∨ X.env.scope.names.lookup x = some .local) (ho : bopOk p op = true) (he : SE X e We) :
    SS X (.AugAssign (.Name x px) op e pos) (fun k ρ S => match ρ[i]? with
      | some (some x) => We ρ S fun y S1 => augW p x y S1 fun z S2 => k.nx (ρ.set i (some z)) S2
      | _ => False) :=
  ps_imp (ps_aug hN hi hx he (iopz ho) hf) fun D σ H ⟨ρ, S, k, he, hs, w, f⟩ => by
    dsimp only at w
    split at w
    · rename_i d hd
      obtain ⟨v, hv, rv⟩ := he.2 i d hd
      exact ⟨v, hv, lift_bind he hs w fun d2 v2 H1 S1 e1 he1 hs1 t1 r1 w1 => ⟨d, d2, S1, _, Rep.mono t1 _ _ rv, r1, hs1, w1, fun d3 v3 H2 S2 e2 hs2 r3 q => f.1 _ _ H2 S2 (e1.trans e2) hs2 ((he1.mono (e2.tups hs1)).set r3) q⟩⟩
    · exact w.elim
theorem ss_augFld {g : G} {o : Expr} {Wo : WE} {f : Str} {p : BOp} {op : Operator} {px : Pos} (hn : ∀ C, g.noat C f = true → Cls X.K (He.ga X.K C) ∧ NoAttr X.K (He.ga X.K C) f) (ho : SE X o Wo) (hp : bopOk p op = true) (he : SE X e We) :
    SS X (.AugAssign (.Attribute o f px) op e pos) (fun k ρ S => Wo ρ S fun d S1 => match d with
      | .ref a => match S1 a with
        | some (.ins C fs) => g.noat C f = true ∧ match fs.lookup f with
          | some v => We ρ S1 fun y S2 => augW p v y S2 fun z S3 => match S3 a with
            | some (.ins C' fs') => (C' = C ∧ fs'.length < 1000) ∧ k.nx ρ (up S3 a (.ins C (putFD f z fs')))
            | _ => False
          | none => False
        | _ => False
      | _ => False) :=
  ps_imp (ps_fldaug (rd := lift2 X.K (augW p)) ho he (fun pins s σ H x y u v Q I rx ry h => iopz hp pins s σ H x y u v Q I rx ry h)) fun D σ H ⟨ρ, S, k, he, hs, w, fn⟩ => lift_bind he hs w fun d v H1 S1 e1 he1 hs1 t1 r1 w1 => by
    split at w1
    · obtain rfl := rep_ref.mp r1
      split at w1
      · rename_i C fs hC
        obtain ⟨dx, vs, h, hr⟩ := hs1 _ _ hC
        obtain ⟨c1, c2⟩ := hn C w1.1
        have w1 := w1.2
        have rl := hr.lookup f
        split at w1
        · rename_i dv hl
          rw [hl] at rl
          obtain ⟨z, hz, rz⟩ := rl.some_of
          refine ⟨_, _, dx, vs, z, rfl, h, c1, c2, hz, lift_bind he1 hs1 w1 fun d2 v2 H2 S2 e2 he2 hs2 t2 r2 w2 => ⟨dv, d2, S2, _, Rep.mono t2 _ _ rz, r2, hs2, w2, fun d3 v3 H3 S3 e3 hs3 r3 q => ?_⟩⟩
          split at q
          · rename_i C' fs' hC'
            obtain ⟨⟨rfl, n2⟩, q⟩ := q
            obtain ⟨dx', vs', h', hr'⟩ := hs3 _ _ hC'
            have tn := tupLe_set (u := .ins (He.ga X.K C') dx' (L2.putF f v3 vs')) hs3 hC'
            refine ⟨dx', vs', h', by rw [hr'.length]; exact n2, ?_⟩
            exact fn.1 ρ σ _ _ (((e1.trans e2).trans e3).trans (ext_setUp hC')) (hs3.setUp (u := .ins C' _) hC' ⟨dx', _, upd_same, RepKV.putF (Rep.mono tn _ _ r3) (hr'.mono tn)⟩) ((he2.mono (e3.tups hs2)).mono tn) q
          · exact q.elim
        · exact w1.elim
      · exact w1.elim
    · exact w1.elim
/-! loops -/
theorem ss_for {tg iter : Expr} {body : List Stmt} {Wi : WI} (hp : PassesOwn (model X.prog X.w) X.A X.env X.xe) (hc : X.calm = true) (hi : SI X tg iter Wi) (hg : PG X tg (gTg X.K t)) (hb : SSs X body W1) (hs : ∀ x, foldedSetIterable iter X.env x = pure x) :
    SS X (.For tg iter body [] pos) (fun k ρ S => Wi ρ S fun ds chk S1 => loopW chk (fun d ρ1 S2 nx => asgW t d ρ1 fun ρ2 => W1 { k with nx := nx, ct := nx, bk := k.nx } ρ2 S2) k.nx ds ρ S1) :=
  ps_imp (ps_for hp hc hi hg hb hs) fun D σ H ⟨ρ, S, k, he, hs, w, f⟩ => by
    refine ⟨ρ, S, _, he, hs, w, fun ds chk H1 S1 J e1 hs1 ok w1 => ?_⟩
    have he1 := he.mono (e1.tups hs)
    refine ⟨fun i m σ2 H2 => ∃ pre rest ρ2 S2, ds = pre ++ rest ∧ pre.length = i ∧ m = rest.length ∧ EnvR X.K H2 ρ2 σ2 ∧ StR X.K H2 S2 ∧ Ext H1 S1 H2 S2 ∧
      loopW chk (fun d ρ1 S2 nx => asgW t d ρ1 fun ρ2 => W1 { k with nx := nx, ct := nx, bk := k.nx } ρ2 S2) k.nx rest ρ2 S2, ⟨ds.length, [], ds, ρ, S1, rfl, rfl, rfl, he1, hs1, .refl, w1⟩, ?_⟩
    rintro i m σ2 H2 ⟨pre, rest, ρ2, S2, rfl, rfl, rfl, he2, hs2, e2, w2⟩
    have t2 := e2.tups hs1
    cases rest with
    | nil =>
      unfold loopW at w2
      obtain ⟨_, _, st⟩ := ok H2 S2 t2 hs2 w2.1
      rw [List.append_nil] at st
      exact .inl ⟨st, f.1 ρ2 σ2 H2 S2 (e1.trans e2) hs2 he2 w2.2⟩
    | cons d r =>
      unfold loopW at w2
      obtain ⟨c, w2⟩ := w2
      obtain ⟨go, yl, _⟩ := ok H2 S2 t2 hs2 c
      refine .inr ⟨go _ (by simp), _, fun σ' H' h => ⟨r.length, Nat.lt_succ_self _, h⟩, fun x H3 hy => ?_⟩
      obtain ⟨e3, hs3, r3⟩ := yl _ x H3 d hy (by simp)
      refine gTg_ok t d x ρ2 σ2 _ _ r3 (he2.mono (e3.tups hs2)) w2 fun ρ4 σ4 he4 _ w4 => ?_
      have e13 := e2.trans e3
      refine ⟨ρ4, S2, _, he4, hs3, w4, fun ρ5 σ5 H5 S5 e5 hs5 he5 q => ?_, (f.2.1.after e1).after e13, fun ρ5 σ5 H5 S5 e5 hs5 he5 q => f.1 ρ5 σ5 H5 S5 ((e1.trans e13).trans e5) hs5 he5 q, fun ρ5 σ5 H5 S5 e5 hs5 he5 q => ?_⟩
      · exact ⟨pre ++ [d], r, ρ5, S5, by simp, by simp, rfl, he5, hs5, e13.trans e5, q⟩
      · exact ⟨pre ++ [d], r, ρ5, S5, by simp, by simp, rfl, he5, hs5, e13.trans e5, q⟩
theorem ss_while {body : List Stmt} (hp : PassesOwn (model X.prog X.w) X.A X.env X.xe) (hc : ST X c Wc) (hb : SSs X body W1) : SS X (.While c body [] pos) (fun k ρ S => ∃ n, whW Wc W1 k n ρ S) :=
  ps_imp (ps_while hp hc hb) fun D σ H ⟨ρ, S, k, he, hs, ⟨n, w⟩, f⟩ => by
    refine ⟨fun m σ2 H2 => ∃ ρ2 S2, EnvR X.K H2 ρ2 σ2 ∧ StR X.K H2 S2 ∧ Ext H S H2 S2 ∧ whW Wc W1 k m ρ2 S2, ⟨n, ρ, S, he, hs, .refl, w⟩, ?_⟩
    rintro m σ2 H2 ⟨ρ2, S2, he2, hs2, e2, w2⟩
    cases m with
    | zero => exact w2.elim
    | succ m =>
      unfold whW at w2
      refine liftT_bind he2 hs2 w2 fun b H3 S3 e3 he3 hs3 w3 => ?_
      cases b with
      | false =>
        rw [if_neg Bool.false_ne_true] at w3 ⊢
        exact f.1 ρ2 σ2 H3 S3 (e2.trans e3) hs3 he3 w3
      | true =>
        rw [if_pos rfl] at w3 ⊢
        refine ⟨_, fun σ' H' h => ⟨m, Nat.lt_succ_self _, h⟩, ρ2, S3, _, he3, hs3, w3, fun ρ5 σ5 H5 S5 e5 hs5 he5 q => ⟨ρ5, S5, he5, hs5, (e2.trans e3).trans e5, q⟩, (f.2.1.after e2).after e3, fun ρ5 σ5 H5 S5 e5 hs5 he5 q => f.1 ρ5 σ5 H5 S5 ((e2.trans e3).trans e5) hs5 he5 q, fun ρ5 σ5 H5 S5 e5 hs5 he5 q => ⟨ρ5, S5, he5, hs5, (e2.trans e3).trans e5, q⟩⟩
end
end Z

/-! ### Z12 -/
/-! Z12: the text and the syntax: a check, and that it suffices. -/
namespace Z
open PySem PySem.Spec PyProof.Rows L2
/-- names of the module, by what they stand for -/
structure Tb where
  free : List Str
  call : List Str
  make : List Str
structure Ck where
  N : List Str
  sc : Scope
  fn : Str → Bool
structure Gd (P : Program) (w : World) (K : Frag) (mg : Str → Option Value) (base : Heap) (A : Around) (tb : Tb) (g : G) : Prop where
  units : A.units + 100 < cLine
  free : ∀ x ∈ tb.free, mg x = none
  call : ∀ x ∈ tb.call, ∃ (k : Nat) (f : Addr) (fd : FuncData) (ps : List Str), FnOk P w K mg base CX0 k f fd ps (spOf K (g.call x)) ∧ Room k A ∧ mg x = some (.ref f) ∧ PySem.W.keepIn K (.ref f) = true ∧ Binds K fd ps []
  make : ∀ C ∈ tb.make, ∃ (k : Nat) (f : Addr) (fd : FuncData) (ps : List Str), Mk K (He.ga K C) f ∧ FnOk P w K mg base CX0 k f fd ps (spOf K (g.init C)) ∧ Room (k + 1) A ∧ mg C = some (.ref (He.ga K C)) ∧ Binds K fd ps []
  noat : ∀ C f, g.noat C f = true → Cls K (He.ga K C) ∧ NoAttr K (He.ga K C) f
  meth : ∀ C m, g.ism C m = true → ∃ (k : Nat) (f : Addr) (fd : FuncData) (ps : List Str), Cls K (He.ga K C) ∧ Meth K (He.ga K C) m f ∧ FnOk P w K mg base CX0 k f fd ps (spOf K (g.meth C m)) ∧ Room k A ∧ Binds K fd ps []
  glob : ∀ x d, g.glob x = some d → ∃ (v : V) (u : Value), mg x = some u ∧ RelV v u ∧ ∀ H, Rep K H d v
structure Good (X : Cx) (c : Ck) (tb : Tb) (g : G) : Prop where
  calm : X.calm = true
  N : X.N = c.N
  nd : X.N.Nodup
  sc : X.env.scope = c.sc
  fn : X.fn = c.fn
  xe : X.xe = fun _ _ => False
  gd : Gd X.prog X.w X.K X.mg X.base X.A tb g
/-- within a comprehension -/
def Ck.blk (c : Ck) (scope : Scope) : Ck := ⟨c.N, relS scope c.sc, fun x => scope.names.lookup x == some .cell⟩
theorem Good.blk {X : Cx} {c : Ck} {tb : Tb} {g : G} (h : Good X c tb g) (scope : Scope) (s : Shared) (H : Hp) (C : Addr) (cl : List (Str × Addr)) (fp : List Addr) : Good (X.blk s H scope (compEnvC scope cl C X.env) fp) (c.blk scope) tb g :=
  ⟨h.calm, h.N, h.nd, by show relS scope X.env.scope = _; rw [h.sc]; rfl, rfl, rfl, h.gd⟩
/-! ### what is looked at -/
def nk (c : Ck) (x : Str) : Option NameKind := c.sc.names.lookup x
def visB (c : Ck) (x : Str) : Bool := match nk c x with
  | some .local => true
  | some .cell => true
  | some .free => true
  | _ => false
def locB (c : Ck) (x : Str) : Bool := match nk c x with
  | some .local => true
  | some .cell => c.fn x
  | _ => false
def glB (c : Ck) (x : Str) : Bool := match nk c x with
  | some .globalImplicit => true
  | _ => false
def undB (x : Str) : Bool := (x == ("__debug__" : Str)) || (x == ("__classdict__" : Str))
def slB (c : Ck) (i : Nat) (x : Str) : Bool := match c.N[i]? with
  | some y => x == y
  | none => false
def freB (tb : Tb) (x : Str) : Bool := tb.free.any fun y => x == y
def ownOf (c : Ck) (own : List Nat) : List (Str × Nat) := own.map fun i => ((c.N[i]?).getD Str.empty, i)
theorem ownOf_snd {c : Ck} : ∀ {own : List Nat}, (ownOf c own).map (·.2) = own
  | [] => rfl
  | i :: r => congrArg (i :: ·) (ownOf_snd (own := r))
def tyB (x : String) (y : Str) : Bool :=
  ((x == "int") && (y == ("int" : Str))) || ((x == "str") && (y == ("str" : Str))) || ((x == "bool") && (y == ("bool" : Str))) || ((x == "tuple") && (y == ("tuple" : Str))) || ((x == "list") && (y == ("list" : Str))) || ((x == "dict") && (y == ("dict" : Str)))
mutual
def ckT (c : Ck) : Tg → Expr → Bool
  | .v i, x => match x with
    | .Name y _ => slB c i y && locB c y
    | _ => false
  | .t ts, x => match x with
    | .Tuple xs _ _ => xs.all noStar && ckTs c ts xs
    | _ => false
def ckTs (c : Ck) : Tgs → List Expr → Bool
  | .nil, xs => match xs with
    | [] => true
    | _ => false
  | .cons t r, xs => match xs with
    | x :: xr => ckT c t x && ckTs c r xr
    | _ => false
end
def isTup : Expr → Bool
  | .Tuple .. => true
  | _ => false
mutual
def ckE (tb : Tb) : E → Ck → Expr → Bool
  | .non, _, x => match x with
    | .Constant .none _ _ => true
    | _ => false
  | .bl b, _, x => match x with
    | .Constant (.bool a) _ _ => a == b
    | _ => false
  | .int i, _, x => match x with
    | .Constant (.int j) _ _ => decide (j = i)
    | _ => false
  | .str s, _, x => match x with
    | .Constant (.str t) _ _ => t == s
    | _ => false
  | .var i, c, x => match x with
    | .Name y _ => slB c i y && visB c y && !undB y
    | _ => false
  | .glob z, c, x => match x with
    | .Name y _ => (y == z) && glB c y && !undB y
    | _ => false
  | .ty z, c, x => match x with
    | .Name y _ => tyB z y && glB c y && freB tb y
    | _ => false
  | .bin o a b, c, x => match x with
    | .BinOp xa op xb _ => bopOk o op && ckE tb a c xa && ckE tb b c xb
    | _ => false
  | .neg a, c, x => match x with
    | .UnaryOp .USub xa _ => ckE tb a c xa
    | _ => false
  | .cmp o a b, c, x => match x with
    | .Compare xa [op] [xb] _ => copOk o op && noSet xb && ckE tb a c xa && ckE tb b c xb
    | _ => false
  | .chn o p a b d, c, x => match x with
    | .Compare xa [op, pp] [xb, xd] _ => copOk o op && copOk p pp && noSet xb && noSet xd && ckE tb a c xa && ckE tb b c xb && ckE tb d c xd
    | _ => false
  | .notE a, c, x => match x with
    | .UnaryOp .Not xa _ => ckE tb a c xa
    | _ => false
  | .andE es, c, x => match x with
    | .BoolOp .And xs _ => ckEs tb es c xs
    | _ => false
  | .orE es, c, x => match x with
    | .BoolOp .Or xs _ => ckEs tb es c xs
    | _ => false
  | .ite k a b, c, x => match x with
    | .IfExp xk xa xb _ => ckE tb k c xk && ckE tb a c xa && ckE tb b c xb
    | _ => false
  | .tup es, c, x => match x with
    | .Tuple xs _ _ => xs.all noStar && ckEs tb es c xs
    | _ => false
  | .lst es, c, x => match x with
    | .List xs _ => xs.all noStar && ckEs tb es c xs
    | _ => false
  | .dic ks vs, c, x => match ks, vs with
    | .nil, .nil => (match x with
      | .Dict [] [] _ => true
      | _ => false)
    | _, _ => false
  | .ix a b, c, x => match x with
    | .Subscript xa xb _ => noSlice xb && ckE tb a c xa && ckE tb b c xb
    | _ => false
  | .sl a lo hi, c, x => match x with
    | .Subscript xa (.Slice xl xh none _) _ => ckE tb a c xa && ckO tb lo c xl && ckO tb hi c xh
    | _ => false
  | .fld a f, c, x => match x with
    | .Attribute xa y _ => (y == f) && noCall0 xa && ckE tb a c xa
    | _ => false
  | .call f es, c, x => match x with
    | .Call (.Name y _) xs [] _ => (y == f) && (tb.call.any fun z => f == z) && glB c y && !undB y && xs.all noStar && ckEs tb es c xs
    | _ => false
  | .make f es, c, x => match x with
    | .Call (.Name y _) xs [] _ => (y == f) && (tb.make.any fun z => f == z) && glB c y && !undB y && xs.all noStar && ckEs tb es c xs
    | _ => false
  | .meth o m es, c, x => match x with
    | .Call (.Attribute xo y ap) xs [] pos => (y == m) && noCall0 xo && (ap.endLine == pos.line) && decide (xs.length < 30) && xs.all noStar && ckE tb o c xo && ckEs tb es c xs
    | _ => false
  | .bi f es, c, x => match x with
    | .Call (.Name y _) (xa :: xs) [] _ => (y == f.name) && glB c y && freB tb y && (xa :: xs).all noStar && ckEs tb es c (xa :: xs)
    | _ => false
  | .trev e, c, x => match x with
    | .Call (.Name y _) [.Call (.Name z _) [xe] [] _] [] _ => (y == ("tuple" : Str)) && (z == ("reversed" : Str)) && glB c y && freB tb y && glB c z && freB tb z && noStar xe && ckE tb e c xe
    | _ => false
  | .bm o m es, c, x => match x with
    | .Call (.Attribute xo y ap) xs [] pos => (y == m.name) && noCall0 xo && (ap.endLine == pos.line) && decide (xs.length < 30) && xs.all noStar && ckE tb o c xo && ckEs tb es c xs
    | _ => false
  | .lc elt tg it ifs own, c, x => match x with
    | .ListComp xe [⟨xt, xi, xf, 0⟩] scope _ => blkC c.N c.sc scope (ownOf c own) && noSet xi && ((tgSl tg).all fun i => own.any fun j => i == j) && ckI tb it c xt xi && ckT (c.blk scope) tg xt && ckF tb ifs (c.blk scope) xf && ckE tb elt (c.blk scope) xe
    | _ => false
  | .dc ke ve tg it ifs own, c, x => match x with
    | .DictComp xk xv [⟨xt, xi, xf, 0⟩] scope _ => blkC c.N c.sc scope (ownOf c own) && noSet xi && ((tgSl tg).all fun i => own.any fun j => i == j) && ckI tb it c xt xi && ckT (c.blk scope) tg xt && ckF tb ifs (c.blk scope) xf && ckE tb ke (c.blk scope) xk && ckE tb ve (c.blk scope) xv
    | _ => false
def ckEs (tb : Tb) : Es → Ck → List Expr → Bool
  | .nil, _, xs => match xs with
    | [] => true
    | _ => false
  | .cons e r, c, xs => match xs with
    | x :: xr => ckE tb e c x && ckEs tb r c xr
    | _ => false
def ckO (tb : Tb) : EO → Ck → Option Expr → Bool
  | .no, _, x => match x with
    | none => true
    | _ => false
  | .so e, c, x => match x with
    | some x => ckE tb e c x
    | _ => false
def ckF (tb : Tb) : EO → Ck → List Expr → Bool
  | .no, _, x => match x with
    | [] => true
    | _ => false
  | .so e, c, x => match x with
    | [x] => ckE tb e c x
    | _ => false
def ckI (tb : Tb) : Wk → Ck → Expr → Expr → Bool
  | .val e, c, _, x => ckE tb e c x
  | .rng1 a, c, _, x => match x with
    | .Call (.Name y _) [xa] [] _ => (y == ("range" : Str)) && glB c y && freB tb y && noStar xa && ckE tb a c xa
    | _ => false
  | .rng2 a b, c, _, x => match x with
    | .Call (.Name y _) [xa, xb] [] _ => (y == ("range" : Str)) && glB c y && freB tb y && noStar xa && noStar xb && ckE tb a c xa && ckE tb b c xb
    | _ => false
  | .enum a, c, t, x => match x with
    | .Call (.Name y _) [xa] [] _ => (y == ("enumerate" : Str)) && glB c y && freB tb y && noStar xa && isTup t && ckE tb a c xa
    | _ => false
  | .zip a b, c, t, x => match x with
    | .Call (.Name y _) [xa, xb] [] _ => (y == ("zip" : Str)) && glB c y && freB tb y && noStar xa && noStar xb && isTup t && ckE tb a c xa && ckE tb b c xb
    | _ => false
  | .rev a, c, _, x => match x with
    | .Call (.Name y _) [xa] [] _ => (y == ("reversed" : Str)) && glB c y && freB tb y && noStar xa && ckE tb a c xa
    | _ => false
end
/-! ### the facts behind -/
section
variable {X : Cx} {c : Ck} {tb : Tb} {g : G} {x : Str} {i : Nat}
theorem Good.vis (h : Good X c tb g) (q : visB c x = true) : Vis X.env.scope x := by
  unfold visB nk at q
  unfold Vis
  rw [h.sc]
  split at q
  · exact .inl (by assumption)
  · exact .inr (.inl (by assumption))
  · exact .inr (.inr (by assumption))
  · cases q
theorem Good.loc (h : Good X c tb g) (q : locB c x = true) : L2.Loc X.env.scope x ∧ (X.fn x = true ∨ X.env.scope.names.lookup x = some .local) := by
  unfold locB nk at q
  unfold L2.Loc
  rw [h.sc, h.fn]
  split at q
  · exact ⟨.inl (by assumption), .inr (by assumption)⟩
  · exact ⟨.inr (by assumption), .inl q⟩
  · cases q
theorem Good.gl (h : Good X c tb g) (q : glB c x = true) : Gl X x := by
  unfold glB nk at q
  show X.env.scope.names.lookup x = _
  rw [h.sc]
  split at q
  · assumption
  · cases q
theorem und_debug (q : (!undB x) = true) : (x == ("__debug__" : Str)) = false ∧ (x == ("__classdict__" : Str)) = false := by
  unfold undB at q
  rw [Bool.not_or, Bool.and_eq_true] at q
  exact ⟨by simpa using q.1, by simpa using q.2⟩
theorem Good.slot (h : Good X c tb g) (q : slB c i x = true) : X.N[i]? = some x := by
  unfold slB at q
  rw [h.N]
  split at q
  · rename_i y hy
    rw [hy, eq_of_beq q]
  · cases q
theorem any_mem {l : List Str} (q : (l.any fun y => x == y) = true) : x ∈ l := by
  obtain ⟨y, hy, e⟩ := List.any_eq_true.mp q
  rw [eq_of_beq e]; exact hy
theorem Good.fre (h : Good X c tb g) (q : freB tb x = true) : X.mg x = none := h.gd.free x (any_mem q)
end
theorem assign_len {env : PySem.Env} : ∀ {es : List Expr}, (assignEach es env).length = es.length
  | [] => rfl
  | e :: es => by
    have ih := assign_len (env := env) (es := es)
    cases e <;> simpa [assignEach] using ih
theorem assign_find {env : PySem.Env} : ∀ {es : List Expr}, es.all noStar = true → (assignEach es env).findIdx? (·.1) = none
  | [], _ => rfl
  | e :: es, h => by
    rw [List.all_cons, Bool.and_eq_true] at h
    rw [assign_cons h.1, List.findIdx?_cons, assign_find h.2] <;> rfl
mutual
theorem ck_t {X : Cx} {c : Ck} {tb : Tb} {g : G} (h : Good X c tb g) : ∀ (t : Tg) (x : Expr), ckT c t x = true → PG X x (gTg X.K t)
  | .v i, x, q => by
    unfold ckT at q
    split at q
    · rw [Bool.and_eq_true] at q
      obtain ⟨l1, l2⟩ := h.loc q.2
      unfold gTg
      exact pg_name h.nd (h.slot q.1) l1 l2
    · cases q
  | .t ts, x, q => by
    unfold ckT at q
    split at q
    · rename_i xs _ _
      rw [Bool.and_eq_true] at q
      unfold gTg
      obtain ⟨p, l⟩ := ck_ts h ts xs q.1 q.2
      exact pg_tup h.calm p (by rw [assign_len, l]) (assign_find q.1)
    · cases q
theorem ck_ts {X : Cx} {c : Ck} {tb : Tb} {g : G} (h : Good X c tb g) : ∀ (ts : Tgs) (xs : List Expr), xs.all noStar = true → ckTs c ts xs = true → PGs X xs (gTgs X.K ts) ∧ xs.length = tgLen ts
  | .nil, xs, n, q => by
    unfold ckTs at q
    split at q
    · unfold gTgs tgLen
      exact ⟨pgs_nil, rfl⟩
    · cases q
  | .cons t r, xs, n, q => by
    unfold ckTs at q
    split at q
    · rename_i x xr
      rw [Bool.and_eq_true] at q
      rw [List.all_cons, Bool.and_eq_true] at n
      obtain ⟨p, l⟩ := ck_ts h r xr n.2 q.2
      unfold gTgs tgLen
      exact ⟨pgs_cons (ck_t h t x q.1) p (by rw [assign_cons n.1] <;> rfl), by rw [List.length_cons, l]⟩
    · cases q
end
end Z

/-! ### Z13 -/
/-! Z13: a checked expression does what its syntax asks. -/
namespace Z
open PySem PySem.Spec PyProof.Rows L2
abbrev SB (X : Cx) (x : Expr) (W : WE × WT) : Prop := SE X x W.1 ∧ ST X x W.2
section
variable {X : Cx} {c : Ck} {tb : Tb} {g : G}
theorem st_false {e : Expr} : ST X e (fun _ _ _ => False) := ⟨fun pins s σ H Q I ⟨ρ, S, Q', he, hs, w, f⟩ => w.elim⟩
theorem se_false {e : Expr} : SE X e (fun _ _ _ => False) := ⟨fun pins s σ H Q I ⟨ρ, S, Q', he, hs, w, f⟩ => w.elim⟩
theorem sb_of {x : Expr} {W : WE} (h : SE X x W) (p : plainTest x = true) : SB X x (ofE W) := ⟨h, st_truth h (test_plain p)⟩
theorem pt_imp' {e : Expr} {W : WT} (h : SW X e W) : ST X e W := PW.pt h
/-- a comprehension's premises -/
structure LcOk (X : Cx) (tg iter elt : Expr) (ifs : List Expr) (scope : Scope) (own : List (Str × Nat)) (wi : TI) (gt : TG) (tt : TT) (te : TE) : Prop where
  hi : PI X tg iter wi
  ok : BlkOk X.N X.env.scope scope own
  hg : ∀ (s : Shared) (H : Hp) (C : Addr) (cl : List (Str × Addr)) (fp : List Addr), PG (X.blk s H scope (compEnvC scope cl C X.env) fp) tg gt
  ht : ∀ (s : Shared) (H : Hp) (C : Addr) (cl : List (Str × Addr)) (fp : List Addr), PTs (X.blk s H scope (compEnvC scope cl C X.env) fp) ifs tt
  he : ∀ (s : Shared) (H : Hp) (C : Addr) (cl : List (Str × Addr)) (fp : List Addr), PE (X.blk s H scope (compEnvC scope cl C X.env) fp) elt te
  hs : ∀ x, foldedSetIterable iter X.env x = pure x
end
theorem own_mem {c : Ck} {sl own : List Nat} (q : (sl.all fun i => own.any fun j => i == j) = true) : ∀ i ∈ sl, i ∈ (ownOf c own).map (·.2) := by
  rw [ownOf_snd]
  intro i hi
  obtain ⟨j, hj, e⟩ := List.any_eq_true.mp (List.all_eq_true.mp q i hi)
  rw [eq_of_beq e]; exact hj
theorem set_last {op op' : CmpOp} {a b : Expr} (h : noSet b = true) : lastMarks [op, op'] [a, b] = false := by
  show behindInMarks op' b = false
  exact set_behind h
theorem bf_undebug (b : BF) : b.name ≠ "__name__" := by cases b <;> decide
mutual
theorem ck_e {tb : Tb} {g : G} : ∀ (e : E) (c : Ck) (x : Expr), ckE tb e c x = true → ∀ X, Good X c tb g → SB X x (wp g e)
  | .non, c, x, q, X, h => by
    unfold ckE at q
    split at q
    · unfold wp
      exact sb_of (se_const pe_non fun _ => rep_non.mpr rfl) rfl
    · cases q
  | .bl b, c, x, q, X, h => by
    unfold ckE at q
    split at q
    · obtain rfl := eq_of_beq q
      unfold wp
      exact sb_of (se_const pe_bl fun _ => rep_bl.mpr rfl) rfl
    · cases q
  | .int i, c, x, q, X, h => by
    unfold ckE at q
    split at q
    · obtain rfl := of_decide_eq_true q
      unfold wp
      exact sb_of (se_const pe_int fun _ => rep_int.mpr rfl) rfl
    · cases q
  | .str i, c, x, q, X, h => by
    unfold ckE at q
    split at q
    · obtain rfl := eq_of_beq q
      unfold wp
      exact sb_of (se_const pe_str fun _ => rep_str.mpr rfl) rfl
    · cases q
  | .var i, c, x, q, X, h => by
    unfold ckE at q
    split at q
    · simp only [Bool.and_eq_true] at q
      unfold wp
      exact sb_of (se_var (h.slot q.1.1) (h.vis q.1.2) (und_debug q.2).1 (und_debug q.2).2) rfl
    · cases q
  | .glob z, c, x, q, X, h => by
    unfold ckE at q
    split at q
    · simp only [Bool.and_eq_true] at q
      obtain ⟨⟨q1, q2⟩, q3⟩ := q
      obtain rfl := eq_of_beq q1
      unfold wp
      cases e : g.glob _ with
      | none => exact sb_of se_false rfl
      | some d =>
        obtain ⟨v, u, h1, h2, h3⟩ := h.gd.glob _ d e
        exact sb_of (se_const (pe_glob (h.gl q2) h1 h2 (und_debug q3).1) h3) rfl
    · cases q
  | .ty z, c, x, q, X, h => by
    unfold ckE at q
    split at q
    · simp only [Bool.and_eq_true] at q
      obtain ⟨⟨q1, q2⟩, q3⟩ := q
      unfold wp
      refine sb_of ?_ rfl
      unfold tyB at q1
      simp only [Bool.or_eq_true, Bool.and_eq_true] at q1
      rcases q1 with ((((q1 | q1) | q1) | q1) | q1) | q1 <;>
      · obtain ⟨a, b⟩ := q1
        obtain rfl := eq_of_beq a
        obtain rfl := eq_of_beq b
        exact se_const (v := .ty _) (pe_bltn (u := .type _) (h.gl q2) (h.fre q3) (by decide +kernel) rfl) fun _ => rep_ty.mpr rfl
    · cases q
  | .bin o a b, c, x, q, X, h => by
    unfold ckE at q
    split at q
    · simp only [Bool.and_eq_true] at q
      unfold wp
      exact sb_of (se_bin (bop_ok q.1.1) (ck_e a c _ q.1.2 X h).1 (ck_e b c _ q.2 X h).1) rfl
    · cases q
  | .neg a, c, x, q, X, h => by
    unfold ckE at q
    split at q
    · unfold wp
      exact sb_of (se_un unz_neg (ck_e a c _ q X h).1) rfl
    · cases q
  | .cmp o a b, c, x, q, X, h => by
    unfold ckE at q
    split at q
    · simp only [Bool.and_eq_true] at q
      unfold wp
      have hu : X.A.units + 65 < cLine := by have := h.gd.units; omega
      exact ⟨se_cmp (cop_ok hu q.1.1.1) (ck_e a c _ q.1.2 X h).1 (ck_e b c _ q.2 X h).1 (set_behind q.1.1.2), st_cmp (cop_ok hu q.1.1.1) (ck_e a c _ q.1.2 X h).1 (ck_e b c _ q.2 X h).1 (set_behind q.1.1.2)⟩
    · cases q
  | .chn o p a b d, c, x, q, X, h => by
    unfold ckE at q
    split at q
    · simp only [Bool.and_eq_true] at q
      unfold wp
      have hu : X.A.units + 65 < cLine := by have := h.gd.units; omega
      obtain ⟨⟨⟨⟨⟨⟨q1, q2⟩, q3⟩, q4⟩, q5⟩, q6⟩, q7⟩ := q
      exact ⟨se_chn (cop_ok hu q1) (cop_ok hu q2) (ck_e a c _ q5 X h).1 (ck_e b c _ q6 X h).1 (ck_e d c _ q7 X h).1 (set_last q4), st_chn (cop_ok hu q1) (cop_ok hu q2) (ck_e a c _ q5 X h).1 (ck_e b c _ q6 X h).1 (ck_e d c _ q7 X h).1 (set_last q4)⟩
    · cases q
  | .notE a, c, x, q, X, h => by
    unfold ckE at q
    split at q
    · unfold wp
      exact ⟨se_not (ck_e a c _ q X h).1, st_not (ck_e a c _ q X h).2⟩
    · cases q
  | .andE es, c, x, q, X, h => by
    unfold ckE at q
    split at q
    · unfold wp
      have := ck_and es c _ q X h
      exact ⟨(this _).1, PW.pt (this _).2⟩
    · cases q
  | .orE es, c, x, q, X, h => by
    unfold ckE at q
    split at q
    · unfold wp
      have := ck_or es c _ q X h
      exact ⟨(this _).1, PW.pt (this _).2⟩
    · cases q
  | .ite k a b, c, x, q, X, h => by
    unfold ckE at q
    split at q
    · simp only [Bool.and_eq_true] at q
      unfold wp
      exact ⟨se_ite (ck_e k c _ q.1.1 X h).2 (ck_e a c _ q.1.2 X h).1 (ck_e b c _ q.2 X h).1, st_false⟩
    · cases q
  | .tup es, c, x, q, X, h => by
    unfold ckE at q
    split at q
    · simp only [Bool.and_eq_true] at q
      unfold wp
      exact sb_of (se_tup (ck_es es c _ q.2 X h q.1)) rfl
    · cases q
  | .lst es, c, x, q, X, h => by
    unfold ckE at q
    split at q
    · simp only [Bool.and_eq_true] at q
      unfold wp
      exact sb_of (se_lst (ck_es es c _ q.2 X h q.1)) rfl
    · cases q
  | .dic ks vs, c, x, q, X, h => by
    unfold ckE at q
    split at q
    · split at q
      · unfold wp
        exact sb_of se_dnew rfl
      · cases q
    · cases q
  | .ix a b, c, x, q, X, h => by
    unfold ckE at q
    split at q
    · simp only [Bool.and_eq_true] at q
      unfold wp
      exact sb_of (se_ix (by have := h.gd.units; omega) (ck_e a c _ q.1.2 X h).1 (ck_e b c _ q.2 X h).1 (ix_plain q.1.1)) rfl
    · cases q
  | .sl a lo hi, c, x, q, X, h => by
    unfold ckE at q
    split at q
    · simp only [Bool.and_eq_true] at q
      unfold wp
      exact sb_of (se_sl (ck_e a c _ q.1.1 X h).1 (ck_o lo c _ q.1.2 X h) (ck_o hi c _ q.2 X h)) rfl
    · cases q
  | .fld a f, c, x, q, X, h => by
    unfold ckE at q
    split at q
    · simp only [Bool.and_eq_true] at q
      obtain ⟨⟨q1, q2⟩, q3⟩ := q
      obtain rfl := eq_of_beq q1
      unfold wp
      exact sb_of (se_fld (fun C e => h.gd.noat C _ e) (ck_e a c _ q3 X h).1 (base_plain q2)) rfl
    · cases q
  | .call f es, c, x, q, X, h => by
    unfold ckE at q
    split at q
    · simp only [Bool.and_eq_true] at q
      obtain ⟨⟨⟨⟨⟨q1, q2⟩, q3⟩, q4⟩, q5⟩, q6⟩ := q
      obtain rfl := eq_of_beq q1
      obtain ⟨k, fa, fd, ps, F, rm, hm, hk, hb⟩ := h.gd.call _ (any_mem q2)
      have pa := ck_es es c _ q6 X h q5
      unfold wp
      refine sb_of ?_ rfl
      rename_i xs _
      cases xs with
      | nil =>
        cases es with
        | nil =>
          unfold wpEs
          exact se_call0 F rm (h.gl q3) hm hk hb pass0 (und_debug q4).1
        | cons _ _ => unfold ckEs at q6; cases q6
      | cons xa xs =>
        rw [List.all_cons, Bool.and_eq_true] at q5
        exact se_call F rm (h.gl q3) hm hk hb pass0 (und_debug q4).1 pa (star_cons q5.1) (any_back q5.2)
    · cases q
  | .make f es, c, x, q, X, h => by
    unfold ckE at q
    split at q
    · simp only [Bool.and_eq_true] at q
      obtain ⟨⟨⟨⟨⟨q1, q2⟩, q3⟩, q4⟩, q5⟩, q6⟩ := q
      obtain rfl := eq_of_beq q1
      obtain ⟨k, fa, fd, ps, M, F, rm, hm, hb⟩ := h.gd.make _ (any_mem q2)
      have pa := ck_es es c _ q6 X h q5
      unfold wp
      refine sb_of ?_ rfl
      rename_i xs _
      cases xs with
      | nil =>
        cases es with
        | nil =>
          unfold wpEs
          exact se_make0 M F rm (h.gl q3) hm hb pass0 (und_debug q4).1
        | cons _ _ => unfold ckEs at q6; cases q6
      | cons xa xs =>
        rw [List.all_cons, Bool.and_eq_true] at q5
        exact se_make M F rm (h.gl q3) hm hb pass0 (und_debug q4).1 pa (star_cons q5.1) (any_back q5.2)
    · cases q
  | .meth o m es, c, x, q, X, h => by
    unfold ckE at q
    split at q
    · simp only [Bool.and_eq_true] at q
      obtain ⟨⟨⟨⟨⟨⟨q1, q2⟩, q3⟩, q4⟩, q5⟩, q6⟩, q7⟩ := q
      obtain rfl := eq_of_beq q1
      have pa := ck_es es c _ q7 X h q5
      have hl := of_decide_eq_true q4
      unfold wp
      refine sb_of ?_ rfl
      rename_i xs _
      have hmf : ∀ m C, g.ism C m = true → MethF X C m (g.meth C m) := fun m C e => ⟨h.gd.meth C m e⟩
      cases xs with
      | nil =>
        cases es with
        | nil =>
          unfold wpEs
          exact se_meth0 (ck_e o c _ q6 X h).1 (hmf _) (base_plain q2) (form_few (es := []) rfl (by decide)) q3
        | cons _ _ => unfold ckEs at q7; cases q7
      | cons xa xs =>
        have q5' := q5
        rw [List.all_cons, Bool.and_eq_true] at q5
        exact se_meth (ck_e o c _ q6 X h).1 (hmf _) (base_plain q2) (form_few q5' hl) q3 pa (star_cons q5.1) (any_back q5.2)
    · cases q
  | .bi f es, c, x, q, X, h => by
    unfold ckE at q
    split at q
    · simp only [Bool.and_eq_true] at q
      obtain ⟨⟨⟨⟨q1, q2⟩, q3⟩, q5⟩, q6⟩ := q
      obtain rfl := eq_of_beq q1
      have pa := ck_es es c _ q6 X h q5
      rw [List.all_cons, Bool.and_eq_true] at q5
      unfold wp
      exact sb_of (se_bi h.calm (h.gl q2) (h.fre q3) pa (star_cons q5.1) (any_back q5.2)) rfl
    · cases q
  | .trev e, c, x, q, X, h => by
    unfold ckE at q
    split at q
    · simp only [Bool.and_eq_true] at q
      obtain ⟨⟨⟨⟨⟨⟨⟨q1, q2⟩, q3⟩, q4⟩, q5⟩, q6⟩, q7⟩, q8⟩ := q
      obtain rfl := eq_of_beq q1
      obtain rfl := eq_of_beq q2
      unfold wp
      exact sb_of (se_trev h.calm (h.gl q3) (h.fre q4) (h.gl q5) (h.fre q6) (ck_e e c _ q8 X h).1 (star_cons q7)) rfl
    · cases q
  | .bm o m es, c, x, q, X, h => by
    unfold ckE at q
    split at q
    · simp only [Bool.and_eq_true] at q
      obtain ⟨⟨⟨⟨⟨⟨q1, q2⟩, q3⟩, q4⟩, q5⟩, q6⟩, q7⟩ := q
      obtain rfl := eq_of_beq q1
      have pa := ck_es es c _ q7 X h q5
      have hl := of_decide_eq_true q4
      have hu : X.A.units + 1 < cLine := by have := h.gd.units; omega
      unfold wp
      refine sb_of ?_ rfl
      rename_i xs _
      cases xs with
      | nil =>
        cases es with
        | nil =>
          unfold wpEs
          exact se_bm0 hu (ck_e o c _ q6 X h).1 (base_plain q2) q3
        | cons _ _ => unfold ckEs at q7; cases q7
      | cons xa xs =>
        have q5' := q5
        rw [List.all_cons, Bool.and_eq_true] at q5
        exact se_bm hu (ck_e o c _ q6 X h).1 (base_plain q2) q3 (few30 q5' hl) pa (star_cons q5.1) (any_back q5.2)
    · cases q
  | .lc elt tg it ifs own, c, x, q, X, h => by
    unfold ckE at q
    split at q
    · simp only [Bool.and_eq_true] at q
      obtain ⟨⟨⟨⟨⟨⟨q1, q2⟩, q3⟩, q4⟩, q5⟩, q6⟩, q7⟩ := q
      unfold wp
      have hi := ck_i it c _ _ q4 X h
      refine sb_of (pe_imp (pe_lc h.calm h.nd hi (own := ownOf c own) (by rw [h.N, h.sc]; exact blkOk_by q1) (fun s H C cl fp => ck_t (h.blk _ s H C cl fp) tg _ q5) (fun s H C cl fp => ck_f ifs (c.blk _) _ q6 _ (h.blk _ s H C cl fp)) (fun s H C cl fp => (ck_e elt (c.blk _) _ q7 _ (h.blk _ s H C cl fp)).1) (set_folded q2)) fun σ H Q w => lc_read (own_mem q3) ?_) rfl
      rw [ownOf_snd]
      exact w
    · cases q
  | .dc ke ve tg it ifs own, c, x, q, X, h => by
    unfold ckE at q
    split at q
    · simp only [Bool.and_eq_true] at q
      obtain ⟨⟨⟨⟨⟨⟨⟨q1, q2⟩, q3⟩, q4⟩, q5⟩, q6⟩, q7⟩, q8⟩ := q
      unfold wp
      have hi := ck_i it c _ _ q4 X h
      refine sb_of (pe_imp (pe_dc h.calm h.nd hi (own := ownOf c own) (by rw [h.N, h.sc]; exact blkOk_by q1) (fun s H C cl fp => ck_t (h.blk _ s H C cl fp) tg _ q5) (fun s H C cl fp => ck_f ifs (c.blk _) _ q6 _ (h.blk _ s H C cl fp)) (fun s H C cl fp => (ck_e ke (c.blk _) _ q7 _ (h.blk _ s H C cl fp)).1) (fun s H C cl fp => (ck_e ve (c.blk _) _ q8 _ (h.blk _ s H C cl fp)).1) (set_folded q2)) fun σ H Q w => dc_read (own_mem q3) ?_) rfl
      rw [ownOf_snd]
      exact w
    · cases q
theorem ck_es {tb : Tb} {g : G} : ∀ (es : Es) (c : Ck) (xs : List Expr), ckEs tb es c xs = true → ∀ X, Good X c tb g → xs.all noStar = true → SA X xs (wpEs g es)
  | .nil, c, xs, q, X, h, n => by
    unfold ckEs at q
    split at q
    · unfold wpEs; exact sa_nil
    · cases q
  | .cons e r, c, xs, q, X, h, n => by
    unfold ckEs at q
    split at q
    · rw [Bool.and_eq_true] at q
      rw [List.all_cons, Bool.and_eq_true] at n
      unfold wpEs
      exact sa_cons (ck_e e c _ q.1 X h).1 (ck_es r c _ q.2 X h n.2) (star_cons n.1)
    · cases q
theorem ck_and {tb : Tb} {g : G} : ∀ (es : Es) (c : Ck) (xs : List Expr), ckEs tb es c xs = true → ∀ X, Good X c tb g → ∀ pos, SE X (.BoolOp .And xs pos) (wpAnd g es).1 ∧ SW X (.BoolOp .And xs pos) (wpAnd g es).2
  | .nil, c, xs, q, X, h => fun pos => by
    unfold wpAnd
    exact ⟨se_false, ⟨fun wh pins s σ H Q I ⟨ρ, S, Q', he, hs, w, f⟩ => w.elim⟩⟩
  | .cons e r, c, xs, q, X, h => fun pos => by
    unfold ckEs at q
    split at q
    · rename_i x xr
      rw [Bool.and_eq_true] at q
      have a := ck_e e c _ q.1 X h
      cases r with
      | nil =>
        have q2 := q.2
        unfold ckEs at q2
        split at q2
        · unfold wpAnd
          exact ⟨se_and1 a.1, sw_and1 a.2⟩
        · cases q2
      | cons e2 r2 =>
        have b := ck_and (.cons e2 r2) c _ q.2 X h pos
        cases xr with
        | nil => have q2 := q.2; unfold ckEs at q2; cases q2
        | cons y yr =>
          unfold wpAnd
          exact ⟨se_and a.1 b.1, sw_and a.2 b.2⟩
    · cases q
theorem ck_or {tb : Tb} {g : G} : ∀ (es : Es) (c : Ck) (xs : List Expr), ckEs tb es c xs = true → ∀ X, Good X c tb g → ∀ pos, SE X (.BoolOp .Or xs pos) (wpOr g es).1 ∧ SW X (.BoolOp .Or xs pos) (wpOr g es).2
  | .nil, c, xs, q, X, h => fun pos => by
    unfold wpOr
    exact ⟨se_false, ⟨fun wh pins s σ H Q I ⟨ρ, S, Q', he, hs, w, f⟩ => w.elim⟩⟩
  | .cons e r, c, xs, q, X, h => fun pos => by
    unfold ckEs at q
    split at q
    · rename_i x xr
      rw [Bool.and_eq_true] at q
      have a := ck_e e c _ q.1 X h
      cases r with
      | nil =>
        have q2 := q.2
        unfold ckEs at q2
        split at q2
        · unfold wpOr
          exact ⟨se_and1 a.1, sw_or1 a.2⟩
        · cases q2
      | cons e2 r2 =>
        have b := ck_or (.cons e2 r2) c _ q.2 X h pos
        cases xr with
        | nil => have q2 := q.2; unfold ckEs at q2; cases q2
        | cons y yr =>
          unfold wpOr
          exact ⟨se_or a.1 b.1, sw_or a.2 b.2⟩
    · cases q
theorem ck_o {tb : Tb} {g : G} : ∀ (o : EO) (c : Ck) (x : Option Expr), ckO tb o c x = true → ∀ X, Good X c tb g → PO X x (liftO X.K (wpO g o))
  | .no, c, x, q, X, h => by
    unfold ckO at q
    split at q
    · unfold wpO; exact so_none
    · cases q
  | .so e, c, x, q, X, h => by
    unfold ckO at q
    split at q
    · unfold wpO; exact so_some (ck_e e c _ q X h).1
    · cases q
theorem ck_f {tb : Tb} {g : G} : ∀ (o : EO) (c : Ck) (x : List Expr), ckF tb o c x = true → ∀ X, Good X c tb g → PTs X x (liftT X.K (wpIf g o))
  | .no, c, x, q, X, h => by
    unfold ckF at q
    split at q
    · unfold wpIf
      exact ⟨fun pins s σ H Q I ⟨ρ, S, Q', he, hs, w, f⟩ => pts_nil.run pins s σ H Q I (f true H S .refl hs w)⟩
    · cases q
  | .so e, c, x, q, X, h => by
    unfold ckF at q
    split at q
    · unfold wpIf; exact pts_one (ck_e e c _ q X h).2
    · cases q
theorem ck_i {tb : Tb} {g : G} : ∀ (k : Wk) (c : Ck) (t x : Expr), ckI tb k c t x = true → ∀ X, Good X c tb g → SI X t x (wpI g k)
  | .val e, c, t, x, q, X, h => by
    unfold ckI at q
    unfold wpI
    exact si_val (ck_e e c _ q X h).1
  | .rng1 a, c, t, x, q, X, h => by
    unfold ckI at q
    split at q
    · simp only [Bool.and_eq_true] at q
      obtain ⟨⟨⟨⟨q1, q2⟩, q3⟩, q4⟩, q5⟩ := q
      obtain rfl := eq_of_beq q1
      unfold wpI
      exact si_rng1 (h.gl q2) (h.fre q3) (ck_e a c _ q5 X h).1 (star_cons q4)
    · cases q
  | .rng2 a b, c, t, x, q, X, h => by
    unfold ckI at q
    split at q
    · simp only [Bool.and_eq_true] at q
      obtain ⟨⟨⟨⟨⟨⟨q1, q2⟩, q3⟩, q4⟩, q5⟩, q6⟩, q7⟩ := q
      obtain rfl := eq_of_beq q1
      unfold wpI
      exact si_rng2 (h.gl q2) (h.fre q3) (ck_e a c _ q6 X h).1 (ck_e b c _ q7 X h).1 (by rw [star_cons q4, star_cons q5] <;> rfl) (by rw [star_cons q5] <;> rfl)
    · cases q
  | .enum a, c, t, x, q, X, h => by
    unfold ckI at q
    split at q
    · simp only [Bool.and_eq_true] at q
      obtain ⟨⟨⟨⟨⟨q1, q2⟩, q3⟩, q4⟩, q5⟩, q6⟩ := q
      obtain rfl := eq_of_beq q1
      unfold wpI
      cases t <;> first | cases q5 | skip
      exact si_enum (h.gl q2) (h.fre q3) (ck_e a c _ q6 X h).1 (star_cons q4)
    · cases q
  | .zip a b, c, t, x, q, X, h => by
    unfold ckI at q
    split at q
    · simp only [Bool.and_eq_true] at q
      obtain ⟨⟨⟨⟨⟨⟨⟨q1, q2⟩, q3⟩, q4⟩, q5⟩, q6⟩, q7⟩, q8⟩ := q
      obtain rfl := eq_of_beq q1
      unfold wpI
      cases t <;> first | cases q6 | skip
      exact si_zip (h.gl q2) (h.fre q3) (ck_e a c _ q7 X h).1 (ck_e b c _ q8 X h).1 (star_cons q4) (star_cons q5)
    · cases q
  | .rev a, c, t, x, q, X, h => by
    unfold ckI at q
    split at q
    · simp only [Bool.and_eq_true] at q
      obtain ⟨⟨⟨⟨q1, q2⟩, q3⟩, q4⟩, q5⟩ := q
      obtain rfl := eq_of_beq q1
      unfold wpI
      exact si_rev (h.gl q2) (h.fre q3) (ck_e a c _ q5 X h).1 (star_cons q4)
    · cases q
end
end Z

/-! ### Z14 -/
/-! Z14: checked statements. -/
namespace Z
open PySem PySem.Spec PyProof.Rows L2
def compScope : Expr → Option Scope
  | .ListComp _ _ s _ => some s
  | .SetComp _ _ s _ => some s
  | .DictComp _ _ _ s _ => some s
  | _ => none
/-- no store of its own behind the value -/
def swF (c : Ck) (t e : Expr) : Bool := match compScope e with
  | none => true
  | some s => match t with
    | .Name y py => !(decide (nk c y = some .local) && (py.line == e.pos.line) && !(s.names.any fun (n, k) => n == y && (k == .local || k == .cell)))
    | _ => true
def swT (c : Ck) (t e : Expr) : Bool := match compScope e with
  | none => false
  | some s => match t with
    | .Name y py => decide (nk c y = some .local) && (py.line == e.pos.line) && !(s.names.any fun (n, k) => n == y && (k == .local || k == .cell))
    | _ => false
def noSwap (t e : Expr) : Bool := (match t with
    | .Tuple .. => false
    | .List .. => false
    | _ => true) || (match e with
    | .Tuple .. => false
    | _ => true)
theorem swF_ok {X : Cx} {c : Ck} {tb : Tb} {g : G} (h : Good X c tb g) (hk : X.env.scope.kind = .function) {t e : Expr} {l : Nat} (q : swF c t e = true) : swapsWith e (some t) l X.env = pure false := by
  unfold swF at q
  cases e with
  | ListComp a b s p =>
    cases t <;> first | rfl | skip
    rename_i y py
    simp only [compScope, Bool.not_eq_true'] at q
    unfold swapsWith
    have hb : X.env.blockKind = .function := by unfold Env.blockKind; rw [hk]; rfl
    have hn : (X.env.kindOf y == some .local) = decide (nk c y = some .local) := by
      show (X.env.scope.names.lookup y == some .local) = _
      unfold nk
      rw [h.sc]
      by_cases e : c.sc.names.lookup y = some .local
      · rw [e]; rfl
      · rw [decide_eq_false e]; exact beq_eq_false_iff_ne.mpr e
    simp only [hb]
    show (pure ((((_ && X.env.kindOf y == some .local) && _) && _)) : Sem Bool) = _
    rw [hn]
    rw [show ((ScopeKind.function == ScopeKind.function) && decide (nk c y = some .local)) = decide (nk c y = some .local) from rfl, q]
  | SetComp a b s p =>
    cases t <;> first | rfl | skip
    rename_i y py
    simp only [compScope, Bool.not_eq_true'] at q
    unfold swapsWith
    have hb : X.env.blockKind = .function := by unfold Env.blockKind; rw [hk]; rfl
    have hn : (X.env.kindOf y == some .local) = decide (nk c y = some .local) := by
      show (X.env.scope.names.lookup y == some .local) = _
      unfold nk
      rw [h.sc]
      by_cases e : c.sc.names.lookup y = some .local
      · rw [e]; rfl
      · rw [decide_eq_false e]; exact beq_eq_false_iff_ne.mpr e
    simp only [hb]
    show (pure ((((_ && X.env.kindOf y == some .local) && _) && _)) : Sem Bool) = _
    rw [hn]
    rw [show ((ScopeKind.function == ScopeKind.function) && decide (nk c y = some .local)) = decide (nk c y = some .local) from rfl, q]
  | DictComp a a2 b s p =>
    cases t <;> first | rfl | skip
    rename_i y py
    simp only [compScope, Bool.not_eq_true'] at q
    unfold swapsWith
    have hb : X.env.blockKind = .function := by unfold Env.blockKind; rw [hk]; rfl
    have hn : (X.env.kindOf y == some .local) = decide (nk c y = some .local) := by
      show (X.env.scope.names.lookup y == some .local) = _
      unfold nk
      rw [h.sc]
      by_cases e : c.sc.names.lookup y = some .local
      · rw [e]; rfl
      · rw [decide_eq_false e]; exact beq_eq_false_iff_ne.mpr e
    simp only [hb]
    show (pure ((((_ && X.env.kindOf y == some .local) && _) && _)) : Sem Bool) = _
    rw [hn]
    rw [show ((ScopeKind.function == ScopeKind.function) && decide (nk c y = some .local)) = decide (nk c y = some .local) from rfl, q]
  | _ => rfl
theorem noSwap_ok {env : PySem.Env} {t e : Expr} (q : noSwap t e = true) : swappedStores [t] e env = pure none := by
  unfold noSwap at q
  cases t <;> first | rfl | skip
  all_goals (cases e <;> first | rfl | cases q)
/-- name = {..} on one line, the name a local -/
theorem sw_trueD {kx vx : Expr} {gs : List Comprehension} {scope : Scope} {pos py : Pos} {y : Str} {l : Nat} {env : PySem.Env} (hk : env.scope.kind = .function) (hy : env.scope.names.lookup y = some .local) (hl : (py.line == pos.line) = true)
    (ha : (scope.names.any fun (n, k) => n == y && (k == .local || k == .cell)) = false) : swapsWith (.DictComp kx vx gs scope pos) (some (.Name y py)) l env = pure true := by
  have ky : env.kindOf y = some .local := hy
  have hb : env.blockKind = .function := by unfold Env.blockKind; rw [hk]; rfl
  unfold swapsWith
  simp only [hb, ky, ha, Expr.pos, hl]
  rfl
theorem ps_setDc {X : Cx} {i : Nat} {y : Str} {py : Pos} {kx vx tg iter : Expr} {ifs : List Expr} {scope : Scope} {own : List (Str × Nat)} {pos spos : Pos} {wi : TI} {g : TG} {tt : TT} {tk te : TE} (hc : X.calm = true) (hN : X.N.Nodup) (hy : X.N[i]? = some y) (hyl : X.env.scope.names.lookup y = some .local)
    (hsw : swapsWith (.DictComp kx vx [⟨tg, iter, ifs, 0⟩] scope pos) (some (.Name y py)) spos.line X.env = pure true) (hi : PI X tg iter wi) (ok : BlkOk X.N X.env.scope scope own)
    (hg : ∀ (s : Shared) (H : Hp) (C : Addr) (cl : List (Str × Addr)) (fp : List Addr), PG (X.blk s H scope (compEnvC scope cl C X.env) fp) tg g) (ht : ∀ (s : Shared) (H : Hp) (C : Addr) (cl : List (Str × Addr)) (fp : List Addr), PTs (X.blk s H scope (compEnvC scope cl C X.env) fp) ifs tt)
    (hk : ∀ (s : Shared) (H : Hp) (C : Addr) (cl : List (Str × Addr)) (fp : List Addr), PE (X.blk s H scope (compEnvC scope cl C X.env) fp) kx tk)
    (he : ∀ (s : Shared) (H : Hp) (C : Addr) (cl : List (Str × Addr)) (fp : List Addr), PE (X.blk s H scope (compEnvC scope cl C X.env) fp) vx te) (hs : ∀ x, foldedSetIterable iter X.env x = pure x) :
    PS X (.Assign [.Name y py] (.DictComp kx vx [⟨tg, iter, ifs, 0⟩] scope pos) spos) (tAsg (tDc wi g tt tk te (own.map (·.2))) (gName i)) := by
  refine ⟨fun pins s σ H D I h => ?_⟩
  rw [exec_Assign_Name_used _ _ _ _ hsw]
  refine wpAny_bind (wpAny_standAt (wpAny_bind ?_))
  show wpAny _ X.A (do let _ ← comprehension (.DictComp kx vx [⟨tg, iter, ifs, 0⟩] scope pos) scope X.env (firstIterPos [⟨tg, iter, ifs, 0⟩] pos) newDict false (eval iter X.env) (some (assign (.Name y py) X.env))) _ _ s
  have h : tDc wi g tt tk te (own.map (·.2)) σ H (fun x H1 => gName i x σ H1 D.nx) := h
  refine wpAny_bind (thn (dc_core (Qf := fun _ s' => SP X pins D .next s') hc hN I hi ok hg ht hk he hs h fun L C s' m H' I' q hn f => ?_) fun _ s' hq => wpAny_pure (wpAny_pure hq))
  show wpAny _ _ (assign (.Name y py) X.env (.ref L)) _ _ _
  refine wpAny_assign_Name (store_ok2 (v := V.ref L) I' hN hy (.inl hyl) rfl (fun s2 I2 ⟨a, sb, ha⟩ => ?_) (.inr hyl))
  obtain ⟨f0, f1, f2, f3, f4, f5⟩ := f
  have haC : C ≠ a := by
    rcases ha with z | z
    · rw [z]; exact f1
    · exact fun e => f4 y a z e.symm
  refine ⟨m, hn.sameBut sb haC, fun h3 sb3 => ?_⟩
  exact ⟨_, H', I2.turned (t' := s2.toks) (fun b o hb e => (sb3.2 b hb).trans e) f0 f1 f3 f4 f5, q⟩
def isCmp : E → Bool
  | .lc .. => true
  | .dc .. => true
  | _ => false
def tgVar : Tg → Bool
  | .v _ => true
  | _ => false
mutual
def ckS (tb : Tb) (c : Ck) : S → Stmt → Bool
  | .set t e, x => match x with
    | .Assign [xt] xe _ => noStar xt && ckT c t xt && ckE tb e c xe && ((noSwap xt xe && swF c xt xe) || (swT c xt xe && tgVar t && isCmp e))
    | _ => false
  | .setIx o i e, x => match x with
    | .Assign [.Subscript xo xi _] xe _ => noSlice xi && ckE tb e c xe && ckE tb o c xo && ckE tb i c xi
    | _ => false
  | .setFld o f e, x => match x with
    | .Assign [.Attribute xo y _] xe _ => (y == f) && ckE tb e c xe && ckE tb o c xo
    | _ => false
  | .aug i o e, x => match x with
    | .AugAssign (.Name y _) op xe _ => slB c i y && locB c y && bopOk o op && ckE tb e c xe
    | _ => false
  | .augFld o f p e, x => match x with
    | .AugAssign (.Attribute xo y _) op xe _ => (y == f) && bopOk p op && ckE tb o c xo && ckE tb e c xe
    | _ => false
  | .augIx _ _ _ _, _ => false
  | .ex e, x => match x with
    | .Expr xe _ => noComp xe && ckE tb e c xe
    | _ => false
  | .ret e, x => match x with
    | .Return (some xe) _ => ckE tb e c xe
    | _ => false
  | .retN, x => match x with
    | .Return none _ => true
    | _ => false
  | .ife k a b, x => match x with
    | .If xk xa xb _ => ckE tb k c xk && ckSs tb c a xa && ckSs tb c b xb
    | _ => false
  | .fr t it b, x => match x with
    | .For xt xi xb [] _ => noSet xi && ckI tb it c xt xi && ckT c t xt && ckSs tb c b xb
    | _ => false
  | .wh k b, x => match x with
    | .While xk xb [] _ => ckE tb k c xk && ckSs tb c b xb
    | _ => false
  | .brk, x => match x with
    | .Break _ => true
    | _ => false
  | .cnt, x => match x with
    | .Continue _ => true
    | _ => false
  | .pas, x => match x with
    | .Pass _ => true
    | _ => false
  | .nev, _ => true
def ckSs (tb : Tb) (c : Ck) : Ss → List Stmt → Bool
  | .nil, xs => match xs with
    | [] => true
    | _ => false
  | .cons s r, xs => match xs with
    | x :: xr => ckS tb c s x && ckSs tb c r xr
    | _ => false
end
theorem ck_set {X : Cx} {c : Ck} {tb : Tb} {g : G} (h : Good X c tb g) (hk : X.env.scope.kind = .function) {t : Tg} {e : E} {xt xe : Expr} {pos : Pos} (q1 : noStar xt = true) (q2 : ckT c t xt = true) (q3 : ckE tb e c xe = true)
    (q4 : ((noSwap xt xe && swF c xt xe) || (swT c xt xe && tgVar t && isCmp e)) = true) : SS X (.Assign [xt] xe pos) (wpS g (.set t e)) := by
  unfold wpS
  simp only [Bool.or_eq_true, Bool.and_eq_true] at q4
  rcases q4 with ⟨a, b⟩ | ⟨⟨a, b⟩, d⟩
  · exact ss_set (ck_e e c _ q3 X h).1 (ck_t h t _ q2) (swF_ok h hk b) (noSwap_ok a) (by rw [assign_cons q1] <;> rfl)
  · cases t with
    | t _ => cases b
    | v i =>
      cases e with
      | lc elt tg it ifs own =>
        unfold ckE at q3
        split at q3
        · simp only [Bool.and_eq_true] at q3
          obtain ⟨⟨⟨⟨⟨⟨q31, q32⟩, q33⟩, q34⟩, q35⟩, q36⟩, q37⟩ := q3
          unfold ckT at q2
          split at q2
          · rw [Bool.and_eq_true] at q2
            simp only [swT, compScope, Expr.pos, Bool.and_eq_true, Bool.not_eq_true'] at a
            obtain ⟨⟨a1, a2⟩, a3⟩ := a
            have a1 := of_decide_eq_true a1
            unfold nk at a1
            rw [← h.sc] at a1
            have hi := ck_i it c _ _ q34 X h
            refine ss_setC (ps_setLc h.calm h.nd (h.slot q2.1) a1 (sw_true hk a1 a2 a3) hi (own := ownOf c own) (by rw [h.N, h.sc]; exact blkOk_by q31) (fun s H C cl fp => ck_t (h.blk _ s H C cl fp) tg _ q35) (fun s H C cl fp => ck_f ifs (c.blk _) _ q36 _ (h.blk _ s H C cl fp)) (fun s H C cl fp => (ck_e elt (c.blk _) _ q37 _ (h.blk _ s H C cl fp)).1) (set_folded q32)) fun σ H Q w => lc_read (own_mem q33) ?_
            rw [ownOf_snd]
            unfold wp at w
            exact w
          · cases q2
        · cases q3
      | dc ke ve tg it ifs own =>
        unfold ckE at q3
        split at q3
        · simp only [Bool.and_eq_true] at q3
          obtain ⟨⟨⟨⟨⟨⟨⟨q31, q32⟩, q33⟩, q34⟩, q35⟩, q36⟩, q37⟩, q38⟩ := q3
          unfold ckT at q2
          split at q2
          · rw [Bool.and_eq_true] at q2
            simp only [swT, compScope, Expr.pos, Bool.and_eq_true, Bool.not_eq_true'] at a
            obtain ⟨⟨a1, a2⟩, a3⟩ := a
            have a1 := of_decide_eq_true a1
            unfold nk at a1
            rw [← h.sc] at a1
            have hi := ck_i it c _ _ q34 X h
            refine ss_setC (ps_setDc h.calm h.nd (h.slot q2.1) a1 (sw_trueD hk a1 a2 a3) hi (own := ownOf c own) (by rw [h.N, h.sc]; exact blkOk_by q31) (fun s H C cl fp => ck_t (h.blk _ s H C cl fp) tg _ q35) (fun s H C cl fp => ck_f ifs (c.blk _) _ q36 _ (h.blk _ s H C cl fp)) (fun s H C cl fp => (ck_e ke (c.blk _) _ q37 _ (h.blk _ s H C cl fp)).1) (fun s H C cl fp => (ck_e ve (c.blk _) _ q38 _ (h.blk _ s H C cl fp)).1) (set_folded q32)) fun σ H Q w => dc_read (own_mem q33) ?_
            rw [ownOf_snd]
            unfold wp at w
            exact w
          · cases q2
        · cases q3
      | _ => cases d
mutual
theorem ck_s {X : Cx} {c : Ck} {tb : Tb} {g : G} (h : Good X c tb g) (hk : X.env.scope.kind = .function) : ∀ (s : S) (x : Stmt), ckS tb c s x = true → SS X x (wpS g s)
  | .set t e, x, q => by
    unfold ckS at q
    split at q
    · simp only [Bool.and_eq_true] at q
      exact ck_set h hk q.1.1.1 q.1.1.2 q.1.2 q.2
    · cases q
  | .setIx o i e, x, q => by
    unfold ckS at q
    split at q
    · simp only [Bool.and_eq_true] at q
      unfold wpS
      exact ss_setIx (by have := h.gd.units; omega) (ck_e e c _ q.1.1.2 X h).1 (ck_e o c _ q.1.2 X h).1 (ck_e i c _ q.2 X h).1 q.1.1.1
    · cases q
  | .setFld o f e, x, q => by
    unfold ckS at q
    split at q
    · simp only [Bool.and_eq_true] at q
      obtain ⟨⟨q1, q2⟩, q3⟩ := q
      obtain rfl := eq_of_beq q1
      unfold wpS
      exact ss_setFld (fun C e => h.gd.noat C _ e) (ck_e e c _ q2 X h).1 (ck_e o c _ q3 X h).1
    · cases q
  | .aug i o e, x, q => by
    unfold ckS at q
    split at q
    · simp only [Bool.and_eq_true] at q
      obtain ⟨⟨⟨q1, q2⟩, q3⟩, q4⟩ := q
      obtain ⟨l1, l2⟩ := h.loc q2
      unfold wpS
      exact ss_aug h.nd (h.slot q1) l1 l2 q3 (ck_e e c _ q4 X h).1
    · cases q
  | .augFld o f p e, x, q => by
    unfold ckS at q
    split at q
    · simp only [Bool.and_eq_true] at q
      obtain ⟨⟨⟨q1, q2⟩, q3⟩, q4⟩ := q
      obtain rfl := eq_of_beq q1
      unfold wpS
      exact ss_augFld (fun C e => h.gd.noat C _ e) (ck_e o c _ q3 X h).1 q2 (ck_e e c _ q4 X h).1
    · cases q
  | .augIx _ _ _ _, x, q => by unfold ckS at q; cases q
  | .ex e, x, q => by
    unfold ckS at q
    split at q
    · simp only [Bool.and_eq_true] at q
      unfold wpS
      exact ss_ex (ck_e e c _ q.2 X h).1 (sw_no q.1)
    · cases q
  | .ret e, x, q => by
    unfold ckS at q
    split at q
    · unfold wpS
      exact ss_ret (ck_e e c _ q X h).1
    · cases q
  | .retN, x, q => by
    unfold ckS at q
    split at q
    · unfold wpS; exact ss_retN
    · cases q
  | .ife k a b, x, q => by
    unfold ckS at q
    split at q
    · simp only [Bool.and_eq_true] at q
      unfold wpS
      exact ss_if (ck_e k c _ q.1.1 X h).2 (ck_ss h hk a _ q.1.2) (ck_ss h hk b _ q.2)
    · cases q
  | .fr t it b, x, q => by
    unfold ckS at q
    split at q
    · simp only [Bool.and_eq_true] at q
      unfold wpS
      exact ss_for (by rw [h.xe]; exact PassesOwn.never) h.calm (ck_i it c _ _ q.1.1.2 X h) (ck_t h t _ q.1.2) (ck_ss h hk b _ q.2) (set_folded q.1.1.1)
    · cases q
  | .wh k b, x, q => by
    unfold ckS at q
    split at q
    · simp only [Bool.and_eq_true] at q
      unfold wpS
      exact ss_while (by rw [h.xe]; exact PassesOwn.never) (ck_e k c _ q.1 X h).2 (ck_ss h hk b _ q.2)
    · cases q
  | .brk, x, q => by
    unfold ckS at q
    split at q
    · unfold wpS; exact ss_brk
    · cases q
  | .cnt, x, q => by
    unfold ckS at q
    split at q
    · unfold wpS; exact ss_cnt
    · cases q
  | .pas, x, q => by
    unfold ckS at q
    split at q
    · unfold wpS; exact ss_pas
    · cases q
  | .nev, x, q => by unfold wpS; exact ss_never
theorem ck_ss {X : Cx} {c : Ck} {tb : Tb} {g : G} (h : Good X c tb g) (hk : X.env.scope.kind = .function) : ∀ (s : Ss) (x : List Stmt), ckSs tb c s x = true → SSs X x (wpSs g s)
  | .nil, x, q => by
    unfold ckSs at q
    split at q
    · unfold wpSs; exact sss_nil
    · cases q
  | .cons s r, x, q => by
    unfold ckSs at q
    split at q
    · rw [Bool.and_eq_true] at q
      unfold wpSs
      exact sss_cons (ck_s h hk s _ q.1) (ck_ss h hk r _ q.2)
    · cases q
end
end Z

/-! ### Z15 -/
/-! Z15: defs, their levels, the module's end. -/
namespace Z
open PySem PySem.Spec PyProof.Rows L2
structure Df where
  np : Nat
  N : List Str
  body : Ss
abbrev Ky := Str × Option Str
structure Mo where
  tb : Tb
  lits : List (Str × D)
  clss : List Str
  noats : List (Str × Str)
  mths : List (Str × Str)
  defs : List (He.DefD × Df)
def Mo.df (m : Mo) (k : Ky) : Option Df := (m.defs.find? fun p => p.1.at_ == k).map (·.2)
def gAt (m : Mo) (W Wi : Ky → WC) : G where
  glob := fun x => m.lits.lookup x
  call := fun f => W (f, none)
  meth := fun C x => W (C, some x)
  init := fun C => Wi (C, some "__init__")
  noat := fun C f => m.noats.any fun p => p == (C, f)
  ism := fun C f => m.mths.any fun p => p == (C, f)
def enR (Q : PK D) : En where
  nx := fun _ S1 => ∃ S2, Sub S2 S1 ∧ Q .non S2
  rt := fun d S1 => ∃ S2, Sub S2 S1 ∧ Q d S2
def env0 (n : Nat) (ds : List D) : Ev := ds.map some ++ List.replicate (n - ds.length) none
def runW (d : Df) (g : G) : WC := fun ds S Q => ds.length = d.np ∧ wpSs g d.body (enR Q) (env0 d.N.length ds) S
def lev (m : Mo) : Nat → (Ky → WC) × (Ky → WC)
  | 0 => (fun _ _ _ _ => False, fun _ _ _ _ => False)
  | k + 1 => (fun key => match m.df key with
    | some d => runW d (gAt m (lev m k).1 (lev m k).2)
    | none => fun _ _ _ => False, (lev m k).1)
/-! ### what is looked at -/
def fnScB (d : He.DefD) (f : Df) : Bool := (match d.scope.kind with
    | .function => true
    | _ => false) && !d.scope.isCoroutine && !d.scope.isGenerator && decide f.N.Nodup && decide (f.np ≤ f.N.length) && ((f.N.take f.np).all fun x => match d.scope.names.lookup x with
    | some .local => true
    | some .cell => true
    | _ => false) && d.scope.names.all fun y => match y.2 with
    | .free => false
    | _ => true
def dfB (m : Mo) (p : He.DefD × Df) : Bool := fnScB p.1 p.2 && p.1.dfl.isEmpty && p.1.kwd.isEmpty && ckSs m.tb ⟨p.2.N, p.1.scope, fun _ => true⟩ p.2.body p.1.body
def hasB (m : Mo) (k : Ky) : Bool := m.defs.any fun p => p.1.at_ == k
def moB (m : Mo) : Bool := (m.tb.call.all fun x => hasB m (x, none)) && (m.tb.make.all fun x => hasB m (x, some "__init__")) && (m.noats.all fun p => m.clss.any fun c => p.1 == c) && (m.mths.all fun p => (m.clss.any fun c => p.1 == c) && hasB m (p.1, some p.2)) &&
  (hasB m ("law", none)) && m.defs.all fun p => match m.df p.1.at_ with
    | some f => decide (f.np = p.2.np) && decide (f.N = p.2.N)
    | none => false
def BindP (p : He.DefD × Df) : Prop := ∀ (kV doc pm : Value) (an : Option Addr) (cdv ct : Value) (us : List Value), us.length = p.2.np → bindArgs (PySem.W.fnOf p.1.name p.1.qual p.1.params p.1.body p.1.scope .none kV doc pm an cdv ct) ⟨us, []⟩ = pure ((p.2.N.take p.2.np).zip us)
inductive AllP (q : He.DefD × Df → Prop) : List (He.DefD × Df) → Prop
  | nil : AllP q []
  | cons {p r} : q p → AllP q r → AllP q (p :: r)
theorem AllP.mem {q : He.DefD × Df → Prop} {l : List (He.DefD × Df)} (h : AllP q l) : ∀ p ∈ l, q p := by
  induction h with
  | nil => intro p hp; cases hp
  | cons a _ ih =>
    intro p hp
    rcases List.mem_cons.mp hp with rfl | hp
    · exact a
    · exact ih p hp
/-! ### constants of the module -/
mutual
def litB (K : Frag) : D → Value → Bool
  | .non, u => match u with
    | .none => true
    | _ => false
  | .bl b, u => match u with
    | .bool a => a == b
    | _ => false
  | .int i, u => match u with
    | .int j _ => decide (j = i)
    | _ => false
  | .str x, u => match u with
    | .str y _ => y == x
    | _ => false
  | .tup ds, u => match u with
    | .ref a => (match K.lookup a with
      | some ⟨.type t, _, .seq its _, _⟩ => (t == "tuple") && decide (its.size ≤ sizeLine) && litsB K ds its.toList
      | _ => false)
    | _ => false
  | _, _ => false
def litsB (K : Frag) : List D → List Value → Bool
  | [], us => match us with
    | [] => true
    | _ => false
  | d :: ds, us => match us with
    | u :: ur => litB K d u && litsB K ds ur
    | _ => false
end
mutual
theorem lit_ok {K : Frag} : ∀ (d : D) (u : Value), litB K d u = true → ∃ v : V, RelV v u ∧ ∀ H, Rep K H d v
  | .non, u, q => by
    unfold litB at q
    split at q
    · exact ⟨.non, rfl, fun _ => rep_non.mpr rfl⟩
    · cases q
  | .bl b, u, q => by
    unfold litB at q
    split at q
    · obtain rfl := eq_of_beq q
      exact ⟨.bl _, rfl, fun _ => rep_bl.mpr rfl⟩
    · cases q
  | .int i, u, q => by
    unfold litB at q
    split at q
    · obtain rfl := of_decide_eq_true q
      exact ⟨.int _, ⟨_, rfl⟩, fun _ => rep_int.mpr rfl⟩
    · cases q
  | .str x, u, q => by
    unfold litB at q
    split at q
    · obtain rfl := eq_of_beq q
      exact ⟨.str _, ⟨_, rfl⟩, fun _ => rep_str.mpr rfl⟩
    · cases q
  | .tup ds, u, q => by
    unfold litB at q
    split at q
    · rename_i a
      split at q
      · rename_i t od its n sl hl
        simp only [Bool.and_eq_true] at q
        obtain ⟨⟨q1, q2⟩, q3⟩ := q
        obtain rfl := eq_of_beq q1
        obtain ⟨vs, hv, hr⟩ := lits_ok ds _ q3
        exact ⟨.ref a, rfl, fun H => rep_tup.mpr ⟨a, vs, rfl, .inr ⟨_, its, n, hl, rfl, rfl, of_decide_eq_true q2, hv⟩, hr H⟩⟩
      · cases q
    · cases q
  | .ref _, u, q => by unfold litB at q; cases q
  | .ty _, u, q => by unfold litB at q; cases q
  | .scr _, u, q => by unfold litB at q; cases q
theorem lits_ok {K : Frag} : ∀ (ds : List D) (us : List Value), litsB K ds us = true → ∃ vs : List V, Vals vs us ∧ ∀ H, Reps K H ds vs
  | [], us, q => by
    unfold litsB at q
    split at q
    · exact ⟨[], .nil, fun _ => reps_nil.mpr rfl⟩
    · cases q
  | d :: ds, us, q => by
    unfold litsB at q
    split at q
    · rw [Bool.and_eq_true] at q
      obtain ⟨v, h1, h2⟩ := lit_ok d _ q.1
      obtain ⟨vs, h3, h4⟩ := lits_ok ds _ q.2
      exact ⟨v :: vs, .cons h1 h3, fun H => reps_cons.mpr ⟨v, vs, rfl, h2 H, h4 H⟩⟩
    · cases q
end
def exB (m : Mo) (K : Frag) : Bool := m.lits.all fun p => match PySem.W.nsIn K mainGlobals p.1 with
  | some (some u) => litB K p.2 u
  | _ => false
def Mo.fa (m : Mo) : List He.Fa := m.tb.free.map .free ++ (m.tb.call.map .glo ++ (m.tb.make.map .glo ++ (m.tb.make.map .mkr ++ (m.clss.map .cls ++ (m.noats.map (fun p => .noat p.1 p.2) ++ (m.mths.map (fun p => .meth p.1 p.2) ++ [.glo "law"]))))))
def Mo.fn (m : Mo) : List He.DefD := m.defs.map (·.1)
theorem mem_any {α : Type} [BEq α] [LawfulBEq α] {l : List α} {x : α} (h : (l.any fun c => x == c) = true) : x ∈ l := by
  obtain ⟨y, hy, e⟩ := List.any_eq_true.mp h
  rw [eq_of_beq e]; exact hy
theorem mem_any' {α : Type} [BEq α] [LawfulBEq α] {l : List α} {x : α} (h : (l.any fun c => c == x) = true) : x ∈ l := by
  obtain ⟨y, hy, e⟩ := List.any_eq_true.mp h
  rw [← eq_of_beq e]; exact hy
theorem lookup_mem2 {α : Type} {l : List (Str × α)} {x : Str} {d : α} : l.lookup x = some d → (x, d) ∈ l := by
  induction l with
  | nil => intro h; cases h
  | cons p r ih =>
    obtain ⟨y, e⟩ := p
    intro h
    rw [List.lookup_cons] at h
    split at h
    · rename_i hb
      cases h
      rw [eq_of_beq hb]; exact List.mem_cons_self
    · exact List.mem_cons_of_mem _ (ih h)
/-! ### every def keeps its promise -/
theorem fnSc_ok {d : He.DefD} {f : Df} (h : fnScB d f = true) : FnScope f.N (f.N.take f.np) d.scope ∧ f.np ≤ f.N.length := by
  unfold fnScB at h
  simp only [Bool.and_eq_true, Bool.not_eq_true', decide_eq_true_eq, List.all_eq_true] at h
  obtain ⟨⟨⟨⟨⟨⟨h1, h2⟩, h3⟩, h4⟩, h5⟩, h6⟩, h7⟩ := h
  refine ⟨⟨?_, h2, h3, h4, ?_, fun x hx => ?_, fun y hy e => ?_⟩, h5⟩
  · split at h1
    · assumption
    · cases h1
  · rw [List.length_take, Nat.min_eq_left h5]
  · have := h6 x hx
    split at this
    · exact .inl (by assumption)
    · exact .inr (by assumption)
    · cases this
  · have := h7 y hy
    rw [e] at this
    cases this
theorem fnOk_false {P : Program} {w : World} {K : Frag} {mg : Str → Option Value} {base : Heap} {k : Nat} {f : Addr} {fd : FuncData} {ps : List Str} {W : WC} (h : ∀ ds S Q, ¬ W ds S Q) : FnOk P w K mg base CX0 k f fd ps (spOf K W) :=
  ⟨fun vs H Q E ⟨ds, S, Q', r, hs, w, f⟩ => (h _ _ _ w).elim, fun A outer s H args us vs Q E hr he hb hv ⟨ds, S, Q', r, hs, w, f⟩ => (h _ _ _ w).elim⟩
theorem start_rep {K : Frag} {H : Hp} {n : Nat} {N : List Str} (hn : n = N.length) {ds : List D} {vs : List V} (r : Reps K H ds vs) : EnvR K H (env0 n ds) (L2.start N vs) := by
  unfold env0 L2.start
  refine ⟨by simp [r.length, hn], fun i d h => ?_⟩
  by_cases hi : i < ds.length
  · rw [List.getElem?_append_left (by simpa using hi), List.getElem?_map] at h
    cases e : ds[i]? with
    | none => rw [e] at h; cases h
    | some d' =>
      rw [e] at h
      cases h
      obtain ⟨v, hv, rv⟩ := r.get e
      refine ⟨v, ?_, rv⟩
      rw [List.getElem?_append_left (by simpa [r.length] using hi), List.getElem?_map, hv] <;> rfl
  · rw [List.getElem?_append_right (by simpa using hi)] at h
    rw [List.getElem?_replicate] at h
    split at h <;> cases h
section
variable {P : Program} {w : World} {K : Frag} {mg : Str → Option Value} {base : Heap}
theorem def_ok {m : Mo} {g : G} {p : He.DefD × Df} {k : Nat} {fa : Addr} {fd : FuncData} (F : FunD K p.1.name p.1.qual p.1.params p.1.body p.1.scope (p.1.dvs K) (p.1.kws K) fa fd) (hc : dfB m p = true)
    (hg : ∀ A, Room k A → Gd P w K mg base A m.tb g) : FnOk P w K mg base CX0 (k + 1) fa fd (p.2.N.take p.2.np) (spOf K (runW p.2 g)) := by
  unfold dfB at hc
  simp only [Bool.and_eq_true] at hc
  obtain ⟨⟨⟨h1, h2⟩, h3⟩, h4⟩ := hc
  obtain ⟨S, hl⟩ := fnSc_ok h1
  have e1 : p.1.dvs K = [] := by unfold He.DefD.dvs; rw [List.isEmpty_iff.mp h2] <;> rfl
  have e2 : p.1.kws K = [] := by unfold He.DefD.kws; rw [List.isEmpty_iff.mp h3] <;> rfl
  rw [e1, e2] at F
  refine F.ok S (fun vs H Q E h => ?_) (fun cdv A outer s H vs Q E hr h => ?_)
  · obtain ⟨ds, S, Q', r, hs, w, f⟩ := h
    rw [r.length, w.1, List.length_take, Nat.min_eq_left hl]
  · obtain ⟨ds, St, Q', r, hs, w, f⟩ := h
    refine ⟨_, PSs.nox (ck_ss (c := ⟨p.2.N, p.1.scope, fun _ => true⟩) (tb := m.tb) (g := g) ⟨rfl, rfl, S.nd, rfl, rfl, rfl, hg _ hr⟩ S.kind p.2.body p.1.body h4), ?_⟩
    refine ⟨env0 p.2.N.length ds, St, enR Q', start_rep rfl r, hs, w.2, ?_, ?_, ?_, ?_⟩
    · intro ρ1 σ1 H1 S1 e1 hs1 he1 q
      obtain ⟨S2, sb, q⟩ := q
      exact f .non .non H1 S2 (e1.sub sb) (hs1.sub sb) (rep_non.mpr rfl) q
    · intro d v H1 S1 e1 hs1 r1 q
      obtain ⟨S2, sb, q⟩ := q
      exact f d v H1 S2 (e1.sub sb) (hs1.sub sb) r1 q
    · intro ρ1 σ1 H1 S1 e1 hs1 he1 q
      exact q.elim
    · intro ρ1 σ1 H1 S1 e1 hs1 he1 q
      exact q.elim
theorem binds_ok {p : He.DefD × Df} {fa : Addr} {fd : FuncData} {m : Mo} (F : FunD K p.1.name p.1.qual p.1.params p.1.body p.1.scope (p.1.dvs K) (p.1.kws K) fa fd) (hc : dfB m p = true) (hb : BindP p) : Binds K fd (p.2.N.take p.2.np) [] := by
  unfold dfB at hc
  simp only [Bool.and_eq_true] at hc
  obtain ⟨⟨⟨h1, h2⟩, h3⟩, h4⟩ := hc
  obtain ⟨S, hl⟩ := fnSc_ok h1
  have e1 : p.1.dvs K = [] := by unfold He.DefD.dvs; rw [List.isEmpty_iff.mp h2] <;> rfl
  have e2 : p.1.kws K = [] := by unfold He.DefD.kws; rw [List.isEmpty_iff.mp h3] <;> rfl
  rw [e1, e2] at F
  exact F.bindsN fun kV doc pm an cdv ct us hu => hb kV doc pm an cdv ct us (by rw [hu, List.length_take, Nat.min_eq_left hl])
/-- what is known of the module -/
structure Kn (m : Mo) (K : Frag) (mg : Str → Option Value) : Prop where
  fact : ∀ f ∈ m.fa, f.ok K = true
  def_ : ∀ p ∈ m.defs, ∃ fd, FunD K p.1.name p.1.qual p.1.params p.1.body p.1.scope (p.1.dvs K) (p.1.kws K) (He.fAd K p.1.at_) fd
  glo : ∀ x, (He.Fa.glo x).ok K = true → mg x = some (.ref (He.ga K x))
  fre : ∀ x, (He.Fa.free x).ok K = true → mg x = none
  lit : ∀ x d, (x, d) ∈ m.lits → ∃ (v : V) (u : Value), mg x = some u ∧ RelV v u ∧ ∀ H, Rep K H d v
theorem has_ok {m : Mo} {k : Ky} (h : hasB m k = true) : ∃ p ∈ m.defs, p.1.at_ = k := by
  obtain ⟨p, hp, e⟩ := List.any_eq_true.mp h
  exact ⟨p, hp, eq_of_beq e⟩
theorem df_ok {m : Mo} (hm : moB m = true) {p : He.DefD × Df} (hp : p ∈ m.defs) : ∃ q ∈ m.defs, m.df p.1.at_ = some q.2 ∧ q.1.at_ = p.1.at_ ∧ q.2.np = p.2.np ∧ q.2.N = p.2.N := by
  unfold moB at hm
  simp only [Bool.and_eq_true] at hm
  have := List.all_eq_true.mp hm.2 p hp
  unfold Mo.df at this ⊢
  cases e : m.defs.find? (fun q => q.1.at_ == p.1.at_) with
  | none => rw [e] at this; cases this
  | some q =>
    rw [e] at this
    simp only [Option.map_some, Bool.and_eq_true, decide_eq_true_eq] at this
    exact ⟨q, List.mem_of_find?_eq_some e, rfl, eq_of_beq (show (q.1.at_ == p.1.at_) = true from List.find?_some (p := fun q : He.DefD × Df => q.1.at_ == p.1.at_) e), this.1, this.2⟩
theorem gd_ok {m : Mo} (hm : moB m = true) (kn : Kn m K mg) {W Wi : Ky → WC} {k : Nat} (hd : ∀ p ∈ m.defs, dfB m p = true) (hb : ∀ p ∈ m.defs, BindP p)
    (h1 : ∀ p ∈ m.defs, ∀ fd, FunD K p.1.name p.1.qual p.1.params p.1.body p.1.scope (p.1.dvs K) (p.1.kws K) (He.fAd K p.1.at_) fd → FnOk P w K mg base CX0 (k + 1) (He.fAd K p.1.at_) fd (p.2.N.take p.2.np) (spOf K (W p.1.at_)))
    (h2 : ∀ p ∈ m.defs, ∀ fd, FunD K p.1.name p.1.qual p.1.params p.1.body p.1.scope (p.1.dvs K) (p.1.kws K) (He.fAd K p.1.at_) fd → FnOk P w K mg base CX0 k (He.fAd K p.1.at_) fd (p.2.N.take p.2.np) (spOf K (Wi p.1.at_))) (A : Around) (r : Room (k + 1) A) :
    Gd P w K mg base A m.tb (gAt m W Wi) := by
  unfold moB at hm
  simp only [Bool.and_eq_true] at hm
  obtain ⟨⟨⟨⟨⟨m1, m2⟩, m3⟩, m4⟩, m5⟩, m6⟩ := hm
  refine ⟨by have := r.un; omega, fun x hx => kn.fre x (kn.fact _ (by simp [Mo.fa, hx])), fun x hx => ?_, fun C hC => ?_, fun C f h => ?_, fun C f h => ?_, fun x d h => kn.lit x d (lookup_mem2 h)⟩
  · obtain ⟨p, hp, e⟩ := has_ok (List.all_eq_true.mp m1 x hx)
    obtain ⟨fd, F⟩ := kn.def_ p hp
    have q := h1 p hp fd F
    have kp := F.kp
    rw [e] at q kp
    exact ⟨k + 1, _, fd, _, q, r, kn.glo x (kn.fact _ (by simp [Mo.fa, hx])), kp, binds_ok F (hd p hp) (hb p hp)⟩
  · obtain ⟨p, hp, e⟩ := has_ok (List.all_eq_true.mp m2 C hC)
    obtain ⟨fd, F⟩ := kn.def_ p hp
    have q := h2 p hp fd F
    rw [e] at q
    exact ⟨k, _, fd, _, He.mkr_ok (kn.fact (.mkr C) (by simp [Mo.fa, hC])), q, r, kn.glo C (kn.fact _ (by simp [Mo.fa, hC])), binds_ok F (hd p hp) (hb p hp)⟩
  · have hn := mem_any' (show (m.noats.any fun p => p == (C, f)) = true from h)
    have hc := mem_any (List.all_eq_true.mp m3 _ hn)
    refine ⟨He.cls_ok (kn.fact (.cls C) (by simp [Mo.fa]; exact hc)), He.noat_ok (kn.fact (.noat C f) ?_)⟩
    simp only [Mo.fa, List.mem_append, List.mem_map]
    exact .inr (.inr (.inr (.inr (.inr (.inl ⟨_, hn, rfl⟩)))))
  · have hn := mem_any' (show (m.mths.any fun p => p == (C, f)) = true from h)
    have z := List.all_eq_true.mp m4 _ hn
    rw [Bool.and_eq_true] at z
    have hc := mem_any z.1
    obtain ⟨p, hp, e⟩ := has_ok z.2
    obtain ⟨fd, F⟩ := kn.def_ p hp
    have q := h1 p hp fd F
    rw [e] at q
    refine ⟨k + 1, _, fd, _, He.cls_ok (kn.fact (.cls C) (by simp [Mo.fa]; exact hc)), He.meth_ok (kn.fact (.meth C f) ?_), q, r, binds_ok F (hd p hp) (hb p hp)⟩
    simp only [Mo.fa, List.mem_append, List.mem_map]
    exact .inr (.inr (.inr (.inr (.inr (.inr (.inl ⟨_, hn, rfl⟩))))))
theorem lev_ok {m : Mo} (hm : moB m = true) (kn : Kn m K mg) (hd : ∀ p ∈ m.defs, dfB m p = true) (hb : ∀ p ∈ m.defs, BindP p) : ∀ k : Nat,
    (∀ p ∈ m.defs, ∀ fd, FunD K p.1.name p.1.qual p.1.params p.1.body p.1.scope (p.1.dvs K) (p.1.kws K) (He.fAd K p.1.at_) fd → FnOk P w K mg base CX0 (k + 1) (He.fAd K p.1.at_) fd (p.2.N.take p.2.np) (spOf K ((lev m k).1 p.1.at_))) ∧
    (∀ p ∈ m.defs, ∀ fd, FunD K p.1.name p.1.qual p.1.params p.1.body p.1.scope (p.1.dvs K) (p.1.kws K) (He.fAd K p.1.at_) fd → FnOk P w K mg base CX0 k (He.fAd K p.1.at_) fd (p.2.N.take p.2.np) (spOf K ((lev m k).2 p.1.at_)))
  | 0 => ⟨fun p hp fd F => fnOk_false fun _ _ _ => id, fun p hp fd F => fnOk_false fun _ _ _ => id⟩
  | k + 1 => by
    obtain ⟨i1, i2⟩ := lev_ok hm kn hd hb k
    refine ⟨fun p hp fd F => ?_, fun p hp fd F => i1 p hp fd F⟩
    obtain ⟨q, hq, e, ea, e1, e2⟩ := df_ok hm hp
    have key : (lev m (k + 1)).1 p.1.at_ = runW q.2 (gAt m (lev m k).1 (lev m k).2) := by
      show (match m.df p.1.at_ with
        | some d => runW d (gAt m (lev m k).1 (lev m k).2)
        | none => fun _ _ _ => False) = _
      rw [e]
    rw [key]
    obtain ⟨fd2, F2⟩ := kn.def_ q hq
    have z := def_ok (P := P) (w := w) (mg := mg) (base := base) (m := m) (g := gAt m (lev m k).1 (lev m k).2) (k := k + 1) F2 (hd q hq) fun A r => gd_ok hm kn hd hb i1 i2 A r
    rw [ea] at z F2
    have : fd2 = fd := by
      obtain ⟨_, _, _, _, _, _, _, _, _, _, l1, l2, _⟩ := F2.ex
      obtain ⟨_, _, _, _, _, _, _, _, _, _, r1, r2, _⟩ := F.ex
      rw [l2] at r2
      have := congrArg Obj.data (Option.some.inj r2)
      simpa using this
    rw [← this, ← e1, ← e2]
    exact z
end
section
variable {P : Program} {w : World} {K : Frag} {mg : Str → Option Value}
/-- what the end asks -/
theorem law_facts {m : Mo} {h : Heap} {f : Addr} {k : Nat} {ts : List He.Tab} {tf : List He.Defn} (X : K.In h) (G : h.Ns mainGlobals mg) (hfa : mg ("law" : Str) = some (.ref f)) (c : He.SaysX m.fa m.fn ts tf (exB m) w h K)
    (hm : moB m = true) (hd : ∀ p ∈ m.defs, dfB m p = true) (hb : ∀ p ∈ m.defs, BindP p) (hl : ∃ q, m.df ("law", none) = some q ∧ q.np = 1 ∧ q.N.take 1 = ([("script" : Str)] : List Str)) :
    ∃ fd : FuncData, (∀ (s : Shared) (v : Value), BindsTo s fd ⟨[v], []⟩ [("script", v)]) ∧ ∀ base : Heap, K.In base → base.Ns mainGlobals mg → FnOk P w K mg base CX0 (k + 1) f fd ["script"] (spOf K ((lev m k).1 ("law", none))) := by
  have kn : Kn m K mg := by
    refine ⟨fun f hf => c.t.d.facts hf, fun p hp => c.t.d.defs (List.mem_map.mpr ⟨p, hp, rfl⟩), fun x q => He.glo_ok X G q, fun x q => He.free_ok X G q, fun x d hx => ?_⟩
    have := List.all_eq_true.mp c.more (x, d) hx
    dsimp only at this
    split at this
    · rename_i u hu
      obtain ⟨v, h1, h2⟩ := lit_ok d u this
      exact ⟨v, u, PySem.W.mg_of X G hu, h1, h2⟩
    · cases this
  have hh : hasB m ("law", none) = true := by
    unfold moB at hm
    simp only [Bool.and_eq_true] at hm
    exact hm.1.2
  obtain ⟨p, hp, e⟩ := has_ok hh
  obtain ⟨fd, F⟩ := kn.def_ p hp
  have eg := hfa.symm.trans (He.glo_ok X G (kn.fact (.glo "law") (by simp [Mo.fa])))
  have ef : f = He.fAd K p.1.at_ := by rw [e]; cases eg; rfl
  obtain ⟨q, hq, e2, ea, e3, e4⟩ := df_ok hm hp
  obtain ⟨q', hq', l1, l2⟩ := hl
  rw [e] at e2
  rw [e2] at hq'
  cases hq'
  have bb := binds_ok F (hd p hp) (hb p hp)
  have hps : p.2.N.take p.2.np = ([("script" : Str)] : List Str) := by rw [← e3, ← e4, l1, l2]
  refine ⟨fd, fun s v => ?_, fun base hk hn => ?_⟩
  · have hbp := hb p hp
    have hdp := hd p hp
    unfold dfB at hdp
    simp only [Bool.and_eq_true] at hdp
    obtain ⟨⟨⟨h1, h2⟩, h3⟩, h4⟩ := hdp
    have d1 : p.1.dvs K = [] := by unfold He.DefD.dvs; rw [List.isEmpty_iff.mp h2] <;> rfl
    have d2 : p.1.kws K = [] := by unfold He.DefD.kws; rw [List.isEmpty_iff.mp h3] <;> rfl
    rw [d1, d2] at F
    have := FunD.bindsA (ps := ["script"]) F (fun kV doc pm an cdv ct us hu => by
      have z := hbp kV doc pm an cdv ct us (by rw [← e3, l1]; exact hu)
      rw [hps] at z
      exact z) s [v] rfl
    exact this
  · have z := (lev_ok (P := P) (w := w) (base := base) hm kn hd hb k).1 p hp fd F
    rw [hps, e] at z
    rw [ef, e]
    exact z
theorem law_sp {W : WC} {H : Hp} {a : Addr} {ns : List Int} (hO : Only H) (hS : SqL K H a (ns.map V.int)) (hw : W [.scr ns] (fun _ => none) fun d _ => d = .bl true) : spOf K W [.ref a] H (fun v _ => v = .bl true) fun _ _ _ => False := by
  refine ⟨[.scr ns], fun _ => none, _, reps_cons.mpr ⟨_, _, rfl, rep_scr.mpr ⟨a, rfl, ?_⟩, reps_nil.mpr rfl⟩, (fun a o e => by cases e), hw, fun d v H1 S1 e1 s1 r q => ?_⟩
  · rcases hS with (h | ⟨o, h⟩) | h
    · rcases hO a with n | ⟨o, xs, n⟩
      · rw [h] at n; cases n
      · rw [h] at n; cases n
    · exact .inl ⟨o, h⟩
    · exact .inr h
  · subst q
    exact rep_bl.mp r
end
end Z

/-! ### C0 -/
/-! C0: small rules for stepping. -/
namespace Z
open PySem PySem.Spec PyProof.Rows L2
theorem wpSs_cons {g : G} {s : S} {r : Ss} {k : En} {ρ : Ev} {St : Sto} : wpSs g (.cons s r) k ρ St = wpS g s { k with nx := fun ρ1 S1 => wpSs g r k ρ1 S1 } ρ St := by
  rw [wpSs]
theorem wpSs_nil {g : G} {k : En} {ρ : Ev} {St : Sto} : wpSs g .nil k ρ St = k.nx ρ St := by rw [wpSs]
def Ss.drop : Nat → Ss → Ss
  | 0, s => s
  | n + 1, .cons _ r => r.drop n
  | _ + 1, .nil => .nil
theorem ret_ok {Q : PK D} {d : D} {S : Sto} (h : Q d S) : (enR Q).rt d S := ⟨S, .refl, h⟩
theorem ret_nx {Q : PK D} {ρ : Ev} {S : Sto} (h : Q .non S) : (enR Q).nx ρ S := ⟨S, .refl, h⟩
theorem ixN_in {n : Nat} {i : Int} (h0 : 0 ≤ i) (h1 : i < n) : ixN n i = some i.toNat := by unfold ixN; rw [if_pos h0, if_pos h1]
theorem atI_in {α : Type} {xs : List α} {i : Int} (h0 : 0 ≤ i) (h1 : i < xs.length) : atI xs i = some (xs[i.toNat]'(by omega)) := by
  unfold atI
  rw [ixN_in h0 h1]
  simp [List.getElem?_eq_getElem (show i.toNat < xs.length by omega)]
section
variable {α : Type} {x0 x1 x2 x3 x4 x5 x6 : α} {r : List α}
theorem atI_0 : atI (x0 :: r) 0 = some x0 := by rw [atI_in (by decide) (by simp)]; rfl
theorem atI_1 : atI (x0 :: x1 :: r) 1 = some x1 := by rw [atI_in (by decide) (by simp; omega)]; rfl
theorem atI_2 : atI (x0 :: x1 :: x2 :: r) 2 = some x2 := by rw [atI_in (by decide) (by simp; omega)]; rfl
theorem atI_3 : atI (x0 :: x1 :: x2 :: x3 :: r) 3 = some x3 := by rw [atI_in (by decide) (by simp; omega)]; rfl
theorem atI_4 : atI (x0 :: x1 :: x2 :: x3 :: x4 :: r) 4 = some x4 := by rw [atI_in (by decide) (by simp; omega)]; rfl
theorem atI_5 : atI (x0 :: x1 :: x2 :: x3 :: x4 :: x5 :: r) 5 = some x5 := by rw [atI_in (by decide) (by simp; omega)]; rfl
theorem ixN_0 : ixN (x0 :: r).length 0 = some 0 := ixN_in (by decide) (by simp)
theorem ixN_1 : ixN (x0 :: x1 :: r).length 1 = some 1 := ixN_in (by decide) (by simp; omega)
theorem ixN_2 : ixN (x0 :: x1 :: x2 :: r).length 2 = some 2 := ixN_in (by decide) (by simp; omega)
theorem ixN_3 : ixN (x0 :: x1 :: x2 :: x3 :: r).length 3 = some 3 := ixN_in (by decide) (by simp; omega)
end
def Gr (A : List Addr) (S S1 : Sto) : Prop := ∀ p o, p ∉ A → S p = some o → S1 p = some o
theorem Gr.refl {A : List Addr} {S : Sto} : Gr A S S := fun _ _ _ h => h
theorem Gr.trans {A : List Addr} {S S1 S2 : Sto} (a : Gr A S S1) (b : Gr A S1 S2) : Gr A S S2 := fun p o h e => b p o h (a p o h e)
theorem Gr.mono {A B : List Addr} {S S1 : Sto} (a : Gr A S S1) (h : ∀ p ∈ A, p ∈ B) : Gr B S S1 := fun p o n e => a p o (fun q => n (h p q)) e
theorem Gr.up {A : List Addr} {S : Sto} {p : Addr} {o : O} (h : p ∈ A) : Gr A S (up S p o) := fun q u n e => by rw [up_ne (by rintro rfl; exact n h)]; exact e
theorem Gr.new {A : List Addr} {S : Sto} {p : Addr} {o : O} (h : S p = none) : Gr A S (Z.up S p o) := fun q u n e => by rw [up_ne (by rintro rfl; rw [h] at e; cases e)]; exact e
/-- a loop keeps what it is to keep -/
theorem loop_inv {chk : Sto → Prop} {turn : D → Ev → Sto → (Ev → Sto → Prop) → Prop} {nx : Ev → Sto → Prop} (I : List D → List D → Ev → Sto → Prop)
    (step : ∀ pre d r ρ S K, I pre (d :: r) ρ S → (∀ ρ1 S1, I (pre ++ [d]) r ρ1 S1 → K ρ1 S1) → chk S ∧ turn d ρ S K) (done : ∀ pre ρ S, I pre [] ρ S → chk S ∧ nx ρ S) :
    ∀ (ds pre : List D) (ρ : Ev) (S : Sto), I pre ds ρ S → loopW chk turn nx ds ρ S
  | [], pre, ρ, S, h => by unfold loopW; exact done pre ρ S h
  | d :: r, pre, ρ, S, h => by
    unfold loopW
    exact step pre d r ρ S _ h fun ρ1 S1 h1 => loop_inv I step done r (pre ++ [d]) ρ1 S1 h1
end Z

/-! ### C1 -/
/-! C1: loops, forms, in plain Lean. -/
namespace Z
open PySem PySem.Spec PyProof.Rows L2
/-! ### loops -/
theorem pre_loop' {α : Type} {chk : Sto → Prop} {turn : D → Ev → Sto → (Ev → Sto → Prop) → Prop} {nx : Ev → Sto → Prop} (enc : α → D) (R : List α → Ev → Sto → Prop) (all : List α) (done : ∀ ρ S, R all ρ S → chk S ∧ nx ρ S) : ∀ (xs pre : List α), pre ++ xs = all →
    (∀ pre x post, all = pre ++ x :: post → ∀ ρ S K, R pre ρ S → (∀ ρ1 S1, R (pre ++ [x]) ρ1 S1 → K ρ1 S1) → chk S ∧ turn (enc x) ρ S K) → ∀ ρ S, R pre ρ S → loopW chk turn nx (xs.map enc) ρ S
  | [], pre, e, step, ρ, S, h => by
    unfold loopW
    rw [List.append_nil] at e
    subst e
    exact done ρ S h
  | x :: xs, pre, e, step, ρ, S, h => by
    rw [List.map_cons]
    unfold loopW
    exact step pre x xs e.symm ρ S _ h fun ρ1 S1 h1 => pre_loop' enc R all done xs (pre ++ [x]) (by simpa using e) step ρ1 S1 h1
/-- a loop over items, by what is walked -/
theorem pre_loop {α : Type} {chk : Sto → Prop} {turn : D → Ev → Sto → (Ev → Sto → Prop) → Prop} {nx : Ev → Sto → Prop} (enc : α → D) (R : List α → Ev → Sto → Prop) (xs : List α) {ρ : Ev} {S : Sto}
    (step : ∀ pre x post, xs = pre ++ x :: post → ∀ ρ S K, R pre ρ S → (∀ ρ1 S1, R (pre ++ [x]) ρ1 S1 → K ρ1 S1) → chk S ∧ turn (enc x) ρ S K) (done : ∀ ρ S, R xs ρ S → chk S ∧ nx ρ S) (h : R [] ρ S) : loopW chk turn nx (xs.map enc) ρ S :=
  pre_loop' enc R xs done xs [] rfl step ρ S h
theorem pre_lc' {α : Type} {chk : Sto → Prop} {turn : D → Sto → (Option D → Sto → Prop) → Prop} {k : List D → Sto → Prop} (enc : α → D) (R : List α → List D → Sto → Prop) (all : List α) (hl : all.length ≤ sizeLine) (done : ∀ acc S, R all acc S → chk S ∧ k acc S) : ∀ (xs pre : List α), pre ++ xs = all →
    (∀ pre x post, all = pre ++ x :: post → ∀ acc S K, R pre acc S → (∀ v S1, R (pre ++ [x]) (acc ++ [v]) S1 → K (some v) S1) → (∀ S1, R (pre ++ [x]) acc S1 → K none S1) → chk S ∧ turn (enc x) S K) → ∀ acc S, R pre acc S → acc.length ≤ pre.length → lcW chk turn k (xs.map enc) acc S
  | [], pre, e, step, acc, S, h, _ => by
    unfold lcW
    rw [List.append_nil] at e
    subst e
    exact done acc S h
  | x :: xs, pre, e, step, acc, S, h, ha => by
    rw [List.map_cons]
    unfold lcW
    have hp : pre.length < all.length := by rw [← e]; simp
    exact step pre x xs e.symm acc S _ h (fun v S1 h1 => ⟨by omega, pre_lc' enc R all hl done xs (pre ++ [x]) (by simpa using e) step _ S1 h1 (by simp; omega)⟩) fun S1 h1 => pre_lc' enc R all hl done xs (pre ++ [x]) (by simpa using e) step _ S1 h1 (by simp; omega)
theorem pre_lc {α : Type} {chk : Sto → Prop} {turn : D → Sto → (Option D → Sto → Prop) → Prop} {k : List D → Sto → Prop} (enc : α → D) (R : List α → List D → Sto → Prop) (xs : List α) (hl : xs.length ≤ sizeLine) {S : Sto}
    (step : ∀ pre x post, xs = pre ++ x :: post → ∀ acc S K, R pre acc S → (∀ v S1, R (pre ++ [x]) (acc ++ [v]) S1 → K (some v) S1) → (∀ S1, R (pre ++ [x]) acc S1 → K none S1) → chk S ∧ turn (enc x) S K) (done : ∀ acc S, R xs acc S → chk S ∧ k acc S) (h : R [] [] S) : lcW chk turn k (xs.map enc) [] S :=
  pre_lc' enc R xs hl done xs [] rfl step [] S h (by simp)
theorem lc_fm {α : Type} {chk : Sto → Prop} {turn : D → Sto → (Option D → Sto → Prop) → Prop} {k : List D → Sto → Prop} (enc : α → D) (fm : α → Option D) {S : Sto} (hc : chk S) : ∀ (xs : List α) (acc : List D),
    (∀ x ∈ xs, ∀ K : Option D → Sto → Prop, K (fm x) S → turn (enc x) S K) → acc.length + xs.length ≤ sizeLine → k (acc ++ xs.filterMap fm) S → lcW chk turn k (xs.map enc) acc S
  | [], acc, step, hl, h => by unfold lcW; exact ⟨hc, by simpa using h⟩
  | x :: xs, acc, step, hl, h => by
    rw [List.map_cons]
    unfold lcW
    rw [List.length_cons] at hl
    refine ⟨hc, step x (by simp) _ ?_⟩
    cases e : fm x with
    | none =>
      rw [List.filterMap_cons, e] at h
      exact lc_fm enc fm hc xs acc (fun y hy => step y (by simp [hy])) (by omega) h
    | some v =>
      rw [List.filterMap_cons, e] at h
      exact ⟨by omega, lc_fm enc fm hc xs (acc ++ [v]) (fun y hy => step y (by simp [hy])) (by simp; omega) (by simpa using h)⟩
/-- what may be walked: a tuple, a list -/
def Wkd (P : D) (S : Sto) (ds : List D) : Prop := P = .tup ds ∨ ∃ q, P = .ref q ∧ S q = some (.lst ds)
theorem walk_of {P : D} {S S0 : Sto} {ds : List D} {R : List D → (Sto → Prop) → Prop} (h : Wkd P S ds) (g : Gr [] S S0) (r : ∀ chk : Sto → Prop, (∀ S1, Gr [] S S1 → chk S1) → R ds chk) : walkC P S0 R := by
  rcases h with rfl | ⟨q, rfl, h⟩
  · exact r _ fun _ _ => trivial
  · show (match S0 q with
      | some (.lst ds) => R ds fun S1 => S1 q = some (.lst ds)
      | _ => False)
    rw [g q _ (by simp) h]
    exact r _ fun S1 g => g q _ (by simp) h
theorem walk_ofA {P : D} {S : Sto} {ds : List D} {A : List Addr} {R : List D → (Sto → Prop) → Prop} (h : Wkd P S ds) (hA : ∀ q, P = .ref q → q ∉ A) (r : ∀ chk : Sto → Prop, (∀ S1, Gr A S S1 → chk S1) → R ds chk) : walkC P S R := by
  rcases h with rfl | ⟨q, rfl, h⟩
  · exact r _ fun _ _ => trivial
  · show (match S q with
      | some (.lst ds) => R ds fun S1 => S1 q = some (.lst ds)
      | _ => False)
    rw [h]
    exact r _ fun S1 g => g q _ (hA q rfl) h
theorem Wkd.keep {P : D} {S S1 : Sto} {ds : List D} (h : Wkd P S ds) (g : Gr [] S S1) : Wkd P S1 ds := by
  rcases h with h | ⟨q, e, h⟩
  · exact .inl h
  · exact .inr ⟨q, e, g q _ (by simp) h⟩
theorem Gr.set {A : List Addr} {S S1 : Sto} {p : Addr} {o : O} (g : Gr A S S1) (h : S p = none) : Gr A S (Z.up S1 p o) := fun q u n e => by rw [up_ne (by rintro rfl; rw [h] at e; cases e)]; exact g q u n e
theorem Gr.free {S S1 : Sto} {p : Addr} (g : Gr [] S S1) (h : S1 p = none) : S p = none := by
  cases e : S p with
  | none => rfl
  | some o => rw [g p o (by simp) e] at h; cases h
theorem Gr.new' {S S1 : Sto} {p : Addr} {o : O} (g : Gr [] S S1) (h : S1 p = none) : Gr [] S (Z.up S1 p o) := g.set (g.free h)
/-! ### forms -/
abbrev Ps := List (Str × Int)
def encP (p : Str × Int) : D := .tup [.str p.1, .int p.2]
def tupP (ps : Ps) : D := .tup (ps.map encP)
def formD (f : Int × Ps) : D := .tup [.int f.1, tupP f.2]
def dicE (acc : Ps) : List (Key × D) := acc.map fun p => (.inr p.1, .int p.2)
def getA (acc : Ps) (x : Str) : Int := ((acc.find? fun p => decide (p.1 = x)).map (·.2)).getD 0
def putA (acc : Ps) (x : Str) (v : Int) : Ps := if (acc.any fun p => decide (p.1 = x)) = true then acc.map (fun p => if p.1 = x then (p.1, v) else p) else acc ++ [(x, v)]
def addA (acc : Ps) (p : Str × Int) : Ps := putA acc p.1 (getA acc p.1 + p.2)
def sums (ps : Ps) : Ps := ps.foldl addA []
def formF (c : Int) (ps : Ps) : Int × Ps := (c, (sortStr ((sums ps).map (·.1))).filterMap fun x => if getA (sums ps) x ≠ 0 then some (x, getA (sums ps) x) else none)
theorem inr_dec {x y : Str} : decide ((Sum.inr x : Key) = Sum.inr y) = decide (x = y) := by simp
theorem getD_dicE : ∀ {acc : Ps} {x : Str}, getD (dicE acc) (.inr x) = (acc.find? fun p => decide (p.1 = x)).map fun p => D.int p.2
  | [], x => rfl
  | p :: acc, x => by
    by_cases e : p.1 = x
    · rw [show dicE (p :: acc) = (.inr p.1, .int p.2) :: dicE acc from rfl, getD_pos (by simp [e]), List.find?_cons, decide_eq_true e] <;> rfl
    · rw [show dicE (p :: acc) = (.inr p.1, .int p.2) :: dicE acc from rfl, getD_neg (by simpa using e), List.find?_cons, decide_eq_false e]
      exact getD_dicE
theorem get_dicE {acc : Ps} {x : Str} : (getD (dicE acc) (.inr x)).getD (.int 0) = .int (getA acc x) := by
  rw [getD_dicE]
  unfold getA
  cases acc.find? fun p => decide (p.1 = x) <;> rfl
theorem find_mem {acc : Ps} {x : Str} (h : x ∈ acc.map (·.1)) : getD (dicE acc) (.inr x) = some (.int (getA acc x)) := by
  rw [getD_dicE]
  unfold getA
  cases e : acc.find? fun p => decide (p.1 = x) with
  | none =>
    obtain ⟨p, hp, rfl⟩ := List.mem_map.mp h
    have := List.find?_eq_none.mp e p hp
    simp at this
  | some p => rfl
theorem putD_dicE {acc : Ps} {x : Str} {v : Int} : putD (dicE acc) (.inr x) (.int v) = dicE (putA acc x v) := by
  have ha : ((dicE acc).any fun kv => decide (kv.1 = (Sum.inr x : Key))) = acc.any fun p => decide (p.1 = x) := by
    unfold dicE
    rw [List.any_map]
    congr 1
    funext p
    exact inr_dec
  unfold putD putA
  rw [ha]
  split
  · unfold dicE
    rw [List.map_map, List.map_map]
    congr 1
    funext p
    by_cases e : p.1 = x <;> simp [e]
  · simp [dicE]
theorem strKeys_dicE : ∀ {acc : Ps}, strKeys (dicE acc) = some (acc.map (·.1))
  | [] => rfl
  | p :: acc => by
    show (strKeys (dicE acc)).map (p.1 :: ·) = _
    rw [strKeys_dicE] <;> rfl
theorem putA_keys {acc : Ps} {x : Str} {v : Int} : (putA acc x v).map (·.1) = if x ∈ acc.map (·.1) then acc.map (·.1) else acc.map (·.1) ++ [x] := by
  have hm : (acc.any fun p => decide (p.1 = x)) = true ↔ x ∈ acc.map (·.1) := by simp
  unfold putA
  by_cases h : (acc.any fun p => decide (p.1 = x)) = true
  · rw [if_pos h, if_pos (hm.mp h), List.map_map]
    congr 1
    funext p
    by_cases e : p.1 = x <;> simp [e]
  · rw [if_neg h, if_neg (fun q => h (hm.mpr q))]
    simp
theorem putA_nodup {acc : Ps} {x : Str} {v : Int} (h : (acc.map (·.1)).Nodup) : ((putA acc x v).map (·.1)).Nodup := by
  rw [putA_keys]
  split
  · exact h
  · rename_i n
    exact List.nodup_append.mpr ⟨h, by simp, by intro a ha b hb; simp at hb; subst hb; rintro rfl; exact n ha⟩
theorem putA_length {acc : Ps} {x : Str} {v : Int} : acc.length ≤ (putA acc x v).length ∧ (putA acc x v).length ≤ acc.length + 1 := by
  unfold putA
  split <;> simp
theorem foldA_nodup : ∀ (ps acc : Ps), (acc.map (·.1)).Nodup → ((ps.foldl addA acc).map (·.1)).Nodup
  | [], acc, h => h
  | p :: ps, acc, h => foldA_nodup ps (addA acc p) (putA_nodup h)
theorem sums_nodup (ps : Ps) : ((sums ps).map (·.1)).Nodup := foldA_nodup ps [] (by simp)
theorem foldA_length : ∀ (ps acc : Ps), (ps.foldl addA acc).length ≤ acc.length + ps.length
  | [], acc => by simp
  | p :: ps, acc => by
    have := foldA_length ps (addA acc p)
    have h2 := (putA_length (acc := acc) (x := p.1) (v := getA acc p.1 + p.2)).2
    have : (addA acc p).length ≤ acc.length + 1 := h2
    rw [List.foldl_cons, List.length_cons]
    omega
theorem putA_mem {acc : Ps} {x y : Str} {v : Int} (h : y ∈ (putA acc x v).map (·.1)) : y ∈ acc.map (·.1) ∨ y = x := by
  rw [putA_keys] at h
  split at h
  · exact .inl h
  · rcases List.mem_append.mp h with h | h
    · exact .inl h
    · exact .inr (List.mem_singleton.mp h)
theorem foldA_mem : ∀ (ps acc : Ps) (y : Str), y ∈ (ps.foldl addA acc).map (·.1) → y ∈ acc.map (·.1) ∨ y ∈ ps.map (·.1)
  | [], acc, y, h => .inl h
  | p :: ps, acc, y, h => by
    rcases foldA_mem ps (addA acc p) y h with h | h
    · rcases putA_mem h with h | h
      · exact .inl h
      · exact .inr (by simp [h])
    · rw [List.map_cons]; exact .inr (List.mem_cons_of_mem _ h)
theorem formF_mem {c : Int} {ps : Ps} {p : Str × Int} (h : p ∈ (formF c ps).2) : p.1 ∈ ps.map (·.1) := by
  obtain ⟨x, hx, e⟩ := List.mem_filterMap.mp h
  split at e <;> cases e
  have := (sortStr_perm _).mem_iff.mp hx
  rcases foldA_mem ps [] x this with h | h
  · simp at h
  · exact h
theorem sums_snoc (ps : Ps) (p : Str × Int) : sums (ps ++ [p]) = addA (sums ps) p := by unfold sums; rw [List.foldl_append] <;> rfl
theorem sums_length (ps : Ps) : (sums ps).length ≤ ps.length := by have := foldA_length ps []; simp only [List.length_nil, Nat.zero_add] at this; exact this
theorem formF_length (c : Int) (ps : Ps) : (formF c ps).2.length ≤ ps.length := by
  have h1 := List.length_filterMap_le (fun x => if getA (sums ps) x ≠ 0 then some (x, getA (sums ps) x) else none) (sortStr ((sums ps).map (·.1)))
  rw [(sortStr_perm _).length_eq, List.length_map] at h1
  exact Nat.le_trans h1 (sums_length ps)
/-! in order, without a 0 -/
def sLt (a b : Str) : Prop := a.cps.toList < b.cps.toList
def Ok (ps : Ps) : Prop := ps.Pairwise (fun p q => sLt p.1 q.1) ∧ ∀ p ∈ ps, p.2 ≠ 0
theorem sLt_le {a b : Str} (h : sLt a b) : strLe a b = true := strLe_iff.mpr (List.le_of_lt h)
theorem sLt_ne {a b : Str} (h : sLt a b) : a ≠ b := by rintro rfl; exact List.lt_irrefl _ h
theorem sLt_of {a b : Str} (h : strLe a b = true) (n : a ≠ b) : sLt a b := by
  unfold strLe at h
  rw [Bool.not_eq_true', decide_eq_false_iff_not] at h
  exact Classical.byContradiction fun q => n (str_ext (List.le_antisymm (List.not_lt.mp h) (List.not_lt.mp q)))
theorem sort_id {ks : List Str} (h : ks.Pairwise fun a b => strLe a b = true) : sortStr ks = ks := List.mergeSort_of_pairwise h
theorem sort_strict {ks : List Str} (h : ks.Nodup) : (sortStr ks).Pairwise sLt := by
  have hp := sortStr_sorted ks
  have hn : (sortStr ks).Nodup := (sortStr_perm ks).nodup_iff.mpr h
  exact (hp.and hn).imp fun ⟨a, b⟩ => sLt_of a b
theorem formF_Ok (c : Int) (ps : Ps) : Ok (formF c ps).2 := by
  have hs := sort_strict (sums_nodup ps)
  unfold formF
  constructor
  · refine hs.filterMap _ fun a b hab p hp q hq => ?_
    split at hp <;> cases hp
    split at hq <;> cases hq
    exact hab
  · intro p hp
    obtain ⟨x, hx, e⟩ := List.mem_filterMap.mp hp
    split at e <;> cases e
    assumption
theorem getA_mem : ∀ {ps : Ps} {p : Str × Int}, (ps.map (·.1)).Nodup → p ∈ ps → getA ps p.1 = p.2
  | q :: ps, p, hn, hp => by
    rw [List.map_cons, List.nodup_cons] at hn
    unfold getA
    rcases List.mem_cons.mp hp with rfl | hp
    · simp
    · have : q.1 ≠ p.1 := fun e => hn.1 (e ▸ List.mem_map.mpr ⟨p, hp, rfl⟩)
      rw [List.find?_cons, decide_eq_false this]
      exact getA_mem hn.2 hp
theorem getA_none {ps : Ps} {x : Str} (h : x ∉ ps.map (·.1)) : getA ps x = 0 := by
  unfold getA
  rw [List.find?_eq_none.mpr fun p hp => by
    have : p.1 ≠ x := fun e => h (List.mem_map.mpr ⟨p, hp, e⟩)
    simpa using this] <;> rfl
theorem putA_new {ps : Ps} {x : Str} {v : Int} (h : x ∉ ps.map (·.1)) : putA ps x v = ps ++ [(x, v)] := by
  unfold putA
  rw [if_neg]
  intro q
  obtain ⟨p, hp, e⟩ := List.any_eq_true.mp q
  exact h (List.mem_map.mpr ⟨p, hp, of_decide_eq_true e⟩)
theorem foldA_id : ∀ (ps acc : Ps), ((acc ++ ps).map (·.1)).Nodup → ps.foldl addA acc = acc ++ ps
  | [], acc, _ => by simp
  | p :: ps, acc, h => by
    have hn : p.1 ∉ acc.map (·.1) := by
      intro q
      rw [List.map_append, List.nodup_append] at h
      exact h.2.2 _ q _ (by simp) rfl
    rw [List.foldl_cons, show addA acc p = acc ++ [p] by unfold addA; rw [getA_none hn, putA_new hn]; simp, foldA_id ps _ (by simpa using h)]
    simp
theorem Ok.nodup {ps : Ps} (h : Ok ps) : (ps.map (·.1)).Nodup := by
  have := h.1
  rw [List.nodup_iff_pairwise_ne, List.pairwise_map]
  exact this.imp fun h => sLt_ne h
theorem sums_id {ps : Ps} (h : (ps.map (·.1)).Nodup) : sums ps = ps := by
  unfold sums
  rw [foldA_id ps [] (by simpa using h)] <;> simp
theorem fm_id (qs : Ps) (hn : (qs.map (·.1)).Nodup) : ∀ ps : Ps, (∀ p ∈ ps, p ∈ qs) → (∀ p ∈ ps, p.2 ≠ 0) → ((ps.map (·.1)).filterMap fun x => if getA qs x ≠ 0 then some (x, getA qs x) else none) = ps
  | [], _, _ => rfl
  | p :: ps, h, h0 => by
    have e := getA_mem hn (h p (by simp))
    rw [List.map_cons, List.filterMap_cons, e, if_pos (h0 p (by simp)), fm_id qs hn ps (fun q hq => h q (by simp [hq])) fun q hq => h0 q (by simp [hq])]
theorem formF_id {c : Int} {ps : Ps} (h : Ok ps) : formF c ps = (c, ps) := by
  unfold formF
  rw [sums_id h.nodup, sort_id (by rw [List.pairwise_map]; exact h.1.imp fun q => sLt_le q), fm_id ps h.nodup ps (fun _ h => h) h.2]
theorem app_lt {m a b : List Nat} (h : a < b) : m ++ a < m ++ b := by
  induction m with
  | nil => exact h
  | cons x m ih => exact List.Lex.cons ih
theorem mark_Ok {ps : Ps} (m : Str) (h : Ok ps) : Ok (ps.map fun p => (m ++ p.1, p.2)) := by
  refine ⟨?_, ?_⟩
  · rw [List.pairwise_map]
    refine h.1.imp fun {p q} hpq => ?_
    show (m.cps ++ p.1.cps).toList < (m.cps ++ q.1.cps).toList
    rw [Array.toList_append, Array.toList_append]
    exact app_lt hpq
  · intro p hp
    obtain ⟨q, hq, rfl⟩ := List.mem_map.mp hp
    exact h.2 q hq
/-! ### isinstance, nice values -/
theorem isT_int_int : isT "int" "int" = true := by decide
theorem isT_int_str : isT "int" "str" = false := by decide
theorem isT_int_bool : isT "int" "bool" = false := by decide
theorem isT_int_tuple : isT "int" "tuple" = false := by decide
theorem isT_int_list : isT "int" "list" = false := by decide
theorem isT_str_int : isT "str" "int" = false := by decide
theorem isT_str_str : isT "str" "str" = true := by decide
theorem isT_str_bool : isT "str" "bool" = false := by decide
theorem isT_str_tuple : isT "str" "tuple" = false := by decide
theorem isT_str_list : isT "str" "list" = false := by decide
theorem isT_tuple_int : isT "tuple" "int" = false := by decide
theorem isT_tuple_str : isT "tuple" "str" = false := by decide
theorem isT_tuple_bool : isT "tuple" "bool" = false := by decide
theorem isT_tuple_tuple : isT "tuple" "tuple" = true := by decide
theorem isT_tuple_list : isT "tuple" "list" = false := by decide
theorem isT_bool_int : isT "bool" "int" = true := by decide
theorem isT_bool_str : isT "bool" "str" = false := by decide
theorem isT_bool_bool : isT "bool" "bool" = true := by decide
theorem isT_bool_tuple : isT "bool" "tuple" = false := by decide
theorem isT_bool_list : isT "bool" "list" = false := by decide
theorem tyIn : ("int" ∈ ["int", "str", "bool", "tuple", "list", "dict"]) ∧ ("str" ∈ ["int", "str", "bool", "tuple", "list", "dict"]) ∧ ("bool" ∈ ["int", "str", "bool", "tuple", "list", "dict"]) ∧ ("tuple" ∈ ["int", "str", "bool", "tuple", "list", "dict"]) ∧ ("list" ∈ ["int", "str", "bool", "tuple", "list", "dict"]) := by simp
theorem tyIn1 : ("int" ∈ ["int", "str", "bool", "tuple", "list", "dict"]) = True := by simp
theorem tyIn2 : ("str" ∈ ["int", "str", "bool", "tuple", "list", "dict"]) = True := by simp
theorem tyIn3 : ("bool" ∈ ["int", "str", "bool", "tuple", "list", "dict"]) = True := by simp
theorem tyIn4 : ("tuple" ∈ ["int", "str", "bool", "tuple", "list", "dict"]) = True := by simp
theorem tyIn5 : ("list" ∈ ["int", "str", "bool", "tuple", "list", "dict"]) = True := by simp
def nice : Nat → D → Prop
  | _, .int _ => True
  | _, .str _ => True
  | n + 1, .tup ds => ds.length ≤ sizeLine ∧ ∀ d ∈ ds, nice n d
  | _, _ => False
theorem nice_form {c : Int} {ps : Ps} (h : ps.length ≤ sizeLine) : nice 3 (formD (c, ps)) := by
  refine ⟨by show 2 ≤ sizeLine; decide, fun d hd => ?_⟩
  rcases List.mem_cons.mp hd with rfl | hd
  · exact trivial
  rw [List.mem_singleton.mp hd]
  refine ⟨by simpa using h, fun d hd => ?_⟩
  obtain ⟨p, hp, rfl⟩ := List.mem_map.mp hd
  refine ⟨by show 2 ≤ sizeLine; decide, fun d hd => ?_⟩
  rcases List.mem_cons.mp hd with rfl | hd
  · exact trivial
  rw [List.mem_singleton.mp hd]
  exact trivial
theorem bls_rep : ∀ n : Nat, blsOf (List.replicate n (D.bl true)) = some (List.replicate n true)
  | 0 => rfl
  | n + 1 => by
    rw [List.replicate_succ, List.replicate_succ]
    unfold blsOf
    rw [bls_rep n] <;> rfl
theorem all_rep (n : Nat) : (List.replicate n true).all id = true := by simp
theorem atI_nat {α : Type} {xs : List α} {i : Nat} (h : i < xs.length) : atI xs (0 + (i : Int)) = some xs[i] := by
  rw [atI_in (by omega) (by omega)]
  congr 1
  have : (0 + (i : Int)).toNat = i := by omega
  simp only [this]
theorem range_mid {n : Nat} {pre post : List Nat} {x : Nat} (h : List.range n = pre ++ x :: post) : x < n ∧ x = pre.length := by
  have hx : x ∈ List.range n := by rw [h]; simp
  refine ⟨List.mem_range.mp hx, ?_⟩
  have : (List.range n)[pre.length]? = some x := by rw [h]; simp
  rw [List.getElem?_range (by have := congrArg List.length h; simp at this; omega)] at this
  exact (Option.some.inj this).symm
end Z

/-! ### C2 -/
/-! C2: the coefficient of a name; a form is known by them. -/
namespace Z
open PySem PySem.Spec PyProof.Rows L2
def coef : Ps → Str → Int
  | [], _ => 0
  | p :: ps, x => (if p.1 = x then p.2 else 0) + coef ps x
theorem coef_app : ∀ (ps qs : Ps) (x : Str), coef (ps ++ qs) x = coef ps x + coef qs x
  | [], qs, x => by simp [coef]
  | p :: ps, qs, x => by
    show (if p.1 = x then p.2 else 0) + coef (ps ++ qs) x = (if p.1 = x then p.2 else 0) + coef ps x + coef qs x
    rw [coef_app ps qs x]; omega
theorem coef_mul (k : Int) : ∀ (ps : Ps) (x : Str), coef (ps.map fun p => (p.1, k * p.2)) x = k * coef ps x
  | [], x => by simp [coef]
  | p :: ps, x => by
    show (if p.1 = x then k * p.2 else 0) + coef (ps.map fun p => (p.1, k * p.2)) x = k * ((if p.1 = x then p.2 else 0) + coef ps x)
    rw [coef_mul k ps x, Int.mul_add]
    split <;> simp
theorem coef_none : ∀ {ps : Ps} {x : Str}, x ∉ ps.map (·.1) → coef ps x = 0
  | [], _, _ => rfl
  | p :: ps, x, h => by
    rw [List.map_cons, List.mem_cons, not_or] at h
    show (if p.1 = x then p.2 else 0) + coef ps x = 0
    rw [if_neg (fun e => h.1 e.symm), coef_none h.2] <;> rfl
theorem getA_putA {acc : Ps} {x y : Str} {v : Int} : getA (putA acc x v) y = if x = y then v else getA acc y := by
  unfold putA
  by_cases ha : (acc.any fun p => decide (p.1 = x)) = true
  · rw [if_pos ha]
    induction acc with
    | nil => cases ha
    | cons p acc ih =>
      unfold getA
      rw [List.map_cons, List.find?_cons, List.find?_cons]
      by_cases e : p.1 = x
      · rw [if_pos e]
        by_cases e2 : x = y
        · rw [if_pos e2, decide_eq_true (e.trans e2)] <;> rfl
        · have e3 : ¬ p.1 = y := fun q => e2 (e.symm.trans q)
          rw [if_neg e2, decide_eq_false e3]
          have key : ∀ l : Ps, ((l.map fun p => if p.1 = x then (p.1, v) else p).find? fun p => decide (p.1 = y)).map (·.2) = (l.find? fun p => decide (p.1 = y)).map (·.2) := by
            intro l
            induction l with
            | nil => rfl
            | cons q l ihl =>
              rw [List.map_cons, List.find?_cons, List.find?_cons]
              by_cases eq : q.1 = x
              · rw [if_pos eq]
                have : ¬ q.1 = y := fun z => e2 (eq.symm.trans z)
                rw [decide_eq_false this]
                exact ihl
              · rw [if_neg eq]
                by_cases e4 : q.1 = y
                · rw [decide_eq_true e4]
                · rw [decide_eq_false e4]; exact ihl
          show (Option.map _ _).getD 0 = (Option.map _ _).getD 0
          rw [key]
      · rw [if_neg e]
        have ha' : (acc.any fun p => decide (p.1 = x)) = true := by simpa [e] using ha
        have := ih ha'
        unfold getA at this
        by_cases e4 : p.1 = y
        · have e2 : ¬ x = y := fun z => e (e4.trans z.symm)
          rw [decide_eq_true e4, if_neg e2]
        · rw [decide_eq_false e4]
          exact this
  · rw [if_neg ha]
    unfold getA
    rw [List.find?_append]
    cases hf : acc.find? fun p => decide (p.1 = y) with
    | some p =>
      have e2 : ¬ x = y := by
        rintro rfl
        exact ha (List.any_eq_true.mpr ⟨p, List.mem_of_find?_eq_some hf, List.find?_some (p := fun p : Str × Int => decide (p.1 = x)) hf⟩)
      rw [if_neg e2] <;> rfl
    | none =>
      by_cases e2 : x = y
      · rw [if_pos e2, List.find?_cons, decide_eq_true e2] <;> rfl
      · rw [if_neg e2, List.find?_cons, decide_eq_false e2] <;> rfl
theorem getA_foldA : ∀ (ps acc : Ps) (x : Str), getA (ps.foldl addA acc) x = getA acc x + coef ps x
  | [], acc, x => by simp [coef]
  | p :: ps, acc, x => by
    rw [List.foldl_cons, getA_foldA ps (addA acc p) x]
    show getA (putA acc p.1 (getA acc p.1 + p.2)) x + coef ps x = getA acc x + ((if p.1 = x then p.2 else 0) + coef ps x)
    rw [getA_putA]
    by_cases e : p.1 = x
    · rw [if_pos e, if_pos e, e]; omega
    · rw [if_neg e, if_neg e]; omega
theorem getA_sums (ps : Ps) (x : Str) : getA (sums ps) x = coef ps x := by
  have := getA_foldA ps [] x
  rw [show getA [] x = 0 from rfl] at this
  unfold sums
  omega
theorem coef_fm (gf : Str → Int) (x : Str) : ∀ ks : List Str, ks.Nodup → coef (ks.filterMap fun y => if gf y ≠ 0 then some (y, gf y) else none) x = if x ∈ ks then gf x else 0
  | [], _ => by simp [coef]
  | y :: ks, h => by
    rw [List.nodup_cons] at h
    have ih := coef_fm gf x ks h.2
    by_cases hy : gf y = 0
    · rw [List.filterMap_cons, if_neg (by simpa using hy)]
      show coef (ks.filterMap _) x = _
      rw [ih]
      by_cases e : x = y
      · subst e; simp [h.1, hy]
      · simp [e]
    · rw [List.filterMap_cons, if_pos hy]
      show (if y = x then gf y else 0) + coef (ks.filterMap _) x = _
      rw [ih]
      by_cases e : y = x
      · subst e; simp [h.1]
      · have : ¬ x = y := fun z => e z.symm
        simp [e, this]
theorem coef_formF (c : Int) (ps : Ps) (x : Str) : coef (formF c ps).2 x = coef ps x := by
  have hn : (sortStr ((sums ps).map (·.1))).Nodup := (sortStr_perm _).nodup_iff.mpr (sums_nodup ps)
  have := coef_fm (getA (sums ps)) x _ hn
  unfold formF
  rw [this]
  split
  · exact getA_sums ps x
  · rename_i hx
    rw [← getA_sums]
    exact (getA_none fun q => hx ((sortStr_perm _).mem_iff.mpr q)).symm
theorem Ok.tail {p : Str × Int} {ps : Ps} (h : Ok (p :: ps)) : Ok ps := ⟨(List.pairwise_cons.mp h.1).2, fun q hq => h.2 q (List.mem_cons_of_mem _ hq)⟩
theorem Ok.head_coef {p : Str × Int} {ps : Ps} (h : Ok (p :: ps)) : coef (p :: ps) p.1 = p.2 := by
  show (if p.1 = p.1 then p.2 else 0) + coef ps p.1 = p.2
  rw [if_pos rfl, coef_none, Int.add_zero]
  intro hx
  obtain ⟨q, hq, e⟩ := List.mem_map.mp hx
  have := (List.pairwise_cons.mp h.1).1 q hq
  exact sLt_ne this e.symm
theorem Ok.low_coef {p : Str × Int} {ps : Ps} {x : Str} (h : Ok (p :: ps)) (hx : sLt x p.1) : coef (p :: ps) x = 0 := by
  apply coef_none
  intro hm
  obtain ⟨q, hq, e⟩ := List.mem_map.mp hm
  rcases List.mem_cons.mp hq with rfl | hq
  · exact sLt_ne hx e.symm
  · have := (List.pairwise_cons.mp h.1).1 q hq
    exact sLt_ne (show sLt x q.1 from List.lt_trans hx this) e.symm
theorem sLt_tri (a b : Str) : sLt a b ∨ a = b ∨ sLt b a := by
  by_cases e : a = b
  · exact .inr (.inl e)
  · rcases Bool.or_eq_true _ _ |>.mp (strLe_total a b) with h | h
    · exact .inl (sLt_of h e)
    · exact .inr (.inr (sLt_of h (fun q => e q.symm)))
/-- a form is known by its coefficients -/
theorem Ok.ext : ∀ {ps qs : Ps}, Ok ps → Ok qs → (∀ x, coef ps x = coef qs x) → ps = qs
  | [], [], _, _, _ => rfl
  | [], q :: qs, _, h2, h => by
    have := h q.1
    rw [h2.head_coef] at this
    exact absurd this.symm (h2.2 q (by simp))
  | p :: ps, [], h1, _, h => by
    have := h p.1
    rw [h1.head_coef] at this
    exact absurd this (h1.2 p (by simp))
  | p :: ps, q :: qs, h1, h2, h => by
    have e1 : p.1 = q.1 := by
      rcases sLt_tri p.1 q.1 with l | l | l
      · have := h p.1
        rw [h1.head_coef, h2.low_coef l] at this
        exact absurd this (h1.2 p (by simp))
      · exact l
      · have := h q.1
        rw [h2.head_coef, h1.low_coef l] at this
        exact absurd this.symm (h2.2 q (by simp))
    have e2 : p.2 = q.2 := by
      have := h p.1
      rw [h1.head_coef, e1, h2.head_coef] at this
      exact this
    have e : p = q := Prod.ext e1 e2
    subst e
    rw [Ok.ext h1.tail h2.tail fun x => by
      have := h x
      show coef ps x = coef qs x
      have e3 : coef (p :: ps) x = (if p.1 = x then p.2 else 0) + coef ps x := rfl
      have e4 : coef (p :: qs) x = (if p.1 = x then p.2 else 0) + coef qs x := rfl
      omega]
theorem formF_eq {c : Int} {ps qs : Ps} (h : Ok qs) (e : ∀ x, coef ps x = coef qs x) : formF c ps = (c, qs) := Prod.ext rfl (Ok.ext (formF_Ok c ps) h fun x => by rw [coef_formF]; exact e x)
theorem formF_congr {c : Int} {ps qs : Ps} (e : ∀ x, coef ps x = coef qs x) : formF c ps = formF c qs := Prod.ext rfl (Ok.ext (formF_Ok c ps) (formF_Ok c qs) fun x => by rw [coef_formF, coef_formF]; exact e x)
theorem mul_Ok {ps : Ps} {k : Int} (hk : k ≠ 0) (h : Ok ps) : Ok (ps.map fun p => (p.1, k * p.2)) := by
  refine ⟨by rw [List.pairwise_map]; exact h.1, fun p hp => ?_⟩
  obtain ⟨q, hq, rfl⟩ := List.mem_map.mp hp
  exact Int.mul_ne_zero hk (h.2 q hq)
theorem nil_Ok : Ok [] := ⟨List.Pairwise.nil, by simp⟩
theorem Ok.nil_of {ps : Ps} (h : Ok ps) (e : ∀ x, coef ps x = 0) : ps = [] := Ok.ext h nil_Ok e
/-! sizes -/
def Bd (b : Nat) (ps : Ps) : Prop := ∀ p ∈ ps, p.2.natAbs ≤ b
theorem coef_bd {b : Nat} : ∀ {ps : Ps} {x : Str}, Bd b ps → (coef ps x).natAbs ≤ ps.length * b
  | [], _, _ => by simp [coef]
  | p :: ps, x, h => by
    have ih := coef_bd (ps := ps) (x := x) fun q hq => h q (by simp [hq])
    have hp := h p (by simp)
    have : ((if p.1 = x then p.2 else 0) + coef ps x).natAbs ≤ (if p.1 = x then p.2 else 0).natAbs + (coef ps x).natAbs := Int.natAbs_add_le _ _
    show ((if p.1 = x then p.2 else 0) + coef ps x).natAbs ≤ (ps.length + 1) * b
    rw [Nat.add_mul, Nat.one_mul]
    have : (if p.1 = x then p.2 else 0 : Int).natAbs ≤ b := by split <;> simp_all
    omega
theorem Ok.mem_coef : ∀ {ps : Ps} {p : Str × Int}, Ok ps → p ∈ ps → coef ps p.1 = p.2
  | q :: ps, p, h, hp => by
    rcases List.mem_cons.mp hp with rfl | hp
    · exact h.head_coef
    · have l := (List.pairwise_cons.mp h.1).1 p hp
      have : ¬ q.1 = p.1 := sLt_ne l
      show (if q.1 = p.1 then q.2 else 0) + coef ps p.1 = p.2
      rw [if_neg this, Ok.mem_coef h.tail hp, Int.zero_add]
theorem formF_bd {c : Int} {b : Nat} {ps : Ps} (h : Bd b ps) : Bd (ps.length * b) (formF c ps).2 := fun p hp => by
  rw [← (formF_Ok c ps).mem_coef hp, coef_formF]
  exact coef_bd h
theorem sub_length : ∀ {l m : List Str}, l.Nodup → (∀ x ∈ l, x ∈ m) → l.length ≤ m.length
  | [], m, _, _ => by simp
  | x :: l, m, hn, h => by
    rw [List.nodup_cons] at hn
    have hx := h x (by simp)
    have := sub_length (l := l) (m := m.erase x) hn.2 fun y hy => (List.mem_erase_of_ne (fun e => hn.1 (by rw [← e]; exact hy))).mpr (h y (by simp [hy]))
    rw [List.length_erase_of_mem hx] at this
    have := List.length_pos_of_mem hx
    rw [List.length_cons]
    omega
theorem sums_few {ps : Ps} {ks : List Str} (h : ∀ p ∈ ps, p.1 ∈ ks) : (sums ps).length ≤ ks.length := by
  have := sub_length (l := (sums ps).map (·.1)) (m := ks) (sums_nodup ps) fun x hx => by
    rcases foldA_mem ps [] x hx with h2 | h2
    · simp at h2
    · obtain ⟨p, hp, rfl⟩ := List.mem_map.mp h2
      exact h p hp
  rwa [List.length_map] at this
theorem strLen_app (y z : Str) : (y ++ z).length = y.length + z.length := by
  show (y.cps ++ z.cps).size = _
  rw [Array.size_append] <;> rfl
theorem joinLen : ∀ ys : List Str, (Str.join Str.empty ys).length = (ys.map (·.length)).sum
  | [] => rfl
  | [x] => by simp [Str.join]
  | x :: z :: r => by
    show (x ++ Str.empty ++ Str.join Str.empty (z :: r)).length = _
    rw [strLen_app, strLen_app, joinLen (z :: r)]
    show x.length + 0 + _ = _
    simp
theorem flat_strs (xs : List Str) : (xs.map D.str).all D.flat = true := by simp [D.flat]
theorem inF_strs (x : Str) (xs : List Str) : inF (.str x) (xs.map D.str) = decide (x ∈ xs) := by
  unfold inF
  rw [List.any_map, Bool.eq_iff_iff]
  simp only [List.any_eq_true, Function.comp_apply, eqF, decide_eq_true_eq]
  constructor
  · rintro ⟨y, hy, rfl⟩; exact hy
  · intro h; exact ⟨x, h, rfl⟩
theorem atI_mem {xs : List D} {i : Int} (h0 : 0 ≤ i) (h1 : i < xs.length) : ∃ d, atI xs i = some d ∧ d ∈ xs := ⟨_, atI_in h0 h1, List.getElem_mem _⟩
theorem Gr.get {A : List Addr} {S S1 : Sto} {p : Addr} {o : O} (g : Gr A S S1) (h : S p = some o) (n : p ∉ A) : S1 p = some o := g p o n h
theorem Gr.free1 {a p : Addr} {S S1 : Sto} (g : Gr [a] S S1) (h : S1 p = none) (n : p ≠ a) : S p = none := by
  cases e : S p with
  | none => rfl
  | some o => rw [g p o (by simpa using n) e] at h; cases h
end Z

/-! ### C3 -/
/-! C3: dicts by names, values of forms. -/
namespace Z
open PySem PySem.Spec PyProof.Rows L2
def dicX (l : List (Str × D)) : List (Key × D) := l.map fun p => (Sum.inr p.1, p.2)
theorem dicX_any {l : List (Str × D)} {x : Str} : ((dicX l).any fun kv => decide (kv.1 = (Sum.inr x : Key))) = true ↔ x ∈ l.map (·.1) := by
  unfold dicX
  simp
theorem putX_new {l : List (Str × D)} {x : Str} {d : D} (h : x ∉ l.map (·.1)) : putD (dicX l) (.inr x) d = dicX (l ++ [(x, d)]) := by
  unfold putD
  rw [if_neg fun q => h (dicX_any.mp q)]
  simp [dicX]
theorem getX_out {l : List (Str × D)} {x : Str} (h : x ∉ l.map (·.1)) : getD (dicX l) (.inr x) = none := by
  unfold getD
  rw [List.find?_eq_none.mpr fun p hp => ?_]
  · rfl
  · intro e
    exact h (dicX_any.mp (List.any_eq_true.mpr ⟨p, hp, e⟩))
theorem getX_in : ∀ {l : List (Str × D)} {x : Str} {d : D}, (l.map (·.1)).Nodup → (x, d) ∈ l → getD (dicX l) (.inr x) = some d
  | p :: l, x, d, hn, h => by
    rw [List.map_cons, List.nodup_cons] at hn
    rcases List.mem_cons.mp h with e | h
    · subst e
      exact getD_pos rfl
    · have : ¬ (Sum.inr p.1 : Key) = Sum.inr x := by
        intro e
        cases e
        exact hn.1 (List.mem_map.mpr ⟨(p.1, d), h, rfl⟩)
      show getD ((Sum.inr p.1, p.2) :: dicX l) (Sum.inr x) = some d
      rw [getD_neg this]
      exact getX_in hn.2 h
theorem dc_new' {α : Type} {chk : Sto → Prop} {turn : D → Sto → (Option (D × D) → Sto → Prop) → Prop} {k : List (Key × D) → Sto → Prop} (enc : α → D) (ky : α → Str) (vl : α → D) {S : Sto} (hc : chk S) : ∀ (xs : List α) (acc : List (Str × D)),
    (∀ x ∈ xs, ∀ K : Option (D × D) → Sto → Prop, K (some (.str (ky x), vl x)) S → turn (enc x) S K) → (acc.map (·.1) ++ xs.map ky).Nodup → acc.length + xs.length ≤ sizeLine → k (dicX (acc ++ xs.map fun x => (ky x, vl x))) S → dcW chk turn k (xs.map enc) (dicX acc) S
  | [], acc, step, hn, hl, h => by
    unfold dcW
    exact ⟨hc, by simpa using h⟩
  | x :: xs, acc, step, hn, hl, h => by
    rw [List.map_cons]
    unfold dcW
    rw [List.length_cons] at hl
    refine ⟨hc, step x (by simp) _ ?_⟩
    have hx : ky x ∉ acc.map (·.1) := fun q => by
      rw [List.nodup_append] at hn
      exact hn.2.2 _ q _ (by simp) rfl
    show (dicX acc).length < sizeLine ∧ _
    refine ⟨by unfold dicX; rw [List.length_map]; omega, ?_⟩
    rw [putX_new hx]
    exact dc_new' enc ky vl hc xs _ (fun y hy => step y (by simp [hy])) (by simpa using hn) (by simp; omega) (by simpa using h)
theorem dc_new {α : Type} {chk : Sto → Prop} {turn : D → Sto → (Option (D × D) → Sto → Prop) → Prop} {k : List (Key × D) → Sto → Prop} (enc : α → D) (ky : α → Str) (vl : α → D) {S : Sto} (hc : chk S) (xs : List α)
    (step : ∀ x ∈ xs, ∀ K : Option (D × D) → Sto → Prop, K (some (.str (ky x), vl x)) S → turn (enc x) S K) (hn : (xs.map ky).Nodup) (hl : xs.length ≤ sizeLine) (h : k (dicX (xs.map fun x => (ky x, vl x))) S) : dcW chk turn k (xs.map enc) [] S :=
  dc_new' enc ky vl hc xs [] step (by simpa using hn) (by simpa using hl) (by simpa using h)
/-! values -/
def valP (N : Str → Int) : Ps → Int
  | [] => 0
  | p :: ps => p.2 * N p.1 + valP N ps
theorem valP_app (N : Str → Int) : ∀ ps qs : Ps, valP N (ps ++ qs) = valP N ps + valP N qs
  | [], qs => by simp [valP]
  | p :: ps, qs => by
    show p.2 * N p.1 + valP N (ps ++ qs) = p.2 * N p.1 + valP N ps + valP N qs
    rw [valP_app N ps qs]; omega
theorem valP_mul (N : Str → Int) (k : Int) : ∀ ps : Ps, valP N (ps.map fun p => (p.1, k * p.2)) = k * valP N ps
  | [] => by simp [valP]
  | p :: ps => by
    show k * p.2 * N p.1 + valP N (ps.map fun p => (p.1, k * p.2)) = k * (p.2 * N p.1 + valP N ps)
    rw [valP_mul N k ps, Int.mul_add, Int.mul_assoc]
def valK (N : Str → Int) (ks : List Str) (ps : Ps) : Int := (ks.map fun x => coef ps x * N x).sum
theorem valK_cons (N : Str → Int) (p : Str × Int) (ps : Ps) : ∀ ks : List Str, ks.Nodup → valK N ks (p :: ps) = (if p.1 ∈ ks then p.2 * N p.1 else 0) + valK N ks ps
  | [], _ => by simp [valK]
  | x :: ks, h => by
    rw [List.nodup_cons] at h
    have ih := valK_cons N p ps ks h.2
    have e1 : valK N (x :: ks) (p :: ps) = ((if p.1 = x then p.2 else 0) + coef ps x) * N x + valK N ks (p :: ps) := by unfold valK; simp [coef]
    have e2 : valK N (x :: ks) ps = coef ps x * N x + valK N ks ps := by unfold valK; simp
    rw [e1, e2, ih, Int.add_mul]
    by_cases e : p.1 = x
    · have hn : ¬ p.1 ∈ ks := by rw [e]; exact h.1
      rw [if_pos e, if_neg hn, if_pos (by rw [e]; simp), e]
      omega
    · have : (p.1 ∈ x :: ks) ↔ p.1 ∈ ks := by simp [e]
      rw [if_neg e, Int.zero_mul]
      by_cases hm : p.1 ∈ ks
      · rw [if_pos hm, if_pos (this.mpr hm)]; omega
      · rw [if_neg hm, if_neg (fun q => hm (this.mp q))]; omega
theorem valP_K (N : Str → Int) {ks : List Str} (hn : ks.Nodup) : ∀ {ps : Ps}, (∀ p ∈ ps, p.1 ∈ ks) → valP N ps = valK N ks ps
  | [], _ => by
    have : ∀ l : List Str, valK N l [] = 0 := fun l => by
      induction l with
      | nil => rfl
      | cons x l ih =>
        have : valK N (x :: l) [] = coef [] x * N x + valK N l [] := by unfold valK; simp
        rw [this, ih]; simp [coef]
    rw [this] <;> rfl
  | p :: ps, h => by
    rw [valK_cons N p ps ks hn, if_pos (h p (by simp)), ← valP_K N hn fun q hq => h q (by simp [hq])] <;> rfl
theorem valP_formF (N : Str → Int) {ks : List Str} (hn : ks.Nodup) {c : Int} {ps : Ps} (h : ∀ p ∈ ps, p.1 ∈ ks) : valP N (formF c ps).2 = valP N ps := by
  rw [valP_K N hn h, valP_K N hn (ps := (formF c ps).2) fun p hp => by
    obtain ⟨q, hq, e⟩ := List.mem_map.mp (formF_mem hp)
    rw [← e]; exact h q hq]
  unfold valK
  congr 1
  apply List.map_congr_left
  intro x _
  rw [coef_formF]
theorem Ok.length_le {ps : Ps} {ks : List Str} (h : Ok ps) (hk : ∀ p ∈ ps, p.1 ∈ ks) : ps.length ≤ ks.length := by
  have := sub_length (l := ps.map (·.1)) (m := ks) h.nodup fun x hx => by
    obtain ⟨p, hp, rfl⟩ := List.mem_map.mp hx
    exact hk p hp
  rwa [List.length_map] at this
theorem cut_lo {α : Type} (xs : List α) {s : Int} (h0 : 0 ≤ s) (h1 : s ≤ xs.length) : cutG xs (some s) none = xs.drop s.toNat := by
  unfold cutG
  have e1 : HT.sIx xs.length 0 (some s) = s.toNat := by unfold HT.sIx; show (if s < 0 then (s + (xs.length : Int)).toNat else min s.toNat xs.length) = s.toNat; rw [if_neg (by omega)]; omega
  have e2 : HT.sIx xs.length xs.length none = xs.length := rfl
  rw [e1, e2]
  exact List.take_of_length_le (by simp)
theorem cut_hi {α : Type} (xs : List α) {s : Int} (h0 : 0 ≤ s) (h1 : s ≤ xs.length) : cutG xs none (some s) = xs.take s.toNat := by
  unfold cutG
  have e1 : HT.sIx xs.length xs.length (some s) = s.toNat := by unfold HT.sIx; show (if s < 0 then (s + (xs.length : Int)).toNat else min s.toNat xs.length) = s.toNat; rw [if_neg (by omega)]; omega
  have e2 : HT.sIx xs.length 0 none = 0 := rfl
  rw [e1, e2]
  simp
end Z

/-! ### the text -/
namespace Z
open PySem PySem.Spec PyProof.Rows L2
def top (i : Nat) : Stmt := PySem.Challenge.pw_tellsnomore_k49_image_and_value.main.body.getD i (.Pass ⟨0, 0, 0, 0⟩)
def dd (p : Str × Option Str) (n q : Str) (st : Stmt) : He.DefD := ⟨p, n, q, defArgs st, defBody st, defScope st, [], []⟩
def f_form : Df := ⟨2, [("constant" : Str), ("pairs" : Str), ("sums" : Str), ("name" : Str), ("coefficient" : Str)],
  (.cons (.set (.v 2) (.dic .nil .nil)) (.cons (.fr (.t (.cons (.v 3) (.cons (.v 4) .nil))) (.val (.var 1)) (.cons (.setIx (.var 2) (.var 3) (.bin .add (.bm (.var 2) .get (.cons (.var 3) (.cons (.int 0) .nil))) (.var 4))) .nil)) (.cons (.ret (.tup (.cons (.var 0) (.cons (.bi .tuple (.cons (.lc (.tup (.cons (.var 3) (.cons (.ix (.var 2) (.var 3)) .nil))) (.v 3) (.val (.bi .sorted (.cons (.var 2) .nil))) (.so (.cmp .ne (.ix (.var 2) (.var 3)) (.int 0))) [3]) .nil)) .nil)))) .nil)))⟩
def f_image : Df := ⟨2, [("f" : Str), ("pairs" : Str), ("table" : Str), ("constant" : Str), ("rest" : Str), ("name" : Str), ("coefficient" : Str), ("g" : Str), ("other" : Str), ("factor" : Str)],
  (.cons (.set (.v 2) (.dc (.var 5) (.var 7) (.t (.cons (.v 5) (.cons (.v 7) .nil))) (.val (.var 1)) .no [5, 7])) (.cons (.set (.v 3) (.ix (.var 0) (.int 0))) (.cons (.set (.v 4) (.lst .nil)) (.cons (.fr (.t (.cons (.v 5) (.cons (.v 6) .nil))) (.val (.ix (.var 0) (.int 1))) (.cons (.ife (.cmp .in_ (.var 5) (.var 2)) (.cons (.set (.v 7) (.ix (.var 2) (.var 5))) (.cons (.aug 3 .add (.bin .mul (.var 6) (.ix (.var 7) (.int 0)))) (.cons (.ex (.bm (.var 4) .extend (.cons (.lc (.tup (.cons (.var 8) (.cons (.bin .mul (.var 6) (.var 9)) .nil))) (.t (.cons (.v 8) (.cons (.v 9) .nil))) (.val (.ix (.var 7) (.int 1))) .no [8, 9]) .nil))) .nil))) (.cons (.ex (.bm (.var 4) .append (.cons (.tup (.cons (.var 5) (.cons (.var 6) .nil))) .nil))) .nil)) .nil)) (.cons (.ret (.call "form" (.cons (.var 3) (.cons (.var 4) .nil)))) .nil)))))⟩
def f_value : Df := ⟨2, [("f" : Str), ("pairs" : Str), ("table" : Str), ("name" : Str), ("number" : Str), ("coefficient" : Str)],
  (.cons (.set (.v 2) (.dc (.var 3) (.var 4) (.t (.cons (.v 3) (.cons (.v 4) .nil))) (.val (.var 1)) .no [3, 4])) (.cons (.ret (.bin .add (.ix (.var 0) (.int 0)) (.bi .sum (.cons (.lc (.bin .mul (.var 5) (.ix (.var 2) (.var 3))) (.t (.cons (.v 3) (.cons (.v 5) .nil))) (.val (.ix (.var 0) (.int 1))) .no [3, 5]) .nil)))) .nil))⟩
def f__law_start : Df := ⟨1, [("script" : Str)],
  (.cons (.ret (.lst (.cons (.bi .list (.cons (.var 0) .nil)) (.cons (.int 0) (.cons (.int 0) (.cons (.int 0) .nil)))))) .nil)⟩
def f__law_draw : Df := ⟨2, [("state" : Str), ("most" : Str), ("cell" : Str), ("mixed" : Str), ("found" : Str)],
  (.cons (.setIx (.var 0) (.int 3) (.bin .add (.ix (.var 0) (.int 3)) (.int 1))) (.cons (.ife (.cmp .gt (.ix (.var 0) (.int 2)) (.int 0)) (.cons (.set (.v 4) (.bin .mod (.bi .int (.cons (.ix (.var 0) (.int 2)) .nil)) (.var 1))) (.cons (.setIx (.var 0) (.int 2) (.bin .fdiv (.ix (.var 0) (.int 2)) (.var 1))) (.cons (.ret (.var 4)) .nil))) .nil) (.cons (.set (.v 2) (.int 0)) (.cons (.ife (.cmp .gt (.bi .len (.cons (.ix (.var 0) (.int 0)) .nil)) (.int 0)) (.cons (.set (.v 2) (.bi .abs (.cons (.ix (.ix (.var 0) (.int 0)) (.bin .mod (.bi .int (.cons (.ix (.var 0) (.int 1)) .nil)) (.bi .len (.cons (.ix (.var 0) (.int 0)) .nil)))) .nil))) .nil) .nil) (.cons (.setIx (.var 0) (.int 1) (.bin .add (.ix (.var 0) (.int 1)) (.int 1))) (.cons (.ife (.cmp .ge (.var 2) (.bin .pow (.int 10) (.int 18))) (.cons (.setIx (.var 0) (.int 2) (.bin .fdiv (.var 2) (.var 1))) (.cons (.ret (.bin .mod (.bi .int (.cons (.var 2) .nil)) (.var 1))) .nil)) .nil) (.cons (.set (.v 3) (.bin .mod (.bi .int (.cons (.bin .add (.bin .mul (.bin .add (.var 2) (.int 1)) (.int 48271)) (.bin .mul (.ix (.var 0) (.int 3)) (.int 69621))) .nil)) (.int 2147483647))) (.cons (.set (.v 3) (.bin .mod (.bi .int (.cons (.bin .add (.bin .add (.bin .mul (.var 3) (.int 16807)) (.bin .fdiv (.var 2) (.int 97))) (.ix (.var 0) (.int 3))) .nil)) (.int 2147483629))) (.cons (.ret (.bin .mod (.bin .fdiv (.var 3) (.int 11)) (.var 1))) .nil)))))))))⟩
def f__law_is_int : Df := ⟨1, [("x" : Str)],
  (.cons (.ret (.andE (.cons (.bi .isinstance (.cons (.var 0) (.cons (.ty "int") .nil))) (.cons (.notE (.bi .isinstance (.cons (.var 0) (.cons (.ty "bool") .nil)))) .nil)))) .nil)⟩
def f__law_form : Df := ⟨2, [("constant" : Str), ("pairs" : Str), ("sums" : Str), ("name" : Str), ("number" : Str)],
  (.cons (.set (.v 2) (.dic .nil .nil)) (.cons (.fr (.t (.cons (.v 3) (.cons (.v 4) .nil))) (.val (.var 1)) (.cons (.setIx (.var 2) (.var 3) (.bin .add (.bm (.var 2) .get (.cons (.var 3) (.cons (.int 0) .nil))) (.var 4))) .nil)) (.cons (.ret (.tup (.cons (.var 0) (.cons (.bi .tuple (.cons (.lc (.tup (.cons (.var 3) (.cons (.ix (.var 2) (.var 3)) .nil))) (.v 3) (.val (.bi .sorted (.cons (.var 2) .nil))) (.so (.cmp .ne (.ix (.var 2) (.var 3)) (.int 0))) [3]) .nil)) .nil)))) .nil)))⟩
def f__law_sum : Df := ⟨1, [("parts" : Str), ("constant" : Str), ("pairs" : Str), ("factor" : Str), ("f" : Str), ("name" : Str), ("number" : Str)],
  (.cons (.set (.v 1) (.int 0)) (.cons (.set (.v 2) (.lst .nil)) (.cons (.fr (.t (.cons (.v 3) (.cons (.v 4) .nil))) (.val (.var 0)) (.cons (.set (.v 1) (.bin .add (.var 1) (.bin .mul (.var 3) (.ix (.var 4) (.int 0))))) (.cons (.fr (.t (.cons (.v 5) (.cons (.v 6) .nil))) (.val (.ix (.var 4) (.int 1))) (.cons (.ex (.bm (.var 2) .append (.cons (.tup (.cons (.var 5) (.cons (.bin .mul (.var 3) (.var 6)) .nil))) .nil))) .nil)) .nil))) (.cons (.ret (.call "_law_form" (.cons (.var 1) (.cons (.var 2) .nil)))) .nil))))⟩
def f__law_var : Df := ⟨1, [("name" : Str)],
  (.cons (.ret (.tup (.cons (.int 0) (.cons (.tup (.cons (.tup (.cons (.var 0) (.cons (.int 1) .nil))) .nil)) .nil)))) .nil)⟩
def f__law_put : Df := ⟨2, [("f" : Str), ("table" : Str), ("parts" : Str), ("name" : Str), ("number" : Str)],
  (.cons (.set (.v 2) (.lst (.cons (.tup (.cons (.int 1) (.cons (.tup (.cons (.ix (.var 0) (.int 0)) (.cons (.tup .nil) .nil))) .nil))) .nil))) (.cons (.fr (.t (.cons (.v 3) (.cons (.v 4) .nil))) (.val (.ix (.var 0) (.int 1))) (.cons (.ex (.bm (.var 2) .append (.cons (.tup (.cons (.var 4) (.cons (.bm (.var 1) .get (.cons (.var 3) (.cons (.call "_law_var" (.cons (.var 3) .nil)) .nil))) .nil))) .nil))) .nil)) (.cons (.ret (.call "_law_sum" (.cons (.var 2) .nil))) .nil)))⟩
def f__law_at : Df := ⟨3, [("f" : Str), ("den" : Str), ("table" : Str), ("total" : Str), ("name" : Str), ("number" : Str)],
  (.cons (.set (.v 3) (.bin .mul (.var 1) (.ix (.var 0) (.int 0)))) (.cons (.fr (.t (.cons (.v 4) (.cons (.v 5) .nil))) (.val (.ix (.var 0) (.int 1))) (.cons (.set (.v 3) (.bin .add (.var 3) (.bin .mul (.var 5) (.ix (.var 2) (.var 4))))) .nil)) (.cons (.ret (.var 3)) .nil)))⟩
def f__law_name : Df := ⟨1, [("state" : Str), ("chars" : Str), ("k" : Str)],
  (.cons (.set (.v 1) (.str "!\"#$&()*+,-./0123456789:;<=>?@ABCDEFGHIJKLMNOPQRSTUVWXYZ[\\]^_`")) (.cons (.set (.v 1) (.bin .add (.var 1) (.str "abcdefghijklmnopqrstuvwxyz{|}~"))) (.cons (.ret (.bm (.str "") .join (.cons (.lc (.ix (.var 1) (.call "_law_draw" (.cons (.var 0) (.cons (.bi .len (.cons (.var 1) .nil)) .nil)))) (.v 2) (.rng1 (.bin .add (.int 1) (.call "_law_draw" (.cons (.var 0) (.cons (.int 3) .nil))))) .no [2]) .nil))) .nil)))⟩
def f__law_pool : Df := ⟨2, [("state" : Str), ("many" : Str), ("base" : Str), ("found" : Str), ("k" : Str), ("name" : Str)],
  (.cons (.set (.v 2) (.call "_law_name" (.cons (.var 0) .nil))) (.cons (.set (.v 3) (.lst .nil)) (.cons (.fr (.v 4) (.rng1 (.var 1)) (.cons (.set (.v 5) (.ix (.lst (.cons (.bin .add (.var 2) (.bi .str (.cons (.var 4) .nil))) (.cons (.call "_law_name" (.cons (.var 0) .nil)) (.cons (.bin .add (.str "@") (.var 2)) (.cons (.var 2) .nil))))) (.call "_law_draw" (.cons (.var 0) (.cons (.int 4) .nil))))) (.cons (.ife (.cmp .nin (.var 5) (.var 3)) (.cons (.ex (.bm (.var 3) .append (.cons (.var 5) .nil))) .nil) .nil) .nil))) (.cons (.ret (.var 3)) .nil))))⟩
def f__law_signed : Df := ⟨2, [("state" : Str), ("most" : Str)],
  (.cons (.ret (.bin .sub (.call "_law_draw" (.cons (.var 0) (.cons (.bin .add (.bin .mul (.int 2) (.var 1)) (.int 1)) .nil))) (.var 1))) .nil)⟩
def f__law_number : Df := ⟨1, [("state" : Str)],
  (.cons (.ife (.cmp .eq (.call "_law_draw" (.cons (.var 0) (.cons (.int 8) .nil))) (.int 0)) (.cons (.ret (.bin .add (.bin .mul (.call "_law_signed" (.cons (.var 0) (.cons (.int 1000) .nil))) (.bin .pow (.int 10) (.int 40))) (.call "_law_signed" (.cons (.var 0) (.cons (.int 1000000) .nil))))) .nil) .nil) (.cons (.ret (.call "_law_signed" (.cons (.var 0) (.cons (.int 3) .nil)))) .nil))⟩
def f__law_same : Df := ⟨2, [("told" : Str), ("due" : Str), ("k" : Str)],
  (.cons (.ife (.bi .isinstance (.cons (.var 1) (.cons (.ty "tuple") .nil))) (.cons (.ife (.orE (.cons (.notE (.bi .isinstance (.cons (.var 0) (.cons (.ty "tuple") .nil)))) (.cons (.cmp .ne (.bi .len (.cons (.var 0) .nil)) (.bi .len (.cons (.var 1) .nil))) .nil))) (.cons (.ret (.bl false)) .nil) .nil) (.cons (.ret (.bi .all (.cons (.lc (.call "_law_same" (.cons (.ix (.var 0) (.var 2)) (.cons (.ix (.var 1) (.var 2)) .nil))) (.v 2) (.rng1 (.bi .len (.cons (.var 1) .nil))) .no [2]) .nil))) .nil)) .nil) (.cons (.ife (.bi .isinstance (.cons (.var 1) (.cons (.ty "str") .nil))) (.cons (.ret (.andE (.cons (.bi .isinstance (.cons (.var 0) (.cons (.ty "str") .nil))) (.cons (.cmp .eq (.var 0) (.var 1)) .nil)))) .nil) .nil) (.cons (.ret (.andE (.cons (.bi .isinstance (.cons (.var 0) (.cons (.ty "int") .nil))) (.cons (.notE (.bi .isinstance (.cons (.var 0) (.cons (.ty "bool") .nil)))) (.cons (.cmp .eq (.var 0) (.var 1)) .nil))))) .nil)))⟩
def f__law_drawn : Df := ⟨2, [("state" : Str), ("names" : Str), ("pairs" : Str), ("name" : Str)],
  (.cons (.set (.v 2) (.lc (.tup (.cons (.var 3) (.cons (.call "_law_number" (.cons (.var 0) .nil)) .nil))) (.v 3) (.val (.var 1)) (.so (.cmp .gt (.call "_law_draw" (.cons (.var 0) (.cons (.int 4) .nil))) (.int 0))) [3])) (.cons (.ret (.call "_law_form" (.cons (.call "_law_number" (.cons (.var 0) .nil)) (.cons (.var 2) .nil)))) .nil))⟩
def f__law_pairs : Df := ⟨2, [("state" : Str), ("names" : Str), ("around" : Str), ("pairs" : Str), ("k" : Str), ("split" : Str)],
  (.cons (.set (.v 2) (.cmp .eq (.call "_law_draw" (.cons (.var 0) (.cons (.int 4) .nil))) (.int 0))) (.cons (.set (.v 3) (.lst .nil)) (.cons (.fr (.v 4) (.rng1 (.bi .len (.cons (.var 1) .nil))) (.cons (.ife (.var 2) (.cons (.ex (.bm (.var 3) .append (.cons (.tup (.cons (.ix (.var 1) (.var 4)) (.cons (.call "_law_var" (.cons (.ix (.var 1) (.bin .mod (.bi .int (.cons (.bin .add (.var 4) (.int 1)) .nil)) (.bi .len (.cons (.var 1) .nil)))) .nil)) .nil))) .nil))) .nil) (.cons (.ife (.cmp .eq (.call "_law_draw" (.cons (.var 0) (.cons (.int 2) .nil))) (.int 0)) (.cons (.ex (.bm (.var 3) .append (.cons (.tup (.cons (.ix (.var 1) (.var 4)) (.cons (.call "_law_drawn" (.cons (.var 0) (.cons (.var 1) .nil))) .nil))) .nil))) .nil) .nil) .nil)) .nil)) (.cons (.set (.v 5) (.call "_law_draw" (.cons (.var 0) (.cons (.bin .add (.bi .len (.cons (.var 3) .nil)) (.int 1)) .nil)))) (.cons (.ret (.bin .add (.sl (.var 3) (.so (.var 5)) .no) (.sl (.var 3) .no (.so (.var 5))))) .nil)))))⟩
def f_law : Df := ⟨1, [("script" : Str), ("state" : Str), ("names" : Str), ("source" : Str), ("pairs" : Str), ("table" : Str), ("told" : Str), ("points" : Str), ("numbers" : Str), ("after" : Str), ("name" : Str), ("first" : Str), ("second" : Str), ("f" : Str), ("number" : Str)],
  (.cons (.set (.v 1) (.call "_law_start" (.cons (.var 0) .nil))) (.cons (.set (.v 2) (.call "_law_pool" (.cons (.var 1) (.cons (.bin .add (.int 1) (.call "_law_draw" (.cons (.var 1) (.cons (.int 5) .nil)))) .nil)))) (.cons (.set (.v 3) (.call "_law_drawn" (.cons (.var 1) (.cons (.var 2) .nil)))) (.cons (.set (.v 4) (.call "_law_pairs" (.cons (.var 1) (.cons (.var 2) .nil)))) (.cons (.set (.v 5) (.dic .nil .nil)) (.cons (.fr (.t (.cons (.v 10) (.cons (.v 13) .nil))) (.val (.var 4)) (.cons (.setIx (.var 5) (.var 10) (.var 13)) .nil)) (.cons (.set (.v 6) (.call "image" (.cons (.var 3) (.cons (.bi .tuple (.cons (.var 4) .nil)) .nil)))) (.cons (.ife (.notE (.call "_law_same" (.cons (.var 6) (.cons (.call "_law_put" (.cons (.var 3) (.cons (.var 5) .nil))) .nil)))) (.cons (.ret (.bl false)) .nil) .nil) (.cons (.set (.v 7) (.lc (.tup (.cons (.var 10) (.cons (.call "_law_number" (.cons (.var 1) .nil)) .nil))) (.v 10) (.val (.bin .add (.var 2) (.lst (.cons (.bin .add (.ix (.var 2) (.int 0)) (.str "~~~~")) .nil)))) .no [10])) (.cons (.set (.v 8) (.dic .nil .nil)) (.cons (.fr (.t (.cons (.v 10) (.cons (.v 14) .nil))) (.val (.var 7)) (.cons (.setIx (.var 8) (.var 10) (.var 14)) .nil)) (.cons (.set (.v 9) (.dic .nil .nil)) (.cons (.fr (.v 10) (.val (.var 2)) (.cons (.setIx (.var 9) (.var 10) (.call "_law_at" (.cons (.bm (.var 5) .get (.cons (.var 10) (.cons (.call "_law_var" (.cons (.var 10) .nil)) .nil))) (.cons (.int 1) (.cons (.var 8) .nil))))) .nil)) (.cons (.set (.v 11) (.call "value" (.cons (.var 3) (.cons (.bi .tuple (.cons (.var 7) .nil)) .nil)))) (.cons (.set (.v 12) (.call "value" (.cons (.var 6) (.cons (.trev (.var 7)) .nil)))) (.cons (.ife (.orE (.cons (.notE (.call "_law_is_int" (.cons (.var 11) .nil))) (.cons (.notE (.call "_law_is_int" (.cons (.var 12) .nil))) .nil))) (.cons (.ret (.bl false)) .nil) .nil) (.cons (.ret (.andE (.cons (.cmp .eq (.var 11) (.call "_law_at" (.cons (.var 3) (.cons (.int 1) (.cons (.var 8) .nil))))) (.cons (.cmp .eq (.var 12) (.call "_law_at" (.cons (.var 3) (.cons (.int 1) (.cons (.var 9) .nil))))) .nil)))) .nil)))))))))))))))))⟩
def mDefs : List (He.DefD × Df) := [(dd ("form", none) "form" "form" (top 1), f_form),
  (dd ("image", none) "image" "image" (top 2), f_image),
  (dd ("value", none) "value" "value" (top 3), f_value),
  (dd ("_law_start", none) "_law_start" "_law_start" (top 5), f__law_start),
  (dd ("_law_draw", none) "_law_draw" "_law_draw" (top 6), f__law_draw),
  (dd ("_law_is_int", none) "_law_is_int" "_law_is_int" (top 7), f__law_is_int),
  (dd ("_law_form", none) "_law_form" "_law_form" (top 8), f__law_form),
  (dd ("_law_sum", none) "_law_sum" "_law_sum" (top 9), f__law_sum),
  (dd ("_law_var", none) "_law_var" "_law_var" (top 10), f__law_var),
  (dd ("_law_put", none) "_law_put" "_law_put" (top 11), f__law_put),
  (dd ("_law_at", none) "_law_at" "_law_at" (top 12), f__law_at),
  (dd ("_law_name", none) "_law_name" "_law_name" (top 13), f__law_name),
  (dd ("_law_pool", none) "_law_pool" "_law_pool" (top 14), f__law_pool),
  (dd ("_law_signed", none) "_law_signed" "_law_signed" (top 15), f__law_signed),
  (dd ("_law_number", none) "_law_number" "_law_number" (top 16), f__law_number),
  (dd ("_law_same", none) "_law_same" "_law_same" (top 17), f__law_same),
  (dd ("_law_drawn", none) "_law_drawn" "_law_drawn" (top 18), f__law_drawn),
  (dd ("_law_pairs", none) "_law_pairs" "_law_pairs" (top 19), f__law_pairs),
  (dd ("law", none) "law" "law" (top 20), f_law)]
def mo : Mo where
  tb := ⟨[("abs" : Str), ("all" : Str), ("bool" : Str), ("int" : Str), ("isinstance" : Str), ("len" : Str), ("list" : Str), ("range" : Str), ("reversed" : Str), ("sorted" : Str), ("str" : Str), ("sum" : Str), ("tuple" : Str)], [("_law_at" : Str), ("_law_draw" : Str), ("_law_drawn" : Str), ("_law_form" : Str), ("_law_is_int" : Str), ("_law_name" : Str), ("_law_number" : Str), ("_law_pairs" : Str), ("_law_pool" : Str), ("_law_put" : Str), ("_law_same" : Str), ("_law_signed" : Str), ("_law_start" : Str), ("_law_sum" : Str), ("_law_var" : Str), ("form" : Str), ("image" : Str), ("value" : Str)], []⟩
  lits := []
  clss := []
  noats := []
  mths := []
  defs := mDefs
def loose : List Str := [("form" : Str), ("image" : Str), ("value" : Str), ("_law_start" : Str), ("_law_draw" : Str), ("_law_is_int" : Str), ("_law_form" : Str), ("_law_sum" : Str), ("_law_var" : Str), ("_law_put" : Str), ("_law_at" : Str), ("_law_name" : Str), ("_law_pool" : Str), ("_law_signed" : Str), ("_law_number" : Str), ("_law_same" : Str), ("_law_drawn" : Str), ("_law_pairs" : Str)]
abbrev R : PySem.W.OpenRow := PySem.W.OpenLaw.row PySem.Challenge.rw_tellsnomore_k49_image_and_value
abbrev hk : PySem.W.Hook := He.hookX 5 mo.fa mo.fn [] [] (exB mo)
def ob (s : PySem.W.SharedT) : He.AlX := He.obsX 5 mo.fa mo.fn [] [] (exB mo) (HandSHeadRun.getT s)
theorem ob_eq (s : PySem.W.SharedT) : ob s = hk.obs s.abs := He.obsX_eq (HandSHeadRun.getT_eq s)
theorem mo_ok : moB mo = true := by decide +kernel
theorem defs_ok : (mo.defs.all fun p => dfB mo p) = true := by decide +kernel
theorem binds_all : AllP BindP mo.defs :=
  .cons (fun _ _ _ _ _ _ us hl => match us, hl with | [_, _], _ => rfl) <|
  .cons (fun _ _ _ _ _ _ us hl => match us, hl with | [_, _], _ => rfl) <|
  .cons (fun _ _ _ _ _ _ us hl => match us, hl with | [_, _], _ => rfl) <|
  .cons (fun _ _ _ _ _ _ us hl => match us, hl with | [_], _ => rfl) <|
  .cons (fun _ _ _ _ _ _ us hl => match us, hl with | [_, _], _ => rfl) <|
  .cons (fun _ _ _ _ _ _ us hl => match us, hl with | [_], _ => rfl) <|
  .cons (fun _ _ _ _ _ _ us hl => match us, hl with | [_, _], _ => rfl) <|
  .cons (fun _ _ _ _ _ _ us hl => match us, hl with | [_], _ => rfl) <|
  .cons (fun _ _ _ _ _ _ us hl => match us, hl with | [_], _ => rfl) <|
  .cons (fun _ _ _ _ _ _ us hl => match us, hl with | [_, _], _ => rfl) <|
  .cons (fun _ _ _ _ _ _ us hl => match us, hl with | [_, _, _], _ => rfl) <|
  .cons (fun _ _ _ _ _ _ us hl => match us, hl with | [_], _ => rfl) <|
  .cons (fun _ _ _ _ _ _ us hl => match us, hl with | [_, _], _ => rfl) <|
  .cons (fun _ _ _ _ _ _ us hl => match us, hl with | [_, _], _ => rfl) <|
  .cons (fun _ _ _ _ _ _ us hl => match us, hl with | [_], _ => rfl) <|
  .cons (fun _ _ _ _ _ _ us hl => match us, hl with | [_, _], _ => rfl) <|
  .cons (fun _ _ _ _ _ _ us hl => match us, hl with | [_, _], _ => rfl) <|
  .cons (fun _ _ _ _ _ _ us hl => match us, hl with | [_, _], _ => rfl) <|
  .cons (fun _ _ _ _ _ _ us hl => match us, hl with | [_], _ => rfl) <|
  .nil
theorem run (w : World) : HandSHeadRun.RunEq R (PySem.W.view R.prog [20]) hk ob 20000 loose w := by
  intro os
  kernel_rfl
end Z

namespace Z
open PySem PySem.Spec PyProof.Rows L2
abbrev cl (k : Nat) (f : Str) : WC := (lev mo k).1 (f, none)
abbrev gk (k : Nat) : G := gAt mo (lev mo k).1 (lev mo k).2
theorem cl_run {f : Str} {d : Df} (h : mo.df (f, none) = some d) {k : Nat} {ds : List D} {S : Sto} {Q : PK D} (w : ds.length = d.np ∧ wpSs (gk k) d.body (enR Q) (env0 d.N.length ds) S) : cl (k + 1) f ds S Q := by
  show (match mo.df (f, none) with
    | some d => runW d (gAt mo (lev mo k).1 (lev mo k).2)
    | none => fun _ _ _ => False) ds S Q
  rw [h]; exact w
/-- the law's drawing state -/
def Sc (a b : Addr) (ns : List Int) (n : Nat) (S : Sto) : Prop := a ≠ b ∧ S b = some (.lst (ns.map D.int)) ∧ ∃ i h c : Int, S a = some (.lst [.ref b, .int i, .int h, .int c]) ∧ 0 ≤ c ∧ c ≤ n
theorem Sc.mono {a b : Addr} {ns : List Int} {n m : Nat} {S : Sto} (h : Sc a b ns n S) (hm : n ≤ m) : Sc a b ns m S := by
  obtain ⟨hab, hb, i, h, c, ha, c1, c2⟩ := h
  exact ⟨hab, hb, i, h, c, ha, c1, by omega⟩
theorem Sc.keep {a b : Addr} {ns : List Int} {n : Nat} {S S1 : Sto} (h : Sc a b ns n S) (g : Gr [] S S1) : Sc a b ns n S1 := by
  obtain ⟨hab, hb, i, h, c, ha, c1, c2⟩ := h
  exact ⟨hab, g b _ (by simp) hb, i, h, c, g a _ (by simp) ha, c1, c2⟩
theorem Sc.new {a b p : Addr} {ns : List Int} {n : Nat} {S : Sto} {o : O} (h : Sc a b ns n S) (hp : S p = none) : Sc a b ns n (up S p o) := h.keep (.new hp)
theorem draw_w {k : Nat} {a b : Addr} {ns : List Int} {n : Nat} {S : Sto} {most : Int} {Q : PK D} (hn : n < 2 ^ 60) (hm : 0 < most) (hm2 : most < 2 ^ 64) (hs : Sc a b ns n S)
    (hq : ∀ (v : Int) S1, 0 ≤ v → v < most → Gr [a] S S1 → Sc a b ns (n + 1) S1 → Q (.int v) S1) : cl (k + 1) "_law_draw" [.ref a, .int most] S Q := by
  obtain ⟨hab, hb, i, h, c, ha, c1, c2⟩ := hs
  have hdv : ∀ z : Int, CDivW z most := fun z => ⟨hm, by
    have : most.natAbs < 2 ^ 64 := by omega
    exact Nat.lt_of_lt_of_le (PySem.Flt.log2_lt_of (by decide) this) (by decide)⟩
  refine cl_run (d := f__law_draw) rfl ⟨rfl, ?_⟩
  show wpSs (gk k) _ (enR Q) [some (.ref a), some (.int most), none, none, none] S
  unfold f__law_draw
  (rw [wpSs_cons]; simp only [wpS, wp, wpEs, wpO, wpIf, wpI, wpAnd, wpOr, ofE, truthOf, asgW, asgWs, tgLen, List.getElem?_cons_zero, List.getElem?_cons_succ, List.set_cons_zero, List.set_cons_succ, ixC, ixL, setC, bopW, addW, subW, mulW, fdivW, modW, powW, negW, bfW, cmpC, eqC, ltC, leC, isC, inC, truC, slC, itemsL, tyName, fldC, up_same, atI_0, atI_1, atI_2, atI_3, atI_4, atI_5, ixN_0, ixN_1, ixN_2, ixN_3, wpSs_nil, wipeE, true_and, and_true, if_true, Bool.false_eq_true, if_false, Bool.not_true, Bool.not_false, decide_true, decide_false, tyIn1, tyIn2, tyIn3, tyIn4, tyIn5, isT_int_int, isT_int_str, isT_int_bool, isT_int_tuple, isT_int_list, isT_str_int, isT_str_str, isT_str_bool, isT_str_tuple, isT_str_list, isT_tuple_int, isT_tuple_str, isT_tuple_bool, isT_tuple_tuple, isT_tuple_list, isT_bool_int, isT_bool_str, isT_bool_bool, isT_bool_tuple, isT_bool_list, ha])
  (rw [wpSs_cons]; simp only [wpS, wp, wpEs, wpO, wpIf, wpI, wpAnd, wpOr, ofE, truthOf, asgW, asgWs, tgLen, List.getElem?_cons_zero, List.getElem?_cons_succ, List.set_cons_zero, List.set_cons_succ, ixC, ixL, setC, bopW, addW, subW, mulW, fdivW, modW, powW, negW, bfW, cmpC, eqC, ltC, leC, isC, inC, truC, slC, itemsL, tyName, fldC, up_same, atI_0, atI_1, atI_2, atI_3, atI_4, atI_5, ixN_0, ixN_1, ixN_2, ixN_3, wpSs_nil, wipeE, true_and, and_true, if_true, Bool.false_eq_true, if_false, Bool.not_true, Bool.not_false, decide_true, decide_false, tyIn1, tyIn2, tyIn3, tyIn4, tyIn5, isT_int_int, isT_int_str, isT_int_bool, isT_int_tuple, isT_int_list, isT_str_int, isT_str_str, isT_str_bool, isT_str_tuple, isT_str_list, isT_tuple_int, isT_tuple_str, isT_tuple_bool, isT_tuple_tuple, isT_tuple_list, isT_bool_int, isT_bool_str, isT_bool_bool, isT_bool_tuple, isT_bool_list, ha])
  have fin : ∀ (v j l : Int) S1, S1 a = some (.lst [.ref b, .int j, .int l, .int (c + 1)]) → 0 ≤ v → v < most → Gr [a] S S1 → S1 b = some (.lst (ns.map D.int)) → (enR Q).rt (.int v) S1 := fun v j l S1 h1 h2 h3 h4 h5 =>
    ret_ok (hq v S1 h2 h3 h4 ⟨hab, h5, j, l, c + 1, h1, by omega, by omega⟩)
  have hba : b ≠ a := Ne.symm hab
  split
  · (rw [wpSs_cons]; simp only [wpS, wp, wpEs, wpO, wpIf, wpI, wpAnd, wpOr, ofE, truthOf, asgW, asgWs, tgLen, List.getElem?_cons_zero, List.getElem?_cons_succ, List.set_cons_zero, List.set_cons_succ, ixC, ixL, setC, bopW, addW, subW, mulW, fdivW, modW, powW, negW, bfW, cmpC, eqC, ltC, leC, isC, inC, truC, slC, itemsL, tyName, fldC, up_same, atI_0, atI_1, atI_2, atI_3, atI_4, atI_5, ixN_0, ixN_1, ixN_2, ixN_3, wpSs_nil, wipeE, true_and, and_true, if_true, Bool.false_eq_true, if_false, Bool.not_true, Bool.not_false, decide_true, decide_false, tyIn1, tyIn2, tyIn3, tyIn4, tyIn5, isT_int_int, isT_int_str, isT_int_bool, isT_int_tuple, isT_int_list, isT_str_int, isT_str_str, isT_str_bool, isT_str_tuple, isT_str_list, isT_tuple_int, isT_tuple_str, isT_tuple_bool, isT_tuple_tuple, isT_tuple_list, isT_bool_int, isT_bool_str, isT_bool_bool, isT_bool_tuple, isT_bool_list, ha])
    refine ⟨hm, ?_⟩
    (rw [wpSs_cons]; simp only [wpS, wp, wpEs, wpO, wpIf, wpI, wpAnd, wpOr, ofE, truthOf, asgW, asgWs, tgLen, List.getElem?_cons_zero, List.getElem?_cons_succ, List.set_cons_zero, List.set_cons_succ, ixC, ixL, setC, bopW, addW, subW, mulW, fdivW, modW, powW, negW, bfW, cmpC, eqC, ltC, leC, isC, inC, truC, slC, itemsL, tyName, fldC, up_same, atI_0, atI_1, atI_2, atI_3, atI_4, atI_5, ixN_0, ixN_1, ixN_2, ixN_3, wpSs_nil, wipeE, true_and, and_true, if_true, Bool.false_eq_true, if_false, Bool.not_true, Bool.not_false, decide_true, decide_false, tyIn1, tyIn2, tyIn3, tyIn4, tyIn5, isT_int_int, isT_int_str, isT_int_bool, isT_int_tuple, isT_int_list, isT_str_int, isT_str_str, isT_str_bool, isT_str_tuple, isT_str_list, isT_tuple_int, isT_tuple_str, isT_tuple_bool, isT_tuple_tuple, isT_tuple_list, isT_bool_int, isT_bool_str, isT_bool_bool, isT_bool_tuple, isT_bool_list, ha])
    refine ⟨hdv _, ?_⟩
    (rw [wpSs_cons]; simp only [wpS, wp, wpEs, wpO, wpIf, wpI, wpAnd, wpOr, ofE, truthOf, asgW, asgWs, tgLen, List.getElem?_cons_zero, List.getElem?_cons_succ, List.set_cons_zero, List.set_cons_succ, ixC, ixL, setC, bopW, addW, subW, mulW, fdivW, modW, powW, negW, bfW, cmpC, eqC, ltC, leC, isC, inC, truC, slC, itemsL, tyName, fldC, up_same, atI_0, atI_1, atI_2, atI_3, atI_4, atI_5, ixN_0, ixN_1, ixN_2, ixN_3, wpSs_nil, wipeE, true_and, and_true, if_true, Bool.false_eq_true, if_false, Bool.not_true, Bool.not_false, decide_true, decide_false, tyIn1, tyIn2, tyIn3, tyIn4, tyIn5, isT_int_int, isT_int_str, isT_int_bool, isT_int_tuple, isT_int_list, isT_str_int, isT_str_str, isT_str_bool, isT_str_tuple, isT_str_list, isT_tuple_int, isT_tuple_str, isT_tuple_bool, isT_tuple_tuple, isT_tuple_list, isT_bool_int, isT_bool_str, isT_bool_bool, isT_bool_tuple, isT_bool_list, ha])
    refine fin _ i (h / most) _ up_same (Int.emod_nonneg _ (by omega)) (Int.emod_lt_of_pos _ hm) ((Gr.up (by simp)).trans (Gr.up (by simp))) ?_
    rw [up_ne hba, up_ne hba]; exact hb
  · (rw [wpSs_cons]; simp only [wpS, wp, wpEs, wpO, wpIf, wpI, wpAnd, wpOr, ofE, truthOf, asgW, asgWs, tgLen, List.getElem?_cons_zero, List.getElem?_cons_succ, List.set_cons_zero, List.set_cons_succ, ixC, ixL, setC, bopW, addW, subW, mulW, fdivW, modW, powW, negW, bfW, cmpC, eqC, ltC, leC, isC, inC, truC, slC, itemsL, tyName, fldC, up_same, atI_0, atI_1, atI_2, atI_3, atI_4, atI_5, ixN_0, ixN_1, ixN_2, ixN_3, wpSs_nil, wipeE, true_and, and_true, if_true, Bool.false_eq_true, if_false, Bool.not_true, Bool.not_false, decide_true, decide_false, tyIn1, tyIn2, tyIn3, tyIn4, tyIn5, isT_int_int, isT_int_str, isT_int_bool, isT_int_tuple, isT_int_list, isT_str_int, isT_str_str, isT_str_bool, isT_str_tuple, isT_str_list, isT_tuple_int, isT_tuple_str, isT_tuple_bool, isT_tuple_tuple, isT_tuple_list, isT_bool_int, isT_bool_str, isT_bool_bool, isT_bool_tuple, isT_bool_list, ha])
    -- the cell
    have tail : ∀ cell : Int, 0 ≤ cell → wpSs (gk k) (f__law_draw.body.drop 4) (enR Q) [some (.ref a), some (.int most), some (.int cell), none, none] (up S a (.lst [.ref b, .int i, .int h, .int (c + 1)])) := by
      intro cell h0
      unfold f__law_draw
      simp only [Ss.drop]
      (rw [wpSs_cons]; simp only [wpS, wp, wpEs, wpO, wpIf, wpI, wpAnd, wpOr, ofE, truthOf, asgW, asgWs, tgLen, List.getElem?_cons_zero, List.getElem?_cons_succ, List.set_cons_zero, List.set_cons_succ, ixC, ixL, setC, bopW, addW, subW, mulW, fdivW, modW, powW, negW, bfW, cmpC, eqC, ltC, leC, isC, inC, truC, slC, itemsL, tyName, fldC, up_same, atI_0, atI_1, atI_2, atI_3, atI_4, atI_5, ixN_0, ixN_1, ixN_2, ixN_3, wpSs_nil, wipeE, true_and, and_true, if_true, Bool.false_eq_true, if_false, Bool.not_true, Bool.not_false, decide_true, decide_false, tyIn1, tyIn2, tyIn3, tyIn4, tyIn5, isT_int_int, isT_int_str, isT_int_bool, isT_int_tuple, isT_int_list, isT_str_int, isT_str_str, isT_str_bool, isT_str_tuple, isT_str_list, isT_tuple_int, isT_tuple_str, isT_tuple_bool, isT_tuple_tuple, isT_tuple_list, isT_bool_int, isT_bool_str, isT_bool_bool, isT_bool_tuple, isT_bool_list])
      (rw [wpSs_cons]; simp only [wpS, wp, wpEs, wpO, wpIf, wpI, wpAnd, wpOr, ofE, truthOf, asgW, asgWs, tgLen, List.getElem?_cons_zero, List.getElem?_cons_succ, List.set_cons_zero, List.set_cons_succ, ixC, ixL, setC, bopW, addW, subW, mulW, fdivW, modW, powW, negW, bfW, cmpC, eqC, ltC, leC, isC, inC, truC, slC, itemsL, tyName, fldC, up_same, atI_0, atI_1, atI_2, atI_3, atI_4, atI_5, ixN_0, ixN_1, ixN_2, ixN_3, wpSs_nil, wipeE, true_and, and_true, if_true, Bool.false_eq_true, if_false, Bool.not_true, Bool.not_false, decide_true, decide_false, tyIn1, tyIn2, tyIn3, tyIn4, tyIn5, isT_int_int, isT_int_str, isT_int_bool, isT_int_tuple, isT_int_list, isT_str_int, isT_str_str, isT_str_bool, isT_str_tuple, isT_str_list, isT_tuple_int, isT_tuple_str, isT_tuple_bool, isT_tuple_tuple, isT_tuple_list, isT_bool_int, isT_bool_str, isT_bool_bool, isT_bool_tuple, isT_bool_list])
      refine ⟨⟨by decide, by decide, by decide⟩, ?_⟩
      split
      · (rw [wpSs_cons]; simp only [wpS, wp, wpEs, wpO, wpIf, wpI, wpAnd, wpOr, ofE, truthOf, asgW, asgWs, tgLen, List.getElem?_cons_zero, List.getElem?_cons_succ, List.set_cons_zero, List.set_cons_succ, ixC, ixL, setC, bopW, addW, subW, mulW, fdivW, modW, powW, negW, bfW, cmpC, eqC, ltC, leC, isC, inC, truC, slC, itemsL, tyName, fldC, up_same, atI_0, atI_1, atI_2, atI_3, atI_4, atI_5, ixN_0, ixN_1, ixN_2, ixN_3, wpSs_nil, wipeE, true_and, and_true, if_true, Bool.false_eq_true, if_false, Bool.not_true, Bool.not_false, decide_true, decide_false, tyIn1, tyIn2, tyIn3, tyIn4, tyIn5, isT_int_int, isT_int_str, isT_int_bool, isT_int_tuple, isT_int_list, isT_str_int, isT_str_str, isT_str_bool, isT_str_tuple, isT_str_list, isT_tuple_int, isT_tuple_str, isT_tuple_bool, isT_tuple_tuple, isT_tuple_list, isT_bool_int, isT_bool_str, isT_bool_bool, isT_bool_tuple, isT_bool_list])
        refine ⟨hdv _, ?_⟩
        (rw [wpSs_cons]; simp only [wpS, wp, wpEs, wpO, wpIf, wpI, wpAnd, wpOr, ofE, truthOf, asgW, asgWs, tgLen, List.getElem?_cons_zero, List.getElem?_cons_succ, List.set_cons_zero, List.set_cons_succ, ixC, ixL, setC, bopW, addW, subW, mulW, fdivW, modW, powW, negW, bfW, cmpC, eqC, ltC, leC, isC, inC, truC, slC, itemsL, tyName, fldC, up_same, atI_0, atI_1, atI_2, atI_3, atI_4, atI_5, ixN_0, ixN_1, ixN_2, ixN_3, wpSs_nil, wipeE, true_and, and_true, if_true, Bool.false_eq_true, if_false, Bool.not_true, Bool.not_false, decide_true, decide_false, tyIn1, tyIn2, tyIn3, tyIn4, tyIn5, isT_int_int, isT_int_str, isT_int_bool, isT_int_tuple, isT_int_list, isT_str_int, isT_str_str, isT_str_bool, isT_str_tuple, isT_str_list, isT_tuple_int, isT_tuple_str, isT_tuple_bool, isT_tuple_tuple, isT_tuple_list, isT_bool_int, isT_bool_str, isT_bool_bool, isT_bool_tuple, isT_bool_list])
        refine ⟨hm, fin _ (i + 1) (cell / most) _ up_same (Int.emod_nonneg _ (by omega)) (Int.emod_lt_of_pos _ hm) (((Gr.up (by simp)).trans (Gr.up (by simp))).trans (Gr.up (by simp))) ?_⟩
        rw [up_ne hba, up_ne hba, up_ne hba]; exact hb
      · rename_i hlt
        rw [decide_eq_true_eq] at hlt
        have hc : cell < 10 ^ 18 := by
          have : (10 : Int) ^ (18 : Int).toNat = 10 ^ 18 := rfl
          omega
        (rw [wpSs_cons]; simp only [wpS, wp, wpEs, wpO, wpIf, wpI, wpAnd, wpOr, ofE, truthOf, asgW, asgWs, tgLen, List.getElem?_cons_zero, List.getElem?_cons_succ, List.set_cons_zero, List.set_cons_succ, ixC, ixL, setC, bopW, addW, subW, mulW, fdivW, modW, powW, negW, bfW, cmpC, eqC, ltC, leC, isC, inC, truC, slC, itemsL, tyName, fldC, up_same, atI_0, atI_1, atI_2, atI_3, atI_4, atI_5, ixN_0, ixN_1, ixN_2, ixN_3, wpSs_nil, wipeE, true_and, and_true, if_true, Bool.false_eq_true, if_false, Bool.not_true, Bool.not_false, decide_true, decide_false, tyIn1, tyIn2, tyIn3, tyIn4, tyIn5, isT_int_int, isT_int_str, isT_int_bool, isT_int_tuple, isT_int_list, isT_str_int, isT_str_str, isT_str_bool, isT_str_tuple, isT_str_list, isT_tuple_int, isT_tuple_str, isT_tuple_bool, isT_tuple_tuple, isT_tuple_list, isT_bool_int, isT_bool_str, isT_bool_bool, isT_bool_tuple, isT_bool_list])
        refine ⟨wide_mul (a := 64) (b := 64) (by omega) (by decide) (by decide) (by decide) (by decide), wide_mul (a := 64) (b := 64) (by omega) (by decide) (by decide) (by decide) (by decide), by decide, ?_⟩
        have m0 := Int.emod_nonneg ((cell + 1) * 48271 + (c + 1) * 69621) (show (2147483647 : Int) ≠ 0 by decide)
        have m1 := Int.emod_lt_of_pos ((cell + 1) * 48271 + (c + 1) * 69621) (show (0 : Int) < 2147483647 by decide)
        generalize ((cell + 1) * 48271 + (c + 1) * 69621) % 2147483647 = m at m0 m1
        (rw [wpSs_cons]; simp only [wpS, wp, wpEs, wpO, wpIf, wpI, wpAnd, wpOr, ofE, truthOf, asgW, asgWs, tgLen, List.getElem?_cons_zero, List.getElem?_cons_succ, List.set_cons_zero, List.set_cons_succ, ixC, ixL, setC, bopW, addW, subW, mulW, fdivW, modW, powW, negW, bfW, cmpC, eqC, ltC, leC, isC, inC, truC, slC, itemsL, tyName, fldC, up_same, atI_0, atI_1, atI_2, atI_3, atI_4, atI_5, ixN_0, ixN_1, ixN_2, ixN_3, wpSs_nil, wipeE, true_and, and_true, if_true, Bool.false_eq_true, if_false, Bool.not_true, Bool.not_false, decide_true, decide_false, tyIn1, tyIn2, tyIn3, tyIn4, tyIn5, isT_int_int, isT_int_str, isT_int_bool, isT_int_tuple, isT_int_list, isT_str_int, isT_str_str, isT_str_bool, isT_str_tuple, isT_str_list, isT_tuple_int, isT_tuple_str, isT_tuple_bool, isT_tuple_tuple, isT_tuple_list, isT_bool_int, isT_bool_str, isT_bool_bool, isT_bool_tuple, isT_bool_list])
        refine ⟨wide_mul (a := 64) (b := 64) (by omega) (by decide) (by decide) (by decide) (by decide), ⟨by decide, by decide +kernel⟩, by decide, ?_⟩
        (rw [wpSs_cons]; simp only [wpS, wp, wpEs, wpO, wpIf, wpI, wpAnd, wpOr, ofE, truthOf, asgW, asgWs, tgLen, List.getElem?_cons_zero, List.getElem?_cons_succ, List.set_cons_zero, List.set_cons_succ, ixC, ixL, setC, bopW, addW, subW, mulW, fdivW, modW, powW, negW, bfW, cmpC, eqC, ltC, leC, isC, inC, truC, slC, itemsL, tyName, fldC, up_same, atI_0, atI_1, atI_2, atI_3, atI_4, atI_5, ixN_0, ixN_1, ixN_2, ixN_3, wpSs_nil, wipeE, true_and, and_true, if_true, Bool.false_eq_true, if_false, Bool.not_true, Bool.not_false, decide_true, decide_false, tyIn1, tyIn2, tyIn3, tyIn4, tyIn5, isT_int_int, isT_int_str, isT_int_bool, isT_int_tuple, isT_int_list, isT_str_int, isT_str_str, isT_str_bool, isT_str_tuple, isT_str_list, isT_tuple_int, isT_tuple_str, isT_tuple_bool, isT_tuple_tuple, isT_tuple_list, isT_bool_int, isT_bool_str, isT_bool_bool, isT_bool_tuple, isT_bool_list])
        refine ⟨⟨by decide, by decide +kernel⟩, hm, fin _ (i + 1) h _ up_same (Int.emod_nonneg _ (by omega)) (Int.emod_lt_of_pos _ hm) ((Gr.up (by simp)).trans (Gr.up (by simp))) ?_⟩
        rw [up_ne hba, up_ne hba]; exact hb
    (rw [wpSs_cons]; simp only [wpS, wp, wpEs, wpO, wpIf, wpI, wpAnd, wpOr, ofE, truthOf, asgW, asgWs, tgLen, List.getElem?_cons_zero, List.getElem?_cons_succ, List.set_cons_zero, List.set_cons_succ, ixC, ixL, setC, bopW, addW, subW, mulW, fdivW, modW, powW, negW, bfW, cmpC, eqC, ltC, leC, isC, inC, truC, slC, itemsL, tyName, fldC, up_same, atI_0, atI_1, atI_2, atI_3, atI_4, atI_5, ixN_0, ixN_1, ixN_2, ixN_3, wpSs_nil, wipeE, true_and, and_true, if_true, Bool.false_eq_true, if_false, Bool.not_true, Bool.not_false, decide_true, decide_false, tyIn1, tyIn2, tyIn3, tyIn4, tyIn5, isT_int_int, isT_int_str, isT_int_bool, isT_int_tuple, isT_int_list, isT_str_int, isT_str_str, isT_str_bool, isT_str_tuple, isT_str_list, isT_tuple_int, isT_tuple_str, isT_tuple_bool, isT_tuple_tuple, isT_tuple_list, isT_bool_int, isT_bool_str, isT_bool_bool, isT_bool_tuple, isT_bool_list, ha, up_ne hba, hb, List.length_map])
    split
    · rename_i hl
      rw [decide_eq_true_eq] at hl
      have j0 := Int.emod_nonneg i (show (ns.length : Int) ≠ 0 by omega)
      have j1 := Int.emod_lt_of_pos i hl
      (rw [wpSs_cons]; simp only [wpS, wp, wpEs, wpO, wpIf, wpI, wpAnd, wpOr, ofE, truthOf, asgW, asgWs, tgLen, List.getElem?_cons_zero, List.getElem?_cons_succ, List.set_cons_zero, List.set_cons_succ, ixC, ixL, setC, bopW, addW, subW, mulW, fdivW, modW, powW, negW, bfW, cmpC, eqC, ltC, leC, isC, inC, truC, slC, itemsL, tyName, fldC, up_same, atI_0, atI_1, atI_2, atI_3, atI_4, atI_5, ixN_0, ixN_1, ixN_2, ixN_3, wpSs_nil, wipeE, true_and, and_true, if_true, Bool.false_eq_true, if_false, Bool.not_true, Bool.not_false, decide_true, decide_false, tyIn1, tyIn2, tyIn3, tyIn4, tyIn5, isT_int_int, isT_int_str, isT_int_bool, isT_int_tuple, isT_int_list, isT_str_int, isT_str_str, isT_str_bool, isT_str_tuple, isT_str_list, isT_tuple_int, isT_tuple_str, isT_tuple_bool, isT_tuple_tuple, isT_tuple_list, isT_bool_int, isT_bool_str, isT_bool_bool, isT_bool_tuple, isT_bool_list, ha, up_ne hba, hb, List.length_map])
      refine ⟨hl, ?_⟩
      rw [atI_in j0 (by rw [List.length_map]; exact j1), List.getElem_map]
      exact tail _ (by split <;> omega)
    · exact tail 0 (by decide)

theorem form_body2 {k : Nat} {S : Sto} {c : Int} {P : D} {ps : Ps} {Q : PK D} (hw : Wkd P S (ps.map encP)) (hl : (sums ps).length < 64) (hl2 : ps.length ≤ 1000) (hQ : ∀ S1, Gr [] S S1 → Q (formD (formF c ps)) S1) :
    wpSs (gk k) f_form.body (enR Q) [some (.int c), some P, none, none, none] S := by
  unfold f_form
  (rw [wpSs_cons]; simp only [wpS, wp, wpEs, wpO, wpIf, wpI, wpAnd, wpOr, ofE, truthOf, asgW, asgWs, tgLen, List.getElem?_cons_zero, List.getElem?_cons_succ, List.set_cons_zero, List.set_cons_succ, ixC, ixL, setC, bopW, addW, subW, mulW, fdivW, modW, powW, negW, bfW, cmpC, eqC, ltC, leC, isC, inC, truC, slC, itemsL, tyName, fldC, up_same, atI_0, atI_1, atI_2, atI_3, atI_4, atI_5, ixN_0, ixN_1, ixN_2, ixN_3, wpSs_nil, wipeE, true_and, and_true, if_true, Bool.false_eq_true, if_false, Bool.not_true, Bool.not_false, decide_true, decide_false, tyIn1, tyIn2, tyIn3, tyIn4, tyIn5, isT_int_int, isT_int_str, isT_int_bool, isT_int_tuple, isT_int_list, isT_str_int, isT_str_str, isT_str_bool, isT_str_tuple, isT_str_list, isT_tuple_int, isT_tuple_str, isT_tuple_bool, isT_tuple_tuple, isT_tuple_list, isT_bool_int, isT_bool_str, isT_bool_bool, isT_bool_tuple, isT_bool_list])
  intro p hp
  (rw [wpSs_cons]; simp only [wpS, wp, wpEs, wpO, wpIf, wpI, wpAnd, wpOr, ofE, truthOf, asgW, asgWs, tgLen, List.getElem?_cons_zero, List.getElem?_cons_succ, List.set_cons_zero, List.set_cons_succ, ixC, ixL, setC, bopW, addW, subW, mulW, fdivW, modW, powW, negW, bfW, cmpC, eqC, ltC, leC, isC, inC, truC, slC, itemsL, tyName, fldC, up_same, atI_0, atI_1, atI_2, atI_3, atI_4, atI_5, ixN_0, ixN_1, ixN_2, ixN_3, wpSs_nil, wipeE, true_and, and_true, if_true, Bool.false_eq_true, if_false, Bool.not_true, Bool.not_false, decide_true, decide_false, tyIn1, tyIn2, tyIn3, tyIn4, tyIn5, isT_int_int, isT_int_str, isT_int_bool, isT_int_tuple, isT_int_list, isT_str_int, isT_str_str, isT_str_bool, isT_str_tuple, isT_str_list, isT_tuple_int, isT_tuple_str, isT_tuple_bool, isT_tuple_tuple, isT_tuple_list, isT_bool_int, isT_bool_str, isT_bool_bool, isT_bool_tuple, isT_bool_list])
  refine walk_of hw (.new hp) fun chk hc => ?_
  refine pre_loop encP (fun pre ρ S1 => (∃ x y, ρ = [some (.int c), some P, some (.ref p), x, y]) ∧ S1 p = some (.dic (dicE (sums pre))) ∧ Gr [] S S1) ps ?_ ?_ ⟨⟨_, _, rfl⟩, up_same, .new hp⟩
  · rintro pre ⟨x, v⟩ post e ρ S1 K ⟨⟨x0, y0, rfl⟩, h2, g⟩ hK
    refine ⟨hc _ g, ?_⟩
    unfold encP
    simp only [wpS, wp, wpEs, wpO, wpIf, wpI, wpAnd, wpOr, ofE, truthOf, asgW, asgWs, tgLen, List.getElem?_cons_zero, List.getElem?_cons_succ, List.set_cons_zero, List.set_cons_succ, ixC, ixL, setC, bopW, addW, subW, mulW, fdivW, modW, powW, negW, bfW, cmpC, eqC, ltC, leC, isC, inC, truC, slC, itemsL, tyName, fldC, up_same, atI_0, atI_1, atI_2, atI_3, atI_4, atI_5, ixN_0, ixN_1, ixN_2, ixN_3, wpSs_nil, wipeE, true_and, and_true, if_true, Bool.false_eq_true, if_false, Bool.not_true, Bool.not_false, decide_true, decide_false, tyIn1, tyIn2, tyIn3, tyIn4, tyIn5, isT_int_int, isT_int_str, isT_int_bool, isT_int_tuple, isT_int_list, isT_str_int, isT_str_str, isT_str_bool, isT_str_tuple, isT_str_list, isT_tuple_int, isT_tuple_str, isT_tuple_bool, isT_tuple_tuple, isT_tuple_list, isT_bool_int, isT_bool_str, isT_bool_bool, isT_bool_tuple, isT_bool_list, wpSs_cons, rcv, bmT, bmW, h2, keyOf, get_dicE, putD_dicE]
    refine ⟨rfl, ?_⟩
    have hsl := sums_length pre
    have : pre.length < 1001 := by have := congrArg List.length e; simp at this; omega
    refine ⟨by unfold dicE; rw [List.length_map]; have : sizeLine = 2 ^ 24 := rfl; omega, hK _ _ ⟨⟨_, _, rfl⟩, ?_, g.set hp⟩⟩
    rw [up_same, sums_snoc] <;> rfl
  · rintro ρ S1 ⟨⟨x0, y0, rfl⟩, h2, g⟩
    refine ⟨hc _ g, ?_⟩
    (rw [wpSs_cons]; simp only [wpS, wp, wpEs, wpO, wpIf, wpI, wpAnd, wpOr, ofE, truthOf, asgW, asgWs, tgLen, List.getElem?_cons_zero, List.getElem?_cons_succ, List.set_cons_zero, List.set_cons_succ, ixC, ixL, setC, bopW, addW, subW, mulW, fdivW, modW, powW, negW, bfW, cmpC, eqC, ltC, leC, isC, inC, truC, slC, itemsL, tyName, fldC, up_same, atI_0, atI_1, atI_2, atI_3, atI_4, atI_5, ixN_0, ixN_1, ixN_2, ixN_3, wpSs_nil, wipeE, true_and, and_true, if_true, Bool.false_eq_true, if_false, Bool.not_true, Bool.not_false, decide_true, decide_false, tyIn1, tyIn2, tyIn3, tyIn4, tyIn5, isT_int_int, isT_int_str, isT_int_bool, isT_int_tuple, isT_int_list, isT_str_int, isT_str_str, isT_str_bool, isT_str_tuple, isT_str_list, isT_tuple_int, isT_tuple_str, isT_tuple_bool, isT_tuple_tuple, isT_tuple_list, isT_bool_int, isT_bool_str, isT_bool_bool, isT_bool_tuple, isT_bool_list, h2, strKeys_dicE])
    have hsl := sums_length ps
    refine ⟨by rw [List.length_map]; exact hl, fun q hq => ?_⟩
    have hpq : p ≠ q := by rintro rfl; rw [h2] at hq; cases hq
    have h2' : up S1 q (.lst ((sortStr ((sums ps).map fun x => x.1)).map D.str)) p = some (.dic (dicE (sums ps))) := by rw [up_ne hpq]; exact h2
    have hsl2 : (sortStr ((sums ps).map fun x => x.1)).length ≤ ps.length := by rw [(sortStr_perm _).length_eq, List.length_map]; exact hsl
    have hsz : sizeLine = 2 ^ 24 := rfl
    refine walk_of (ds := (sortStr ((sums ps).map fun x => x.1)).map D.str) (.inr ⟨q, rfl, up_same⟩) .refl fun chk2 hc2 => ?_
    refine lc_fm D.str (fun x => if getA (sums ps) x ≠ 0 then some (encP (x, getA (sums ps) x)) else none) (hc2 _ .refl) _ [] ?_ (by simp; omega) ?_
    · intro x hx K hK
      have hm := find_mem ((sortStr_perm _).mem_iff.mp hx)
      simp only [wpS, wp, wpEs, wpO, wpIf, wpI, wpAnd, wpOr, ofE, truthOf, asgW, asgWs, tgLen, List.getElem?_cons_zero, List.getElem?_cons_succ, List.set_cons_zero, List.set_cons_succ, ixC, ixL, setC, bopW, addW, subW, mulW, fdivW, modW, powW, negW, bfW, cmpC, eqC, ltC, leC, isC, inC, truC, slC, itemsL, tyName, fldC, up_same, atI_0, atI_1, atI_2, atI_3, atI_4, atI_5, ixN_0, ixN_1, ixN_2, ixN_3, wpSs_nil, wipeE, true_and, and_true, if_true, Bool.false_eq_true, if_false, Bool.not_true, Bool.not_false, decide_true, decide_false, tyIn1, tyIn2, tyIn3, tyIn4, tyIn5, isT_int_int, isT_int_str, isT_int_bool, isT_int_tuple, isT_int_list, isT_str_int, isT_str_str, isT_str_bool, isT_str_tuple, isT_str_list, isT_tuple_int, isT_tuple_str, isT_tuple_bool, isT_tuple_tuple, isT_tuple_list, isT_bool_int, isT_bool_str, isT_bool_bool, isT_bool_tuple, isT_bool_list, h2', keyOf, hm]
      by_cases h0 : getA (sums ps) x = 0
      · rw [if_neg (by simpa using h0)] at hK
        rw [if_neg (by simp [h0])]
        exact hK
      · rw [if_pos h0] at hK
        rw [if_pos (by simp [h0])]
        exact ⟨by simp [hsz], hK⟩
    · intro r hr
      refine ⟨by simp [hsz], ret_ok ?_⟩
      have hf : ([] ++ (sortStr ((sums ps).map fun x => x.1)).filterMap fun x => if getA (sums ps) x ≠ 0 then some (encP (x, getA (sums ps) x)) else none) = (formF c ps).2.map encP := by
        unfold formF
        rw [List.nil_append, List.map_filterMap]
        congr 1
        funext x
        split <;> rfl
      rw [hf]
      exact hQ _ ((g.new' hq).new' hr)
theorem form_w {k : Nat} {S : Sto} {c : Int} {P : D} {ps : Ps} {Q : PK D} (hw : Wkd P S (ps.map encP)) (hl : (sums ps).length < 64) (hl2 : ps.length ≤ 1000) (hQ : ∀ S1, Gr [] S S1 → Q (formD (formF c ps)) S1) : cl (k + 1) "form" [.int c, P] S Q :=
  cl_run (d := f_form) rfl ⟨rfl, form_body2 hw hl hl2 hQ⟩
theorem lform_w {k : Nat} {S : Sto} {c : Int} {P : D} {ps : Ps} {Q : PK D} (hw : Wkd P S (ps.map encP)) (hl : (sums ps).length < 64) (hl2 : ps.length ≤ 1000) (hQ : ∀ S1, Gr [] S S1 → Q (formD (formF c ps)) S1) : cl (k + 1) "_law_form" [.int c, P] S Q :=
  cl_run (d := f__law_form) rfl ⟨rfl, form_body2 hw hl hl2 hQ⟩

theorem start_w {k : Nat} {ns : List Int} {S : Sto} {Q : PK D} (hQ : ∀ a b S1, Sc a b ns 0 S1 → Gr [] S S1 → Q (.ref a) S1) : cl (k + 1) "_law_start" [.scr ns] S Q := by
  refine cl_run (d := f__law_start) rfl ⟨rfl, ?_⟩
  show wpSs (gk k) _ (enR Q) [some (.scr ns)] S
  unfold f__law_start
  (rw [wpSs_cons]; simp only [wpS, wp, wpEs, wpO, wpIf, wpI, wpAnd, wpOr, ofE, truthOf, asgW, asgWs, tgLen, List.getElem?_cons_zero, List.getElem?_cons_succ, List.set_cons_zero, List.set_cons_succ, ixC, ixL, setC, bopW, addW, subW, mulW, fdivW, modW, powW, negW, bfW, cmpC, eqC, ltC, leC, isC, inC, truC, slC, itemsL, tyName, fldC, up_same, atI_0, atI_1, atI_2, atI_3, atI_4, atI_5, ixN_0, ixN_1, ixN_2, ixN_3, wpSs_nil, wipeE, true_and, and_true, if_true, Bool.false_eq_true, if_false, Bool.not_true, Bool.not_false, decide_true, decide_false, tyIn1, tyIn2, tyIn3, tyIn4, tyIn5, isT_int_int, isT_int_str, isT_int_bool, isT_int_tuple, isT_int_list, isT_str_int, isT_str_str, isT_str_bool, isT_str_tuple, isT_str_list, isT_tuple_int, isT_tuple_str, isT_tuple_bool, isT_tuple_tuple, isT_tuple_list, isT_bool_int, isT_bool_str, isT_bool_bool, isT_bool_tuple, isT_bool_list])
  intro p hp
  refine ⟨by show 4 ≤ sizeLine; decide, fun q hq => ret_ok (hQ q p _ ⟨?_, ?_, 0, 0, 0, up_same, by omega, by omega⟩ ((Gr.new hp).trans (.new hq)))⟩
  · rintro rfl
    rw [up_same] at hq; cases hq
  · have : p ≠ q := by
      rintro rfl
      rw [up_same] at hq; cases hq
    rw [up_ne this, up_same]

theorem Gr.of_new {a p : Addr} {S S1 : Sto} {o : O} (hp : S p = none) (g : Gr [a] (Z.up S p o) S1) : Gr [a] S S1 := (Gr.new hp).trans g
theorem Sc.ne {a b q : Addr} {ns : List Int} {n : Nat} {S : Sto} (h : Sc a b ns n S) (hq : S q = none) : q ≠ a := by
  obtain ⟨_, _, i, h, c, ha, _⟩ := h
  rintro rfl
  rw [ha] at hq; cases hq
theorem signed_w {k : Nat} {a b : Addr} {ns : List Int} {n : Nat} {S : Sto} {most : Int} {Q : PK D} (hn : n < 2 ^ 60) (h0 : 0 ≤ most) (h1 : most ≤ 2 ^ 20) (hs : Sc a b ns n S) (hQ : ∀ (v : Int) S1, -most ≤ v → v ≤ most → Gr [a] S S1 → Sc a b ns (n + 1) S1 → Q (.int v) S1) : cl (k + 2) "_law_signed" [.ref a, .int most] S Q := by
  refine cl_run (d := f__law_signed) rfl ⟨rfl, ?_⟩
  show wpSs (gk (k + 1)) _ (enR Q) [some (.ref a), some (.int most)] S
  unfold f__law_signed
  (rw [wpSs_cons]; simp only [wpS, wp, wpEs, wpO, wpIf, wpI, wpAnd, wpOr, ofE, truthOf, asgW, asgWs, tgLen, List.getElem?_cons_zero, List.getElem?_cons_succ, List.set_cons_zero, List.set_cons_succ, ixC, ixL, setC, bopW, addW, subW, mulW, fdivW, modW, powW, negW, bfW, cmpC, eqC, ltC, leC, isC, inC, truC, slC, itemsL, tyName, fldC, up_same, atI_0, atI_1, atI_2, atI_3, atI_4, atI_5, ixN_0, ixN_1, ixN_2, ixN_3, wpSs_nil, wipeE, true_and, and_true, if_true, Bool.false_eq_true, if_false, Bool.not_true, Bool.not_false, decide_true, decide_false, tyIn1, tyIn2, tyIn3, tyIn4, tyIn5, isT_int_int, isT_int_str, isT_int_bool, isT_int_tuple, isT_int_list, isT_str_int, isT_str_str, isT_str_bool, isT_str_tuple, isT_str_list, isT_tuple_int, isT_tuple_str, isT_tuple_bool, isT_tuple_tuple, isT_tuple_list, isT_bool_int, isT_bool_str, isT_bool_bool, isT_bool_tuple, isT_bool_list])
  refine ⟨wide_mul (a := 64) (b := 64) (by decide) (by omega) (by decide) (by decide) (by decide), ?_⟩
  refine draw_w hn (by omega) (by omega) hs fun v S1 v0 v1 g1 s1 => ?_
  simp only [wpS, wp, wpEs, wpO, wpIf, wpI, wpAnd, wpOr, ofE, truthOf, asgW, asgWs, tgLen, List.getElem?_cons_zero, List.getElem?_cons_succ, List.set_cons_zero, List.set_cons_succ, ixC, ixL, setC, bopW, addW, subW, mulW, fdivW, modW, powW, negW, bfW, cmpC, eqC, ltC, leC, isC, inC, truC, slC, itemsL, tyName, fldC, up_same, atI_0, atI_1, atI_2, atI_3, atI_4, atI_5, ixN_0, ixN_1, ixN_2, ixN_3, wpSs_nil, wipeE, true_and, and_true, if_true, Bool.false_eq_true, if_false, Bool.not_true, Bool.not_false, decide_true, decide_false, tyIn1, tyIn2, tyIn3, tyIn4, tyIn5, isT_int_int, isT_int_str, isT_int_bool, isT_int_tuple, isT_int_list, isT_str_int, isT_str_str, isT_str_bool, isT_str_tuple, isT_str_list, isT_tuple_int, isT_tuple_str, isT_tuple_bool, isT_tuple_tuple, isT_tuple_list, isT_bool_int, isT_bool_str, isT_bool_bool, isT_bool_tuple, isT_bool_list]
  exact ret_ok (hQ _ _ (by omega) (by omega) g1 s1)
theorem number_w {k : Nat} {a b : Addr} {ns : List Int} {n : Nat} {S : Sto} {Q : PK D} (hn : n + 20 < 2 ^ 60) (hs : Sc a b ns n S) (hQ : ∀ (v : Int) S1, v.natAbs ≤ 10 ^ 44 → Gr [a] S S1 → Sc a b ns (n + 3) S1 → Q (.int v) S1) : cl (k + 3) "_law_number" [.ref a] S Q := by
  refine cl_run (d := f__law_number) rfl ⟨rfl, ?_⟩
  show wpSs (gk (k + 2)) _ (enR Q) [some (.ref a)] S
  unfold f__law_number
  have e40 : (10 : Int) ^ (40 : Int).toNat = 10 ^ 40 := rfl
  (rw [wpSs_cons]; simp only [wpS, wp, wpEs, wpO, wpIf, wpI, wpAnd, wpOr, ofE, truthOf, asgW, asgWs, tgLen, List.getElem?_cons_zero, List.getElem?_cons_succ, List.set_cons_zero, List.set_cons_succ, ixC, ixL, setC, bopW, addW, subW, mulW, fdivW, modW, powW, negW, bfW, cmpC, eqC, ltC, leC, isC, inC, truC, slC, itemsL, tyName, fldC, up_same, atI_0, atI_1, atI_2, atI_3, atI_4, atI_5, ixN_0, ixN_1, ixN_2, ixN_3, wpSs_nil, wipeE, true_and, and_true, if_true, Bool.false_eq_true, if_false, Bool.not_true, Bool.not_false, decide_true, decide_false, tyIn1, tyIn2, tyIn3, tyIn4, tyIn5, isT_int_int, isT_int_str, isT_int_bool, isT_int_tuple, isT_int_list, isT_str_int, isT_str_str, isT_str_bool, isT_str_tuple, isT_str_list, isT_tuple_int, isT_tuple_str, isT_tuple_bool, isT_tuple_tuple, isT_tuple_list, isT_bool_int, isT_bool_str, isT_bool_bool, isT_bool_tuple, isT_bool_list])
  refine draw_w (by omega) (by decide) (by decide) hs fun v S1 v0 v1 g1 s1 => ?_
  simp only [wpS, wp, wpEs, wpO, wpIf, wpI, wpAnd, wpOr, ofE, truthOf, asgW, asgWs, tgLen, List.getElem?_cons_zero, List.getElem?_cons_succ, List.set_cons_zero, List.set_cons_succ, ixC, ixL, setC, bopW, addW, subW, mulW, fdivW, modW, powW, negW, bfW, cmpC, eqC, ltC, leC, isC, inC, truC, slC, itemsL, tyName, fldC, up_same, atI_0, atI_1, atI_2, atI_3, atI_4, atI_5, ixN_0, ixN_1, ixN_2, ixN_3, wpSs_nil, wipeE, true_and, and_true, if_true, Bool.false_eq_true, if_false, Bool.not_true, Bool.not_false, decide_true, decide_false, tyIn1, tyIn2, tyIn3, tyIn4, tyIn5, isT_int_int, isT_int_str, isT_int_bool, isT_int_tuple, isT_int_list, isT_str_int, isT_str_str, isT_str_bool, isT_str_tuple, isT_str_list, isT_tuple_int, isT_tuple_str, isT_tuple_bool, isT_tuple_tuple, isT_tuple_list, isT_bool_int, isT_bool_str, isT_bool_bool, isT_bool_tuple, isT_bool_list]
  split
  · (rw [wpSs_cons]; simp only [wpS, wp, wpEs, wpO, wpIf, wpI, wpAnd, wpOr, ofE, truthOf, asgW, asgWs, tgLen, List.getElem?_cons_zero, List.getElem?_cons_succ, List.set_cons_zero, List.set_cons_succ, ixC, ixL, setC, bopW, addW, subW, mulW, fdivW, modW, powW, negW, bfW, cmpC, eqC, ltC, leC, isC, inC, truC, slC, itemsL, tyName, fldC, up_same, atI_0, atI_1, atI_2, atI_3, atI_4, atI_5, ixN_0, ixN_1, ixN_2, ixN_3, wpSs_nil, wipeE, true_and, and_true, if_true, Bool.false_eq_true, if_false, Bool.not_true, Bool.not_false, decide_true, decide_false, tyIn1, tyIn2, tyIn3, tyIn4, tyIn5, isT_int_int, isT_int_str, isT_int_bool, isT_int_tuple, isT_int_list, isT_str_int, isT_str_str, isT_str_bool, isT_str_tuple, isT_str_list, isT_tuple_int, isT_tuple_str, isT_tuple_bool, isT_tuple_tuple, isT_tuple_list, isT_bool_int, isT_bool_str, isT_bool_bool, isT_bool_tuple, isT_bool_list])
    refine signed_w (by omega) (by decide) (by decide) s1 fun w S2 w0 w1 g2 s2 => ?_
    simp only [wpS, wp, wpEs, wpO, wpIf, wpI, wpAnd, wpOr, ofE, truthOf, asgW, asgWs, tgLen, List.getElem?_cons_zero, List.getElem?_cons_succ, List.set_cons_zero, List.set_cons_succ, ixC, ixL, setC, bopW, addW, subW, mulW, fdivW, modW, powW, negW, bfW, cmpC, eqC, ltC, leC, isC, inC, truC, slC, itemsL, tyName, fldC, up_same, atI_0, atI_1, atI_2, atI_3, atI_4, atI_5, ixN_0, ixN_1, ixN_2, ixN_3, wpSs_nil, wipeE, true_and, and_true, if_true, Bool.false_eq_true, if_false, Bool.not_true, Bool.not_false, decide_true, decide_false, tyIn1, tyIn2, tyIn3, tyIn4, tyIn5, isT_int_int, isT_int_str, isT_int_bool, isT_int_tuple, isT_int_list, isT_str_int, isT_str_str, isT_str_bool, isT_str_tuple, isT_str_list, isT_tuple_int, isT_tuple_str, isT_tuple_bool, isT_tuple_tuple, isT_tuple_list, isT_bool_int, isT_bool_str, isT_bool_bool, isT_bool_tuple, isT_bool_list, e40]
    refine ⟨⟨by decide, by decide, by decide⟩, wide_mul (a := 64) (b := 200) (by omega) (by decide) (by decide) (by decide) (by decide), ?_⟩
    refine signed_w (by omega) (by decide) (by decide) s2 fun z S3 z0 z1 g3 s3 => ?_
    simp only [wpS, wp, wpEs, wpO, wpIf, wpI, wpAnd, wpOr, ofE, truthOf, asgW, asgWs, tgLen, List.getElem?_cons_zero, List.getElem?_cons_succ, List.set_cons_zero, List.set_cons_succ, ixC, ixL, setC, bopW, addW, subW, mulW, fdivW, modW, powW, negW, bfW, cmpC, eqC, ltC, leC, isC, inC, truC, slC, itemsL, tyName, fldC, up_same, atI_0, atI_1, atI_2, atI_3, atI_4, atI_5, ixN_0, ixN_1, ixN_2, ixN_3, wpSs_nil, wipeE, true_and, and_true, if_true, Bool.false_eq_true, if_false, Bool.not_true, Bool.not_false, decide_true, decide_false, tyIn1, tyIn2, tyIn3, tyIn4, tyIn5, isT_int_int, isT_int_str, isT_int_bool, isT_int_tuple, isT_int_list, isT_str_int, isT_str_str, isT_str_bool, isT_str_tuple, isT_str_list, isT_tuple_int, isT_tuple_str, isT_tuple_bool, isT_tuple_tuple, isT_tuple_list, isT_bool_int, isT_bool_str, isT_bool_bool, isT_bool_tuple, isT_bool_list]
    refine ret_ok (hQ _ _ ?_ ((g1.trans g2).trans g3) s3)
    have e1 : (10 : Int) ^ 40 = 10000000000000000000000000000000000000000 := by decide
    have e2 : (10 : Nat) ^ 44 = 100000000000000000000000000000000000000000000 := by decide
    rw [e1, e2]
    omega
  · (rw [wpSs_cons]; simp only [wpS, wp, wpEs, wpO, wpIf, wpI, wpAnd, wpOr, ofE, truthOf, asgW, asgWs, tgLen, List.getElem?_cons_zero, List.getElem?_cons_succ, List.set_cons_zero, List.set_cons_succ, ixC, ixL, setC, bopW, addW, subW, mulW, fdivW, modW, powW, negW, bfW, cmpC, eqC, ltC, leC, isC, inC, truC, slC, itemsL, tyName, fldC, up_same, atI_0, atI_1, atI_2, atI_3, atI_4, atI_5, ixN_0, ixN_1, ixN_2, ixN_3, wpSs_nil, wipeE, true_and, and_true, if_true, Bool.false_eq_true, if_false, Bool.not_true, Bool.not_false, decide_true, decide_false, tyIn1, tyIn2, tyIn3, tyIn4, tyIn5, isT_int_int, isT_int_str, isT_int_bool, isT_int_tuple, isT_int_list, isT_str_int, isT_str_str, isT_str_bool, isT_str_tuple, isT_str_list, isT_tuple_int, isT_tuple_str, isT_tuple_bool, isT_tuple_tuple, isT_tuple_list, isT_bool_int, isT_bool_str, isT_bool_bool, isT_bool_tuple, isT_bool_list])
    refine signed_w (by omega) (by decide) (by decide) s1 fun w S2 w0 w1 g2 s2 => ?_
    refine ret_ok (hQ _ _ ?_ (g1.trans g2) (s2.mono (by omega)))
    have e2 : (10 : Nat) ^ 44 = 100000000000000000000000000000000000000000000 := by decide
    rw [e2]
    omega

theorem name_w {k : Nat} {a b : Addr} {ns : List Int} {n : Nat} {S : Sto} {Q : PK D} (hn : n + 20 < 2 ^ 60) (hs : Sc a b ns n S) (hQ : ∀ (x : Str) S1, 1 ≤ x.length → x.length ≤ 3 → Gr [a] S S1 → Sc a b ns (n + 4) S1 → Q (.str x) S1) : cl (k + 2) "_law_name" [.ref a] S Q := by
  refine cl_run (d := f__law_name) rfl ⟨rfl, ?_⟩
  show wpSs (gk (k + 1)) _ (enR Q) [some (.ref a), none, none] S
  have hsz : sizeLine = 2 ^ 24 := rfl
  unfold f__law_name
  (rw [wpSs_cons]; simp only [wpS, wp, wpEs, wpO, wpIf, wpI, wpAnd, wpOr, ofE, truthOf, asgW, asgWs, tgLen, List.getElem?_cons_zero, List.getElem?_cons_succ, List.set_cons_zero, List.set_cons_succ, ixC, ixL, setC, bopW, addW, subW, mulW, fdivW, modW, powW, negW, bfW, cmpC, eqC, ltC, leC, isC, inC, truC, slC, itemsL, tyName, fldC, up_same, atI_0, atI_1, atI_2, atI_3, atI_4, atI_5, ixN_0, ixN_1, ixN_2, ixN_3, wpSs_nil, wipeE, true_and, and_true, if_true, Bool.false_eq_true, if_false, Bool.not_true, Bool.not_false, decide_true, decide_false, tyIn1, tyIn2, tyIn3, tyIn4, tyIn5, isT_int_int, isT_int_str, isT_int_bool, isT_int_tuple, isT_int_list, isT_str_int, isT_str_str, isT_str_bool, isT_str_tuple, isT_str_list, isT_tuple_int, isT_tuple_str, isT_tuple_bool, isT_tuple_tuple, isT_tuple_list, isT_bool_int, isT_bool_str, isT_bool_bool, isT_bool_tuple, isT_bool_list])
  (rw [wpSs_cons]; simp only [wpS, wp, wpEs, wpO, wpIf, wpI, wpAnd, wpOr, ofE, truthOf, asgW, asgWs, tgLen, List.getElem?_cons_zero, List.getElem?_cons_succ, List.set_cons_zero, List.set_cons_succ, ixC, ixL, setC, bopW, addW, subW, mulW, fdivW, modW, powW, negW, bfW, cmpC, eqC, ltC, leC, isC, inC, truC, slC, itemsL, tyName, fldC, up_same, atI_0, atI_1, atI_2, atI_3, atI_4, atI_5, ixN_0, ixN_1, ixN_2, ixN_3, wpSs_nil, wipeE, true_and, and_true, if_true, Bool.false_eq_true, if_false, Bool.not_true, Bool.not_false, decide_true, decide_false, tyIn1, tyIn2, tyIn3, tyIn4, tyIn5, isT_int_int, isT_int_str, isT_int_bool, isT_int_tuple, isT_int_list, isT_str_int, isT_str_str, isT_str_bool, isT_str_tuple, isT_str_list, isT_tuple_int, isT_tuple_str, isT_tuple_bool, isT_tuple_tuple, isT_tuple_list, isT_bool_int, isT_bool_str, isT_bool_bool, isT_bool_tuple, isT_bool_list])
  have hz : (Str.ofString "!\"#$&()*+,-./0123456789:;<=>?@ABCDEFGHIJKLMNOPQRSTUVWXYZ[\\]^_`").length ≤ 2 ^ 20 ∧ 0 < (Str.ofString "!\"#$&()*+,-./0123456789:;<=>?@ABCDEFGHIJKLMNOPQRSTUVWXYZ[\\]^_`").length := by decide +kernel
  have hz2 : (Str.ofString "abcdefghijklmnopqrstuvwxyz{|}~").length ≤ 2 ^ 20 := by decide +kernel
  generalize Str.ofString "!\"#$&()*+,-./0123456789:;<=>?@ABCDEFGHIJKLMNOPQRSTUVWXYZ[\\]^_`" = c1 at hz ⊢
  generalize Str.ofString "abcdefghijklmnopqrstuvwxyz{|}~" = c2 at hz2 ⊢
  refine ⟨by omega, ?_⟩
  have hz3 : 0 < (c1 ++ c2).length ∧ (c1 ++ c2).length ≤ 2 ^ 21 := by rw [strLen_app]; omega
  generalize c1 ++ c2 = sg at hz3 ⊢
  (rw [wpSs_cons]; simp only [wpS, wp, wpEs, wpO, wpIf, wpI, wpAnd, wpOr, ofE, truthOf, asgW, asgWs, tgLen, List.getElem?_cons_zero, List.getElem?_cons_succ, List.set_cons_zero, List.set_cons_succ, ixC, ixL, setC, bopW, addW, subW, mulW, fdivW, modW, powW, negW, bfW, cmpC, eqC, ltC, leC, isC, inC, truC, slC, itemsL, tyName, fldC, up_same, atI_0, atI_1, atI_2, atI_3, atI_4, atI_5, ixN_0, ixN_1, ixN_2, ixN_3, wpSs_nil, wipeE, true_and, and_true, if_true, Bool.false_eq_true, if_false, Bool.not_true, Bool.not_false, decide_true, decide_false, tyIn1, tyIn2, tyIn3, tyIn4, tyIn5, isT_int_int, isT_int_str, isT_int_bool, isT_int_tuple, isT_int_list, isT_str_int, isT_str_str, isT_str_bool, isT_str_tuple, isT_str_list, isT_tuple_int, isT_tuple_str, isT_tuple_bool, isT_tuple_tuple, isT_tuple_list, isT_bool_int, isT_bool_str, isT_bool_bool, isT_bool_tuple, isT_bool_list, rcv, bmT])
  refine draw_w (by omega) (by decide) (by decide) hs fun u S2 u0 u1 g2 s2 => ?_
  simp only [wpS, wp, wpEs, wpO, wpIf, wpI, wpAnd, wpOr, ofE, truthOf, asgW, asgWs, tgLen, List.getElem?_cons_zero, List.getElem?_cons_succ, List.set_cons_zero, List.set_cons_succ, ixC, ixL, setC, bopW, addW, subW, mulW, fdivW, modW, powW, negW, bfW, cmpC, eqC, ltC, leC, isC, inC, truC, slC, itemsL, tyName, fldC, up_same, atI_0, atI_1, atI_2, atI_3, atI_4, atI_5, ixN_0, ixN_1, ixN_2, ixN_3, wpSs_nil, wipeE, true_and, and_true, if_true, Bool.false_eq_true, if_false, Bool.not_true, Bool.not_false, decide_true, decide_false, tyIn1, tyIn2, tyIn3, tyIn4, tyIn5, isT_int_int, isT_int_str, isT_int_bool, isT_int_tuple, isT_int_list, isT_str_int, isT_str_str, isT_str_bool, isT_str_tuple, isT_str_list, isT_tuple_int, isT_tuple_str, isT_tuple_bool, isT_tuple_tuple, isT_tuple_list, isT_bool_int, isT_bool_str, isT_bool_bool, isT_bool_tuple, isT_bool_list, rngD]
  refine ⟨⟨by omega, by omega⟩, ?_⟩
  refine pre_lc (fun i : Nat => D.int (0 + (i : Int))) (fun pre acc S3 => (∃ xs : List Str, acc = xs.map D.str ∧ xs.length = pre.length ∧ (xs.map (·.length)).sum = pre.length) ∧ Gr [a] S S3 ∧ Sc a b ns (n + 1 + pre.length) S3) (List.range (1 + u).toNat) (by simp; omega) ?_ ?_ ⟨⟨[], rfl, rfl, rfl⟩, g2, s2⟩
  · rintro pre x post e acc S3 K ⟨⟨xs, rfl, hl, hsum⟩, g3, s3⟩ hK _
    obtain ⟨hx, hpre⟩ := range_mid e
    refine ⟨trivial, ?_⟩
    refine ⟨by omega, ?_⟩
    refine draw_w (by omega) (by omega) (by omega) s3 fun t S4 t0 t1 g4 s4 => ?_
    simp only [wpS, wp, wpEs, wpO, wpIf, wpI, wpAnd, wpOr, ofE, truthOf, asgW, asgWs, tgLen, List.getElem?_cons_zero, List.getElem?_cons_succ, List.set_cons_zero, List.set_cons_succ, ixC, ixL, setC, bopW, addW, subW, mulW, fdivW, modW, powW, negW, bfW, cmpC, eqC, ltC, leC, isC, inC, truC, slC, itemsL, tyName, fldC, up_same, atI_0, atI_1, atI_2, atI_3, atI_4, atI_5, ixN_0, ixN_1, ixN_2, ixN_3, wpSs_nil, wipeE, true_and, and_true, if_true, Bool.false_eq_true, if_false, Bool.not_true, Bool.not_false, decide_true, decide_false, tyIn1, tyIn2, tyIn3, tyIn4, tyIn5, isT_int_int, isT_int_str, isT_int_bool, isT_int_tuple, isT_int_list, isT_str_int, isT_str_str, isT_str_bool, isT_str_tuple, isT_str_list, isT_tuple_int, isT_tuple_str, isT_tuple_bool, isT_tuple_tuple, isT_tuple_list, isT_bool_int, isT_bool_str, isT_bool_bool, isT_bool_tuple, isT_bool_list]
    refine ⟨by omega, ?_⟩
    rw [atI_in t0 (by rw [Array.length_toList]; exact t1)]
    refine hK _ _ ⟨⟨xs ++ [_], by rw [List.map_append]; rfl, by simp [hl], ?_⟩, g3.trans g4, by rw [List.length_append, List.length_singleton]; exact s4.mono (by omega)⟩
    rw [List.map_append, List.sum_append, hsum, List.length_append]
    rfl
  · rintro acc S3 ⟨⟨xs, rfl, hl, hsum⟩, g3, s3⟩
    rw [List.length_range] at s3 hl hsum
    refine ⟨trivial, fun p hp => ?_⟩
    simp only [wpS, wp, wpEs, wpO, wpIf, wpI, wpAnd, wpOr, ofE, truthOf, asgW, asgWs, tgLen, List.getElem?_cons_zero, List.getElem?_cons_succ, List.set_cons_zero, List.set_cons_succ, ixC, ixL, setC, bopW, addW, subW, mulW, fdivW, modW, powW, negW, bfW, cmpC, eqC, ltC, leC, isC, inC, truC, slC, itemsL, tyName, fldC, up_same, atI_0, atI_1, atI_2, atI_3, atI_4, atI_5, ixN_0, ixN_1, ixN_2, ixN_3, wpSs_nil, wipeE, true_and, and_true, if_true, Bool.false_eq_true, if_false, Bool.not_true, Bool.not_false, decide_true, decide_false, tyIn1, tyIn2, tyIn3, tyIn4, tyIn5, isT_int_int, isT_int_str, isT_int_bool, isT_int_tuple, isT_int_list, isT_str_int, isT_str_str, isT_str_bool, isT_str_tuple, isT_str_list, isT_tuple_int, isT_tuple_str, isT_tuple_bool, isT_tuple_tuple, isT_tuple_list, isT_bool_int, isT_bool_str, isT_bool_bool, isT_bool_tuple, isT_bool_list, bmW, strsOf_map]
    have e0 : (Str.ofString "").length = 0 := by decide +kernel
    have e1 : Str.ofString "" = Str.empty := by decide +kernel
    refine ⟨by rw [e0]; omega, ret_ok (hQ _ _ ?_ ?_ (g3.trans (.new hp)) ((s3.new hp).mono (by omega)))⟩ <;> rw [TL.join_eq, e1, joinLen] <;> omega

theorem few_num : ∀ i : Nat, i < 10 → (Str.ofString (toString (i : Int))).length = 1 := by decide +kernel
theorem pool_w {k : Nat} {a b : Addr} {ns : List Int} {n m : Nat} {S : Sto} {Q : PK D} (hn : n + 1000 < 2 ^ 60) (hm : m < 10) (hs : Sc a b ns n S)
    (hQ : ∀ (q : Addr) (nms : List Str) S1, S q = none → S1 q = some (.lst (nms.map D.str)) → nms.length ≤ m → (0 < m → nms ≠ []) → (∀ x ∈ nms, 1 ≤ x.length ∧ x.length ≤ 4) → nms.Nodup → Gr [a] S S1 → Sc a b ns (n + 500) S1 → Q (.ref q) S1) : cl (k + 3) "_law_pool" [.ref a, .int m] S Q := by
  refine cl_run (d := f__law_pool) rfl ⟨rfl, ?_⟩
  show wpSs (gk (k + 2)) _ (enR Q) [some (.ref a), some (.int m), none, none, none, none] S
  have hsz : sizeLine = 2 ^ 24 := rfl
  unfold f__law_pool
  (rw [wpSs_cons]; simp only [wpS, wp, wpEs, wpO, wpIf, wpI, wpAnd, wpOr, ofE, truthOf, asgW, asgWs, tgLen, List.getElem?_cons_zero, List.getElem?_cons_succ, List.set_cons_zero, List.set_cons_succ, ixC, ixL, setC, bopW, addW, subW, mulW, fdivW, modW, powW, negW, bfW, cmpC, eqC, ltC, leC, isC, inC, truC, slC, itemsL, tyName, fldC, up_same, atI_0, atI_1, atI_2, atI_3, atI_4, atI_5, ixN_0, ixN_1, ixN_2, ixN_3, wpSs_nil, wipeE, true_and, and_true, if_true, Bool.false_eq_true, if_false, Bool.not_true, Bool.not_false, decide_true, decide_false, tyIn1, tyIn2, tyIn3, tyIn4, tyIn5, isT_int_int, isT_int_str, isT_int_bool, isT_int_tuple, isT_int_list, isT_str_int, isT_str_str, isT_str_bool, isT_str_tuple, isT_str_list, isT_tuple_int, isT_tuple_str, isT_tuple_bool, isT_tuple_tuple, isT_tuple_list, isT_bool_int, isT_bool_str, isT_bool_bool, isT_bool_tuple, isT_bool_list])
  refine name_w (by omega) hs fun base S1 hb1 hb g1 s1 => ?_
  (rw [wpSs_cons]; simp only [wpS, wp, wpEs, wpO, wpIf, wpI, wpAnd, wpOr, ofE, truthOf, asgW, asgWs, tgLen, List.getElem?_cons_zero, List.getElem?_cons_succ, List.set_cons_zero, List.set_cons_succ, ixC, ixL, setC, bopW, addW, subW, mulW, fdivW, modW, powW, negW, bfW, cmpC, eqC, ltC, leC, isC, inC, truC, slC, itemsL, tyName, fldC, up_same, atI_0, atI_1, atI_2, atI_3, atI_4, atI_5, ixN_0, ixN_1, ixN_2, ixN_3, wpSs_nil, wipeE, true_and, and_true, if_true, Bool.false_eq_true, if_false, Bool.not_true, Bool.not_false, decide_true, decide_false, tyIn1, tyIn2, tyIn3, tyIn4, tyIn5, isT_int_int, isT_int_str, isT_int_bool, isT_int_tuple, isT_int_list, isT_str_int, isT_str_str, isT_str_bool, isT_str_tuple, isT_str_list, isT_tuple_int, isT_tuple_str, isT_tuple_bool, isT_tuple_tuple, isT_tuple_list, isT_bool_int, isT_bool_str, isT_bool_bool, isT_bool_tuple, isT_bool_list])
  refine ⟨by show 0 ≤ sizeLine; decide, fun q hq => ?_⟩
  have hqa := s1.ne hq
  have hqS : S q = none := by
    cases e : S q with
    | none => rfl
    | some o => rw [g1 q o (by simpa using hqa) e] at hq; cases hq
  (rw [wpSs_cons]; simp only [wpS, wp, wpEs, wpO, wpIf, wpI, wpAnd, wpOr, ofE, truthOf, asgW, asgWs, tgLen, List.getElem?_cons_zero, List.getElem?_cons_succ, List.set_cons_zero, List.set_cons_succ, ixC, ixL, setC, bopW, addW, subW, mulW, fdivW, modW, powW, negW, bfW, cmpC, eqC, ltC, leC, isC, inC, truC, slC, itemsL, tyName, fldC, up_same, atI_0, atI_1, atI_2, atI_3, atI_4, atI_5, ixN_0, ixN_1, ixN_2, ixN_3, wpSs_nil, wipeE, true_and, and_true, if_true, Bool.false_eq_true, if_false, Bool.not_true, Bool.not_false, decide_true, decide_false, tyIn1, tyIn2, tyIn3, tyIn4, tyIn5, isT_int_int, isT_int_str, isT_int_bool, isT_int_tuple, isT_int_list, isT_str_int, isT_str_str, isT_str_bool, isT_str_tuple, isT_str_list, isT_tuple_int, isT_tuple_str, isT_tuple_bool, isT_tuple_tuple, isT_tuple_list, isT_bool_int, isT_bool_str, isT_bool_bool, isT_bool_tuple, isT_bool_list, rngD, Int.toNat_natCast])
  refine ⟨⟨by omega, by omega⟩, ?_⟩
  refine pre_loop (fun i : Nat => D.int (0 + (i : Int))) (fun pre ρ S3 => (∃ (x y : Option D), ρ = [some (.ref a), some (.int m), some (.str base), some (.ref q), x, y]) ∧ (∃ nms : List Str, S3 q = some (.lst (nms.map D.str)) ∧ nms.length ≤ pre.length ∧ (0 < pre.length → nms ≠ []) ∧ (∀ x ∈ nms, 1 ≤ x.length ∧ x.length ≤ 4) ∧ nms.Nodup) ∧ Gr [a] S S3 ∧ Sc a b ns (n + 4 + 5 * pre.length) S3) (List.range m) ?_ ?_ ⟨⟨_, _, rfl⟩, ⟨[], up_same, by simp, by simp, by simp, by simp⟩, g1.trans (.new hq), s1.new hq⟩
  · rintro pre x post e ρ S3 K ⟨⟨x0, y0, rfl⟩, ⟨nms, hq3, hl, h0, h6, hnd⟩, g3, s3⟩ hK
    obtain ⟨hx, hpre⟩ := range_mid e
    refine ⟨trivial, ?_⟩
    (rw [wpSs_cons]; simp only [wpS, wp, wpEs, wpO, wpIf, wpI, wpAnd, wpOr, ofE, truthOf, asgW, asgWs, tgLen, List.getElem?_cons_zero, List.getElem?_cons_succ, List.set_cons_zero, List.set_cons_succ, ixC, ixL, setC, bopW, addW, subW, mulW, fdivW, modW, powW, negW, bfW, cmpC, eqC, ltC, leC, isC, inC, truC, slC, itemsL, tyName, fldC, up_same, atI_0, atI_1, atI_2, atI_3, atI_4, atI_5, ixN_0, ixN_1, ixN_2, ixN_3, wpSs_nil, wipeE, true_and, and_true, if_true, Bool.false_eq_true, if_false, Bool.not_true, Bool.not_false, decide_true, decide_false, tyIn1, tyIn2, tyIn3, tyIn4, tyIn5, isT_int_int, isT_int_str, isT_int_bool, isT_int_tuple, isT_int_list, isT_str_int, isT_str_str, isT_str_bool, isT_str_tuple, isT_str_list, isT_tuple_int, isT_tuple_str, isT_tuple_bool, isT_tuple_tuple, isT_tuple_list, isT_bool_int, isT_bool_str, isT_bool_bool, isT_bool_tuple, isT_bool_list])
    have hnum := few_num x (by omega)
    rw [Int.zero_add]
    refine ⟨Nat.lt_of_le_of_lt (Nat.log2_le_self _) (by have : (x : Int).natAbs = x := Int.natAbs_natCast x; omega), by omega, ?_⟩
    refine name_w (by omega) s3 fun nm S4 hnm1 hnm g4 s4 => ?_
    have hat : (Str.ofString "@").length = 1 := by decide +kernel
    refine ⟨by rw [hat]; omega, by show 4 ≤ sizeLine; decide, fun p hp => ?_⟩
    have hpa := s4.ne hp
    have hq4 := g4 q _ (by simpa using hqa) hq3
    have hpq : q ≠ p := by rintro rfl; rw [hq4] at hp; cases hp
    refine draw_w (by omega) (by decide) (by decide) (s4.new hp) fun t S5 t0 t1 g5 s5 => ?_
    have hp5 := g5 p _ (by simpa using hpa) up_same
    have hq5 := g5 q _ (by simpa using hqa) (by rw [up_ne hpq]; exact hq4)
    obtain ⟨d, hd, hdm⟩ := atI_mem (xs := [.str (base ++ Str.ofString (toString (x : Int))), .str nm, .str (Str.ofString "@" ++ base), .str base]) t0 t1
    obtain ⟨z, rfl, hz6⟩ : ∃ z : Str, d = .str z ∧ 1 ≤ z.length ∧ z.length ≤ 4 := by
      simp only [List.mem_cons, List.not_mem_nil, or_false] at hdm
      rcases hdm with rfl | rfl | rfl | rfl
      · exact ⟨_, rfl, by rw [strLen_app]; omega, by rw [strLen_app]; omega⟩
      · exact ⟨_, rfl, by omega, by omega⟩
      · exact ⟨_, rfl, by rw [strLen_app, hat]; omega, by rw [strLen_app, hat]; omega⟩
      · exact ⟨_, rfl, by omega, by omega⟩
    simp only [wpS, wp, wpEs, wpO, wpIf, wpI, wpAnd, wpOr, ofE, truthOf, asgW, asgWs, tgLen, List.getElem?_cons_zero, List.getElem?_cons_succ, List.set_cons_zero, List.set_cons_succ, ixC, ixL, setC, bopW, addW, subW, mulW, fdivW, modW, powW, negW, bfW, cmpC, eqC, ltC, leC, isC, inC, truC, slC, itemsL, tyName, fldC, up_same, atI_0, atI_1, atI_2, atI_3, atI_4, atI_5, ixN_0, ixN_1, ixN_2, ixN_3, wpSs_nil, wipeE, true_and, and_true, if_true, Bool.false_eq_true, if_false, Bool.not_true, Bool.not_false, decide_true, decide_false, tyIn1, tyIn2, tyIn3, tyIn4, tyIn5, isT_int_int, isT_int_str, isT_int_bool, isT_int_tuple, isT_int_list, isT_str_int, isT_str_str, isT_str_bool, isT_str_tuple, isT_str_list, isT_tuple_int, isT_tuple_str, isT_tuple_bool, isT_tuple_tuple, isT_tuple_list, isT_bool_int, isT_bool_str, isT_bool_bool, isT_bool_tuple, isT_bool_list, hp5, hd]
    have g35 : Gr [a] S S5 := g3.trans (g4.trans ((Gr.new hp).trans g5))
    (rw [wpSs_cons]; simp only [wpS, wp, wpEs, wpO, wpIf, wpI, wpAnd, wpOr, ofE, truthOf, asgW, asgWs, tgLen, List.getElem?_cons_zero, List.getElem?_cons_succ, List.set_cons_zero, List.set_cons_succ, ixC, ixL, setC, bopW, addW, subW, mulW, fdivW, modW, powW, negW, bfW, cmpC, eqC, ltC, leC, isC, inC, truC, slC, itemsL, tyName, fldC, up_same, atI_0, atI_1, atI_2, atI_3, atI_4, atI_5, ixN_0, ixN_1, ixN_2, ixN_3, wpSs_nil, wipeE, true_and, and_true, if_true, Bool.false_eq_true, if_false, Bool.not_true, Bool.not_false, decide_true, decide_false, tyIn1, tyIn2, tyIn3, tyIn4, tyIn5, isT_int_int, isT_int_str, isT_int_bool, isT_int_tuple, isT_int_list, isT_str_int, isT_str_str, isT_str_bool, isT_str_tuple, isT_str_list, isT_tuple_int, isT_tuple_str, isT_tuple_bool, isT_tuple_tuple, isT_tuple_list, isT_bool_int, isT_bool_str, isT_bool_bool, isT_bool_tuple, isT_bool_list, hq5])
    refine .inl ⟨rfl, flat_strs _, ?_⟩
    rw [inF_strs]
    by_cases hmem : z ∈ nms
    · rw [decide_eq_true hmem]
      simp only [wpS, wp, wpEs, wpO, wpIf, wpI, wpAnd, wpOr, ofE, truthOf, asgW, asgWs, tgLen, List.getElem?_cons_zero, List.getElem?_cons_succ, List.set_cons_zero, List.set_cons_succ, ixC, ixL, setC, bopW, addW, subW, mulW, fdivW, modW, powW, negW, bfW, cmpC, eqC, ltC, leC, isC, inC, truC, slC, itemsL, tyName, fldC, up_same, atI_0, atI_1, atI_2, atI_3, atI_4, atI_5, ixN_0, ixN_1, ixN_2, ixN_3, wpSs_nil, wipeE, true_and, and_true, if_true, Bool.false_eq_true, if_false, Bool.not_true, Bool.not_false, decide_true, decide_false, tyIn1, tyIn2, tyIn3, tyIn4, tyIn5, isT_int_int, isT_int_str, isT_int_bool, isT_int_tuple, isT_int_list, isT_str_int, isT_str_str, isT_str_bool, isT_str_tuple, isT_str_list, isT_tuple_int, isT_tuple_str, isT_tuple_bool, isT_tuple_tuple, isT_tuple_list, isT_bool_int, isT_bool_str, isT_bool_bool, isT_bool_tuple, isT_bool_list]
      refine hK _ _ ⟨⟨_, _, rfl⟩, ⟨nms, hq5, by simp; omega, fun _ e => by rw [e] at hmem; simp at hmem, h6, hnd⟩, g35, s5.mono (by simp; omega)⟩
    · rw [decide_eq_false hmem]
      simp only [wpS, wp, wpEs, wpO, wpIf, wpI, wpAnd, wpOr, ofE, truthOf, asgW, asgWs, tgLen, List.getElem?_cons_zero, List.getElem?_cons_succ, List.set_cons_zero, List.set_cons_succ, ixC, ixL, setC, bopW, addW, subW, mulW, fdivW, modW, powW, negW, bfW, cmpC, eqC, ltC, leC, isC, inC, truC, slC, itemsL, tyName, fldC, up_same, atI_0, atI_1, atI_2, atI_3, atI_4, atI_5, ixN_0, ixN_1, ixN_2, ixN_3, wpSs_nil, wipeE, true_and, and_true, if_true, Bool.false_eq_true, if_false, Bool.not_true, Bool.not_false, decide_true, decide_false, tyIn1, tyIn2, tyIn3, tyIn4, tyIn5, isT_int_int, isT_int_str, isT_int_bool, isT_int_tuple, isT_int_list, isT_str_int, isT_str_str, isT_str_bool, isT_str_tuple, isT_str_list, isT_tuple_int, isT_tuple_str, isT_tuple_bool, isT_tuple_tuple, isT_tuple_list, isT_bool_int, isT_bool_str, isT_bool_bool, isT_bool_tuple, isT_bool_list]
      (rw [wpSs_cons]; simp only [wpS, wp, wpEs, wpO, wpIf, wpI, wpAnd, wpOr, ofE, truthOf, asgW, asgWs, tgLen, List.getElem?_cons_zero, List.getElem?_cons_succ, List.set_cons_zero, List.set_cons_succ, ixC, ixL, setC, bopW, addW, subW, mulW, fdivW, modW, powW, negW, bfW, cmpC, eqC, ltC, leC, isC, inC, truC, slC, itemsL, tyName, fldC, up_same, atI_0, atI_1, atI_2, atI_3, atI_4, atI_5, ixN_0, ixN_1, ixN_2, ixN_3, wpSs_nil, wipeE, true_and, and_true, if_true, Bool.false_eq_true, if_false, Bool.not_true, Bool.not_false, decide_true, decide_false, tyIn1, tyIn2, tyIn3, tyIn4, tyIn5, isT_int_int, isT_int_str, isT_int_bool, isT_int_tuple, isT_int_list, isT_str_int, isT_str_str, isT_str_bool, isT_str_tuple, isT_str_list, isT_tuple_int, isT_tuple_str, isT_tuple_bool, isT_tuple_tuple, isT_tuple_list, isT_bool_int, isT_bool_str, isT_bool_bool, isT_bool_tuple, isT_bool_list, rcv, bmT, bmW, hq5, List.length_map])
      refine ⟨by omega, ?_⟩
      refine hK _ _ ⟨⟨_, _, rfl⟩, ⟨nms ++ [z], by rw [up_same, List.map_append]; rfl, by simp; omega, by simp, fun y hy => ?_, ?_⟩, g35.set hqS, ?_⟩
      · rcases List.mem_append.mp hy with h | h
        · exact h6 y h
        · rw [List.mem_singleton.mp h]; exact hz6
      · exact List.nodup_append.mpr ⟨hnd, by simp, by intro y hy w hw; simp at hw; subst hw; rintro rfl; exact hmem hy⟩
      · obtain ⟨hab, hb5, i, h, c, ha, c1, c2⟩ := s5
        have hqb : b ≠ q := by
          rintro rfl
          obtain ⟨_, hb0, _⟩ := hs
          rw [hb0] at hqS; cases hqS
        exact ⟨hab, by rw [up_ne hqb]; exact hb5, i, h, c, by rw [up_ne (Ne.symm hqa)]; exact ha, c1, by simp; omega⟩
  · rintro ρ S3 ⟨⟨x0, y0, rfl⟩, ⟨nms, hq3, hl, h0, h6, hnd⟩, g3, s3⟩
    rw [List.length_range] at hl h0 s3
    refine ⟨trivial, ?_⟩
    (rw [wpSs_cons]; simp only [wpS, wp, wpEs, wpO, wpIf, wpI, wpAnd, wpOr, ofE, truthOf, asgW, asgWs, tgLen, List.getElem?_cons_zero, List.getElem?_cons_succ, List.set_cons_zero, List.set_cons_succ, ixC, ixL, setC, bopW, addW, subW, mulW, fdivW, modW, powW, negW, bfW, cmpC, eqC, ltC, leC, isC, inC, truC, slC, itemsL, tyName, fldC, up_same, atI_0, atI_1, atI_2, atI_3, atI_4, atI_5, ixN_0, ixN_1, ixN_2, ixN_3, wpSs_nil, wipeE, true_and, and_true, if_true, Bool.false_eq_true, if_false, Bool.not_true, Bool.not_false, decide_true, decide_false, tyIn1, tyIn2, tyIn3, tyIn4, tyIn5, isT_int_int, isT_int_str, isT_int_bool, isT_int_tuple, isT_int_list, isT_str_int, isT_str_str, isT_str_bool, isT_str_tuple, isT_str_list, isT_tuple_int, isT_tuple_str, isT_tuple_bool, isT_tuple_tuple, isT_tuple_list, isT_bool_int, isT_bool_str, isT_bool_bool, isT_bool_tuple, isT_bool_list])
    exact ret_ok (hQ q nms _ hqS hq3 hl h0 h6 hnd g3 (s3.mono (by omega)))

/-! sums, differences, multiples -/
abbrev Fm := Int × Ps
def mulP (k : Int) (ps : Ps) : Ps := ps.map fun p => (p.1, k * p.2)
def timesF (k : Int) (f : Fm) : Fm := if k = 0 then (0, []) else (k * f.1, mulP k f.2)
def negF (f : Fm) : Fm := (-1 * f.1, mulP (-1) f.2)
/-- the numbers are of at most that many bits -/
def Sm (b : Nat) (f : Fm) : Prop := f.1.natAbs < 2 ^ b ∧ ∀ p ∈ f.2, p.2.natAbs < 2 ^ b
theorem one_lt : (-1 : Int).natAbs < 2 ^ 400 := show 1 < 2 ^ 400 from Nat.one_lt_two_pow (by decide)
def sumC (l : List (Int × Fm)) : Int := l.foldl (fun c p => c + p.1 * p.2.1) 0
def sumP (l : List (Int × Fm)) : Ps := l.flatMap fun p => mulP p.1 p.2.2
def encK (p : Int × Fm) : D := .tup [.int p.1, formD p.2]
theorem sumC_snoc (l : List (Int × Fm)) (p : Int × Fm) : sumC (l ++ [p]) = sumC l + p.1 * p.2.1 := by unfold sumC; rw [List.foldl_append] <;> rfl
theorem sumP_snoc (l : List (Int × Fm)) (p : Int × Fm) : sumP (l ++ [p]) = sumP l ++ mulP p.1 p.2.2 := by unfold sumP; simp
theorem sum_w {k : Nat} {S : Sto} {l : List (Int × Fm)} {q : Addr} {Q : PK D} (hq : S q = some (.lst (l.map encK))) (hm : ∀ p ∈ l, p.1.natAbs < 2 ^ 400 ∧ Sm 400 p.2) (hl : (sums (sumP l)).length < 64) (hl2 : (sumP l).length ≤ 1000) (hQ : ∀ S1, Gr [] S S1 → Q (formD (formF (sumC l) (sumP l))) S1) : cl (k + 2) "_law_sum" [.ref q] S Q := by
  refine cl_run (d := f__law_sum) rfl ⟨rfl, ?_⟩
  show wpSs (gk (k + 1)) _ (enR Q) [some (.ref q), none, none, none, none, none, none] S
  have hsz : sizeLine = 2 ^ 24 := rfl
  unfold f__law_sum
  (rw [wpSs_cons]; simp only [wpS, wp, wpEs, wpO, wpIf, wpI, wpAnd, wpOr, ofE, truthOf, asgW, asgWs, tgLen, List.getElem?_cons_zero, List.getElem?_cons_succ, List.set_cons_zero, List.set_cons_succ, ixC, ixL, setC, bopW, addW, subW, mulW, fdivW, modW, powW, negW, bfW, cmpC, eqC, ltC, leC, isC, inC, truC, slC, itemsL, tyName, fldC, up_same, atI_0, atI_1, atI_2, atI_3, atI_4, atI_5, ixN_0, ixN_1, ixN_2, ixN_3, wpSs_nil, wipeE, true_and, and_true, if_true, Bool.false_eq_true, if_false, Bool.not_true, Bool.not_false, decide_true, decide_false, tyIn1, tyIn2, tyIn3, tyIn4, tyIn5, isT_int_int, isT_int_str, isT_int_bool, isT_int_tuple, isT_int_list, isT_str_int, isT_str_str, isT_str_bool, isT_str_tuple, isT_str_list, isT_tuple_int, isT_tuple_str, isT_tuple_bool, isT_tuple_tuple, isT_tuple_list, isT_bool_int, isT_bool_str, isT_bool_bool, isT_bool_tuple, isT_bool_list])
  (rw [wpSs_cons]; simp only [wpS, wp, wpEs, wpO, wpIf, wpI, wpAnd, wpOr, ofE, truthOf, asgW, asgWs, tgLen, List.getElem?_cons_zero, List.getElem?_cons_succ, List.set_cons_zero, List.set_cons_succ, ixC, ixL, setC, bopW, addW, subW, mulW, fdivW, modW, powW, negW, bfW, cmpC, eqC, ltC, leC, isC, inC, truC, slC, itemsL, tyName, fldC, up_same, atI_0, atI_1, atI_2, atI_3, atI_4, atI_5, ixN_0, ixN_1, ixN_2, ixN_3, wpSs_nil, wipeE, true_and, and_true, if_true, Bool.false_eq_true, if_false, Bool.not_true, Bool.not_false, decide_true, decide_false, tyIn1, tyIn2, tyIn3, tyIn4, tyIn5, isT_int_int, isT_int_str, isT_int_bool, isT_int_tuple, isT_int_list, isT_str_int, isT_str_str, isT_str_bool, isT_str_tuple, isT_str_list, isT_tuple_int, isT_tuple_str, isT_tuple_bool, isT_tuple_tuple, isT_tuple_list, isT_bool_int, isT_bool_str, isT_bool_bool, isT_bool_tuple, isT_bool_list])
  refine ⟨by show 0 ≤ sizeLine; decide, fun r hr => ?_⟩
  have hqr : q ≠ r := by rintro rfl; rw [hq] at hr; cases hr
  (rw [wpSs_cons]; simp only [wpS, wp, wpEs, wpO, wpIf, wpI, wpAnd, wpOr, ofE, truthOf, asgW, asgWs, tgLen, List.getElem?_cons_zero, List.getElem?_cons_succ, List.set_cons_zero, List.set_cons_succ, ixC, ixL, setC, bopW, addW, subW, mulW, fdivW, modW, powW, negW, bfW, cmpC, eqC, ltC, leC, isC, inC, truC, slC, itemsL, tyName, fldC, up_same, atI_0, atI_1, atI_2, atI_3, atI_4, atI_5, ixN_0, ixN_1, ixN_2, ixN_3, wpSs_nil, wipeE, true_and, and_true, if_true, Bool.false_eq_true, if_false, Bool.not_true, Bool.not_false, decide_true, decide_false, tyIn1, tyIn2, tyIn3, tyIn4, tyIn5, isT_int_int, isT_int_str, isT_int_bool, isT_int_tuple, isT_int_list, isT_str_int, isT_str_str, isT_str_bool, isT_str_tuple, isT_str_list, isT_tuple_int, isT_tuple_str, isT_tuple_bool, isT_tuple_tuple, isT_tuple_list, isT_bool_int, isT_bool_str, isT_bool_bool, isT_bool_tuple, isT_bool_list])
  refine walk_of (ds := l.map encK) (S := S) (.inr ⟨q, rfl, hq⟩) (.new hr) fun chk hc => ?_
  refine pre_loop encK (fun pre ρ S1 => (∃ (x y z u : Option D), ρ = [some (.ref q), some (.int (sumC pre)), some (.ref r), x, y, z, u]) ∧ S1 r = some (.lst ((sumP pre).map encP)) ∧ Gr [] S S1) l ?_ ?_ ⟨⟨_, _, _, _, rfl⟩, up_same, .new hr⟩
  · rintro pre ⟨m, c, fs⟩ post e ρ S1 K ⟨⟨x, y, z, u, rfl⟩, h1, g1⟩ hK
    refine ⟨hc _ g1, ?_⟩
    obtain ⟨hm1, hm2⟩ := hm (m, c, fs) (by rw [e]; simp)
    have hlen : (sumP pre).length + fs.length ≤ 1000 := by
      have : (sumP l).length = (sumP pre).length + (fs.length + (sumP post).length) := by
        rw [e]
        unfold sumP mulP
        simp
      omega
    unfold encK formD
    simp only [wpS, wp, wpEs, wpO, wpIf, wpI, wpAnd, wpOr, ofE, truthOf, asgW, asgWs, tgLen, List.getElem?_cons_zero, List.getElem?_cons_succ, List.set_cons_zero, List.set_cons_succ, ixC, ixL, setC, bopW, addW, subW, mulW, fdivW, modW, powW, negW, bfW, cmpC, eqC, ltC, leC, isC, inC, truC, slC, itemsL, tyName, fldC, up_same, atI_0, atI_1, atI_2, atI_3, atI_4, atI_5, ixN_0, ixN_1, ixN_2, ixN_3, wpSs_nil, wipeE, true_and, and_true, if_true, Bool.false_eq_true, if_false, Bool.not_true, Bool.not_false, decide_true, decide_false, tyIn1, tyIn2, tyIn3, tyIn4, tyIn5, isT_int_int, isT_int_str, isT_int_bool, isT_int_tuple, isT_int_list, isT_str_int, isT_str_str, isT_str_bool, isT_str_tuple, isT_str_list, isT_tuple_int, isT_tuple_str, isT_tuple_bool, isT_tuple_tuple, isT_tuple_list, isT_bool_int, isT_bool_str, isT_bool_bool, isT_bool_tuple, isT_bool_list]
    refine ⟨rfl, ?_⟩
    (rw [wpSs_cons]; simp only [wpS, wp, wpEs, wpO, wpIf, wpI, wpAnd, wpOr, ofE, truthOf, asgW, asgWs, tgLen, List.getElem?_cons_zero, List.getElem?_cons_succ, List.set_cons_zero, List.set_cons_succ, ixC, ixL, setC, bopW, addW, subW, mulW, fdivW, modW, powW, negW, bfW, cmpC, eqC, ltC, leC, isC, inC, truC, slC, itemsL, tyName, fldC, up_same, atI_0, atI_1, atI_2, atI_3, atI_4, atI_5, ixN_0, ixN_1, ixN_2, ixN_3, wpSs_nil, wipeE, true_and, and_true, if_true, Bool.false_eq_true, if_false, Bool.not_true, Bool.not_false, decide_true, decide_false, tyIn1, tyIn2, tyIn3, tyIn4, tyIn5, isT_int_int, isT_int_str, isT_int_bool, isT_int_tuple, isT_int_list, isT_str_int, isT_str_str, isT_str_bool, isT_str_tuple, isT_str_list, isT_tuple_int, isT_tuple_str, isT_tuple_bool, isT_tuple_tuple, isT_tuple_list, isT_bool_int, isT_bool_str, isT_bool_bool, isT_bool_tuple, isT_bool_list])
    refine ⟨wide_mul hm1 hm2.1 (by decide) (by decide) (by decide), ?_⟩
    (rw [wpSs_cons]; simp only [wpS, wp, wpEs, wpO, wpIf, wpI, wpAnd, wpOr, ofE, truthOf, asgW, asgWs, tgLen, List.getElem?_cons_zero, List.getElem?_cons_succ, List.set_cons_zero, List.set_cons_succ, ixC, ixL, setC, bopW, addW, subW, mulW, fdivW, modW, powW, negW, bfW, cmpC, eqC, ltC, leC, isC, inC, truC, slC, itemsL, tyName, fldC, up_same, atI_0, atI_1, atI_2, atI_3, atI_4, atI_5, ixN_0, ixN_1, ixN_2, ixN_3, wpSs_nil, wipeE, true_and, and_true, if_true, Bool.false_eq_true, if_false, Bool.not_true, Bool.not_false, decide_true, decide_false, tyIn1, tyIn2, tyIn3, tyIn4, tyIn5, isT_int_int, isT_int_str, isT_int_bool, isT_int_tuple, isT_int_list, isT_str_int, isT_str_str, isT_str_bool, isT_str_tuple, isT_str_list, isT_tuple_int, isT_tuple_str, isT_tuple_bool, isT_tuple_tuple, isT_tuple_list, isT_bool_int, isT_bool_str, isT_bool_bool, isT_bool_tuple, isT_bool_list])
    refine walk_of (ds := fs.map encP) (S := S) (.inl rfl) g1 fun chk2 hc2 => ?_
    refine pre_loop encP (fun pre2 ρ S2 => (∃ (z u : Option D), ρ = [some (.ref q), some (.int (sumC pre + m * c)), some (.ref r), some (.int m), some (.tup [.int c, tupP fs]), z, u]) ∧ S2 r = some (.lst ((sumP pre ++ mulP m pre2).map encP)) ∧ Gr [] S S2) fs ?_ ?_ ⟨⟨_, _, rfl⟩, by rw [h1]; simp [mulP], g1⟩
    · rintro pre2 ⟨x2, v⟩ post2 e2 ρ S2 K2 ⟨⟨z2, u2, rfl⟩, h2, g2⟩ hK2
      refine ⟨hc2 _ g2, ?_⟩
      have hv := hm2.2 (x2, v) (by rw [e2]; simp)
      have hl3 : pre2.length < fs.length := by rw [e2]; simp
      unfold encP
      simp only [wpS, wp, wpEs, wpO, wpIf, wpI, wpAnd, wpOr, ofE, truthOf, asgW, asgWs, tgLen, List.getElem?_cons_zero, List.getElem?_cons_succ, List.set_cons_zero, List.set_cons_succ, ixC, ixL, setC, bopW, addW, subW, mulW, fdivW, modW, powW, negW, bfW, cmpC, eqC, ltC, leC, isC, inC, truC, slC, itemsL, tyName, fldC, up_same, atI_0, atI_1, atI_2, atI_3, atI_4, atI_5, ixN_0, ixN_1, ixN_2, ixN_3, wpSs_nil, wipeE, true_and, and_true, if_true, Bool.false_eq_true, if_false, Bool.not_true, Bool.not_false, decide_true, decide_false, tyIn1, tyIn2, tyIn3, tyIn4, tyIn5, isT_int_int, isT_int_str, isT_int_bool, isT_int_tuple, isT_int_list, isT_str_int, isT_str_str, isT_str_bool, isT_str_tuple, isT_str_list, isT_tuple_int, isT_tuple_str, isT_tuple_bool, isT_tuple_tuple, isT_tuple_list, isT_bool_int, isT_bool_str, isT_bool_bool, isT_bool_tuple, isT_bool_list, wpSs_cons, rcv, bmT, bmW, h2]
      refine ⟨rfl, wide_mul hm1 hv (by decide) (by decide) (by decide), by simp [hsz], by simp [mulP]; omega, ?_⟩
      refine hK2 _ _ ⟨⟨_, _, rfl⟩, ?_, g2.set hr⟩
      rw [up_same]
      simp [mulP, encP]
    · rintro ρ S2 ⟨⟨z2, u2, rfl⟩, h2, g2⟩
      refine ⟨hc2 _ g2, hK _ _ ⟨⟨_, _, _, _, by rw [sumC_snoc]⟩, by rw [sumP_snoc]; exact h2, g2⟩⟩
  · rintro ρ S1 ⟨⟨x, y, z, u, rfl⟩, h1, g1⟩
    refine ⟨hc _ g1, ?_⟩
    (rw [wpSs_cons]; simp only [wpS, wp, wpEs, wpO, wpIf, wpI, wpAnd, wpOr, ofE, truthOf, asgW, asgWs, tgLen, List.getElem?_cons_zero, List.getElem?_cons_succ, List.set_cons_zero, List.set_cons_succ, ixC, ixL, setC, bopW, addW, subW, mulW, fdivW, modW, powW, negW, bfW, cmpC, eqC, ltC, leC, isC, inC, truC, slC, itemsL, tyName, fldC, up_same, atI_0, atI_1, atI_2, atI_3, atI_4, atI_5, ixN_0, ixN_1, ixN_2, ixN_3, wpSs_nil, wipeE, true_and, and_true, if_true, Bool.false_eq_true, if_false, Bool.not_true, Bool.not_false, decide_true, decide_false, tyIn1, tyIn2, tyIn3, tyIn4, tyIn5, isT_int_int, isT_int_str, isT_int_bool, isT_int_tuple, isT_int_list, isT_str_int, isT_str_str, isT_str_bool, isT_str_tuple, isT_str_list, isT_tuple_int, isT_tuple_str, isT_tuple_bool, isT_tuple_tuple, isT_tuple_list, isT_bool_int, isT_bool_str, isT_bool_bool, isT_bool_tuple, isT_bool_list])
    refine lform_w (k := k) (ps := sumP l) (.inr ⟨r, rfl, h1⟩) hl hl2 fun S2 g2 => ret_ok (hQ S2 (g1.trans g2))

theorem isint_w {k : Nat} {S : Sto} {i : Int} {Q : PK D} (hQ : Q (.bl true) S) : cl (k + 1) "_law_is_int" [.int i] S Q := by
  refine cl_run (d := f__law_is_int) rfl ⟨rfl, ?_⟩
  show wpSs (gk k) _ (enR Q) [some (.int i)] S
  unfold f__law_is_int
  (rw [wpSs_cons]; simp only [wpS, wp, wpEs, wpO, wpIf, wpI, wpAnd, wpOr, ofE, truthOf, asgW, asgWs, tgLen, List.getElem?_cons_zero, List.getElem?_cons_succ, List.set_cons_zero, List.set_cons_succ, ixC, ixL, setC, bopW, addW, subW, mulW, fdivW, modW, powW, negW, bfW, cmpC, eqC, ltC, leC, isC, inC, truC, slC, itemsL, tyName, fldC, up_same, atI_0, atI_1, atI_2, atI_3, atI_4, atI_5, ixN_0, ixN_1, ixN_2, ixN_3, wpSs_nil, wipeE, true_and, and_true, if_true, Bool.false_eq_true, if_false, Bool.not_true, Bool.not_false, decide_true, decide_false, tyIn1, tyIn2, tyIn3, tyIn4, tyIn5, isT_int_int, isT_int_str, isT_int_bool, isT_int_tuple, isT_int_list, isT_str_int, isT_str_str, isT_str_bool, isT_str_tuple, isT_str_list, isT_tuple_int, isT_tuple_str, isT_tuple_bool, isT_tuple_tuple, isT_tuple_list, isT_bool_int, isT_bool_str, isT_bool_bool, isT_bool_tuple, isT_bool_list])
  exact ret_ok hQ

theorem same_w : ∀ (n k : Nat) (d : D) (S : Sto) (Q : PK D), nice n d → (∀ S1, Gr [] S S1 → Q (.bl true) S1) → cl (n + k + 1) "_law_same" [d, d] S Q := by
  intro n
  induction n with
  | zero =>
    intro k d S Q hn hQ
    refine cl_run (d := f__law_same) rfl ⟨rfl, ?_⟩
    show wpSs (gk (0 + k)) _ (enR Q) [some d, some d, none] S
    unfold f__law_same
    cases d with
    | int i =>
      (rw [wpSs_cons]; simp only [wpS, wp, wpEs, wpO, wpIf, wpI, wpAnd, wpOr, ofE, truthOf, asgW, asgWs, tgLen, List.getElem?_cons_zero, List.getElem?_cons_succ, List.set_cons_zero, List.set_cons_succ, ixC, ixL, setC, bopW, addW, subW, mulW, fdivW, modW, powW, negW, bfW, cmpC, eqC, ltC, leC, isC, inC, truC, slC, itemsL, tyName, fldC, up_same, atI_0, atI_1, atI_2, atI_3, atI_4, atI_5, ixN_0, ixN_1, ixN_2, ixN_3, wpSs_nil, wipeE, true_and, and_true, if_true, Bool.false_eq_true, if_false, Bool.not_true, Bool.not_false, decide_true, decide_false, tyIn1, tyIn2, tyIn3, tyIn4, tyIn5, isT_int_int, isT_int_str, isT_int_bool, isT_int_tuple, isT_int_list, isT_str_int, isT_str_str, isT_str_bool, isT_str_tuple, isT_str_list, isT_tuple_int, isT_tuple_str, isT_tuple_bool, isT_tuple_tuple, isT_tuple_list, isT_bool_int, isT_bool_str, isT_bool_bool, isT_bool_tuple, isT_bool_list])
      (rw [wpSs_cons]; simp only [wpS, wp, wpEs, wpO, wpIf, wpI, wpAnd, wpOr, ofE, truthOf, asgW, asgWs, tgLen, List.getElem?_cons_zero, List.getElem?_cons_succ, List.set_cons_zero, List.set_cons_succ, ixC, ixL, setC, bopW, addW, subW, mulW, fdivW, modW, powW, negW, bfW, cmpC, eqC, ltC, leC, isC, inC, truC, slC, itemsL, tyName, fldC, up_same, atI_0, atI_1, atI_2, atI_3, atI_4, atI_5, ixN_0, ixN_1, ixN_2, ixN_3, wpSs_nil, wipeE, true_and, and_true, if_true, Bool.false_eq_true, if_false, Bool.not_true, Bool.not_false, decide_true, decide_false, tyIn1, tyIn2, tyIn3, tyIn4, tyIn5, isT_int_int, isT_int_str, isT_int_bool, isT_int_tuple, isT_int_list, isT_str_int, isT_str_str, isT_str_bool, isT_str_tuple, isT_str_list, isT_tuple_int, isT_tuple_str, isT_tuple_bool, isT_tuple_tuple, isT_tuple_list, isT_bool_int, isT_bool_str, isT_bool_bool, isT_bool_tuple, isT_bool_list])
      (rw [wpSs_cons]; simp only [wpS, wp, wpEs, wpO, wpIf, wpI, wpAnd, wpOr, ofE, truthOf, asgW, asgWs, tgLen, List.getElem?_cons_zero, List.getElem?_cons_succ, List.set_cons_zero, List.set_cons_succ, ixC, ixL, setC, bopW, addW, subW, mulW, fdivW, modW, powW, negW, bfW, cmpC, eqC, ltC, leC, isC, inC, truC, slC, itemsL, tyName, fldC, up_same, atI_0, atI_1, atI_2, atI_3, atI_4, atI_5, ixN_0, ixN_1, ixN_2, ixN_3, wpSs_nil, wipeE, true_and, and_true, if_true, Bool.false_eq_true, if_false, Bool.not_true, Bool.not_false, decide_true, decide_false, tyIn1, tyIn2, tyIn3, tyIn4, tyIn5, isT_int_int, isT_int_str, isT_int_bool, isT_int_tuple, isT_int_list, isT_str_int, isT_str_str, isT_str_bool, isT_str_tuple, isT_str_list, isT_tuple_int, isT_tuple_str, isT_tuple_bool, isT_tuple_tuple, isT_tuple_list, isT_bool_int, isT_bool_str, isT_bool_bool, isT_bool_tuple, isT_bool_list])
      exact ret_ok (hQ _ .refl)
    | str x =>
      (rw [wpSs_cons]; simp only [wpS, wp, wpEs, wpO, wpIf, wpI, wpAnd, wpOr, ofE, truthOf, asgW, asgWs, tgLen, List.getElem?_cons_zero, List.getElem?_cons_succ, List.set_cons_zero, List.set_cons_succ, ixC, ixL, setC, bopW, addW, subW, mulW, fdivW, modW, powW, negW, bfW, cmpC, eqC, ltC, leC, isC, inC, truC, slC, itemsL, tyName, fldC, up_same, atI_0, atI_1, atI_2, atI_3, atI_4, atI_5, ixN_0, ixN_1, ixN_2, ixN_3, wpSs_nil, wipeE, true_and, and_true, if_true, Bool.false_eq_true, if_false, Bool.not_true, Bool.not_false, decide_true, decide_false, tyIn1, tyIn2, tyIn3, tyIn4, tyIn5, isT_int_int, isT_int_str, isT_int_bool, isT_int_tuple, isT_int_list, isT_str_int, isT_str_str, isT_str_bool, isT_str_tuple, isT_str_list, isT_tuple_int, isT_tuple_str, isT_tuple_bool, isT_tuple_tuple, isT_tuple_list, isT_bool_int, isT_bool_str, isT_bool_bool, isT_bool_tuple, isT_bool_list])
      (rw [wpSs_cons]; simp only [wpS, wp, wpEs, wpO, wpIf, wpI, wpAnd, wpOr, ofE, truthOf, asgW, asgWs, tgLen, List.getElem?_cons_zero, List.getElem?_cons_succ, List.set_cons_zero, List.set_cons_succ, ixC, ixL, setC, bopW, addW, subW, mulW, fdivW, modW, powW, negW, bfW, cmpC, eqC, ltC, leC, isC, inC, truC, slC, itemsL, tyName, fldC, up_same, atI_0, atI_1, atI_2, atI_3, atI_4, atI_5, ixN_0, ixN_1, ixN_2, ixN_3, wpSs_nil, wipeE, true_and, and_true, if_true, Bool.false_eq_true, if_false, Bool.not_true, Bool.not_false, decide_true, decide_false, tyIn1, tyIn2, tyIn3, tyIn4, tyIn5, isT_int_int, isT_int_str, isT_int_bool, isT_int_tuple, isT_int_list, isT_str_int, isT_str_str, isT_str_bool, isT_str_tuple, isT_str_list, isT_tuple_int, isT_tuple_str, isT_tuple_bool, isT_tuple_tuple, isT_tuple_list, isT_bool_int, isT_bool_str, isT_bool_bool, isT_bool_tuple, isT_bool_list])
      (rw [wpSs_cons]; simp only [wpS, wp, wpEs, wpO, wpIf, wpI, wpAnd, wpOr, ofE, truthOf, asgW, asgWs, tgLen, List.getElem?_cons_zero, List.getElem?_cons_succ, List.set_cons_zero, List.set_cons_succ, ixC, ixL, setC, bopW, addW, subW, mulW, fdivW, modW, powW, negW, bfW, cmpC, eqC, ltC, leC, isC, inC, truC, slC, itemsL, tyName, fldC, up_same, atI_0, atI_1, atI_2, atI_3, atI_4, atI_5, ixN_0, ixN_1, ixN_2, ixN_3, wpSs_nil, wipeE, true_and, and_true, if_true, Bool.false_eq_true, if_false, Bool.not_true, Bool.not_false, decide_true, decide_false, tyIn1, tyIn2, tyIn3, tyIn4, tyIn5, isT_int_int, isT_int_str, isT_int_bool, isT_int_tuple, isT_int_list, isT_str_int, isT_str_str, isT_str_bool, isT_str_tuple, isT_str_list, isT_tuple_int, isT_tuple_str, isT_tuple_bool, isT_tuple_tuple, isT_tuple_list, isT_bool_int, isT_bool_str, isT_bool_bool, isT_bool_tuple, isT_bool_list])
      exact ret_ok (hQ _ .refl)
    | _ => exact hn.elim
  | succ n ih =>
    intro k d S Q hn hQ
    refine cl_run (d := f__law_same) rfl ⟨rfl, ?_⟩
    show wpSs (gk (n + 1 + k)) _ (enR Q) [some d, some d, none] S
    unfold f__law_same
    cases d with
    | int i =>
      (rw [wpSs_cons]; simp only [wpS, wp, wpEs, wpO, wpIf, wpI, wpAnd, wpOr, ofE, truthOf, asgW, asgWs, tgLen, List.getElem?_cons_zero, List.getElem?_cons_succ, List.set_cons_zero, List.set_cons_succ, ixC, ixL, setC, bopW, addW, subW, mulW, fdivW, modW, powW, negW, bfW, cmpC, eqC, ltC, leC, isC, inC, truC, slC, itemsL, tyName, fldC, up_same, atI_0, atI_1, atI_2, atI_3, atI_4, atI_5, ixN_0, ixN_1, ixN_2, ixN_3, wpSs_nil, wipeE, true_and, and_true, if_true, Bool.false_eq_true, if_false, Bool.not_true, Bool.not_false, decide_true, decide_false, tyIn1, tyIn2, tyIn3, tyIn4, tyIn5, isT_int_int, isT_int_str, isT_int_bool, isT_int_tuple, isT_int_list, isT_str_int, isT_str_str, isT_str_bool, isT_str_tuple, isT_str_list, isT_tuple_int, isT_tuple_str, isT_tuple_bool, isT_tuple_tuple, isT_tuple_list, isT_bool_int, isT_bool_str, isT_bool_bool, isT_bool_tuple, isT_bool_list])
      (rw [wpSs_cons]; simp only [wpS, wp, wpEs, wpO, wpIf, wpI, wpAnd, wpOr, ofE, truthOf, asgW, asgWs, tgLen, List.getElem?_cons_zero, List.getElem?_cons_succ, List.set_cons_zero, List.set_cons_succ, ixC, ixL, setC, bopW, addW, subW, mulW, fdivW, modW, powW, negW, bfW, cmpC, eqC, ltC, leC, isC, inC, truC, slC, itemsL, tyName, fldC, up_same, atI_0, atI_1, atI_2, atI_3, atI_4, atI_5, ixN_0, ixN_1, ixN_2, ixN_3, wpSs_nil, wipeE, true_and, and_true, if_true, Bool.false_eq_true, if_false, Bool.not_true, Bool.not_false, decide_true, decide_false, tyIn1, tyIn2, tyIn3, tyIn4, tyIn5, isT_int_int, isT_int_str, isT_int_bool, isT_int_tuple, isT_int_list, isT_str_int, isT_str_str, isT_str_bool, isT_str_tuple, isT_str_list, isT_tuple_int, isT_tuple_str, isT_tuple_bool, isT_tuple_tuple, isT_tuple_list, isT_bool_int, isT_bool_str, isT_bool_bool, isT_bool_tuple, isT_bool_list])
      (rw [wpSs_cons]; simp only [wpS, wp, wpEs, wpO, wpIf, wpI, wpAnd, wpOr, ofE, truthOf, asgW, asgWs, tgLen, List.getElem?_cons_zero, List.getElem?_cons_succ, List.set_cons_zero, List.set_cons_succ, ixC, ixL, setC, bopW, addW, subW, mulW, fdivW, modW, powW, negW, bfW, cmpC, eqC, ltC, leC, isC, inC, truC, slC, itemsL, tyName, fldC, up_same, atI_0, atI_1, atI_2, atI_3, atI_4, atI_5, ixN_0, ixN_1, ixN_2, ixN_3, wpSs_nil, wipeE, true_and, and_true, if_true, Bool.false_eq_true, if_false, Bool.not_true, Bool.not_false, decide_true, decide_false, tyIn1, tyIn2, tyIn3, tyIn4, tyIn5, isT_int_int, isT_int_str, isT_int_bool, isT_int_tuple, isT_int_list, isT_str_int, isT_str_str, isT_str_bool, isT_str_tuple, isT_str_list, isT_tuple_int, isT_tuple_str, isT_tuple_bool, isT_tuple_tuple, isT_tuple_list, isT_bool_int, isT_bool_str, isT_bool_bool, isT_bool_tuple, isT_bool_list])
      exact ret_ok (hQ _ .refl)
    | str x =>
      (rw [wpSs_cons]; simp only [wpS, wp, wpEs, wpO, wpIf, wpI, wpAnd, wpOr, ofE, truthOf, asgW, asgWs, tgLen, List.getElem?_cons_zero, List.getElem?_cons_succ, List.set_cons_zero, List.set_cons_succ, ixC, ixL, setC, bopW, addW, subW, mulW, fdivW, modW, powW, negW, bfW, cmpC, eqC, ltC, leC, isC, inC, truC, slC, itemsL, tyName, fldC, up_same, atI_0, atI_1, atI_2, atI_3, atI_4, atI_5, ixN_0, ixN_1, ixN_2, ixN_3, wpSs_nil, wipeE, true_and, and_true, if_true, Bool.false_eq_true, if_false, Bool.not_true, Bool.not_false, decide_true, decide_false, tyIn1, tyIn2, tyIn3, tyIn4, tyIn5, isT_int_int, isT_int_str, isT_int_bool, isT_int_tuple, isT_int_list, isT_str_int, isT_str_str, isT_str_bool, isT_str_tuple, isT_str_list, isT_tuple_int, isT_tuple_str, isT_tuple_bool, isT_tuple_tuple, isT_tuple_list, isT_bool_int, isT_bool_str, isT_bool_bool, isT_bool_tuple, isT_bool_list])
      (rw [wpSs_cons]; simp only [wpS, wp, wpEs, wpO, wpIf, wpI, wpAnd, wpOr, ofE, truthOf, asgW, asgWs, tgLen, List.getElem?_cons_zero, List.getElem?_cons_succ, List.set_cons_zero, List.set_cons_succ, ixC, ixL, setC, bopW, addW, subW, mulW, fdivW, modW, powW, negW, bfW, cmpC, eqC, ltC, leC, isC, inC, truC, slC, itemsL, tyName, fldC, up_same, atI_0, atI_1, atI_2, atI_3, atI_4, atI_5, ixN_0, ixN_1, ixN_2, ixN_3, wpSs_nil, wipeE, true_and, and_true, if_true, Bool.false_eq_true, if_false, Bool.not_true, Bool.not_false, decide_true, decide_false, tyIn1, tyIn2, tyIn3, tyIn4, tyIn5, isT_int_int, isT_int_str, isT_int_bool, isT_int_tuple, isT_int_list, isT_str_int, isT_str_str, isT_str_bool, isT_str_tuple, isT_str_list, isT_tuple_int, isT_tuple_str, isT_tuple_bool, isT_tuple_tuple, isT_tuple_list, isT_bool_int, isT_bool_str, isT_bool_bool, isT_bool_tuple, isT_bool_list])
      (rw [wpSs_cons]; simp only [wpS, wp, wpEs, wpO, wpIf, wpI, wpAnd, wpOr, ofE, truthOf, asgW, asgWs, tgLen, List.getElem?_cons_zero, List.getElem?_cons_succ, List.set_cons_zero, List.set_cons_succ, ixC, ixL, setC, bopW, addW, subW, mulW, fdivW, modW, powW, negW, bfW, cmpC, eqC, ltC, leC, isC, inC, truC, slC, itemsL, tyName, fldC, up_same, atI_0, atI_1, atI_2, atI_3, atI_4, atI_5, ixN_0, ixN_1, ixN_2, ixN_3, wpSs_nil, wipeE, true_and, and_true, if_true, Bool.false_eq_true, if_false, Bool.not_true, Bool.not_false, decide_true, decide_false, tyIn1, tyIn2, tyIn3, tyIn4, tyIn5, isT_int_int, isT_int_str, isT_int_bool, isT_int_tuple, isT_int_list, isT_str_int, isT_str_str, isT_str_bool, isT_str_tuple, isT_str_list, isT_tuple_int, isT_tuple_str, isT_tuple_bool, isT_tuple_tuple, isT_tuple_list, isT_bool_int, isT_bool_str, isT_bool_bool, isT_bool_tuple, isT_bool_list])
      exact ret_ok (hQ _ .refl)
    | tup ds =>
      obtain ⟨hl, hds⟩ := hn
      have hsz : sizeLine = 2 ^ 24 := rfl
      (rw [wpSs_cons]; simp only [wpS, wp, wpEs, wpO, wpIf, wpI, wpAnd, wpOr, ofE, truthOf, asgW, asgWs, tgLen, List.getElem?_cons_zero, List.getElem?_cons_succ, List.set_cons_zero, List.set_cons_succ, ixC, ixL, setC, bopW, addW, subW, mulW, fdivW, modW, powW, negW, bfW, cmpC, eqC, ltC, leC, isC, inC, truC, slC, itemsL, tyName, fldC, up_same, atI_0, atI_1, atI_2, atI_3, atI_4, atI_5, ixN_0, ixN_1, ixN_2, ixN_3, wpSs_nil, wipeE, true_and, and_true, if_true, Bool.false_eq_true, if_false, Bool.not_true, Bool.not_false, decide_true, decide_false, tyIn1, tyIn2, tyIn3, tyIn4, tyIn5, isT_int_int, isT_int_str, isT_int_bool, isT_int_tuple, isT_int_list, isT_str_int, isT_str_str, isT_str_bool, isT_str_tuple, isT_str_list, isT_tuple_int, isT_tuple_str, isT_tuple_bool, isT_tuple_tuple, isT_tuple_list, isT_bool_int, isT_bool_str, isT_bool_bool, isT_bool_tuple, isT_bool_list])
      (rw [wpSs_cons]; simp only [wpS, wp, wpEs, wpO, wpIf, wpI, wpAnd, wpOr, ofE, truthOf, asgW, asgWs, tgLen, List.getElem?_cons_zero, List.getElem?_cons_succ, List.set_cons_zero, List.set_cons_succ, ixC, ixL, setC, bopW, addW, subW, mulW, fdivW, modW, powW, negW, bfW, cmpC, eqC, ltC, leC, isC, inC, truC, slC, itemsL, tyName, fldC, up_same, atI_0, atI_1, atI_2, atI_3, atI_4, atI_5, ixN_0, ixN_1, ixN_2, ixN_3, wpSs_nil, wipeE, true_and, and_true, if_true, Bool.false_eq_true, if_false, Bool.not_true, Bool.not_false, decide_true, decide_false, tyIn1, tyIn2, tyIn3, tyIn4, tyIn5, isT_int_int, isT_int_str, isT_int_bool, isT_int_tuple, isT_int_list, isT_str_int, isT_str_str, isT_str_bool, isT_str_tuple, isT_str_list, isT_tuple_int, isT_tuple_str, isT_tuple_bool, isT_tuple_tuple, isT_tuple_list, isT_bool_int, isT_bool_str, isT_bool_bool, isT_bool_tuple, isT_bool_list])
      (rw [wpSs_cons]; simp only [wpS, wp, wpEs, wpO, wpIf, wpI, wpAnd, wpOr, ofE, truthOf, asgW, asgWs, tgLen, List.getElem?_cons_zero, List.getElem?_cons_succ, List.set_cons_zero, List.set_cons_succ, ixC, ixL, setC, bopW, addW, subW, mulW, fdivW, modW, powW, negW, bfW, cmpC, eqC, ltC, leC, isC, inC, truC, slC, itemsL, tyName, fldC, up_same, atI_0, atI_1, atI_2, atI_3, atI_4, atI_5, ixN_0, ixN_1, ixN_2, ixN_3, wpSs_nil, wipeE, true_and, and_true, if_true, Bool.false_eq_true, if_false, Bool.not_true, Bool.not_false, decide_true, decide_false, tyIn1, tyIn2, tyIn3, tyIn4, tyIn5, isT_int_int, isT_int_str, isT_int_bool, isT_int_tuple, isT_int_list, isT_str_int, isT_str_str, isT_str_bool, isT_str_tuple, isT_str_list, isT_tuple_int, isT_tuple_str, isT_tuple_bool, isT_tuple_tuple, isT_tuple_list, isT_bool_int, isT_bool_str, isT_bool_bool, isT_bool_tuple, isT_bool_list, rngD, Int.toNat_natCast])
      refine ⟨⟨by omega, by omega⟩, ?_⟩
      refine pre_lc (fun i : Nat => D.int (0 + (i : Int))) (fun pre acc S1 => acc = List.replicate pre.length (D.bl true) ∧ Gr [] S S1) (List.range ds.length) (by simpa using hl) ?_ ?_ ⟨rfl, .refl⟩
      · rintro pre x post e acc S1 K ⟨rfl, g⟩ hK _
        obtain ⟨hx, _⟩ := range_mid e
        refine ⟨trivial, ?_⟩
        simp only [wpS, wp, wpEs, wpO, wpIf, wpI, wpAnd, wpOr, ofE, truthOf, asgW, asgWs, tgLen, List.getElem?_cons_zero, List.getElem?_cons_succ, List.set_cons_zero, List.set_cons_succ, ixC, ixL, setC, bopW, addW, subW, mulW, fdivW, modW, powW, negW, bfW, cmpC, eqC, ltC, leC, isC, inC, truC, slC, itemsL, tyName, fldC, up_same, atI_0, atI_1, atI_2, atI_3, atI_4, atI_5, ixN_0, ixN_1, ixN_2, ixN_3, wpSs_nil, wipeE, true_and, and_true, if_true, Bool.false_eq_true, if_false, Bool.not_true, Bool.not_false, decide_true, decide_false, tyIn1, tyIn2, tyIn3, tyIn4, tyIn5, isT_int_int, isT_int_str, isT_int_bool, isT_int_tuple, isT_int_list, isT_str_int, isT_str_str, isT_str_bool, isT_str_tuple, isT_str_list, isT_tuple_int, isT_tuple_str, isT_tuple_bool, isT_tuple_tuple, isT_tuple_list, isT_bool_int, isT_bool_str, isT_bool_bool, isT_bool_tuple, isT_bool_list, atI_nat hx]
        have := ih k ds[x] S1 (fun v S1 => K (some v) S1) (hds _ (List.getElem_mem hx)) fun S2 g2 => hK _ S2 ⟨by rw [List.length_append, List.length_singleton, List.replicate_succ'], g.trans g2⟩
        have e1 : n + 1 + k = n + k + 1 := by omega
        rw [e1]
        exact this
      · rintro acc S1 ⟨rfl, g⟩
        refine ⟨trivial, fun p hp => ?_⟩
        rw [List.length_range]
        simp only [wpS, wp, wpEs, wpO, wpIf, wpI, wpAnd, wpOr, ofE, truthOf, asgW, asgWs, tgLen, List.getElem?_cons_zero, List.getElem?_cons_succ, List.set_cons_zero, List.set_cons_succ, ixC, ixL, setC, bopW, addW, subW, mulW, fdivW, modW, powW, negW, bfW, cmpC, eqC, ltC, leC, isC, inC, truC, slC, itemsL, tyName, fldC, up_same, atI_0, atI_1, atI_2, atI_3, atI_4, atI_5, ixN_0, ixN_1, ixN_2, ixN_3, wpSs_nil, wipeE, true_and, and_true, if_true, Bool.false_eq_true, if_false, Bool.not_true, Bool.not_false, decide_true, decide_false, tyIn1, tyIn2, tyIn3, tyIn4, tyIn5, isT_int_int, isT_int_str, isT_int_bool, isT_int_tuple, isT_int_list, isT_str_int, isT_str_str, isT_str_bool, isT_str_tuple, isT_str_list, isT_tuple_int, isT_tuple_str, isT_tuple_bool, isT_tuple_tuple, isT_tuple_list, isT_bool_int, isT_bool_str, isT_bool_bool, isT_bool_tuple, isT_bool_list, bls_rep, all_rep]
        exact ret_ok (hQ _ (g.new' hp))
    | _ => exact hn.elim

theorem big_sm {v : Int} (h : v.natAbs ≤ 10 ^ 44) : v.natAbs < 2 ^ 160 := Nat.lt_of_le_of_lt h (by decide)
/-- what a drawn form is like -/
structure Fine (nms : List Str) (f : Fm) : Prop where
  ok : Ok f.2
  keys : ∀ p ∈ f.2, p.1 ∈ nms
  len : f.2.length ≤ 5
  sm : Sm 160 f
theorem drawn_w {k : Nat} {a b q : Addr} {ns : List Int} {n : Nat} {S : Sto} {nms : List Str} {Q : PK D} (hn : n + 2000 < 2 ^ 60) (hs : Sc a b ns n S) (hq : S q = some (.lst (nms.map D.str))) (hqa : q ≠ a) (h1 : nms.length ≤ 5)
    (hQ : ∀ (f : Fm) S1, Fine nms f → Gr [a] S S1 → Sc a b ns (n + 40) S1 → Q (formD f) S1) : cl (k + 4) "_law_drawn" [.ref a, .ref q] S Q := by
  refine cl_run (d := f__law_drawn) rfl ⟨rfl, ?_⟩
  show wpSs (gk (k + 3)) _ (enR Q) [some (.ref a), some (.ref q), none, none] S
  have hsz : sizeLine = 2 ^ 24 := rfl
  unfold f__law_drawn
  (rw [wpSs_cons]; simp only [wpS, wp, wpEs, wpO, wpIf, wpI, wpAnd, wpOr, ofE, truthOf, asgW, asgWs, tgLen, List.getElem?_cons_zero, List.getElem?_cons_succ, List.set_cons_zero, List.set_cons_succ, ixC, ixL, setC, bopW, addW, subW, mulW, fdivW, modW, powW, negW, bfW, cmpC, eqC, ltC, leC, isC, inC, truC, slC, itemsL, tyName, fldC, up_same, atI_0, atI_1, atI_2, atI_3, atI_4, atI_5, ixN_0, ixN_1, ixN_2, ixN_3, wpSs_nil, wipeE, true_and, and_true, if_true, Bool.false_eq_true, if_false, Bool.not_true, Bool.not_false, decide_true, decide_false, tyIn1, tyIn2, tyIn3, tyIn4, tyIn5, isT_int_int, isT_int_str, isT_int_bool, isT_int_tuple, isT_int_list, isT_str_int, isT_str_str, isT_str_bool, isT_str_tuple, isT_str_list, isT_tuple_int, isT_tuple_str, isT_tuple_bool, isT_tuple_tuple, isT_tuple_list, isT_bool_int, isT_bool_str, isT_bool_bool, isT_bool_tuple, isT_bool_list])
  refine walk_ofA (A := [a]) (.inr ⟨q, rfl, hq⟩) (fun q' e => by cases e; simpa using hqa) fun chk hc => ?_
  refine pre_lc D.str (fun pre acc S3 => (∃ ps : Ps, acc = ps.map encP ∧ ps.length ≤ pre.length ∧ (∀ p ∈ ps, p.1 ∈ nms) ∧ Bd (10 ^ 44) ps) ∧ Gr [a] S S3 ∧ Sc a b ns (n + 5 * pre.length) S3) nms (by omega) ?_ ?_ ⟨⟨[], rfl, by simp, by simp, by simp [Bd]⟩, .refl, hs⟩
  · rintro pre x post e acc S3 K ⟨⟨ps, rfl, hl, hps, hbd⟩, g3, s3⟩ hK hN
    have hx : x ∈ nms := by rw [e]; simp
    have hpl : pre.length < 5 := by have := congrArg List.length e; simp at this; omega
    refine ⟨hc _ g3, ?_⟩
    refine draw_w (by omega) (by decide) (by decide) s3 fun t S4 t0 t1 g4 s4 => ?_
    simp only [wpS, wp, wpEs, wpO, wpIf, wpI, wpAnd, wpOr, ofE, truthOf, asgW, asgWs, tgLen, List.getElem?_cons_zero, List.getElem?_cons_succ, List.set_cons_zero, List.set_cons_succ, ixC, ixL, setC, bopW, addW, subW, mulW, fdivW, modW, powW, negW, bfW, cmpC, eqC, ltC, leC, isC, inC, truC, slC, itemsL, tyName, fldC, up_same, atI_0, atI_1, atI_2, atI_3, atI_4, atI_5, ixN_0, ixN_1, ixN_2, ixN_3, wpSs_nil, wipeE, true_and, and_true, if_true, Bool.false_eq_true, if_false, Bool.not_true, Bool.not_false, decide_true, decide_false, tyIn1, tyIn2, tyIn3, tyIn4, tyIn5, isT_int_int, isT_int_str, isT_int_bool, isT_int_tuple, isT_int_list, isT_str_int, isT_str_str, isT_str_bool, isT_str_tuple, isT_str_list, isT_tuple_int, isT_tuple_str, isT_tuple_bool, isT_tuple_tuple, isT_tuple_list, isT_bool_int, isT_bool_str, isT_bool_bool, isT_bool_tuple, isT_bool_list]
    split
    · refine number_w (by omega) s4 fun w S5 hw g5 s5 => ?_
      refine ⟨by show 2 ≤ sizeLine; decide, hK _ _ ⟨⟨ps ++ [(x, w)], by rw [List.map_append]; rfl, by simp; omega, fun p hp => ?_, fun p hp => ?_⟩, (g3.trans g4).trans g5, by rw [List.length_append, List.length_singleton]; exact s5.mono (by omega)⟩⟩
      · rcases List.mem_append.mp hp with hp | hp
        · exact hps p hp
        · rw [List.mem_singleton.mp hp]; exact hx
      · rcases List.mem_append.mp hp with hp | hp
        · exact hbd p hp
        · rw [List.mem_singleton.mp hp]; exact hw
    · exact hN _ ⟨⟨ps, rfl, by simp; omega, hps, hbd⟩, g3.trans g4, by rw [List.length_append, List.length_singleton]; exact s4.mono (by omega)⟩
  rintro acc S3 ⟨⟨ps, rfl, hl, hps, hbd⟩, g3, s3⟩
  refine ⟨hc _ g3, fun p hp => ?_⟩
  have hpa := s3.ne hp
  (rw [wpSs_cons]; simp only [wpS, wp, wpEs, wpO, wpIf, wpI, wpAnd, wpOr, ofE, truthOf, asgW, asgWs, tgLen, List.getElem?_cons_zero, List.getElem?_cons_succ, List.set_cons_zero, List.set_cons_succ, ixC, ixL, setC, bopW, addW, subW, mulW, fdivW, modW, powW, negW, bfW, cmpC, eqC, ltC, leC, isC, inC, truC, slC, itemsL, tyName, fldC, up_same, atI_0, atI_1, atI_2, atI_3, atI_4, atI_5, ixN_0, ixN_1, ixN_2, ixN_3, wpSs_nil, wipeE, true_and, and_true, if_true, Bool.false_eq_true, if_false, Bool.not_true, Bool.not_false, decide_true, decide_false, tyIn1, tyIn2, tyIn3, tyIn4, tyIn5, isT_int_int, isT_int_str, isT_int_bool, isT_int_tuple, isT_int_list, isT_str_int, isT_str_str, isT_str_bool, isT_str_tuple, isT_str_list, isT_tuple_int, isT_tuple_str, isT_tuple_bool, isT_tuple_tuple, isT_tuple_list, isT_bool_int, isT_bool_str, isT_bool_bool, isT_bool_tuple, isT_bool_list])
  refine number_w (by omega) (s3.new hp) fun c S4 hc4 g4 s4 => ?_
  have few : (sums ps).length < 64 := by have := sums_few hps; omega
  refine lform_w (ps := ps) (.inr ⟨p, rfl, g4 p _ (by simpa using hpa) up_same⟩) few (by omega) fun S5 g5 => ?_
  refine ret_ok (hQ _ _ ⟨formF_Ok c ps, fun p hp => ?_, Nat.le_trans (formF_length c ps) (by omega), big_sm hc4, fun p hp => ?_⟩ (g3.trans ((Gr.new hp).trans (g4.trans (g5.mono (by simp))))) ((s4.keep g5).mono (by omega)))
  · obtain ⟨q, hq, e⟩ := List.mem_map.mp (formF_mem hp)
    rw [← e]; exact hps q hq
  · exact Nat.lt_of_le_of_lt (Nat.le_trans (formF_bd hbd p hp) (Nat.mul_le_mul_right _ (show ps.length ≤ 5 by omega))) (by decide)
theorem var_w {k : Nat} {S : Sto} {x : Str} {Q : PK D} (hQ : Q (formD (0, [(x, 1)])) S) : cl (k + 1) "_law_var" [.str x] S Q := by
  refine cl_run (d := f__law_var) rfl ⟨rfl, ?_⟩
  show wpSs (gk k) _ (enR Q) [some (.str x)] S
  unfold f__law_var
  (rw [wpSs_cons]; simp only [wpS, wp, wpEs, wpO, wpIf, wpI, wpAnd, wpOr, ofE, truthOf, asgW, asgWs, tgLen, List.getElem?_cons_zero, List.getElem?_cons_succ, List.set_cons_zero, List.set_cons_succ, ixC, ixL, setC, bopW, addW, subW, mulW, fdivW, modW, powW, negW, bfW, cmpC, eqC, ltC, leC, isC, inC, truC, slC, itemsL, tyName, fldC, up_same, atI_0, atI_1, atI_2, atI_3, atI_4, atI_5, ixN_0, ixN_1, ixN_2, ixN_3, wpSs_nil, wipeE, true_and, and_true, if_true, Bool.false_eq_true, if_false, Bool.not_true, Bool.not_false, decide_true, decide_false, tyIn1, tyIn2, tyIn3, tyIn4, tyIn5, isT_int_int, isT_int_str, isT_int_bool, isT_int_tuple, isT_int_list, isT_str_int, isT_str_str, isT_str_bool, isT_str_tuple, isT_str_list, isT_tuple_int, isT_tuple_str, isT_tuple_bool, isT_tuple_tuple, isT_tuple_list, isT_bool_int, isT_bool_str, isT_bool_bool, isT_bool_tuple, isT_bool_list])
  exact ⟨by show 2 ≤ sizeLine; decide, by show 1 ≤ sizeLine; decide, by show 2 ≤ sizeLine; decide, ret_ok hQ⟩
theorem fine_var {nms : List Str} {x : Str} (h : x ∈ nms) : Fine nms (0, [(x, 1)]) := by
  refine ⟨⟨by simp, by simp⟩, by simpa using h, by simp, ⟨(show 0 < 2 ^ 160 by decide), fun p hp => ?_⟩⟩
  rw [List.mem_singleton.mp hp]
  show 1 < 2 ^ 160
  decide
abbrev Gs := List (Str × Fm)
def encG (p : Str × Fm) : D := .tup [.str p.1, formD p.2]
structure FineG (nms : List Str) (G : Gs) : Prop where
  nd : (G.map (·.1)).Nodup
  keys : ∀ p ∈ G, p.1 ∈ nms
  fine : ∀ p ∈ G, Fine nms p.2
theorem FineG.perm {nms : List Str} {G G2 : Gs} (h : FineG nms G) (e : G2.Perm G) : FineG nms G2 :=
  ⟨((e.map _).nodup_iff).mpr h.nd, fun p hp => h.keys p (e.mem_iff.mp hp), fun p hp => h.fine p (e.mem_iff.mp hp)⟩
theorem pairs_w {k : Nat} {a b q : Addr} {ns : List Int} {n : Nat} {S : Sto} {nms : List Str} {Q : PK D} (hn : n + 4000 < 2 ^ 60) (hs : Sc a b ns n S) (hq : S q = some (.lst (nms.map D.str))) (hqa : q ≠ a) (h1 : nms.length ≤ 5) (hnd : nms.Nodup)
    (hQ : ∀ (p : Addr) (G : Gs) S1, S p = none → S1 p = some (.lst (G.map encG)) → G.length ≤ 5 → FineG nms G → Gr [a] S S1 → Sc a b ns (n + 400) S1 → Q (.ref p) S1) : cl (k + 5) "_law_pairs" [.ref a, .ref q] S Q := by
  refine cl_run (d := f__law_pairs) rfl ⟨rfl, ?_⟩
  show wpSs (gk (k + 4)) _ (enR Q) [some (.ref a), some (.ref q), none, none, none, none] S
  have hsz : sizeLine = 2 ^ 24 := rfl
  unfold f__law_pairs
  (rw [wpSs_cons]; simp only [wpS, wp, wpEs, wpO, wpIf, wpI, wpAnd, wpOr, ofE, truthOf, asgW, asgWs, tgLen, List.getElem?_cons_zero, List.getElem?_cons_succ, List.set_cons_zero, List.set_cons_succ, ixC, ixL, setC, bopW, addW, subW, mulW, fdivW, modW, powW, negW, bfW, cmpC, eqC, ltC, leC, isC, inC, truC, slC, itemsL, tyName, fldC, up_same, atI_0, atI_1, atI_2, atI_3, atI_4, atI_5, ixN_0, ixN_1, ixN_2, ixN_3, wpSs_nil, wipeE, true_and, and_true, if_true, Bool.false_eq_true, if_false, Bool.not_true, Bool.not_false, decide_true, decide_false, tyIn1, tyIn2, tyIn3, tyIn4, tyIn5, isT_int_int, isT_int_str, isT_int_bool, isT_int_tuple, isT_int_list, isT_str_int, isT_str_str, isT_str_bool, isT_str_tuple, isT_str_list, isT_tuple_int, isT_tuple_str, isT_tuple_bool, isT_tuple_tuple, isT_tuple_list, isT_bool_int, isT_bool_str, isT_bool_bool, isT_bool_tuple, isT_bool_list])
  refine draw_w (by omega) (by decide) (by decide) hs fun v S1 v0 v1 g1 s1 => ?_
  simp only [wpS, wp, wpEs, wpO, wpIf, wpI, wpAnd, wpOr, ofE, truthOf, asgW, asgWs, tgLen, List.getElem?_cons_zero, List.getElem?_cons_succ, List.set_cons_zero, List.set_cons_succ, ixC, ixL, setC, bopW, addW, subW, mulW, fdivW, modW, powW, negW, bfW, cmpC, eqC, ltC, leC, isC, inC, truC, slC, itemsL, tyName, fldC, up_same, atI_0, atI_1, atI_2, atI_3, atI_4, atI_5, ixN_0, ixN_1, ixN_2, ixN_3, wpSs_nil, wipeE, true_and, and_true, if_true, Bool.false_eq_true, if_false, Bool.not_true, Bool.not_false, decide_true, decide_false, tyIn1, tyIn2, tyIn3, tyIn4, tyIn5, isT_int_int, isT_int_str, isT_int_bool, isT_int_tuple, isT_int_list, isT_str_int, isT_str_str, isT_str_bool, isT_str_tuple, isT_str_list, isT_tuple_int, isT_tuple_str, isT_tuple_bool, isT_tuple_tuple, isT_tuple_list, isT_bool_int, isT_bool_str, isT_bool_bool, isT_bool_tuple, isT_bool_list]
  generalize decide (v = 0) = bb
  (rw [wpSs_cons]; simp only [wpS, wp, wpEs, wpO, wpIf, wpI, wpAnd, wpOr, ofE, truthOf, asgW, asgWs, tgLen, List.getElem?_cons_zero, List.getElem?_cons_succ, List.set_cons_zero, List.set_cons_succ, ixC, ixL, setC, bopW, addW, subW, mulW, fdivW, modW, powW, negW, bfW, cmpC, eqC, ltC, leC, isC, inC, truC, slC, itemsL, tyName, fldC, up_same, atI_0, atI_1, atI_2, atI_3, atI_4, atI_5, ixN_0, ixN_1, ixN_2, ixN_3, wpSs_nil, wipeE, true_and, and_true, if_true, Bool.false_eq_true, if_false, Bool.not_true, Bool.not_false, decide_true, decide_false, tyIn1, tyIn2, tyIn3, tyIn4, tyIn5, isT_int_int, isT_int_str, isT_int_bool, isT_int_tuple, isT_int_list, isT_str_int, isT_str_str, isT_str_bool, isT_str_tuple, isT_str_list, isT_tuple_int, isT_tuple_str, isT_tuple_bool, isT_tuple_tuple, isT_tuple_list, isT_bool_int, isT_bool_str, isT_bool_bool, isT_bool_tuple, isT_bool_list])
  refine ⟨by show 0 ≤ sizeLine; decide, fun r hr => ?_⟩
  have hra := s1.ne hr
  have hrS : S r = none := g1.free1 hr hra
  have hq1 := g1 q _ (by simpa using hqa) hq
  have hqr : q ≠ r := by rintro rfl; rw [hq1] at hr; cases hr
  have hq1' : up S1 r (.lst []) q = some (.lst (nms.map D.str)) := by rw [up_ne hqr]; exact hq1
  (rw [wpSs_cons]; simp only [wpS, wp, wpEs, wpO, wpIf, wpI, wpAnd, wpOr, ofE, truthOf, asgW, asgWs, tgLen, List.getElem?_cons_zero, List.getElem?_cons_succ, List.set_cons_zero, List.set_cons_succ, ixC, ixL, setC, bopW, addW, subW, mulW, fdivW, modW, powW, negW, bfW, cmpC, eqC, ltC, leC, isC, inC, truC, slC, itemsL, tyName, fldC, up_same, atI_0, atI_1, atI_2, atI_3, atI_4, atI_5, ixN_0, ixN_1, ixN_2, ixN_3, wpSs_nil, wipeE, true_and, and_true, if_true, Bool.false_eq_true, if_false, Bool.not_true, Bool.not_false, decide_true, decide_false, tyIn1, tyIn2, tyIn3, tyIn4, tyIn5, isT_int_int, isT_int_str, isT_int_bool, isT_int_tuple, isT_int_list, isT_str_int, isT_str_str, isT_str_bool, isT_str_tuple, isT_str_list, isT_tuple_int, isT_tuple_str, isT_tuple_bool, isT_tuple_tuple, isT_tuple_list, isT_bool_int, isT_bool_str, isT_bool_bool, isT_bool_tuple, isT_bool_list, rngD, hq1', List.length_map, Int.toNat_natCast])
  refine ⟨⟨by omega, by omega⟩, ?_⟩
  refine pre_loop (fun i : Nat => D.int (0 + (i : Int))) (fun pre ρ S3 => (∃ (x y : Option D), ρ = [some (.ref a), some (.ref q), some (.bl bb), some (.ref r), x, y]) ∧ (∃ G : Gs, S3 r = some (.lst (G.map encG)) ∧ G.length ≤ pre.length ∧ FineG nms G ∧ ∀ p ∈ G, p.1 ∈ nms.take pre.length) ∧ Gr [a] S S3 ∧ Sc a b ns (n + 1 + 42 * pre.length) S3) (List.range nms.length) ?_ ?_ ⟨⟨_, _, rfl⟩, ⟨[], up_same, by simp, ⟨by simp, by simp, by simp⟩, by simp⟩, g1.trans (.new hr), s1.new hr⟩
  · rintro pre x post e ρ S3 K ⟨⟨x0, y0, rfl⟩, ⟨G, hG, hGl, fG, hGt⟩, g3, s3⟩ hK
    obtain ⟨hx, hpre⟩ := range_mid e
    have hq3 := g3 q _ (by simpa using hqa) hq
    have hxm : nms[x] ∈ nms := List.getElem_mem hx
    have hnew : nms[x] ∉ G.map (·.1) := fun h => by
      obtain ⟨p, hp, e2⟩ := List.mem_map.mp h
      have h2 := hGt p hp
      rw [e2, ← hpre] at h2
      obtain ⟨j, hj, e3⟩ := List.getElem_of_mem h2
      rw [List.getElem_take] at e3
      rw [List.length_take] at hj
      exact List.pairwise_iff_getElem.mp hnd j x (by omega) hx (by omega) e3
    -- what is added
    have add : ∀ (f : Fm) (S4 : Sto) (m : Nat), Fine nms f → S4 r = some (.lst (G.map encG)) → Gr [a] S S4 → Sc a b ns (n + 1 + 42 * pre.length + 42) S4 → (∀ ρ, (∃ (x y : Option D), ρ = [some (.ref a), some (.ref q), some (.bl bb), some (.ref r), x, y]) → K ρ (up S4 r (.lst (G.map encG ++ [encG (nms[x], f)])))) := by
      intro f S4 _ hf h4 g4 s4 ρ hρ
      have hbr : b ≠ r := by
        rintro rfl
        rw [hs.2.1] at hrS; cases hrS
      refine hK _ _ ⟨hρ, ⟨G ++ [(nms[x], f)], by rw [up_same, List.map_append]; rfl, by simp; omega, ⟨?_, ?_, ?_⟩, ?_⟩, g4.set hrS, ?_⟩
      · rw [List.map_append, List.nodup_append]
        exact ⟨fG.nd, by simp, by intro y hy w hw; simp at hw; subst hw; rintro rfl; exact hnew hy⟩
      · intro p hp
        rcases List.mem_append.mp hp with hp | hp
        · exact fG.keys p hp
        · rw [List.mem_singleton.mp hp]; exact hxm
      · intro p hp
        rcases List.mem_append.mp hp with hp | hp
        · exact fG.fine p hp
        · rw [List.mem_singleton.mp hp]; exact hf
      · intro p hp
        rw [List.length_append, List.length_singleton]
        rcases List.mem_append.mp hp with hp | hp
        · exact List.take_subset_take_left _ (by omega) (hGt p hp)
        · rw [List.mem_singleton.mp hp, ← hpre]
          show nms[x] ∈ nms.take (x + 1)
          exact List.mem_take_iff_getElem.mpr ⟨x, by omega, rfl⟩
      · obtain ⟨hab, hb5, i, h, c, ha, c1, c2⟩ := s4
        exact ⟨hab, by rw [up_ne hbr]; exact hb5, i, h, c, by rw [up_ne (Ne.symm hra)]; exact ha, c1, by simp; omega⟩
    refine ⟨trivial, ?_⟩
    have hq5 : ∀ (S4 : Sto), Gr [a] S S4 → S4 q = some (.lst (nms.map D.str)) := fun S4 g => g q _ (by simpa using hqa) hq
    have hatx : atI (nms.map D.str) (0 + (x : Int)) = some (.str nms[x]) := by rw [atI_nat (by rw [List.length_map]; exact hx), List.getElem_map]
    cases bb with
    | true =>
      (rw [wpSs_cons]; simp only [wpS, wp, wpEs, wpO, wpIf, wpI, wpAnd, wpOr, ofE, truthOf, asgW, asgWs, tgLen, List.getElem?_cons_zero, List.getElem?_cons_succ, List.set_cons_zero, List.set_cons_succ, ixC, ixL, setC, bopW, addW, subW, mulW, fdivW, modW, powW, negW, bfW, cmpC, eqC, ltC, leC, isC, inC, truC, slC, itemsL, tyName, fldC, up_same, atI_0, atI_1, atI_2, atI_3, atI_4, atI_5, ixN_0, ixN_1, ixN_2, ixN_3, wpSs_nil, wipeE, true_and, and_true, if_true, Bool.false_eq_true, if_false, Bool.not_true, Bool.not_false, decide_true, decide_false, tyIn1, tyIn2, tyIn3, tyIn4, tyIn5, isT_int_int, isT_int_str, isT_int_bool, isT_int_tuple, isT_int_list, isT_str_int, isT_str_str, isT_str_bool, isT_str_tuple, isT_str_list, isT_tuple_int, isT_tuple_str, isT_tuple_bool, isT_tuple_tuple, isT_tuple_list, isT_bool_int, isT_bool_str, isT_bool_bool, isT_bool_tuple, isT_bool_list])
      (rw [wpSs_cons]; simp only [wpS, wp, wpEs, wpO, wpIf, wpI, wpAnd, wpOr, ofE, truthOf, asgW, asgWs, tgLen, List.getElem?_cons_zero, List.getElem?_cons_succ, List.set_cons_zero, List.set_cons_succ, ixC, ixL, setC, bopW, addW, subW, mulW, fdivW, modW, powW, negW, bfW, cmpC, eqC, ltC, leC, isC, inC, truC, slC, itemsL, tyName, fldC, up_same, atI_0, atI_1, atI_2, atI_3, atI_4, atI_5, ixN_0, ixN_1, ixN_2, ixN_3, wpSs_nil, wipeE, true_and, and_true, if_true, Bool.false_eq_true, if_false, Bool.not_true, Bool.not_false, decide_true, decide_false, tyIn1, tyIn2, tyIn3, tyIn4, tyIn5, isT_int_int, isT_int_str, isT_int_bool, isT_int_tuple, isT_int_list, isT_str_int, isT_str_str, isT_str_bool, isT_str_tuple, isT_str_list, isT_tuple_int, isT_tuple_str, isT_tuple_bool, isT_tuple_tuple, isT_tuple_list, isT_bool_int, isT_bool_str, isT_bool_bool, isT_bool_tuple, isT_bool_list, hq3, hatx, List.length_map, rcv, bmT, hG])
      have j0 := Int.emod_nonneg ((0 : Int) + (x : Int) + 1) (show (nms.length : Int) ≠ 0 by omega)
      have j1 := Int.emod_lt_of_pos ((0 : Int) + (x : Int) + 1) (show (0 : Int) < nms.length by omega)
      refine ⟨by omega, ?_⟩
      rw [atI_in j0 (by rw [List.length_map]; exact j1), List.getElem_map]
      refine var_w (k := k + 3) ?_
      refine ⟨by show 2 ≤ sizeLine; decide, ?_⟩
      simp only [wpS, wp, wpEs, wpO, wpIf, wpI, wpAnd, wpOr, ofE, truthOf, asgW, asgWs, tgLen, List.getElem?_cons_zero, List.getElem?_cons_succ, List.set_cons_zero, List.set_cons_succ, ixC, ixL, setC, bopW, addW, subW, mulW, fdivW, modW, powW, negW, bfW, cmpC, eqC, ltC, leC, isC, inC, truC, slC, itemsL, tyName, fldC, up_same, atI_0, atI_1, atI_2, atI_3, atI_4, atI_5, ixN_0, ixN_1, ixN_2, ixN_3, wpSs_nil, wipeE, true_and, and_true, if_true, Bool.false_eq_true, if_false, Bool.not_true, Bool.not_false, decide_true, decide_false, tyIn1, tyIn2, tyIn3, tyIn4, tyIn5, isT_int_int, isT_int_str, isT_int_bool, isT_int_tuple, isT_int_list, isT_str_int, isT_str_str, isT_str_bool, isT_str_tuple, isT_str_list, isT_tuple_int, isT_tuple_str, isT_tuple_bool, isT_tuple_tuple, isT_tuple_list, isT_bool_int, isT_bool_str, isT_bool_bool, isT_bool_tuple, isT_bool_list, bmW, hG]
      refine ⟨by simp; omega, add _ S3 0 (fine_var (List.getElem_mem _)) hG g3 (s3.mono (by omega)) _ ⟨_, _, rfl⟩⟩
    | false =>
      (rw [wpSs_cons]; simp only [wpS, wp, wpEs, wpO, wpIf, wpI, wpAnd, wpOr, ofE, truthOf, asgW, asgWs, tgLen, List.getElem?_cons_zero, List.getElem?_cons_succ, List.set_cons_zero, List.set_cons_succ, ixC, ixL, setC, bopW, addW, subW, mulW, fdivW, modW, powW, negW, bfW, cmpC, eqC, ltC, leC, isC, inC, truC, slC, itemsL, tyName, fldC, up_same, atI_0, atI_1, atI_2, atI_3, atI_4, atI_5, ixN_0, ixN_1, ixN_2, ixN_3, wpSs_nil, wipeE, true_and, and_true, if_true, Bool.false_eq_true, if_false, Bool.not_true, Bool.not_false, decide_true, decide_false, tyIn1, tyIn2, tyIn3, tyIn4, tyIn5, isT_int_int, isT_int_str, isT_int_bool, isT_int_tuple, isT_int_list, isT_str_int, isT_str_str, isT_str_bool, isT_str_tuple, isT_str_list, isT_tuple_int, isT_tuple_str, isT_tuple_bool, isT_tuple_tuple, isT_tuple_list, isT_bool_int, isT_bool_str, isT_bool_bool, isT_bool_tuple, isT_bool_list])
      (rw [wpSs_cons]; simp only [wpS, wp, wpEs, wpO, wpIf, wpI, wpAnd, wpOr, ofE, truthOf, asgW, asgWs, tgLen, List.getElem?_cons_zero, List.getElem?_cons_succ, List.set_cons_zero, List.set_cons_succ, ixC, ixL, setC, bopW, addW, subW, mulW, fdivW, modW, powW, negW, bfW, cmpC, eqC, ltC, leC, isC, inC, truC, slC, itemsL, tyName, fldC, up_same, atI_0, atI_1, atI_2, atI_3, atI_4, atI_5, ixN_0, ixN_1, ixN_2, ixN_3, wpSs_nil, wipeE, true_and, and_true, if_true, Bool.false_eq_true, if_false, Bool.not_true, Bool.not_false, decide_true, decide_false, tyIn1, tyIn2, tyIn3, tyIn4, tyIn5, isT_int_int, isT_int_str, isT_int_bool, isT_int_tuple, isT_int_list, isT_str_int, isT_str_str, isT_str_bool, isT_str_tuple, isT_str_list, isT_tuple_int, isT_tuple_str, isT_tuple_bool, isT_tuple_tuple, isT_tuple_list, isT_bool_int, isT_bool_str, isT_bool_bool, isT_bool_tuple, isT_bool_list])
      refine draw_w (by omega) (by decide) (by decide) s3 fun t S4 t0 t1 g4 s4 => ?_
      simp only [wpS, wp, wpEs, wpO, wpIf, wpI, wpAnd, wpOr, ofE, truthOf, asgW, asgWs, tgLen, List.getElem?_cons_zero, List.getElem?_cons_succ, List.set_cons_zero, List.set_cons_succ, ixC, ixL, setC, bopW, addW, subW, mulW, fdivW, modW, powW, negW, bfW, cmpC, eqC, ltC, leC, isC, inC, truC, slC, itemsL, tyName, fldC, up_same, atI_0, atI_1, atI_2, atI_3, atI_4, atI_5, ixN_0, ixN_1, ixN_2, ixN_3, wpSs_nil, wipeE, true_and, and_true, if_true, Bool.false_eq_true, if_false, Bool.not_true, Bool.not_false, decide_true, decide_false, tyIn1, tyIn2, tyIn3, tyIn4, tyIn5, isT_int_int, isT_int_str, isT_int_bool, isT_int_tuple, isT_int_list, isT_str_int, isT_str_str, isT_str_bool, isT_str_tuple, isT_str_list, isT_tuple_int, isT_tuple_str, isT_tuple_bool, isT_tuple_tuple, isT_tuple_list, isT_bool_int, isT_bool_str, isT_bool_bool, isT_bool_tuple, isT_bool_list]
      split
      · have g34 := g3.trans g4
        have hG4 := g4 r _ (by simpa using hra) hG
        (rw [wpSs_cons]; simp only [wpS, wp, wpEs, wpO, wpIf, wpI, wpAnd, wpOr, ofE, truthOf, asgW, asgWs, tgLen, List.getElem?_cons_zero, List.getElem?_cons_succ, List.set_cons_zero, List.set_cons_succ, ixC, ixL, setC, bopW, addW, subW, mulW, fdivW, modW, powW, negW, bfW, cmpC, eqC, ltC, leC, isC, inC, truC, slC, itemsL, tyName, fldC, up_same, atI_0, atI_1, atI_2, atI_3, atI_4, atI_5, ixN_0, ixN_1, ixN_2, ixN_3, wpSs_nil, wipeE, true_and, and_true, if_true, Bool.false_eq_true, if_false, Bool.not_true, Bool.not_false, decide_true, decide_false, tyIn1, tyIn2, tyIn3, tyIn4, tyIn5, isT_int_int, isT_int_str, isT_int_bool, isT_int_tuple, isT_int_list, isT_str_int, isT_str_str, isT_str_bool, isT_str_tuple, isT_str_list, isT_tuple_int, isT_tuple_str, isT_tuple_bool, isT_tuple_tuple, isT_tuple_list, isT_bool_int, isT_bool_str, isT_bool_bool, isT_bool_tuple, isT_bool_list, hq5 _ g34, hatx, hG4, rcv, bmT])
        refine drawn_w (k := k) (by omega) s4 (hq5 _ g34) hqa h1 fun f S5 hf g5 s5 => ?_
        have hG5 := g5 r _ (by simpa using hra) hG4
        refine ⟨by show 2 ≤ sizeLine; decide, ?_⟩
        simp only [wpS, wp, wpEs, wpO, wpIf, wpI, wpAnd, wpOr, ofE, truthOf, asgW, asgWs, tgLen, List.getElem?_cons_zero, List.getElem?_cons_succ, List.set_cons_zero, List.set_cons_succ, ixC, ixL, setC, bopW, addW, subW, mulW, fdivW, modW, powW, negW, bfW, cmpC, eqC, ltC, leC, isC, inC, truC, slC, itemsL, tyName, fldC, up_same, atI_0, atI_1, atI_2, atI_3, atI_4, atI_5, ixN_0, ixN_1, ixN_2, ixN_3, wpSs_nil, wipeE, true_and, and_true, if_true, Bool.false_eq_true, if_false, Bool.not_true, Bool.not_false, decide_true, decide_false, tyIn1, tyIn2, tyIn3, tyIn4, tyIn5, isT_int_int, isT_int_str, isT_int_bool, isT_int_tuple, isT_int_list, isT_str_int, isT_str_str, isT_str_bool, isT_str_tuple, isT_str_list, isT_tuple_int, isT_tuple_str, isT_tuple_bool, isT_tuple_tuple, isT_tuple_list, isT_bool_int, isT_bool_str, isT_bool_bool, isT_bool_tuple, isT_bool_list, bmW, hG5]
        refine ⟨by simp; omega, add _ S5 0 hf hG5 (g34.trans g5) (s5.mono (by omega)) _ ⟨_, _, rfl⟩⟩
      · refine hK _ _ ⟨⟨_, _, rfl⟩, ⟨G, g4 r _ (by simpa using hra) hG, by simp; omega, fG, fun p hp => ?_⟩, g3.trans g4, s4.mono (by simp; omega)⟩
        rw [List.length_append, List.length_singleton]
        exact List.take_subset_take_left _ (by omega) (hGt p hp)
  · rintro ρ S3 ⟨⟨x0, y0, rfl⟩, ⟨G, hG, hGl, fG, hGt⟩, g3, s3⟩
    rw [List.length_range] at hGl s3
    refine ⟨trivial, ?_⟩
    (rw [wpSs_cons]; simp only [wpS, wp, wpEs, wpO, wpIf, wpI, wpAnd, wpOr, ofE, truthOf, asgW, asgWs, tgLen, List.getElem?_cons_zero, List.getElem?_cons_succ, List.set_cons_zero, List.set_cons_succ, ixC, ixL, setC, bopW, addW, subW, mulW, fdivW, modW, powW, negW, bfW, cmpC, eqC, ltC, leC, isC, inC, truC, slC, itemsL, tyName, fldC, up_same, atI_0, atI_1, atI_2, atI_3, atI_4, atI_5, ixN_0, ixN_1, ixN_2, ixN_3, wpSs_nil, wipeE, true_and, and_true, if_true, Bool.false_eq_true, if_false, Bool.not_true, Bool.not_false, decide_true, decide_false, tyIn1, tyIn2, tyIn3, tyIn4, tyIn5, isT_int_int, isT_int_str, isT_int_bool, isT_int_tuple, isT_int_list, isT_str_int, isT_str_str, isT_str_bool, isT_str_tuple, isT_str_list, isT_tuple_int, isT_tuple_str, isT_tuple_bool, isT_tuple_tuple, isT_tuple_list, isT_bool_int, isT_bool_str, isT_bool_bool, isT_bool_tuple, isT_bool_list, hG, List.length_map])
    refine draw_w (by omega) (by omega) (by omega) s3 fun t S4 t0 t1 g4 s4 => ?_
    have hG4 := g4 r _ (by simpa using hra) hG
    (rw [wpSs_cons]; simp only [wpS, wp, wpEs, wpO, wpIf, wpI, wpAnd, wpOr, ofE, truthOf, asgW, asgWs, tgLen, List.getElem?_cons_zero, List.getElem?_cons_succ, List.set_cons_zero, List.set_cons_succ, ixC, ixL, setC, bopW, addW, subW, mulW, fdivW, modW, powW, negW, bfW, cmpC, eqC, ltC, leC, isC, inC, truC, slC, itemsL, tyName, fldC, up_same, atI_0, atI_1, atI_2, atI_3, atI_4, atI_5, ixN_0, ixN_1, ixN_2, ixN_3, wpSs_nil, wipeE, true_and, and_true, if_true, Bool.false_eq_true, if_false, Bool.not_true, Bool.not_false, decide_true, decide_false, tyIn1, tyIn2, tyIn3, tyIn4, tyIn5, isT_int_int, isT_int_str, isT_int_bool, isT_int_tuple, isT_int_list, isT_str_int, isT_str_str, isT_str_bool, isT_str_tuple, isT_str_list, isT_tuple_int, isT_tuple_str, isT_tuple_bool, isT_tuple_tuple, isT_tuple_list, isT_bool_int, isT_bool_str, isT_bool_bool, isT_bool_tuple, isT_bool_list, hG4])
    intro p1 hp1
    have hr1 : r ≠ p1 := by rintro rfl; rw [hG4] at hp1; cases hp1
    have hG5 : up S4 p1 (.lst (cutG (G.map encG) (some t) none)) r = some (.lst (G.map encG)) := by rw [up_ne hr1]; exact hG4
    simp only [wpS, wp, wpEs, wpO, wpIf, wpI, wpAnd, wpOr, ofE, truthOf, asgW, asgWs, tgLen, List.getElem?_cons_zero, List.getElem?_cons_succ, List.set_cons_zero, List.set_cons_succ, ixC, ixL, setC, bopW, addW, subW, mulW, fdivW, modW, powW, negW, bfW, cmpC, eqC, ltC, leC, isC, inC, truC, slC, itemsL, tyName, fldC, up_same, atI_0, atI_1, atI_2, atI_3, atI_4, atI_5, ixN_0, ixN_1, ixN_2, ixN_3, wpSs_nil, wipeE, true_and, and_true, if_true, Bool.false_eq_true, if_false, Bool.not_true, Bool.not_false, decide_true, decide_false, tyIn1, tyIn2, tyIn3, tyIn4, tyIn5, isT_int_int, isT_int_str, isT_int_bool, isT_int_tuple, isT_int_list, isT_str_int, isT_str_str, isT_str_bool, isT_str_tuple, isT_str_list, isT_tuple_int, isT_tuple_str, isT_tuple_bool, isT_tuple_tuple, isT_tuple_list, isT_bool_int, isT_bool_str, isT_bool_bool, isT_bool_tuple, isT_bool_list, hG5]
    intro p2 hp2
    have h12 : p1 ≠ p2 := by
      rintro rfl
      rw [up_same] at hp2; cases hp2
    have e1 : up (up S4 p1 (.lst (cutG (G.map encG) (some t) none))) p2 (.lst (cutG (G.map encG) none (some t))) p1 = some (.lst (cutG (G.map encG) (some t) none)) := by rw [up_ne h12, up_same]
    simp only [wpS, wp, wpEs, wpO, wpIf, wpI, wpAnd, wpOr, ofE, truthOf, asgW, asgWs, tgLen, List.getElem?_cons_zero, List.getElem?_cons_succ, List.set_cons_zero, List.set_cons_succ, ixC, ixL, setC, bopW, addW, subW, mulW, fdivW, modW, powW, negW, bfW, cmpC, eqC, ltC, leC, isC, inC, truC, slC, itemsL, tyName, fldC, up_same, atI_0, atI_1, atI_2, atI_3, atI_4, atI_5, ixN_0, ixN_1, ixN_2, ixN_3, wpSs_nil, wipeE, true_and, and_true, if_true, Bool.false_eq_true, if_false, Bool.not_true, Bool.not_false, decide_true, decide_false, tyIn1, tyIn2, tyIn3, tyIn4, tyIn5, isT_int_int, isT_int_str, isT_int_bool, isT_int_tuple, isT_int_list, isT_str_int, isT_str_str, isT_str_bool, isT_str_tuple, isT_str_list, isT_tuple_int, isT_tuple_str, isT_tuple_bool, isT_tuple_tuple, isT_tuple_list, isT_bool_int, isT_bool_str, isT_bool_bool, isT_bool_tuple, isT_bool_list, e1]
    have tl : t ≤ (G.map encG).length := by rw [List.length_map]; omega
    rw [cut_lo _ t0 tl, cut_hi _ t0 tl]
    refine ⟨by simp; omega, fun p3 hp3 => ?_⟩
    have ep : (G.drop t.toNat ++ G.take t.toNat).Perm G := by
      have := List.perm_append_comm (l₁ := G.drop t.toNat) (l₂ := G.take t.toNat)
      rw [List.take_append_drop] at this
      exact this
    have s5 := (s4.new (o := .lst ((G.map encG).drop t.toNat)) hp1)
    rw [cut_lo _ t0 tl] at hp2
    have s6 := s5.new (o := .lst ((G.map encG).take t.toNat)) hp2
    have hpa3 := s6.ne hp3
    have gg : Gr [a] S (up (up S4 p1 (.lst ((G.map encG).drop t.toNat))) p2 (.lst ((G.map encG).take t.toNat))) := ((g3.trans g4).trans (.new hp1)).trans (.new hp2)
    refine ret_ok (hQ p3 (G.drop t.toNat ++ G.take t.toNat) _ (gg.free1 hp3 hpa3) (by rw [up_same, List.map_append, List.map_drop, List.map_take]) (by rw [ep.length_eq]; omega) (fG.perm ep) (gg.trans (.new hp3)) ((s6.new hp3).mono (by omega)))

/-! tables -/
def gx (G : Gs) : List (Str × D) := G.map fun p => (p.1, formD p.2)
def look (G : Gs) (x : Str) : Option Fm := (G.find? fun p => decide (p.1 = x)).map (·.2)
def sub (G : Gs) (x : Str) : Fm := (look G x).getD (0, [(x, 1)])
theorem look_get : ∀ {G : Gs} {x : Str}, getD (dicX (gx G)) (.inr x) = (look G x).map formD
  | [], x => rfl
  | p :: G, x => by
    show getD ((Sum.inr p.1, formD p.2) :: dicX (gx G)) (.inr x) = _
    unfold look
    by_cases e : p.1 = x
    · rw [getD_pos (by simp [e]), List.find?_cons, decide_eq_true e] <;> rfl
    · rw [getD_neg (by simpa using e), List.find?_cons, decide_eq_false e]
      exact look_get
theorem look_mem {G : Gs} {x : Str} {g : Fm} (h : look G x = some g) : (x, g) ∈ G := by
  unfold look at h
  cases e : G.find? fun p => decide (p.1 = x) with
  | none => rw [e] at h; cases h
  | some p =>
    rw [e] at h
    cases h
    have := List.find?_some (p := fun p : Str × Fm => decide (p.1 = x)) e
    have hm := List.mem_of_find?_eq_some e
    rw [← of_decide_eq_true this]
    exact hm
theorem fine_sub {nms : List Str} {G : Gs} {x : Str} (h : FineG nms G) (hx : x ∈ nms) : Fine nms (sub G x) := by
  unfold sub
  cases e : look G x with
  | none => exact fine_var hx
  | some g => exact h.fine _ (look_mem e)
def putPs (f : Fm) (G : Gs) : List (Int × Fm) := (1, (f.1, [])) :: f.2.map fun p => (p.2, sub G p.1)
theorem fine_up {nms : List Str} {f : Fm} (h : Fine nms f) : Sm 400 f := ⟨Nat.lt_of_lt_of_le h.sm.1 (Nat.pow_le_pow_right (by decide) (by decide)), fun p hp => Nat.lt_of_lt_of_le (h.sm.2 p hp) (Nat.pow_le_pow_right (by decide) (by decide))⟩
theorem put_parts {nms : List Str} {f : Fm} {G : Gs} (hf : Fine nms f) (hG : FineG nms G) : ∀ p ∈ putPs f G, p.1.natAbs < 2 ^ 160 ∧ Fine nms p.2 := fun p hp => by
  rcases List.mem_cons.mp hp with rfl | hp
  · exact ⟨(show 1 < 2 ^ 160 by decide), ⟨nil_Ok, by simp, by simp, ⟨hf.sm.1, by simp⟩⟩⟩
  · obtain ⟨q, hq, rfl⟩ := List.mem_map.mp hp
    exact ⟨hf.sm.2 q hq, fine_sub hG (hf.keys q hq)⟩
theorem sumP_mem {l : List (Int × Fm)} {p : Str × Int} (h : p ∈ sumP l) : ∃ w ∈ l, ∃ q ∈ w.2.2, p = (q.1, w.1 * q.2) := by
  obtain ⟨w, hw, hp⟩ := List.mem_flatMap.mp h
  obtain ⟨q, hq, rfl⟩ := List.mem_map.mp hp
  exact ⟨w, hw, q, hq, rfl⟩
theorem sumP_len {l : List (Int × Fm)} {n : Nat} (h : ∀ p ∈ l, p.2.2.length ≤ n) : (sumP l).length ≤ l.length * n := by
  induction l with
  | nil => simp [sumP]
  | cons w l ih =>
    have := ih fun p hp => h p (by simp [hp])
    have hw := h w (by simp)
    show (mulP w.1 w.2.2 ++ sumP l).length ≤ (l.length + 1) * n
    rw [List.length_append, Nat.add_mul]
    unfold mulP
    rw [List.length_map]
    omega
theorem put_w {k : Nat} {S : Sto} {f : Fm} {G : Gs} {t : Addr} {nms : List Str} {Q : PK D} (ht : S t = some (.dic (dicX (gx G)))) (hf : Fine nms f) (hG : FineG nms G) (hn : nms.length < 64)
    (hQ : ∀ S1, Gr [] S S1 → Q (formD (formF (sumC (putPs f G)) (sumP (putPs f G)))) S1) : cl (k + 3) "_law_put" [formD f, .ref t] S Q := by
  refine cl_run (d := f__law_put) rfl ⟨rfl, ?_⟩
  show wpSs (gk (k + 2)) _ (enR Q) [some (formD f), some (.ref t), none, none, none] S
  have hsz : sizeLine = 2 ^ 24 := rfl
  have hparts := put_parts hf hG
  have hlen := hf.len
  obtain ⟨c, fs⟩ := f
  unfold f__law_put formD tupP
  (rw [wpSs_cons]; simp only [wpS, wp, wpEs, wpO, wpIf, wpI, wpAnd, wpOr, ofE, truthOf, asgW, asgWs, tgLen, List.getElem?_cons_zero, List.getElem?_cons_succ, List.set_cons_zero, List.set_cons_succ, ixC, ixL, setC, bopW, addW, subW, mulW, fdivW, modW, powW, negW, bfW, cmpC, eqC, ltC, leC, isC, inC, truC, slC, itemsL, tyName, fldC, up_same, atI_0, atI_1, atI_2, atI_3, atI_4, atI_5, ixN_0, ixN_1, ixN_2, ixN_3, wpSs_nil, wipeE, true_and, and_true, if_true, Bool.false_eq_true, if_false, Bool.not_true, Bool.not_false, decide_true, decide_false, tyIn1, tyIn2, tyIn3, tyIn4, tyIn5, isT_int_int, isT_int_str, isT_int_bool, isT_int_tuple, isT_int_list, isT_str_int, isT_str_str, isT_str_bool, isT_str_tuple, isT_str_list, isT_tuple_int, isT_tuple_str, isT_tuple_bool, isT_tuple_tuple, isT_tuple_list, isT_bool_int, isT_bool_str, isT_bool_bool, isT_bool_tuple, isT_bool_list])
  refine ⟨by simp [hsz], by simp [hsz], by simp [hsz], by simp [hsz], fun r hr => ?_⟩
  have htr : t ≠ r := by rintro rfl; rw [ht] at hr; cases hr
  (rw [wpSs_cons]; simp only [wpS, wp, wpEs, wpO, wpIf, wpI, wpAnd, wpOr, ofE, truthOf, asgW, asgWs, tgLen, List.getElem?_cons_zero, List.getElem?_cons_succ, List.set_cons_zero, List.set_cons_succ, ixC, ixL, setC, bopW, addW, subW, mulW, fdivW, modW, powW, negW, bfW, cmpC, eqC, ltC, leC, isC, inC, truC, slC, itemsL, tyName, fldC, up_same, atI_0, atI_1, atI_2, atI_3, atI_4, atI_5, ixN_0, ixN_1, ixN_2, ixN_3, wpSs_nil, wipeE, true_and, and_true, if_true, Bool.false_eq_true, if_false, Bool.not_true, Bool.not_false, decide_true, decide_false, tyIn1, tyIn2, tyIn3, tyIn4, tyIn5, isT_int_int, isT_int_str, isT_int_bool, isT_int_tuple, isT_int_list, isT_str_int, isT_str_str, isT_str_bool, isT_str_tuple, isT_str_list, isT_tuple_int, isT_tuple_str, isT_tuple_bool, isT_tuple_tuple, isT_tuple_list, isT_bool_int, isT_bool_str, isT_bool_bool, isT_bool_tuple, isT_bool_list])
  refine walk_of (ds := fs.map encP) (S := S) (.inl rfl) (.new hr) fun chk hc => ?_
  refine pre_loop encP (fun pre ρ S1 => (∃ (x y : Option D), ρ = [some (formD (c, fs)), some (.ref t), some (.ref r), x, y]) ∧ S1 r = some (.lst (((1, (c, [])) :: pre.map fun p => (p.2, sub G p.1)).map encK)) ∧ Gr [] S S1) fs ?_ ?_ ⟨⟨_, _, rfl⟩, up_same, .new hr⟩
  · rintro pre ⟨x, v⟩ post e ρ S1 K ⟨⟨x0, y0, rfl⟩, h1, g1⟩ hK
    have hl3 : pre.length < 5 := by have := congrArg List.length e; simp at this; simp at hlen; omega
    refine ⟨hc _ g1, ?_⟩
    unfold encP
    simp only [wpS, wp, wpEs, wpO, wpIf, wpI, wpAnd, wpOr, ofE, truthOf, asgW, asgWs, tgLen, List.getElem?_cons_zero, List.getElem?_cons_succ, List.set_cons_zero, List.set_cons_succ, ixC, ixL, setC, bopW, addW, subW, mulW, fdivW, modW, powW, negW, bfW, cmpC, eqC, ltC, leC, isC, inC, truC, slC, itemsL, tyName, fldC, up_same, atI_0, atI_1, atI_2, atI_3, atI_4, atI_5, ixN_0, ixN_1, ixN_2, ixN_3, wpSs_nil, wipeE, true_and, and_true, if_true, Bool.false_eq_true, if_false, Bool.not_true, Bool.not_false, decide_true, decide_false, tyIn1, tyIn2, tyIn3, tyIn4, tyIn5, isT_int_int, isT_int_str, isT_int_bool, isT_int_tuple, isT_int_list, isT_str_int, isT_str_str, isT_str_bool, isT_str_tuple, isT_str_list, isT_tuple_int, isT_tuple_str, isT_tuple_bool, isT_tuple_tuple, isT_tuple_list, isT_bool_int, isT_bool_str, isT_bool_bool, isT_bool_tuple, isT_bool_list, wpSs_cons, rcv, bmT, h1, g1 t _ (by simp) ht]
    refine ⟨rfl, ?_⟩
    refine var_w (k := k + 1) ?_
    simp only [wpS, wp, wpEs, wpO, wpIf, wpI, wpAnd, wpOr, ofE, truthOf, asgW, asgWs, tgLen, List.getElem?_cons_zero, List.getElem?_cons_succ, List.set_cons_zero, List.set_cons_succ, ixC, ixL, setC, bopW, addW, subW, mulW, fdivW, modW, powW, negW, bfW, cmpC, eqC, ltC, leC, isC, inC, truC, slC, itemsL, tyName, fldC, up_same, atI_0, atI_1, atI_2, atI_3, atI_4, atI_5, ixN_0, ixN_1, ixN_2, ixN_3, wpSs_nil, wipeE, true_and, and_true, if_true, Bool.false_eq_true, if_false, Bool.not_true, Bool.not_false, decide_true, decide_false, tyIn1, tyIn2, tyIn3, tyIn4, tyIn5, isT_int_int, isT_int_str, isT_int_bool, isT_int_tuple, isT_int_list, isT_str_int, isT_str_str, isT_str_bool, isT_str_tuple, isT_str_list, isT_tuple_int, isT_tuple_str, isT_tuple_bool, isT_tuple_tuple, isT_tuple_list, isT_bool_int, isT_bool_str, isT_bool_bool, isT_bool_tuple, isT_bool_list, bmW, g1 t _ (by simp) ht, keyOf, look_get, h1]
    have es : ((look G x).map formD).getD (formD (0, [(x, 1)])) = formD (sub G x) := by unfold sub; cases look G x <;> rfl
    rw [es]
    refine ⟨by simp [hsz], by simp; omega, hK _ _ ⟨⟨_, _, rfl⟩, ?_, g1.set hr⟩⟩
    rw [up_same]
    simp [encK]
  · rintro ρ S1 ⟨⟨x0, y0, rfl⟩, h1, g1⟩
    refine ⟨hc _ g1, ?_⟩
    (rw [wpSs_cons]; simp only [wpS, wp, wpEs, wpO, wpIf, wpI, wpAnd, wpOr, ofE, truthOf, asgW, asgWs, tgLen, List.getElem?_cons_zero, List.getElem?_cons_succ, List.set_cons_zero, List.set_cons_succ, ixC, ixL, setC, bopW, addW, subW, mulW, fdivW, modW, powW, negW, bfW, cmpC, eqC, ltC, leC, isC, inC, truC, slC, itemsL, tyName, fldC, up_same, atI_0, atI_1, atI_2, atI_3, atI_4, atI_5, ixN_0, ixN_1, ixN_2, ixN_3, wpSs_nil, wipeE, true_and, and_true, if_true, Bool.false_eq_true, if_false, Bool.not_true, Bool.not_false, decide_true, decide_false, tyIn1, tyIn2, tyIn3, tyIn4, tyIn5, isT_int_int, isT_int_str, isT_int_bool, isT_int_tuple, isT_int_list, isT_str_int, isT_str_str, isT_str_bool, isT_str_tuple, isT_str_list, isT_tuple_int, isT_tuple_str, isT_tuple_bool, isT_tuple_tuple, isT_tuple_list, isT_bool_int, isT_bool_str, isT_bool_bool, isT_bool_tuple, isT_bool_list])
    have kl : ∀ p ∈ sumP (putPs (c, fs) G), p.1 ∈ nms := fun p hp => by
      obtain ⟨w, hw, q, hq, rfl⟩ := sumP_mem hp
      exact (hparts w hw).2.keys q hq
    have ll := sumP_len (l := putPs (c, fs) G) (n := 5) fun p hp => (hparts p hp).2.len
    have lp : (putPs (c, fs) G).length ≤ 6 := by unfold putPs; simp at hlen ⊢; omega
    refine sum_w (k := k) (l := putPs (c, fs) G) h1 (fun p hp => ⟨Nat.lt_of_lt_of_le (hparts p hp).1 (Nat.pow_le_pow_right (by decide) (by decide)), fine_up (hparts p hp).2⟩) (by have := sums_few kl; omega) (by omega) fun S2 g2 => ret_ok (hQ S2 (g1.trans g2))
/-! the image -/
def stC (G : Gs) (c : Int) (p : Str × Int) : Int := match look G p.1 with
  | some g => c + p.2 * g.1
  | none => c
def stP (G : Gs) (p : Str × Int) : Ps := match look G p.1 with
  | some g => mulP p.2 g.2
  | none => [p]
def impC (G : Gs) (c : Int) (ps : Ps) : Int := ps.foldl (stC G) c
def impP (G : Gs) (ps : Ps) : Ps := ps.flatMap (stP G)
theorem stC_eq (G : Gs) (c : Int) (p : Str × Int) : stC G c p = c + p.2 * (sub G p.1).1 := by
  unfold stC sub
  cases look G p.1 with
  | none => simp
  | some g => rfl
theorem stP_eq (G : Gs) (p : Str × Int) : stP G p = mulP p.2 (sub G p.1).2 := by
  unfold stP sub
  cases look G p.1 with
  | none => simp [mulP]
  | some g => rfl
theorem imp_eq (G : Gs) (f : Fm) : impC G f.1 f.2 = sumC (putPs f G) ∧ impP G f.2 = sumP (putPs f G) := by
  constructor
  · unfold sumC putPs
    rw [List.foldl_cons]
    have e : (0 : Int) + 1 * f.1 = f.1 := by omega
    show _ = List.foldl _ (0 + 1 * f.1) _
    rw [e]
    have key : ∀ (ps : Ps) (c : Int), impC G c ps = (ps.map fun p => (p.2, sub G p.1)).foldl (fun c p => c + p.1 * p.2.1) c := by
      intro ps
      induction ps with
      | nil => intro c; rfl
      | cons p ps ih =>
        intro c
        show impC G (stC G c p) ps = _
        rw [ih, stC_eq] <;> rfl
    exact key _ _
  · unfold sumP putPs impP
    rw [List.flatMap_cons, List.flatMap_map]
    show _ = mulP 1 [] ++ _
    rw [show mulP 1 ([] : Ps) = [] from rfl, List.nil_append]
    congr 1
    funext p
    exact stP_eq G p
theorem impP_snoc (G : Gs) (pre : Ps) (p : Str × Int) : impP G (pre ++ [p]) = impP G pre ++ stP G p := by unfold impP; simp
theorem impC_snoc (G : Gs) (c : Int) (pre : Ps) (p : Str × Int) : impC G c (pre ++ [p]) = stC G (impC G c pre) p := by unfold impC; rw [List.foldl_append] <;> rfl
theorem image_w {k : Nat} {S : Sto} {f : Fm} {G : Gs} {nms : List Str} {Q : PK D} (hf : Fine nms f) (hG : FineG nms G) (hn : nms.length < 64) (hGl : G.length ≤ 5)
    (hQ : ∀ S1, Gr [] S S1 → Q (formD (formF (sumC (putPs f G)) (sumP (putPs f G)))) S1) : cl (k + 2) "image" [formD f, .tup (G.map encG)] S Q := by
  refine cl_run (d := f_image) rfl ⟨rfl, ?_⟩
  show wpSs (gk (k + 1)) _ (enR Q) [some (formD f), some (.tup (G.map encG)), none, none, none, none, none, none, none, none] S
  have hsz : sizeLine = 2 ^ 24 := rfl
  have hparts := put_parts hf hG
  have hlen := hf.len
  have him := imp_eq G f
  have hsm := hf.sm
  have hkeys := hf.keys
  have kl : ∀ p ∈ sumP (putPs f G), p.1 ∈ nms := fun p hp => by
    obtain ⟨w, hw, q, hq, rfl⟩ := sumP_mem hp
    exact (hparts w hw).2.keys q hq
  have ll := sumP_len (l := putPs f G) (n := 5) fun p hp => (hparts p hp).2.len
  have lp : (putPs f G).length ≤ 6 := by unfold putPs; simp; omega
  obtain ⟨c, fs⟩ := f
  unfold f_image
  (rw [wpSs_cons]; simp only [wpS, wp, wpEs, wpO, wpIf, wpI, wpAnd, wpOr, ofE, truthOf, asgW, asgWs, tgLen, List.getElem?_cons_zero, List.getElem?_cons_succ, List.set_cons_zero, List.set_cons_succ, ixC, ixL, setC, bopW, addW, subW, mulW, fdivW, modW, powW, negW, bfW, cmpC, eqC, ltC, leC, isC, inC, truC, slC, itemsL, tyName, fldC, up_same, atI_0, atI_1, atI_2, atI_3, atI_4, atI_5, ixN_0, ixN_1, ixN_2, ixN_3, wpSs_nil, wipeE, true_and, and_true, if_true, Bool.false_eq_true, if_false, Bool.not_true, Bool.not_false, decide_true, decide_false, tyIn1, tyIn2, tyIn3, tyIn4, tyIn5, isT_int_int, isT_int_str, isT_int_bool, isT_int_tuple, isT_int_list, isT_str_int, isT_str_str, isT_str_bool, isT_str_tuple, isT_str_list, isT_tuple_int, isT_tuple_str, isT_tuple_bool, isT_tuple_tuple, isT_tuple_list, isT_bool_int, isT_bool_str, isT_bool_bool, isT_bool_tuple, isT_bool_list])
  refine walk_of (ds := G.map encG) (S := S) (.inl rfl) .refl fun chk hc => ?_
  refine dc_new encG (·.1) (fun p => formD p.2) (hc _ .refl) G ?_ hG.nd (by omega) ?_
  · rintro ⟨x, g⟩ hx K hK
    unfold encG
    simp only [wpS, wp, wpEs, wpO, wpIf, wpI, wpAnd, wpOr, ofE, truthOf, asgW, asgWs, tgLen, List.getElem?_cons_zero, List.getElem?_cons_succ, List.set_cons_zero, List.set_cons_succ, ixC, ixL, setC, bopW, addW, subW, mulW, fdivW, modW, powW, negW, bfW, cmpC, eqC, ltC, leC, isC, inC, truC, slC, itemsL, tyName, fldC, up_same, atI_0, atI_1, atI_2, atI_3, atI_4, atI_5, ixN_0, ixN_1, ixN_2, ixN_3, wpSs_nil, wipeE, true_and, and_true, if_true, Bool.false_eq_true, if_false, Bool.not_true, Bool.not_false, decide_true, decide_false, tyIn1, tyIn2, tyIn3, tyIn4, tyIn5, isT_int_int, isT_int_str, isT_int_bool, isT_int_tuple, isT_int_list, isT_str_int, isT_str_str, isT_str_bool, isT_str_tuple, isT_str_list, isT_tuple_int, isT_tuple_str, isT_tuple_bool, isT_tuple_tuple, isT_tuple_list, isT_bool_int, isT_bool_str, isT_bool_bool, isT_bool_tuple, isT_bool_list]
    exact ⟨rfl, hK⟩
  intro t ht
  have gt : Gr [] S (up S t (.dic (dicX (G.map fun p => (p.1, formD p.2))))) := .new ht
  have htt := up_same (S := S) (a := t) (o := .dic (dicX (gx G)))
  change Gr [] S (up S t (.dic (dicX (gx G)))) at gt
  change wpSs _ _ _ _ (up S t (.dic (dicX (gx G))))
  generalize up S t (.dic (dicX (gx G))) = S1 at gt htt ⊢
  unfold formD tupP
  (rw [wpSs_cons]; simp only [wpS, wp, wpEs, wpO, wpIf, wpI, wpAnd, wpOr, ofE, truthOf, asgW, asgWs, tgLen, List.getElem?_cons_zero, List.getElem?_cons_succ, List.set_cons_zero, List.set_cons_succ, ixC, ixL, setC, bopW, addW, subW, mulW, fdivW, modW, powW, negW, bfW, cmpC, eqC, ltC, leC, isC, inC, truC, slC, itemsL, tyName, fldC, up_same, atI_0, atI_1, atI_2, atI_3, atI_4, atI_5, ixN_0, ixN_1, ixN_2, ixN_3, wpSs_nil, wipeE, true_and, and_true, if_true, Bool.false_eq_true, if_false, Bool.not_true, Bool.not_false, decide_true, decide_false, tyIn1, tyIn2, tyIn3, tyIn4, tyIn5, isT_int_int, isT_int_str, isT_int_bool, isT_int_tuple, isT_int_list, isT_str_int, isT_str_str, isT_str_bool, isT_str_tuple, isT_str_list, isT_tuple_int, isT_tuple_str, isT_tuple_bool, isT_tuple_tuple, isT_tuple_list, isT_bool_int, isT_bool_str, isT_bool_bool, isT_bool_tuple, isT_bool_list])
  (rw [wpSs_cons]; simp only [wpS, wp, wpEs, wpO, wpIf, wpI, wpAnd, wpOr, ofE, truthOf, asgW, asgWs, tgLen, List.getElem?_cons_zero, List.getElem?_cons_succ, List.set_cons_zero, List.set_cons_succ, ixC, ixL, setC, bopW, addW, subW, mulW, fdivW, modW, powW, negW, bfW, cmpC, eqC, ltC, leC, isC, inC, truC, slC, itemsL, tyName, fldC, up_same, atI_0, atI_1, atI_2, atI_3, atI_4, atI_5, ixN_0, ixN_1, ixN_2, ixN_3, wpSs_nil, wipeE, true_and, and_true, if_true, Bool.false_eq_true, if_false, Bool.not_true, Bool.not_false, decide_true, decide_false, tyIn1, tyIn2, tyIn3, tyIn4, tyIn5, isT_int_int, isT_int_str, isT_int_bool, isT_int_tuple, isT_int_list, isT_str_int, isT_str_str, isT_str_bool, isT_str_tuple, isT_str_list, isT_tuple_int, isT_tuple_str, isT_tuple_bool, isT_tuple_tuple, isT_tuple_list, isT_bool_int, isT_bool_str, isT_bool_bool, isT_bool_tuple, isT_bool_list])
  refine ⟨by simp [hsz], fun r hr => ?_⟩
  have htr : t ≠ r := by rintro rfl; rw [htt] at hr; cases hr
  (rw [wpSs_cons]; simp only [wpS, wp, wpEs, wpO, wpIf, wpI, wpAnd, wpOr, ofE, truthOf, asgW, asgWs, tgLen, List.getElem?_cons_zero, List.getElem?_cons_succ, List.set_cons_zero, List.set_cons_succ, ixC, ixL, setC, bopW, addW, subW, mulW, fdivW, modW, powW, negW, bfW, cmpC, eqC, ltC, leC, isC, inC, truC, slC, itemsL, tyName, fldC, up_same, atI_0, atI_1, atI_2, atI_3, atI_4, atI_5, ixN_0, ixN_1, ixN_2, ixN_3, wpSs_nil, wipeE, true_and, and_true, if_true, Bool.false_eq_true, if_false, Bool.not_true, Bool.not_false, decide_true, decide_false, tyIn1, tyIn2, tyIn3, tyIn4, tyIn5, isT_int_int, isT_int_str, isT_int_bool, isT_int_tuple, isT_int_list, isT_str_int, isT_str_str, isT_str_bool, isT_str_tuple, isT_str_list, isT_tuple_int, isT_tuple_str, isT_tuple_bool, isT_tuple_tuple, isT_tuple_list, isT_bool_int, isT_bool_str, isT_bool_bool, isT_bool_tuple, isT_bool_list])
  refine walk_of (ds := fs.map encP) (S := S1) (.inl rfl) (.new hr) fun chk2 hc2 => ?_
  refine pre_loop encP (fun pre ρ S2 => (∃ (x y z u v : Option D), ρ = [some (formD (c, fs)), some (.tup (G.map encG)), some (.ref t), some (.int (impC G c pre)), some (.ref r), x, y, z, u, v]) ∧ S2 r = some (.lst ((impP G pre).map encP)) ∧ Gr [] S1 S2) fs ?_ ?_ ⟨⟨_, _, _, _, _, rfl⟩, up_same, .new hr⟩
  · rintro pre ⟨x, v⟩ post e ρ S2 K ⟨⟨x0, x1, x2, x3, x4, rfl⟩, h2, g2⟩ hK
    refine ⟨hc2 _ g2, ?_⟩
    have ht2 := g2 t _ (by simp) htt
    have hxv : (x, v) ∈ fs := by rw [e]; simp
    have hpl : (impP G pre).length ≤ 1000 := by
      rw [← him.2] at ll
      have : (impP G fs).length = (impP G pre).length + (impP G ((x, v) :: post)).length := by
        rw [e]
        unfold impP
        rw [List.flatMap_append, List.length_append]
      show _ ≤ 1000
      have l2 : (impP G (c, fs).2).length ≤ _ := ll
      simp only at l2
      omega
    unfold encP
    simp only [wpS, wp, wpEs, wpO, wpIf, wpI, wpAnd, wpOr, ofE, truthOf, asgW, asgWs, tgLen, List.getElem?_cons_zero, List.getElem?_cons_succ, List.set_cons_zero, List.set_cons_succ, ixC, ixL, setC, bopW, addW, subW, mulW, fdivW, modW, powW, negW, bfW, cmpC, eqC, ltC, leC, isC, inC, truC, slC, itemsL, tyName, fldC, up_same, atI_0, atI_1, atI_2, atI_3, atI_4, atI_5, ixN_0, ixN_1, ixN_2, ixN_3, wpSs_nil, wipeE, true_and, and_true, if_true, Bool.false_eq_true, if_false, Bool.not_true, Bool.not_false, decide_true, decide_false, tyIn1, tyIn2, tyIn3, tyIn4, tyIn5, isT_int_int, isT_int_str, isT_int_bool, isT_int_tuple, isT_int_list, isT_str_int, isT_str_str, isT_str_bool, isT_str_tuple, isT_str_list, isT_tuple_int, isT_tuple_str, isT_tuple_bool, isT_tuple_tuple, isT_tuple_list, isT_bool_int, isT_bool_str, isT_bool_bool, isT_bool_tuple, isT_bool_list]
    refine ⟨rfl, ?_⟩
    (rw [wpSs_cons]; simp only [wpS, wp, wpEs, wpO, wpIf, wpI, wpAnd, wpOr, ofE, truthOf, asgW, asgWs, tgLen, List.getElem?_cons_zero, List.getElem?_cons_succ, List.set_cons_zero, List.set_cons_succ, ixC, ixL, setC, bopW, addW, subW, mulW, fdivW, modW, powW, negW, bfW, cmpC, eqC, ltC, leC, isC, inC, truC, slC, itemsL, tyName, fldC, up_same, atI_0, atI_1, atI_2, atI_3, atI_4, atI_5, ixN_0, ixN_1, ixN_2, ixN_3, wpSs_nil, wipeE, true_and, and_true, if_true, Bool.false_eq_true, if_false, Bool.not_true, Bool.not_false, decide_true, decide_false, tyIn1, tyIn2, tyIn3, tyIn4, tyIn5, isT_int_int, isT_int_str, isT_int_bool, isT_int_tuple, isT_int_list, isT_str_int, isT_str_str, isT_str_bool, isT_str_tuple, isT_str_list, isT_tuple_int, isT_tuple_str, isT_tuple_bool, isT_tuple_tuple, isT_tuple_list, isT_bool_int, isT_bool_str, isT_bool_bool, isT_bool_tuple, isT_bool_list, ht2, keyOf, look_get])
    cases hl : look G x with
    | none =>
      simp only [wpS, wp, wpEs, wpO, wpIf, wpI, wpAnd, wpOr, ofE, truthOf, asgW, asgWs, tgLen, List.getElem?_cons_zero, List.getElem?_cons_succ, List.set_cons_zero, List.set_cons_succ, ixC, ixL, setC, bopW, addW, subW, mulW, fdivW, modW, powW, negW, bfW, cmpC, eqC, ltC, leC, isC, inC, truC, slC, itemsL, tyName, fldC, up_same, atI_0, atI_1, atI_2, atI_3, atI_4, atI_5, ixN_0, ixN_1, ixN_2, ixN_3, wpSs_nil, wipeE, true_and, and_true, if_true, Bool.false_eq_true, if_false, Bool.not_true, Bool.not_false, decide_true, decide_false, tyIn1, tyIn2, tyIn3, tyIn4, tyIn5, isT_int_int, isT_int_str, isT_int_bool, isT_int_tuple, isT_int_list, isT_str_int, isT_str_str, isT_str_bool, isT_str_tuple, isT_str_list, isT_tuple_int, isT_tuple_str, isT_tuple_bool, isT_tuple_tuple, isT_tuple_list, isT_bool_int, isT_bool_str, isT_bool_bool, isT_bool_tuple, isT_bool_list, Option.map_none, Option.isSome_none]
      (rw [wpSs_cons]; simp only [wpS, wp, wpEs, wpO, wpIf, wpI, wpAnd, wpOr, ofE, truthOf, asgW, asgWs, tgLen, List.getElem?_cons_zero, List.getElem?_cons_succ, List.set_cons_zero, List.set_cons_succ, ixC, ixL, setC, bopW, addW, subW, mulW, fdivW, modW, powW, negW, bfW, cmpC, eqC, ltC, leC, isC, inC, truC, slC, itemsL, tyName, fldC, up_same, atI_0, atI_1, atI_2, atI_3, atI_4, atI_5, ixN_0, ixN_1, ixN_2, ixN_3, wpSs_nil, wipeE, true_and, and_true, if_true, Bool.false_eq_true, if_false, Bool.not_true, Bool.not_false, decide_true, decide_false, tyIn1, tyIn2, tyIn3, tyIn4, tyIn5, isT_int_int, isT_int_str, isT_int_bool, isT_int_tuple, isT_int_list, isT_str_int, isT_str_str, isT_str_bool, isT_str_tuple, isT_str_list, isT_tuple_int, isT_tuple_str, isT_tuple_bool, isT_tuple_tuple, isT_tuple_list, isT_bool_int, isT_bool_str, isT_bool_bool, isT_bool_tuple, isT_bool_list, rcv, bmT, bmW, h2])
      refine ⟨by simp [hsz], by simp; omega, hK _ _ ⟨⟨_, _, _, _, _, by rw [impC_snoc]; unfold stC; rw [hl]⟩, ?_, g2.set hr⟩⟩
      rw [up_same, impP_snoc]
      unfold stP
      rw [hl, List.map_append] <;> rfl
    | some g =>
      have hg := hG.fine _ (look_mem hl)
      have hv := hsm.2 (x, v) hxv
      simp only [wpS, wp, wpEs, wpO, wpIf, wpI, wpAnd, wpOr, ofE, truthOf, asgW, asgWs, tgLen, List.getElem?_cons_zero, List.getElem?_cons_succ, List.set_cons_zero, List.set_cons_succ, ixC, ixL, setC, bopW, addW, subW, mulW, fdivW, modW, powW, negW, bfW, cmpC, eqC, ltC, leC, isC, inC, truC, slC, itemsL, tyName, fldC, up_same, atI_0, atI_1, atI_2, atI_3, atI_4, atI_5, ixN_0, ixN_1, ixN_2, ixN_3, wpSs_nil, wipeE, true_and, and_true, if_true, Bool.false_eq_true, if_false, Bool.not_true, Bool.not_false, decide_true, decide_false, tyIn1, tyIn2, tyIn3, tyIn4, tyIn5, isT_int_int, isT_int_str, isT_int_bool, isT_int_tuple, isT_int_list, isT_str_int, isT_str_str, isT_str_bool, isT_str_tuple, isT_str_list, isT_tuple_int, isT_tuple_str, isT_tuple_bool, isT_tuple_tuple, isT_tuple_list, isT_bool_int, isT_bool_str, isT_bool_bool, isT_bool_tuple, isT_bool_list, Option.map_some, Option.isSome_some]
      (rw [wpSs_cons]; simp only [wpS, wp, wpEs, wpO, wpIf, wpI, wpAnd, wpOr, ofE, truthOf, asgW, asgWs, tgLen, List.getElem?_cons_zero, List.getElem?_cons_succ, List.set_cons_zero, List.set_cons_succ, ixC, ixL, setC, bopW, addW, subW, mulW, fdivW, modW, powW, negW, bfW, cmpC, eqC, ltC, leC, isC, inC, truC, slC, itemsL, tyName, fldC, up_same, atI_0, atI_1, atI_2, atI_3, atI_4, atI_5, ixN_0, ixN_1, ixN_2, ixN_3, wpSs_nil, wipeE, true_and, and_true, if_true, Bool.false_eq_true, if_false, Bool.not_true, Bool.not_false, decide_true, decide_false, tyIn1, tyIn2, tyIn3, tyIn4, tyIn5, isT_int_int, isT_int_str, isT_int_bool, isT_int_tuple, isT_int_list, isT_str_int, isT_str_str, isT_str_bool, isT_str_tuple, isT_str_list, isT_tuple_int, isT_tuple_str, isT_tuple_bool, isT_tuple_tuple, isT_tuple_list, isT_bool_int, isT_bool_str, isT_bool_bool, isT_bool_tuple, isT_bool_list, ht2, keyOf, look_get, hl, Option.map_some])
      obtain ⟨d, gs⟩ := g
      unfold formD tupP
      (rw [wpSs_cons]; simp only [wpS, wp, wpEs, wpO, wpIf, wpI, wpAnd, wpOr, ofE, truthOf, asgW, asgWs, tgLen, List.getElem?_cons_zero, List.getElem?_cons_succ, List.set_cons_zero, List.set_cons_succ, ixC, ixL, setC, bopW, addW, subW, mulW, fdivW, modW, powW, negW, bfW, cmpC, eqC, ltC, leC, isC, inC, truC, slC, itemsL, tyName, fldC, up_same, atI_0, atI_1, atI_2, atI_3, atI_4, atI_5, ixN_0, ixN_1, ixN_2, ixN_3, wpSs_nil, wipeE, true_and, and_true, if_true, Bool.false_eq_true, if_false, Bool.not_true, Bool.not_false, decide_true, decide_false, tyIn1, tyIn2, tyIn3, tyIn4, tyIn5, isT_int_int, isT_int_str, isT_int_bool, isT_int_tuple, isT_int_list, isT_str_int, isT_str_str, isT_str_bool, isT_str_tuple, isT_str_list, isT_tuple_int, isT_tuple_str, isT_tuple_bool, isT_tuple_tuple, isT_tuple_list, isT_bool_int, isT_bool_str, isT_bool_bool, isT_bool_tuple, isT_bool_list])
      refine ⟨wide_mul hv hg.sm.1 (by decide) (by decide) (by decide), ?_⟩
      simp only [wpS, wp, wpEs, wpO, wpIf, wpI, wpAnd, wpOr, ofE, truthOf, asgW, asgWs, tgLen, List.getElem?_cons_zero, List.getElem?_cons_succ, List.set_cons_zero, List.set_cons_succ, ixC, ixL, setC, bopW, addW, subW, mulW, fdivW, modW, powW, negW, bfW, cmpC, eqC, ltC, leC, isC, inC, truC, slC, itemsL, tyName, fldC, up_same, atI_0, atI_1, atI_2, atI_3, atI_4, atI_5, ixN_0, ixN_1, ixN_2, ixN_3, wpSs_nil, wipeE, true_and, and_true, if_true, Bool.false_eq_true, if_false, Bool.not_true, Bool.not_false, decide_true, decide_false, tyIn1, tyIn2, tyIn3, tyIn4, tyIn5, isT_int_int, isT_int_str, isT_int_bool, isT_int_tuple, isT_int_list, isT_str_int, isT_str_str, isT_str_bool, isT_str_tuple, isT_str_list, isT_tuple_int, isT_tuple_str, isT_tuple_bool, isT_tuple_tuple, isT_tuple_list, isT_bool_int, isT_bool_str, isT_bool_bool, isT_bool_tuple, isT_bool_list, augW]
      (rw [wpSs_cons]; simp only [wpS, wp, wpEs, wpO, wpIf, wpI, wpAnd, wpOr, ofE, truthOf, asgW, asgWs, tgLen, List.getElem?_cons_zero, List.getElem?_cons_succ, List.set_cons_zero, List.set_cons_succ, ixC, ixL, setC, bopW, addW, subW, mulW, fdivW, modW, powW, negW, bfW, cmpC, eqC, ltC, leC, isC, inC, truC, slC, itemsL, tyName, fldC, up_same, atI_0, atI_1, atI_2, atI_3, atI_4, atI_5, ixN_0, ixN_1, ixN_2, ixN_3, wpSs_nil, wipeE, true_and, and_true, if_true, Bool.false_eq_true, if_false, Bool.not_true, Bool.not_false, decide_true, decide_false, tyIn1, tyIn2, tyIn3, tyIn4, tyIn5, isT_int_int, isT_int_str, isT_int_bool, isT_int_tuple, isT_int_list, isT_str_int, isT_str_str, isT_str_bool, isT_str_tuple, isT_str_list, isT_tuple_int, isT_tuple_str, isT_tuple_bool, isT_tuple_tuple, isT_tuple_list, isT_bool_int, isT_bool_str, isT_bool_bool, isT_bool_tuple, isT_bool_list, rcv, bmT, bmW, h2])
      refine walk_of (ds := gs.map encP) (S := S2) (.inl rfl) .refl fun chk3 hc3 => ?_
      refine lc_fm encP (fun p => some (encP (p.1, v * p.2))) (hc3 _ .refl) gs [] ?_ (by have := hg.len; simp at this ⊢; omega) ?_
      · rintro ⟨y, w⟩ hy K2 hK2
        unfold encP
        simp only [wpS, wp, wpEs, wpO, wpIf, wpI, wpAnd, wpOr, ofE, truthOf, asgW, asgWs, tgLen, List.getElem?_cons_zero, List.getElem?_cons_succ, List.set_cons_zero, List.set_cons_succ, ixC, ixL, setC, bopW, addW, subW, mulW, fdivW, modW, powW, negW, bfW, cmpC, eqC, ltC, leC, isC, inC, truC, slC, itemsL, tyName, fldC, up_same, atI_0, atI_1, atI_2, atI_3, atI_4, atI_5, ixN_0, ixN_1, ixN_2, ixN_3, wpSs_nil, wipeE, true_and, and_true, if_true, Bool.false_eq_true, if_false, Bool.not_true, Bool.not_false, decide_true, decide_false, tyIn1, tyIn2, tyIn3, tyIn4, tyIn5, isT_int_int, isT_int_str, isT_int_bool, isT_int_tuple, isT_int_list, isT_str_int, isT_str_str, isT_str_bool, isT_str_tuple, isT_str_list, isT_tuple_int, isT_tuple_str, isT_tuple_bool, isT_tuple_tuple, isT_tuple_list, isT_bool_int, isT_bool_str, isT_bool_bool, isT_bool_tuple, isT_bool_list]
        exact ⟨rfl, wide_mul hv (hg.sm.2 _ hy) (by decide) (by decide) (by decide), by simp [hsz], hK2⟩
      · intro p hp
        have hrp : r ≠ p := by rintro rfl; rw [h2] at hp; cases hp
        have h2' : up S2 p (.lst ([] ++ gs.filterMap fun p => some (encP (p.1, v * p.2)))) r = some (.lst ((impP G pre).map encP)) := by rw [up_ne hrp]; exact h2
        simp only [wpS, wp, wpEs, wpO, wpIf, wpI, wpAnd, wpOr, ofE, truthOf, asgW, asgWs, tgLen, List.getElem?_cons_zero, List.getElem?_cons_succ, List.set_cons_zero, List.set_cons_succ, ixC, ixL, setC, bopW, addW, subW, mulW, fdivW, modW, powW, negW, bfW, cmpC, eqC, ltC, leC, isC, inC, truC, slC, itemsL, tyName, fldC, up_same, atI_0, atI_1, atI_2, atI_3, atI_4, atI_5, ixN_0, ixN_1, ixN_2, ixN_3, wpSs_nil, wipeE, true_and, and_true, if_true, Bool.false_eq_true, if_false, Bool.not_true, Bool.not_false, decide_true, decide_false, tyIn1, tyIn2, tyIn3, tyIn4, tyIn5, isT_int_int, isT_int_str, isT_int_bool, isT_int_tuple, isT_int_list, isT_str_int, isT_str_str, isT_str_bool, isT_str_tuple, isT_str_list, isT_tuple_int, isT_tuple_str, isT_tuple_bool, isT_tuple_tuple, isT_tuple_list, isT_bool_int, isT_bool_str, isT_bool_bool, isT_bool_tuple, isT_bool_list, h2']
        have hgl := hg.len
        refine ⟨by simp at hgl ⊢; omega, hK _ _ ⟨⟨_, _, _, _, _, by rw [impC_snoc]; unfold stC; rw [hl]; rfl⟩, ?_, (g2.new' hp).set hr⟩⟩
        rw [up_same, impP_snoc]
        unfold stP
        rw [hl, List.map_append, List.nil_append, List.filterMap_eq_map']
        unfold mulP
        rw [List.map_map] <;> rfl
  · rintro ρ S2 ⟨⟨x0, x1, x2, x3, x4, rfl⟩, h2, g2⟩
    refine ⟨hc2 _ g2, ?_⟩
    (rw [wpSs_cons]; simp only [wpS, wp, wpEs, wpO, wpIf, wpI, wpAnd, wpOr, ofE, truthOf, asgW, asgWs, tgLen, List.getElem?_cons_zero, List.getElem?_cons_succ, List.set_cons_zero, List.set_cons_succ, ixC, ixL, setC, bopW, addW, subW, mulW, fdivW, modW, powW, negW, bfW, cmpC, eqC, ltC, leC, isC, inC, truC, slC, itemsL, tyName, fldC, up_same, atI_0, atI_1, atI_2, atI_3, atI_4, atI_5, ixN_0, ixN_1, ixN_2, ixN_3, wpSs_nil, wipeE, true_and, and_true, if_true, Bool.false_eq_true, if_false, Bool.not_true, Bool.not_false, decide_true, decide_false, tyIn1, tyIn2, tyIn3, tyIn4, tyIn5, isT_int_int, isT_int_str, isT_int_bool, isT_int_tuple, isT_int_list, isT_str_int, isT_str_str, isT_str_bool, isT_str_tuple, isT_str_list, isT_tuple_int, isT_tuple_str, isT_tuple_bool, isT_tuple_tuple, isT_tuple_list, isT_bool_int, isT_bool_str, isT_bool_bool, isT_bool_tuple, isT_bool_list])
    have h2 : S2 r = some (.lst ((impP G (c, fs).2).map encP)) := h2
    rw [him.2] at h2
    have e1 : impC G c fs = sumC (putPs (c, fs) G) := him.1
    rw [e1]
    refine form_w (k := k) (ps := sumP (putPs (c, fs) G)) (.inr ⟨r, rfl, h2⟩) (by have := sums_few kl; omega) (by omega) fun S3 g3 => ret_ok (hQ S3 ((gt.trans g2).trans g3))

def valF (N : Str → Int) (f : Fm) : Int := f.1 + valP N f.2
theorem getA_rev {ps : Ps} (h : (ps.map (·.1)).Nodup) (x : Str) : getA ps.reverse x = getA ps x := by
  by_cases hx : x ∈ ps.map (·.1)
  · obtain ⟨p, hp, rfl⟩ := List.mem_map.mp hx
    rw [getA_mem h hp, getA_mem (by rw [List.map_reverse]; exact (List.reverse_perm _).nodup_iff.mpr h) (List.mem_reverse.mpr hp)]
  · rw [getA_none hx, getA_none (by rw [List.map_reverse, List.mem_reverse]; exact hx)]
theorem sum_valP (N : Str → Int) : ∀ ps : Ps, (ps.map fun p => p.2 * N p.1).sum = valP N ps
  | [] => rfl
  | p :: ps => by rw [List.map_cons, List.sum_cons, sum_valP N ps] <;> rfl
theorem value_w {k : Nat} {S : Sto} {f : Fm} {N : Ps} {b : Nat} {Q : PK D} (hb : b ≤ 500000) (hb0 : 0 < b) (hn : (N.map (·.1)).Nodup) (hN : Bd (10 ^ 44) N) (hk : ∀ p ∈ f.2, p.1 ∈ N.map (·.1)) (hf : ∀ p ∈ f.2, p.2.natAbs < 2 ^ b) (hl : f.2.length ≤ 1000) (hNl : N.length ≤ 1000)
    (hQ : ∀ S1, Gr [] S S1 → Q (.int (valF (getA N) f)) S1) : cl (k + 1) "value" [formD f, .tup (N.map encP)] S Q := by
  refine cl_run (d := f_value) rfl ⟨rfl, ?_⟩
  show wpSs (gk k) _ (enR Q) [some (formD f), some (.tup (N.map encP)), none, none, none, none] S
  have hsz : sizeLine = 2 ^ 24 := rfl
  obtain ⟨c, fs⟩ := f
  unfold f_value
  (rw [wpSs_cons]; simp only [wpS, wp, wpEs, wpO, wpIf, wpI, wpAnd, wpOr, ofE, truthOf, asgW, asgWs, tgLen, List.getElem?_cons_zero, List.getElem?_cons_succ, List.set_cons_zero, List.set_cons_succ, ixC, ixL, setC, bopW, addW, subW, mulW, fdivW, modW, powW, negW, bfW, cmpC, eqC, ltC, leC, isC, inC, truC, slC, itemsL, tyName, fldC, up_same, atI_0, atI_1, atI_2, atI_3, atI_4, atI_5, ixN_0, ixN_1, ixN_2, ixN_3, wpSs_nil, wipeE, true_and, and_true, if_true, Bool.false_eq_true, if_false, Bool.not_true, Bool.not_false, decide_true, decide_false, tyIn1, tyIn2, tyIn3, tyIn4, tyIn5, isT_int_int, isT_int_str, isT_int_bool, isT_int_tuple, isT_int_list, isT_str_int, isT_str_str, isT_str_bool, isT_str_tuple, isT_str_list, isT_tuple_int, isT_tuple_str, isT_tuple_bool, isT_tuple_tuple, isT_tuple_list, isT_bool_int, isT_bool_str, isT_bool_bool, isT_bool_tuple, isT_bool_list])
  refine walk_of (ds := N.map encP) (S := S) (.inl rfl) .refl fun chk hc => ?_
  refine dc_new encP (·.1) (fun p => .int p.2) (hc _ .refl) N ?_ hn (by omega) ?_
  · rintro ⟨x, v⟩ hx K hK
    unfold encP
    simp only [wpS, wp, wpEs, wpO, wpIf, wpI, wpAnd, wpOr, ofE, truthOf, asgW, asgWs, tgLen, List.getElem?_cons_zero, List.getElem?_cons_succ, List.set_cons_zero, List.set_cons_succ, ixC, ixL, setC, bopW, addW, subW, mulW, fdivW, modW, powW, negW, bfW, cmpC, eqC, ltC, leC, isC, inC, truC, slC, itemsL, tyName, fldC, up_same, atI_0, atI_1, atI_2, atI_3, atI_4, atI_5, ixN_0, ixN_1, ixN_2, ixN_3, wpSs_nil, wipeE, true_and, and_true, if_true, Bool.false_eq_true, if_false, Bool.not_true, Bool.not_false, decide_true, decide_false, tyIn1, tyIn2, tyIn3, tyIn4, tyIn5, isT_int_int, isT_int_str, isT_int_bool, isT_int_tuple, isT_int_list, isT_str_int, isT_str_str, isT_str_bool, isT_str_tuple, isT_str_list, isT_tuple_int, isT_tuple_str, isT_tuple_bool, isT_tuple_tuple, isT_tuple_list, isT_bool_int, isT_bool_str, isT_bool_bool, isT_bool_tuple, isT_bool_list]
    exact ⟨rfl, hK⟩
  intro t ht
  have gt : Gr [] S (up S t (.dic (dicX (N.map fun p => (p.1, .int p.2))))) := .new ht
  have e0 : dicX (N.map fun p => (p.1, D.int p.2)) = dicE N := by unfold dicX dicE; rw [List.map_map] <;> rfl
  rw [e0] at gt ⊢
  have htt := up_same (S := S) (a := t) (o := .dic (dicE N))
  generalize up S t (.dic (dicE N)) = S1 at gt htt ⊢
  unfold formD tupP
  (rw [wpSs_cons]; simp only [wpS, wp, wpEs, wpO, wpIf, wpI, wpAnd, wpOr, ofE, truthOf, asgW, asgWs, tgLen, List.getElem?_cons_zero, List.getElem?_cons_succ, List.set_cons_zero, List.set_cons_succ, ixC, ixL, setC, bopW, addW, subW, mulW, fdivW, modW, powW, negW, bfW, cmpC, eqC, ltC, leC, isC, inC, truC, slC, itemsL, tyName, fldC, up_same, atI_0, atI_1, atI_2, atI_3, atI_4, atI_5, ixN_0, ixN_1, ixN_2, ixN_3, wpSs_nil, wipeE, true_and, and_true, if_true, Bool.false_eq_true, if_false, Bool.not_true, Bool.not_false, decide_true, decide_false, tyIn1, tyIn2, tyIn3, tyIn4, tyIn5, isT_int_int, isT_int_str, isT_int_bool, isT_int_tuple, isT_int_list, isT_str_int, isT_str_str, isT_str_bool, isT_str_tuple, isT_str_list, isT_tuple_int, isT_tuple_str, isT_tuple_bool, isT_tuple_tuple, isT_tuple_list, isT_bool_int, isT_bool_str, isT_bool_bool, isT_bool_tuple, isT_bool_list])
  refine walk_of (ds := fs.map encP) (S := S1) (.inl rfl) .refl fun chk2 hc2 => ?_
  refine lc_fm encP (fun p => some (.int (p.2 * getA N p.1))) (hc2 _ .refl) fs [] ?_ (by simp at hl ⊢; omega) ?_
  · rintro ⟨x, v⟩ hx K hK
    have hm := find_mem (hk _ hx)
    unfold encP
    simp only [wpS, wp, wpEs, wpO, wpIf, wpI, wpAnd, wpOr, ofE, truthOf, asgW, asgWs, tgLen, List.getElem?_cons_zero, List.getElem?_cons_succ, List.set_cons_zero, List.set_cons_succ, ixC, ixL, setC, bopW, addW, subW, mulW, fdivW, modW, powW, negW, bfW, cmpC, eqC, ltC, leC, isC, inC, truC, slC, itemsL, tyName, fldC, up_same, atI_0, atI_1, atI_2, atI_3, atI_4, atI_5, ixN_0, ixN_1, ixN_2, ixN_3, wpSs_nil, wipeE, true_and, and_true, if_true, Bool.false_eq_true, if_false, Bool.not_true, Bool.not_false, decide_true, decide_false, tyIn1, tyIn2, tyIn3, tyIn4, tyIn5, isT_int_int, isT_int_str, isT_int_bool, isT_int_tuple, isT_int_list, isT_str_int, isT_str_str, isT_str_bool, isT_str_tuple, isT_str_list, isT_tuple_int, isT_tuple_str, isT_tuple_bool, isT_tuple_tuple, isT_tuple_list, isT_bool_int, isT_bool_str, isT_bool_bool, isT_bool_tuple, isT_bool_list, htt, keyOf, hm]
    have hNx : (getA N x).natAbs < 2 ^ 160 := by
      obtain ⟨p, hp, e⟩ := List.mem_map.mp (hk _ hx)
      have e' : p.1 = x := e
      rw [← e', getA_mem hn hp]
      exact big_sm (hN p hp)
    exact ⟨rfl, wide_mul (hf _ hx) hNx hb0 (by decide) (by omega), hK⟩
  · intro p hp
    have e : [] ++ fs.filterMap (fun p => some (D.int (p.2 * getA N p.1))) = (fs.map fun p => p.2 * getA N p.1).map D.int := by
      rw [List.nil_append, List.filterMap_eq_map', List.map_map] <;> rfl
    rw [e]
    simp only [wpS, wp, wpEs, wpO, wpIf, wpI, wpAnd, wpOr, ofE, truthOf, asgW, asgWs, tgLen, List.getElem?_cons_zero, List.getElem?_cons_succ, List.set_cons_zero, List.set_cons_succ, ixC, ixL, setC, bopW, addW, subW, mulW, fdivW, modW, powW, negW, bfW, cmpC, eqC, ltC, leC, isC, inC, truC, slC, itemsL, tyName, fldC, up_same, atI_0, atI_1, atI_2, atI_3, atI_4, atI_5, ixN_0, ixN_1, ixN_2, ixN_3, wpSs_nil, wipeE, true_and, and_true, if_true, Bool.false_eq_true, if_false, Bool.not_true, Bool.not_false, decide_true, decide_false, tyIn1, tyIn2, tyIn3, tyIn4, tyIn5, isT_int_int, isT_int_str, isT_int_bool, isT_int_tuple, isT_int_list, isT_str_int, isT_str_str, isT_str_bool, isT_str_tuple, isT_str_list, isT_tuple_int, isT_tuple_str, isT_tuple_bool, isT_tuple_tuple, isT_tuple_list, isT_bool_int, isT_bool_str, isT_bool_bool, isT_bool_tuple, isT_bool_list, intsOf_map]
    rw [sum_valP]
    exact ret_ok (hQ _ (gt.trans (.new hp)))
theorem at_w {k : Nat} {S : Sto} {f : Fm} {N : Ps} {t : Addr} {Q : PK D} (ht : S t = some (.dic (dicE N))) (hk : ∀ p ∈ f.2, p.1 ∈ N.map (·.1)) (hf : Sm 160 f) (hN : Bd (2 ^ 400) N) (hn : (N.map (·.1)).Nodup)
    (hQ : Q (.int (valF (getA N) f)) S) : cl (k + 1) "_law_at" [formD f, .int 1, .ref t] S Q := by
  refine cl_run (d := f__law_at) rfl ⟨rfl, ?_⟩
  show wpSs (gk k) _ (enR Q) [some (formD f), some (.int 1), some (.ref t), none, none, none] S
  have hsz : sizeLine = 2 ^ 24 := rfl
  obtain ⟨c, fs⟩ := f
  unfold f__law_at formD tupP
  (rw [wpSs_cons]; simp only [wpS, wp, wpEs, wpO, wpIf, wpI, wpAnd, wpOr, ofE, truthOf, asgW, asgWs, tgLen, List.getElem?_cons_zero, List.getElem?_cons_succ, List.set_cons_zero, List.set_cons_succ, ixC, ixL, setC, bopW, addW, subW, mulW, fdivW, modW, powW, negW, bfW, cmpC, eqC, ltC, leC, isC, inC, truC, slC, itemsL, tyName, fldC, up_same, atI_0, atI_1, atI_2, atI_3, atI_4, atI_5, ixN_0, ixN_1, ixN_2, ixN_3, wpSs_nil, wipeE, true_and, and_true, if_true, Bool.false_eq_true, if_false, Bool.not_true, Bool.not_false, decide_true, decide_false, tyIn1, tyIn2, tyIn3, tyIn4, tyIn5, isT_int_int, isT_int_str, isT_int_bool, isT_int_tuple, isT_int_list, isT_str_int, isT_str_str, isT_str_bool, isT_str_tuple, isT_str_list, isT_tuple_int, isT_tuple_str, isT_tuple_bool, isT_tuple_tuple, isT_tuple_list, isT_bool_int, isT_bool_str, isT_bool_bool, isT_bool_tuple, isT_bool_list])
  refine ⟨wide_mul (a := 64) (by decide) hf.1 (by decide) (by decide) (by decide), ?_⟩
  rw [Int.one_mul]
  (rw [wpSs_cons]; simp only [wpS, wp, wpEs, wpO, wpIf, wpI, wpAnd, wpOr, ofE, truthOf, asgW, asgWs, tgLen, List.getElem?_cons_zero, List.getElem?_cons_succ, List.set_cons_zero, List.set_cons_succ, ixC, ixL, setC, bopW, addW, subW, mulW, fdivW, modW, powW, negW, bfW, cmpC, eqC, ltC, leC, isC, inC, truC, slC, itemsL, tyName, fldC, up_same, atI_0, atI_1, atI_2, atI_3, atI_4, atI_5, ixN_0, ixN_1, ixN_2, ixN_3, wpSs_nil, wipeE, true_and, and_true, if_true, Bool.false_eq_true, if_false, Bool.not_true, Bool.not_false, decide_true, decide_false, tyIn1, tyIn2, tyIn3, tyIn4, tyIn5, isT_int_int, isT_int_str, isT_int_bool, isT_int_tuple, isT_int_list, isT_str_int, isT_str_str, isT_str_bool, isT_str_tuple, isT_str_list, isT_tuple_int, isT_tuple_str, isT_tuple_bool, isT_tuple_tuple, isT_tuple_list, isT_bool_int, isT_bool_str, isT_bool_bool, isT_bool_tuple, isT_bool_list])
  refine walk_of (ds := fs.map encP) (S := S) (.inl rfl) .refl fun chk hc => ?_
  refine pre_loop encP (fun pre ρ S1 => (∃ (x y : Option D), ρ = [some (formD (c, fs)), some (.int 1), some (.ref t), some (.int (c + valP (getA N) pre)), x, y]) ∧ S1 = S) fs ?_ ?_ ⟨⟨_, _, by unfold valP; rw [Int.add_zero]; rfl⟩, rfl⟩
  · rintro pre ⟨x, v⟩ post e ρ S1 K ⟨⟨x0, y0, rfl⟩, rfl⟩ hK
    refine ⟨hc _ .refl, ?_⟩
    have hx : (x, v) ∈ fs := by rw [e]; simp
    have hm := find_mem (hk _ hx)
    have hNx : (getA N x).natAbs ≤ 2 ^ 400 := by
      obtain ⟨p, hp, e⟩ := List.mem_map.mp (hk _ hx)
      have e' : p.1 = x := e
      rw [← e', getA_mem hn hp]
      exact hN p hp
    unfold encP
    simp only [wpS, wp, wpEs, wpO, wpIf, wpI, wpAnd, wpOr, ofE, truthOf, asgW, asgWs, tgLen, List.getElem?_cons_zero, List.getElem?_cons_succ, List.set_cons_zero, List.set_cons_succ, ixC, ixL, setC, bopW, addW, subW, mulW, fdivW, modW, powW, negW, bfW, cmpC, eqC, ltC, leC, isC, inC, truC, slC, itemsL, tyName, fldC, up_same, atI_0, atI_1, atI_2, atI_3, atI_4, atI_5, ixN_0, ixN_1, ixN_2, ixN_3, wpSs_nil, wipeE, true_and, and_true, if_true, Bool.false_eq_true, if_false, Bool.not_true, Bool.not_false, decide_true, decide_false, tyIn1, tyIn2, tyIn3, tyIn4, tyIn5, isT_int_int, isT_int_str, isT_int_bool, isT_int_tuple, isT_int_list, isT_str_int, isT_str_str, isT_str_bool, isT_str_tuple, isT_str_list, isT_tuple_int, isT_tuple_str, isT_tuple_bool, isT_tuple_tuple, isT_tuple_list, isT_bool_int, isT_bool_str, isT_bool_bool, isT_bool_tuple, isT_bool_list, wpSs_cons, ht, keyOf, hm]
    refine ⟨rfl, wide_mul (hf.2 _ hx) (b := 401) (Nat.lt_of_le_of_lt hNx (Nat.pow_lt_pow_right (by decide) (by decide))) (by decide) (by decide) (by decide), hK _ _ ⟨⟨some (.str x), some (.int v), ?_⟩, rfl⟩⟩
    have : c + valP (getA N) pre + v * getA N x = c + valP (getA N) (pre ++ [(x, v)]) := by
      rw [valP_app]
      show _ = c + (valP (getA N) pre + (v * getA N x + 0))
      omega
    rw [this]
  · rintro ρ S1 ⟨⟨x0, y0, rfl⟩, rfl⟩
    refine ⟨hc _ .refl, ?_⟩
    (rw [wpSs_cons]; simp only [wpS, wp, wpEs, wpO, wpIf, wpI, wpAnd, wpOr, ofE, truthOf, asgW, asgWs, tgLen, List.getElem?_cons_zero, List.getElem?_cons_succ, List.set_cons_zero, List.set_cons_succ, ixC, ixL, setC, bopW, addW, subW, mulW, fdivW, modW, powW, negW, bfW, cmpC, eqC, ltC, leC, isC, inC, truC, slC, itemsL, tyName, fldC, up_same, atI_0, atI_1, atI_2, atI_3, atI_4, atI_5, ixN_0, ixN_1, ixN_2, ixN_3, wpSs_nil, wipeE, true_and, and_true, if_true, Bool.false_eq_true, if_false, Bool.not_true, Bool.not_false, decide_true, decide_false, tyIn1, tyIn2, tyIn3, tyIn4, tyIn5, isT_int_int, isT_int_str, isT_int_bool, isT_int_tuple, isT_int_list, isT_str_int, isT_str_str, isT_str_bool, isT_str_tuple, isT_str_list, isT_tuple_int, isT_tuple_str, isT_tuple_bool, isT_tuple_tuple, isT_tuple_list, isT_bool_int, isT_bool_str, isT_bool_bool, isT_bool_tuple, isT_bool_list])
    exact ret_ok hQ
/-- the value of the image -/
theorem value_image (N : Str → Int) {nms : List Str} (hn : nms.Nodup) (f : Fm) (G : Gs) (hk : ∀ p ∈ sumP (putPs f G), p.1 ∈ nms) : valF N (formF (sumC (putPs f G)) (sumP (putPs f G))) = valF (fun x => valF N (sub G x)) f := by
  unfold valF
  show sumC (putPs f G) + valP N (formF (sumC (putPs f G)) (sumP (putPs f G))).2 = _
  rw [valP_formF N hn hk]
  obtain ⟨c, fs⟩ := f
  have key : ∀ (ps : Ps) (z : Int), (ps.map fun p => (p.2, sub G p.1)).foldl (fun c p => c + p.1 * p.2.1) z + valP N (sumP (ps.map fun p => (p.2, sub G p.1))) = z + valP (fun x => (sub G x).1 + valP N (sub G x).2) ps := by
    intro ps
    induction ps with
    | nil => intro z; rfl
    | cons p ps ih =>
      intro z
      rw [List.map_cons, List.foldl_cons]
      have e1 : sumP ((p.2, sub G p.1) :: ps.map fun p => (p.2, sub G p.1)) = mulP p.2 (sub G p.1).2 ++ sumP (ps.map fun p => (p.2, sub G p.1)) := rfl
      have e2 : valP N (mulP p.2 (sub G p.1).2) = p.2 * valP N (sub G p.1).2 := valP_mul N p.2 _
      have e3 : valP (fun x => (sub G x).1 + valP N (sub G x).2) (p :: ps) = p.2 * ((sub G p.1).1 + valP N (sub G p.1).2) + valP (fun x => (sub G x).1 + valP N (sub G x).2) ps := rfl
      have := ih (z + p.2 * (sub G p.1).1)
      rw [e1, valP_app, e2, e3, Int.mul_add]
      show List.foldl _ (z + p.2 * (sub G p.1).1) _ + _ = _
      omega
  have := key fs c
  have e1 : sumC (putPs (c, fs) G) = (fs.map fun p => (p.2, sub G p.1)).foldl (fun c p => c + p.1 * p.2.1) c := by
    unfold sumC putPs
    rw [List.foldl_cons]
    show List.foldl _ (0 + 1 * c) _ = _
    rw [show (0 : Int) + 1 * c = c by omega]
  have e2 : sumP (putPs (c, fs) G) = sumP (fs.map fun p => (p.2, sub G p.1)) := rfl
  rw [e1, e2]
  exact this
theorem valP_congr {N M : Str → Int} : ∀ {ps : Ps}, (∀ p ∈ ps, N p.1 = M p.1) → valP N ps = valP M ps
  | [], _ => rfl
  | p :: ps, h => by
    show p.2 * N p.1 + valP N ps = p.2 * M p.1 + valP M ps
    rw [h p (by simp), valP_congr fun q hq => h q (by simp [hq])]

theorem gx_snoc (pre : Gs) (p : Str × Fm) : gx (pre ++ [p]) = gx pre ++ [(p.1, formD p.2)] := by unfold gx; simp
theorem gx_keys (G : Gs) : (gx G).map (·.1) = G.map (·.1) := by unfold gx; rw [List.map_map] <;> rfl
theorem law_w (ns : List Int) (S : Sto) : cl 6 "law" [.scr ns] S fun d _ => d = .bl true := by
  refine cl_run (d := f_law) rfl ⟨rfl, ?_⟩
  show wpSs (gk 5) _ (enR _) [some (.scr ns), none, none, none, none, none, none, none, none, none, none, none, none, none, none] S
  have hsz : sizeLine = 2 ^ 24 := rfl
  unfold f_law
  (rw [wpSs_cons]; simp only [wpS, wp, wpEs, wpO, wpIf, wpI, wpAnd, wpOr, ofE, truthOf, asgW, asgWs, tgLen, List.getElem?_cons_zero, List.getElem?_cons_succ, List.set_cons_zero, List.set_cons_succ, ixC, ixL, setC, bopW, addW, subW, mulW, fdivW, modW, powW, negW, bfW, cmpC, eqC, ltC, leC, isC, inC, truC, slC, itemsL, tyName, fldC, up_same, atI_0, atI_1, atI_2, atI_3, atI_4, atI_5, ixN_0, ixN_1, ixN_2, ixN_3, wpSs_nil, wipeE, true_and, and_true, if_true, Bool.false_eq_true, if_false, Bool.not_true, Bool.not_false, decide_true, decide_false, tyIn1, tyIn2, tyIn3, tyIn4, tyIn5, isT_int_int, isT_int_str, isT_int_bool, isT_int_tuple, isT_int_list, isT_str_int, isT_str_str, isT_str_bool, isT_str_tuple, isT_str_list, isT_tuple_int, isT_tuple_str, isT_tuple_bool, isT_tuple_tuple, isT_tuple_list, isT_bool_int, isT_bool_str, isT_bool_bool, isT_bool_tuple, isT_bool_list])
  refine start_w fun a b S1 s1 g1 => ?_
  (rw [wpSs_cons]; simp only [wpS, wp, wpEs, wpO, wpIf, wpI, wpAnd, wpOr, ofE, truthOf, asgW, asgWs, tgLen, List.getElem?_cons_zero, List.getElem?_cons_succ, List.set_cons_zero, List.set_cons_succ, ixC, ixL, setC, bopW, addW, subW, mulW, fdivW, modW, powW, negW, bfW, cmpC, eqC, ltC, leC, isC, inC, truC, slC, itemsL, tyName, fldC, up_same, atI_0, atI_1, atI_2, atI_3, atI_4, atI_5, ixN_0, ixN_1, ixN_2, ixN_3, wpSs_nil, wipeE, true_and, and_true, if_true, Bool.false_eq_true, if_false, Bool.not_true, Bool.not_false, decide_true, decide_false, tyIn1, tyIn2, tyIn3, tyIn4, tyIn5, isT_int_int, isT_int_str, isT_int_bool, isT_int_tuple, isT_int_list, isT_str_int, isT_str_str, isT_str_bool, isT_str_tuple, isT_str_list, isT_tuple_int, isT_tuple_str, isT_tuple_bool, isT_tuple_tuple, isT_tuple_list, isT_bool_int, isT_bool_str, isT_bool_bool, isT_bool_tuple, isT_bool_list])
  refine draw_w (by omega) (by decide) (by decide) s1 fun u S2 u0 u1 g2 s2 => ?_
  simp only [wpS, wp, wpEs, wpO, wpIf, wpI, wpAnd, wpOr, ofE, truthOf, asgW, asgWs, tgLen, List.getElem?_cons_zero, List.getElem?_cons_succ, List.set_cons_zero, List.set_cons_succ, ixC, ixL, setC, bopW, addW, subW, mulW, fdivW, modW, powW, negW, bfW, cmpC, eqC, ltC, leC, isC, inC, truC, slC, itemsL, tyName, fldC, up_same, atI_0, atI_1, atI_2, atI_3, atI_4, atI_5, ixN_0, ixN_1, ixN_2, ixN_3, wpSs_nil, wipeE, true_and, and_true, if_true, Bool.false_eq_true, if_false, Bool.not_true, Bool.not_false, decide_true, decide_false, tyIn1, tyIn2, tyIn3, tyIn4, tyIn5, isT_int_int, isT_int_str, isT_int_bool, isT_int_tuple, isT_int_list, isT_str_int, isT_str_str, isT_str_bool, isT_str_tuple, isT_str_list, isT_tuple_int, isT_tuple_str, isT_tuple_bool, isT_tuple_tuple, isT_tuple_list, isT_bool_int, isT_bool_str, isT_bool_bool, isT_bool_tuple, isT_bool_list]
  have hu : (1 + u : Int) = ((1 + u).toNat : Int) := by omega
  rw [hu]
  refine pool_w (k := 2) (by omega) (by omega) s2 fun q nms S3 hq1 hq hnl hn0 hlen hnd g3 s3 => ?_
  have hqa := s2.ne hq1
  have hn5 : nms.length ≤ 5 := by omega
  replace hn0 := hn0 (by omega)
  (rw [wpSs_cons]; simp only [wpS, wp, wpEs, wpO, wpIf, wpI, wpAnd, wpOr, ofE, truthOf, asgW, asgWs, tgLen, List.getElem?_cons_zero, List.getElem?_cons_succ, List.set_cons_zero, List.set_cons_succ, ixC, ixL, setC, bopW, addW, subW, mulW, fdivW, modW, powW, negW, bfW, cmpC, eqC, ltC, leC, isC, inC, truC, slC, itemsL, tyName, fldC, up_same, atI_0, atI_1, atI_2, atI_3, atI_4, atI_5, ixN_0, ixN_1, ixN_2, ixN_3, wpSs_nil, wipeE, true_and, and_true, if_true, Bool.false_eq_true, if_false, Bool.not_true, Bool.not_false, decide_true, decide_false, tyIn1, tyIn2, tyIn3, tyIn4, tyIn5, isT_int_int, isT_int_str, isT_int_bool, isT_int_tuple, isT_int_list, isT_str_int, isT_str_str, isT_str_bool, isT_str_tuple, isT_str_list, isT_tuple_int, isT_tuple_str, isT_tuple_bool, isT_tuple_tuple, isT_tuple_list, isT_bool_int, isT_bool_str, isT_bool_bool, isT_bool_tuple, isT_bool_list])
  refine drawn_w (k := 1) (by omega) s3 hq hqa hn5 fun L S4 fL g4 s4 => ?_
  have hq4 := g4 q _ (by simpa using hqa) hq
  (rw [wpSs_cons]; simp only [wpS, wp, wpEs, wpO, wpIf, wpI, wpAnd, wpOr, ofE, truthOf, asgW, asgWs, tgLen, List.getElem?_cons_zero, List.getElem?_cons_succ, List.set_cons_zero, List.set_cons_succ, ixC, ixL, setC, bopW, addW, subW, mulW, fdivW, modW, powW, negW, bfW, cmpC, eqC, ltC, leC, isC, inC, truC, slC, itemsL, tyName, fldC, up_same, atI_0, atI_1, atI_2, atI_3, atI_4, atI_5, ixN_0, ixN_1, ixN_2, ixN_3, wpSs_nil, wipeE, true_and, and_true, if_true, Bool.false_eq_true, if_false, Bool.not_true, Bool.not_false, decide_true, decide_false, tyIn1, tyIn2, tyIn3, tyIn4, tyIn5, isT_int_int, isT_int_str, isT_int_bool, isT_int_tuple, isT_int_list, isT_str_int, isT_str_str, isT_str_bool, isT_str_tuple, isT_str_list, isT_tuple_int, isT_tuple_str, isT_tuple_bool, isT_tuple_tuple, isT_tuple_list, isT_bool_int, isT_bool_str, isT_bool_bool, isT_bool_tuple, isT_bool_list])
  refine pairs_w (k := 0) (by omega) s4 hq4 hqa hn5 hnd fun r G S5 hr0 hr hGl fG g5 s5 => ?_
  have hra := s4.ne hr0
  have hq5 := g5 q _ (by simpa using hqa) hq4
  -- the table
  (rw [wpSs_cons]; simp only [wpS, wp, wpEs, wpO, wpIf, wpI, wpAnd, wpOr, ofE, truthOf, asgW, asgWs, tgLen, List.getElem?_cons_zero, List.getElem?_cons_succ, List.set_cons_zero, List.set_cons_succ, ixC, ixL, setC, bopW, addW, subW, mulW, fdivW, modW, powW, negW, bfW, cmpC, eqC, ltC, leC, isC, inC, truC, slC, itemsL, tyName, fldC, up_same, atI_0, atI_1, atI_2, atI_3, atI_4, atI_5, ixN_0, ixN_1, ixN_2, ixN_3, wpSs_nil, wipeE, true_and, and_true, if_true, Bool.false_eq_true, if_false, Bool.not_true, Bool.not_false, decide_true, decide_false, tyIn1, tyIn2, tyIn3, tyIn4, tyIn5, isT_int_int, isT_int_str, isT_int_bool, isT_int_tuple, isT_int_list, isT_str_int, isT_str_str, isT_str_bool, isT_str_tuple, isT_str_list, isT_tuple_int, isT_tuple_str, isT_tuple_bool, isT_tuple_tuple, isT_tuple_list, isT_bool_int, isT_bool_str, isT_bool_bool, isT_bool_tuple, isT_bool_list])
  intro t ht
  have hta := s5.ne ht
  (rw [wpSs_cons]; simp only [wpS, wp, wpEs, wpO, wpIf, wpI, wpAnd, wpOr, ofE, truthOf, asgW, asgWs, tgLen, List.getElem?_cons_zero, List.getElem?_cons_succ, List.set_cons_zero, List.set_cons_succ, ixC, ixL, setC, bopW, addW, subW, mulW, fdivW, modW, powW, negW, bfW, cmpC, eqC, ltC, leC, isC, inC, truC, slC, itemsL, tyName, fldC, up_same, atI_0, atI_1, atI_2, atI_3, atI_4, atI_5, ixN_0, ixN_1, ixN_2, ixN_3, wpSs_nil, wipeE, true_and, and_true, if_true, Bool.false_eq_true, if_false, Bool.not_true, Bool.not_false, decide_true, decide_false, tyIn1, tyIn2, tyIn3, tyIn4, tyIn5, isT_int_int, isT_int_str, isT_int_bool, isT_int_tuple, isT_int_list, isT_str_int, isT_str_str, isT_str_bool, isT_str_tuple, isT_str_list, isT_tuple_int, isT_tuple_str, isT_tuple_bool, isT_tuple_tuple, isT_tuple_list, isT_bool_int, isT_bool_str, isT_bool_bool, isT_bool_tuple, isT_bool_list])
  refine walk_of (ds := G.map encG) (S := S5) (.inr ⟨r, rfl, hr⟩) (.new ht) fun chk hc => ?_
  refine pre_loop encG (fun pre ρ S6 => (∃ (x y : Option D), ρ = [some (.scr ns), some (.ref a), some (.ref q), some (formD L), some (.ref r), some (.ref t), none, none, none, none, x, none, none, y, none]) ∧ S6 t = some (.dic (dicX (gx pre))) ∧ Gr [] S5 S6) G ?_ ?_ ⟨⟨_, _, rfl⟩, up_same, .new ht⟩
  · rintro pre ⟨x, f⟩ post e ρ S6 K ⟨⟨x0, y0, rfl⟩, h6, g6⟩ hK
    refine ⟨hc _ g6, ?_⟩
    have hx : x ∉ (gx pre).map (·.1) := by
      rw [gx_keys]
      have := fG.nd
      rw [e, List.map_append, List.nodup_append] at this
      exact fun q => this.2.2 _ q _ (by simp) rfl
    have hpl : pre.length < 5 := by have := congrArg List.length e; simp at this; omega
    unfold encG
    simp only [wpS, wp, wpEs, wpO, wpIf, wpI, wpAnd, wpOr, ofE, truthOf, asgW, asgWs, tgLen, List.getElem?_cons_zero, List.getElem?_cons_succ, List.set_cons_zero, List.set_cons_succ, ixC, ixL, setC, bopW, addW, subW, mulW, fdivW, modW, powW, negW, bfW, cmpC, eqC, ltC, leC, isC, inC, truC, slC, itemsL, tyName, fldC, up_same, atI_0, atI_1, atI_2, atI_3, atI_4, atI_5, ixN_0, ixN_1, ixN_2, ixN_3, wpSs_nil, wipeE, true_and, and_true, if_true, Bool.false_eq_true, if_false, Bool.not_true, Bool.not_false, decide_true, decide_false, tyIn1, tyIn2, tyIn3, tyIn4, tyIn5, isT_int_int, isT_int_str, isT_int_bool, isT_int_tuple, isT_int_list, isT_str_int, isT_str_str, isT_str_bool, isT_str_tuple, isT_str_list, isT_tuple_int, isT_tuple_str, isT_tuple_bool, isT_tuple_tuple, isT_tuple_list, isT_bool_int, isT_bool_str, isT_bool_bool, isT_bool_tuple, isT_bool_list, wpSs_cons, h6, keyOf, putX_new hx]
    refine ⟨rfl, by unfold dicX gx; simp; omega, hK _ _ ⟨⟨_, _, rfl⟩, by rw [up_same, gx_snoc], g6.set ht⟩⟩
  rintro ρ S6 ⟨⟨x0, y0, rfl⟩, h6, g6⟩
  refine ⟨hc _ g6, ?_⟩
  replace s5 := s5.keep g6
  have hr6 := g6 r _ (by simp) hr
  have hq6 := g6 q _ (by simp) hq5
  -- the image
  have hk := put_parts fL fG
  have kl : ∀ p ∈ sumP (putPs L G), p.1 ∈ nms := fun p hp => by
    obtain ⟨w, hw, q, hq, rfl⟩ := sumP_mem hp
    exact (hk w hw).2.keys q hq
  have ll := sumP_len (l := putPs L G) (n := 5) fun p hp => (hk p hp).2.len
  have lp : (putPs L G).length ≤ 6 := by unfold putPs; have := fL.len; simp; omega
  (rw [wpSs_cons]; simp only [wpS, wp, wpEs, wpO, wpIf, wpI, wpAnd, wpOr, ofE, truthOf, asgW, asgWs, tgLen, List.getElem?_cons_zero, List.getElem?_cons_succ, List.set_cons_zero, List.set_cons_succ, ixC, ixL, setC, bopW, addW, subW, mulW, fdivW, modW, powW, negW, bfW, cmpC, eqC, ltC, leC, isC, inC, truC, slC, itemsL, tyName, fldC, up_same, atI_0, atI_1, atI_2, atI_3, atI_4, atI_5, ixN_0, ixN_1, ixN_2, ixN_3, wpSs_nil, wipeE, true_and, and_true, if_true, Bool.false_eq_true, if_false, Bool.not_true, Bool.not_false, decide_true, decide_false, tyIn1, tyIn2, tyIn3, tyIn4, tyIn5, isT_int_int, isT_int_str, isT_int_bool, isT_int_tuple, isT_int_list, isT_str_int, isT_str_str, isT_str_bool, isT_str_tuple, isT_str_list, isT_tuple_int, isT_tuple_str, isT_tuple_bool, isT_tuple_tuple, isT_tuple_list, isT_bool_int, isT_bool_str, isT_bool_bool, isT_bool_tuple, isT_bool_list, hr6])
  refine image_w (k := 3) fL fG (by omega) hGl fun S7 g7 => ?_
  have h7 := g7 t _ (by simp) h6
  replace s5 := s5.keep g7
  have hq7 := g7 q _ (by simp) hq6
  (rw [wpSs_cons]; simp only [wpS, wp, wpEs, wpO, wpIf, wpI, wpAnd, wpOr, ofE, truthOf, asgW, asgWs, tgLen, List.getElem?_cons_zero, List.getElem?_cons_succ, List.set_cons_zero, List.set_cons_succ, ixC, ixL, setC, bopW, addW, subW, mulW, fdivW, modW, powW, negW, bfW, cmpC, eqC, ltC, leC, isC, inC, truC, slC, itemsL, tyName, fldC, up_same, atI_0, atI_1, atI_2, atI_3, atI_4, atI_5, ixN_0, ixN_1, ixN_2, ixN_3, wpSs_nil, wipeE, true_and, and_true, if_true, Bool.false_eq_true, if_false, Bool.not_true, Bool.not_false, decide_true, decide_false, tyIn1, tyIn2, tyIn3, tyIn4, tyIn5, isT_int_int, isT_int_str, isT_int_bool, isT_int_tuple, isT_int_list, isT_str_int, isT_str_str, isT_str_bool, isT_str_tuple, isT_str_list, isT_tuple_int, isT_tuple_str, isT_tuple_bool, isT_tuple_tuple, isT_tuple_list, isT_bool_int, isT_bool_str, isT_bool_bool, isT_bool_tuple, isT_bool_list])
  refine put_w (k := 2) h7 fL fG (by omega) fun S8 g8 => ?_
  have hT : ∀ p ∈ (formF (sumC (putPs L G)) (sumP (putPs L G))).2, p.1 ∈ nms := fun p hp => by
    obtain ⟨q, hq, e⟩ := List.mem_map.mp (formF_mem hp)
    rw [← e]; exact kl q hq
  have hTl : (formF (sumC (putPs L G)) (sumP (putPs L G))).2.length ≤ 30 := Nat.le_trans (formF_length _ _) (by omega)
  have hTb : ∀ p ∈ (formF (sumC (putPs L G)) (sumP (putPs L G))).2, p.2.natAbs < 2 ^ 400 := fun p hp => by
    have hb : Bd (2 ^ 320) (sumP (putPs L G)) := fun p hp => by
      obtain ⟨w, hw, q, hq, rfl⟩ := sumP_mem hp
      have h1 := (hk w hw).1
      have h2 := (hk w hw).2.sm.2 q hq
      show (w.1 * q.2).natAbs ≤ 2 ^ 320
      rw [Int.natAbs_mul, show (2 : Nat) ^ 320 = 2 ^ 160 * 2 ^ 160 by rw [← Nat.pow_add]]
      exact Nat.mul_le_mul (Nat.le_of_lt h1) (Nat.le_of_lt h2)
    refine Nat.lt_of_le_of_lt (Nat.le_trans (formF_bd hb p hp) (Nat.mul_le_mul_right _ (show (sumP (putPs L G)).length ≤ 2 ^ 10 by omega))) ?_
    rw [← Nat.pow_add]
    exact Nat.pow_lt_pow_right (by decide) (by decide)
  have hval := fun N => value_image N hnd L G kl
  have nT := nice_form (c := (formF (sumC (putPs L G)) (sumP (putPs L G))).1) (ps := (formF (sumC (putPs L G)) (sumP (putPs L G))).2) (by omega)
  generalize formF (sumC (putPs L G)) (sumP (putPs L G)) = T at hT hTl hTb hval nT ⊢
  refine same_w 3 1 _ _ _ nT fun S9 g9 => ?_
  replace s5 := (s5.keep g8).keep g9
  have hq9 := g9 q _ (by simp) (g8 q _ (by simp) hq7)
  have h9 := g9 t _ (by simp) (g8 t _ (by simp) h7)
  simp only [wpS, wp, wpEs, wpO, wpIf, wpI, wpAnd, wpOr, ofE, truthOf, asgW, asgWs, tgLen, List.getElem?_cons_zero, List.getElem?_cons_succ, List.set_cons_zero, List.set_cons_succ, ixC, ixL, setC, bopW, addW, subW, mulW, fdivW, modW, powW, negW, bfW, cmpC, eqC, ltC, leC, isC, inC, truC, slC, itemsL, tyName, fldC, up_same, atI_0, atI_1, atI_2, atI_3, atI_4, atI_5, ixN_0, ixN_1, ixN_2, ixN_3, wpSs_nil, wipeE, true_and, and_true, if_true, Bool.false_eq_true, if_false, Bool.not_true, Bool.not_false, decide_true, decide_false, tyIn1, tyIn2, tyIn3, tyIn4, tyIn5, isT_int_int, isT_int_str, isT_int_bool, isT_int_tuple, isT_int_list, isT_str_int, isT_str_str, isT_str_bool, isT_str_tuple, isT_str_list, isT_tuple_int, isT_tuple_str, isT_tuple_bool, isT_tuple_tuple, isT_tuple_list, isT_bool_int, isT_bool_str, isT_bool_bool, isT_bool_tuple, isT_bool_list]
  -- the points
  obtain ⟨n0, nr, rfl⟩ : ∃ n0 nr, nms = n0 :: nr := by
    cases nms with
    | nil => exact absurd rfl hn0
    | cons x y => exact ⟨x, y, rfl⟩
  have hz4 : (Str.ofString "~~~~").length = 4 := by decide +kernel
  have hn01 := hlen n0 (by simp)
  have ha0 : atI ((n0 :: nr).map D.str) 0 = some (.str n0) := by rw [List.map_cons]; exact atI_0
  (rw [wpSs_cons]; simp only [wpS, wp, wpEs, wpO, wpIf, wpI, wpAnd, wpOr, ofE, truthOf, asgW, asgWs, tgLen, List.getElem?_cons_zero, List.getElem?_cons_succ, List.set_cons_zero, List.set_cons_succ, ixC, ixL, setC, bopW, addW, subW, mulW, fdivW, modW, powW, negW, bfW, cmpC, eqC, ltC, leC, isC, inC, truC, slC, itemsL, tyName, fldC, up_same, atI_0, atI_1, atI_2, atI_3, atI_4, atI_5, ixN_0, ixN_1, ixN_2, ixN_3, wpSs_nil, wipeE, true_and, and_true, if_true, Bool.false_eq_true, if_false, Bool.not_true, Bool.not_false, decide_true, decide_false, tyIn1, tyIn2, tyIn3, tyIn4, tyIn5, isT_int_int, isT_int_str, isT_int_bool, isT_int_tuple, isT_int_list, isT_str_int, isT_str_str, isT_str_bool, isT_str_tuple, isT_str_list, isT_tuple_int, isT_tuple_str, isT_tuple_bool, isT_tuple_tuple, isT_tuple_list, isT_bool_int, isT_bool_str, isT_bool_bool, isT_bool_tuple, isT_bool_list, hq9, ha0])
  refine ⟨by rw [hz4]; omega, by simp [hsz], fun p hp => ?_⟩
  have hqp : q ≠ p := by rintro rfl; rw [hq9] at hp; cases hp
  have hq10 : up S9 p (.lst [.str (n0 ++ Str.ofString "~~~~")]) q = some (.lst ((n0 :: nr).map D.str)) := by rw [up_ne hqp]; exact hq9
  have htp : t ≠ p := by rintro rfl; rw [h9] at hp; cases hp
  simp only [wpS, wp, wpEs, wpO, wpIf, wpI, wpAnd, wpOr, ofE, truthOf, asgW, asgWs, tgLen, List.getElem?_cons_zero, List.getElem?_cons_succ, List.set_cons_zero, List.set_cons_succ, ixC, ixL, setC, bopW, addW, subW, mulW, fdivW, modW, powW, negW, bfW, cmpC, eqC, ltC, leC, isC, inC, truC, slC, itemsL, tyName, fldC, up_same, atI_0, atI_1, atI_2, atI_3, atI_4, atI_5, ixN_0, ixN_1, ixN_2, ixN_3, wpSs_nil, wipeE, true_and, and_true, if_true, Bool.false_eq_true, if_false, Bool.not_true, Bool.not_false, decide_true, decide_false, tyIn1, tyIn2, tyIn3, tyIn4, tyIn5, isT_int_int, isT_int_str, isT_int_bool, isT_int_tuple, isT_int_list, isT_str_int, isT_str_str, isT_str_bool, isT_str_tuple, isT_str_list, isT_tuple_int, isT_tuple_str, isT_tuple_bool, isT_tuple_tuple, isT_tuple_list, isT_bool_int, isT_bool_str, isT_bool_bool, isT_bool_tuple, isT_bool_list, hq10]
  refine ⟨by simp at hn5 ⊢; omega, fun p2 hp2 => ?_⟩
  generalize hex : n0 ++ Str.ofString "~~~~" = xtra at *
  have s10 := (s5.new (o := .lst [.str xtra]) hp).new (o := .lst ((n0 :: nr).map D.str ++ [.str xtra])) hp2
  have gg : Gr [] S9 (up (up S9 p (.lst [.str xtra])) p2 (.lst ((n0 :: nr).map D.str ++ [.str xtra]))) := (Gr.new hp).trans (.new hp2)
  have hp2e := up_same (S := up S9 p (.lst [.str xtra])) (a := p2) (o := .lst ((n0 :: nr).map D.str ++ [.str xtra]))
  have hp2a := (s5.new (o := .lst [.str xtra]) hp).ne hp2
  generalize up (up S9 p (.lst [.str xtra])) p2 (.lst ((n0 :: nr).map D.str ++ [.str xtra])) = S10 at s10 gg hp2e ⊢
  have eall : (n0 :: nr).map D.str ++ [.str xtra] = (n0 :: nr ++ [xtra]).map D.str := by simp
  rw [eall] at hp2e
  have hall : (n0 :: nr ++ [xtra]).Nodup := by
    rw [List.nodup_append]
    refine ⟨hnd, by simp, fun y hy w hw => ?_⟩
    simp only [List.mem_singleton] at hw
    subst hw
    rintro rfl
    have := (hlen _ hy).2
    rw [← hex, strLen_app, hz4] at this
    omega
  generalize hks : n0 :: nr ++ [xtra] = ks at hp2e hall
  have hkm : ∀ x ∈ n0 :: nr, x ∈ ks := fun x hx => by rw [← hks]; exact List.mem_append_left _ hx
  have hkl : ks.length ≤ 6 := by rw [← hks]; simp at hn5 ⊢; omega
  refine walk_ofA (A := [a]) (.inr ⟨p2, rfl, hp2e⟩) (fun q' e => by cases e; simpa using hp2a) fun chk2 hc2 => ?_
  refine pre_lc D.str (fun pre acc S11 => (∃ N : Ps, acc = N.map encP ∧ N.map (·.1) = pre ∧ Bd (10 ^ 44) N) ∧ Gr [a] S10 S11 ∧ Sc a b ns (2000 + 5 * pre.length) S11) ks (by omega) ?_ ?_ ⟨⟨[], rfl, rfl, by simp [Bd]⟩, .refl, s10.mono (by simp)⟩
  · rintro pre x post e acc S11 K ⟨⟨N, rfl, hNk, hNb⟩, g11, s11⟩ hK _
    have hpl : pre.length < 6 := by have := congrArg List.length e; simp at this; omega
    refine ⟨hc2 _ g11, ?_⟩
    refine number_w (by omega) s11 fun v S12 hv g12 s12 => ?_
    refine ⟨by simp [hsz], hK _ _ ⟨⟨N ++ [(x, v)], by simp [encP], by simp [hNk], fun p hp => ?_⟩, g11.trans g12, s12.mono (by simp; omega)⟩⟩
    rcases List.mem_append.mp hp with hp | hp
    · exact hNb p hp
    · rw [List.mem_singleton.mp hp]; exact hv
  rintro acc S11 ⟨⟨N, rfl, hNk, hNb⟩, g11, s11⟩
  refine ⟨hc2 _ g11, fun w hw => ?_⟩
  have hwa := s11.ne hw
  have hNn : (N.map (·.1)).Nodup := by rw [hNk]; exact hall
  have hNl : N.length ≤ 6 := by have := congrArg List.length hNk; simp at this; omega
  have h11 := g11 t _ (by simpa using hta) (gg t _ (by simp) h9)
  have hq11 := g11 q _ (by simpa using hqa) (gg q _ (by simp) hq9)
  have htw : t ≠ w := by rintro rfl; rw [h11] at hw; cases hw
  have hqw : q ≠ w := by rintro rfl; rw [hq11] at hw; cases hw
  have h12 : up S11 w (.lst (N.map encP)) t = some (.dic (dicX (gx G))) := by rw [up_ne htw]; exact h11
  have hq12 : up S11 w (.lst (N.map encP)) q = some (.lst ((n0 :: nr).map D.str)) := by rw [up_ne hqw]; exact hq11
  have hw12 := up_same (S := S11) (a := w) (o := .lst (N.map encP))
  generalize up S11 w (.lst (N.map encP)) = S12 at h12 hq12 hw12 ⊢
  -- the numbers
  (rw [wpSs_cons]; simp only [wpS, wp, wpEs, wpO, wpIf, wpI, wpAnd, wpOr, ofE, truthOf, asgW, asgWs, tgLen, List.getElem?_cons_zero, List.getElem?_cons_succ, List.set_cons_zero, List.set_cons_succ, ixC, ixL, setC, bopW, addW, subW, mulW, fdivW, modW, powW, negW, bfW, cmpC, eqC, ltC, leC, isC, inC, truC, slC, itemsL, tyName, fldC, up_same, atI_0, atI_1, atI_2, atI_3, atI_4, atI_5, ixN_0, ixN_1, ixN_2, ixN_3, wpSs_nil, wipeE, true_and, and_true, if_true, Bool.false_eq_true, if_false, Bool.not_true, Bool.not_false, decide_true, decide_false, tyIn1, tyIn2, tyIn3, tyIn4, tyIn5, isT_int_int, isT_int_str, isT_int_bool, isT_int_tuple, isT_int_list, isT_str_int, isT_str_str, isT_str_bool, isT_str_tuple, isT_str_list, isT_tuple_int, isT_tuple_str, isT_tuple_bool, isT_tuple_tuple, isT_tuple_list, isT_bool_int, isT_bool_str, isT_bool_bool, isT_bool_tuple, isT_bool_list])
  intro z hz
  (rw [wpSs_cons]; simp only [wpS, wp, wpEs, wpO, wpIf, wpI, wpAnd, wpOr, ofE, truthOf, asgW, asgWs, tgLen, List.getElem?_cons_zero, List.getElem?_cons_succ, List.set_cons_zero, List.set_cons_succ, ixC, ixL, setC, bopW, addW, subW, mulW, fdivW, modW, powW, negW, bfW, cmpC, eqC, ltC, leC, isC, inC, truC, slC, itemsL, tyName, fldC, up_same, atI_0, atI_1, atI_2, atI_3, atI_4, atI_5, ixN_0, ixN_1, ixN_2, ixN_3, wpSs_nil, wipeE, true_and, and_true, if_true, Bool.false_eq_true, if_false, Bool.not_true, Bool.not_false, decide_true, decide_false, tyIn1, tyIn2, tyIn3, tyIn4, tyIn5, isT_int_int, isT_int_str, isT_int_bool, isT_int_tuple, isT_int_list, isT_str_int, isT_str_str, isT_str_bool, isT_str_tuple, isT_str_list, isT_tuple_int, isT_tuple_str, isT_tuple_bool, isT_tuple_tuple, isT_tuple_list, isT_bool_int, isT_bool_str, isT_bool_bool, isT_bool_tuple, isT_bool_list])
  refine walk_of (ds := N.map encP) (S := S12) (.inr ⟨w, rfl, hw12⟩) (.new hz) fun chk3 hc3 => ?_
  refine pre_loop encP (fun pre ρ S13 => (∃ (x y y2 : Option D), ρ = [some (.scr ns), some (.ref a), some (.ref q), some (formD L), some (.ref r), some (.ref t), some (formD T), some (.ref w), some (.ref z), none, x, none, none, y, y2]) ∧ S13 z = some (.dic (dicE pre)) ∧ Gr [] S12 S13) N ?_ ?_ ⟨⟨_, _, _, rfl⟩, up_same, .new hz⟩
  · rintro pre ⟨x, v⟩ post e ρ S13 K ⟨⟨x0, y0, y1, rfl⟩, h13, g13⟩ hK
    refine ⟨hc3 _ g13, ?_⟩
    have hx : x ∉ pre.map (·.1) := by
      rw [e, List.map_append, List.nodup_append] at hNn
      exact fun q => hNn.2.2 _ q _ (by simp) rfl
    have hpl : pre.length < 6 := by have := congrArg List.length e; simp at this; omega
    unfold encP
    simp only [wpS, wp, wpEs, wpO, wpIf, wpI, wpAnd, wpOr, ofE, truthOf, asgW, asgWs, tgLen, List.getElem?_cons_zero, List.getElem?_cons_succ, List.set_cons_zero, List.set_cons_succ, ixC, ixL, setC, bopW, addW, subW, mulW, fdivW, modW, powW, negW, bfW, cmpC, eqC, ltC, leC, isC, inC, truC, slC, itemsL, tyName, fldC, up_same, atI_0, atI_1, atI_2, atI_3, atI_4, atI_5, ixN_0, ixN_1, ixN_2, ixN_3, wpSs_nil, wipeE, true_and, and_true, if_true, Bool.false_eq_true, if_false, Bool.not_true, Bool.not_false, decide_true, decide_false, tyIn1, tyIn2, tyIn3, tyIn4, tyIn5, isT_int_int, isT_int_str, isT_int_bool, isT_int_tuple, isT_int_list, isT_str_int, isT_str_str, isT_str_bool, isT_str_tuple, isT_str_list, isT_tuple_int, isT_tuple_str, isT_tuple_bool, isT_tuple_tuple, isT_tuple_list, isT_bool_int, isT_bool_str, isT_bool_bool, isT_bool_tuple, isT_bool_list, wpSs_cons, h13, keyOf, putD_dicE, putA_new hx]
    refine ⟨rfl, by unfold dicE; simp; omega, hK _ _ ⟨⟨_, _, _, rfl⟩, up_same, g13.set hz⟩⟩
  rintro ρ S13 ⟨⟨x0, y0, y1, rfl⟩, h13, g13⟩
  refine ⟨hc3 _ g13, ?_⟩
  replace h12 := g13 t _ (by simp) h12
  replace hq12 := g13 q _ (by simp) hq12
  replace hw12 := g13 w _ (by simp) hw12
  -- after
  have hNB : Bd (2 ^ 400) N := fun p hp => Nat.le_trans (hNb p hp) (Nat.le_trans (show 10 ^ 44 ≤ 2 ^ 200 by decide) (Nat.pow_le_pow_right (by decide) (by decide)))
  have vb : ∀ x ∈ n0 :: nr, (valF (getA N) (sub G x)).natAbs ≤ 2 ^ 400 := fun x hx => by
    have hf := fine_sub fG hx
    have key : ∀ ps : Ps, (∀ p ∈ ps, p.2.natAbs < 2 ^ 160) → (∀ p ∈ ps, p.1 ∈ ks) → (valP (getA N) ps).natAbs ≤ ps.length * 2 ^ 360 := by
      intro ps
      induction ps with
      | nil => intro _ _; simp [valP]
      | cons p ps ih =>
        intro h1 h2
        have := ih (fun q hq => h1 q (by simp [hq])) fun q hq => h2 q (by simp [hq])
        have hp := h1 p (by simp)
        have hN : (getA N p.1).natAbs ≤ 2 ^ 200 := by
          obtain ⟨q, hq, e⟩ := List.mem_map.mp (show p.1 ∈ N.map (·.1) by rw [hNk]; exact h2 p (by simp))
          have e' : q.1 = p.1 := e
          rw [← e', getA_mem hNn hq]
          exact Nat.le_trans (hNb q hq) (by decide)
        have hm : (p.2 * getA N p.1).natAbs ≤ 2 ^ 360 := by
          rw [Int.natAbs_mul, show (2 : Nat) ^ 360 = 2 ^ 160 * 2 ^ 200 by rw [← Nat.pow_add]]
          exact Nat.mul_le_mul (Nat.le_of_lt hp) hN
        have ha := Int.natAbs_add_le (p.2 * getA N p.1) (valP (getA N) ps)
        show (p.2 * getA N p.1 + valP (getA N) ps).natAbs ≤ (ps.length + 1) * 2 ^ 360
        rw [Nat.add_mul, Nat.one_mul]
        omega
    have h1 := key (sub G x).2 hf.sm.2 fun p hp => hkm _ (hf.keys p hp)
    have h2 := Nat.le_trans h1 (Nat.mul_le_mul_right _ hf.len)
    have h3 := hf.sm.1
    have ha := Int.natAbs_add_le (sub G x).1 (valP (getA N) (sub G x).2)
    show ((sub G x).1 + valP (getA N) (sub G x).2).natAbs ≤ 2 ^ 400
    have e1 : (2 : Nat) ^ 400 = 2 ^ 40 * 2 ^ 360 := by rw [← Nat.pow_add]
    have e2 : (2 : Nat) ^ 160 ≤ 2 ^ 360 := Nat.pow_le_pow_right (by decide) (by decide)
    rw [e1]
    generalize (2 : Nat) ^ 360 = B at h2 e2 ⊢
    have e3 : (2 : Nat) ^ 40 = 1099511627776 := by decide
    rw [e3]
    omega
  (rw [wpSs_cons]; simp only [wpS, wp, wpEs, wpO, wpIf, wpI, wpAnd, wpOr, ofE, truthOf, asgW, asgWs, tgLen, List.getElem?_cons_zero, List.getElem?_cons_succ, List.set_cons_zero, List.set_cons_succ, ixC, ixL, setC, bopW, addW, subW, mulW, fdivW, modW, powW, negW, bfW, cmpC, eqC, ltC, leC, isC, inC, truC, slC, itemsL, tyName, fldC, up_same, atI_0, atI_1, atI_2, atI_3, atI_4, atI_5, ixN_0, ixN_1, ixN_2, ixN_3, wpSs_nil, wipeE, true_and, and_true, if_true, Bool.false_eq_true, if_false, Bool.not_true, Bool.not_false, decide_true, decide_false, tyIn1, tyIn2, tyIn3, tyIn4, tyIn5, isT_int_int, isT_int_str, isT_int_bool, isT_int_tuple, isT_int_list, isT_str_int, isT_str_str, isT_str_bool, isT_str_tuple, isT_str_list, isT_tuple_int, isT_tuple_str, isT_tuple_bool, isT_tuple_tuple, isT_tuple_list, isT_bool_int, isT_bool_str, isT_bool_bool, isT_bool_tuple, isT_bool_list])
  intro v hv
  have htv : t ≠ v := by rintro rfl; rw [h12] at hv; cases hv
  have hzv : z ≠ v := by rintro rfl; rw [h13] at hv; cases hv
  (rw [wpSs_cons]; simp only [wpS, wp, wpEs, wpO, wpIf, wpI, wpAnd, wpOr, ofE, truthOf, asgW, asgWs, tgLen, List.getElem?_cons_zero, List.getElem?_cons_succ, List.set_cons_zero, List.set_cons_succ, ixC, ixL, setC, bopW, addW, subW, mulW, fdivW, modW, powW, negW, bfW, cmpC, eqC, ltC, leC, isC, inC, truC, slC, itemsL, tyName, fldC, up_same, atI_0, atI_1, atI_2, atI_3, atI_4, atI_5, ixN_0, ixN_1, ixN_2, ixN_3, wpSs_nil, wipeE, true_and, and_true, if_true, Bool.false_eq_true, if_false, Bool.not_true, Bool.not_false, decide_true, decide_false, tyIn1, tyIn2, tyIn3, tyIn4, tyIn5, isT_int_int, isT_int_str, isT_int_bool, isT_int_tuple, isT_int_list, isT_str_int, isT_str_str, isT_str_bool, isT_str_tuple, isT_str_list, isT_tuple_int, isT_tuple_str, isT_tuple_bool, isT_tuple_tuple, isT_tuple_list, isT_bool_int, isT_bool_str, isT_bool_bool, isT_bool_tuple, isT_bool_list])
  refine walk_of (ds := (n0 :: nr).map D.str) (S := S13) (.inr ⟨q, rfl, hq12⟩) (.new hv) fun chk4 hc4 => ?_
  refine pre_loop D.str (fun pre ρ S14 => (∃ (x y y2 : Option D), ρ = [some (.scr ns), some (.ref a), some (.ref q), some (formD L), some (.ref r), some (.ref t), some (formD T), some (.ref w), some (.ref z), some (.ref v), x, none, none, y, y2]) ∧ S14 v = some (.dic (dicE (pre.map fun x => (x, valF (getA N) (sub G x))))) ∧ Gr [] S13 S14) (n0 :: nr) ?_ ?_ ⟨⟨_, _, _, rfl⟩, up_same, .new hv⟩
  · rintro pre x post e ρ S14 K ⟨⟨x1, y2, y3, rfl⟩, h14, g14⟩ hK
    refine ⟨hc4 _ g14, ?_⟩
    have hxm : x ∈ n0 :: nr := by rw [e]; simp
    have hx : x ∉ (pre.map fun x => (x, valF (getA N) (sub G x))).map (·.1) := by
      rw [List.map_map]
      have := hnd
      rw [e, List.nodup_append] at this
      intro q
      obtain ⟨y, hy, e2⟩ := List.mem_map.mp q
      exact this.2.2 _ hy _ (by simp) e2
    have hpl : pre.length < 6 := by have := congrArg List.length e; simp at this hn5; omega
    have ht14 := g14 t _ (by simp) h12
    have hz14 := g14 z _ (by simp) h13
    have hf := fine_sub fG hxm
    simp only [wpS, wp, wpEs, wpO, wpIf, wpI, wpAnd, wpOr, ofE, truthOf, asgW, asgWs, tgLen, List.getElem?_cons_zero, List.getElem?_cons_succ, List.set_cons_zero, List.set_cons_succ, ixC, ixL, setC, bopW, addW, subW, mulW, fdivW, modW, powW, negW, bfW, cmpC, eqC, ltC, leC, isC, inC, truC, slC, itemsL, tyName, fldC, up_same, atI_0, atI_1, atI_2, atI_3, atI_4, atI_5, ixN_0, ixN_1, ixN_2, ixN_3, wpSs_nil, wipeE, true_and, and_true, if_true, Bool.false_eq_true, if_false, Bool.not_true, Bool.not_false, decide_true, decide_false, tyIn1, tyIn2, tyIn3, tyIn4, tyIn5, isT_int_int, isT_int_str, isT_int_bool, isT_int_tuple, isT_int_list, isT_str_int, isT_str_str, isT_str_bool, isT_str_tuple, isT_str_list, isT_tuple_int, isT_tuple_str, isT_tuple_bool, isT_tuple_tuple, isT_tuple_list, isT_bool_int, isT_bool_str, isT_bool_bool, isT_bool_tuple, isT_bool_list, wpSs_cons, ht14, rcv, bmT]
    refine var_w (k := 4) ?_
    simp only [wpS, wp, wpEs, wpO, wpIf, wpI, wpAnd, wpOr, ofE, truthOf, asgW, asgWs, tgLen, List.getElem?_cons_zero, List.getElem?_cons_succ, List.set_cons_zero, List.set_cons_succ, ixC, ixL, setC, bopW, addW, subW, mulW, fdivW, modW, powW, negW, bfW, cmpC, eqC, ltC, leC, isC, inC, truC, slC, itemsL, tyName, fldC, up_same, atI_0, atI_1, atI_2, atI_3, atI_4, atI_5, ixN_0, ixN_1, ixN_2, ixN_3, wpSs_nil, wipeE, true_and, and_true, if_true, Bool.false_eq_true, if_false, Bool.not_true, Bool.not_false, decide_true, decide_false, tyIn1, tyIn2, tyIn3, tyIn4, tyIn5, isT_int_int, isT_int_str, isT_int_bool, isT_int_tuple, isT_int_list, isT_str_int, isT_str_str, isT_str_bool, isT_str_tuple, isT_str_list, isT_tuple_int, isT_tuple_str, isT_tuple_bool, isT_tuple_tuple, isT_tuple_list, isT_bool_int, isT_bool_str, isT_bool_bool, isT_bool_tuple, isT_bool_list, bmW, ht14, keyOf, look_get]
    have es : ((look G x).map formD).getD (formD (0, [(x, 1)])) = formD (sub G x) := by unfold sub; cases look G x <;> rfl
    rw [es]
    refine at_w (k := 4) hz14 (fun p hp => by rw [hNk]; exact hkm _ (hf.keys p hp)) hf.sm hNB hNn ?_
    simp only [wpS, wp, wpEs, wpO, wpIf, wpI, wpAnd, wpOr, ofE, truthOf, asgW, asgWs, tgLen, List.getElem?_cons_zero, List.getElem?_cons_succ, List.set_cons_zero, List.set_cons_succ, ixC, ixL, setC, bopW, addW, subW, mulW, fdivW, modW, powW, negW, bfW, cmpC, eqC, ltC, leC, isC, inC, truC, slC, itemsL, tyName, fldC, up_same, atI_0, atI_1, atI_2, atI_3, atI_4, atI_5, ixN_0, ixN_1, ixN_2, ixN_3, wpSs_nil, wipeE, true_and, and_true, if_true, Bool.false_eq_true, if_false, Bool.not_true, Bool.not_false, decide_true, decide_false, tyIn1, tyIn2, tyIn3, tyIn4, tyIn5, isT_int_int, isT_int_str, isT_int_bool, isT_int_tuple, isT_int_list, isT_str_int, isT_str_str, isT_str_bool, isT_str_tuple, isT_str_list, isT_tuple_int, isT_tuple_str, isT_tuple_bool, isT_tuple_tuple, isT_tuple_list, isT_bool_int, isT_bool_str, isT_bool_bool, isT_bool_tuple, isT_bool_list, h14, keyOf, putD_dicE, putA_new hx]
    refine ⟨by unfold dicE; simp; omega, hK _ _ ⟨⟨_, _, _, rfl⟩, by rw [up_same, List.map_append] <;> rfl, g14.set hv⟩⟩
  rintro ρ S14 ⟨⟨x1, y2, y3, rfl⟩, h14, g14⟩
  refine ⟨hc4 _ g14, ?_⟩
  replace hw12 := g14 w _ (by simp) hw12
  replace h13 := g14 z _ (by simp) h13
  have hLk : ∀ p ∈ L.2, p.1 ∈ N.map (·.1) := fun p hp => by rw [hNk]; exact hkm _ (fL.keys p hp)
  (rw [wpSs_cons]; simp only [wpS, wp, wpEs, wpO, wpIf, wpI, wpAnd, wpOr, ofE, truthOf, asgW, asgWs, tgLen, List.getElem?_cons_zero, List.getElem?_cons_succ, List.set_cons_zero, List.set_cons_succ, ixC, ixL, setC, bopW, addW, subW, mulW, fdivW, modW, powW, negW, bfW, cmpC, eqC, ltC, leC, isC, inC, truC, slC, itemsL, tyName, fldC, up_same, atI_0, atI_1, atI_2, atI_3, atI_4, atI_5, ixN_0, ixN_1, ixN_2, ixN_3, wpSs_nil, wipeE, true_and, and_true, if_true, Bool.false_eq_true, if_false, Bool.not_true, Bool.not_false, decide_true, decide_false, tyIn1, tyIn2, tyIn3, tyIn4, tyIn5, isT_int_int, isT_int_str, isT_int_bool, isT_int_tuple, isT_int_list, isT_str_int, isT_str_str, isT_str_bool, isT_str_tuple, isT_str_list, isT_tuple_int, isT_tuple_str, isT_tuple_bool, isT_tuple_tuple, isT_tuple_list, isT_bool_int, isT_bool_str, isT_bool_bool, isT_bool_tuple, isT_bool_list, hw12])
  refine value_w (k := 4) (b := 160) (by decide) (by decide) hNn hNb hLk fL.sm.2 (by have := fL.len; omega) (by omega) fun S15 g15 => ?_
  replace hw12 := g15 w _ (by simp) hw12
  replace h13 := g15 z _ (by simp) h13
  replace h14 := g15 v _ (by simp) h14
  (rw [wpSs_cons]; simp only [wpS, wp, wpEs, wpO, wpIf, wpI, wpAnd, wpOr, ofE, truthOf, asgW, asgWs, tgLen, List.getElem?_cons_zero, List.getElem?_cons_succ, List.set_cons_zero, List.set_cons_succ, ixC, ixL, setC, bopW, addW, subW, mulW, fdivW, modW, powW, negW, bfW, cmpC, eqC, ltC, leC, isC, inC, truC, slC, itemsL, tyName, fldC, up_same, atI_0, atI_1, atI_2, atI_3, atI_4, atI_5, ixN_0, ixN_1, ixN_2, ixN_3, wpSs_nil, wipeE, true_and, and_true, if_true, Bool.false_eq_true, if_false, Bool.not_true, Bool.not_false, decide_true, decide_false, tyIn1, tyIn2, tyIn3, tyIn4, tyIn5, isT_int_int, isT_int_str, isT_int_bool, isT_int_tuple, isT_int_list, isT_str_int, isT_str_str, isT_str_bool, isT_str_tuple, isT_str_list, isT_tuple_int, isT_tuple_str, isT_tuple_bool, isT_tuple_tuple, isT_tuple_list, isT_bool_int, isT_bool_str, isT_bool_bool, isT_bool_tuple, isT_bool_list, hw12])
  rw [← List.map_reverse]
  have hrn : (N.reverse.map (·.1)).Nodup := by rw [List.map_reverse]; exact (List.reverse_perm _).nodup_iff.mpr hNn
  refine value_w (k := 4) (b := 400) (by decide) (by decide) hrn (fun p hp => hNb p (List.mem_reverse.mp hp)) (fun p hp => by rw [List.map_reverse, List.mem_reverse, hNk]; exact hkm _ (hT p hp)) hTb (by omega) (by simp; omega) fun S16 g16 => ?_
  replace h13 := g16 z _ (by simp) h13
  replace h14 := g16 v _ (by simp) h14
  have hsec : valF (getA N.reverse) T = valF (getA ((n0 :: nr).map fun x => (x, valF (getA N) (sub G x)))) L := by
    have e1 : getA N.reverse = getA N := funext fun x => getA_rev hNn x
    rw [e1, hval]
    unfold valF
    congr 1
    refine valP_congr fun p hp => ?_
    have hm : (p.1, valF (getA N) (sub G p.1)) ∈ (n0 :: nr).map fun x => (x, valF (getA N) (sub G x)) := List.mem_map.mpr ⟨p.1, fL.keys p hp, rfl⟩
    have := getA_mem (ps := (n0 :: nr).map fun x => (x, valF (getA N) (sub G x))) (p := (p.1, valF (getA N) (sub G p.1))) (by rw [List.map_map]; show ((n0 :: nr).map fun x => x).Nodup; rw [List.map_id']; exact hnd) hm
    exact this.symm
  (rw [wpSs_cons]; simp only [wpS, wp, wpEs, wpO, wpIf, wpI, wpAnd, wpOr, ofE, truthOf, asgW, asgWs, tgLen, List.getElem?_cons_zero, List.getElem?_cons_succ, List.set_cons_zero, List.set_cons_succ, ixC, ixL, setC, bopW, addW, subW, mulW, fdivW, modW, powW, negW, bfW, cmpC, eqC, ltC, leC, isC, inC, truC, slC, itemsL, tyName, fldC, up_same, atI_0, atI_1, atI_2, atI_3, atI_4, atI_5, ixN_0, ixN_1, ixN_2, ixN_3, wpSs_nil, wipeE, true_and, and_true, if_true, Bool.false_eq_true, if_false, Bool.not_true, Bool.not_false, decide_true, decide_false, tyIn1, tyIn2, tyIn3, tyIn4, tyIn5, isT_int_int, isT_int_str, isT_int_bool, isT_int_tuple, isT_int_list, isT_str_int, isT_str_str, isT_str_bool, isT_str_tuple, isT_str_list, isT_tuple_int, isT_tuple_str, isT_tuple_bool, isT_tuple_tuple, isT_tuple_list, isT_bool_int, isT_bool_str, isT_bool_bool, isT_bool_tuple, isT_bool_list])
  refine isint_w (k := 4) ?_
  simp only [wpS, wp, wpEs, wpO, wpIf, wpI, wpAnd, wpOr, ofE, truthOf, asgW, asgWs, tgLen, List.getElem?_cons_zero, List.getElem?_cons_succ, List.set_cons_zero, List.set_cons_succ, ixC, ixL, setC, bopW, addW, subW, mulW, fdivW, modW, powW, negW, bfW, cmpC, eqC, ltC, leC, isC, inC, truC, slC, itemsL, tyName, fldC, up_same, atI_0, atI_1, atI_2, atI_3, atI_4, atI_5, ixN_0, ixN_1, ixN_2, ixN_3, wpSs_nil, wipeE, true_and, and_true, if_true, Bool.false_eq_true, if_false, Bool.not_true, Bool.not_false, decide_true, decide_false, tyIn1, tyIn2, tyIn3, tyIn4, tyIn5, isT_int_int, isT_int_str, isT_int_bool, isT_int_tuple, isT_int_list, isT_str_int, isT_str_str, isT_str_bool, isT_str_tuple, isT_str_list, isT_tuple_int, isT_tuple_str, isT_tuple_bool, isT_tuple_tuple, isT_tuple_list, isT_bool_int, isT_bool_str, isT_bool_bool, isT_bool_tuple, isT_bool_list]
  refine isint_w (k := 4) ?_
  simp only [wpS, wp, wpEs, wpO, wpIf, wpI, wpAnd, wpOr, ofE, truthOf, asgW, asgWs, tgLen, List.getElem?_cons_zero, List.getElem?_cons_succ, List.set_cons_zero, List.set_cons_succ, ixC, ixL, setC, bopW, addW, subW, mulW, fdivW, modW, powW, negW, bfW, cmpC, eqC, ltC, leC, isC, inC, truC, slC, itemsL, tyName, fldC, up_same, atI_0, atI_1, atI_2, atI_3, atI_4, atI_5, ixN_0, ixN_1, ixN_2, ixN_3, wpSs_nil, wipeE, true_and, and_true, if_true, Bool.false_eq_true, if_false, Bool.not_true, Bool.not_false, decide_true, decide_false, tyIn1, tyIn2, tyIn3, tyIn4, tyIn5, isT_int_int, isT_int_str, isT_int_bool, isT_int_tuple, isT_int_list, isT_str_int, isT_str_str, isT_str_bool, isT_str_tuple, isT_str_list, isT_tuple_int, isT_tuple_str, isT_tuple_bool, isT_tuple_tuple, isT_tuple_list, isT_bool_int, isT_bool_str, isT_bool_bool, isT_bool_tuple, isT_bool_list]
  (rw [wpSs_cons]; simp only [wpS, wp, wpEs, wpO, wpIf, wpI, wpAnd, wpOr, ofE, truthOf, asgW, asgWs, tgLen, List.getElem?_cons_zero, List.getElem?_cons_succ, List.set_cons_zero, List.set_cons_succ, ixC, ixL, setC, bopW, addW, subW, mulW, fdivW, modW, powW, negW, bfW, cmpC, eqC, ltC, leC, isC, inC, truC, slC, itemsL, tyName, fldC, up_same, atI_0, atI_1, atI_2, atI_3, atI_4, atI_5, ixN_0, ixN_1, ixN_2, ixN_3, wpSs_nil, wipeE, true_and, and_true, if_true, Bool.false_eq_true, if_false, Bool.not_true, Bool.not_false, decide_true, decide_false, tyIn1, tyIn2, tyIn3, tyIn4, tyIn5, isT_int_int, isT_int_str, isT_int_bool, isT_int_tuple, isT_int_list, isT_str_int, isT_str_str, isT_str_bool, isT_str_tuple, isT_str_list, isT_tuple_int, isT_tuple_str, isT_tuple_bool, isT_tuple_tuple, isT_tuple_list, isT_bool_int, isT_bool_str, isT_bool_bool, isT_bool_tuple, isT_bool_list])
  refine at_w (k := 4) h13 hLk fL.sm hNB hNn ?_
  simp only [wpS, wp, wpEs, wpO, wpIf, wpI, wpAnd, wpOr, ofE, truthOf, asgW, asgWs, tgLen, List.getElem?_cons_zero, List.getElem?_cons_succ, List.set_cons_zero, List.set_cons_succ, ixC, ixL, setC, bopW, addW, subW, mulW, fdivW, modW, powW, negW, bfW, cmpC, eqC, ltC, leC, isC, inC, truC, slC, itemsL, tyName, fldC, up_same, atI_0, atI_1, atI_2, atI_3, atI_4, atI_5, ixN_0, ixN_1, ixN_2, ixN_3, wpSs_nil, wipeE, true_and, and_true, if_true, Bool.false_eq_true, if_false, Bool.not_true, Bool.not_false, decide_true, decide_false, tyIn1, tyIn2, tyIn3, tyIn4, tyIn5, isT_int_int, isT_int_str, isT_int_bool, isT_int_tuple, isT_int_list, isT_str_int, isT_str_str, isT_str_bool, isT_str_tuple, isT_str_list, isT_tuple_int, isT_tuple_str, isT_tuple_bool, isT_tuple_tuple, isT_tuple_list, isT_bool_int, isT_bool_str, isT_bool_bool, isT_bool_tuple, isT_bool_list]
  refine at_w (k := 4) h14 (fun p hp => ?_) fL.sm (fun p hp => ?_) ?_ ?_
  · rw [List.map_map]
    exact List.mem_map.mpr ⟨p.1, fL.keys p hp, rfl⟩
  · obtain ⟨x, hx, rfl⟩ := List.mem_map.mp hp
    exact vb x hx
  · rw [List.map_map]; show ((n0 :: nr).map fun x => x).Nodup; rw [List.map_id']; exact hnd
  · simp only [wpS, wp, wpEs, wpO, wpIf, wpI, wpAnd, wpOr, ofE, truthOf, asgW, asgWs, tgLen, List.getElem?_cons_zero, List.getElem?_cons_succ, List.set_cons_zero, List.set_cons_succ, ixC, ixL, setC, bopW, addW, subW, mulW, fdivW, modW, powW, negW, bfW, cmpC, eqC, ltC, leC, isC, inC, truC, slC, itemsL, tyName, fldC, up_same, atI_0, atI_1, atI_2, atI_3, atI_4, atI_5, ixN_0, ixN_1, ixN_2, ixN_3, wpSs_nil, wipeE, true_and, and_true, if_true, Bool.false_eq_true, if_false, Bool.not_true, Bool.not_false, decide_true, decide_false, tyIn1, tyIn2, tyIn3, tyIn4, tyIn5, isT_int_int, isT_int_str, isT_int_bool, isT_int_tuple, isT_int_list, isT_str_int, isT_str_str, isT_str_bool, isT_str_tuple, isT_str_list, isT_tuple_int, isT_tuple_str, isT_tuple_bool, isT_tuple_tuple, isT_tuple_list, isT_bool_int, isT_bool_str, isT_bool_bool, isT_bool_tuple, isT_bool_list]
    rw [hsec]
    exact ret_ok (by simp)

end Z
open PySem PySem.W PySem.Calls PyProof.Rows
theorem PySem.Challenge.cw_tellsnomore_k49_image_and_value_holds : PySem.Challenge.rw_tellsnomore_k49_image_and_value.Holds := by
  w_on; o_law
  refine HandSHeadRun.head_any (r := OpenLaw.row PySem.Challenge.rw_tellsnomore_k49_image_and_value) (q := view (OpenLaw.row PySem.Challenge.rw_tellsnomore_k49_image_and_value).prog [20]) (H := Z.hk) (ob := Z.ob) (M := 20000) (loose := Z.loose) (d := HandSHeadRun.topDef (OpenLaw.row PySem.Challenge.rw_tellsnomore_k49_image_and_value).prog 20) (kwd := []) Z.ob_eq
    (by kernel_rfl) (fun s => by kernel_rfl) Z.run (by kernel_rfl) (by kernel_rfl) (by kernel_rfl) (by rfl) (by first | assumption | decide +kernel) (by decide +kernel) ⟨rfl, rfl, rfl, rfl, rfl, by decide +kernel⟩ ?hw ?hc
  case hw => w_witness2
  case hc =>
    refine L2.walk_ofE (l := PySem.Challenge.rw_tellsnomore_k49_image_and_value) (n := 63) (k := 6 + 1) (x := "script") (CX := L2.CX0) rfl (by decide) (by kernel_rfl) ⟨rfl, by decide, by decide⟩ ?F (fun _ _ _ _ z => z)
    intro w mg fa h Y G hmg0
    obtain ⟨K, KX, c⟩ := Y
    have hmg : mg ("law" : PySem.Str) = some (.ref fa) := by
      have e : (HandSHeadRun.topDef (OpenLaw.row PySem.Challenge.rw_tellsnomore_k49_image_and_value).prog 20).name = ("law" : PySem.Str) := by kernel_rfl
      rw [← e]
      exact hmg0
    obtain ⟨fd, hb, hF⟩ := Z.law_facts (P := (PySem.Challenge.rw_tellsnomore_k49_image_and_value).prog) (w := w) (k := 6) KX G hmg c Z.mo_ok (List.all_eq_true.mp Z.defs_ok) Z.binds_all.mem ⟨Z.f_law, rfl, rfl, rfl⟩
    exact ⟨K, fd, _, KX, hb, fun H a ns hl hO hS => Z.law_sp hO hS (Z.law_w ns _), hF⟩
