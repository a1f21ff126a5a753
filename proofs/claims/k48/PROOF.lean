import PyProof.Rows.All
import Wide.All
import OpenK.AllK
import Wide.FinOn
import PyProof.ReprRoads
import HandS.ForMost
import HandS.EndBits
import HandS.Wide
import HandS.Flow
import HandS.TupAny
import HandS.Conv
import HandS.TupSets
import HandS.DictTup
import HandS.TupLen
import HandS.IsInst
import HandS.TupMul
import KE.GoesEnum
import KE.KDictDisplayH
import KE.DatumOrd
import KE.DataIsa
import KE.DataAny
import KE.DataFind
import KE.DatumIndex
import PyProof.ListRange
import KE.KRevSl
import PyProof.AutoSeq1
import PySem.Challenge.RW_nearlists_k48_whole_main_rounds
set_option Elab.async false
set_option linter.all false
set_option maxRecDepth 100000
set_option maxHeartbeats 4000000
/-! Nl: a logic of plain data over the hand layer. Part A: values, cells, states, judgements. -/
namespace Nl
open PySem PySem.Spec PyProof.Rows L2

/-! ### what never changes again: tuples and locked things -/
structure Ke (H H' : Hp) : Prop where
  tup : ∀ a xs, H a = some (.tup xs) → H' a = some (.tup xs)
  frz : ∀ a o u, H a = some (.frz o u) → H' a = some (.frz o u)
theorem Ke.refl {H : Hp} : Ke H H := ⟨fun _ _ h => h, fun _ _ _ h => h⟩
theorem Ke.trans {A B C : Hp} (p : Ke A B) (q : Ke B C) : Ke A C := ⟨fun a xs h => q.tup a xs (p.tup a xs h), fun a o u h => q.frz a o u (p.frz a o u h)⟩
theorem Ke.new {H : Hp} {p : Addr} {o : HO} (n : H p = none) : Ke H (upd H p o) :=
  ⟨fun a xs h => by rw [upd_ne (ne_of_none h n)]; exact h, fun a b u h => by rw [upd_ne (ne_of_none h n)]; exact h⟩
theorem Ke.put {H : Hp} {p : Addr} {o : HO} (m : Mut (H p)) : Ke H (upd H p o) :=
  ⟨fun a xs h => by rw [upd_ne (fun e => by rw [← e, h] at m; exact m)]; exact h, fun a b u h => by rw [upd_ne (fun e => by rw [← e, h] at m; exact m)]; exact h⟩
theorem Ke.same {H H' : Hp} (s : ∀ b o, H b = some o → H' b = some o) : Ke H H' := ⟨fun a xs h => s a _ h, fun a o u h => s a _ h⟩

/-- a list that is locked, or stands in the written part -/
def FrL (K : PySem.W.Frag) (H : Hp) (a : Addr) (xs : List V) : Prop := (∃ o, H a = some (.frz o (.lst xs))) ∨
  ∃ (its : List Value) (n : Nat), K.lookup a = some { cls := .type "list", data := .seq its.toArray n } ∧ its.length ≤ sizeLine ∧ Vals xs its
theorem FrL.sq {K : PySem.W.Frag} {H : Hp} {a : Addr} {xs : List V} (h : FrL K H a xs) : SqL K H a xs := by
  rcases h with ⟨o, h⟩ | ⟨its, n, h, z, r⟩
  · exact .inl (.inr ⟨o, h⟩)
  · exact .inr ⟨_, its.toArray, n, h, rfl, rfl, rfl, by simpa using z, by simpa using r⟩
theorem FrL.keep {K : PySem.W.Frag} {H H' : Hp} {a : Addr} {xs : List V} (k : Ke H H') (h : FrL K H a xs) : FrL K H' a xs := by
  rcases h with ⟨o, h⟩ | h
  · exact .inl ⟨o, k.frz _ _ _ h⟩
  · exact .inr h
/-- the very object of such a list, or of a list that stands -/
def LsO (K : PySem.W.Frag) (H : Hp) (a : Addr) (xs : List V) : Prop := FrL K H a xs ∨ H a = some (.lst xs)
theorem LsO.sq {K : PySem.W.Frag} {H : Hp} {a : Addr} {xs : List V} (h : LsO K H a xs) : SqL K H a xs := by
  rcases h with h | h
  · exact h.sq
  · exact .inl (.inl h)
theorem LsO.obj {X : Cx} {pins : List (Addr × Obj)} {σ : L2.St} {H : Hp} {s : Shared} {a : Addr} {xs : List V} (h : LsO X.K H a xs) (I : Inv X pins σ H s) :
    xs.length ≤ sizeLine ∧ ∃ (its : List Value) (n : Nat), Vals xs its ∧ s.heap.get? a = some { cls := .type "list", data := .seq its.toArray n } := by
  rcases h with (⟨o, h⟩ | ⟨its, n, h, z, r⟩) | h
  · obtain ⟨_, z, its, n, r, e⟩ := I.hok a _ h
    exact ⟨z, its, n, r, e⟩
  · exact ⟨by rw [Vals.length r]; exact z, its, n, r, I.kIn a _ h⟩
  · obtain ⟨z, its, n, r, e⟩ := I.hok a _ h
    exact ⟨z, its, n, r, e⟩
theorem sqT_keep {K : PySem.W.Frag} {H H' : Hp} {a : Addr} {xs : List V} (k : Ke H H') (h : SqT K H a xs) : SqT K H' a xs := by
  rcases h with (h | ⟨o, h⟩) | h
  · exact .inl (.inl (k.tup _ _ h))
  · exact .inl (.inr ⟨o, k.frz _ _ _ h⟩)
  · exact .inr h

/-! ### data: what a value shows, whatever happens later -/
inductive Fz (K : PySem.W.Frag) (H : Hp) : V → PyData → Prop
  | non : Fz K H .non .none
  | bl (b : Bool) : Fz K H (.bl b) (.bool b)
  | int (i : Int) : Fz K H (.int i) (.int i)
  | str (x : Str) : Fz K H (.str x) (.str x)
  | tup {a : Addr} {vs : List V} {ds : List PyData} : H a = some (.tup vs) → vs.length = ds.length → (∀ (i : Nat) v d, vs[i]? = some v → ds[i]? = some d → Fz K H v d) → Fz K H (.ref a) (.tuple ds)
  | lst {a : Addr} {vs : List V} {ds : List PyData} : FrL K H a vs → vs.length = ds.length → (∀ (i : Nat) v d, vs[i]? = some v → ds[i]? = some d → Fz K H v d) → Fz K H (.ref a) (.list ds)
  | dct {a : Addr} {o : Obj} {kvs : List (Key × V)} {ds : List (PyData × PyData)} : H a = some (.frz o (.dK kvs)) → kvs.length = ds.length →
      (∀ (i : Nat) p d, kvs[i]? = some p → ds[i]? = some d → Fz K H (kV p.1) d.1) → (∀ (i : Nat) p d, kvs[i]? = some p → ds[i]? = some d → Fz K H p.2 d.2) → Fz K H (.ref a) (.dict ds)
abbrev FzA (K : PySem.W.Frag) (H : Hp) : List V → List PyData → Prop := Paired (Fz K H)
section
variable {K : PySem.W.Frag} {H H' : Hp} {v : V} {d : PyData} {vs : List V} {ds : List PyData} {a : Addr}
theorem Fz.keep (k : Ke H H') (h : Fz K H v d) : Fz K H' v d := by
  induction h with
  | non => exact .non
  | bl b => exact .bl b
  | int i => exact .int i
  | str x => exact .str x
  | tup s l _ ih => exact .tup (k.tup _ _ s) l ih
  | lst s l _ ih => exact .lst (s.keep k) l ih
  | dct s l _ _ i1 i2 => exact .dct (k.frz _ _ _ s) l i1 i2
theorem pair_ix {α β : Type} {R : α → β → Prop} : ∀ {xs : List α} {ys : List β}, Paired R xs ys → ∀ (i : Nat) x y, xs[i]? = some x → ys[i]? = some y → R x y
  | _, _, .nil, i, x, y, h, _ => by simp at h
  | _, _, .cons r t, 0, x, y, h, g => by
    simp only [List.getElem?_cons_zero, Option.some.injEq] at h g
    subst h g
    exact r
  | _, _, .cons r t, i + 1, x, y, h, g => pair_ix t i x y (by simpa using h) (by simpa using g)
theorem pair_of {α β : Type} {R : α → β → Prop} : ∀ {xs : List α} {ys : List β}, xs.length = ys.length → (∀ (i : Nat) x y, xs[i]? = some x → ys[i]? = some y → R x y) → Paired R xs ys
  | [], [], _, _ => .nil
  | [], _ :: _, l, _ => by simp at l
  | _ :: _, [], l, _ => by simp at l
  | x :: xs, y :: ys, l, h => .cons (h 0 x y rfl rfl) (pair_of (by simpa using l) fun i a b p q => h (i + 1) a b (by simpa using p) (by simpa using q))
theorem FzA.keep (k : Ke H H') (h : FzA K H vs ds) : FzA K H' vs ds := Paired.mapP h fun _ _ x => x.keep k
theorem fz_tup (s : H a = some (.tup vs)) (h : FzA K H vs ds) : Fz K H (.ref a) (.tuple ds) := .tup s (Paired.length h) (pair_ix h)
theorem fz_lst (s : FrL K H a vs) (h : FzA K H vs ds) : Fz K H (.ref a) (.list ds) := .lst s (Paired.length h) (pair_ix h)
theorem Fz.tuple_inv (h : Fz K H v (.tuple ds)) : ∃ a vs, v = .ref a ∧ SqT K H a vs ∧ FzA K H vs ds := by
  cases h with
  | tup s l h => exact ⟨_, _, rfl, SqT.of s, pair_of l h⟩
theorem Fz.tuple_at (h : Fz K H v (.tuple ds)) : ∃ a vs, v = .ref a ∧ H a = some (.tup vs) ∧ FzA K H vs ds := by
  cases h with
  | tup s l h => exact ⟨_, _, rfl, s, pair_of l h⟩
theorem Fz.list_inv (h : Fz K H v (.list ds)) : ∃ a vs, v = .ref a ∧ FrL K H a vs ∧ FzA K H vs ds := by
  cases h with
  | lst s l h => exact ⟨_, _, rfl, s, pair_of l h⟩
theorem Fz.int_inv {i : Int} (h : Fz K H v (.int i)) : v = .int i := by cases h; rfl
theorem Fz.bool_inv {b : Bool} (h : Fz K H v (.bool b)) : v = .bl b := by cases h; rfl
theorem Fz.str_inv {x : Str} (h : Fz K H v (.str x)) : v = .str x := by cases h; rfl
theorem Fz.none_inv (h : Fz K H v .none) : v = .non := by cases h; rfl
theorem FzA.get {i : Nat} {x : PyData} (h : FzA K H vs ds) (e : ds[i]? = some x) : ∃ w, vs[i]? = some w ∧ Fz K H w x := by
  have hl := Paired.length h
  obtain ⟨hi, _⟩ := List.getElem?_eq_some_iff.mp e
  have hi' : i < vs.length := by rw [hl]; exact hi
  exact ⟨vs[i], List.getElem?_eq_getElem hi', pair_ix h i _ _ (List.getElem?_eq_getElem hi') e⟩
theorem pair_append {α β : Type} {R : α → β → Prop} : ∀ {xs : List α} {ys : List β} {xs' : List α} {ys' : List β}, Paired R xs ys → Paired R xs' ys' → Paired R (xs ++ xs') (ys ++ ys')
  | _, _, _, _, .nil, q => q
  | _, _, _, _, .cons r t, q => .cons r (pair_append t q)
theorem pair_take {α β : Type} {R : α → β → Prop} : ∀ {xs : List α} {ys : List β} (n : Nat), Paired R xs ys → Paired R (xs.take n) (ys.take n)
  | _, _, 0, _ => by simp only [List.take_zero]; exact .nil
  | _, _, n + 1, .nil => .nil
  | _, _, n + 1, .cons r t => .cons r (pair_take n t)
theorem pair_drop {α β : Type} {R : α → β → Prop} : ∀ {xs : List α} {ys : List β} (n : Nat), Paired R xs ys → Paired R (xs.drop n) (ys.drop n)
  | _, _, 0, q => q
  | _, _, n + 1, .nil => .nil
  | _, _, n + 1, .cons r t => pair_drop n t
theorem pair_set {α β : Type} {R : α → β → Prop} {x : α} {y : β} (r : R x y) : ∀ {xs : List α} {ys : List β} (n : Nat), Paired R xs ys → Paired R (xs.set n x) (ys.set n y)
  | _, _, _, .nil => .nil
  | _, _, 0, .cons _ t => .cons r t
  | _, _, n + 1, .cons q t => .cons q (pair_set r n t)
theorem pair_reverse {α β : Type} {R : α → β → Prop} : ∀ {xs : List α} {ys : List β}, Paired R xs ys → Paired R xs.reverse ys.reverse
  | _, _, .nil => .nil
  | _, _, .cons r t => by
    simp only [List.reverse_cons]
    exact pair_append (pair_reverse t) (.cons r .nil)
theorem pair_replicate {α β : Type} {R : α → β → Prop} {x : α} {y : β} (r : R x y) : ∀ n : Nat, Paired R (List.replicate n x) (List.replicate n y)
  | 0 => .nil
  | n + 1 => .cons r (pair_replicate r n)
theorem pair_flat_rep {α β : Type} {R : α → β → Prop} {xs : List α} {ys : List β} (r : Paired R xs ys) : ∀ n : Nat, Paired R (List.replicate n xs).flatten (List.replicate n ys).flatten
  | 0 => .nil
  | n + 1 => by
    simp only [List.replicate_succ, List.flatten_cons]
    exact pair_append r (pair_flat_rep r n)
theorem fz_ints : ∀ ns : List Int, FzA K H (ns.map V.int) (ns.map PyData.int)
  | [] => .nil
  | n :: r => .cons (.int n) (fz_ints r)
theorem FzA.ints : ∀ {ns : List Int} {vs : List V}, FzA K H vs (ns.map PyData.int) → vs = ns.map V.int
  | [], _, .nil => rfl
  | n :: r, _, .cons h t => by
    cases h
    rw [FzA.ints t]
    rfl
theorem FzA.bools : ∀ {ns : List Bool} {vs : List V}, FzA K H vs (ns.map PyData.bool) → vs = ns.map V.bl
  | [], _, .nil => rfl
  | n :: r, _, .cons h t => by
    cases h
    rw [FzA.bools t]
    rfl
end

/-! ### reading data in a real heap -/
section
variable {X : Cx} {pins : List (Addr × Obj)} {σ : L2.St} {H : Hp} {s : Shared}
theorem readsAll_of : ∀ {us : List Value} {ds : List PyData}, us.length = ds.length → (∀ (i : Nat) u d, us[i]? = some u → ds[i]? = some d → ∃ as, Reads s.heap u d as) → ∃ as, ReadsAll s.heap us ds as
  | [], [], _, _ => ⟨_, .nil⟩
  | [], _ :: _, l, _ => by simp at l
  | _ :: _, [], l, _ => by simp at l
  | u :: us, d :: ds, l, h => by
    obtain ⟨as, r⟩ := h 0 u d rfl rfl
    obtain ⟨bs, q⟩ := readsAll_of (us := us) (ds := ds) (by simpa using l) fun i a b p q => h (i + 1) a b (by simpa using p) (by simpa using q)
    exact ⟨_, .cons r q⟩
theorem noDictAll : ∀ {ds : List PyData}, PyData.hasDictAll ds = false → ∀ d ∈ ds, d.hasDict = false
  | [], _, _, m => nomatch m
  | x :: xs, h, d, m => by
    simp only [PyData.hasDictAll, Bool.or_eq_false_iff] at h
    rcases List.mem_cons.mp m with e | m
    · rw [e]; exact h.1
    · exact noDictAll h.2 d m
theorem Fz.reads {v : V} {d : PyData} (I : Inv X pins σ H s) (h : Fz X.K H v d) : d.hasDict = false → ∀ u, RelV v u → ∃ as, Reads s.heap u d as := by
  induction h with
  | non => intro _ u r; cases r; exact ⟨_, .none⟩
  | bl b => intro _ u r; cases r; exact ⟨_, .bool b⟩
  | int i => intro _ u r; obtain ⟨t, rfl⟩ := r; exact ⟨_, .int i t⟩
  | str x => intro _ u r; obtain ⟨t, rfl⟩ := r; exact ⟨_, .str x t⟩
  | @tup a vs ds sq l _ ih =>
    intro nd u r
    cases r
    obtain ⟨its, rv, ⟨o, ho, hc, n, hd⟩, _⟩ := I.tuple (SqT.of sq)
    simp only [PyData.hasDict] at nd
    have lv := Vals.length rv
    obtain ⟨as, hr⟩ := readsAll_of (s := s) (us := its) (ds := ds) (by omega) fun i u d hu hd => by
      have hi : i < its.length := (List.getElem?_eq_some_iff.mp hu).1
      have hv := List.getElem?_eq_getElem (l := _) (i := i) (by rw [lv]; exact hi)
      exact ih i _ d hv hd (noDictAll nd d (List.mem_of_getElem? hd)) u (pair_ix rv i _ _ hv hu)
    exact ⟨_, .tuple ho hc hd hr⟩
  | @lst a vs ds sq l _ ih =>
    intro nd u r
    cases r
    obtain ⟨its, rv, ⟨o, n, ho, hc, _, hd⟩, _⟩ := I.list sq.sq
    simp only [PyData.hasDict] at nd
    have lv := Vals.length rv
    obtain ⟨as, hr⟩ := readsAll_of (s := s) (us := its) (ds := ds) (by omega) fun i u d hu hd => by
      have hi : i < its.length := (List.getElem?_eq_some_iff.mp hu).1
      have hv := List.getElem?_eq_getElem (l := _) (i := i) (by rw [lv]; exact hi)
      exact ih i _ d hv hd (noDictAll nd d (List.mem_of_getElem? hd)) u (pair_ix rv i _ _ hv hu)
    exact ⟨_, .list ho hc hd hr⟩
  | dct => intro nd; simp only [PyData.hasDict] at nd; cases nd
end

/-! ### slots and cells -/
/-- what a slot holds: nothing known, data, or the address of a cell -/
inductive Sl where
  | u | d (x : PyData) | a (p : Addr) | w (v : V)
inductive Cl where
  | lst (xs : List Sl) | dK (kvs : List (Key × Sl)) | dT (kvs : List (List Key × Sl)) | ins (C dx : Addr) (fs : List (Str × Sl))
abbrev Mu := List (Addr × Cl)
def SlV (K : PySem.W.Frag) (H : Hp) : Sl → V → Prop
  | .u, _ => True
  | .d x, v => Fz K H v x
  | .a p, v => v = .ref p
  | .w x, v => v = x
def SlO (K : PySem.W.Frag) (H : Hp) : Sl → Option V → Prop
  | .u, _ => True
  | .d x, o => ∃ v, o = some v ∧ Fz K H v x
  | .a p, o => o = some (.ref p)
  | .w x, o => o = some x
def ClO (K : PySem.W.Frag) (H : Hp) (p : Addr) : Cl → Prop
  | .lst xs => ∃ vs, H p = some (.lst vs) ∧ Paired (SlV K H) xs vs
  | .dK kvs => ∃ ws, H p = some (.dK ws) ∧ Paired (fun (a : Key × Sl) (b : Key × V) => a.1 = b.1 ∧ SlV K H a.2 b.2) kvs ws
  | .dT kvs => ∃ ws, H p = some (.dT ws) ∧ Paired (fun (a : List Key × Sl) (b : List Key × V) => a.1 = b.1 ∧ SlV K H a.2 b.2) kvs ws
  | .ins C dx fs => ∃ gs, H p = some (.ins C dx gs) ∧ Paired (fun (a : Str × Sl) (b : Str × V) => a.1 = b.1 ∧ SlV K H a.2 b.2) fs gs
abbrev Sls (K : PySem.W.Frag) (H : Hp) (ρ : List Sl) (σ : L2.St) : Prop := Paired (SlO K H) ρ σ
/-- the cells of a def's run: H0 the heap at its entry, F what it may change there -/
structure Cs (K : PySem.W.Frag) (H0 : Hp) (F : List Addr) (μ : Mu) (H : Hp) : Prop where
  cl : ∀ q ∈ μ, ClO K H q.1 q.2
  nd : (μ.map (·.1)).Nodup
  ow : ∀ q ∈ μ, q.1 ∈ F ∨ H0 q.1 = none
  fr : ∀ b o, H0 b = some o → b ∉ F → H b = some o
  ke : Ke H0 H
section
variable {K : PySem.W.Frag} {H H' H0 : Hp} {F : List Addr} {μ : Mu} {ρ : List Sl} {σ : L2.St} {p : Addr} {c : Cl} {x : Sl} {v : V}
theorem SlV.keep (k : Ke H H') (h : SlV K H x v) : SlV K H' x v := by
  cases x with
  | u => exact True.intro
  | d y => exact Fz.keep k h
  | a q => exact h
  | w y => exact h
theorem SlO.keep {o : Option V} (k : Ke H H') (h : SlO K H x o) : SlO K H' x o := by
  cases x with
  | u => exact True.intro
  | d y => obtain ⟨w, e, z⟩ := h; exact ⟨w, e, z.keep k⟩
  | a q => exact h
  | w y => exact h
theorem SlV.o (h : SlV K H x v) : SlO K H x (some v) := by
  cases x with
  | u => exact True.intro
  | d y => exact ⟨v, rfl, h⟩
  | a q => exact congrArg some h
  | w y => exact congrArg some h
theorem Sls.keep (k : Ke H H') (h : Sls K H ρ σ) : Sls K H' ρ σ := Paired.mapP h fun _ _ z => z.keep k
theorem ClO.keep (k : Ke H H') (e : H' p = H p) (h : ClO K H p c) : ClO K H' p c := by
  cases c with
  | lst xs => obtain ⟨vs, h1, h2⟩ := h; exact ⟨vs, e.trans h1, Paired.mapP h2 fun _ _ z => z.keep k⟩
  | dK kvs => obtain ⟨vs, h1, h2⟩ := h; exact ⟨vs, e.trans h1, Paired.mapP h2 fun _ _ z => ⟨z.1, z.2.keep k⟩⟩
  | dT kvs => obtain ⟨vs, h1, h2⟩ := h; exact ⟨vs, e.trans h1, Paired.mapP h2 fun _ _ z => ⟨z.1, z.2.keep k⟩⟩
  | ins C dx fs => obtain ⟨vs, h1, h2⟩ := h; exact ⟨vs, e.trans h1, Paired.mapP h2 fun _ _ z => ⟨z.1, z.2.keep k⟩⟩
theorem ClO.mut (h : ClO K H p c) : Mut (H p) := by
  cases c with
  | lst xs => obtain ⟨vs, h1, _⟩ := h; rw [h1]; exact True.intro
  | dK xs => obtain ⟨vs, h1, _⟩ := h; rw [h1]; exact True.intro
  | dT xs => obtain ⟨vs, h1, _⟩ := h; rw [h1]; exact True.intro
  | ins C dx xs => obtain ⟨vs, h1, _⟩ := h; rw [h1]; exact True.intro
theorem ClO.some (h : ClO K H p c) : H p ≠ none := by
  intro e
  have m := h.mut
  rw [e] at m
  exact m
/-- the cells are kept where the heap only grows -/
theorem Cs.grow (h : Cs K H0 F μ H) (g : ∀ b o, H b = some o → H' b = some o) : Cs K H0 F μ H' := by
  have k : Ke H H' := Ke.same g
  refine ⟨fun q m => (h.cl q m).keep k ?_, h.nd, h.ow, fun b o e n => g b o (h.fr b o e n), h.ke.trans k⟩
  cases e : H q.1 with
  | none => exact absurd e (h.cl q m).some
  | some o => exact g _ _ e
theorem Cs.sub {μ' : Mu} (h : Cs K H0 F μ H) (s : List.Sublist μ' μ) : Cs K H0 F μ' H :=
  ⟨fun q m => h.cl q (s.subset m), (s.map (·.1)).nodup h.nd, fun q m => h.ow q (s.subset m), h.fr, h.ke⟩
/-- a new cell -/
theorem Cs.new (h : Cs K H0 F μ H) (n : H p = none) {o : HO} (hc : ClO K (upd H p o) p c) : Cs K H0 F ((p, c) :: μ) (upd H p o) := by
  have g : ∀ b u, H b = some u → upd H p o b = some u := fun b u e => by rw [upd_ne (ne_of_none e n)]; exact e
  have q := h.grow g
  refine ⟨fun z m => ?_, ?_, fun z m => ?_, q.fr, q.ke⟩
  · rcases List.mem_cons.mp m with e | m
    · rw [e]; exact hc
    · exact q.cl z m
  · rw [List.map_cons, List.nodup_cons]
    refine ⟨fun m => ?_, h.nd⟩
    obtain ⟨z, m, e⟩ := List.mem_map.mp m
    exact (h.cl z m).some (by rw [e]; exact n)
  · rcases List.mem_cons.mp m with e | m
    · rw [e]
      by_cases hf : p ∈ F
      · exact .inl hf
      · refine .inr ?_
        cases e0 : H0 p with
        | none => rfl
        | some u => rw [h.fr p u e0 hf] at n; cases n
    · exact h.ow z m
end
/-- the cell at p of the list of cells -/
inductive At : Mu → Addr → Cl → Prop
  | here {p c μ} : At ((p, c) :: μ) p c
  | there {p c q d μ} : At μ p c → At ((q, d) :: μ) p c
/-- the list of cells with another cell at p -/
inductive Put : Mu → Addr → Cl → Mu → Prop
  | here {p c d μ} : Put ((p, c) :: μ) p d ((p, d) :: μ)
  | there {p c q d μ μ'} : Put μ p c μ' → Put ((q, d) :: μ) p c ((q, d) :: μ')
inductive Del : Mu → Addr → Mu → Prop
  | here {p c μ} : Del ((p, c) :: μ) p μ
  | there {p q d μ μ'} : Del μ p μ' → Del ((q, d) :: μ) p ((q, d) :: μ')
section
variable {K : PySem.W.Frag} {H H' H0 : Hp} {F : List Addr} {μ μ' : Mu} {ρ : List Sl} {σ : L2.St} {p : Addr} {c : Cl} {x : Sl} {v : V}
theorem At.mem (h : At μ p c) : (p, c) ∈ μ := by
  induction h with
  | here => exact List.mem_cons_self
  | there _ ih => exact List.mem_cons_of_mem _ ih
theorem Put.fst (h : Put μ p c μ') : μ'.map (·.1) = μ.map (·.1) := by
  induction h with
  | here => rfl
  | there _ ih => simp only [List.map_cons, ih]
theorem Put.mem (h : Put μ p c μ') : p ∈ μ.map (·.1) := by
  induction h with
  | here => simp
  | there _ ih => simp only [List.map_cons, List.mem_cons]; exact .inr ih
theorem Put.of (h : Put μ p c μ') (nd : (μ.map (·.1)).Nodup) : ∀ q ∈ μ', q = (p, c) ∨ (q ∈ μ ∧ q.1 ≠ p) := by
  induction h with
  | @here p c d μ =>
    intro q m
    rcases List.mem_cons.mp m with e | m
    · exact .inl e
    · refine .inr ⟨List.mem_cons_of_mem _ m, fun e => ?_⟩
      rw [List.map_cons, List.nodup_cons] at nd
      exact nd.1 (List.mem_map.mpr ⟨q, m, e⟩)
  | @there p c q0 d μ μ' h ih =>
    intro q m
    rw [List.map_cons, List.nodup_cons] at nd
    rcases List.mem_cons.mp m with e | m
    · refine .inr ⟨by rw [e]; exact List.mem_cons_self, fun z => nd.1 ?_⟩
      rw [e] at z
      have z' : q0 = p := z
      rw [z']
      exact h.mem
    · rcases ih nd.2 q m with e | ⟨m, n⟩
      · exact .inl e
      · exact .inr ⟨List.mem_cons_of_mem _ m, n⟩
theorem Del.sub (h : Del μ p μ') : List.Sublist μ' μ := by
  induction h with
  | here => exact List.sublist_cons_self ..
  | there _ ih => exact ih.cons_cons _
theorem Del.ne (h : Del μ p μ') (nd : (μ.map (·.1)).Nodup) : ∀ q ∈ μ', q.1 ≠ p := by
  induction h with
  | @here p c μ =>
    intro q m e
    rw [List.map_cons, List.nodup_cons] at nd
    exact nd.1 (List.mem_map.mpr ⟨q, m, e⟩)
  | @there p q0 d μ μ' h ih =>
    intro q m
    rw [List.map_cons, List.nodup_cons] at nd
    rcases List.mem_cons.mp m with e | m
    · rw [e]
      intro z
      have z' : q0 = p := z
      refine nd.1 ?_
      rw [z']
      have : ∀ {μ p μ'}, Del μ p μ' → p ∈ μ.map (·.1) := fun {μ p μ'} h => by
        induction h with
        | here => simp
        | there _ ih => simp only [List.map_cons, List.mem_cons]; exact .inr ih
      exact this h
    · exact ih nd.2 q m
theorem mem_own (h : Cs K H0 F μ H) (m : p ∈ μ.map (·.1)) : ∀ b o, H0 b = some o → b ∉ F → b ≠ p := fun b o e n z => by
  obtain ⟨q, mq, eq⟩ := List.mem_map.mp m
  rcases h.ow q mq with hf | hn
  · exact n (by rw [z, ← eq]; exact hf)
  · rw [eq, ← z, e] at hn; cases hn
/-- a cell is written -/
theorem Cs.put (h : Cs K H0 F μ H) (hp : Put μ p c μ') {o : HO} (hc : ClO K (upd H p o) p c) : Cs K H0 F μ' (upd H p o) := by
  obtain ⟨q, mq, eq⟩ := List.mem_map.mp hp.mem
  have mt : Mut (H p) := by rw [← eq]; exact (h.cl q mq).mut
  have k : Ke H (upd H p o) := Ke.put mt
  refine ⟨fun z m => ?_, by rw [hp.fst]; exact h.nd, fun z m => ?_, fun b u e n => ?_, h.ke.trans k⟩
  · rcases hp.of h.nd z m with e | ⟨m, n⟩
    · rw [e]; exact hc
    · exact (h.cl z m).keep k (upd_ne n)
  · rcases hp.of h.nd z m with e | ⟨m, n⟩
    · rw [e]
      have := h.ow q mq
      rw [eq] at this
      exact this
    · exact h.ow z m
  · rw [upd_ne (mem_own h hp.mem b u e n)]
    exact h.fr b u e n
/-- a cell becomes data: locked -/
theorem Cs.lock (h : Cs K H0 F μ H) (hp : Del μ p μ') (ha : p ∈ μ.map (·.1)) {o : HO} : Cs K H0 F μ' (upd H p o) := by
  obtain ⟨q, mq, eq⟩ := List.mem_map.mp ha
  have mt : Mut (H p) := by rw [← eq]; exact (h.cl q mq).mut
  have k : Ke H (upd H p o) := Ke.put mt
  refine ⟨fun z m => (h.cl z (hp.sub.subset m)).keep k (upd_ne (hp.ne h.nd z m)), (hp.sub.map (·.1)).nodup h.nd, fun z m => h.ow z (hp.sub.subset m), fun b u e n => ?_, h.ke.trans k⟩
  rw [upd_ne (mem_own h ha b u e n)]
  exact h.fr b u e n
end

/-! ### judgements -/
/-- e runs to what Q wants, by values and the abstract heap -/
def WE (X : Cx) (e : Expr) (σ : L2.St) (H : Hp) (Q : VK) : Prop := ∀ (pins : List (Addr × Obj)) (s : Shared), Inv X pins σ H s → wpAny (model X.prog X.w) X.A (eval e X.env) (EP X pins σ Q) X.xe s
def WT (X : Cx) (e : Expr) (σ : L2.St) (H : Hp) (Q : Bool → Hp → Prop) : Prop := ∀ (pins : List (Addr × Obj)) (s : Shared), Inv X pins σ H s → wpAny (model X.prog X.w) X.A (isTrue e X.env (eval e X.env)) (TP X pins σ Q) X.xe s
def WA (X : Cx) (es : List Expr) (σ : L2.St) (H : Hp) (Q : List V → Hp → Prop) : Prop := ∀ (pos : Pos) (pins : List (Addr × Obj)) (s : Shared), Inv X pins σ H s → wpAny (model X.prog X.w) X.A (spliced (backTo pos (starEach es X.env))) (AP X pins σ Q) X.xe s
def WS (X : Cx) (st : Stmt) (D : Ends) (σ : L2.St) (H : Hp) : Prop := ∀ (pins : List (Addr × Obj)) (s : Shared), Inv X pins σ H s → wpAny (model X.prog X.w) X.A (exec st X.env) (SP X pins D) X.xe s
def WSs (X : Cx) (st : List Stmt) (D : Ends) (σ : L2.St) (H : Hp) : Prop := ∀ (pins : List (Addr × Obj)) (s : Shared), Inv X pins σ H s → wpAny (model X.prog X.w) X.A (execs st X.env) (SP X pins D) X.xe s
section
variable {X : Cx} {e : Expr} {es : List Expr} {st : Stmt} {sts : List Stmt} {σ : L2.St} {H : Hp}
theorem we_pe : PE X e (fun σ H Q => WE X e σ H Q) := ⟨fun pins s σ H Q I h => h pins s I⟩
theorem we_pt : PT X e (fun σ H Q => WT X e σ H Q) := ⟨fun pins s σ H Q I h => h pins s I⟩
theorem we_pa : PA X es (fun σ H Q => WA X es σ H Q) := ⟨fun pos pins s σ H Q I h => h pos pins s I⟩
theorem we_ps : PS X st (fun D σ H => WS X st D σ H) := ⟨fun pins s σ H D I h => h pins s I⟩
theorem we_pss : PSs X sts (fun D σ H => WSs X sts D σ H) := ⟨fun pins s σ H D I h => h pins s I⟩
theorem we_of {t : TE} {Q : VK} (h : PE X e t) (q : t σ H Q) : WE X e σ H Q := fun pins s I => h.run pins s σ H Q I q
theorem wt_of {t : TT} {Q : Bool → Hp → Prop} (h : PT X e t) (q : t σ H Q) : WT X e σ H Q := fun pins s I => h.run pins s σ H Q I q
theorem wa_of {t : TA} {Q : List V → Hp → Prop} (h : PA X es t) (q : t σ H Q) : WA X es σ H Q := fun pos pins s I => h.run pos pins s σ H Q I q
theorem ws_of {t : TS} {D : Ends} (h : PS X st t) (q : t D σ H) : WS X st D σ H := fun pins s I => h.run pins s σ H D I q
theorem wss_of {t : TS} {D : Ends} (h : PSs X sts t) (q : t D σ H) : WSs X sts D σ H := fun pins s I => h.run pins s σ H D I q
theorem WE.mono {Q Q' : VK} (h : WE X e σ H Q) (f : ∀ v H', Q v H' → Q' v H') : WE X e σ H Q' := fun pins s I =>
  thn (h pins s I) fun _ _ ⟨v, H', I', r, q⟩ => ⟨v, H', I', r, f v H' q⟩
theorem WT.mono {Q Q' : Bool → Hp → Prop} (h : WT X e σ H Q) (f : ∀ v H', Q v H' → Q' v H') : WT X e σ H Q' := fun pins s I =>
  thn (h pins s I) fun _ _ ⟨H', I', q⟩ => ⟨H', I', f _ H' q⟩
theorem WA.mono {Q Q' : List V → Hp → Prop} (h : WA X es σ H Q) (f : ∀ v H', Q v H' → Q' v H') : WA X es σ H Q' := fun pos pins s I =>
  thn (h pos pins s I) fun _ _ ⟨v, H', I', r, q⟩ => ⟨v, H', I', r, f v H' q⟩
/-- a list that stands is locked, in the logic alone -/
theorem inv_lock {pins : List (Addr × Obj)} {s : Shared} {p : Addr} {vs : List V} (I : Inv X pins σ H s) (h : H p = some (.lst vs)) : ∃ o, Inv X pins σ (upd H p (.frz o (.lst vs))) s := by
  obtain ⟨z, its, n, r, e⟩ := I.hok p _ h
  refine ⟨_, I.write (h' := s.heap) (t' := s.toks) (x := p) (e := p) (by rw [h]; exact True.intro) (.inl rfl) (fun b u _ q => q) ⟨_, e⟩ ⟨e, z, its, n, r, e⟩⟩
theorem we_lock {p : Addr} {vs : List V} {Q : VK} (h : H p = some (.lst vs)) (k : ∀ o, WE X e σ (upd H p (.frz o (.lst vs))) Q) : WE X e σ H Q := fun pins s I => by
  obtain ⟨o, J⟩ := inv_lock I h
  exact k o pins s J
theorem wss_lock {p : Addr} {vs : List V} {D : Ends} (h : H p = some (.lst vs)) (k : ∀ o, WSs X sts D σ (upd H p (.frz o (.lst vs)))) : WSs X sts D σ H := fun pins s I => by
  obtain ⟨o, J⟩ := inv_lock I h
  exact k o pins s J
/-- the value just made, a list, is locked -/
theorem WE.locked {Q : VK} (h : WE X e σ H fun v H' => ∃ p vs, v = .ref p ∧ H' p = some (.lst vs) ∧ ∀ o, Q v (upd H' p (.frz o (.lst vs)))) : WE X e σ H Q := fun pins s I =>
  thn (h pins s I) fun _ _ ⟨v, H', I', r, p, vs, ev, hp, q⟩ => by
    obtain ⟨o, J⟩ := inv_lock I' hp
    exact ⟨v, _, J, r, q o⟩
end

/-- what is wanted of a value: in words of slots and cells -/
def PQ (K : PySem.W.Frag) (H0 : Hp) (F : List Addr) (H : Hp) (Q : Sl → Mu → Prop) : VK := fun v H' => Ke H H' ∧ ∃ x μ', SlV K H' x v ∧ Cs K H0 F μ' H' ∧ Q x μ'
def PB (K : PySem.W.Frag) (H0 : Hp) (F : List Addr) (H : Hp) (Q : Bool → Mu → Prop) : Bool → Hp → Prop := fun b H' => Ke H H' ∧ ∃ μ', Cs K H0 F μ' H' ∧ Q b μ'
def PL (K : PySem.W.Frag) (H0 : Hp) (F : List Addr) (H : Hp) (Q : List Sl → Mu → Prop) : List V → Hp → Prop := fun vs H' => Ke H H' ∧ ∃ xs μ', Paired (SlV K H') xs vs ∧ Cs K H0 F μ' H' ∧ Q xs μ'
def GE (X : Cx) (H0 : Hp) (F : List Addr) (e : Expr) (ρ : List Sl) (μ : Mu) (Q : Sl → Mu → Prop) : Prop :=
  ∀ σ H, Sls X.K H ρ σ → Cs X.K H0 F μ H → WE X e σ H (PQ X.K H0 F H Q)
def GT (X : Cx) (H0 : Hp) (F : List Addr) (e : Expr) (ρ : List Sl) (μ : Mu) (Q : Bool → Mu → Prop) : Prop :=
  ∀ σ H, Sls X.K H ρ σ → Cs X.K H0 F μ H → WT X e σ H (PB X.K H0 F H Q)
def GA (X : Cx) (H0 : Hp) (F : List Addr) (es : List Expr) (ρ : List Sl) (μ : Mu) (Q : List Sl → Mu → Prop) : Prop :=
  ∀ σ H, Sls X.K H ρ σ → Cs X.K H0 F μ H → WA X es σ H (PL X.K H0 F H Q)
structure GEnds where
  nx : List Sl → Mu → Prop
  rt : Sl → Mu → Prop
  bk : List Sl → Mu → Prop := fun _ _ => False
  ct : List Sl → Mu → Prop := fun _ _ => False
def GW (K : PySem.W.Frag) (H0 : Hp) (F : List Addr) (Hs : Hp) (R : List Sl → Mu → Prop) : L2.St → Hp → Prop := fun σ H => Ke Hs H ∧ ∃ ρ μ, Sls K H ρ σ ∧ Cs K H0 F μ H ∧ R ρ μ
def GR (K : PySem.W.Frag) (H0 : Hp) (F : List Addr) (R : Sl → Mu → Prop) : VK := fun v H => ∃ x μ, SlV K H x v ∧ Cs K H0 F μ H ∧ R x μ
def endsOf (K : PySem.W.Frag) (H0 : Hp) (F : List Addr) (Hs : Hp) (E : GEnds) : Ends := { nx := GW K H0 F Hs E.nx, rt := GR K H0 F E.rt, bk := GW K H0 F Hs E.bk, ct := GW K H0 F Hs E.ct }
def GS (X : Cx) (H0 : Hp) (F : List Addr) (st : Stmt) (E : GEnds) (ρ : List Sl) (μ : Mu) : Prop :=
  ∀ σ H, Sls X.K H ρ σ → Cs X.K H0 F μ H → WS X st (endsOf X.K H0 F H E) σ H
def GSs (X : Cx) (H0 : Hp) (F : List Addr) (st : List Stmt) (E : GEnds) (ρ : List Sl) (μ : Mu) : Prop :=
  ∀ σ H, Sls X.K H ρ σ → Cs X.K H0 F μ H → WSs X st (endsOf X.K H0 F H E) σ H
theorem SP.mono {X : Cx} {pins : List (Addr × Obj)} {D D' : Ends} {f : Flow} {s : Shared} (h : SP X pins D f s) (a : ∀ σ H, D.nx σ H → D'.nx σ H) (b : ∀ v H, D.rt v H → D'.rt v H) (c : ∀ σ H, D.bk σ H → D'.bk σ H) (d : ∀ σ H, D.ct σ H → D'.ct σ H) : SP X pins D' f s := by
  cases f with
  | next => obtain ⟨σ', H', I', q⟩ := h; exact ⟨σ', H', I', a _ _ q⟩
  | brk => obtain ⟨σ', H', I', q⟩ := h; exact ⟨σ', H', I', c _ _ q⟩
  | cont => obtain ⟨σ', H', I', q⟩ := h; exact ⟨σ', H', I', d _ _ q⟩
  | ret u => obtain ⟨v, σ', H', I', r, q⟩ := h; exact ⟨v, σ', H', I', r, b _ _ q⟩
theorem GW.from {K : PySem.W.Frag} {H0 : Hp} {F : List Addr} {Ha Hb : Hp} {R : List Sl → Mu → Prop} {σ : L2.St} {H : Hp} (k : Ke Ha Hb) (h : GW K H0 F Hb R σ H) : GW K H0 F Ha R σ H := ⟨k.trans h.1, h.2⟩
theorem GSs.run {X : Cx} {H0 : Hp} {F : List Addr} {sts : List Stmt} {E : GEnds} {ρ : List Sl} {μ : Mu} {σ : L2.St} {H Hb : Hp} {D : Ends} (h : GSs X H0 F sts E ρ μ) (k : Ke Hb H) (s : Sls X.K H ρ σ) (c : Cs X.K H0 F μ H)
    (a : ∀ σ H, GW X.K H0 F Hb E.nx σ H → D.nx σ H) (b : ∀ v H, GR X.K H0 F E.rt v H → D.rt v H) (e : ∀ σ H, GW X.K H0 F Hb E.bk σ H → D.bk σ H) (d : ∀ σ H, GW X.K H0 F Hb E.ct σ H → D.ct σ H) : WSs X sts D σ H := fun pins st I =>
  thn (h σ H s c pins st I) fun fl s' q => SP.mono q (fun _ _ z => a _ _ (z.from k)) b (fun _ _ z => e _ _ (z.from k)) fun _ _ z => d _ _ (z.from k)
theorem GSs.at {X : Cx} {H0 : Hp} {F : List Addr} {sts : List Stmt} {E : GEnds} {ρ : List Sl} {μ : Mu} {σ : L2.St} {H Hb : Hp} (h : GSs X H0 F sts E ρ μ) (k : Ke Hb H) (s : Sls X.K H ρ σ) (c : Cs X.K H0 F μ H) : WSs X sts (endsOf X.K H0 F Hb E) σ H :=
  h.run k s c (fun _ _ z => z) (fun _ _ z => z) (fun _ _ z => z) fun _ _ z => z
end Nl

/-! Nl, part B: operations that the hand layer serves in part alone. -/
namespace Nl
open PySem PySem.Spec PyProof.Rows L2
theorem tuple_mul1 (l : Addr) (items : Array Value) (n : Nat) (dd : Option Addr) (sl : Array (Option Value)) (x : Int) (u : Tok) (c0 : (decide (x < -(2 ^ 63)) || decide (x ≥ 2 ^ 63)) = false) (c1 : (items.isEmpty || x == 1) = true) :
    Meets (Builtin.«tuple.__mul__» ⟨[.ref l, .int x u], []⟩) (fun _ R s => s.heap.get? l = some { cls := .type "tuple", dict := dd, data := .seq items n, slots := sl } ∧ R (.ok (.ret (Value.ref l))) s) :=
  .of_wp fun prog w A R s h => by
    obtain ⟨hp, g, d, tk, os⟩ := s
    obtain ⟨hl, h⟩ := h
    have f1 := AutoSeq1.idx_int
    wp_walk using wpAny_loadPart' hl
    repeat (first
      | (refine wpAny_ite_false (decide_eq_false (by rw [c0]; exact Bool.false_ne_true)) ?_; wp_walk using wpAny_loadPart' hl)
      | (refine wpAny_ite_true (decide_eq_true (by rw [c1])) ?_; wp_walk using wpAny_loadPart' hl))
    exact ⟨_, rfl, h⟩
theorem tuple_mul0 (l : Addr) (items : Array Value) (n : Nat) (dd : Option Addr) (sl : Array (Option Value)) (x : Int) (u : Tok) (c0 : (decide (x < -(2 ^ 63)) || decide (x ≥ 2 ^ 63)) = false) (c1 : (items.isEmpty || x == 1) = false) (c2 : (decide (x ≤ 0) || items.isEmpty) = true) :
    Meets (Builtin.«tuple.__mul__» ⟨[.ref l, .int x u], []⟩) (fun _ R s => s.heap.get? l = some { cls := .type "tuple", dict := dd, data := .seq items n, slots := sl } ∧
      R (.ok (.ret (Value.ref s.heap.objs.size))) { s with heap := s.heap.push { cls := Value.type "tuple", data := Data.seq #[] }, toks := s.toks }) :=
  .of_wp fun prog w A R s h => by
    obtain ⟨hp, g, d, tk, os⟩ := s
    obtain ⟨hl, h⟩ := h
    have f1 := AutoSeq1.idx_int
    wp_walk using wpAny_loadPart' hl
    repeat (first
      | (refine wpAny_ite_false (decide_eq_false (by rw [c0]; exact Bool.false_ne_true)) ?_; wp_walk using wpAny_loadPart' hl)
      | (refine wpAny_ite_false (decide_eq_false (by rw [c1]; exact Bool.false_ne_true)) ?_; wp_walk using wpAny_loadPart' hl)
      | (refine wpAny_ite_true (decide_eq_true (by rw [c2])) ?_; wp_walk using wpAny_loadPart' hl))
    exact ⟨_, rfl, h⟩
/-- a tuple times an int -/
def rRepA (K : PySem.W.Frag) : R2 := fun x y H Q => ∃ l k xs, x = .ref l ∧ y = .int k ∧ SqT K H l xs ∧ -(2 ^ 63) ≤ k ∧ k < 2 ^ 63 ∧ xs.length * k.toNat ≤ 1000000 ∧
  ((xs = [] ∨ k = 1) → Q (.ref l) H) ∧ (¬ (xs = [] ∨ k = 1) → ∀ p, H p = none → Q (.ref p) (upd H p (.tup (List.replicate k.toNat xs).flatten)))
theorem op_repA {X : Cx} : OpR X (binaryOp .Mult) (rRepA X.K) := by
  intro pins s σ H x y v u Q I rx ry h
  obtain ⟨l, k, xs, rfl, rfl, hT, h1, h2, hz, q1, q2⟩ := h
  cases rx
  obtain ⟨t, rfl⟩ := ry
  obtain ⟨its, r, ⟨⟨cls, dd, data, sl⟩, ho, hc, n, hd⟩, hs⟩ := I.tuple hT
  simp only at hc hd
  subst hc hd
  have hle : its.length = xs.length := r.length.symm
  have he : its.toArray.isEmpty = xs.isEmpty := by
    cases its with
    | nil => cases xs with
      | nil => rfl
      | cons _ _ => simp at hle
    | cons _ _ => cases xs with
      | nil => simp at hle
      | cons _ _ => rfl
  have c0 : (decide (k < -(2 ^ 63)) || decide (k ≥ 2 ^ 63)) = false := by
    rw [decide_eq_false (by omega), decide_eq_false (by omega)] <;> rfl
  have go : ∀ {R : Result → Shared → Prop} , codeAny (model X.prog X.w) X.A (.call (.builtin "tuple.__mul__") ⟨[.ref l, .int k t], []⟩) R s → True := fun _ => trivial
  by_cases hq : xs = [] ∨ k = 1
  · have c1 : (its.toArray.isEmpty || k == 1) = true := by
      rw [he]
      rcases hq with e | e
      · rw [e]; rfl
      · rw [e]; simp
    refine wpAny_binaryOp_repeat_ref (T := "tuple") (U := "int") (by decide) ⟨_, ho, rfl⟩ (fun s' => typeIs_int s' k t) noFill_tuple_mul F.fills_int_mul F.slot_int_rmul repeat_tuple F.slot_int_index.lookup
      (call_meets F.slot_int_rmul (typeIs_int s k t) F.entry_int_rmul (F.args_int_rmul_2 _ _) (int_rmul_tuple k t l its.toArray n dd sl)
        ⟨ho, rfl, ⟨_, ho, rfl⟩, call_meets F.slot_tuple_mul ⟨_, ho, rfl⟩ F.entry_tuple_mul (F.args_tuple_mul_2 _ _) (tuple_mul1 l its.toArray n dd sl k t c0 c1) ⟨ho, ?_⟩⟩)
    exact ⟨.ref l, H, I, rfl, q1 hq⟩
  · have hxs : xs ≠ [] := fun e => hq (.inl e)
    have hk1 : k ≠ 1 := fun e => hq (.inr e)
    have e1 : xs.isEmpty = false := by
      cases xs with
      | nil => exact absurd rfl hxs
      | cons _ _ => rfl
    have c1 : (its.toArray.isEmpty || k == 1) = false := by
      rw [he, e1, Bool.false_or]
      exact beq_eq_false_iff_ne.mpr hk1
    by_cases hk : k ≤ 0
    · have c2 : (decide (k ≤ 0) || its.toArray.isEmpty) = true := by rw [decide_eq_true hk]; rfl
      have ek : (List.replicate k.toNat xs).flatten = [] := by rw [Int.toNat_of_nonpos hk]; rfl
      rw [ek] at q2
      refine wpAny_binaryOp_repeat_ref (T := "tuple") (U := "int") (by decide) ⟨_, ho, rfl⟩ (fun s' => typeIs_int s' k t) noFill_tuple_mul F.fills_int_mul F.slot_int_rmul repeat_tuple F.slot_int_index.lookup
        (call_meets F.slot_int_rmul (typeIs_int s k t) F.entry_int_rmul (F.args_int_rmul_2 _ _) (int_rmul_tuple k t l its.toArray n dd sl)
          ⟨ho, rfl, ⟨_, ho, rfl⟩, call_meets F.slot_tuple_mul ⟨_, ho, rfl⟩ F.entry_tuple_mul (F.args_tuple_mul_2 _ _) (tuple_mul0 l its.toArray n dd sl k t c0 c1 c2) ⟨ho, ?_⟩⟩)
      refine ⟨.ref s.heap.objs.size, _, I.laid (t' := s.toks) (o := .tup []) (fun b ob q => Heap.get?_push_of_some _ q) (Nat.le_refl _) ?_, rfl, q2 hq _ (I.hok.fresh (Nat.le_refl _))⟩
      exact ⟨Nat.zero_le _, [], .nil, IsTup.new _ _⟩
    · have c2 : (decide (k ≤ 0) || its.toArray.isEmpty) = false := by
        rw [he, e1, Bool.or_false]
        exact decide_eq_false hk
      have hsz0 : its.toArray.size = xs.length := by rw [List.size_toArray, hle]
      have hm : ((its.toArray.size : Nat) : Int) * k ≤ 1000000 := by
        rw [hsz0]
        have a1 : k = (k.toNat : Int) := by omega
        rw [a1, ← Int.natCast_mul]
        omega
      have flen : (List.replicate k.toNat its).flatten.length ≤ sizeLine := by
        rw [PyProof.Rows.lm_len_rep_flat, hle, sizeLine_eq, Nat.mul_comm]
        omega
      have c4 : Builtin.Tuple.tupleTooMany (((its.toArray.size : Nat) : Int) * k) = false := by
        unfold Builtin.Tuple.tupleTooMany
        rw [sizeLine_eq]
        exact decide_eq_false (by omega)
      refine wpAny_binaryOp_repeat_ref (T := "tuple") (U := "int") (by decide) ⟨_, ho, rfl⟩ (fun s' => typeIs_int s' k t) noFill_tuple_mul F.fills_int_mul F.slot_int_rmul repeat_tuple F.slot_int_index.lookup
        (call_meets F.slot_int_rmul (typeIs_int s k t) F.entry_int_rmul (F.args_int_rmul_2 _ _) (int_rmul_tuple k t l its.toArray n dd sl)
          ⟨ho, rfl, ⟨_, ho, rfl⟩, call_meets F.slot_tuple_mul ⟨_, ho, rfl⟩ F.entry_tuple_mul (F.args_tuple_mul_2 _ _) (tuple_mulW l its.toArray n dd sl k t c0 c1 c2 (by omega) c4 (by rw [size_rep, List.size_toArray]; exact flen)) ⟨ho, ?_⟩⟩)
      rw [size_rep]
      refine ⟨.ref s.heap.objs.size, _, I.laid (t' := s.toks) (o := .tup (List.replicate k.toNat xs).flatten) (fun b ob q => Heap.get?_push_of_some _ q) (Nat.le_refl _) ?_, rfl, q2 hq _ (I.hok.fresh (Nat.le_refl _))⟩
      exact ⟨by rw [PyProof.Rows.lm_len_rep_flat, sizeLine_eq, Nat.mul_comm]; omega, _, r.rep k.toNat, IsTup.new _ _⟩
/-- list + list, locked ones too -/
def rCatX (K : PySem.W.Frag) : R2 := fun x y H Q => ∃ l b xs zs, x = .ref l ∧ y = .ref b ∧ LsO K H l xs ∧ LsO K H b zs ∧ xs.length + zs.length ≤ sizeLine ∧ ∀ p, H p = none → Q (.ref p) (upd H p (.lst (xs ++ zs)))
theorem op_catX {X : Cx} : OpR X (binaryOp .Add) (rCatX X.K) := by
  intro pins s σ H x y v u Q I rx ry h
  obtain ⟨l, b, xs, zs, rfl, rfl, hH, hB, hz, q⟩ := h
  cases rx
  cases ry
  obtain ⟨_, its, n, r, e⟩ := hH.obj I
  obtain ⟨_, its2, n2, r2, e2⟩ := hB.obj I
  have l1 := Vals.length r
  have l2 := Vals.length r2
  refine PySem.P.add_list e e2 ?_ (by rw [List.size_toArray, List.size_toArray]; omega)
  rw [show its.toArray ++ its2.toArray = (its ++ its2).toArray by simp]
  exact ⟨.ref _, _, I.lnew (t' := s.toks) (r.append r2) (by rw [List.length_append]; omega), rfl, q _ I.fresh⟩
/-- list * int, locked ones too -/
def rRepX (K : PySem.W.Frag) : R2 := fun x y H Q => ∃ l k xs, x = .ref l ∧ y = .int k ∧ LsO K H l xs ∧ -(2 ^ 63) ≤ k ∧ k < 2 ^ 63 ∧ xs.length * k.toNat ≤ sizeLine ∧
  ∀ p, H p = none → Q (.ref p) (upd H p (.lst (List.replicate k.toNat xs).flatten))
theorem fold_rep (its : List Value) (k : Int) : List.foldl (fun x1 x2 => x1 ++ x2) #[] (List.replicate (if its.toArray.isEmpty = true then 0 else k.toNat) its.toArray) = (List.replicate k.toNat its).flatten.toArray := by
  have f0 := foldl_rep its (if its.toArray.isEmpty = true then 0 else k.toNat) []
  rw [List.nil_append] at f0
  refine Eq.trans f0 ?_
  cases its with
  | nil => simp
  | cons a r' => rw [if_neg (by simp)]
theorem op_repX {X : Cx} : OpR X (binaryOp .Mult) (rRepX X.K) := by
  intro pins s σ H x y v u Q I rx ry h
  obtain ⟨l, k, xs, rfl, rfl, hH, h1, h2, hz, q⟩ := h
  cases rx
  obtain ⟨t, rfl⟩ := ry
  obtain ⟨_, its, n, r, e⟩ := hH.obj I
  have hl := Vals.length r
  have hlen : its.toArray.size * k.toNat ≤ sizeLine := by rw [List.size_toArray, ← hl]; exact hz
  have hcap : ¬ its.toArray.size * k.toNat > (2 ^ 63 - 1) / 8 := by
    have : (sizeLine : Nat) ≤ (2 ^ 63 - 1) / 8 := by decide
    omega
  have hfit : ¬ (!Builtin.List.listFitsIndex k) = true := by rw [fitsIndex_both h1 h2]; exact Bool.false_ne_true
  have hlong : ¬ Builtin.List.listTooLong (its.toArray.size * k.toNat) = true := by rw [notLongL hlen]; exact Bool.false_ne_true
  have M := AutoListH.list___mul___list_int_3 l its.toArray n k t hfit hcap hlong
  refine wpAny_binaryOp_repeat_ref (T := "list") (U := "int") (by decide) ⟨_, e, rfl⟩ (fun s' => typeIs_int s' k t) noFill_list_mul F.fills_int_mul F.slot_int_rmul repeat_list F.slot_int_index.lookup ?_
  refine call_meets F.slot_int_rmul (typeIs_int s k t) F.entry_int_rmul (F.args_int_rmul_2 _ _) (int___rmul___int_list k t l its.toArray n) ⟨e, rfl, ⟨_, e, rfl⟩, ?_⟩
  refine call_meets F.slot_list_mul ⟨_, e, rfl⟩ F.entry_list_mul (F.args_list_mul_2 _ _) M ⟨e, ?_⟩
  rw [fold_rep]
  exact ⟨.ref _, _, I.lnew (t' := s.toks) (r.rep k.toNat) (by rw [PyProof.Rows.lm_len_rep_flat, Nat.mul_comm]; exact hz), rfl, q _ I.fresh⟩
end Nl

/-! Nl, part C: expressions. -/
namespace Nl
open PySem PySem.Spec PyProof.Rows L2
section
variable {X : Cx} {H0 : Hp} {F : List Addr} {ρ : List Sl} {μ μ' : Mu} {a b c e : Expr} {es : List Expr} {pos : Pos} {Q : Sl → Mu → Prop} {R : Bool → Mu → Prop} {QL : List Sl → Mu → Prop}
def Sl.known : Sl → Prop
  | .u => False
  | _ => True
theorem pair_get {α β : Type} {T : α → β → Prop} {xs : List α} {ys : List β} (h : Paired T xs ys) {i : Nat} {x : α} (e : xs[i]? = some x) : ∃ y, ys[i]? = some y ∧ T x y := by
  have hl := Paired.length h
  obtain ⟨hi, _⟩ := List.getElem?_eq_some_iff.mp e
  have hi' : i < ys.length := by omega
  exact ⟨ys[i], List.getElem?_eq_getElem hi', pair_ix h i _ _ e (List.getElem?_eq_getElem hi')⟩
theorem ge_of {t : TE} (h : PE X e t) (q : ∀ σ H, Sls X.K H ρ σ → Cs X.K H0 F μ H → t σ H (PQ X.K H0 F H Q)) : GE X H0 F e ρ μ Q := fun σ H s c => we_of h (q σ H s c)
theorem gt_of {t : TT} (h : PT X e t) (q : ∀ σ H, Sls X.K H ρ σ → Cs X.K H0 F μ H → t σ H (PB X.K H0 F H R)) : GT X H0 F e ρ μ R := fun σ H s c => wt_of h (q σ H s c)
theorem ga_of {t : TA} (h : PA X es t) (q : ∀ σ H, Sls X.K H ρ σ → Cs X.K H0 F μ H → t σ H (PL X.K H0 F H QL)) : GA X H0 F es ρ μ QL := fun σ H s c => wa_of h (q σ H s c)
theorem pq_here {Hb H : Hp} {x : Sl} {v : V} (k : Ke Hb H) (s : SlV X.K H x v) (c : Cs X.K H0 F μ H) (q : Q x μ) : PQ X.K H0 F Hb Q v H := ⟨k, x, μ, s, c, q⟩
theorem pq_d {Hb H : Hp} {x : PyData} {v : V} (k : Ke Hb H) (z : Fz X.K H v x) (c : Cs X.K H0 F μ H) (q : Q (.d x) μ) : PQ X.K H0 F Hb Q v H := ⟨k, .d x, μ, z, c, q⟩
theorem pq_a {Hb H : Hp} {p : Addr} (k : Ke Hb H) (c : Cs X.K H0 F μ H) (q : Q (.a p) μ) : PQ X.K H0 F Hb Q (.ref p) H := ⟨k, .a p, μ, rfl, c, q⟩
/-- a new object that is data -/
theorem pq_tup {Hb H : Hp} {p : Addr} {vs : List V} {ds : List PyData} (k : Ke Hb H) (n : H p = none) (z : FzA X.K H vs ds) (c : Cs X.K H0 F μ H) (q : Q (.d (.tuple ds)) μ) : PQ X.K H0 F Hb Q (.ref p) (upd H p (.tup vs)) :=
  have k2 : Ke H (upd H p (.tup vs)) := Ke.new n
  pq_d (k.trans k2) (fz_tup upd_same (z.keep k2)) (c.grow fun b o e => by rw [upd_ne (ne_of_none e n)]; exact e) q
/-- a new list, a cell -/
theorem pq_cell {Hb H : Hp} {p : Addr} {vs : List V} {xs : List Sl} (k : Ke Hb H) (n : H p = none) (z : Paired (SlV X.K H) xs vs) (c : Cs X.K H0 F μ H) (q : ∀ p, Q (.a p) ((p, .lst xs) :: μ)) : PQ X.K H0 F Hb Q (.ref p) (upd H p (.lst vs)) :=
  have k2 : Ke H (upd H p (.lst vs)) := Ke.new n
  pq_a (k.trans k2) (c.new (c := .lst xs) n ⟨vs, upd_same, Paired.mapP z fun _ _ t => t.keep k2⟩) (q p)
/-- a new list that is locked at once -/
theorem pq_lock {Hb H : Hp} {p : Addr} {vs : List V} {ds : List PyData} {o : Obj} (k : Ke Hb H) (n : H p = none) (z : FzA X.K H vs ds) (c : Cs X.K H0 F μ H) (q : Q (.d (.list ds)) μ) : PQ X.K H0 F Hb Q (.ref p) (upd (upd H p (.lst vs)) p (.frz o (.lst vs))) := by
  rw [upd_upd]
  have k2 : Ke H (upd H p (.frz o (.lst vs))) := Ke.new n
  exact pq_d (k.trans k2) (fz_lst (.inl ⟨o, upd_same⟩) (z.keep k2)) (c.grow fun b o e => by rw [upd_ne (ne_of_none e n)]; exact e) q
theorem GE.run {σ : L2.St} {H : Hp} (h : GE X H0 F e ρ μ Q) (s : Sls X.K H ρ σ) (c : Cs X.K H0 F μ H) {P : VK} (k : ∀ v H' x μ', Ke H H' → SlV X.K H' x v → Cs X.K H0 F μ' H' → Q x μ' → P v H') : WE X e σ H P :=
  (h σ H s c).mono fun v H' ⟨ke, x, μ', sv, cs, q⟩ => k v H' x μ' ke sv cs q
theorem GT.run {σ : L2.St} {H : Hp} (h : GT X H0 F e ρ μ R) (s : Sls X.K H ρ σ) (c : Cs X.K H0 F μ H) {P : Bool → Hp → Prop} (k : ∀ b H' μ', Ke H H' → Cs X.K H0 F μ' H' → R b μ' → P b H') : WT X e σ H P :=
  (h σ H s c).mono fun v H' ⟨ke, μ', cs, q⟩ => k v H' μ' ke cs q
theorem GA.run {σ : L2.St} {H : Hp} (h : GA X H0 F es ρ μ QL) (s : Sls X.K H ρ σ) (c : Cs X.K H0 F μ H) {P : List V → Hp → Prop} (k : ∀ vs H' xs μ', Ke H H' → Paired (SlV X.K H') xs vs → Cs X.K H0 F μ' H' → QL xs μ' → P vs H') : WA X es σ H P :=
  (h σ H s c).mono fun v H' ⟨ke, x, μ', sv, cs, q⟩ => k v H' x μ' ke sv cs q
theorem GE.mono {Q' : Sl → Mu → Prop} (h : GE X H0 F e ρ μ Q) (f : ∀ x m, Q x m → Q' x m) : GE X H0 F e ρ μ Q' := fun σ H s c => h.run s c fun v H' x μ' k sv cs q => ⟨k, x, μ', sv, cs, f _ _ q⟩

/-! ### names, constants -/
theorem ge_name (i : Nat) {x : Str} {sl : Sl} (hr : ρ[i]? = some sl) (hk : sl.known) (q : Q sl μ) (hN : X.N[i]? = some x := by rfl) (hv : Vis X.env.scope x := by first | exact Or.inl rfl | exact Or.inr (Or.inl rfl) | exact Or.inr (Or.inr rfl)) (hd : (x == ("__debug__" : Str)) = false := by decide)
    (hcd : (x == ("__classdict__" : Str)) = false := by decide) : GE X H0 F (.Name x pos) ρ μ Q := ge_of (pe_var hN hv hd hcd) fun σ H s c => by
  obtain ⟨o, ho, hs⟩ := pair_get s hr
  cases sl with
  | u => exact hk.elim
  | d y =>
    obtain ⟨v, e, z⟩ := hs
    subst e
    exact ⟨v, ho, pq_d .refl z c q⟩
  | a p =>
    have e : o = some (.ref p) := hs
    subst e
    exact ⟨.ref p, ho, pq_a .refl c q⟩
  | w y =>
    have e : o = some y := hs
    subst e
    exact ⟨y, ho, .refl, .w y, μ, rfl, c, q⟩
theorem ge_int {i j} (q : Q (.d (.int i)) μ) : GE X H0 F (.Constant (.int i) j pos) ρ μ Q := ge_of pe_int fun σ H s c => pq_d .refl (.int i) c q
theorem ge_bl {i j} (q : Q (.d (.bool i)) μ) : GE X H0 F (.Constant (.bool i) j pos) ρ μ Q := ge_of pe_bl fun σ H s c => pq_d .refl (.bl i) c q
theorem ge_non {j} (q : Q (.d .none) μ) : GE X H0 F (.Constant .none j pos) ρ μ Q := ge_of pe_non fun σ H s c => pq_d .refl .non c q
theorem ge_str {i j} (q : Q (.d (.str i)) μ) : GE X H0 F (.Constant (.str i) j pos) ρ μ Q := ge_of pe_str fun σ H s c => pq_d .refl (.str i) c q
theorem ge_globI {x : Str} {i : Int} {t : Tok} (hm : X.mg x = some (.int i t)) (q : Q (.d (.int i)) μ) (hg : Gl X x := by rfl) (hd : (x == ("__debug__" : Str)) = false := by decide) : GE X H0 F (.Name x pos) ρ μ Q :=
  ge_of (pe_glob hg hm (v := .int i) ⟨t, rfl⟩ hd) fun σ H s c => pq_d .refl (.int i) c q

/-! ### two-place operations -/
/-- f of two values -/
def BO (X : Cx) (H0 : Hp) (F : List Addr) (f : Value → Value → Sem Value) (x y : Sl) (μ : Mu) (Q : Sl → Mu → Prop) : Prop :=
  ∃ r : R2, OpR X f r ∧ ∀ Hb H v w, Ke Hb H → SlV X.K H x v → SlV X.K H y w → Cs X.K H0 F μ H → r v w H (PQ X.K H0 F Hb Q)
theorem opS {f : Value → Value → Sem Value} : OpR X f fun v w H Q => ∃ r : R2, OpR X f r ∧ r v w H Q := fun pins s σ H x y v u Q I rx ry ⟨r, ho, h⟩ => ho pins s σ H x y v u Q I rx ry h
theorem bo_run {f : Value → Value → Sem Value} {σ : L2.St} {H : Hp} (h : GE X H0 F a ρ μ fun x μ1 => GE X H0 F b ρ μ1 fun y μ2 => BO X H0 F f x y μ2 Q) (s : Sls X.K H ρ σ) (c : Cs X.K H0 F μ H) :
    WE X a σ H fun v H1 => WE X b σ H1 fun w H2 => ∃ r : R2, OpR X f r ∧ r v w H2 (PQ X.K H0 F H Q) :=
  h.run s c fun v H1 x μ1 k1 sv cs q1 => q1.run (s.keep k1) cs fun w H2 y μ2 k2 sw cs2 ⟨r, ho, hr⟩ => ⟨r, ho, hr H H2 v w (k1.trans k2) (sv.keep k2) sw cs2⟩
theorem ge_bin {op : Operator} (h : GE X H0 F a ρ μ fun x μ1 => GE X H0 F b ρ μ1 fun y μ2 => BO X H0 F (binaryOp op) x y μ2 Q) : GE X H0 F (.BinOp a op b pos) ρ μ Q :=
  ge_of (pe_op opS we_pe we_pe) fun σ H s c => bo_run h s c
theorem ge_cmp {op : CmpOp} (h : GE X H0 F a ρ μ fun x μ1 => GE X H0 F b ρ μ1 fun y μ2 => BO X H0 F (compareOp op) x y μ2 Q) (hm : behindInMarks op b = false := by first | exact nomark _ | rfl) : GE X H0 F (.Compare a [op] [b] pos) ρ μ Q :=
  ge_of (pe_cmpR opS we_pe we_pe hm) fun σ H s c => bo_run h s c
theorem gt_cmp {op : CmpOp} (h : GE X H0 F a ρ μ fun x μ1 => GE X H0 F b ρ μ1 fun y μ2 => BO X H0 F (compareOp op) x y μ2 fun z m => ∃ k, z = .d (.bool k) ∧ R k m) (hm : behindInMarks op b = false := by first | exact nomark _ | rfl) :
    GT X H0 F (.Compare a [op] [b] pos) ρ μ R :=
  gt_of (pt_cmpR opS we_pe we_pe hm) fun σ H s c => (bo_run h s c).mono fun v H1 q => q.mono fun w H2 ⟨r, ho, hr⟩ => ⟨fun v w H Q => ∃ Q' : VK, r v w H Q' ∧ ∀ v H, Q' v H → Q v H,
    fun pins s σ H x y v u Q I rx ry ⟨Q', h, g⟩ => thn (ho pins s σ H x y v u Q' I rx ry h) fun _ _ ⟨v, H', I', r, q⟩ => ⟨v, H', I', r, g v H' q⟩,
    _, hr, fun v H' ⟨k, z, m, sv, cs, kk, e, q⟩ => by
      subst e
      exact ⟨kk, Fz.bool_inv sv, k, m, cs, q⟩⟩
variable {i j : Int}
theorem bo_add (q : Q (.d (.int (i + j))) μ) : BO X H0 F (binaryOp .Add) (.d (.int i)) (.d (.int j)) μ Q := ⟨_, op_add, fun Hb H v w k sv sw c => ⟨i, j, Fz.int_inv sv, Fz.int_inv sw, pq_d k (.int _) c q⟩⟩
theorem bo_sub (q : Q (.d (.int (i - j))) μ) : BO X H0 F (binaryOp .Sub) (.d (.int i)) (.d (.int j)) μ Q := ⟨_, op_sub, fun Hb H v w k sv sw c => ⟨i, j, Fz.int_inv sv, Fz.int_inv sw, pq_d k (.int _) c q⟩⟩
theorem bo_mul (h : CMulW i j) (q : Q (.d (.int (i * j))) μ) : BO X H0 F (binaryOp .Mult) (.d (.int i)) (.d (.int j)) μ Q := ⟨_, op_mulW, fun Hb H v w k sv sw c => ⟨i, j, Fz.int_inv sv, Fz.int_inv sw, h, pq_d k (.int _) c q⟩⟩
theorem bo_mod (h : 0 < j) (q : Q (.d (.int (i % j))) μ) : BO X H0 F (binaryOp .Mod) (.d (.int i)) (.d (.int j)) μ Q := ⟨_, op_mod, fun Hb H v w k sv sw c => ⟨i, j, Fz.int_inv sv, Fz.int_inv sw, h, pq_d k (.int _) c q⟩⟩
theorem bo_div (h : CDivW i j) (q : Q (.d (.int (i / j))) μ) : BO X H0 F (binaryOp .FloorDiv) (.d (.int i)) (.d (.int j)) μ Q := ⟨_, op_fdivW, fun Hb H v w k sv sw c => ⟨i, j, Fz.int_inv sv, Fz.int_inv sw, h, pq_d k (.int _) c q⟩⟩
theorem bo_pow (h : CPow i j) (q : Q (.d (.int (i ^ j.toNat))) μ) : BO X H0 F (binaryOp .Pow) (.d (.int i)) (.d (.int j)) μ Q := ⟨_, op_pow, fun Hb H v w k sv sw c => ⟨i, j, Fz.int_inv sv, Fz.int_inv sw, h, pq_d k (.int _) c q⟩⟩
theorem bo_lt (q : Q (.d (.bool (decide (i < j)))) μ) : BO X H0 F (compareOp .Lt) (.d (.int i)) (.d (.int j)) μ Q := ⟨_, op_lt, fun Hb H v w k sv sw c => ⟨i, j, Fz.int_inv sv, Fz.int_inv sw, pq_d k (.bl _) c q⟩⟩
theorem bo_le (q : Q (.d (.bool (decide (i ≤ j)))) μ) : BO X H0 F (compareOp .LtE) (.d (.int i)) (.d (.int j)) μ Q := ⟨_, op_le, fun Hb H v w k sv sw c => ⟨i, j, Fz.int_inv sv, Fz.int_inv sw, pq_d k (.bl _) c q⟩⟩
theorem bo_gt (q : Q (.d (.bool (decide (j < i)))) μ) : BO X H0 F (compareOp .Gt) (.d (.int i)) (.d (.int j)) μ Q := ⟨_, op_gt, fun Hb H v w k sv sw c => ⟨i, j, Fz.int_inv sv, Fz.int_inv sw, pq_d k (.bl _) c q⟩⟩
theorem bo_ge (q : Q (.d (.bool (decide (j ≤ i)))) μ) : BO X H0 F (compareOp .GtE) (.d (.int i)) (.d (.int j)) μ Q := ⟨_, op_ge, fun Hb H v w k sv sw c => ⟨i, j, Fz.int_inv sv, Fz.int_inv sw, pq_d k (.bl _) c q⟩⟩
theorem bo_eqI (q : Q (.d (.bool (decide (i = j)))) μ) : BO X H0 F (compareOp .Eq) (.d (.int i)) (.d (.int j)) μ Q := ⟨_, op_eq, fun Hb H v w k sv sw c => by
  rw [Fz.int_inv sv, Fz.int_inv sw]
  refine ⟨rfl, pq_d k ?_ c q⟩
  rw [show (decide (V.int i = V.int j)) = decide (i = j) from decide_eq_decide.mpr ⟨V.int.inj, fun e => by rw [e]⟩]
  exact .bl _⟩
theorem bo_neI (q : Q (.d (.bool (!decide (i = j)))) μ) : BO X H0 F (compareOp .NotEq) (.d (.int i)) (.d (.int j)) μ Q := ⟨_, op_ne, fun Hb H v w k sv sw c => by
  rw [Fz.int_inv sv, Fz.int_inv sw]
  refine ⟨rfl, pq_d k ?_ c q⟩
  rw [show (decide (V.int i = V.int j)) = decide (i = j) from decide_eq_decide.mpr ⟨V.int.inj, fun e => by rw [e]⟩]
  exact .bl _⟩
theorem bo_eqS {x y : Str} (q : Q (.d (.bool (decide (x = y)))) μ) : BO X H0 F (compareOp .Eq) (.d (.str x)) (.d (.str y)) μ Q := ⟨_, op_eq, fun Hb H v w k sv sw c => by
  rw [Fz.str_inv sv, Fz.str_inv sw]
  refine ⟨rfl, pq_d k ?_ c q⟩
  rw [show (decide (V.str x = V.str y)) = decide (x = y) from decide_eq_decide.mpr ⟨V.str.inj, fun e => by rw [e]⟩]
  exact .bl _⟩
theorem bo_neS {x y : Str} (q : Q (.d (.bool (!decide (x = y)))) μ) : BO X H0 F (compareOp .NotEq) (.d (.str x)) (.d (.str y)) μ Q := ⟨_, op_ne, fun Hb H v w k sv sw c => by
  rw [Fz.str_inv sv, Fz.str_inv sw]
  refine ⟨rfl, pq_d k ?_ c q⟩
  rw [show (decide (V.str x = V.str y)) = decide (x = y) from decide_eq_decide.mpr ⟨V.str.inj, fun e => by rw [e]⟩]
  exact .bl _⟩
def isNone : PyData → Bool
  | .none => true
  | _ => false
theorem decide_non {d : PyData} {v : V} {H : Hp} {K : PySem.W.Frag} (z : Fz K H v d) : decide (v = .non) = isNone d := by
  cases z <;> rfl
theorem bo_isN {d : PyData} (q : Q (.d (.bool (isNone d))) μ) : BO X H0 F (compareOp .Is) (.d d) (.d .none) μ Q := ⟨_, op_isN, fun Hb H v w k sv sw c => by
  refine ⟨Fz.none_inv sw, ?_⟩
  rw [decide_non sv]
  exact pq_d k (.bl _) c q⟩
theorem bo_notN {d : PyData} (q : Q (.d (.bool (!isNone d))) μ) : BO X H0 F (compareOp .IsNot) (.d d) (.d .none) μ Q := ⟨_, op_notN, fun Hb H v w k sv sw c => by
  refine ⟨Fz.none_inv sw, ?_⟩
  rw [decide_non sv]
  exact pq_d k (.bl _) c q⟩
/-- tuples -/
theorem bo_catT {xs ys : List PyData} (h : xs.length + ys.length ≤ sizeLine) (q : Q (.d (.tuple (xs ++ ys))) μ) : BO X H0 F (binaryOp .Add) (.d (.tuple xs)) (.d (.tuple ys)) μ Q := ⟨_, op_catA, fun Hb H v w k sv sw c => by
  obtain ⟨a, vs, rfl, ta, za⟩ := Fz.tuple_inv sv
  obtain ⟨b, ws, rfl, tb, zb⟩ := Fz.tuple_inv sw
  have l1 := Paired.length za
  have l2 := Paired.length zb
  refine ⟨a, b, vs, ws, rfl, rfl, ta, tb, by omega, fun e => ?_, fun _ e => ?_, fun _ _ p n => pq_tup k n (pair_append za zb) c q⟩
  · subst e
    cases xs with
    | nil => exact pq_d k sw c q
    | cons _ _ => simp at l1
  · subst e
    cases ys with
    | nil => rw [List.append_nil] at q; exact pq_d k sv c q
    | cons _ _ => simp at l2⟩
theorem bo_repT {xs : List PyData} (h1 : -(2 ^ 63) ≤ i) (h2 : i < 2 ^ 63) (h : xs.length * i.toNat ≤ 1000000) (q : Q (.d (.tuple (List.replicate i.toNat xs).flatten)) μ) : BO X H0 F (binaryOp .Mult) (.d (.tuple xs)) (.d (.int i)) μ Q :=
  ⟨_, op_repA, fun Hb H v w k sv sw c => by
  obtain ⟨a, vs, rfl, ta, za⟩ := Fz.tuple_inv sv
  have l1 := Paired.length za
  refine ⟨a, i, vs, rfl, Fz.int_inv sw, ta, h1, h2, by rw [l1]; exact h, fun e => ?_, fun _ p n => pq_tup k n (pair_flat_rep za _) c q⟩
  rcases e with e | e
  · subst e
    cases xs with
    | nil =>
      have e2 : (List.replicate i.toNat ([] : List PyData)).flatten = [] := by simp
      rw [e2] at q
      exact pq_d k sv c q
    | cons _ _ => simp at l1
  · subst e
    have e2 : (List.replicate (1 : Int).toNat xs).flatten = xs := by simp
    rw [e2] at q
    exact pq_d k sv c q⟩
end
end Nl

/-! Nl, part D: tests, displays, subscripts, calls. -/
namespace Nl
open PySem PySem.Spec PyProof.Rows L2
/-- data, and its kinds, of a slot -/
def onD (k : PyData → Mu → Prop) : Sl → Mu → Prop
  | .d x, m => k x m
  | _, _ => False
def onI (k : Int → Mu → Prop) : Sl → Mu → Prop
  | .d (.int i), m => k i m
  | _, _ => False
def onB (k : Bool → Mu → Prop) : Sl → Mu → Prop
  | .d (.bool i), m => k i m
  | _, _ => False
theorem onD_ {k : PyData → Mu → Prop} {x : PyData} {m : Mu} (h : k x m) : onD k (.d x) m := h
theorem onI_ {k : Int → Mu → Prop} {x : Int} {m : Mu} (h : k x m) : onI k (.d (.int x)) m := h
theorem onB_ {k : Bool → Mu → Prop} {x : Bool} {m : Mu} (h : k x m) : onB k (.d (.bool x)) m := h
def datas : List Sl → Option (List PyData)
  | [] => some []
  | .d x :: r => (datas r).map fun t => x :: t
  | _ :: _ => none
theorem datas_map : ∀ ds : List PyData, datas (ds.map Sl.d) = some ds
  | [] => rfl
  | d :: r => by simp only [List.map_cons, datas, datas_map r, Option.map_some]
theorem datas_fz {K : PySem.W.Frag} {H : Hp} : ∀ {xs : List Sl} {ds : List PyData} {vs : List V}, datas xs = some ds → Paired (SlV K H) xs vs → FzA K H vs ds
  | [], _, _, h, .nil => by cases h; exact .nil
  | .d x :: r, ds, _, h, .cons z t => by
    cases e : datas r with
    | none => simp only [datas, e, Option.map_none] at h; cases h
    | some ys =>
      simp only [datas, e, Option.map_some, Option.some.injEq] at h
      subst h
      exact .cons z (datas_fz e t)
  | .u :: _, _, _, h, _ => by simp [datas] at h
  | .a _ :: _, _, _, h, _ => by simp [datas] at h
  | .w _ :: _, _, _, h, _ => by simp [datas] at h
theorem slv_of_fz {K : PySem.W.Frag} {H : Hp} {vs : List V} {ds : List PyData} (h : FzA K H vs ds) : Paired (SlV K H) (ds.map Sl.d) vs := by
  induction h with
  | nil => exact .nil
  | cons z _ ih => exact .cons z ih
/-- the same, both ways round -/
theorem pair_swap {α β : Type} {R : α → β → Prop} : ∀ {xs : List α} {ys : List β}, Paired R xs ys → Paired (fun b a => R a b) ys xs
  | _, _, .nil => .nil
  | _, _, .cons r t => .cons r (pair_swap t)
section
variable {X : Cx} {H0 : Hp} {F : List Addr} {ρ : List Sl} {μ μ' : Mu} {a b c e : Expr} {es rest : List Expr} {pos : Pos} {Q : Sl → Mu → Prop} {R : Bool → Mu → Prop} {QL : List Sl → Mu → Prop}
/-! ### tests -/
def WW (X : Cx) (e : Expr) (σ : L2.St) (H : Hp) (Q : Bool → Hp → Prop) : Prop := ∀ (whole : Sem Value) (pins : List (Addr × Obj)) (s : Shared), Inv X pins σ H s → wpAny (model X.prog X.w) X.A (isTrue e X.env whole) (TP X pins σ Q) X.xe s
theorem we_pw : PW X e (fun σ H Q => WW X e σ H Q) := ⟨fun whole pins s σ H Q I h => h whole pins s I⟩
theorem ww_of {t : TT} {σ : L2.St} {H : Hp} {Q : Bool → Hp → Prop} (h : PW X e t) (q : t σ H Q) : WW X e σ H Q := fun whole pins s I => h.run whole pins s σ H Q I q
def GB (X : Cx) (H0 : Hp) (F : List Addr) (e : Expr) (ρ : List Sl) (μ : Mu) (Q : Bool → Mu → Prop) : Prop := ∀ Hb σ H, Ke Hb H → Sls X.K H ρ σ → Cs X.K H0 F μ H → WW X e σ H (PB X.K H0 F Hb Q)
theorem gt_bool (h : GB X H0 F e ρ μ R) : GT X H0 F e ρ μ R := fun σ H s c => wt_of we_pw.pt (h H σ H .refl s c)
theorem gb_and1 (h : GT X H0 F a ρ μ R) : GB X H0 F (.BoolOp .And [a] pos) ρ μ R := fun Hb σ H k s c => ww_of (pw_and1 we_pt) ((h σ H s c).mono fun b H' ⟨k2, q⟩ => ⟨k.trans k2, q⟩)
theorem gb_or1 (h : GT X H0 F a ρ μ R) : GB X H0 F (.BoolOp .Or [a] pos) ρ μ R := fun Hb σ H k s c => ww_of (pw_or1 we_pt) ((h σ H s c).mono fun b H' ⟨k2, q⟩ => ⟨k.trans k2, q⟩)
theorem gb_and (h : GT X H0 F a ρ μ fun k m => (k = true → GB X H0 F (.BoolOp .And (b :: rest) pos) ρ m R) ∧ (k = false → R false m)) : GB X H0 F (.BoolOp .And (a :: b :: rest) pos) ρ μ R := fun Hb σ H k s c =>
  ww_of (pw_and we_pt we_pw) (h.run s c fun b H1 m k1 c1 q => by
    cases b with
    | true => exact q.1 rfl Hb σ H1 (k.trans k1) (s.keep k1) c1
    | false => exact ⟨k.trans k1, m, c1, q.2 rfl⟩)
theorem gb_or (h : GT X H0 F a ρ μ fun k m => (k = true → R true m) ∧ (k = false → GB X H0 F (.BoolOp .Or (b :: rest) pos) ρ m R)) : GB X H0 F (.BoolOp .Or (a :: b :: rest) pos) ρ μ R := fun Hb σ H k s c =>
  ww_of (pw_or we_pt we_pw) (h.run s c fun b H1 m k1 c1 q => by
    cases b with
    | false => exact q.2 rfl Hb σ H1 (k.trans k1) (s.keep k1) c1
    | true => exact ⟨k.trans k1, m, c1, q.1 rfl⟩)
theorem gt_not (h : GT X H0 F a ρ μ fun k m => R (!k) m) : GT X H0 F (.UnaryOp .Not a pos) ρ μ R := gt_of (pt_not we_pt) fun σ H s c => h.run s c fun b H1 m k1 c1 q => ⟨k1, m, c1, q⟩
theorem gt_val (h : GE X H0 F e ρ μ (onB R)) (he : ∀ whole, isTrue e X.env whole = (do let v ← whole; standAt e.pos; holding [v] (truthy v)) := by intro _; rfl) : GT X H0 F e ρ μ R := gt_of (pt_val we_pe he) fun σ H s c => h.run s c fun v H1 x m k1 sv c1 q => by
  match x, sv, q with
  | .d (.bool k), sv, q => exact ⟨k, Fz.bool_inv sv, k1, m, c1, q⟩
/-- and, or, not as values -/
theorem ge_one {op} (h : GE X H0 F a ρ μ Q) : GE X H0 F (.BoolOp op [a] pos) ρ μ Q := ge_of (pe_one we_pe) fun σ H s c => h σ H s c
theorem ge_and (h : GE X H0 F a ρ μ (onB fun k m => (k = true → ∀ Hb σ H, Ke Hb H → Sls X.K H ρ σ → Cs X.K H0 F m H → WE X (.BoolOp .And (b :: rest) pos) σ H (PQ X.K H0 F Hb Q)) ∧ (k = false → Q (.d (.bool false)) m))) :
    GE X H0 F (.BoolOp .And (a :: b :: rest) pos) ρ μ Q := ge_of (pe_and we_pe we_pe) fun σ H s c => h.run s c fun v H1 x m k1 sv c1 q => by
  match x, sv, q with
  | .d (.bool k), sv, q =>
    refine ⟨k, Fz.bool_inv sv, ?_⟩
    cases k with
    | true => exact q.1 rfl H σ H1 k1 (s.keep k1) c1
    | false => exact pq_d k1 (.bl _) c1 (q.2 rfl)
theorem ge_or (h : GE X H0 F a ρ μ (onB fun k m => (k = true → Q (.d (.bool true)) m) ∧ (k = false → ∀ Hb σ H, Ke Hb H → Sls X.K H ρ σ → Cs X.K H0 F m H → WE X (.BoolOp .Or (b :: rest) pos) σ H (PQ X.K H0 F Hb Q)))) :
    GE X H0 F (.BoolOp .Or (a :: b :: rest) pos) ρ μ Q := ge_of (pe_or we_pe we_pe) fun σ H s c => h.run s c fun v H1 x m k1 sv c1 q => by
  match x, sv, q with
  | .d (.bool k), sv, q =>
    refine ⟨k, Fz.bool_inv sv, ?_⟩
    cases k with
    | false => exact q.2 rfl H σ H1 k1 (s.keep k1) c1
    | true => exact pq_d k1 (.bl _) c1 (q.1 rfl)
/-- a later part of an and, an or -/
theorem later (h : GE X H0 F e ρ μ Q) : ∀ Hb σ H, Ke Hb H → Sls X.K H ρ σ → Cs X.K H0 F μ H → WE X e σ H (PQ X.K H0 F Hb Q) := fun Hb σ H k s c =>
  h.run s c fun v H1 x m k1 sv c1 q => ⟨k.trans k1, x, m, sv, c1, q⟩
theorem ge_not (h : GE X H0 F a ρ μ (onB fun k m => Q (.d (.bool (!k))) m)) : GE X H0 F (.UnaryOp .Not a pos) ρ μ Q := ge_of (pe_not we_pe) fun σ H s c => h.run s c fun v H1 x m k1 sv c1 q => by
  match x, sv, q with
  | .d (.bool k), sv, q => exact ⟨k, Fz.bool_inv sv, pq_d k1 (.bl _) c1 q⟩
theorem ge_neg (h : GE X H0 F a ρ μ (onI fun k m => Q (.d (.int (-k))) m)) : GE X H0 F (.UnaryOp .USub a pos) ρ μ Q := ge_of (pe_un un_neg we_pe) fun σ H s c => h.run s c fun v H1 x m k1 sv c1 q => by
  match x, sv, q with
  | .d (.int k), sv, q => exact ⟨k, Fz.int_inv sv, pq_d k1 (.int _) c1 q⟩
theorem ge_if (h : GT X H0 F c ρ μ fun k m => (k = true → ∀ Hb σ H, Ke Hb H → Sls X.K H ρ σ → Cs X.K H0 F m H → WE X a σ H (PQ X.K H0 F Hb Q)) ∧ (k = false → ∀ Hb σ H, Ke Hb H → Sls X.K H ρ σ → Cs X.K H0 F m H → WE X b σ H (PQ X.K H0 F Hb Q))) :
    GE X H0 F (.IfExp c a b pos) ρ μ Q := ge_of (pe_ifExp we_pt we_pe we_pe) fun σ H s c => h.run s c fun k H1 m k1 c1 q => by
  cases k with
  | true => exact q.1 rfl H σ H1 k1 (s.keep k1) c1
  | false => exact q.2 rfl H σ H1 k1 (s.keep k1) c1
/-- a op b op' c -/
theorem ge_chain {op op' : CmpOp} (h : GE X H0 F a ρ μ fun x m1 => GE X H0 F b ρ m1 fun y m2 => BO X H0 F (compareOp op) x y m2 (onB fun k m3 => (k = true → ∀ Hb σ H v, Ke Hb H → Sls X.K H ρ σ → Cs X.K H0 F m3 H → SlV X.K H y v →
      WE X c σ H fun w H1 => ∃ r : R2, OpR X (compareOp op') r ∧ r v w H1 (PQ X.K H0 F Hb Q)) ∧ (k = false → Q (.d (.bool false)) m3))) (hm : lastMarks [op, op'] [b, c] = false := by rfl) : GE X H0 F (.Compare a [op, op'] [b, c] pos) ρ μ Q :=
  ge_of (pe_chain opS opS we_pe we_pe we_pe (hm := hm)) fun σ H s cs => h.run s cs fun v H1 x m1 k1 sv c1 q1 => q1.run (s.keep k1) c1 fun w H2 y m2 k2 sw c2 ⟨r, ho, hr⟩ =>
    ⟨fun v w H Q => ∃ Q' : VK, r v w H Q' ∧ ∀ v H, Q' v H → Q v H, fun pins s σ H x y v u Q I rx ry ⟨Q', h, g⟩ => thn (ho pins s σ H x y v u Q' I rx ry h) fun _ _ ⟨v, H', I', r, q⟩ => ⟨v, H', I', r, g v H' q⟩,
    _, hr H2 H2 v w .refl (sv.keep k2) sw c2, fun z H3 ⟨k3, t, m, st, c3, q⟩ => by
      match t, st, q with
      | .d (.bool k), st, q =>
        have kk := (k1.trans k2).trans k3
        refine ⟨k, Fz.bool_inv st, ?_⟩
        cases k with
        | true => exact q.1 rfl H σ H3 w kk (s.keep kk) c3 (sw.keep k3)
        | false => exact pq_d kk (.bl _) c3 (q.2 rfl)⟩
theorem chain2 {op' : CmpOp} {y : Sl} (h : GE X H0 F c ρ μ fun z m => BO X H0 F (compareOp op') y z m Q) : ∀ Hb σ H v, Ke Hb H → Sls X.K H ρ σ → Cs X.K H0 F μ H → SlV X.K H y v →
      WE X c σ H fun w H1 => ∃ r : R2, OpR X (compareOp op') r ∧ r v w H1 (PQ X.K H0 F Hb Q) := fun Hb σ H v k s cs sy =>
  h.run s cs fun w H1 z m k1 sz c1 ⟨r, ho, hr⟩ => ⟨r, ho, hr Hb H1 v w (k.trans k1) (sy.keep k1) sz c1⟩
theorem gt_chain {op op' : CmpOp} (h : GE X H0 F a ρ μ fun x m1 => GE X H0 F b ρ m1 fun y m2 => BO X H0 F (compareOp op) x y m2 (onB fun k m3 => (k = true → ∀ Hb σ H v, Ke Hb H → Sls X.K H ρ σ → Cs X.K H0 F m3 H → SlV X.K H y v →
      WE X c σ H fun w H1 => ∃ r : R2, OpR X (compareOp op') r ∧ r v w H1 (PQ X.K H0 F Hb (onB R))) ∧ (k = false → R false m3))) (hm : lastMarks [op, op'] [b, c] = false := by rfl) : GT X H0 F (.Compare a [op, op'] [b, c] pos) ρ μ R :=
  gt_of (pt_chain opS opS we_pe we_pe we_pe (hm := hm)) fun σ H s cs => h.run s cs fun v H1 x m1 k1 sv c1 q1 => q1.run (s.keep k1) c1 fun w H2 y m2 k2 sw c2 ⟨r, ho, hr⟩ =>
    ⟨fun v w H Q => ∃ Q' : VK, r v w H Q' ∧ ∀ v H, Q' v H → Q v H, fun pins s σ H x y v u Q I rx ry ⟨Q', h, g⟩ => thn (ho pins s σ H x y v u Q' I rx ry h) fun _ _ ⟨v, H', I', r, q⟩ => ⟨v, H', I', r, g v H' q⟩,
    _, hr H2 H2 v w .refl (sv.keep k2) sw c2, fun z H3 ⟨k3, t, m, st, c3, q⟩ => by
      match t, st, q with
      | .d (.bool k), st, q =>
        have kk := (k1.trans k2).trans k3
        refine ⟨k, Fz.bool_inv st, ?_⟩
        cases k with
        | true =>
          refine WE.mono (q.1 rfl H σ H3 w kk (s.keep kk) c3 (sw.keep k3)) fun w' H4 ⟨r', ho', hr'⟩ => ⟨fun v w H Q => ∃ Q' : VK, r' v w H Q' ∧ ∀ v H, Q' v H → Q v H,
            fun pins s σ H x y v u Q I rx ry ⟨Q', h, g⟩ => thn (ho' pins s σ H x y v u Q' I rx ry h) fun _ _ ⟨v, H', I', r, q⟩ => ⟨v, H', I', r, g v H' q⟩, _, hr', fun z' H5 ⟨k5, t5, m5, st5, c5, q5⟩ => ?_⟩
          match t5, st5, q5 with
          | .d (.bool k'), st5, q5 => exact ⟨k', Fz.bool_inv st5, k5, m5, c5, q5⟩
        | false => exact ⟨false, rfl, kk, m, c3, q.2 rfl⟩⟩

/-! ### arguments, displays -/
theorem ga_nil (q : QL [] μ) : GA X H0 F [] ρ μ QL := ga_of pa_nil fun σ H s c => ⟨.refl, [], μ, .nil, c, q⟩
theorem ga_cons (h : GE X H0 F e ρ μ fun x m => GA X H0 F es ρ m fun xs m' => QL (x :: xs) m') (hs : starEach (e :: es) X.env = (false, eval e X.env) :: starEach es X.env := by rfl) : GA X H0 F (e :: es) ρ μ QL :=
  ga_of (pa_cons we_pe we_pa hs) fun σ H s c => h.run s c fun v H1 x m k1 sv c1 q1 => q1.run (s.keep k1) c1 fun vs H2 xs m2 k2 ss c2 q2 => ⟨k1.trans k2, x :: xs, m2, .cons (sv.keep k2) ss, c2, q2⟩
theorem sz_le {n : Nat} (h : n ≤ 16777216) : n ≤ sizeLine := by rw [sizeLine_eq]; exact h
theorem ge_tup {k1} (h : GA X H0 F es ρ μ fun xs m => ∃ ds, datas xs = some ds ∧ ds.length ≤ sizeLine ∧ Q (.d (.tuple ds)) m) : GE X H0 F (.Tuple es k1 pos) ρ μ Q :=
  ge_of (pe_tup we_pa) fun σ H s c => h.run s c fun vs H1 xs m k1 ss c1 ⟨ds, hd, hz, q⟩ => by
    have z := datas_fz hd ss
    exact ⟨by rw [Paired.length z]; exact hz, fun p n => pq_tup k1 n z c1 q⟩
/-- a list's display: a cell -/
theorem ge_lst (h : GA X H0 F es ρ μ fun xs m => xs.length ≤ sizeLine ∧ ∀ p, Q (.a p) ((p, .lst xs) :: m)) : GE X H0 F (.List es pos) ρ μ Q :=
  ge_of (pe_lst we_pa) fun σ H s c => h.run s c fun vs H1 xs m k1 ss c1 ⟨hz, q⟩ => ⟨by rw [← Paired.length ss]; exact hz, fun p n => pq_cell k1 n ss c1 q⟩
/-- a list that is data from now on -/
def LK (Q : Sl → Mu → Prop) : Sl → Mu → Prop := fun x m => ∃ p xs ds m', x = .a p ∧ At m p (.lst xs) ∧ Del m p m' ∧ datas xs = some ds ∧ Q (.d (.list ds)) m'
theorem lk_ {p : Addr} {xs : List Sl} {ds : List PyData} (hd : datas xs = some ds) (q : Q (.d (.list ds)) μ) : LK Q (.a p) ((p, .lst xs) :: μ) := ⟨p, xs, ds, μ, rfl, .here, .here, hd, q⟩
theorem ge_lock (h : GE X H0 F e ρ μ (LK Q)) : GE X H0 F e ρ μ Q := fun σ H s c => WE.locked (h.run s c fun v H1 x m k1 sv c1 ⟨p, xs, ds, m', ex, ha, hl, hd, q⟩ => by
  subst ex
  have ev : v = .ref p := sv
  subst ev
  have hc := c1.cl _ ha.mem
  obtain ⟨vs, hp, hv⟩ := (show ∃ vs, H1 p = some (.lst vs) ∧ Paired (SlV X.K H1) xs vs from hc)
  refine ⟨p, vs, rfl, hp, fun o => ?_⟩
  have k2 : Ke H1 (upd H1 p (.frz o (.lst vs))) := Ke.put (by rw [hp]; exact True.intro)
  exact pq_d (k1.trans k2) (fz_lst (.inl ⟨o, upd_same⟩) (FzA.keep k2 (datas_fz hd hv))) (c1.lock hl (List.mem_map.mpr ⟨_, ha.mem, rfl⟩)) q)

/-! ### subscripts -/
def IO (X : Cx) (H0 : Hp) (F : List Addr) (x y : Sl) (μ : Mu) (Q : Sl → Mu → Prop) : Prop :=
  ∃ r : R2, IxR X r ∧ ∀ Hb H v w, Ke Hb H → SlV X.K H x v → SlV X.K H y w → Cs X.K H0 F μ H → r v w H (PQ X.K H0 F Hb Q)
theorem ixS : IxR X fun v w H Q => ∃ r : R2, IxR X r ∧ r v w H Q := fun value slice pins s σ H x y v u Q I rx ry ⟨r, ho, h⟩ e => ho value slice pins s σ H x y v u Q I rx ry h e
theorem ge_ix (h : GE X H0 F a ρ μ fun x μ1 => GE X H0 F b ρ μ1 fun y μ2 => IO X H0 F x y μ2 Q) (hs : PlainIx b := by exact fun _ _ => rfl) : GE X H0 F (.Subscript a b pos) ρ μ Q :=
  ge_of (pe_ix ixS we_pe we_pe hs) fun σ H s c => h.run s c fun v H1 x μ1 k1 sv cs q1 => q1.run (s.keep k1) cs fun w H2 y μ2 k2 sw cs2 ⟨r, ho, hr⟩ => ⟨r, ho, hr H H2 v w (k1.trans k2) (sv.keep k2) sw cs2⟩
theorem atI_pair {K : PySem.W.Frag} {H : Hp} {vs : List V} {ds : List PyData} {i : Int} {d : PyData} (z : FzA K H vs ds) (h : atI ds i = some d) : ∃ v, atI vs i = some v ∧ Fz K H v d := by
  unfold atI at h ⊢
  rw [Paired.length z]
  cases e : ixN ds.length i with
  | none => rw [e] at h; cases h
  | some j => rw [e] at h; exact z.get h
theorem atI_slot {K : PySem.W.Frag} {H : Hp} {vs : List V} {xs : List Sl} {i : Int} {x : Sl} (z : Paired (SlV K H) xs vs) (h : atI xs i = some x) : ∃ v, atI vs i = some v ∧ SlV K H x v := by
  unfold atI at h ⊢
  rw [← Paired.length z]
  cases e : ixN xs.length i with
  | none => rw [e] at h; cases h
  | some j => rw [e] at h; exact pair_get z h
theorem io_tup {ds : List PyData} {i : Int} {d : PyData} (h : atI ds i = some d) (q : Q (.d d) μ) : IO X H0 F (.d (.tuple ds)) (.d (.int i)) μ Q := ⟨_, ix_tup, fun Hb H v w k sv sw c => by
  obtain ⟨a, vs, rfl, ta, za⟩ := Fz.tuple_inv sv
  obtain ⟨u, hu, zu⟩ := atI_pair za h
  exact ⟨a, vs, i, u, rfl, Fz.int_inv sw, ta, hu, pq_d k zu c q⟩⟩
theorem io_lst {ds : List PyData} {i : Int} {d : PyData} (h : atI ds i = some d) (q : Q (.d d) μ) : IO X H0 F (.d (.list ds)) (.d (.int i)) μ Q := ⟨_, ix_list, fun Hb H v w k sv sw c => by
  obtain ⟨a, vs, rfl, ta, za⟩ := Fz.list_inv sv
  obtain ⟨u, hu, zu⟩ := atI_pair za h
  exact ⟨a, vs, i, u, rfl, Fz.int_inv sw, ta.sq, hu, pq_d k zu c q⟩⟩
theorem io_cell {p : Addr} {xs : List Sl} {i : Int} {x : Sl} (ha : At μ p (.lst xs)) (h : atI xs i = some x) (q : Q x μ) : IO X H0 F (.a p) (.d (.int i)) μ Q := ⟨_, ix_list, fun Hb H v w k sv sw c => by
  obtain ⟨vs, hp, hv⟩ := (show ∃ vs, H p = some (.lst vs) ∧ Paired (SlV X.K H) xs vs from c.cl _ ha.mem)
  obtain ⟨u, hu, zu⟩ := atI_slot hv h
  exact ⟨p, vs, i, u, sv, Fz.int_inv sw, SqL.of hp, hu, k, x, μ, zu, c, q⟩⟩
/-- the parts of a slice -/
def WO (X : Cx) (o : Option Expr) (σ : L2.St) (H : Hp) (Q : Option Int → Hp → Prop) : Prop := ∀ (pins : List (Addr × Obj)) (s : Shared), Inv X pins σ H s →
  wpAny (model X.prog X.w) X.A (evalPart o X.env) (fun u s' => ∃ o H', Inv X pins σ H' s' ∧ IsPart u o ∧ Q o H') X.xe s
theorem we_po {o : Option Expr} : PO X o (fun σ H Q => WO X o σ H Q) := ⟨fun pins s σ H Q I h => h pins s I⟩
theorem wo_of {o : Option Expr} {t : TO} {σ : L2.St} {H : Hp} {Q : Option Int → Hp → Prop} (h : PO X o t) (q : t σ H Q) : WO X o σ H Q := fun pins s I => h.run pins s σ H Q I q
def GO (X : Cx) (H0 : Hp) (F : List Addr) (o : Option Expr) (ρ : List Sl) (μ : Mu) (Q : Option Int → Mu → Prop) : Prop := ∀ σ H, Sls X.K H ρ σ → Cs X.K H0 F μ H → WO X o σ H fun i H' => Ke H H' ∧ ∃ m, Cs X.K H0 F m H' ∧ Q i m
theorem go_none {Q : Option Int → Mu → Prop} (q : Q none μ) : GO X H0 F none ρ μ Q := fun σ H s c => wo_of po_none ⟨.refl, μ, c, q⟩
theorem go_some {Q : Option Int → Mu → Prop} (h : GE X H0 F e ρ μ (onI fun i m => Q (some i) m)) : GO X H0 F (some e) ρ μ Q := fun σ H s c => wo_of (po_some we_pe) (h.run s c fun v H1 x m k1 sv c1 q => by
  match x, sv, q with
  | .d (.int k), sv, q => exact ⟨k, Fz.int_inv sv, k1, m, c1, q⟩)
def SO (X : Cx) (H0 : Hp) (F : List Addr) (x : Sl) (lo hi : Option Int) (μ : Mu) (Q : Sl → Mu → Prop) : Prop :=
  ∃ r : V → Option Int → Option Int → Hp → VK → Prop, SlR X r ∧ ∀ Hb H v, Ke Hb H → SlV X.K H x v → Cs X.K H0 F μ H → r v lo hi H (PQ X.K H0 F Hb Q)
theorem slS : SlR X fun v lo hi H Q => ∃ r : V → Option Int → Option Int → Hp → VK → Prop, SlR X r ∧ r v lo hi H Q := fun pins s σ H x v vl vu lo hi sl Q I rx hs pl pu ⟨r, ho, h⟩ => ho pins s σ H x v vl vu lo hi sl Q I rx hs pl pu h
theorem ge_slice {lo hi : Option Expr} {p2 : Pos} (h : GE X H0 F e ρ μ fun x m1 => GO X H0 F lo ρ m1 fun l m2 => GO X H0 F hi ρ m2 fun u m3 => SO X H0 F x l u m3 Q) : GE X H0 F (.Subscript e (.Slice lo hi none p2) pos) ρ μ Q :=
  ge_of (pe_slice slS we_pe we_po we_po) fun σ H s c => h.run s c fun v H1 x m1 k1 sv c1 q1 pins st I => thn (q1 σ H1 (s.keep k1) c1 pins st I) fun u s' ⟨l, H2, I2, hp, k2, m2, c2, q2⟩ =>
    ⟨l, H2, I2, hp, fun pins st I => thn (q2 σ H2 (s.keep (k1.trans k2)) c2 pins st I) fun u s' ⟨l2, H3, I3, hp3, k3, m3, c3, r, ho, hr⟩ => ⟨l2, H3, I3, hp3, r, ho, hr H H3 v ((k1.trans k2).trans k3) (sv.keep (k2.trans k3)) c3⟩⟩
/-- what a slice takes -/
def cutL {α : Type} (xs : List α) (lo hi : Option Int) : List α := (xs.drop (HT.sIx xs.length 0 lo)).take (HT.sIx xs.length xs.length hi - HT.sIx xs.length 0 lo)
theorem cutL_fz {K : PySem.W.Frag} {H : Hp} {vs : List V} {ds : List PyData} (z : FzA K H vs ds) (lo hi : Option Int) : FzA K H (cutV vs lo hi) (cutL ds lo hi) := by
  unfold cutV cutL
  rw [Paired.length z]
  exact pair_take _ (pair_drop _ z)
theorem cutL_sl {K : PySem.W.Frag} {H : Hp} {vs : List V} {xs : List Sl} (z : Paired (SlV K H) xs vs) (lo hi : Option Int) : Paired (SlV K H) (cutL xs lo hi) (cutV vs lo hi) := by
  unfold cutV cutL
  rw [← Paired.length z]
  exact pair_take _ (pair_drop _ z)
theorem cutL_all {α : Type} {xs : List α} {lo hi : Option Int} (h : HT.sIx xs.length 0 lo = 0 ∧ HT.sIx xs.length xs.length hi = xs.length) : cutL xs lo hi = xs := by
  unfold cutL
  rw [h.1, h.2, List.drop_zero, Nat.sub_zero, List.take_length]
theorem so_tup {ds : List PyData} {lo hi : Option Int} (q : Q (.d (.tuple (cutL ds lo hi))) μ) : SO X H0 F (.d (.tuple ds)) lo hi μ Q := ⟨_, sl_tupA, fun Hb H v k sv c => by
  obtain ⟨a, vs, rfl, ta, za⟩ := Fz.tuple_inv sv
  refine ⟨a, vs, rfl, ta, fun e => ?_, fun _ p n => pq_tup k n (cutL_fz za lo hi) c q⟩
  rw [Paired.length za] at e
  rw [cutL_all e] at q
  exact pq_d k sv c q⟩
/-- a slice of a list: a cell -/
theorem so_lst {ds : List PyData} {lo hi : Option Int} (q : ∀ p, Q (.a p) ((p, .lst ((cutL ds lo hi).map Sl.d)) :: μ)) : SO X H0 F (.d (.list ds)) lo hi μ Q := ⟨_, sl_list, fun Hb H v k sv c => by
  obtain ⟨a, vs, rfl, ta, za⟩ := Fz.list_inv sv
  exact ⟨a, vs, rfl, ta.sq, fun p n => pq_cell k n (slv_of_fz (cutL_fz za lo hi)) c q⟩⟩
theorem so_cell {p : Addr} {xs : List Sl} {lo hi : Option Int} (ha : At μ p (.lst xs)) (q : ∀ q', Q (.a q') ((q', .lst (cutL xs lo hi)) :: μ)) : SO X H0 F (.a p) lo hi μ Q := ⟨_, sl_list, fun Hb H v k sv c => by
  obtain ⟨vs, hp, hv⟩ := (show ∃ vs, H p = some (.lst vs) ∧ Paired (SlV X.K H) xs vs from c.cl _ ha.mem)
  exact ⟨p, vs, sv, SqL.of hp, fun p n => pq_cell k n (cutL_sl hv lo hi) c q⟩⟩
end
end Nl

/-! Nl, part E: enumerate over a tuple. -/
namespace Nl
open PySem PySem.Spec PyProof.Rows L2
theorem meets_enum1 {v : Value} {o : Obj} {H : Heap → Prop} (B : Begins v o H) :
    Meets (Builtin.«enumerate.__new__» ⟨[.type "enumerate", v], []⟩) (fun _ R s => H s.heap ∧
      R (.ok (.ret (.ref (s.heap.push o).objs.size))) { s with heap := (s.heap.push o).push { cls := .type "enumerate", data := .fields #[.none, .bool false, .ref s.heap.objs.size, rawInt 0, .none, .none] } }) :=
  .of_wp fun prog w A R s h => by
    obtain ⟨hp, g, d, tk, os⟩ := s; obtain ⟨h1, h⟩ := h
    have hsub := sub_enumerate
    have q1 : ∀ {A' : Around} {E : Value → Shared → Prop} {Q : Value → Shared → Prop}, Q (.ref hp.objs.size) ⟨hp.push o, g, d, tk, os⟩ → wpAny (model prog w) A' (pyIter v) Q E ⟨hp, g, d, tk, os⟩ :=
      fun q => B.iter prog w _ _ ⟨hp, g, d, tk, os⟩ _ h1 q
    wp_walk using q1
    refine wpAny_stack_any fun st => wpAny_pure ?_
    split
    · rename_i c _ _ _ _ _
      cases (c == Value.type "enumerate")
      · wp_walk using q1
        exact ⟨_, rfl, h⟩
      · wp_walk using q1
        exact ⟨_, rfl, h⟩
    · wp_walk using q1
      exact ⟨_, rfl, h⟩
theorem enum_begins1 {prog : Program} {w : World} {A : Around} {E : Value → Shared → Prop} {s : Shared} {v : Value} {o : Obj} {H : Heap → Prop} {Q : Value → Shared → Prop} (B : Begins v o H) (h1 : H s.heap)
    (h : ∀ h', IsEnum h' (s.heap.objs.size + 1) s.heap.objs.size 0 .none → h'.get? s.heap.objs.size = some o → h'.objs.size = s.heap.objs.size + 2 →
      (∀ b o, s.heap.get? b = some o → h'.get? b = some o) → Q (.ref (s.heap.objs.size + 1)) { s with heap := h' }) : wpAny (model prog w) A (call (.type "enumerate") [v]) Q E s := by
  refine callType_new F.called_enumerate (by decide) (F.typeCall_enumerate_1 _) (F.newCall_enumerate_1 _) (fun obj => F.args_object_init_2 obj _) F.entry_enumerate_new (meets_enum1 B) ⟨h1, ?_⟩
  have hz : (s.heap.push o).objs.size = s.heap.objs.size + 1 := Heap.size_push ..
  show _ ∧ _
  rw [hz]
  have he := Heap.get?_push_size (s.heap.push o) (o := { cls := .type "enumerate", data := .fields #[.none, .bool false, .ref s.heap.objs.size, rawInt 0, .none, .none] }) rfl
  rw [hz] at he
  exact ⟨⟨_, he, rfl⟩, h _ he (Heap.get?_push_of_some _ (Heap.get?_push_size _ B.free)) (by rw [Heap.size_push, hz]) fun b o x => Heap.get?_push_of_some _ (Heap.get?_push_of_some _ x)⟩
/-- a tuple's items with their places, in new pairs -/
def IteT (K : PySem.W.Frag) (a : Addr) : It :=
  ⟨fun i H => ∃ (xs : List V) (x : V), SqT K H a xs ∧ xs[i]? = some x, fun i H v H' => ∃ T x, v = .ref T ∧ H T = none ∧ H' = upd H T (.tup [.int (i : Nat), x]) ∧ ∀ xs, SqT K H a xs → xs[i]? = some x,
    fun i H => ∃ xs : List V, SqT K H a xs ∧ xs.length = i⟩
theorem turn_enumT {P : Program} {w : World} {K : PySem.W.Frag} {elts : List Expr} {kk : Nat} {tpos : Pos} (a e it : Addr) :
    Turn P w K (.Tuple elts kk tpos) (IteT K a) [e, it] e (fun i h => (∃ old, IsEnum h e it ((i : Nat) : Int) old) ∧ h.IsTupleIter it a i ∧ e ≠ it) where
  mem := by simp
  obj := fun i h st b hb => by
    obtain ⟨⟨old, he⟩, ⟨o, ho, hc, hd⟩, _⟩ := st
    have e' : b = e ∨ b = it := by simpa using hb
    rcases e' with z | z
    · rw [z]; exact ⟨_, he, fun v q => nomatch q⟩
    · rw [z]; exact ⟨o, ho, fun v q => by rw [hd] at q; cases q⟩
  keep := fun i h h' st k => let ⟨⟨old, he⟩, hi, hne⟩ := st; ⟨⟨old, k e (by simp) _ he⟩, hi.at fun o q => k it (by simp) o q, hne⟩
  item := by
    intro X hP hw hK hc i pins s σ H E I hf st hg
    subst hP hw hK
    obtain ⟨⟨old, he⟩, hit, hne⟩ := st
    obtain ⟨xs, x, hq, hx⟩ := hg
    obtain ⟨its, rv, p, hz⟩ := I.tuple hq
    obtain ⟨u, hu, ru⟩ := rv.get hx
    have hel : e < s.heap.objs.size := Heap.lt_size he
    have hil : it < s.heap.objs.size := by obtain ⟨_, q, _⟩ := hit; exact Heap.lt_size q
    have p' : s.heap.IsTuple a its.toArray := p
    have hea : e ≠ a := fun z => by
      obtain ⟨o, ho, hc, _⟩ := p
      subst z
      rw [he] at ho
      cases ho
      exact absurd (Value.type.inj hc) (by decide)
    have hai : a ≠ it := fun z => by
      obtain ⟨o, ho, hc, _⟩ := p
      obtain ⟨o', ho', hc', _⟩ := hit
      rw [z, ho'] at ho
      cases ho
      rw [hc] at hc'
      exact absurd (Value.type.inj hc') (by decide)
    have D := Draws.tuple (prog := X.prog) (w := X.w) (A := X.A.in1) (I.ok.hd hc) it a hai its.toArray
    have hlt : i < its.toArray.size := by rw [List.size_toArray]; exact (List.getElem?_eq_some_iff.mp hu).1
    refine wpAny_pyNext_enum_itemD D he ⟨hit, p'⟩ hlt hne (by simp [hne, hea]) fun x0 h' tk hx0 ho hit' hT hsz hk => ?_
    have ex : x0 = u := by
      have q : its.toArray[i]? = some u := by simpa using hu
      exact Option.some.inj (hx0.symm.trans q)
    subst ex
    refine ⟨_, rfl, wpAny_letOwnedTupleGo_enum (s := { s with heap := h', toks := tk + 1 }) ho fun h'' he' sb => ?_⟩
    have hT2 : h''.get? s.heap.objs.size = some { cls := .type "tuple", data := .seq #[.int i tk, x0] } := (sb.2 _ (Nat.ne_of_gt hel)).trans hT
    have new : ObjOk X.prog X.w (upd H s.heap.objs.size (.tup [.int (i : Nat), x])) h'' s.heap.objs.size (.tup [.int (i : Nat), x]) :=
      ⟨by show 2 ≤ sizeLine; decide, [.int i tk, x0], .cons ⟨_, rfl⟩ (.cons ru .nil), ⟨_, hT2, rfl, _, rfl⟩⟩
    have I1 : Inv X pins σ (upd H s.heap.objs.size (.tup [.int (i : Nat), x])) { s with heap := h'', toks := tk + 1 } :=
      I.turnedNew (ch := [e, it]) (fun b ob hb q => (sb.2 b (fun z => hb (by simp [z]))).trans (hk b ob (fun z => hb (by simp [z])) (fun z => hb (by simp [z])) q)) hf (Nat.le_refl _) new
    refine ⟨.ref s.heap.objs.size, _, I1, rfl, ⟨_, x, rfl, I.hok.fresh (Nat.le_refl _), rfl, fun ys hy => by rw [I.tuple_inj hy hq]; exact hx⟩, ⟨⟨x0, ?_⟩, hit'.1.at fun o q => (sb.2 it (Ne.symm hne)).trans q, hne⟩, fun b hb => ?_⟩
    · rw [show ((i + 1 : Nat) : Int) = (i : Int) + 1 by omega]; exact he'
    · have hb' : b < s.heap.objs.size := by
        have e' : b = e ∨ b = it := by simpa using hb
        rcases e' with z | z
        · rw [z]; exact hel
        · rw [z]; exact hil
      rw [upd_ne (Nat.ne_of_lt hb')]
      exact (hf b hb).1
  done := by
    intro X hP hw hK hc i pins s σ H E I hf st hg
    subst hP hw hK
    obtain ⟨⟨old, he⟩, hit, hne⟩ := st
    obtain ⟨xs, hq, hx⟩ := hg
    obtain ⟨its, rv, p, hz⟩ := I.tuple hq
    obtain ⟨f0, f1, f2, f3, f4, f5⟩ := hf it (by simp)
    have hl := rv.length
    have hai : a ≠ it := fun z => by
      obtain ⟨o, ho, hc, _⟩ := p
      obtain ⟨o', ho', hc', _⟩ := hit
      rw [z, ho'] at ho
      cases ho
      rw [hc] at hc'
      exact absurd (Value.type.inj hc') (by decide)
    have D := Draws.tuple (prog := X.prog) (w := X.w) (A := X.A.in1) (I.ok.hd hc) it a hai its.toArray
    have ei : i = its.toArray.size := by rw [List.size_toArray]; omega
    subst ei
    refine wpAny_pyNext_enum_endD D he ⟨hit, p⟩ fun h' eb => ⟨rfl, ?_⟩
    obtain ⟨g0, g1, g2, g3, g4, g5⟩ := hf it (by simp)
    exact I.turned (t' := s.toks) (fun b o hb q => eb b o hb q) g0 g1 g3 g4 g5
  self := fun A i s Q E st h => let ⟨⟨_, he⟩, _⟩ := st; wpAny_pyIter_enum he h
theorem pi_enumT {X : Cx} {e : Expr} {ta : TA} {p pos tpos : Pos} {elts : List Expr} {kk : Nat} (hg : Gl X "enumerate") (hm : X.mg "enumerate" = none) (ha : PA X [e] ta) (hs : starEach [e] X.env = [(false, eval e X.env)] := by rfl) :
    PI X (.Tuple elts kk tpos) (.Call (.Name "enumerate" p) [e] [] pos) (fun σ H R => ta σ H fun vs H1 => ∃ a xs, vs = [.ref a] ∧ SqT X.K H1 a xs ∧ R (IteT X.K a) H1) := by
  refine ⟨fun pins s σ H R I h => ?_⟩
  refine Call_ (ld_blt I hg hm boot_enumerate (PyProof.Rows.callWith_type1 (thn (ha.run pos pins s σ H _ I h) fun us s1 ⟨vs, H1, I1, r1, q1⟩ => ?_) hs rfl))
  obtain ⟨a, xs, ex, hq, q⟩ := q1
  subst ex
  cases r1 with
  | cons r rr =>
    cases rr
    cases r
    obtain ⟨its, rv, p', hz⟩ := I1.tuple hq
    refine enum_begins1 (begins_tuple a its.toArray) p' fun h' he hit hsz hk => wpAny_pyIter_enum he ?_
    have I2 : Inv X pins σ H1 { s1 with heap := h' } := I1.kept (t' := s1.toks) hk
    refine ⟨s1.heap.objs.size + 1, [s1.heap.objs.size + 1, s1.heap.objs.size], _, _, H1, rfl, I2, turn_enumT a (s1.heap.objs.size + 1) s1.heap.objs.size, ⟨⟨.none, he⟩, ⟨_, hit, rfl, rfl⟩, Nat.succ_ne_self _⟩, fun b hb => ?_, q⟩
    have e' : b = s1.heap.objs.size + 1 ∨ b = s1.heap.objs.size := by simpa using hb
    have hle : s1.heap.objs.size ≤ b := by
      rcases e' with z | z
      · rw [z]; exact Nat.le_add_right _ _
      · rw [z]; exact Nat.le_refl _
    exact I1.fpOk hle (I1.hok.fresh hle)
end Nl

/-! Nl, part F: what is walked, targets, comprehensions, statements. -/
namespace Nl
open PySem PySem.Spec PyProof.Rows L2
/-- an iterator that yields data -/
structure ItD (K : PySem.W.Frag) (H1 : Hp) (J : It) (ds : List PyData) : Prop where
  go : ∀ i H, Ke H1 H → i < ds.length → J.go i H
  stop : ∀ H, Ke H1 H → J.stop ds.length H
  yld : ∀ i H x H', Ke H1 H → i < ds.length → J.yld i H x H' → ∃ d, ds[i]? = some d ∧ Fz K H' x d ∧ ∀ b o, H b = some o → H' b = some o
def WI (X : Cx) (tg iter : Expr) (σ : L2.St) (H : Hp) (R : It → Hp → Prop) : Prop := ∀ (pins : List (Addr × Obj)) (s : Shared), Inv X pins σ H s →
  wpAny (model X.prog X.w) X.A (eval iter X.env) (fun v s1 => wpAny (model X.prog X.w) X.A (pyIter v) (PIE X pins σ tg R) X.xe s1) X.xe s
def WG (X : Cx) (tg : Expr) (v : V) (σ : L2.St) (H : Hp) (Q : L2.St → Hp → Prop) : Prop := ∀ (pins : List (Addr × Obj)) (s : Shared) (u : Value), Inv X pins σ H s → RelV v u →
  wpAny (model X.prog X.w) X.A (assign tg X.env u) (fun _ s' => ∃ σ' H', Inv X pins σ' H' s' ∧ Q σ' H') X.xe s
def WGs (X : Cx) (ts : List Expr) (vs : List V) (σ : L2.St) (H : Hp) (Q : L2.St → Hp → Prop) : Prop := ∀ (pins : List (Addr × Obj)) (s : Shared) (us : List Value), Inv X pins σ H s → Vals vs us →
  wpAny (model X.prog X.w) X.A (assignInOrder ((assignEach ts X.env).map (·.2)) us) (fun _ s' => ∃ σ' H', Inv X pins σ' H' s' ∧ Q σ' H') X.xe s
section
variable {X : Cx} {tg iter : Expr} {ts : List Expr} {σ : L2.St} {H : Hp}
theorem we_pi : PI X tg iter (fun σ H R => WI X tg iter σ H R) := ⟨fun pins s σ H R I h => h pins s I⟩
theorem wi_of {t : TI} {R : It → Hp → Prop} (h : PI X tg iter t) (q : t σ H R) : WI X tg iter σ H R := fun pins s I => h.run pins s σ H R I q
theorem we_pg : PG X tg (fun v σ H Q => WG X tg v σ H Q) := ⟨fun pins s σ H v u Q I r h => h pins s u I r⟩
theorem wg_of {t : TG} {v : V} {Q : L2.St → Hp → Prop} (h : PG X tg t) (q : t v σ H Q) : WG X tg v σ H Q := fun pins s u I r => h.run pins s σ H v u Q I r q
theorem we_pgs : PGs X ts (fun v σ H Q => WGs X ts v σ H Q) := ⟨fun pins s σ H vs us Q I r h => h pins s us I r⟩
theorem wgs_of {t : TGs} {vs : List V} {Q : L2.St → Hp → Prop} (h : PGs X ts t) (q : t vs σ H Q) : WGs X ts vs σ H Q := fun pins s us I r => h.run pins s σ H vs us Q I r q
end
section
variable {X : Cx} {H0 : Hp} {F : List Addr} {ρ : List Sl} {μ μ' : Mu} {a b c e tg iter : Expr} {es ts rest : List Expr} {pos : Pos} {Q : Sl → Mu → Prop} {R : Bool → Mu → Prop} {QL : List Sl → Mu → Prop} {QR : List Sl → Mu → Prop}
def GI (X : Cx) (H0 : Hp) (F : List Addr) (tg iter : Expr) (ρ : List Sl) (μ : Mu) (Q : List PyData → Mu → Prop) : Prop := ∀ σ H, Sls X.K H ρ σ → Cs X.K H0 F μ H → WI X tg iter σ H fun J H1 => Ke H H1 ∧ ∃ ds m, Cs X.K H0 F m H1 ∧ ItD X.K H1 J ds ∧ Q ds m
variable {QD : List PyData → Mu → Prop}
def onT (k : List PyData → Mu → Prop) : Sl → Mu → Prop
  | .d (.tuple x), m => k x m
  | _, _ => False
def onL (k : List PyData → Mu → Prop) : Sl → Mu → Prop
  | .d (.list x), m => k x m
  | _, _ => False
theorem onT_ {k : List PyData → Mu → Prop} {x : List PyData} {m : Mu} (h : k x m) : onT k (.d (.tuple x)) m := h
theorem onL_ {k : List PyData → Mu → Prop} {x : List PyData} {m : Mu} (h : k x m) : onL k (.d (.list x)) m := h
theorem gi_tup (h : GE X H0 F iter ρ μ (onT QD)) : GI X H0 F tg iter ρ μ QD := fun σ H s c => wi_of (pi_tup we_pe) (h.run s c fun v H1 x m k1 sv c1 q => by
  match x, sv, q with
  | .d (.tuple ds), sv, q =>
    obtain ⟨a, vs, rfl, ta, za⟩ := Fz.tuple_inv sv
    have hl := Paired.length za
    refine ⟨a, rfl, ⟨vs, ta⟩, k1, ds, m, c1, ⟨fun i H2 k2 hi => ?_, fun H2 k2 => ⟨vs, sqT_keep k2 ta, by omega⟩, fun i H2 x H3 k2 hi y => ?_⟩, q⟩
    · exact ⟨vs, vs[i]'(by omega), sqT_keep k2 ta, List.getElem?_eq_getElem _⟩
    · obtain ⟨e, y⟩ := y
      subst e
      have hv := y vs (sqT_keep k2 ta)
      have hd := List.getElem?_eq_getElem hi
      exact ⟨_, hd, (pair_ix za i _ _ hv hd).keep k2, fun _ _ z => z⟩)
theorem gi_lst (h : GE X H0 F iter ρ μ (onL QD)) : GI X H0 F tg iter ρ μ QD := fun σ H s c => wi_of (pi_list we_pe) (h.run s c fun v H1 x m k1 sv c1 q => by
  match x, sv, q with
  | .d (.list ds), sv, q =>
    obtain ⟨a, vs, rfl, ta, za⟩ := Fz.list_inv sv
    have hl := Paired.length za
    refine ⟨a, rfl, ⟨vs, ta.sq⟩, k1, ds, m, c1, ⟨fun i H2 k2 hi => ?_, fun H2 k2 => ⟨vs, (ta.keep k2).sq, by omega⟩, fun i H2 x H3 k2 hi y => ?_⟩, q⟩
    · exact ⟨vs, vs[i]'(by omega), (ta.keep k2).sq, List.getElem?_eq_getElem _⟩
    · obtain ⟨e, y⟩ := y
      subst e
      have hv := y vs (ta.keep k2).sq
      have hd := List.getElem?_eq_getElem hi
      exact ⟨_, hd, (pair_ix za i _ _ hv hd).keep k2, fun _ _ z => z⟩)
/-- the ints lo, lo + 1, .. -/
def rangeD (lo : Int) (n : Nat) : List PyData := (List.range n).map fun i => .int (lo + (i : Nat))
theorem rangeD_len (lo : Int) (n : Nat) : (rangeD lo n).length = n := by unfold rangeD; rw [List.length_map, List.length_range]
theorem rangeD_at {lo : Int} {n i : Nat} {d : PyData} (h : (rangeD lo n)[i]? = some d) : i < n ∧ d = .int (lo + (i : Nat)) := by
  have hi : i < n := by have := (List.getElem?_eq_some_iff.mp h).1; rw [rangeD_len] at this; exact this
  refine ⟨hi, ?_⟩
  unfold rangeD at h
  rw [List.getElem?_map, List.getElem?_range hi] at h
  exact (Option.some.inj h).symm
theorem itd_range {K : PySem.W.Frag} {H1 : Hp} (lo : Int) (n : Nat) : ItD K H1 (Itr lo n) (rangeD lo n) :=
  ⟨fun i H _ hi => by rw [rangeD_len] at hi; exact hi, fun H _ => by show n ≤ (rangeD lo n).length; rw [rangeD_len]; exact Nat.le_refl _, fun i H x H' _ hi y => by
    obtain ⟨e, ex⟩ := y
    subst e ex
    rw [rangeD_len] at hi
    refine ⟨.int (lo + (i : Nat)), ?_, .int _, fun _ _ z => z⟩
    unfold rangeD
    rw [List.getElem?_map, List.getElem?_range hi]
    rfl⟩
theorem gi_range1 {p : Pos} (h : GE X H0 F a ρ μ (onI fun n m => n < 2 ^ 62 ∧ -(2 ^ 62) ≤ n ∧ QD (rangeD 0 n.toNat) m)) (hm : X.mg "range" = none) (hg : Gl X "range" := by rfl) (hs : starEach [a] X.env = [(false, eval a X.env)] := by rfl) :
    GI X H0 F tg (.Call (.Name "range" p) [a] [] pos) ρ μ QD := fun σ H s c => wi_of (pi_range1 hg hm we_pa hs) (wa_of (pa_cons we_pe pa_nil hs) (h.run s c fun v H1 x m k1 sv c1 q => by
  match x, sv, q with
  | .d (.int n), sv, ⟨q1, q2, q⟩ =>
    rw [Fz.int_inv sv]
    exact ⟨n, rfl, q2, q1, k1, _, m, c1, itd_range 0 n.toNat, q⟩))
theorem gi_range2 {p : Pos} (h : GE X H0 F a ρ μ (onI fun l m => GE X H0 F b ρ m (onI fun n m' => (-(2 ^ 62) ≤ l ∧ l < 2 ^ 62 ∧ -(2 ^ 62) ≤ n ∧ n < 2 ^ 62) ∧ QD (rangeD l (n - l).toNat) m'))) (hm : X.mg "range" = none) (hg : Gl X "range" := by rfl)
    (hs : starEach [a, b] X.env = [(false, eval a X.env), (false, eval b X.env)] := by rfl) (hs2 : starEach [b] X.env = [(false, eval b X.env)] := by rfl) :
    GI X H0 F tg (.Call (.Name "range" p) [a, b] [] pos) ρ μ QD := fun σ H s c => wi_of (pi_range2 hg hm we_pa hs hs2) (wa_of (pa_cons we_pe (pa_cons we_pe pa_nil hs2) (by rw [hs, hs2])) (h.run s c fun v H1 x m k1 sv c1 q => by
  match x, sv, q with
  | .d (.int l), sv, q =>
    refine q.run (s.keep k1) c1 fun w H2 y m2 k2 sw c2 q2 => ?_
    match y, sw, q2 with
    | .d (.int n), sw, ⟨q1, q⟩ =>
      rw [Fz.int_inv sv, Fz.int_inv sw]
      exact ⟨l, n, rfl, q1, k1.trans k2, _, m2, c2, itd_range l _, q⟩))
/-- items with their places -/
def enumD (ds : List PyData) : List PyData := ds.mapIdx fun i d => .tuple [.int (i : Nat), d]
theorem enumD_len (ds : List PyData) : (enumD ds).length = ds.length := by unfold enumD; rw [List.length_mapIdx]
theorem enumD_at {ds : List PyData} {i : Nat} {d : PyData} (h : (enumD ds)[i]? = some d) : ∃ x, ds[i]? = some x ∧ d = .tuple [.int (i : Nat), x] := by
  unfold enumD at h
  rw [List.getElem?_mapIdx] at h
  cases e : ds[i]? with
  | none => rw [e] at h; cases h
  | some x => rw [e] at h; exact ⟨x, rfl, (Option.some.inj h).symm⟩
theorem fz_pair {K : PySem.W.Frag} {H : Hp} {T : Addr} {x : V} {d : PyData} {i : Int} (n : H T = none) (z : Fz K H x d) : Fz K (upd H T (.tup [.int i, x])) (.ref T) (.tuple [.int i, d]) :=
  fz_tup upd_same (.cons (.int i) (.cons (z.keep (Ke.new n)) .nil))
theorem itd_enumT {K : PySem.W.Frag} {H1 : Hp} {a : Addr} {vs : List V} {ds : List PyData} (ta : SqT K H1 a vs) (za : FzA K H1 vs ds) : ItD K H1 (IteT K a) (enumD ds) := by
  have hl := Paired.length za
  refine ⟨fun i H k hi => ?_, fun H k => ?_, fun i H x H' k hi y => ?_⟩
  · rw [enumD_len] at hi
    exact ⟨vs, vs[i]'(by omega), sqT_keep k ta, List.getElem?_eq_getElem _⟩
  · exact ⟨vs, sqT_keep k ta, by rw [enumD_len]; exact hl⟩
  · rw [enumD_len] at hi
    obtain ⟨T, w, rfl, n, rfl, y⟩ := y
    have hv := y vs (sqT_keep k ta)
    have hd := List.getElem?_eq_getElem hi
    refine ⟨.tuple [.int (i : Nat), ds[i]], ?_, fz_pair n ((pair_ix za i _ _ hv hd).keep k), fun b o z => by rw [upd_ne (ne_of_none z n)]; exact z⟩
    unfold enumD
    rw [List.getElem?_mapIdx, hd]
    rfl
theorem itd_enumL {K : PySem.W.Frag} {H1 : Hp} {a : Addr} {vs : List V} {ds : List PyData} (ta : FrL K H1 a vs) (za : FzA K H1 vs ds) : ItD K H1 (Ite K a) (enumD ds) := by
  have hl := Paired.length za
  refine ⟨fun i H k hi => ?_, fun H k => ?_, fun i H x H' k hi y => ?_⟩
  · rw [enumD_len] at hi
    exact ⟨vs, vs[i]'(by omega), (ta.keep k).sq, List.getElem?_eq_getElem _⟩
  · exact ⟨vs, (ta.keep k).sq, by rw [enumD_len]; omega⟩
  · rw [enumD_len] at hi
    obtain ⟨T, w, rfl, n, rfl, y⟩ := y
    have hv := y vs (ta.keep k).sq
    have hd := List.getElem?_eq_getElem hi
    refine ⟨.tuple [.int (i : Nat), ds[i]], ?_, fz_pair n ((pair_ix za i _ _ hv hd).keep k), fun b o z => by rw [upd_ne (ne_of_none z n)]; exact z⟩
    unfold enumD
    rw [List.getElem?_mapIdx, hd]
    rfl
theorem gi_enumT {p tpos : Pos} {elts : List Expr} {kk : Nat} (h : GE X H0 F e ρ μ (onT fun ds m => QD (enumD ds) m)) (hm : X.mg "enumerate" = none) (hg : Gl X "enumerate" := by rfl) (hs : starEach [e] X.env = [(false, eval e X.env)] := by rfl) :
    GI X H0 F (.Tuple elts kk tpos) (.Call (.Name "enumerate" p) [e] [] pos) ρ μ QD := fun σ H s c => wi_of (pi_enumT hg hm we_pa hs) (wa_of (pa_cons we_pe pa_nil hs) (h.run s c fun v H1 x m k1 sv c1 q => by
  match x, sv, q with
  | .d (.tuple ds), sv, q =>
    obtain ⟨a, vs, rfl, ta, za⟩ := Fz.tuple_inv sv
    exact ⟨a, vs, rfl, ta, k1, _, m, c1, itd_enumT ta za, q⟩))
theorem gi_enumL {p tpos : Pos} {elts : List Expr} {kk : Nat} (h : GE X H0 F e ρ μ (onL fun ds m => QD (enumD ds) m)) (hm : X.mg "enumerate" = none) (hg : Gl X "enumerate" := by rfl) (hs : starEach [e] X.env = [(false, eval e X.env)] := by rfl) :
    GI X H0 F (.Tuple elts kk tpos) (.Call (.Name "enumerate" p) [e] [] pos) ρ μ QD := fun σ H s c => wi_of (pi_enum hg hm we_pa hs) (wa_of (pa_cons we_pe pa_nil hs) (h.run s c fun v H1 x m k1 sv c1 q => by
  match x, sv, q with
  | .d (.list ds), sv, q =>
    obtain ⟨a, vs, rfl, ta, za⟩ := Fz.list_inv sv
    exact ⟨a, vs, rfl, ta.sq, k1, _, m, c1, itd_enumL ta za, q⟩))

/-! ### targets -/
/-- only the slots js have changed -/
structure Eqx (js : List Nat) (σ σ' : L2.St) : Prop where
  len : σ'.length = σ.length
  eq : ∀ j, j ∉ js → σ'[j]? = σ[j]?
theorem Eqx.trans {js ks : List Nat} {σ σ' σ2 : L2.St} (p : Eqx js σ σ') (q : Eqx ks σ' σ2) : Eqx (js ++ ks) σ σ2 :=
  ⟨q.len.trans p.len, fun j h => (q.eq j fun z => h (List.mem_append_right _ z)).trans (p.eq j fun z => h (List.mem_append_left _ z))⟩
def GG (X : Cx) (H0 : Hp) (F : List Addr) (tg : Expr) (js : List Nat) (x : Sl) (ρ : List Sl) (μ : Mu) (Q : List Sl → Mu → Prop) : Prop :=
  ∀ σ H v, Sls X.K H ρ σ → SlV X.K H x v → Cs X.K H0 F μ H → WG X tg v σ H fun σ' H' => Eqx js σ σ' ∧ Ke H H' ∧ ∃ ρ' m, Sls X.K H' ρ' σ' ∧ Cs X.K H0 F m H' ∧ Q ρ' m
def GGs (X : Cx) (H0 : Hp) (F : List Addr) (ts : List Expr) (js : List Nat) (xs : List Sl) (ρ : List Sl) (μ : Mu) (Q : List Sl → Mu → Prop) : Prop :=
  ∀ σ H vs, Sls X.K H ρ σ → Paired (SlV X.K H) xs vs → Cs X.K H0 F μ H → WGs X ts vs σ H fun σ' H' => Eqx js σ σ' ∧ Ke H H' ∧ ∃ ρ' m, Sls X.K H' ρ' σ' ∧ Cs X.K H0 F m H' ∧ Q ρ' m
theorem gg_name (i : Nat) {x : Str} {y : Sl} (q : QR (ρ.set i y) μ) (hN : X.N.Nodup) (hi : X.N[i]? = some x := by rfl) (hx : Loc X.env.scope x := by first | exact Or.inl rfl | exact Or.inr rfl) (hf : X.fn x = true ∨ X.env.scope.names.lookup x = some .local := by first | exact .inl rfl | exact .inr rfl) :
    GG X H0 F (.Name x pos) [i] y ρ μ QR := fun σ H v s sv c => wg_of (pg_name hN hi hx hf) ⟨⟨List.length_set, fun j h => List.getElem?_set_ne fun e => h (by rw [e]; exact List.mem_singleton.mpr rfl)⟩, .refl, _, μ, pair_set sv.o i s, c, q⟩
theorem ggs_nil (q : QR ρ μ) : GGs X H0 F [] [] [] ρ μ QR := fun σ H vs s sv c => wgs_of pgs_nil (by cases sv; exact ⟨rfl, ⟨rfl, fun _ _ => rfl⟩, .refl, ρ, μ, s, c, q⟩)
theorem ggs_cons {x : Sl} {xs : List Sl} {js ks : List Nat} (h : GG X H0 F e js x ρ μ fun ρ' m => GGs X H0 F es ks xs ρ' m QR) (hs : (assignEach (e :: es) X.env).map (·.2) = assign e X.env :: (assignEach es X.env).map (·.2) := by rfl) : GGs X H0 F (e :: es) (js ++ ks) (x :: xs) ρ μ QR :=
  fun σ H vs s sv c => wgs_of (pgs_cons we_pg we_pgs hs) (by
    cases sv with
    | cons r t =>
      refine ⟨_, _, rfl, fun pins st u I ru => thn (h σ H _ s r c pins st u I ru) fun _ s' ⟨σ', H', I', eq, k, ρ', m, s2, c2, q⟩ => ⟨σ', H', I', fun pins st us I rs => ?_⟩⟩
      exact thn (q σ' H' _ s2 (Paired.mapP t fun _ _ z => z.keep k) c2 pins st us I rs) fun _ s' ⟨σ3, H3, I3, eq3, k3, z⟩ => ⟨σ3, H3, I3, eq.trans eq3, k.trans k3, z⟩)
theorem gg_tup {k : Nat} {ds : List PyData} {js : List Nat} (h : GGs X H0 F es js (ds.map Sl.d) ρ μ QR) (hl : (assignEach es X.env).length = ds.length := by rfl) (hc : X.calm = true := by rfl) (hst : (assignEach es X.env).findIdx? (·.1) = none := by rfl) :
    GG X H0 F (.Tuple es k pos) js (.d (.tuple ds)) ρ μ QR := fun σ H v s sv c => wg_of (pg_tup hc we_pgs hl hst) (by
  obtain ⟨a, vs, rfl, ta, za⟩ := Fz.tuple_inv sv
  exact ⟨a, vs, rfl, ta, Paired.length za, h σ H vs s (slv_of_fz za) c⟩)

/-! ### comprehensions -/
/-- slots of the block's own names forgotten -/
def wipeR (ρ : List Sl) : List Nat → List Sl
  | [] => ρ
  | v :: vs => (wipeR ρ vs).set v .u
theorem wipe_sls {K : PySem.W.Frag} {H : Hp} {σ : L2.St} (s : Sls K H ρ σ) : ∀ vs : List Nat, Sls K H (wipeR ρ vs) (wipe σ vs)
  | [] => s
  | v :: vs => pair_set (R := SlO K H) (x := .u) (y := none) True.intro v (wipe_sls s vs)
theorem wipe_at (σ : L2.St) (i : Nat) : ∀ vs : List Nat, (wipe σ vs)[i]? = if i ∈ vs then (σ[i]?).map fun _ => none else σ[i]?
  | [] => by simp [wipe]
  | v :: vs => by
    unfold wipe
    rw [List.getElem?_set, wipe_length, wipe_at σ i vs]
    by_cases h : v = i
    · subst h
      rw [if_pos rfl, if_pos (List.mem_cons_self ..)]
      by_cases hl : v < σ.length
      · rw [if_pos hl, List.getElem?_eq_getElem hl]; rfl
      · rw [if_neg hl, List.getElem?_eq_none (by omega)]; rfl
    · rw [if_neg h]
      have e : (i ∈ v :: vs) = (i ∈ vs) := by rw [List.mem_cons]; exact propext ⟨fun z => z.elim (fun q => absurd q.symm h) id, .inr⟩
      simp only [e]
theorem wipe_eqx {js vs : List Nat} {σ σ' : L2.St} (h : Eqx js (wipe σ vs) σ') (hj : ∀ j ∈ js, j ∈ vs) : wipe σ' vs = wipe σ vs := by
  refine List.ext_getElem? fun i => ?_
  rw [wipe_at σ' i vs, wipe_at σ i vs]
  by_cases hi : i ∈ vs
  · rw [if_pos hi, if_pos hi]
    have hl : σ'.length = σ.length := by rw [h.len, wipe_length]
    by_cases hb : i < σ.length
    · rw [List.getElem?_eq_getElem (by omega : i < σ'.length), List.getElem?_eq_getElem hb]; rfl
    · rw [List.getElem?_eq_none (by omega : σ'.length ≤ i), List.getElem?_eq_none (by omega : σ.length ≤ i)]
  · rw [if_neg hi, if_neg hi, h.eq i fun z => hi (hj i z), wipe_at σ i vs, if_neg hi]
/-- the tests of a comprehension -/
def GTs (X : Cx) (H0 : Hp) (F : List Addr) (ifs : List Expr) (ρ : List Sl) (μ : Mu) (R : Bool → Mu → Prop) : Prop := ∀ Hb σ H, Ke Hb H → Sls X.K H ρ σ → Cs X.K H0 F μ H → ∃ t : TT, PTs X ifs t ∧ t σ H (PB X.K H0 F Hb R)
theorem gts_nil (q : R true μ) : GTs X H0 F [] ρ μ R := fun Hb σ H k s c => ⟨_, pts_nil, k, μ, c, q⟩
theorem gts_one (h : GT X H0 F c ρ μ R) : GTs X H0 F [c] ρ μ R := fun Hb σ H k s cs => ⟨_, pts_one we_pt, (h σ H s cs).mono fun b H' ⟨k2, z⟩ => ⟨k.trans k2, z⟩⟩
/-- in each block of a comprehension -/
def BX (X : Cx) (scope : Scope) (P : Cx → Prop) : Prop := ∀ (s : Shared) (H : Hp) (C : Addr) (cl : List (Str × Addr)) (fp : List Addr), P (X.blk s H scope (compEnvC scope cl C X.env) fp)
/-- behind an element: the list at D has it, the word at the next turn -/
def LcN (D : Addr) (I : Mu → Prop) : Sl → Mu → Prop := fun y m => ∃ acc m', At m D (.lst acc) ∧ acc.length < sizeLine ∧ Put m D (.lst (acc ++ [y])) m' ∧ I m'
/-- what a comprehension is to show -/
def LcG (X : Cx) (H0 : Hp) (F : List Addr) (elt tg : Expr) (ifs : List Expr) (scope : Scope) (vs js : List Nat) (ρ : List Sl) (Q : Addr → Mu → Prop) : List PyData → Mu → Prop := fun ds m => ∀ D, ∃ I : Nat → Mu → Prop, I 0 ((D, .lst []) :: m) ∧
  (∀ (i : Nat) (d : PyData) (m : Mu), ds[i]? = some d → I i m → BX X scope fun Y => GG Y H0 F tg js (.d d) (wipeR ρ vs) m fun ρ2 m2 => BX X scope fun Y => GTs Y H0 F ifs ρ2 m2 fun b m3 => (b = true → BX X scope fun Y => GE Y H0 F elt ρ2 m3 (LcN D (I (i + 1)))) ∧ (b = false → I (i + 1) m3)) ∧
  ∀ m, I ds.length m → Q D m
theorem lc_read {elt tg iter : Expr} {ifs : List Expr} {scope : Scope} {vs js : List Nat} {σ : L2.St} {H : Hp} {Q : Addr → Mu → Prop} {QV : VK} (s : Sls X.K H ρ σ) (c : Cs X.K H0 F μ H) (hj : ∀ j ∈ js, j ∈ vs) (h : GI X H0 F tg iter ρ μ (LcG X H0 F elt tg ifs scope vs js ρ Q))
    (hq : ∀ D H' m, Ke H H' → Cs X.K H0 F m H' → Q D m → QV (.ref D) H') :
    tLc (fun σ H R => WI X tg iter σ H R) (fun v σ H Q => BX X scope fun Y => WG Y tg v σ H Q) (fun σ H Q => BX X scope fun Y => ∃ t : TT, PTs Y ifs t ∧ t σ H Q) (fun σ H Q => BX X scope fun Y => WE Y elt σ H Q) vs σ H QV := by
  refine fun pins st I0 => thn (h σ H s c pins st I0) fun v s1 hh => thn hh fun itv s2 ⟨it, fp, tn, J, H1, e, I1, T, st2, f2, k1, ds, m1, c1, D1, L⟩ => ⟨it, fp, tn, J, H1, e, I1, T, st2, f2, fun D nD => ?_⟩
  obtain ⟨I, i0, turn, fin⟩ := L D
  have s1' := s.keep k1
  have kD : Ke H1 (upd H1 D (.lst [])) := Ke.new nD
  refine ⟨fun i k H2 => k = ds.length - i ∧ i ≤ ds.length ∧ Ke H1 H2 ∧ ∃ m, Cs X.K H0 F m H2 ∧ I i m, ⟨_, rfl, Nat.zero_le _, kD, _, c1.new (c := .lst []) nD ⟨[], upd_same, .nil⟩, i0⟩, ?_⟩
  rintro i k H2 ⟨rfl, hi, k2, m, c2, hI⟩
  by_cases hlt : i < ds.length
  · refine .inr ⟨D1.go i H2 k2 hlt, fun H3 => Ke H1 H3 ∧ ∃ m, Cs X.K H0 F m H3 ∧ I (i + 1) m, fun H3 ⟨k3, m3, c3, q3⟩ => ⟨ds.length - (i + 1), by omega, rfl, hlt, k3, m3, c3, q3⟩, fun x H3 y => ?_⟩
    obtain ⟨d, hd, zd, g3⟩ := D1.yld i H2 x H3 k2 hlt y
    have k3 : Ke H1 H3 := k2.trans (Ke.same g3)
    have c3 := c2.grow g3
    have w3 := wipe_sls (s1'.keep k3) vs
    intro st H C cl fp pins s4 u I4 ru
    refine thn (turn i d m hd hI st H C cl fp _ H3 x w3 zd c3 pins s4 u I4 ru) fun _ s5 ⟨σ5, H5, I5, ex, k5, ρ5, m5, sl5, c5, q5⟩ => ⟨σ5, H5, I5, wipe_eqx ex hj, fun st H C cl fp => ?_⟩
    obtain ⟨t, ht, qt⟩ := q5 st H C cl fp H5 σ5 H5 .refl sl5 c5
    refine ⟨fun σ H Q => ∃ R : Bool → Hp → Prop, t σ H R ∧ ∀ b H, R b H → Q b H, ⟨fun pins s σ H Q I ⟨R, q, g⟩ => thn (ht.run pins s σ H R I q) fun b s' ⟨H', I', z⟩ => ⟨H', I', g b H' z⟩⟩, _, qt, fun b H6 ⟨k6, m6, c6, q6⟩ => ?_⟩
    cases b with
    | false => exact ⟨(k3.trans k5).trans k6, m6, c6, q6.2 rfl⟩
    | true =>
      intro st H C cl fp
      refine GE.run (q6.1 rfl st H C cl fp) (sl5.keep k6) c6 fun v H7 y m7 k7 sv c7 ⟨acc, m8, ha, hz, hp, q8⟩ => ?_
      obtain ⟨vs7, hD7, hv7⟩ := (show ∃ vs, H7 D = some (.lst vs) ∧ Paired (SlV X.K H7) acc vs from c7.cl _ ha.mem)
      have kk : Ke H7 (upd H7 D (.lst (vs7 ++ [v]))) := Ke.put (by rw [hD7]; exact True.intro)
      refine ⟨vs7, hD7, by rw [← Paired.length hv7]; exact hz, (((k3.trans k5).trans k6).trans k7).trans kk, m8, c7.put hp ⟨vs7 ++ [v], upd_same, ?_⟩, q8⟩
      exact pair_append (Paired.mapP hv7 fun _ _ z => z.keep kk) (.cons (sv.keep kk) .nil)
  · have e : i = ds.length := by omega
    subst e
    exact .inl ⟨D1.stop H2 k2, hq D H2 m (k1.trans k2) c2 (fin m hI)⟩
theorem ge_lc {elt : Expr} {ifs : List Expr} {scope : Scope} {own : List (Str × Nat)} {js : List Nat} (h : GI X H0 F tg iter ρ μ (LcG X H0 F elt tg ifs scope (own.map (·.2)) js ρ fun D m => Q (.a D) m)) (hj : ∀ j ∈ js, j ∈ own.map (·.2)) (hN : X.N.Nodup) (ok : BlkOk X.N X.env.scope scope own)
    (hc : X.calm = true := by rfl) (hs : ∀ x, foldedSetIterable iter X.env x = pure x := by intro _; rfl) : GE X H0 F (.ListComp elt [⟨tg, iter, ifs, 0⟩] scope pos) ρ μ Q :=
  ge_of (pe_lc hc hN we_pi ok (fun st H C cl fp => ⟨fun pins s σ H1 v u Q I r h => h st H C cl fp pins s u I r⟩) (fun st H C cl fp => ⟨fun pins s σ H1 Q I h => by
      obtain ⟨t, ht, q⟩ := h st H C cl fp
      exact ht.run pins s σ H1 Q I q⟩)
    (fun st H C cl fp => ⟨fun pins s σ H1 Q I h => h st H C cl fp pins s I⟩) hs) fun σ H s c => lc_read s c hj h fun D H' m k c q => ⟨k, .a D, m, rfl, c, q⟩
/-- the words of a comprehension whose tests and items are plain functions of the items walked -/
theorem lc_pure {elt : Expr} {ifs : List Expr} {scope : Scope} {vs js : List Nat} {QA : Addr → Mu → Prop} {ds : List PyData} {m : Mu} (p : PyData → Bool) (f : PyData → PyData) (hz : ds.length < sizeLine)
    (turn : ∀ (i : Nat) (d : PyData) (m : Mu), ds[i]? = some d → BX X scope fun Y => GG Y H0 F tg js (.d d) (wipeR ρ vs) m fun ρ2 m2 => m2 = m ∧ BX X scope fun Y => GTs Y H0 F ifs ρ2 m fun b m3 => b = p d ∧ m3 = m ∧ (p d = true → BX X scope fun Y => GE Y H0 F elt ρ2 m fun y m4 => y = .d (f d) ∧ m4 = m))
    (fin : ∀ D, QA D ((D, .lst (((ds.filter p).map f).map Sl.d)) :: m)) : LcG X H0 F elt tg ifs scope vs js ρ QA ds m := fun D => by
  refine ⟨fun i m' => m' = (D, .lst ((((ds.take i).filter p).map f).map Sl.d)) :: m, rfl, fun i d m' hd e => ?_, fun m' e => ?_⟩
  · subst e
    have ht : ds.take (i + 1) = ds.take i ++ [d] := by rw [List.take_add_one, hd]; rfl
    have hi : i < ds.length := (List.getElem?_eq_some_iff.mp hd).1
    intro st H C cl fp σ H1 v s sv c pins s1 u I ru
    refine thn (turn i d _ hd st H C cl fp σ H1 v s sv c pins s1 u I ru) fun _ s2 ⟨σ2, H2, I2, ex, k2, ρ2, m2, sl2, c2, em, q⟩ => ⟨σ2, H2, I2, ex, k2, ρ2, m2, sl2, c2, ?_⟩
    subst em
    intro st H C cl fp Hb σ3 H3 k3 s3 c3
    obtain ⟨t, ht2, qt⟩ := q st H C cl fp Hb σ3 H3 k3 s3 c3
    refine ⟨fun σ H Q => ∃ R : Bool → Hp → Prop, t σ H R ∧ ∀ b H, R b H → Q b H, ⟨fun pins s σ H Q I ⟨R, q, g⟩ => thn (ht2.run pins s σ H R I q) fun b s' ⟨H', I', z⟩ => ⟨H', I', g b H' z⟩⟩, _, qt, fun b H6 ⟨k6, m6, c6, eb, em6, q6⟩ => ⟨k6, m6, c6, ?_, ?_⟩⟩
    · intro hb
      subst em6
      rw [hb] at eb
      refine fun st H C cl fp => GE.mono (q6 eb.symm st H C cl fp) fun y m7 ⟨ey, em7⟩ => ?_
      subst ey em7
      refine ⟨_, _, .here, ?_, .here, ?_⟩
      · rw [List.length_map, List.length_map]
        have h1 := List.length_filter_le p (ds.take i)
        rw [List.length_take] at h1
        omega
      · show ((D, Cl.lst ((((ds.take i).filter p).map f).map Sl.d ++ [Sl.d (f d)])) :: m : Mu) = (D, Cl.lst ((((ds.take (i + 1)).filter p).map f).map Sl.d)) :: m
        rw [ht, List.filter_append, List.filter_cons, if_pos eb.symm, List.map_append, List.map_append]
        rfl
    · intro hb
      subst em6
      rw [hb] at eb
      show ((D, Cl.lst ((((ds.take i).filter p).map f).map Sl.d)) :: m : Mu) = (D, Cl.lst ((((ds.take (i + 1)).filter p).map f).map Sl.d)) :: m
      rw [ht, List.filter_append, List.filter_cons, if_neg (by rw [← eb]; exact Bool.false_ne_true), List.filter_nil, List.append_nil]
  · subst e
    rw [List.take_length]
    exact fin D
end
end Nl

/-! Nl, part G: dicts, methods of lists, statements. -/
namespace Nl
open PySem PySem.Spec PyProof.Rows L2
/-! ### dicts, by slots -/
section
variable {κ : Type} [DecidableEq κ]
def lookS (kvs : List (κ × Sl)) (k : κ) : Option Sl := (kvs.find? fun kv => decide (kv.1 = k)).map (·.2)
def putS (kvs : List (κ × Sl)) (k : κ) (v : Sl) : List (κ × Sl) :=
  if (kvs.any fun kv => decide (kv.1 = k)) = true then kvs.map (fun kv => if kv.1 = k then (kv.1, v) else kv) else kvs ++ [(k, v)]
abbrev KS (K : PySem.W.Frag) (H : Hp) : List (κ × Sl) → List (κ × V) → Prop := Paired fun a b => a.1 = b.1 ∧ SlV K H a.2 b.2
theorem KS.look {K : PySem.W.Frag} {H : Hp} {kvs : List (κ × Sl)} {ws : List (κ × V)} (h : KS K H kvs ws) (k : κ) : (∀ x, lookS kvs k = some x → ∃ v, valV ws k = some v ∧ SlV K H x v) ∧ (lookS kvs k = none → valV ws k = none) := by
  induction h with
  | nil => exact ⟨fun x e => (nomatch e), fun _ => rfl⟩
  | @cons a b as bs r t ih =>
    obtain ⟨r1, r2⟩ := r
    by_cases e : a.1 = k
    · have e2 : b.1 = k := r1 ▸ e
      refine ⟨fun x hx => ⟨b.2, valV_pos e2, ?_⟩, fun hx => ?_⟩
      · unfold lookS at hx
        rw [List.find?_cons, decide_eq_true e] at hx
        cases hx
        exact r2
      · unfold lookS at hx
        rw [List.find?_cons, decide_eq_true e] at hx
        cases hx
    · have e2 : ¬ b.1 = k := fun z => e (r1.trans z)
      have e3 : lookS (a :: as) k = lookS as k := by unfold lookS; rw [List.find?_cons, decide_eq_false e]
      rw [e3, valV_neg e2]
      exact ih
theorem KS.isSome {K : PySem.W.Frag} {H : Hp} {kvs : List (κ × Sl)} {ws : List (κ × V)} (h : KS K H kvs ws) (k : κ) : (valV ws k).isSome = (lookS kvs k).isSome := by
  cases e : lookS kvs k with
  | none => rw [(h.look k).2 e]; rfl
  | some x =>
    obtain ⟨v, ev, _⟩ := (h.look k).1 x e
    rw [ev]; rfl
theorem lookS_any (k : κ) : ∀ kvs : List (κ × Sl), (kvs.any fun kv => decide (kv.1 = k)) = (lookS kvs k).isSome
  | [] => rfl
  | a :: as => by
    by_cases e : a.1 = k
    · unfold lookS; rw [List.any_cons, List.find?_cons, decide_eq_true e]; rfl
    · have := lookS_any k as
      unfold lookS at this ⊢
      rw [List.any_cons, List.find?_cons, decide_eq_false e, Bool.false_or]
      exact this
theorem KS.put {K : PySem.W.Frag} {H : Hp} {kvs : List (κ × Sl)} {ws : List (κ × V)} {x : Sl} {v : V} (h : KS K H kvs ws) (k : κ) (r : SlV K H x v) : KS K H (putS kvs k x) (putK ws k v) := by
  have e : (ws.any fun kv => decide (kv.1 = k)) = (kvs.any fun kv => decide (kv.1 = k)) := by rw [valV_any, lookS_any, h.isSome]
  unfold putS putK
  rw [e]
  by_cases q : (kvs.any fun kv => decide (kv.1 = k)) = true
  · rw [if_pos q, if_pos q]
    clear e q
    induction h with
    | nil => exact .nil
    | @cons a b as bs r t ih =>
      obtain ⟨r1, r2⟩ := r
      refine .cons ?_ ih
      by_cases e : a.1 = k
      · have e2 : b.1 = k := r1 ▸ e
        simp only [if_pos e, if_pos e2]
        exact ⟨r1, by assumption⟩
      · have e2 : ¬ b.1 = k := fun z => e (r1.trans z)
        simp only [if_neg e, if_neg e2]
        exact ⟨r1, r2⟩
  · rw [if_neg q, if_neg q]
    exact pair_append h (.cons ⟨rfl, r⟩ .nil)
theorem putS_len (kvs : List (κ × Sl)) (k : κ) (v : Sl) : (putS kvs k v).length ≤ kvs.length + 1 := by
  unfold putS
  split
  · rw [List.length_map]; omega
  · rw [List.length_append]; exact Nat.le_refl _
theorem KS.keep {K : PySem.W.Frag} {H H' : Hp} {kvs : List (κ × Sl)} {ws : List (κ × V)} (h : KS K H kvs ws) (k : Ke H H') : KS K H' kvs ws := Paired.mapP h fun _ _ z => ⟨z.1, z.2.keep k⟩
end
def keyD : PyData → Option Key
  | .int i => some (.inl i)
  | .str x => some (.inr x)
  | _ => none
def keysD : List PyData → Option (List Key)
  | [] => some []
  | d :: r => match keyD d, keysD r with
    | some k, some ks => some (k :: ks)
    | _, _ => none
theorem keysD_ints : ∀ ns : List Int, keysD (ns.map PyData.int) = some (ns.map Sum.inl)
  | [] => rfl
  | n :: r => by simp only [List.map_cons, keysD, keyD, keysD_ints r]
theorem keyD_fz {K : PySem.W.Frag} {H : Hp} {d : PyData} {k : Key} {v : V} (h : keyD d = some k) (z : Fz K H v d) : v = kV k := by
  cases z <;> simp only [keyD, Option.some.injEq] at h <;> first | (subst h; rfl) | cases h
theorem keysD_fz {K : PySem.W.Frag} {H : Hp} : ∀ {ds : List PyData} {ks : List Key} {vs : List V}, keysD ds = some ks → FzA K H vs ds → vs = ks.map kV
  | [], _, _, h, .nil => by cases h; rfl
  | d :: r, ks, _, h, .cons z t => by
    unfold keysD at h
    cases e : keyD d with
    | none => rw [e] at h; cases h
    | some k =>
      cases e2 : keysD r with
      | none => rw [e, e2] at h; cases h
      | some ks' =>
        rw [e, e2] at h
        cases h
        rw [List.map_cons, keyD_fz e z, keysD_fz e2 t]
section
variable {X : Cx} {H0 : Hp} {F : List Addr} {ρ : List Sl} {μ μ' : Mu} {a b c e o i tg iter : Expr} {es ts rest : List Expr} {pos pos' apos cpos : Pos} {Q : Sl → Mu → Prop} {R : Bool → Mu → Prop} {QL : List Sl → Mu → Prop} {QR : List Sl → Mu → Prop} {p : Addr}
/-- k in d, d a cell -/
theorem op_dIn (hu : X.A.units + 1 < cLine) : OpR X (compareOp .In) fun y x H Q => ∃ a o, x = .ref a ∧ DGet H a y o ∧ Q (.bl o.isSome) H := fun pins s σ H y x v u Q I ry rx ⟨a, o, ex, g, q⟩ => by
  subst ex
  obtain rfl : u = Value.ref a := rx
  exact d_in hu I g ry fun s3 I3 => ⟨.bl o.isSome, H, I3, rfl, q⟩
theorem op_dNotIn (hu : X.A.units + 1 < cLine) : OpR X (compareOp .NotIn) fun y x H Q => ∃ a o, x = .ref a ∧ DGet H a y o ∧ Q (.bl (!o.isSome)) H := fun pins s σ H y x v u Q I ry rx ⟨a, o, ex, g, q⟩ => by
  subst ex
  obtain rfl : u = Value.ref a := rx
  exact d_notIn hu I g ry fun s3 I3 => ⟨.bl (!o.isSome), H, I3, rfl, q⟩
theorem dget_T {H : Hp} {kvs : List (List Key × Sl)} {ds : List PyData} {ks : List Key} {v w : V} (ha : At μ p (.dT kvs)) (hk : keysD ds = some ks) (sv : SlV X.K H (.d (.tuple ds)) v) (sw : SlV X.K H (.a p) w) (c : Cs X.K H0 F μ H) :
    ∃ ws, w = .ref p ∧ H p = some (.dT ws) ∧ KS X.K H kvs ws ∧ DGet H p v (valV ws ks) := by
  obtain ⟨ws, hp, hv⟩ := (show ∃ ws, H p = some (.dT ws) ∧ KS X.K H kvs ws from c.cl _ ha.mem)
  obtain ⟨b, vs, rfl, tb, zb⟩ := Fz.tuple_at sv
  rw [keysD_fz hk zb] at tb
  exact ⟨ws, sw, hp, hv, DGet.t hp tb⟩
theorem dget_K {H : Hp} {kvs : List (Key × Sl)} {d : PyData} {k : Key} {v w : V} (ha : At μ p (.dK kvs)) (hk : keyD d = some k) (sv : SlV X.K H (.d d) v) (sw : SlV X.K H (.a p) w) (c : Cs X.K H0 F μ H) :
    ∃ ws, w = .ref p ∧ H p = some (.dK ws) ∧ KS X.K H kvs ws ∧ DGet H p v (valV ws k) := by
  obtain ⟨ws, hp, hv⟩ := (show ∃ ws, H p = some (.dK ws) ∧ KS X.K H kvs ws from c.cl _ ha.mem)
  rw [keyD_fz hk sv]
  exact ⟨ws, sw, hp, hv, DGet.k hp⟩
theorem bo_inT {kvs : List (List Key × Sl)} {ds : List PyData} {ks : List Key} (hu : X.A.units + 1 < cLine) (ha : At μ p (.dT kvs)) (hk : keysD ds = some ks) (q : Q (.d (.bool (lookS kvs ks).isSome)) μ) : BO X H0 F (compareOp .In) (.d (.tuple ds)) (.a p) μ Q :=
  ⟨_, op_dIn hu, fun Hb H v w k sv sw c => by
    obtain ⟨ws, e, _, hv, g⟩ := dget_T ha hk sv sw c
    refine ⟨p, _, e, g, ?_⟩
    rw [hv.isSome]
    exact pq_d k (.bl _) c q⟩
theorem bo_notInT {kvs : List (List Key × Sl)} {ds : List PyData} {ks : List Key} (hu : X.A.units + 1 < cLine) (ha : At μ p (.dT kvs)) (hk : keysD ds = some ks) (q : Q (.d (.bool (!(lookS kvs ks).isSome))) μ) : BO X H0 F (compareOp .NotIn) (.d (.tuple ds)) (.a p) μ Q :=
  ⟨_, op_dNotIn hu, fun Hb H v w k sv sw c => by
    obtain ⟨ws, e, _, hv, g⟩ := dget_T ha hk sv sw c
    refine ⟨p, _, e, g, ?_⟩
    rw [hv.isSome]
    exact pq_d k (.bl _) c q⟩
theorem bo_inK {kvs : List (Key × Sl)} {d : PyData} {ky : Key} (hu : X.A.units + 1 < cLine) (ha : At μ p (.dK kvs)) (hk : keyD d = some ky) (q : Q (.d (.bool (lookS kvs ky).isSome)) μ) : BO X H0 F (compareOp .In) (.d d) (.a p) μ Q :=
  ⟨_, op_dIn hu, fun Hb H v w k sv sw c => by
    obtain ⟨ws, e, _, hv, g⟩ := dget_K ha hk sv sw c
    refine ⟨p, _, e, g, ?_⟩
    rw [hv.isSome]
    exact pq_d k (.bl _) c q⟩
theorem bo_notInK {kvs : List (Key × Sl)} {d : PyData} {ky : Key} (hu : X.A.units + 1 < cLine) (ha : At μ p (.dK kvs)) (hk : keyD d = some ky) (q : Q (.d (.bool (!(lookS kvs ky).isSome))) μ) : BO X H0 F (compareOp .NotIn) (.d d) (.a p) μ Q :=
  ⟨_, op_dNotIn hu, fun Hb H v w k sv sw c => by
    obtain ⟨ws, e, _, hv, g⟩ := dget_K ha hk sv sw c
    refine ⟨p, _, e, g, ?_⟩
    rw [hv.isSome]
    exact pq_d k (.bl _) c q⟩
/-- d[k], d a cell -/
def DG (X : Cx) (H0 : Hp) (F : List Addr) (x y : Sl) (μ : Mu) (Q : Sl → Mu → Prop) : Prop := ∀ Hb H v w, Ke Hb H → SlV X.K H x v → SlV X.K H y w → Cs X.K H0 F μ H → ∃ a z, v = .ref a ∧ DGet H a w (some z) ∧ PQ X.K H0 F Hb Q z H
theorem ge_dget (h : GE X H0 F o ρ μ fun x m1 => GE X H0 F i ρ m1 fun y m2 => DG X H0 F x y m2 Q) (hu : X.A.units + 1 < cLine) (hs : NoSl i := by exact fun _ _ => rfl) : GE X H0 F (.Subscript o i pos) ρ μ Q :=
  ge_of (pe_dget hu we_pe we_pe hs) fun σ H s c => h.run s c fun v H1 x m1 k1 sv c1 q1 => q1.run (s.keep k1) c1 fun w H2 y m2 k2 sw c2 q2 => q2 H H2 v w (k1.trans k2) (sv.keep k2) sw c2
theorem dg_T {kvs : List (List Key × Sl)} {ds : List PyData} {ks : List Key} {x : Sl} (ha : At μ p (.dT kvs)) (hk : keysD ds = some ks) (hl : lookS kvs ks = some x) (q : Q x μ) : DG X H0 F (.a p) (.d (.tuple ds)) μ Q := fun Hb H v w k sv sw c => by
  obtain ⟨ws, e, _, hv, g⟩ := dget_T ha hk sw sv c
  obtain ⟨z, ez, sz⟩ := (hv.look ks).1 x hl
  rw [ez] at g
  exact ⟨p, z, e, g, k, x, μ, sz, c, q⟩
theorem dg_K {kvs : List (Key × Sl)} {d : PyData} {ky : Key} {x : Sl} (ha : At μ p (.dK kvs)) (hk : keyD d = some ky) (hl : lookS kvs ky = some x) (q : Q x μ) : DG X H0 F (.a p) (.d d) μ Q := fun Hb H v w k sv sw c => by
  obtain ⟨ws, e, _, hv, g⟩ := dget_K ha hk sw sv c
  obtain ⟨z, ez, sz⟩ := (hv.look ky).1 x hl
  rw [ez] at g
  exact ⟨p, z, e, g, k, x, μ, sz, c, q⟩
/-- {} -/
theorem ge_dictT (q : ∀ p, Q (.a p) ((p, .dT []) :: μ)) : GE X H0 F (.Dict [] [] pos) ρ μ Q := ge_of pe_dnewT fun σ H s c p n => pq_a (Ke.new n) (c.new (c := .dT []) n ⟨[], upd_same, .nil⟩) (q p)
theorem ge_dictK (q : ∀ p, Q (.a p) ((p, .dK []) :: μ)) : GE X H0 F (.Dict [] [] pos) ρ μ Q := ge_of pe_dnewK fun σ H s c p n => pq_a (Ke.new n) (c.new (c := .dK []) n ⟨[], upd_same, .nil⟩) (q p)
/-- {k: v}, k a tuple -/
def tDisp1 (tk tv : TE) : TE := fun σ H Q => ∀ p, H p = none → tk σ (upd H p (.dT [])) fun x H1 => tv σ H1 fun y H2 => H2 p = some (.dT []) ∧ ∃ b ks, x = .ref b ∧ H2 b = some (.tup (ks.map kV)) ∧ Q (.ref p) (upd H2 p (.dT [(ks, y)]))
theorem pe_disp1 {k v : Expr} {tk tv : TE} (hu : X.A.units + 1 < cLine) (hk : PE X k tk) (hv : PE X v tv) : PE X (.Dict [some k] [v] pos) (tDisp1 tk tv) := by
  refine ⟨fun pins s σ H Q I q => ?_⟩
  have hn := I.hok.fresh (Nat.le_refl s.heap.objs.size)
  have I1 := I.laid (a := s.heap.objs.size) (o := .dT []) (h' := s.heap.push { cls := .type "dict", data := .dict #[] }) (t' := s.toks) (fun _ _ q => Heap.get?_push_of_some _ q) (Nat.le_refl _) (dt_empty s.heap I.big)
  rw [arm_eval_Dict, zip_pairTrees [some k] [v] X.env pos rfl rfl, dictDisplay_pairs _ (by intro h; have := congrArg List.length h; rw [pairTrees_length [some k] [v] X.env pos rfl rfl] at this; cases this) (by rw [pairTrees_length [some k] [v] X.env pos rfl rfl]; exact Nat.le_of_ble_eq_true rfl)]
  refine wpAny_bind (wpAny_standAt (wpAny_bind (wpAny_subDictH (knd := tupleKind (mixKind X.prog X.w)) (Nat.lt_of_succ_lt hu) (by rw [pairTrees_length [some k] [v] X.env pos rfl rfl]; exact Nat.le_of_ble_eq_true rfl) ?_)))
  refine pairTrees_cons_walk (thn (hk.run pins _ σ _ _ I1 (q _ hn)) fun u s1 ⟨x, H1, I2, rx, q1⟩ => thn (hv.run pins s1 σ H1 _ I2 q1) fun w2 s2 ⟨y, H2, I3, ry, e, b, ks, ex, eb, q2⟩ => pairTrees_nil_walk ?_)
  subst ex
  obtain rfl : u = Value.ref b := rx
  obtain ⟨z, hd, xs, r0, dd⟩ := dt_of I3.hok e
  cases r0
  refine ⟨[(ks, b, w2)], ⟨rfl, rfl, key_of I3.hok eb, trivial⟩, dd, fun h' tk2 dd' hs => wpAny_pure ⟨.ref s.heap.objs.size, _, ?_, rfl, q2⟩⟩
  obtain ⟨qo, es, ep, hq, h2, h3, h4, _, h5⟩ := dd'
  refine d_write I3 (by rw [e]; exact True.intro) hs ⟨qo, hq⟩ ⟨by show 1 ≤ sizeLine; decide, hd, [(ks, b, w2)], .cons ⟨rfl, ?_, ry⟩ .nil, qo, es, ep, hq, h2, h3, h4, h5⟩
  rw [upd_ne (ne_of eb e (fun z => nomatch z))]
  exact eb
theorem ge_dict1 {k v : Expr} (h : ∀ p, GE X H0 F k ρ ((p, .dT []) :: μ) fun x m1 => GE X H0 F v ρ m1 fun y m2 => ∃ ds ks m3, x = .d (.tuple ds) ∧ keysD ds = some ks ∧ At m2 p (.dT []) ∧ Put m2 p (.dT [(ks, y)]) m3 ∧ Q (.a p) m3) (hu : X.A.units + 1 < cLine) :
    GE X H0 F (.Dict [some k] [v] pos) ρ μ Q := ge_of (pe_disp1 hu we_pe we_pe) fun σ H s c p n => by
  have k0 : Ke H (upd H p (.dT [])) := Ke.new n
  refine (h p).run (s.keep k0) (c.new (c := .dT []) n ⟨[], upd_same, .nil⟩) fun x H1 sx m1 k1 sv c1 q1 => q1.run (s.keep (k0.trans k1)) c1 fun y H2 sy m2 k2 sw c2 ⟨ds, ks, m3, ex, hk, ha, hp, q⟩ => ?_
  subst ex
  obtain ⟨ws, hp2, hv⟩ := (show ∃ ws, H2 p = some (.dT ws) ∧ KS X.K H2 [] ws from c2.cl _ ha.mem)
  cases hv
  obtain ⟨b, vs, rfl, tb, zb⟩ := Fz.tuple_at (Fz.keep k2 sv)
  rw [keysD_fz hk zb] at tb
  have k3 : Ke H2 (upd H2 p (.dT [(ks, y)])) := Ke.put (by rw [hp2]; exact True.intro)
  exact ⟨hp2, b, ks, rfl, tb, pq_a (((k0.trans k1).trans k2).trans k3) (c2.put hp ⟨_, upd_same, .cons ⟨rfl, sw.keep k3⟩ .nil⟩) q⟩
/-! ### methods of lists -/
def MO (X : Cx) (H0 : Hp) (F : List Addr) (id : String) (x : Sl) (xs : List Sl) (μ : Mu) (Q : Sl → Mu → Prop) : Prop :=
  ∃ r : V → List V → Hp → VK → Prop, MtR X id r ∧ ∀ Hb H v vs, Ke Hb H → SlV X.K H x v → Paired (SlV X.K H) xs vs → Cs X.K H0 F μ H → r v vs H (PQ X.K H0 F Hb Q)
theorem mtS {id : String} : MtR X id fun v vs H Q => ∃ r : V → List V → Hp → VK → Prop, MtR X id r ∧ r v vs H Q := fun pins s σ H x xs v us Q I rx rv ⟨r, ho, h⟩ => ho pins s σ H x xs v us Q I rx rv h
/-- the receiver is of the type T -/
def TyM (X : Cx) (H0 : Hp) (F : List Addr) (T : String) (x : Sl) (μ : Mu) : Prop := ∀ H v, SlV X.K H x v → Cs X.K H0 F μ H → tyV X.K T v H
theorem ge_bm {T id : String} {name : Str} (pa : PlainAttrs T) (slot : Slot T name id) (hty : typeOf (.builtin id) = pure (.type "method_descriptor")) (h : GE X H0 F o ρ μ fun x m1 => TyM X H0 F T x m1 ∧ GA X H0 F (e :: es) ρ m1 fun xs m2 => MO X H0 F id x xs m2 Q)
    (hbase : attributeBase o name X.env (eval o X.env) = eval o X.env := by rfl)
    (hfew : ((backTo cpos (starEach (e :: es) X.env)).all (fun x => !x.1) && (backToKw cpos (keywordEach [] X.env)).all (fun x => x.1.isSome) && decide ((e :: es).length + ([] : List Keyword).length + (if ([] : List Keyword).isEmpty then 0 else 1) < 30)) = true := by rfl)
    (hline : (apos.endLine == cpos.line) = true := by rfl) (hs : starEach (e :: es) X.env = (false, eval e X.env) :: starEach es X.env := by rfl) (hplain : (backTo cpos (starEach es X.env)).any (·.1) = false := by rfl) :
    GE X H0 F (.Call (.Attribute o name apos) (e :: es) [] cpos) ρ μ Q := ge_of (pe_bm pa slot hty mtS we_pe we_pa hbase hfew hline hs hplain) fun σ H s c => h.run s c fun v H1 x m1 k1 sv c1 ⟨ty, q1⟩ =>
  ⟨ty H1 v sv c1, q1.run (s.keep k1) c1 fun vs H2 xs m2 k2 ss c2 ⟨r, ho, hr⟩ => ⟨r, ho, hr H H2 v vs (k1.trans k2) (sv.keep k2) ss c2⟩⟩
theorem ge_bm0 {T id : String} {name : Str} (pa : PlainAttrs T) (slot : Slot T name id) (hty : typeOf (.builtin id) = pure (.type "method_descriptor")) (h : GE X H0 F o ρ μ fun x m1 => TyM X H0 F T x m1 ∧ MO X H0 F id x [] m1 Q)
    (hbase : attributeBase o name X.env (eval o X.env) = eval o X.env := by rfl) (hline : (apos.endLine == cpos.line) = true := by rfl) :
    GE X H0 F (.Call (.Attribute o name apos) [] [] cpos) ρ μ Q := ge_of (pe_bm0 pa slot hty mtS we_pe hbase hline) fun σ H s c => h.run s c fun v H1 x m1 k1 sv c1 ⟨ty, r, ho, hr⟩ =>
  ⟨ty H1 v sv c1, r, ho, hr H H1 v [] k1 sv .nil c1⟩
theorem tym_lst {xs : List Sl} (ha : At μ p (.lst xs)) : TyM X H0 F "list" (.a p) μ := fun H v sv c => by
  obtain ⟨vs, hp, hv⟩ := (show ∃ vs, H p = some (.lst vs) ∧ Paired (SlV X.K H) xs vs from c.cl _ ha.mem)
  have e : v = .ref p := sv
  subst e
  exact .inl ⟨rfl, vs, SqL.of hp⟩
theorem mo_append {xs : List Sl} {y : Sl} (ha : At μ p (.lst xs)) (hz : xs.length < sizeLine) (hp : Put μ p (.lst (xs ++ [y])) μ') (q : Q (.d .none) μ') : MO X H0 F "list.append" (.a p) [y] μ Q := ⟨_, mt_append, fun Hb H v vs k sv ss c => by
  obtain ⟨ws, hw, hv⟩ := (show ∃ vs, H p = some (.lst vs) ∧ Paired (SlV X.K H) xs vs from c.cl _ ha.mem)
  cases ss with
  | @cons _ z _ _ r t =>
    cases t
    have k2 : Ke H (upd H p (.lst (ws ++ [z]))) := Ke.put (by rw [hw]; exact True.intro)
    exact ⟨p, ws, z, sv, rfl, hw, by rw [← Paired.length hv]; exact hz, pq_d (k.trans k2) .non (c.put hp ⟨_, upd_same, pair_append (Paired.mapP hv fun _ _ z => z.keep k2) (.cons (SlV.keep k2 r) .nil)⟩) q⟩⟩
theorem pair_dropLast {α β : Type} {T : α → β → Prop} {xs : List α} {ys : List β} (h : Paired T xs ys) : Paired T xs.dropLast ys.dropLast := by
  rw [List.dropLast_eq_take, List.dropLast_eq_take, Paired.length h]
  exact pair_take _ h
theorem mo_pop {xs : List Sl} {y : Sl} (ha : At μ p (.lst xs)) (hy : xs[xs.length - 1]? = some y) (hp : Put μ p (.lst xs.dropLast) μ') (q : Q y μ') : MO X H0 F "list.pop" (.a p) [] μ Q := ⟨_, mt_pop, fun Hb H v vs k sv ss c => by
  obtain ⟨ws, hw, hv⟩ := (show ∃ vs, H p = some (.lst vs) ∧ Paired (SlV X.K H) xs vs from c.cl _ ha.mem)
  cases ss
  have hl := Paired.length hv
  obtain ⟨z, hz, sz⟩ := pair_get hv hy
  rw [hl] at hz
  have k2 : Ke H (upd H p (.lst ws.dropLast)) := Ke.put (by rw [hw]; exact True.intro)
  refine ⟨p, ws, z, sv, rfl, hw, hz, k.trans k2, y, μ', sz.keep k2, c.put hp ⟨_, upd_same, ?_⟩, q⟩
  have hv2 := Paired.mapP hv fun _ _ z => SlV.keep k2 z
  exact pair_dropLast hv2⟩
theorem pair_erase {α β : Type} {T : α → β → Prop} : ∀ {xs : List α} {ys : List β} (n : Nat), Paired T xs ys → Paired T (xs.eraseIdx n) (ys.eraseIdx n)
  | _, _, _, .nil => .nil
  | _, _, 0, .cons _ t => t
  | _, _, n + 1, .cons r t => .cons r (pair_erase n t)
theorem mo_popAt {xs : List Sl} {y : Sl} {i : Int} {j : Nat} (ha : At μ p (.lst xs)) (h1 : -(2 ^ 63) ≤ i) (h2 : i < 2 ^ 63) (hj : seqIndex? i xs.length = some j) (hy : xs[j]? = some y) (hp : Put μ p (.lst (xs.eraseIdx j)) μ') (q : Q y μ') : MO X H0 F "list.pop" (.a p) [.d (.int i)] μ Q :=
  ⟨_, mt_popAt, fun Hb H v vs k sv ss c => by
  obtain ⟨ws, hw, hv⟩ := (show ∃ vs, H p = some (.lst vs) ∧ Paired (SlV X.K H) xs vs from c.cl _ ha.mem)
  cases ss with
  | cons r t =>
    cases t
    obtain ⟨z, hz, sz⟩ := pair_get hv hy
    have k2 : Ke H (upd H p (.lst (ws.eraseIdx j))) := Ke.put (by rw [hw]; exact True.intro)
    refine ⟨p, ws, i, j, z, sv, by rw [Fz.int_inv r], hw, h1, h2, by rw [← Paired.length hv]; exact hj, hz, k.trans k2, y, μ', sz.keep k2, c.put hp ⟨_, upd_same, pair_erase j (Paired.mapP hv fun _ _ z => z.keep k2)⟩, q⟩⟩
theorem mo_insert {xs : List Sl} {y : Sl} {i : Int} (ha : At μ p (.lst xs)) (h1 : 0 ≤ i) (h2 : i < 2 ^ 63) (hz : xs.length < sizeLine) (hp : Put μ p (.lst (xs.take i.toNat ++ [y] ++ xs.drop i.toNat)) μ') (q : Q (.d .none) μ') : MO X H0 F "list.insert" (.a p) [.d (.int i), y] μ Q :=
  ⟨_, mt_insert, fun Hb H v vs k sv ss c => by
  obtain ⟨ws, hw, hv⟩ := (show ∃ vs, H p = some (.lst vs) ∧ Paired (SlV X.K H) xs vs from c.cl _ ha.mem)
  cases ss with
  | cons r t =>
    cases t with
    | @cons _ z _ _ r2 t2 =>
      cases t2
      have k2 : Ke H (upd H p (.lst (ws.take i.toNat ++ [z] ++ ws.drop i.toNat))) := Ke.put (by rw [hw]; exact True.intro)
      have hv2 := Paired.mapP hv fun _ _ z => SlV.keep k2 z
      exact ⟨p, ws, i, z, sv, by rw [Fz.int_inv r], hw, by rw [← Paired.length hv]; exact hz, h1, h2, pq_d (k.trans k2) .non (c.put hp ⟨_, upd_same, pair_append (pair_append (pair_take _ hv2) (.cons (SlV.keep k2 r2) .nil)) (pair_drop _ hv2)⟩) q⟩⟩

/-! ### statements -/
variable {st : Stmt} {sts body : List Stmt} {E : GEnds}
theorem GW.mono {K : PySem.W.Frag} {Hs : Hp} {R R' : List Sl → Mu → Prop} {σ : L2.St} {H : Hp} (h : GW K H0 F Hs R σ H) (f : ∀ ρ m, R ρ m → R' ρ m) : GW K H0 F Hs R' σ H := let ⟨k, ρ, m, s, c, q⟩ := h; ⟨k, ρ, m, s, c, f _ _ q⟩
theorem WS.ends {D D' : Ends} {σ : L2.St} {H : Hp} (h : WS X st D σ H) (a : ∀ σ H, D.nx σ H → D'.nx σ H) (b : ∀ v H, D.rt v H → D'.rt v H) (c : ∀ σ H, D.bk σ H → D'.bk σ H) (d : ∀ σ H, D.ct σ H → D'.ct σ H) : WS X st D' σ H := fun pins s I => thn (h pins s I) fun fl s' q => SP.mono q a b c d
theorem gss_nil (q : E.nx ρ μ) : GSs X H0 F [] E ρ μ := fun σ H s c => wss_of pss_nil ⟨.refl, ρ, μ, s, c, q⟩
theorem gss_cons (h : GS X H0 F st { E with nx := fun ρ m => GSs X H0 F sts E ρ m } ρ μ) : GSs X H0 F (st :: sts) E ρ μ := fun σ H s c => wss_of (pss_cons we_ps we_pss) (WS.ends (h σ H s c) (fun σ' H' ⟨k, ρ', m, s2, c2, q⟩ => GSs.at q k s2 c2) (fun _ _ z => z) (fun _ _ z => z) fun _ _ z => z)
theorem gs_pass (q : E.nx ρ μ) : GS X H0 F (.Pass pos) E ρ μ := fun σ H s c => ws_of ps_pass ⟨.refl, ρ, μ, s, c, q⟩
theorem gs_brk (q : E.bk ρ μ) : GS X H0 F (.Break pos) E ρ μ := fun σ H s c => ws_of ps_break ⟨.refl, ρ, μ, s, c, q⟩
theorem gs_cont (q : E.ct ρ μ) : GS X H0 F (.Continue pos) E ρ μ := fun σ H s c => ws_of ps_continue ⟨.refl, ρ, μ, s, c, q⟩
theorem gs_if {t f : List Stmt} (h : GT X H0 F c ρ μ fun k m => (k = true → GSs X H0 F t E ρ m) ∧ (k = false → GSs X H0 F f E ρ m)) : GS X H0 F (.If c t f pos) E ρ μ := fun σ H s cs => ws_of (ps_if we_pt we_pss we_pss) (h.run s cs fun b H1 m k1 c1 q => by
  cases b with
  | true => exact GSs.at (q.1 rfl) k1 (s.keep k1) c1
  | false => exact GSs.at (q.2 rfl) k1 (s.keep k1) c1)
theorem gs_ret (h : GE X H0 F e ρ μ E.rt) : GS X H0 F (.Return (some e) pos) E ρ μ := fun σ H s c => ws_of (ps_ret we_pe) (h.run s c fun v H1 x m k1 sv c1 q => ⟨x, m, sv, c1, q⟩)
theorem gs_retN (q : E.rt (.d .none) μ) : GS X H0 F (.Return none pos) E ρ μ := fun σ H s c => ws_of ps_retN ⟨.d .none, μ, .non, c, q⟩
theorem gs_expr (h : GE X H0 F e ρ μ fun _ m => E.nx ρ m) (hs : swapsWith e none pos.line X.env = pure false := by rfl) : GS X H0 F (.Expr e pos) E ρ μ := fun σ H s c => ws_of (ps_expr we_pe hs) (h.run s c fun v H1 x m k1 sv c1 q => ⟨k1, ρ, m, s.keep k1, c1, q⟩)
/-- x = e -/
theorem gs_set (i : Nat) {x : Str} (h : GE X H0 F e ρ μ fun y m => E.nx (ρ.set i y) m) (hN : X.N.Nodup) (hi : X.N[i]? = some x := by rfl) (hx : Loc X.env.scope x := by first | exact Or.inl rfl | exact Or.inr rfl) (hs : swapsWith e (some (.Name x pos')) pos.line X.env = pure false := by rfl)
    (hf : X.fn x = true ∨ X.env.scope.names.lookup x = some .local := by first | exact .inl rfl | exact .inr rfl) : GS X H0 F (.Assign [.Name x pos'] e pos) E ρ μ := fun σ H s c => ws_of (ps_set hN hi hx we_pe hs hf) (h.run s c fun v H1 y m k1 sv c1 q => ⟨k1, _, m, pair_set sv.o i (s.keep k1), c1, q⟩)
/-- x = [..], a comprehension on one line, x a local -/
theorem gs_setLc (i : Nat) {y : Str} {py spos : Pos} {elt : Expr} {ifs : List Expr} {scope : Scope} {own : List (Str × Nat)} {js : List Nat} (h : GI X H0 F tg iter ρ μ (LcG X H0 F elt tg ifs scope (own.map (·.2)) js ρ fun D m => E.nx (ρ.set i (.a D)) m)) (hj : ∀ j ∈ js, j ∈ own.map (·.2)) (hN : X.N.Nodup)
    (ok : BlkOk X.N X.env.scope scope own) (hsw : swapsWith (.ListComp elt [⟨tg, iter, ifs, 0⟩] scope pos) (some (.Name y py)) spos.line X.env = pure true) (hy : X.N[i]? = some y := by rfl) (hyl : X.env.scope.names.lookup y = some .local := by rfl)
    (hc : X.calm = true := by rfl) (hs : ∀ x, foldedSetIterable iter X.env x = pure x := by intro _; rfl) : GS X H0 F (.Assign [.Name y py] (.ListComp elt [⟨tg, iter, ifs, 0⟩] scope pos) spos) E ρ μ := fun σ H s c =>
  ws_of (ps_setLc hc hN hy hyl hsw we_pi ok (fun st H C cl fp => ⟨fun pins s σ H1 v u Q I r h => h st H C cl fp pins s u I r⟩) (fun st H C cl fp => ⟨fun pins s σ H1 Q I h => by
      obtain ⟨t, ht, q⟩ := h st H C cl fp
      exact ht.run pins s σ H1 Q I q⟩)
    (fun st H C cl fp => ⟨fun pins s σ H1 Q I h => h st H C cl fp pins s I⟩) hs) (lc_read s c hj h fun D H' m k c q => ⟨k, _, m, pair_set (R := SlO X.K H') (x := .a D) (y := some (.ref D)) rfl i (s.keep k), c, q⟩)
/-- a, b = e, e a tuple that is data -/
theorem gs_asg {js : List Nat} (h : GE X H0 F e ρ μ fun y m => GG X H0 F tg js y ρ m E.nx) (hs : swapsWithSole [tg] e pos.line X.env = pure false := by rfl) (hw : swappedStores [tg] e X.env = pure none := by rfl) (h1 : (assignEach [tg] X.env).map (·.2) = [assign tg X.env] := by rfl) :
    GS X H0 F (.Assign [tg] e pos) E ρ μ := fun σ H s c => ws_of (ps_asg we_pe we_pg hs hw h1) (h.run s c fun v H1 y m k1 sv c1 q pins st u I r => thn (q σ H1 v (s.keep k1) sv c1 pins st u I r) fun _ s' ⟨σ', H', I', ex, k, z⟩ => ⟨σ', H', I', k1.trans k, z⟩)
/-- a, b = x, y with plain local names -/
theorem gs_par (i j : Nat) {x y : Str} {px py pt : Pos} {kt k2 : Nat} {pt2 : Pos} (h : GA X H0 F [a, b] ρ μ fun xs m => ∃ u v, xs = [u, v] ∧ E.nx ((ρ.set i u).set j v) m) (hN : X.N.Nodup) (hij : i ≠ j := by decide) (hi : X.N[i]? = some x := by rfl) (hj : X.N[j]? = some y := by rfl) (hx : X.env.scope.names.lookup x = some .local := by rfl)
    (hy : X.env.scope.names.lookup y = some .local := by rfl) (hw : swappedStores [.Tuple [.Name x px, .Name y py] kt pt] (.Tuple [a, b] k2 pt2) X.env = pure (some [x, y]) := by rfl)
    (hs : swapsWithSole [.Tuple [.Name x px, .Name y py] kt pt] (.Tuple [a, b] k2 pt2) pos.line X.env = pure false := by rfl) (hc : X.calm = true := by rfl) : GS X H0 F (.Assign [.Tuple [.Name x px, .Name y py] kt pt] (.Tuple [a, b] k2 pt2) pos) E ρ μ := fun σ H s c =>
  ws_of (ps_par hc hN hi hj hij hx hy we_pa hw hs) (h.run s c fun vs H1 xs m k1 ss c1 ⟨u, v, e, q⟩ => by
    subst e
    cases ss with
    | cons r t =>
      cases t with
      | cons r2 t2 =>
        cases t2
        exact ⟨_, _, rfl, k1, _, m, pair_set r2.o j (pair_set r.o i (s.keep k1)), c1, q⟩)
/-- d[k] = v -/
def DP (X : Cx) (H0 : Hp) (F : List Addr) (x y z : Sl) (μ : Mu) (k : Mu → Prop) : Prop := ∀ H u v w, SlV X.K H x u → SlV X.K H y v → SlV X.K H z w → Cs X.K H0 F μ H → ∃ a H', u = .ref a ∧ DPut H a v w H' ∧ Ke H H' ∧ ∃ m, Cs X.K H0 F m H' ∧ k m
theorem gs_dput {value : Expr} (h : GE X H0 F value ρ μ fun z m1 => GE X H0 F o ρ m1 fun x m2 => GE X H0 F i ρ m2 fun y m3 => DP X H0 F x y z m3 fun m4 => E.nx ρ m4) (hu : X.A.units + 1 < cLine) (hs : swapsWith value (some (.Subscript o i pos')) pos.line X.env = pure false := by rfl) :
    GS X H0 F (.Assign [.Subscript o i pos'] value pos) E ρ μ := fun σ H s c => ws_of (ps_dput hu we_pe we_pe we_pe hs) (h.run s c fun w H1 z m1 k1 sz c1 q1 => q1.run (s.keep k1) c1 fun u H2 x m2 k2 sx c2 q2 =>
    q2.run (s.keep (k1.trans k2)) c2 fun v H3 y m3 k3 sy c3 q3 => by
      obtain ⟨a, H4, e, g, k4, m4, c4, q⟩ := q3 H3 u v w (sx.keep k3) sy (sz.keep (k2.trans k3)) c3
      exact ⟨a, H4, e, g, ((k1.trans k2).trans k3).trans k4, ρ, m4, s.keep (((k1.trans k2).trans k3).trans k4), c4, q⟩)
theorem dp_T {kvs : List (List Key × Sl)} {ds : List PyData} {ks : List Key} {z : Sl} {k : Mu → Prop} (ha : At μ p (.dT kvs)) (hk : keysD ds = some ks) (hz : kvs.length < sizeLine) (hp : Put μ p (.dT (putS kvs ks z)) μ') (q : k μ') : DP X H0 F (.a p) (.d (.tuple ds)) z μ k := fun H u v w su sv sw c => by
  obtain ⟨ws, e, hp2, hv, _⟩ := dget_T ha hk sv su c
  obtain ⟨b, vs, rfl, tb, zb⟩ := Fz.tuple_at sv
  rw [keysD_fz hk zb] at tb
  have k2 : Ke H (upd H p (.dT (putK ws ks w))) := Ke.put (by rw [hp2]; exact True.intro)
  exact ⟨p, _, e, DPut.t hp2 tb (by rw [← Paired.length hv]; exact hz), k2, μ', c.put hp ⟨_, upd_same, (hv.keep k2).put ks (sw.keep k2)⟩, q⟩
theorem dp_K {kvs : List (Key × Sl)} {d : PyData} {ky : Key} {z : Sl} {k : Mu → Prop} (ha : At μ p (.dK kvs)) (hk : keyD d = some ky) (hz : kvs.length < sizeLine) (hp : Put μ p (.dK (putS kvs ky z)) μ') (q : k μ') : DP X H0 F (.a p) (.d d) z μ k := fun H u v w su sv sw c => by
  obtain ⟨ws, e, hp2, hv, _⟩ := dget_K ha hk sv su c
  have k2 : Ke H (upd H p (.dK (putK ws ky w))) := Ke.put (by rw [hp2]; exact True.intro)
  rw [keyD_fz hk sv]
  exact ⟨p, _, e, DPut.k hp2 (by rw [← Paired.length hv]; exact hz), k2, μ', c.put hp ⟨_, upd_same, (hv.keep k2).put ky (sw.keep k2)⟩, q⟩
/-! ### loops -/
theorem gs_for {js : List Nat} (h : GI X H0 F tg iter ρ μ fun ds m => ∃ I : Nat → List Sl → Mu → Prop, I 0 ρ m ∧
      (∀ (i : Nat) (d : PyData) ρ m, ds[i]? = some d → I i ρ m → GG X H0 F tg js (.d d) ρ m fun ρ' m' => GSs X H0 F body { E with nx := I (i + 1), ct := I (i + 1), bk := E.nx } ρ' m') ∧ ∀ ρ m, I ds.length ρ m → E.nx ρ m)
    (hp : PassesOwn (model X.prog X.w) X.A X.env X.xe := by exact PassesOwn.never) (hc : X.calm = true := by rfl) (hs : ∀ x, foldedSetIterable iter X.env x = pure x := by intro _; rfl) : GS X H0 F (.For tg iter body [] pos) E ρ μ := fun σ H s c =>
  ws_of (ps_for hp hc we_pi we_pg we_pss hs) fun pins st I0 => thn (h σ H s c pins st I0) fun v s1 hh => thn hh fun itv s2 ⟨it, fp, tn, J, H1, e, I1, T, st2, f2, k1, ds, m1, c1, D1, I, i0, turn, fin⟩ => ⟨it, fp, tn, J, H1, e, I1, T, st2, f2, by
    refine ⟨fun i k σ2 H2 => k = ds.length - i ∧ i ≤ ds.length ∧ GW X.K H0 F H1 (I i) σ2 H2, ⟨_, rfl, Nat.zero_le _, .refl, ρ, m1, s.keep k1, c1, i0⟩, ?_⟩
    rintro i k σ2 H2 ⟨rfl, hi, k2, ρ2, m2, s2, c2, q2⟩
    by_cases hlt : i < ds.length
    · refine .inr ⟨D1.go i H2 k2 hlt, GW X.K H0 F H1 (I (i + 1)), fun σ3 H3 q3 => ⟨ds.length - (i + 1), by omega, rfl, hlt, q3⟩, fun x H3 y => ?_⟩
      obtain ⟨d, hd, zd, g3⟩ := D1.yld i H2 x H3 k2 hlt y
      have k3 : Ke H1 H3 := k2.trans (Ke.same g3)
      intro pins s3 u I3 ru
      refine thn (turn i d ρ2 m2 hd q2 σ2 H3 x (s2.keep (Ke.same g3)) zd (c2.grow g3) pins s3 u I3 ru) fun _ s4 ⟨σ4, H4, I4, ex, k4, ρ4, m4, s4', c4, q4⟩ => ⟨σ4, H4, I4, ?_⟩
      exact GSs.run q4 (k3.trans k4) s4' c4 (fun _ _ z => z) (fun _ _ z => z) (fun _ _ z => z.from k1) fun _ _ z => z
    · have e : i = ds.length := by omega
      subst e
      exact .inl ⟨D1.stop H2 k2, k1.trans k2, ρ2, m2, s2, c2, fin ρ2 m2 q2⟩⟩
theorem gs_while (I : Nat → List Sl → Mu → Prop) (m0 : Nat) (h0 : I m0 ρ μ)
    (turn : ∀ m ρ μ, I m ρ μ → GT X H0 F c ρ μ fun k μ' => (k = true → GSs X H0 F body { E with nx := fun ρ μ => ∃ m', m' < m ∧ I m' ρ μ, ct := fun ρ μ => ∃ m', m' < m ∧ I m' ρ μ, bk := E.nx } ρ μ') ∧ (k = false → E.nx ρ μ'))
    (hp : PassesOwn (model X.prog X.w) X.A X.env X.xe := by exact PassesOwn.never) : GS X H0 F (.While c body [] pos) E ρ μ := fun σ H s cs =>
  ws_of (ps_while hp we_pt we_pss) (by
    refine ⟨fun m σ2 H2 => GW X.K H0 F H (I m) σ2 H2, ⟨m0, .refl, ρ, μ, s, cs, h0⟩, ?_⟩
    rintro m σ2 H2 ⟨k2, ρ2, μ2, s2, c2, q2⟩
    refine GT.run (turn m ρ2 μ2 q2) s2 c2 fun b H3 μ3 k3 c3 q3 => ?_
    cases b with
    | true =>
      rw [if_pos rfl]
      refine ⟨GW X.K H0 F H fun ρ μ => ∃ m', m' < m ∧ I m' ρ μ, fun σ4 H4 ⟨k4, ρ4, μ4, s4, c4, m', hm, q4⟩ => ⟨m', hm, k4, ρ4, μ4, s4, c4, q4⟩, ?_⟩
      exact GSs.run (q3.1 rfl) (k2.trans k3) (s2.keep k3) c3 (fun _ _ z => z) (fun _ _ z => z) (fun _ _ z => z) fun _ _ z => z
    | false =>
      rw [if_neg Bool.false_ne_true]
      exact ⟨k2.trans k3, ρ2, μ3, s2.keep k3, c3, q3.2 rfl⟩)
/-- a list that a name holds is data from now on -/
theorem gss_lock (i : Nat) {xs : List Sl} {ds : List PyData} (hr : ρ[i]? = some (.a p)) (ha : At μ p (.lst xs)) (hd : datas xs = some ds) (hl : Del μ p μ') (k : GSs X H0 F sts E (ρ.set i (.d (.list ds))) μ') : GSs X H0 F sts E ρ μ := fun σ H s c => by
  obtain ⟨vs, hp, hv⟩ := (show ∃ vs, H p = some (.lst vs) ∧ Paired (SlV X.K H) xs vs from c.cl _ ha.mem)
  refine wss_lock hp fun o => ?_
  have k2 : Ke H (upd H p (.frz o (.lst vs))) := Ke.put (by rw [hp]; exact True.intro)
  obtain ⟨y, hy, sy⟩ := pair_get s hr
  have ey : y = some (.ref p) := sy
  have eset : σ.set i y = σ := List.ext_getElem? fun j => by
    rw [List.getElem?_set]
    by_cases e : i = j
    · subst e
      rw [if_pos rfl, hy]
      split
      · rfl
      · rename_i hlt
        rw [List.getElem?_eq_none (by omega)] at hy
        cases hy
    · rw [if_neg e]
  have s2 : Sls X.K (upd H p (.frz o (.lst vs))) (ρ.set i (.d (.list ds))) (σ.set i y) := pair_set (by rw [ey]; exact ⟨_, rfl, fz_lst (.inl ⟨o, upd_same⟩) (FzA.keep k2 (datas_fz hd hv))⟩) i (s.keep k2)
  rw [eset] at s2
  exact GSs.at k k2 s2 (c.lock hl (List.mem_map.mpr ⟨_, ha.mem, rfl⟩))
end
end Nl

/-! Nl, part H: defs by slots and cells, calls, the law's end. -/
namespace Nl
open PySem PySem.Spec PyProof.Rows L2
/-! ### cells handed on -/
inductive Tk : Mu → Addr → Cl → Mu → Prop
  | here {p c μ} : Tk ((p, c) :: μ) p c μ
  | there {p c q d μ μ'} : Tk μ p c μ' → Tk ((q, d) :: μ) p c ((q, d) :: μ')
inductive Sub : Mu → Mu → Mu → Prop
  | nil {μ} : Sub μ [] μ
  | cons {μ p c μ1 μ2 r} : Tk μ p c μ1 → Sub μ1 μ2 r → Sub μ ((p, c) :: μ2) r
theorem Tk.perm {μ μ' : Mu} {p : Addr} {c : Cl} (h : Tk μ p c μ') : μ.Perm ((p, c) :: μ') := by
  induction h with
  | here => exact .refl _
  | there _ ih => exact (ih.cons _).trans (.swap _ _ _)
theorem Sub.perm {μ ν r : Mu} (h : Sub μ ν r) : μ.Perm (ν ++ r) := by
  induction h with
  | nil => exact .refl _
  | cons t _ ih => exact t.perm.trans (ih.cons _)
section
variable {K : PySem.W.Frag} {H H' H0 : Hp} {F : List Addr} {μ ν ν' r : Mu}
theorem Cs.perm (h : Cs K H0 F μ H) (p : μ.Perm ν) : Cs K H0 F ν H :=
  ⟨fun q m => h.cl q (p.mem_iff.mpr m), (p.map (·.1)).nodup_iff.mp h.nd, fun q m => h.ow q (p.mem_iff.mpr m), h.fr, h.ke⟩
theorem Cs.enter (h : Cs K H0 F (ν ++ r) H) : Cs K H (ν.map (·.1)) ν H := by
  have nd := h.nd
  rw [List.map_append] at nd
  exact ⟨fun q m => h.cl q (List.mem_append_left _ m), (List.nodup_append.mp nd).1, fun q m => .inl (List.mem_map.mpr ⟨q, m, rfl⟩), fun _ _ e _ => e, .refl⟩
theorem Cs.leave (h : Cs K H0 F (ν ++ r) H) (h' : Cs K H (ν.map (·.1)) ν' H') : Cs K H0 F (ν' ++ r) H' := by
  have nd := h.nd
  rw [List.map_append] at nd
  obtain ⟨n1, n2, n3⟩ := List.nodup_append.mp nd
  have old : ∀ q ∈ ν ++ r, H q.1 ≠ none := fun q m => (h.cl q m).some
  have out : ∀ q ∈ r, q.1 ∉ ν.map (·.1) := fun q m z => n3 _ z _ (List.mem_map.mpr ⟨q, m, rfl⟩) rfl
  refine ⟨fun q m => ?_, ?_, fun q m => ?_, fun b o e n => ?_, h.ke.trans h'.ke⟩
  · rcases List.mem_append.mp m with m | m
    · exact h'.cl q m
    · refine (h.cl q (List.mem_append_right _ m)).keep h'.ke ?_
      cases e : H q.1 with
      | none => exact absurd e (old q (List.mem_append_right _ m))
      | some o => exact h'.fr _ o e (out q m)
  · rw [List.map_append, List.nodup_append]
    refine ⟨h'.nd, n2, fun a ma b mb e => ?_⟩
    subst e
    obtain ⟨q, mq, eq⟩ := List.mem_map.mp ma
    obtain ⟨q2, mq2, eq2⟩ := List.mem_map.mp mb
    rcases h'.ow q mq with z | z
    · rw [eq, ← eq2] at z
      exact out q2 mq2 z
    · rw [eq, ← eq2] at z
      exact old q2 (List.mem_append_right _ mq2) z
  · rcases List.mem_append.mp m with m | m
    · rcases h'.ow q m with z | z
      · obtain ⟨q2, m2, e2⟩ := List.mem_map.mp z
        have := h.ow q2 (List.mem_append_left _ m2)
        rw [e2] at this
        exact this
      · by_cases hf : q.1 ∈ F
        · exact .inl hf
        · refine .inr ?_
          cases e0 : H0 q.1 with
          | none => rfl
          | some u => rw [h.fr _ u e0 hf] at z; cases z
    · exact h.ow q (List.mem_append_right _ m)
  · refine h'.fr b o (h.fr b o e n) fun z => ?_
    obtain ⟨q2, m2, e2⟩ := List.mem_map.mp z
    rcases h.ow q2 (List.mem_append_left _ m2) with z | z
    · rw [e2] at z; exact n z
    · rw [e2, e] at z; cases z
end
/-! ### a def's promise -/
abbrev SpD := List Sl → Mu → (Sl → Mu → Prop) → Prop
structure FnD (P : Program) (w : World) (K : PySem.W.Frag) (mg : Str → Option Value) (base : Heap) (k : Nat) (f : Addr) (fd : FuncData) (ps : List Str) (sp : SpD) : Prop where
  len : ∀ xs μ Q, sp xs μ Q → xs.length = ps.length
  go : ∀ (A : Around) (outer : List Env) (s : Shared) (H : Hp) (args : Args) (us : List Value) (vs : List V) (xs : List Sl) (μ : Mu) (Q : Sl → Mu → Prop), Room k A → A.guards = some [] → Env0 P w K mg base A outer s H →
    BindsTo s fd args (ps.zip us) → Vals vs us → Paired (SlV K H) xs vs → Cs K H (μ.map (·.1)) μ H → sp xs μ Q → codeAny (model P w) A (.call (.ref f) args) (CR CX0 outer P w H s (PQ K H (μ.map (·.1)) H Q) E0) s
theorem FnD.mono {P : Program} {w : World} {K : PySem.W.Frag} {mg : Str → Option Value} {base : Heap} {j k : Nat} {f : Addr} {fd : FuncData} {ps : List Str} {sp : SpD} (F : FnD P w K mg base j f fd ps sp) (h : j ≤ k) : FnD P w K mg base k f fd ps sp :=
  ⟨F.len, fun A outer s H args us vs xs μ Q hr => F.go A outer s H args us vs xs μ Q (hr.mono h)⟩
def startS (N : List Str) (xs : List Sl) : List Sl := xs ++ List.replicate (N.length - xs.length) .u
theorem start_sls {K : PySem.W.Frag} {H : Hp} {N : List Str} {xs : List Sl} {vs : List V} (h : Paired (SlV K H) xs vs) : Sls K H (startS N xs) (L2.start N vs) := by
  unfold startS L2.start
  rw [Paired.length h]
  refine pair_append ?_ (pair_replicate (R := SlO K H) (x := .u) (y := none) True.intro _)
  induction h with
  | nil => exact .nil
  | cons r _ ih => exact .cons r.o ih
/-- fewer cells, in any order -/
def Wk (m' m : Mu) : Prop := ∃ r, m.Perm (m' ++ r)
theorem wk_ext {m m' r : Mu} (h : Sub m m' r) : Wk m' m := ⟨r, h.perm⟩
theorem wk_refl {m : Mu} : Wk m m := ⟨[], by rw [List.append_nil]⟩
theorem wk_cons {m m' : Mu} {q : Addr × Cl} (h : Wk m' m) : Wk m' (q :: m) := let ⟨r, h⟩ := h; ⟨q :: r, (h.cons q).trans List.perm_middle.symm⟩
theorem Wk.trans {a b c : Mu} (h : Wk a b) (k : Wk b c) : Wk a c := by
  obtain ⟨r, h⟩ := h
  obtain ⟨s, k⟩ := k
  exact ⟨r ++ s, k.trans (by rw [← List.append_assoc]; exact h.append_right s)⟩
theorem Cs.wk {K : PySem.W.Frag} {H H0 : Hp} {F : List Addr} {m m' : Mu} (h : Cs K H0 F m H) (k : Wk m' m) : Cs K H0 F m' H := let ⟨r, p⟩ := k; (h.perm p).sub (List.sublist_append_left m' r)
/-- a def's ends: cells that are no more wanted may stay -/
def outE (Q : Sl → Mu → Prop) : GEnds := { nx := fun _ m => ∃ m', Wk m' m ∧ Q (.d .none) m', rt := fun x m => ∃ m', Wk m' m ∧ Q x m' }
section
variable {P : Program} {w : World} {K : PySem.W.Frag} {mg : Str → Option Value} {base : Heap}
/-- a def of the text, by its body in words of slots and cells -/
theorem okD {x qual : Str} {st : Stmt} {f : Addr} {fd : FuncData} {N ps : List Str} {k : Nat} {sp : SpD} (D : Fun K x qual st f fd) (S : FnScope N ps (defScope st)) (len : ∀ xs μ Q, sp xs μ Q → xs.length = ps.length)
    (hbody : ∀ (cdv : Value) (A : Around) (outer : List Env) (s : Shared) (H : Hp) (xs : List Sl) (μ : Mu) (Q : Sl → Mu → Prop), Room k (A.deeper (envOfC qual (defScope st) s.heap.objs.size f cdv)) → (A.deeper (envOfC qual (defScope st) s.heap.objs.size f cdv)).guards = some [] → sp xs μ Q →
      GSs (cxOf CX0 P w K mg base N qual (defScope st) f cdv A outer s H E0).nox H (μ.map (·.1)) (defBody st) (outE Q) (startS N xs) μ) : FnD P w K mg base (k + 1) f fd ps sp := by
  obtain ⟨oc, od, kV, doc, pm, an, cdv, ct, osl, rfl, lk, hcd⟩ := D.ex
  refine ⟨len, fun A outer s H args us vs xs μ Q hr hg env hb rv sv cs hsp => ?_⟩
  have lx : xs.length = ps.length := len _ _ _ hsp
  have lv : vs.length = ps.length := by rw [← Paired.length sv, lx]
  have up : ∀ b o, base.get? b = some o → s.heap.get? b = some o := fun b o e => (env.bs b o e).1
  have KX := env.mod.kin.keeps up
  have names : ∀ y ∈ ps.zip us, (defScope st).names.lookup y.1 = some .local ∨ ((defScope st).names.lookup y.1 = some .cell ∧ ((cellsFrom (s.heap.objs.size + 1) (defScope st).names []).lookup y.1).isSome = true) := fun y hy =>
    (S.par y.1 (List.of_mem_zip (a := y.1) (b := y.2) hy).1).imp id fun q => ⟨q, PySem.W.cellsFrom_some _ _ _ (.inl q)⟩
  refine codeAny_call_function hr.depth (KX _ _ lk) rfl S.co S.gen rfl (PySem.W.codeRec_of KX hcd) (hb _ _ _ _ (wpAny_newFunctionEnv_cells S.kind names fun en he s1 x => ?_))
  subst he
  refine ⟨(env.mod.nolimit.keeps up).keeps x.toInCall.keep, codeAny_func ?_⟩
  have J := inv_start (CX := CX0) (E := E0) (N := N) S hr.hd env lv rv x
  have B := hbody cdv A outer s H xs μ Q (hr.deeper _) hg hsp
  refine wpAny_mono (B (L2.start N vs) H (start_sls sv) cs [] s1 (J.wish _)) (fun fl s' hs => ?_) fun e s' hs => hs.elim
  have done : ∀ {σ' : L2.St} {H' : Hp} {v : V} {u : Value}, Inv (cxOf CX0 P w K mg base N qual (defScope st) f cdv A outer s H E0) [] σ' H' s' → RelV v u → PQ K H (μ.map (·.1)) H Q v H' → CE outer P w H s (PQ K H (μ.map (·.1)) H Q) u s' :=
    fun {_ H' v _} I r q => ⟨v, H', I.os, I.bare, I.base, I.hok, r, q⟩
  have hs2 := hs.unwish
  match fl, hs2 with
  | .ret u, hs2 =>
    obtain ⟨v, σ', H', I, r, y, m, sy, cy, m', sub, q⟩ := hs2
    exact done I r ⟨cy.ke, y, m', sy, cy.wk sub, q⟩
  | .next, hs2 =>
    obtain ⟨σ', H', I, _, ρ', m, _, c', m', sub, q⟩ := hs2
    exact done (v := V.non) (u := Value.none) I rfl ⟨c'.ke, .d .none, m', .non, c'.wk sub, q⟩
  | .brk, hs2 =>
    obtain ⟨_, _, _, _, _, _, _, _, q⟩ := hs2
    exact q.elim
  | .cont, hs2 =>
    obtain ⟨_, _, _, _, _, _, _, _, q⟩ := hs2
    exact q.elim
end
/-! ### calls of defs -/
section
variable {X : Cx} {H0 : Hp} {F0 : List Addr} {ρ : List Sl} {μ : Mu} {a e : Expr} {es : List Expr} {pos p apos : Pos} {Q : Sl → Mu → Prop} {k : Nat} {f : Addr} {fd : FuncData} {ps : List Str} {sp : SpD} {x : Str}
theorem run_fd {pins : List (Addr × Obj)} {σ : L2.St} {H Hb : Hp} {s : Shared} {us us' : List Value} {kw : List (Str × Value)} {vs : List V} {xs : List Sl} {m ma r : Mu} (D : FnD X.prog X.w X.K X.mg X.base k f fd ps sp) (hr : Room k X.A) (hg : X.A.guards = some []) (I : Inv X pins σ H s)
    (hb : BindsTo s fd ⟨us', kw⟩ (ps.zip us)) (rv : Vals vs us) (sv : Paired (SlV X.K H) xs vs) (c : Cs X.K H0 F0 m H) (kb : Ke Hb H) (su : Sub m ma r) (q : sp xs ma fun y m' => Q y (m' ++ r)) :
    wpAny (model X.prog X.w) X.A (call (.ref f) us' kw) (EP X pins σ (PQ X.K H0 F0 Hb Q)) X.xe s := by
  have c1 := c.perm su.perm
  refine wpAny_call (codeAny_mono (D.go X.A X.stack s H ⟨us', kw⟩ us vs xs ma _ hr hg I.env0 hb rv sv c1.enter q) fun rs s' hq => ?_)
  match rs, hq with
  | .error e, hq => exact hq.elim
  | .ok (.ret u), hq =>
    obtain ⟨v, H', I', rr, kk, y, m', sy, cy, qq⟩ := I.after hq
    exact ⟨v, H', I', rr, kb.trans kk, y, m' ++ r, sy, c1.leave cy, qq⟩
def tAny (X : Cx) (ek : Expr) : TE := fun σ H Q => WE X ek σ H Q
/-- what is wanted of the arguments: cells are handed on, the promise holds -/
def CD (sp : SpD) (Q : Sl → Mu → Prop) (xs : List Sl) (m : Mu) : Prop := ∃ ma r, Sub m ma r ∧ sp xs ma fun y m' => Q y (m' ++ r)
/-- f(e, ..): dxs the defaults that fill up -/
theorem ge_callD {ds : List Value} {dvs : List V} {dxs : List Sl} (D : FnD X.prog X.w X.K X.mg X.base k f fd ps sp) (hr : Room k X.A) (hg : X.A.guards = some []) (hm : X.mg x = some (.ref f)) (hk : PySem.W.keepIn X.K (.ref f) = true) (hb : Binds X.K fd ps ds) (hd : Vals dvs ds) (hdx : ∀ H, Paired (SlV X.K H) dxs dvs)
    (h : GA X H0 F0 (e :: es) ρ μ fun xs m => CD sp Q (xs ++ dxs) m) (hgl : Gl X x := by rfl) (hdb : (x == ("__debug__" : Str)) = false := by decide) (he : starEach (e :: es) X.env = (false, eval e X.env) :: starEach es X.env := by rfl) (hpl : (backTo pos (starEach es X.env)).any (·.1) = false := by rfl) :
    GE X H0 F0 (.Call (.Name x p) (e :: es) [] pos) ρ μ Q := fun σ H s c pins st I =>
  wpAny_Call_Name_kw (ld_glob I hgl hm (PySem.W.callWith_K (h₀ := X.base) I.ok.mod.kin hk (thn (h σ H s c pos pins st I) fun us s1 ⟨vs, H1, I1, r, k1, xs, m, sv, c1, ma, rr, su, q⟩ => ⟨I1.kIn, (by
    have r2 := r.append hd
    have sv2 := pair_append sv (hdx H1)
    refine run_fd D hr hg I1 (hb s1 us I1.kIn ?_) r2 sv2 c1 k1 su q
    rw [← r2.length, ← Paired.length sv2, D.len _ _ _ q])⟩) he hpl) hdb)
theorem ge_callF (D : FnD X.prog X.w X.K X.mg X.base k f fd ps sp) (hr : Room k X.A) (hg : X.A.guards = some []) (hm : X.mg x = some (.ref f)) (hk : PySem.W.keepIn X.K (.ref f) = true) (hb : Binds X.K fd ps [])
    (h : GA X H0 F0 (e :: es) ρ μ fun xs m => CD sp Q xs m) (hgl : Gl X x := by rfl) (hdb : (x == ("__debug__" : Str)) = false := by decide) (he : starEach (e :: es) X.env = (false, eval e X.env) :: starEach es X.env := by rfl) (hpl : (backTo pos (starEach es X.env)).any (·.1) = false := by rfl) :
    GE X H0 F0 (.Call (.Name x p) (e :: es) [] pos) ρ μ Q := ge_callD (dxs := []) D hr hg hm hk hb .nil (fun _ => .nil) (fun σ H s c => (h σ H s c).mono fun vs H' ⟨k1, xs, m, sv, cs, q⟩ => ⟨k1, xs, m, sv, cs, by show CD sp Q (xs ++ []) m; rw [List.append_nil]; exact q⟩) hgl hdb he hpl
theorem ge_callF0 (D : FnD X.prog X.w X.K X.mg X.base k f fd [] sp) (hr : Room k X.A) (hg : X.A.guards = some []) (hm : X.mg x = some (.ref f)) (hk : PySem.W.keepIn X.K (.ref f) = true) (hb : Binds X.K fd [] [])
    (h : CD sp Q [] μ) (hgl : Gl X x := by rfl) (hdb : (x == ("__debug__" : Str)) = false := by decide) : GE X H0 F0 (.Call (.Name x p) [] [] pos) ρ μ Q := fun σ H s c pins st I =>
  wpAny_Call_Name_kw (ld_glob I hgl hm (PySem.W.callWith_K0 I.kIn hk (by
    obtain ⟨ma, rr, su, q⟩ := h
    exact run_fd (us := []) (vs := []) D hr hg I (hb st [] I.kIn rfl) .nil .nil c .refl su q)) hdb)
/-! keywords -/
def GK (X : Cx) (H0 : Hp) (F0 : List Addr) (kws : List Keyword) (ρ : List Sl) (μ : Mu) (QL : List Sl → Mu → Prop) : Prop := ∀ σ H, Sls X.K H ρ σ → Cs X.K H0 F0 μ H → ∀ (pos : Pos) (pins : List (Addr × Obj)) (s : Shared), Inv X pins σ H s →
  wpAny (model X.prog X.w) X.A (evalAll ((backToKw pos (keywordEach kws X.env)).map (·.2))) (AP X pins σ (PL X.K H0 F0 H QL)) X.xe s
variable {kws : List Keyword} {QL : List Sl → Mu → Prop} {nm : Option Str}
theorem gk_nil (q : QL [] μ) : GK X H0 F0 [] ρ μ QL := fun σ H s c pos pins st I => wpAny_evalAll_nil ⟨[], H, I, .nil, .refl, [], μ, .nil, c, q⟩
theorem gk_cons (h : GE X H0 F0 e ρ μ fun y m => GK X H0 F0 kws ρ m fun ys m' => QL (y :: ys) m') : GK X H0 F0 (⟨nm, e, apos⟩ :: kws) ρ μ QL := fun σ H s c pos pins st I => by
  show wpAny _ _ (evalAll ((do let v ← eval e X.env; standAt pos; pure v) :: (backToKw pos (keywordEach kws X.env)).map (·.2))) _ _ st
  refine wpAny_evalAll_cons (wpAny_bind (thn (h σ H s c pins st I) fun u s1 ⟨v, H1, I1, r1, k1, y, m, sy, c1, q1⟩ => wpAny_bind (wpAny_standAt (wpAny_pure ?_))))
  exact thn (q1 σ H1 (s.keep k1) c1 pos pins s1 I1) fun us s2 ⟨vs, H2, I2, r2, k2, ys, m2, sys, c2, q2⟩ => ⟨v :: vs, H2, I2, .cons r1 r2, k1.trans k2, y :: ys, m2, .cons (sy.keep k2) sys, c2, q2⟩
/-- how keywords bind: places of the parameters within the keywords -/
structure KB (K : PySem.W.Frag) (fd : FuncData) (ps ks : List Str) (n : Nat) (ix : List Nat) : Prop where
  to : ∀ (s : Shared) (us ws : List Value), K.In s.heap → us.length = n → ws.length = ks.length → BindsTo s fd ⟨us, ks.zip ws⟩ (ps.zip (ix.map fun i => (us ++ ws).getD i .none))
def pickS (ix : List Nat) (xs : List Sl) : List Sl := ix.map fun i => xs.getD i (.d .none)
theorem vals_pick {vs : List V} {us : List Value} (r : Vals vs us) : ∀ ix : List Nat, Vals (ix.map fun i => vs.getD i .non) (ix.map fun i => us.getD i .none)
  | [] => .nil
  | i :: ix => by
    refine .cons ?_ (vals_pick r ix)
    show L2.RelV (vs.getD i V.non) (us.getD i Value.none)
    rw [List.getD_eq_getElem?_getD, List.getD_eq_getElem?_getD]
    cases e : vs[i]? with
    | none =>
      have : us[i]? = none := by rw [List.getElem?_eq_none_iff] at e ⊢; rw [← r.length]; exact e
      rw [this]; rfl
    | some v =>
      obtain ⟨u, eu, ru⟩ := r.get e
      rw [eu]; exact ru
theorem sls_pick {K : PySem.W.Frag} {H : Hp} {xs : List Sl} {vs : List V} (r : Paired (SlV K H) xs vs) : ∀ ix : List Nat, Paired (SlV K H) (pickS ix xs) (ix.map fun i => vs.getD i .non)
  | [] => .nil
  | i :: ix => by
    refine .cons ?_ (sls_pick r ix)
    show SlV K H (xs.getD i (Sl.d PyData.none)) (vs.getD i V.non)
    rw [List.getD_eq_getElem?_getD, List.getD_eq_getElem?_getD]
    cases e : xs[i]? with
    | none =>
      have : vs[i]? = none := by rw [List.getElem?_eq_none_iff] at e ⊢; rw [← Paired.length r]; exact e
      rw [this]; exact Fz.non
    | some v =>
      obtain ⟨u, eu, ru⟩ := pair_get r e
      rw [eu]; exact ru
/-- f(k = v, ..), no place argument -/
theorem ge_callK0 {ks : List Str} {ix : List Nat} (D : FnD X.prog X.w X.K X.mg X.base k f fd ps sp) (hr : Room k X.A) (hg : X.A.guards = some []) (hm : X.mg x = some (.ref f)) (hk : PySem.W.keepIn X.K (.ref f) = true) (hb : KB X.K fd ps ks 0 ix)
    (h : GK X H0 F0 kws ρ μ fun xs m => xs.length = ks.length ∧ CD sp Q (pickS ix xs) m) (hall : (backToKw pos (keywordEach kws X.env)).all (·.1.isSome) = true := by rfl) (hks : (backToKw pos (keywordEach kws X.env)).filterMap (·.1) = ks := by rfl)
    (hpl : ((backTo pos (starEach [] X.env)).any (·.1) || (backToKw pos (keywordEach kws X.env)).any (·.1.isNone)) = false := by rfl) (hgl : Gl X x := by rfl) (hdb : (x == ("__debug__" : Str)) = false := by decide) : GE X H0 F0 (.Call (.Name x p) [] kws pos) ρ μ Q := fun σ H s c pins st I =>
  wpAny_Call_Name_kw (ld_glob I hgl hm (PySem.W.callWith_KW0 (h₀ := X.base) I.ok.mod.kin hk hall (thn (h σ H s c pos pins st I) fun ws s1 ⟨vs, H1, I1, r, k1, xs, m, sv, c1, hl, ma, rr, su, q⟩ => ⟨I1.kIn, (by
    rw [hks]
    have lw : ws.length = ks.length := by rw [← r.length, ← Paired.length sv, hl]
    exact run_fd D hr hg I1 (hb.to s1 [] ws I1.kIn rfl lw) (vals_pick r ix) (sls_pick sv ix) c1 k1 su q)⟩) hpl) hdb)
/-- f(e, .., k = v, ..) -/
theorem ge_callK {ks : List Str} {ix : List Nat} {n : Nat} (D : FnD X.prog X.w X.K X.mg X.base k f fd ps sp) (hr : Room k X.A) (hg : X.A.guards = some []) (hm : X.mg x = some (.ref f)) (hk : PySem.W.keepIn X.K (.ref f) = true) (hb : KB X.K fd ps ks n ix)
    (h : GA X H0 F0 (e :: es) ρ μ fun ys m => ys.length = n ∧ GK X H0 F0 kws ρ m fun xs m => xs.length = ks.length ∧ CD sp Q (pickS ix (ys ++ xs)) m) (hall : (backToKw pos (keywordEach kws X.env)).all (·.1.isSome) = true := by rfl) (hks : (backToKw pos (keywordEach kws X.env)).filterMap (·.1) = ks := by rfl)
    (hpl : ((backTo pos (starEach (e :: es) X.env)).any (·.1) || (backToKw pos (keywordEach kws X.env)).any (·.1.isNone)) = false := by rfl) (hgl : Gl X x := by rfl) (hdb : (x == ("__debug__" : Str)) = false := by decide)
    (he : starEach (e :: es) X.env = (false, eval e X.env) :: starEach es X.env := by rfl) : GE X H0 F0 (.Call (.Name x p) (e :: es) kws pos) ρ μ Q := fun σ H s c pins st I =>
  wpAny_Call_Name_kw (ld_glob I hgl hm (PySem.W.callWith_KW (h₀ := X.base) I.ok.mod.kin hk hall (thn (h σ H s c pos pins st I) fun us s1 ⟨vs, H1, I1, r, k1, ys, m, sv, c1, hn, q1⟩ => thn (q1 σ H1 (s.keep k1) c1 pos pins s1 I1) fun ws s2 ⟨zs, H2, I2, rz, k2, xs, m2, sz, c2, hl, ma, rr, su, q⟩ => ⟨I2.kIn, (by
    rw [hks]
    have lw : ws.length = ks.length := by rw [← rz.length, ← Paired.length sz, hl]
    have lu : us.length = n := by rw [← r.length, ← Paired.length sv, hn]
    have sv2 : Paired (SlV X.K H2) ys vs := Paired.mapP sv fun _ _ z => z.keep k2
    exact run_fd D hr hg I2 (hb.to s2 us ws I2.kIn lu lw) (vals_pick (r.append rz) ix) (sls_pick (pair_append sv2 sz) ix) c2 (k1.trans k2) su q)⟩) hpl he) hdb)
/-- a, b = x, y otherwise: a tuple is made, and unpacked -/
theorem gs_tup {ts : List Expr} {E : GEnds} {js : List Nat} {kt k2 : Nat} {pt pt2 : Pos} (h : GA X H0 F0 es ρ μ fun xs m => xs.length ≤ sizeLine ∧ xs.length = ts.length ∧ GGs X H0 F0 ts js xs ρ m E.nx) (hl : (assignEach ts X.env).length = ts.length := by rfl) (hst : (assignEach ts X.env).findIdx? (·.1) = none := by rfl)
    (hs : swapsWithSole [.Tuple ts kt pt] (.Tuple es k2 pt2) pos.line X.env = pure false := by rfl) (hw : swappedStores [.Tuple ts kt pt] (.Tuple es k2 pt2) X.env = pure none := by rfl) (h1 : (assignEach [.Tuple ts kt pt] X.env).map (·.2) = [assign (.Tuple ts kt pt) X.env] := by rfl)
    (hc : X.calm = true := by rfl) : GS X H0 F0 (.Assign [.Tuple ts kt pt] (.Tuple es k2 pt2) pos) E ρ μ := fun σ H s c => ws_of (ps_asg (pe_tup we_pa) (pg_tup hc we_pgs hl hst) hs hw h1) (h.run s c fun vs H1 xs m k1 ss c1 ⟨hz, hn, q⟩ => ⟨by rw [← Paired.length ss]; exact hz, fun p n => by
    have k2 : Ke H1 (upd H1 p (.tup vs)) := Ke.new n
    refine ⟨p, vs, rfl, .inl (.inl upd_same), by rw [← Paired.length ss, hn], fun pins st us I r => thn (q σ _ vs (s.keep (k1.trans k2)) (Paired.mapP ss fun _ _ z => z.keep k2) (c1.grow fun b o e => by rw [upd_ne (ne_of_none e n)]; exact e) pins st us I r) fun _ s' ⟨σ', H', I', _, k3, z⟩ => ⟨σ', H', I', (k1.trans k2).trans k3, z⟩⟩⟩)
variable {st : Stmt} {sts : List Stmt} {E : GEnds} {μ' : Mu} {R : Bool → Mu → Prop} {tg iter c : Expr} {ifs : List Expr} {js : List Nat} {y : Sl} {QR : List Sl → Mu → Prop} {QL : List Sl → Mu → Prop}
theorem ge_wk (k : Wk μ' μ) (h : GE X H0 F0 e ρ μ' Q) : GE X H0 F0 e ρ μ Q := fun σ H s c => h σ H s (c.wk k)
theorem gt_wk (k : Wk μ' μ) (h : GT X H0 F0 e ρ μ' R) : GT X H0 F0 e ρ μ R := fun σ H s c => h σ H s (c.wk k)
theorem ga_wk (k : Wk μ' μ) (h : GA X H0 F0 es ρ μ' QL) : GA X H0 F0 es ρ μ QL := fun σ H s c => h σ H s (c.wk k)
theorem gg_wk (k : Wk μ' μ) (h : GG X H0 F0 tg js y ρ μ' QR) : GG X H0 F0 tg js y ρ μ QR := fun σ H v s sv c => h σ H v s sv (c.wk k)
theorem gss_wk (k : Wk μ' μ) (h : GSs X H0 F0 sts E ρ μ') : GSs X H0 F0 sts E ρ μ := fun σ H s c => h σ H s (c.wk k)
theorem gs_wk (k : Wk μ' μ) (h : GS X H0 F0 st E ρ μ') : GS X H0 F0 st E ρ μ := fun σ H s c => h σ H s (c.wk k)
theorem gts_wk (k : Wk μ' μ) (h : GTs X H0 F0 ifs ρ μ' R) : GTs X H0 F0 ifs ρ μ R := fun Hb σ H kb s c => h Hb σ H kb s (c.wk k)
end
end Nl

/-! Nl, part I: comparisons of data, built-in calls. -/
namespace Nl
open PySem PySem.Spec PyProof.Rows L2
section
variable {X : Cx} {H0 : Hp} {F : List Addr} {ρ : List Sl} {μ μ' : Mu} {a e : Expr} {es : List Expr} {pos p' : Pos} {Q : Sl → Mu → Prop} {p : Addr} {f : Value → Value → Sem Value} {x y : Sl}
/-- two-place operations, from the model's side -/
def rSem (X : Cx) (f : Value → Value → Sem Value) : R2 := fun v w H Q => ∀ (pins : List (Addr × Obj)) (s : Shared) (σ : L2.St) (u1 u2 : Value), Inv X pins σ H s → RelV v u1 → RelV w u2 → wpAny (model X.prog X.w) X.A (f u1 u2) (EP X pins σ Q) X.xe s
theorem bo_sem (h : ∀ (Hb H : Hp) (v w : V) (pins : List (Addr × Obj)) (s : Shared) (σ : L2.St) (u1 u2 : Value), Ke Hb H → SlV X.K H x v → SlV X.K H y w → Cs X.K H0 F μ H → Inv X pins σ H s → RelV v u1 → RelV w u2 → wpAny (model X.prog X.w) X.A (f u1 u2) (EP X pins σ (PQ X.K H0 F Hb Q)) X.xe s) :
    BO X H0 F f x y μ Q := ⟨rSem X f, fun pins s σ H x y v u Q I rx ry q => q pins s σ v u I rx ry, fun Hb H v w k sv sw c pins s σ u1 u2 I r1 r2 => h Hb H v w pins s σ u1 u2 k sv sw c I r1 r2⟩
theorem ep_d {pins : List (Addr × Obj)} {σ : L2.St} {H Hb : Hp} {s : Shared} {v : V} {u : Value} {d : PyData} (I : Inv X pins σ H s) (r : RelV v u) (k : Ke Hb H) (z : Fz X.K H v d) (c : Cs X.K H0 F μ H) (q : Q (.d d) μ) : EP X pins σ (PQ X.K H0 F Hb Q) u s := ⟨v, H, I, r, pq_d k z c q⟩
theorem bo_eqD {d e : PyData} (hd : SeqAt.shaped d = true) (he : SeqAt.shaped e = true) (hu : X.A.units + 64 < cLine) (nd : d.hasDict = false) (ne : e.hasDict = false) (q : Q (.d (.bool (PyData.eqv d e))) μ) : BO X H0 F (compareOp .Eq) (.d d) (.d e) μ Q :=
  bo_sem fun Hb H v w pins s σ u1 u2 k sv sw c I r1 r2 => by
    obtain ⟨as, q1⟩ := Fz.reads I sv nd u1 r1
    obtain ⟨bs, q2⟩ := Fz.reads I sw ne u2 r2
    exact SeqAt.compareEq_shaped q1 q2 hd he hu (ep_d I (v := .bl _) rfl k (.bl _) c q)
theorem bo_neD {d e : PyData} (hd : SeqAt.shaped d = true) (he : SeqAt.shaped e = true) (hu : X.A.units + 64 < cLine) (nd : d.hasDict = false) (ne : e.hasDict = false) (q : Q (.d (.bool (!PyData.eqv d e))) μ) : BO X H0 F (compareOp .NotEq) (.d d) (.d e) μ Q :=
  bo_sem fun Hb H v w pins s σ u1 u2 k sv sw c I r1 r2 => by
    obtain ⟨as, q1⟩ := Fz.reads I sv nd u1 r1
    obtain ⟨bs, q2⟩ := Fz.reads I sw ne u2 r2
    exact SeqAt.compareNe_shaped q1 q2 hd he hu (ep_d I (v := .bl _) rfl k (.bl _) c q)
end
/-! ### typed data -/
section
variable {α : Type} [DecidableEq α] [PySem.W.Datum α]
open PySem.W in
theorem hasDict_plain : ∀ d : PyData, d.plain = true → d.hasDict = false := fun d h => by
  have hall : ∀ n (d : PyData), sizeOf d < n → d.plain = true → d.hasDict = false := by
    intro n
    induction n with
    | zero => intro d h; omega
    | succ n ih =>
      have lst : ∀ ds : List PyData, sizeOf ds < n + 1 → PyData.plainAll ds = true → PyData.hasDictAll ds = false := by
        intro ds
        induction ds with
        | nil => intro _ _; rfl
        | cons d r ihr =>
          intro hs hp
          simp only [PyData.plainAll, Bool.and_eq_true] at hp
          simp only [List.cons.sizeOf_spec] at hs
          simp only [PyData.hasDictAll, Bool.or_eq_false_iff]
          exact ⟨ih d (by omega) hp.1, ihr (by omega) hp.2⟩
      intro d hs hp
      cases d with
      | none => rfl
      | bool _ => rfl
      | int _ => rfl
      | str _ => rfl
      | list xs =>
        simp only [PyData.plain] at hp
        simp only [PyData.hasDict]
        exact lst xs (by simp only [PyData.list.sizeOf_spec] at hs; omega) hp
      | tuple xs =>
        simp only [PyData.plain] at hp
        simp only [PyData.hasDict]
        exact lst xs (by simp only [PyData.tuple.sizeOf_spec] at hs; omega) hp
      | dict _ => simp only [PyData.plain] at hp; cases hp
  exact hall _ d (Nat.lt_succ_self _) h
end
section
variable {X : Cx} {H0 : Hp} {F : List Addr} {ρ : List Sl} {μ μ' : Mu} {a e : Expr} {es : List Expr} {pos p' : Pos} {Q : Sl → Mu → Prop} {p : Addr} {x y : Sl}
open PySem.W
theorem holds_of {α : Type} [DecidableEq α] [Datum α] {pins : List (Addr × Obj)} {σ : L2.St} {H : Hp} {s : Shared} {v : V} {u : Value} {t : α} (I : Inv X pins σ H s) (z : Fz X.K H v (Datum.toD t)) (r : RelV v u) : Holds s.heap u t := Fz.reads I z (hasDict_plain _ (Datum.plain t)) u r
theorem bo_eqT {α : Type} [DecidableEq α] [Datum α] {s t : α} (hu : X.A.units + Datum.depth α < cLine) (q : Q (.d (.bool (decide (s = t)))) μ) : BO X H0 F (compareOp .Eq) (.d (Datum.toD s)) (.d (Datum.toD t)) μ Q :=
  bo_sem fun Hb H v w pins st σ u1 u2 k sv sw c I r1 r2 => eq_datum (holds_of I sv r1) (holds_of I sw r2) hu (ep_d I (v := .bl _) rfl k (.bl _) c q)
theorem bo_neT {α : Type} [DecidableEq α] [Datum α] {s t : α} (hu : X.A.units + Datum.depth α < cLine) (q : Q (.d (.bool (decide (s ≠ t)))) μ) : BO X H0 F (compareOp .NotEq) (.d (Datum.toD s)) (.d (Datum.toD t)) μ Q :=
  bo_sem fun Hb H v w pins st σ u1 u2 k sv sw c I r1 r2 => ne_datum (holds_of I sv r1) (holds_of I sw r2) hu (ep_d I (v := .bl _) rfl k (.bl _) c q)
theorem bo_ltT {α : Type} [DecidableEq α] [DatumOrd α] {s t : α} (hu : X.A.units + Datum.depth α < cLine) (q : Q (.d (.bool (DatumOrd.lt s t))) μ) : BO X H0 F (compareOp .Lt) (.d (Datum.toD s)) (.d (Datum.toD t)) μ Q :=
  bo_sem fun Hb H v w pins st σ u1 u2 k sv sw c I r1 r2 => lt_datum (holds_of I sv r1) (holds_of I sw r2) hu (ep_d I (v := .bl _) rfl k (.bl _) c q)
theorem bo_leT {α : Type} [DecidableEq α] [DatumOrd α] {s t : α} (hu : X.A.units + Datum.depth α < cLine) (q : Q (.d (.bool (!DatumOrd.lt t s))) μ) : BO X H0 F (compareOp .LtE) (.d (Datum.toD s)) (.d (Datum.toD t)) μ Q :=
  bo_sem fun Hb H v w pins st σ u1 u2 k sv sw c I r1 r2 => le_datum (holds_of I sv r1) (holds_of I sw r2) hu (ep_d I (v := .bl _) rfl k (.bl _) c q)
theorem bo_gtT {α : Type} [DecidableEq α] [DatumOrd α] {s t : α} (hu : X.A.units + Datum.depth α < cLine) (q : Q (.d (.bool (DatumOrd.lt t s))) μ) : BO X H0 F (compareOp .Gt) (.d (Datum.toD s)) (.d (Datum.toD t)) μ Q :=
  bo_sem fun Hb H v w pins st σ u1 u2 k sv sw c I r1 r2 => gt_datum (holds_of I sv r1) (holds_of I sw r2) hu (ep_d I (v := .bl _) rfl k (.bl _) c q)
theorem bo_geT {α : Type} [DecidableEq α] [DatumOrd α] {s t : α} (hu : X.A.units + Datum.depth α < cLine) (q : Q (.d (.bool (!DatumOrd.lt s t))) μ) : BO X H0 F (compareOp .GtE) (.d (Datum.toD s)) (.d (Datum.toD t)) μ Q :=
  bo_sem fun Hb H v w pins st σ u1 u2 k sv sw c I r1 r2 => ge_datum (holds_of I sv r1) (holds_of I sw r2) hu (ep_d I (v := .bl _) rfl k (.bl _) c q)

/-! ### built-in calls -/
def CO (X : Cx) (H0 : Hp) (F : List Addr) (f : Value) (xs : List Sl) (μ : Mu) (Q : Sl → Mu → Prop) : Prop := ∀ (Hb H : Hp) (vs : List V) (us : List Value) (pins : List (Addr × Obj)) (s : Shared) (σ : L2.St), Ke Hb H → Paired (SlV X.K H) xs vs → Cs X.K H0 F μ H → Inv X pins σ H s → Vals vs us →
  wpAny (model X.prog X.w) X.A (call f us) (EP X pins σ (PQ X.K H0 F Hb Q)) X.xe s
theorem co_r {f : Value} {xs : List Sl} {r : List V → Hp → VK → Prop} (hr : CallR X f r) (h : ∀ Hb H vs, Ke Hb H → Paired (SlV X.K H) xs vs → Cs X.K H0 F μ H → r vs H (PQ X.K H0 F Hb Q)) : CO X H0 F f xs μ Q := fun Hb H vs us pins s σ k sv c I rv => hr pins s σ H vs us _ I rv (h Hb H vs k sv c)
def rCO (X : Cx) (f : Value) : List V → Hp → VK → Prop := fun vs H Q => ∀ (pins : List (Addr × Obj)) (s : Shared) (σ : L2.St) (us : List Value), Inv X pins σ H s → Vals vs us → wpAny (model X.prog X.w) X.A (call f us) (EP X pins σ Q) X.xe s
theorem call_rCO {f : Value} : CallR X f (rCO X f) := fun pins s σ H xs us Q I r h => h pins s σ us I r
variable {nm : Str} {bi T : String}
theorem ge_callB (hm : X.mg nm = none) (hv : bootBuiltins nm = some (.builtin bi)) (h : GA X H0 F (e :: es) ρ μ fun xs m => CO X H0 F (.builtin bi) xs m Q) (hg : Gl X nm := by rfl) (hn : nm ≠ "__name__" := by decide) (hdb : (nm == ("__debug__" : Str)) = false := by decide)
    (he : starEach (e :: es) X.env = (false, eval e X.env) :: starEach es X.env := by rfl) (hpl : (backTo pos (starEach es X.env)).any (·.1) = false := by rfl) : GE X H0 F (.Call (.Name nm p') (e :: es) [] pos) ρ μ Q :=
  ge_of (pe_callB call_rCO hg hm hv we_pa hn hdb he hpl) fun σ H s c => h.run s c fun vs H' xs m k sv c1 q pins st σ2 us I rv => q H H' vs us pins st σ2 k sv c1 I rv
theorem ge_callT (hm : X.mg nm = none) (hv : bootBuiltins nm = some (.type T)) (h : GA X H0 F (e :: es) ρ μ fun xs m => CO X H0 F (.type T) xs m Q) (hg : Gl X nm := by rfl) (hn : nm ≠ "__name__" := by decide) (hdb : (nm == ("__debug__" : Str)) = false := by decide)
    (he : starEach (e :: es) X.env = (false, eval e X.env) :: starEach es X.env := by rfl) (hpl : (backTo pos (starEach es X.env)).any (·.1) = false := by rfl) : GE X H0 F (.Call (.Name nm p') (e :: es) [] pos) ρ μ Q :=
  ge_of (pe_callTy call_rCO hg hm hv we_pa hn hdb he hpl) fun σ H s c => h.run s c fun vs H' xs m k sv c1 q pins st σ2 us I rv => q H H' vs us pins st σ2 k sv c1 I rv
theorem ge_ty (hm : X.mg nm = none) (hv : bootBuiltins nm = some (.type T)) (q : Q (.w (.ty T)) μ) (hg : Gl X nm := by rfl) (hn : nm ≠ "__name__" := by decide) (hdb : (nm == ("__debug__" : Str)) = false := by decide) : GE X H0 F (.Name nm p') ρ μ Q :=
  ge_of (pe_bltn hg hm hv (v := .ty T) rfl hn hdb) fun σ H s c => ⟨.refl, .w (.ty T), μ, rfl, c, q⟩
/-- a slot that is a list: a cell, or data -/
inductive LsA (μ : Mu) : Sl → List Sl → Prop
  | c {p xs} : At μ p (.lst xs) → LsA μ (.a p) xs
  | d {ds} : LsA μ (.d (.list ds)) (ds.map Sl.d)
theorem LsA.sq {H : Hp} {xs : List Sl} {v : V} (h : LsA μ x xs) (sv : SlV X.K H x v) (c : Cs X.K H0 F μ H) : ∃ a vs, v = .ref a ∧ SqL X.K H a vs ∧ Paired (SlV X.K H) xs vs := by
  cases h with
  | c ha =>
    obtain ⟨ws, hp, hv⟩ := (show ∃ vs, H _ = some (.lst vs) ∧ Paired (SlV X.K H) xs vs from c.cl _ ha.mem)
    exact ⟨_, ws, sv, .inl (.inl hp), hv⟩
  | d =>
    obtain ⟨a, vs, rfl, ta, za⟩ := Fz.list_inv sv
    exact ⟨a, vs, rfl, ta.sq, slv_of_fz za⟩
theorem sq_len {H : Hp} {pins : List (Addr × Obj)} {σ : L2.St} {s : Shared} {a : Addr} {vs : List V} (I : Inv X pins σ H s) (h : SqL X.K H a vs) : vs.length ≤ sizeLine := by
  obtain ⟨its, r, _, hz⟩ := I.list h
  exact hz
variable {i j : Int} {ds : List PyData} {xs : List Sl}
theorem one {H : Hp} {vs : List V} (h : Paired (SlV X.K H) [x] vs) : ∃ v, vs = [v] ∧ SlV X.K H x v := by
  cases h with
  | cons r t => cases t; exact ⟨_, rfl, r⟩
theorem two {H : Hp} {vs : List V} (h : Paired (SlV X.K H) [x, y] vs) : ∃ v w, vs = [v, w] ∧ SlV X.K H x v ∧ SlV X.K H y w := by
  cases h with
  | cons r t => cases t with
    | cons r2 t2 => cases t2; exact ⟨_, _, rfl, r, r2⟩
theorem co_lenL (ha : LsA μ x xs) (q : Q (.d (.int xs.length)) μ) : CO X H0 F (.builtin "len") [x] μ Q := co_r call_len_seq fun Hb H vs k sv c => by
  obtain ⟨v, rfl, s1⟩ := one sv
  obtain ⟨a, ws, rfl, hs, hv⟩ := ha.sq s1 c
  exact ⟨a, ws, rfl, .inl hs, by rw [← Paired.length hv]; exact pq_d k (.int _) c q⟩
theorem co_lenT (q : Q (.d (.int ds.length)) μ) : CO X H0 F (.builtin "len") [.d (.tuple ds)] μ Q := co_r call_len_seq fun Hb H vs k sv c => by
  obtain ⟨v, rfl, s1⟩ := one sv
  obtain ⟨a, ws, rfl, hs, hv⟩ := Fz.tuple_inv s1
  exact ⟨a, ws, rfl, .inr hs, by rw [Paired.length hv]; exact pq_d k (.int _) c q⟩
theorem co_lenDT {kvs : List (List Key × Sl)} (ha : At μ p (.dT kvs)) (q : Q (.d (.int kvs.length)) μ) : CO X H0 F (.builtin "len") [.a p] μ Q := co_r call_len_dT fun Hb H vs k sv c => by
  obtain ⟨v, rfl, s1⟩ := one sv
  obtain ⟨ws, hp, hv⟩ := (show ∃ ws, H p = some (.dT ws) ∧ KS X.K H kvs ws from c.cl _ ha.mem)
  exact ⟨p, ws, by rw [show v = .ref p from s1], hp, by rw [← Paired.length hv]; exact pq_d k (.int _) c q⟩
theorem co_intI (q : Q (.d (.int i)) μ) : CO X H0 F (.type "int") [.d (.int i)] μ Q := co_r call_int1 fun Hb H vs k sv c => by
  obtain ⟨v, rfl, s1⟩ := one sv
  exact .inl ⟨i, by rw [Fz.int_inv s1], pq_d k (.int _) c q⟩
theorem co_intB {b : Bool} (q : Q (.d (.int (if b then 1 else 0))) μ) : CO X H0 F (.type "int") [.d (.bool b)] μ Q := co_r call_int1 fun Hb H vs k sv c => by
  obtain ⟨v, rfl, s1⟩ := one sv
  exact .inr ⟨b, by rw [Fz.bool_inv s1], pq_d k (.int _) c q⟩
theorem co_abs (q : Q (.d (.int (if i < 0 then -i else i))) μ) : CO X H0 F (.builtin "abs") [.d (.int i)] μ Q := co_r call_abs fun Hb H vs k sv c => by
  obtain ⟨v, rfl, s1⟩ := one sv
  exact ⟨i, by rw [Fz.int_inv s1], pq_d k (.int _) c q⟩
theorem co_max2 (q : Q (.d (.int (if j > i then j else i))) μ) (hc : X.calm = true := by rfl) : CO X H0 F (.builtin "max") [.d (.int i), .d (.int j)] μ Q := co_r (call_max2 hc) fun Hb H vs k sv c => by
  obtain ⟨v, w, rfl, s1, s2⟩ := two sv
  exact ⟨i, j, by rw [Fz.int_inv s1, Fz.int_inv s2], pq_d k (.int _) c q⟩
theorem co_min2 (q : Q (.d (.int (if j < i then j else i))) μ) (hc : X.calm = true := by rfl) : CO X H0 F (.builtin "min") [.d (.int i), .d (.int j)] μ Q := co_r (call_min2 hc) fun Hb H vs k sv c => by
  obtain ⟨v, w, rfl, s1, s2⟩ := two sv
  exact ⟨i, j, by rw [Fz.int_inv s1, Fz.int_inv s2], pq_d k (.int _) c q⟩
/-- tuple(xs) -/
theorem co_tupL (ha : LsA μ x xs) (hd : datas xs = some ds) (q : Q (.d (.tuple ds)) μ) : CO X H0 F (.type "tuple") [x] μ Q := co_r call_tuple_of fun Hb H vs k sv c => by
  obtain ⟨v, rfl, s1⟩ := one sv
  obtain ⟨a, ws, rfl, hs, hv⟩ := ha.sq s1 c
  exact ⟨a, ws, rfl, .inl ⟨hs, fun l n => pq_tup k n (datas_fz hd hv) c q⟩⟩
theorem co_tupT (q : Q (.d (.tuple ds)) μ) : CO X H0 F (.type "tuple") [.d (.tuple ds)] μ Q := co_r call_tuple_of fun Hb H vs k sv c => by
  obtain ⟨v, rfl, s1⟩ := one sv
  obtain ⟨a, ws, rfl, hs, hv⟩ := Fz.tuple_inv s1
  exact ⟨a, ws, rfl, .inr ⟨hs, pq_d k s1 c q⟩⟩
/-- list(xs) -/
theorem co_lstL (ha : LsA μ x xs) (q : ∀ p, Q (.a p) ((p, .lst xs) :: μ)) : CO X H0 F (.type "list") [x] μ Q := co_r call_list_of fun Hb H vs k sv c => by
  obtain ⟨v, rfl, s1⟩ := one sv
  obtain ⟨a, ws, rfl, hs, hv⟩ := ha.sq s1 c
  exact ⟨a, ws, rfl, .inl hs, fun l n => pq_cell k n hv c q⟩
theorem co_lstT (q : ∀ p, Q (.a p) ((p, .lst (ds.map Sl.d)) :: μ)) : CO X H0 F (.type "list") [.d (.tuple ds)] μ Q := co_r call_list_of fun Hb H vs k sv c => by
  obtain ⟨v, rfl, s1⟩ := one sv
  obtain ⟨a, ws, rfl, hs, hv⟩ := Fz.tuple_inv s1
  exact ⟨a, ws, rfl, .inr hs, fun l n => pq_cell k n (slv_of_fz hv) c q⟩
/-- all(xs), any(xs), sum(xs) -/
theorem slv_bools {H : Hp} : ∀ {bs : List Bool} {vs : List V}, Paired (SlV X.K H) (bs.map fun b => Sl.d (.bool b)) vs → vs = bs.map V.bl
  | [], _, .nil => rfl
  | b :: bs, _, .cons r t => by rw [Fz.bool_inv r, slv_bools t]; rfl
theorem slv_ints {H : Hp} : ∀ {ns : List Int} {vs : List V}, Paired (SlV X.K H) (ns.map fun n => Sl.d (.int n)) vs → vs = ns.map V.int
  | [], _, .nil => rfl
  | b :: bs, _, .cons r t => by rw [Fz.int_inv r, slv_ints t]; rfl
theorem co_all {bs : List Bool} (ha : LsA μ x (bs.map fun b => Sl.d (.bool b))) (q : Q (.d (.bool (bs.all id))) μ) (hc : X.calm = true := by rfl) : CO X H0 F (.builtin "all") [x] μ Q := co_r (cr_all hc) fun Hb H vs k sv c => by
  obtain ⟨v, rfl, s1⟩ := one sv
  obtain ⟨a, ws, rfl, hs, hv⟩ := ha.sq s1 c
  rw [slv_bools hv] at hs
  exact ⟨a, bs, rfl, hs, pq_d k (.bl _) c q⟩
theorem co_any {bs : List Bool} (ha : LsA μ x (bs.map fun b => Sl.d (.bool b))) (q : Q (.d (.bool (bs.any id))) μ) (hc : X.calm = true := by rfl) : CO X H0 F (.builtin "any") [x] μ Q := co_r (cr_any hc) fun Hb H vs k sv c => by
  obtain ⟨v, rfl, s1⟩ := one sv
  obtain ⟨a, ws, rfl, hs, hv⟩ := ha.sq s1 c
  rw [slv_bools hv] at hs
  exact ⟨a, bs, rfl, hs, pq_d k (.bl _) c q⟩
theorem co_sum {ns : List Int} (ha : LsA μ x (ns.map fun n => Sl.d (.int n))) (q : Q (.d (.int ns.sum)) μ) (hc : X.calm = true := by rfl) : CO X H0 F (.builtin "sum") [x] μ Q := co_r (cr_sum hc) fun Hb H vs k sv c => by
  obtain ⟨v, rfl, s1⟩ := one sv
  obtain ⟨a, ws, rfl, hs, hv⟩ := ha.sq s1 c
  rw [slv_ints hv] at hs
  exact ⟨a, ns, rfl, hs, pq_d k (.int _) c q⟩
/-! isinstance -/
theorem vals_1 {v : V} {us : List Value} (h : Vals [v] us) : ∃ u, us = [u] ∧ RelV v u := by
  cases h with
  | cons r t => cases t; exact ⟨_, rfl, r⟩
theorem vals_2 {v w : V} {us : List Value} (h : Vals [v, w] us) : ∃ u t, us = [u, t] ∧ RelV v u ∧ RelV w t := by
  cases h with
  | cons r t => cases t with
    | cons r2 t2 => cases t2; exact ⟨_, _, rfl, r, r2⟩
theorem co_isi {d : PyData} {b : Bool} (nd : d.hasDict = false) (h : ∀ {s : Shared} {v : Value} {as : List Addr} {Q : Value → Shared → Prop} {E : Value → Shared → Prop}, Reads s.heap v d as → (∀ tk, s.toks ≤ tk → Q (.bool b) { s with toks := tk }) → wpAny (model X.prog X.w) X.A (call (.builtin "isinstance") [v, .type T]) Q E s)
    (q : Q (.d (.bool b)) μ) : CO X H0 F (.builtin "isinstance") [.d d, .w (.ty T)] μ Q := fun Hb H vs us pins s σ k sv c I rv => by
  obtain ⟨v, w, rfl, s1, s2⟩ := two sv
  obtain rfl : w = V.ty T := s2
  obtain ⟨u1, u2, rfl, r1, r2⟩ := vals_2 rv
  obtain rfl : u2 = Value.type T := r2
  obtain ⟨as, ra⟩ := Fz.reads I s1 nd u1 r1
  exact h ra fun tk _ => ep_d (I.tok tk) (v := .bl _) rfl k (.bl _) c q
theorem co_isInt {d : PyData} (nd : d.hasDict = false) (q : Q (.d (.bool d.isInt)) μ) : CO X H0 F (.builtin "isinstance") [.d d, .w (.ty "int")] μ Q := co_isi nd (fun r h => isinstance_int_data r h) q
theorem co_isBool {d : PyData} (nd : d.hasDict = false) (q : Q (.d (.bool d.isBool)) μ) : CO X H0 F (.builtin "isinstance") [.d d, .w (.ty "bool")] μ Q := co_isi nd (fun r h => isinstance_bool_data r h) q
theorem co_isTuple {d : PyData} (nd : d.hasDict = false) (q : Q (.d (.bool d.isTuple)) μ) : CO X H0 F (.builtin "isinstance") [.d d, .w (.ty "tuple")] μ Q := co_isi nd (fun r h => isinstance_tuple_data r h) q
theorem co_isList {d : PyData} (nd : d.hasDict = false) (q : Q (.d (.bool d.isList)) μ) : CO X H0 F (.builtin "isinstance") [.d d, .w (.ty "list")] μ Q := co_isi nd (fun r h => isinstance_list_data r h) q
theorem co_isStr {d : PyData} (nd : d.hasDict = false) (q : Q (.d (.bool d.isStr)) μ) : CO X H0 F (.builtin "isinstance") [.d d, .w (.ty "str")] μ Q := co_isi nd (fun r h => isinstance_str_data r h) q
/-! repr -/
theorem co_reprL (hs : (PyData.list ds).showable = true) (nd : PyData.hasDictAll ds = false) (hz : (PyData.list ds).shown.length ≤ sizeLine) (hg : X.A.guards = some []) (hu : X.A.units + ((PyData.list ds).depth + 1) < cLine) (q : Q (.d (.str (PyData.list ds).shown)) μ) :
    CO X H0 F (.builtin "repr") [.d (.list ds)] μ Q := fun Hb H vs us pins s σ k sv c I rv => by
  obtain ⟨v, rfl, s1⟩ := one sv
  obtain ⟨u, rfl, ru⟩ := vals_1 rv
  have nd' : (PyData.list ds).hasDict = false := by simp only [PyData.hasDict]; exact nd
  obtain ⟨as, ra⟩ := Fz.reads I s1 nd' u ru
  obtain ⟨a, ws, rfl, _, _⟩ := Fz.list_inv s1
  obtain rfl : u = Value.ref a := ru
  refine PySem.repr_of_reads' ra hs (fun e => absurd (nd'.symm.trans e) Bool.false_ne_true) hg hu (fun _ _ e => e) (fun h' u tk ex => ?_) hz
  have J : Inv X pins σ H { s with heap := h', toks := tk } := I.kept ex
  exact ep_d J (v := .str _) ⟨u, rfl⟩ k (.str _) c q
theorem co_reprT (hs : (PyData.tuple ds).showable = true) (nd : PyData.hasDictAll ds = false) (hz : (PyData.tuple ds).shown.length ≤ sizeLine) (hg : X.A.guards = some []) (hu : X.A.units + ((PyData.tuple ds).depth + 1) < cLine) (q : Q (.d (.str (PyData.tuple ds).shown)) μ) :
    CO X H0 F (.builtin "repr") [.d (.tuple ds)] μ Q := fun Hb H vs us pins s σ k sv c I rv => by
  obtain ⟨v, rfl, s1⟩ := one sv
  obtain ⟨u, rfl, ru⟩ := vals_1 rv
  have nd' : (PyData.tuple ds).hasDict = false := by simp only [PyData.hasDict]; exact nd
  obtain ⟨as, ra⟩ := Fz.reads I s1 nd' u ru
  obtain ⟨a, ws, rfl, _, _⟩ := Fz.tuple_inv s1
  obtain rfl : u = Value.ref a := ru
  refine PySem.repr_of_reads' ra hs (fun e => absurd (nd'.symm.trans e) Bool.false_ne_true) hg hu (fun _ _ e => e) (fun h' u tk ex => ?_) hz
  have J : Inv X pins σ H { s with heap := h', toks := tk } := I.kept ex
  exact ep_d J (v := .str _) ⟨u, rfl⟩ k (.str _) c q
/-! min of a list of data -/
theorem fzA_of : ∀ {ds : List PyData} {H : Hp} {vs : List V}, Paired (SlV X.K H) (ds.map Sl.d) vs → FzA X.K H vs ds
  | [], _, _, .nil => .nil
  | d :: ds, _, _, .cons r t => .cons r (fzA_of t)
theorem holds_all {α : Type} [DecidableEq α] [Datum α] {pins : List (Addr × Obj)} {σ : L2.St} {H : Hp} {s : Shared} (I : Inv X pins σ H s) : ∀ {ts : List α} {vs : List V} {us : List Value}, FzA X.K H vs (ts.map Datum.toD) → Vals vs us → HoldAll s.heap us ts
  | [], _, _, .nil, .nil => .nil
  | t :: ts, _, _, .cons z zs, .cons r rs => .cons (holds_of I z r) (holds_all I zs rs)
theorem co_minL {α : Type} [DecidableEq α] [DatumOrd α] {t : α} {ts : List α} (ha : LsA μ x ((t :: ts).map fun t => Sl.d (Datum.toD t))) (hu : X.A.units + 1 + Datum.depth α < cLine) (q : Q (.d (Datum.toD (minOf t ts))) μ) (hc : X.calm = true := by rfl) :
    CO X H0 F (.builtin "min") [x] μ Q := fun Hb H vs us pins s σ k sv c I rv => by
  obtain ⟨v, rfl, s1⟩ := one sv
  obtain ⟨u, rfl, ru⟩ := vals_1 rv
  obtain ⟨a, ws, rfl, hs, hv⟩ := ha.sq s1 c
  obtain rfl : u = Value.ref a := ru
  have fz : FzA X.K H ws ((t :: ts).map Datum.toD) := fzA_of (by rw [List.map_map]; exact hv)
  obtain ⟨its, rr, hl, hz⟩ := I.list hs
  have HA : HoldAll s.heap its (t :: ts) := holds_all I fz rr
  refine min_list_datum (I.ok.hd hc) hl.isList (by simpa using HA) hu fun n u h' tk hn hh ex => ?_
  have J : Inv X pins σ H { s with heap := h', toks := tk } := I.kept ex
  have hn' : its[n]? = some u := by simpa using hn
  obtain ⟨t0, et, ht⟩ := HA.at hn'
  have lw := Vals.length rr
  have hlt : n < ws.length := by rw [lw]; exact (List.getElem?_eq_some_iff.mp hn').1
  have hw := List.getElem?_eq_getElem hlt
  have rw1 : RelV ws[n] u := pair_ix rr n _ _ hw hn'
  have zt : Fz X.K H ws[n] (Datum.toD t0) := pair_ix fz n _ _ hw (by rw [List.getElem?_map, et]; rfl)
  have same : Datum.toD t0 = Datum.toD (minOf t ts) := by
    obtain ⟨as, r1⟩ := ht.keeps ex
    obtain ⟨bs, r2⟩ := hh
    exact (Reads.unique r1 _ _ r2).1
  rw [same] at zt
  exact ep_d J rw1 k zt c q
end
end Nl

/-! Nl, part J: the law's end. -/
namespace Nl
open PySem PySem.Spec PyProof.Rows L2
/-- nothing but the object at a may be tracked, and that is locked as it lies -/
structure Lone (K : PySem.W.Frag) (H : Hp) (h : Heap) (a : Addr) (ds : List PyData) : Prop where
  data : Fz K H (.ref a) (.list ds)
  here : ∀ b, H b ≠ none → b = a ∧ K.lookup b = none ∧ ∃ o u, H b = some (.frz o u) ∧ h.get? b = some o
theorem law_go {P : Program} {w : World} {K : PySem.W.Frag} {mg mb : Str → Option Value} {k : Nat} {fa a : Addr} {fd : FuncData} {x : Str} {sp : SpD} {s : Shared} {vs : List Value} {ns : List Int}
    (KX : K.In s.heap) (gl : s.heap.Ns mainGlobals mg) (bl : s.heap.Ns builtinsNs mb) (bb : ∀ x : Str, x ≠ "__name__" → mb x = bootBuiltins x) (nl : s.heap.NoLimit) (gens : s.gens = #[])
    (ho : s.heap.get? a = some { cls := .type "list", data := .seq vs.toArray }) (hi : IntsAre vs ns) (hz : ns.length ≤ sizeLine) (hr : Room k callerA) (hgd : callerA.guards = some [])
    (D : ∀ base : Heap, K.In base → base.Ns mainGlobals mg → FnD P w K mg base k fa fd [x] sp) (hb : ∀ (s : Shared) (u : Value), BindsTo s fd ⟨[u], []⟩ [(x, u)])
    (hsp : sp [.d (.list (ns.map PyData.int))] [] fun y _ => y = .d (.bool true)) :
    codeAny (model P w) callerA (.call (.ref fa) ⟨[.ref a], []⟩) (fun r s' => r = .ok (.ret (.bool true)) ∧ OldK s.heap s'.heap ∧ s'.os = s.os ∧ AllBare s'.gens) s := by
  have rv := vals_ints hi
  have lv : vs.length = ns.length := hi.length
  have main : ∀ H : Hp, Lone K H s.heap a (ns.map PyData.int) → HOk P w H s.heap → codeAny (model P w) callerA (.call (.ref fa) ⟨[.ref a], []⟩) (fun r s' => r = .ok (.ret (.bool true)) ∧ OldK s.heap s'.heap ∧ s'.os = s.os ∧ AllBare s'.gens) s := by
    intro H L hok
    have free : ∀ {b : Addr} {o : Obj} {es : Array DictEntry} {ep : Nat}, s.heap.get? b = some o → o.data = .dict es ep → H b = none := fun {b o es ep} e d => Classical.byContradiction fun n => by
      obtain ⟨rfl, _⟩ := L.here b n
      rw [ho, Option.some.injEq] at e
      subst e
      exact nomatch (show Data.seq vs.toArray _ = Data.dict es ep from d)
    have seen : ∀ {b : Addr} {m : Str → Option Value}, s.heap.Ns b m → (hidT s.heap H).Ns b m := fun ⟨o, es, ep, e, d, r⟩ => ⟨o, es, ep, hidT_get e (free e d), d, r⟩
    have kin : K.In (hidT s.heap H) := fun b o e => hidT_get (KX b o e) (Classical.byContradiction fun n => by
      rw [(L.here b n).2.1] at e
      cases e)
    obtain ⟨mc, c1, c2⟩ := nl
    have en : Env0 P w K mg (hidT s.heap H) callerA [] s H := ⟨rfl, ⟨kin, seen gl, ⟨mb, seen bl, bb⟩, ⟨mc, seen c1, c2⟩⟩, fun b o e => of_hidT e, Nat.le_of_eq (hidT_size _ _), trivial, fun b z => (nomatch z), hok, .of_eq gens⟩
    have cs : Cs K H (([] : Mu).map (·.1)) [] H := ⟨fun _ m => (nomatch m), .nil, fun _ m => (nomatch m), fun _ _ e _ => e, .refl⟩
    refine codeAny_mono ((D _ kin (seen gl)).go callerA [] s H ⟨[.ref a], []⟩ [.ref a] [.ref a] _ [] _ hr hgd en (hb s (.ref a)) (.cons rfl .nil) (Paired.cons (a := Sl.d (.list (ns.map PyData.int))) L.data .nil) cs hsp) fun r s' q => ?_
    match r, q with
    | .error _, q => exact q.elim
    | .ok (.ret u), ⟨v, H', os, bare, un, hok', rr, kk, y, m, sy, cy, e⟩ =>
      subst e
      have ev : v = .bl true := Fz.bool_inv sy
      subst ev
      refine ⟨congrArg (fun t => (Except.ok (Flow.ret t) : Result)) (show u = Value.bool true from rr), OldK.of_keep fun b o e => ?_, os, bare⟩
      cases e1 : H b with
      | none => exact un.keep b o e e1 (fun z => nomatch z) (fun z => nomatch z)
      | some t =>
        obtain ⟨_, _, o2, u2, e2, e3⟩ := L.here b (by rw [e1]; exact fun z => nomatch z)
        rw [e, Option.some.injEq] at e3
        subst e3
        exact (hok' b _ (kk.frz b o u2 e2)).1
  cases hk : K.lookup a with
  | some o =>
    have e := KX a o hk
    rw [ho, Option.some.injEq] at e
    subst e
    exact main (fun _ => none) ⟨fz_lst (.inr ⟨vs, _, hk, by rw [lv]; exact hz, rv⟩) (fz_ints ns), fun b n => absurd rfl n⟩ fun b u e => nomatch (show (none : Option HO) = some u from e)
  | none =>
    refine main (fun b => if b = a then some (.frz { cls := .type "list", data := .seq vs.toArray } (.lst (ns.map V.int))) else none) ⟨fz_lst (.inl ⟨{ cls := .type "list", data := .seq vs.toArray }, if_pos rfl⟩) (fz_ints ns), fun b n => ?_⟩ fun b u e => ?_
    · have eb : b = a := Classical.byContradiction fun z => n (if_neg z)
      subst eb
      exact ⟨rfl, hk, _, _, if_pos rfl, ho⟩
    · have eb : b = a := Classical.byContradiction fun z => nomatch (show (none : Option HO) = some u from (if_neg z).symm.trans e)
      subst eb
      have e2 : HO.frz { cls := .type "list", data := .seq vs.toArray } (.lst (ns.map V.int)) = u := Option.some.inj ((if_pos rfl).symm.trans e)
      subst e2
      exact ⟨ho, by rw [List.length_map]; exact hz, vs, _, rv, ho⟩
/-- the end of a law row -/
theorem walkD {l : PySem.W.OpenLaw} {n k : Nat} {q : Program} {loose : List Str} {XP : (Str → Option Value) → Heap → Prop} {YP : World → Heap → Prop} {d : DefRec} {K : Params → PySem.W.Frag} {sp : SpD} {x : Str}
    (hn : l.most = some n) (hn2 : n ≤ sizeLine) (hdf : d.params.defaults = []) (hr : Room k callerA) (hgd : callerA.guards = some []) (hY : ∀ (w : World) (h : Heap), YP w h → (K w.params).In h)
    (D : ∀ (w : World) (mg : Str → Option Value) (fa : Addr) (h : Heap), (K w.params).In h → h.Ns mainGlobals mg → mg d.name = some (.ref fa) → ∃ fd : FuncData, (∀ (s : Shared) (u : Value), BindsTo s fd ⟨[u], []⟩ [(x, u)]) ∧
      ∀ base : Heap, (K w.params).In base → base.Ns mainGlobals mg → FnD l.prog w (K w.params) mg base k fa fd [x] sp)
    (hsp : ∀ ns : List Int, ns.length ≤ n → (∀ z ∈ ns, Builtin.Int.intBits z ≤ 1048576) → sp [.d (.list (ns.map PyData.int))] [] fun y _ => y = .d (.bool true)) :
    PySem.W.WalkO q loose XP YP l.row.toRowW d [] (fun f vs => PySem.call f vs) :=
  Att.attach_callB hn hdf fun w s₀ s₁ mg mb fa o pm cd doc a vs ns G Y ho hd hcd hmg hobj hints hlen hbits hg => by
    have KX := hY w _ Y
    obtain ⟨fd, hb, hD⟩ := D w mg fa _ KX G.T.g hmg
    exact law_go KX G.T.g G.T.b G.T.builtins G.T.nolimit hg hobj hints (Nat.le_trans hlen hn2) hr hgd hD hb (hsp ns hlen hbits)
end Nl

/-! Nl, part K: defs by name; what repr needs; lists compared. -/
namespace Nl
open PySem PySem.Spec PyProof.Rows L2
/-! ### a def by its name -/
def Dn (K : PySem.W.Frag) (mg : Str → Option Value) (x : Str) (st : Stmt) (ps : List Str) : Prop := ∃ f fd, Fun K x x st f fd ∧ mg x = some (.ref f) ∧ Binds K fd ps []
def Cal (P : Program) (w : World) (K : PySem.W.Frag) (mg : Str → Option Value) (base : Heap) (k : Nat) (x : Str) (st : Stmt) (ps : List Str) (sp : SpD) : Prop := ∃ f fd, Fun K x x st f fd ∧ mg x = some (.ref f) ∧ Binds K fd ps [] ∧ FnD P w K mg base k f fd ps sp
section
variable {P : Program} {w : World} {K : PySem.W.Frag} {mg : Str → Option Value} {base : Heap} {j k : Nat} {x : Str} {st : Stmt} {N ps : List Str} {sp : SpD}
theorem Cal.mono (C : Cal P w K mg base j x st ps sp) (h : j ≤ k) : Cal P w K mg base k x st ps sp := let ⟨f, fd, a, b, c, d⟩ := C; ⟨f, fd, a, b, c, d.mono h⟩
theorem Dn.cal (D : Dn K mg x st ps) (S : FnScope N ps (defScope st)) (len : ∀ xs μ Q, sp xs μ Q → xs.length = ps.length)
    (hbody : ∀ (f : Addr) (cdv : Value) (A : Around) (outer : List Env) (s : Shared) (H : Hp) (xs : List Sl) (μ : Mu) (Q : Sl → Mu → Prop), Room k (A.deeper (envOfC x (defScope st) s.heap.objs.size f cdv)) → (A.deeper (envOfC x (defScope st) s.heap.objs.size f cdv)).guards = some [] → sp xs μ Q →
      GSs (cxOf CX0 P w K mg base N x (defScope st) f cdv A outer s H E0).nox H (μ.map (·.1)) (defBody st) (outE Q) (startS N xs) μ) : Cal P w K mg base (k + 1) x st ps sp :=
  let ⟨f, fd, a, b, c⟩ := D; ⟨f, fd, a, b, c, okD a S len fun cdv A outer s H xs μ Q => hbody f cdv A outer s H xs μ Q⟩
end
section
variable {X : Cx} {H0 : Hp} {F0 : List Addr} {ρ : List Sl} {μ μ' : Mu} {a e : Expr} {es : List Expr} {kws : List Keyword} {pos p : Pos} {Q : Sl → Mu → Prop} {k n : Nat} {ps ks : List Str} {ix : List Nat} {sp : SpD} {x : Str} {st : Stmt}
theorem ge_cal (C : Cal X.prog X.w X.K X.mg X.base k x st ps sp) (hr : Room k X.A) (hg : X.A.guards = some []) (h : GA X H0 F0 (e :: es) ρ μ fun xs m => CD sp Q xs m) (hgl : Gl X x := by rfl) (hdb : (x == ("__debug__" : Str)) = false := by decide)
    (he : starEach (e :: es) X.env = (false, eval e X.env) :: starEach es X.env := by rfl) (hpl : (backTo pos (starEach es X.env)).any (·.1) = false := by rfl) : GE X H0 F0 (.Call (.Name x p) (e :: es) [] pos) ρ μ Q :=
  let ⟨_, _, a, b, c, d⟩ := C; ge_callF d hr hg b a.kp c h hgl hdb he hpl
/-- how keywords bind, from the def's own parameters -/
def KwOk (x : Str) (st : Stmt) (ps ks : List Str) (n : Nat) (ix : List Nat) : Prop := ∀ (kV doc pm : Value) (an : Option Addr) (cdv ct : Value) (us ws : List Value), us.length = n → ws.length = ks.length →
  bindArgs (PySem.W.fnOf x x (defArgs st) (defBody st) (defScope st) .none kV doc pm an cdv ct) ⟨us, ks.zip ws⟩ = pure (ps.zip (ix.map fun i => (us ++ ws).getD i .none))
theorem KwOk.kb {K : PySem.W.Frag} {f : Addr} {fd : FuncData} (h : KwOk x st ps ks n ix) (D : Fun K x x st f fd) : KB K fd ps ks n ix := ⟨fun s us ws _ h1 h2 => by
  obtain ⟨oc, od, kV, doc, pm, an, cdv, ct, osl, rfl, lk, hcd⟩ := D.ex
  exact .of_eq (h kV doc pm an cdv ct us ws h1 h2)⟩
theorem ge_calK0 (C : Cal X.prog X.w X.K X.mg X.base k x st ps sp) (kw : KwOk x st ps ks 0 ix) (hr : Room k X.A) (hg : X.A.guards = some []) (h : GK X H0 F0 kws ρ μ fun xs m => xs.length = ks.length ∧ CD sp Q (pickS ix xs) m) (hall : (backToKw pos (keywordEach kws X.env)).all (·.1.isSome) = true := by rfl)
    (hks : (backToKw pos (keywordEach kws X.env)).filterMap (·.1) = ks := by rfl) (hpl : ((backTo pos (starEach [] X.env)).any (·.1) || (backToKw pos (keywordEach kws X.env)).any (·.1.isNone)) = false := by rfl) (hgl : Gl X x := by rfl) (hdb : (x == ("__debug__" : Str)) = false := by decide) :
    GE X H0 F0 (.Call (.Name x p) [] kws pos) ρ μ Q := let ⟨_, _, a, b, c, d⟩ := C; ge_callK0 d hr hg b a.kp (kw.kb a) h hall hks hpl hgl hdb
theorem ge_calK (C : Cal X.prog X.w X.K X.mg X.base k x st ps sp) (kw : KwOk x st ps ks n ix) (hr : Room k X.A) (hg : X.A.guards = some []) (h : GA X H0 F0 (e :: es) ρ μ fun ys m => ys.length = n ∧ GK X H0 F0 kws ρ m fun xs m => xs.length = ks.length ∧ CD sp Q (pickS ix (ys ++ xs)) m)
    (hall : (backToKw pos (keywordEach kws X.env)).all (·.1.isSome) = true := by rfl) (hks : (backToKw pos (keywordEach kws X.env)).filterMap (·.1) = ks := by rfl) (hpl : ((backTo pos (starEach (e :: es) X.env)).any (·.1) || (backToKw pos (keywordEach kws X.env)).any (·.1.isNone)) = false := by rfl)
    (hgl : Gl X x := by rfl) (hdb : (x == ("__debug__" : Str)) = false := by decide) (he : starEach (e :: es) X.env = (false, eval e X.env) :: starEach es X.env := by rfl) : GE X H0 F0 (.Call (.Name x p) (e :: es) kws pos) ρ μ Q :=
  let ⟨_, _, a, b, c, d⟩ := C; ge_callK d hr hg b a.kp (kw.kb a) h hall hks hpl hgl hdb he
/-! ### a list cell compared with a list -/
theorem ls_reads {pins : List (Addr × Obj)} {σ : L2.St} {H : Hp} {s : Shared} {y : Sl} {xs : List Sl} {ds : List PyData} {v : V} {u : Value} (I : Inv X pins σ H s) (ha : LsA μ y xs) (hd : datas xs = some ds) (nd : PyData.hasDictAll ds = false) (sv : SlV X.K H y v) (c : Cs X.K H0 F0 μ H) (r : RelV v u) : ∃ as, Reads s.heap u (.list ds) as := by
  obtain ⟨a, ws, rfl, hs, hv⟩ := ha.sq sv c
  obtain rfl : u = Value.ref a := r
  have fz := datas_fz hd hv
  obtain ⟨its, rv, ⟨o, n, ho, hc, _, hdd⟩, _⟩ := I.list hs
  have l1 := Paired.length fz
  have l2 := Vals.length rv
  obtain ⟨as, hr⟩ := readsAll_of (s := s) (us := its) (ds := ds) (by omega) fun i u d hu hd2 => by
    have hi : i < its.length := (List.getElem?_eq_some_iff.mp hu).1
    have hw := List.getElem?_eq_getElem (l := ws) (i := i) (by rw [l2]; exact hi)
    exact Fz.reads I (pair_ix fz i _ _ hw hd2) (noDictAll nd d (List.mem_of_getElem? hd2)) u (pair_ix rv i _ _ hw hu)
  exact ⟨_, .list ho hc hdd hr⟩
theorem bo_neL {y z : Sl} {xs ys : List Sl} {ds es : List PyData} (h1 : LsA μ y xs) (h2 : LsA μ z ys) (d1 : datas xs = some ds) (d2 : datas ys = some es) (n1 : PyData.hasDictAll ds = false) (n2 : PyData.hasDictAll es = false) (s1 : SeqAt.shaped (.list ds) = true) (s2 : SeqAt.shaped (.list es) = true)
    (hu : X.A.units + 64 < cLine) (q : Q (.d (.bool (!PyData.eqv (.list ds) (.list es)))) μ) : BO X H0 F0 (compareOp .NotEq) y z μ Q := bo_sem fun Hb H v w pins s σ u1 u2 k sv sw c I r1 r2 => by
  obtain ⟨as, q1⟩ := ls_reads I h1 d1 n1 sv c r1
  obtain ⟨bs, q2⟩ := ls_reads I h2 d2 n2 sw c r2
  exact SeqAt.compareNe_shaped q1 q2 s1 s2 hu (ep_d I (v := .bl _) rfl k (.bl _) c q)
theorem bo_eqL {y z : Sl} {xs ys : List Sl} {ds es : List PyData} (h1 : LsA μ y xs) (h2 : LsA μ z ys) (d1 : datas xs = some ds) (d2 : datas ys = some es) (n1 : PyData.hasDictAll ds = false) (n2 : PyData.hasDictAll es = false) (s1 : SeqAt.shaped (.list ds) = true) (s2 : SeqAt.shaped (.list es) = true)
    (hu : X.A.units + 64 < cLine) (q : Q (.d (.bool (PyData.eqv (.list ds) (.list es)))) μ) : BO X H0 F0 (compareOp .Eq) y z μ Q := bo_sem fun Hb H v w pins s σ u1 u2 k sv sw c I r1 r2 => by
  obtain ⟨as, q1⟩ := ls_reads I h1 d1 n1 sv c r1
  obtain ⟨bs, q2⟩ := ls_reads I h2 d2 n2 sw c r2
  exact SeqAt.compareEq_shaped q1 q2 s1 s2 hu (ep_d I (v := .bl _) rfl k (.bl _) c q)
end
/-! ### ints -/
theorem canLay_ints : ∀ ns : List Int, PyData.canLayAll0 (ns.map PyData.int) = true
  | [] => rfl
  | n :: r => by simp only [List.map_cons, PyData.canLayAll0, PyData.canLay0, canLay_ints r, Bool.and_self]
theorem depth_ints : ∀ ns : List Int, PyData.depthAll (ns.map PyData.int) = 0
  | [] => rfl
  | n :: r => by simp only [List.map_cons, PyData.depthAll, PyData.depth, depth_ints r, Nat.max_self]
theorem noDict_ints : ∀ ns : List Int, PyData.hasDictAll (ns.map PyData.int) = false
  | [] => rfl
  | n :: r => by simp only [List.map_cons, PyData.hasDictAll, PyData.hasDict, noDict_ints r, Bool.or_self]
theorem shaped_listI (ns : List Int) : SeqAt.shaped (.list (ns.map PyData.int)) = true := by
  unfold SeqAt.shaped
  simp only [PyData.canLay0, canLay_ints, PyData.depth, depth_ints, Bool.true_and]
  exact decide_eq_true (by omega)
theorem datas_ints : ∀ ns : List Int, datas (ns.map fun n => Sl.d (.int n)) = some (ns.map PyData.int)
  | [] => rfl
  | n :: r => by simp only [List.map_cons, datas, datas_ints r, Option.map_some]
theorem datas_d : ∀ ds : List PyData, datas (ds.map Sl.d) = some ds
  | [] => rfl
  | n :: r => by simp only [List.map_cons, datas, datas_d r, Option.map_some]
/-- is a list empty -/
theorem eqv_nil (ds : List PyData) : PyData.eqv (.list ds) (.list []) = ds.isEmpty := by
  cases ds with
  | nil => rfl
  | cons d r => rfl
/-! ### what repr needs -/
/-- d can be shown: in at most n marks, k deep -/
structure Rok (d : PyData) (n k : Nat) : Prop where
  sh : d.showable = true
  nd : d.hasDict = false
  ln : d.shown.length ≤ n
  dp : d.depth ≤ k
structure RokA (ds : List PyData) (n k : Nat) : Prop where
  sh : PyData.showableAll ds = true
  nd : PyData.hasDictAll ds = false
  ln : ((PyData.shownAll ds).map fun t => t.length + 2).sum ≤ n
  dp : PyData.depthAll ds ≤ k
theorem rok_int {i : Int} (h : i.natAbs < 2 ^ 64) : Rok (.int i) 65 0 := by
  have h2 : i.natAbs.log2 < 64 := by
    by_cases z : i.natAbs = 0
    · rw [z]; decide
    · exact (Nat.log2_lt z).mpr h
  refine ⟨?_, rfl, ?_, Nat.le_refl _⟩
  · simp only [PyData.showable]
    exact decide_eq_true (by omega)
  · have := PySem.int_text_length_le (a := i) (k := 64) (by decide) h2
    show (Str.ofString (toString i)).length ≤ 65
    rw [PySem.ofString_length]
    exact this
theorem rok_bool (b : Bool) : Rok (.bool b) 5 0 := by cases b <;> exact ⟨rfl, rfl, by decide, Nat.le_refl _⟩
theorem rok_none : Rok .none 4 0 := ⟨rfl, rfl, by decide, Nat.le_refl _⟩
theorem rokA_nil {k : Nat} : RokA [] 0 k := ⟨rfl, rfl, Nat.le_refl _, Nat.zero_le _⟩
theorem rokA_cons {d : PyData} {ds : List PyData} {n m j k : Nat} (h : Rok d n j) (t : RokA ds m k) (hj : j ≤ k) : RokA (d :: ds) (n + 2 + m) k :=
  ⟨by simp only [PyData.showableAll, h.sh, t.sh, Bool.and_self], by simp only [PyData.hasDictAll, h.nd, t.nd, Bool.or_self], by
    simp only [PyData.shownAll, List.map_cons, List.sum_cons]
    have := h.ln
    have := t.ln
    omega, by
    simp only [PyData.depthAll]
    have := h.dp
    have := t.dp
    omega⟩
theorem rokA_map {α : Type} {f : α → PyData} {n k : Nat} : ∀ {xs : List α}, (∀ x ∈ xs, Rok (f x) n k) → RokA (xs.map f) (xs.length * (n + 2)) k
  | [], _ => ⟨rfl, rfl, Nat.zero_le _, Nat.zero_le _⟩
  | x :: xs, h => by
    have := rokA_cons (h x List.mem_cons_self) (rokA_map fun y m => h y (List.mem_cons_of_mem _ m)) (Nat.le_refl _)
    refine ⟨this.sh, this.nd, Nat.le_trans this.ln ?_, this.dp⟩
    rw [List.length_cons, Nat.succ_mul]
    omega
theorem textFrom_le : ∀ (ts : List Str) (k : Nat) (acc : Str), (textFrom k acc ts).length ≤ acc.length + (ts.map fun t => t.length + 2).sum
  | [], k, acc => Nat.le_refl _
  | t :: r, k, acc => by
    have h := textFrom_le r (k + 1) (acc ++ (if k > 0 then ", " else "" : String) ++ t)
    have e : (acc ++ (if k > 0 then ", " else "" : String) ++ t).length ≤ acc.length + 2 + t.length := by
      rw [strLen_append, strLen_append]
      split
      · exact Nat.le_refl _
      · show acc.length + 0 + t.length ≤ _
        omega
    rw [List.map_cons, List.sum_cons]
    show (textFrom (k + 1) (acc ++ (if k > 0 then ", " else "" : String) ++ t) r).length ≤ _
    omega
theorem listText_le (ts : List Str) : (listText ts).length ≤ 2 + (ts.map fun t => t.length + 2).sum := by
  have h := textFrom_le ts 0 "["
  unfold listText
  rw [strLen_append]
  have e1 : (("[" : String) : Str).length = 1 := rfl
  have e2 : (("]" : String) : Str).length = 1 := rfl
  omega
theorem piled_sum : ∀ ts : List Str, piled ts = (ts.map fun t => t.length + 2).sum
  | [] => rfl
  | t :: r => by
    have := piled_sum r
    simp only [piled, List.map_cons, List.sum_cons] at this ⊢
    try omega
theorem tupleText_le (ts : List Str) : (tupleText ts).length ≤ 3 + (ts.map fun t => t.length + 2).sum := by
  unfold tupleText
  rw [strLen_append, strLen_append]
  have e1 : (("(" : String) : Str).length = 1 := rfl
  have e2 : (((if ts.length == 1 then ",)" else ")" : String) : Str)).length ≤ 2 := by split <;> decide
  by_cases h : ts = []
  · subst h
    have e3 : (Str.join ", " ([] : List Str)).length = 0 := rfl
    rw [List.map_nil, List.sum_nil]
    omega
  · have h2 := join_length_add ts h
    rw [piled_sum] at h2
    omega
theorem rok_list {ds : List PyData} {n k : Nat} (h : RokA ds n k) : Rok (.list ds) (n + 2) (k + 1) :=
  ⟨by simp only [PyData.showable]; exact h.sh, by simp only [PyData.hasDict]; exact h.nd, by
    simp only [PyData.shown]
    have := listText_le (PyData.shownAll ds)
    have := h.ln
    omega, by simp only [PyData.depth]; exact Nat.succ_le_succ h.dp⟩
theorem rok_tuple {ds : List PyData} {n k : Nat} (h : RokA ds n k) : Rok (.tuple ds) (n + 3) (k + 1) :=
  ⟨by simp only [PyData.showable]; exact h.sh, by simp only [PyData.hasDict]; exact h.nd, by
    simp only [PyData.shown]
    have := tupleText_le (PyData.shownAll ds)
    have := h.ln
    omega, by simp only [PyData.depth]; exact Nat.succ_le_succ h.dp⟩
theorem Rok.up {d : PyData} {n m j k : Nat} (h : Rok d n j) (h1 : n ≤ m) (h2 : j ≤ k) : Rok d m k := ⟨h.sh, h.nd, Nat.le_trans h.ln h1, Nat.le_trans h.dp h2⟩
theorem rok_tupI {ns : List Int} (h : ∀ n ∈ ns, n.natAbs < 2 ^ 64) : Rok (.tuple (ns.map PyData.int)) (ns.length * 67 + 3) 1 := rok_tuple (rokA_map fun n m => rok_int (h n m))
section
variable {X : Cx} {H0 : Hp} {F0 : List Addr} {μ : Mu} {Q : Sl → Mu → Prop} {ds : List PyData} {n k : Nat}
theorem co_reprR (h : Rok (.list ds) n k) (hn : n ≤ 16777216) (hk : k ≤ 60) (hu : X.A.units + 64 < cLine) (hg : X.A.guards = some []) (q : Q (.d (.str (PyData.list ds).shown)) μ) : CO X H0 F0 (.builtin "repr") [.d (.list ds)] μ Q :=
  co_reprL h.sh (by have := h.nd; simp only [PyData.hasDict] at this; exact this) (Nat.le_trans h.ln (by rw [sizeLine_eq]; exact hn)) hg (by have := h.dp; omega) q
theorem co_reprS (h : Rok (.tuple ds) n k) (hn : n ≤ 16777216) (hk : k ≤ 60) (hu : X.A.units + 64 < cLine) (hg : X.A.guards = some []) (q : Q (.d (.str (PyData.tuple ds).shown)) μ) : CO X H0 F0 (.builtin "repr") [.d (.tuple ds)] μ Q :=
  co_reprT h.sh (by have := h.nd; simp only [PyData.hasDict] at this; exact this) (Nat.le_trans h.ln (by rw [sizeLine_eq]; exact hn)) hg (by have := h.dp; omega) q
end
end Nl

/-! Nl, part L: dict displays, built-in names, the drawn numbers' pot. -/
namespace Nl
open PySem PySem.Spec PyProof.Rows L2
theorem bt_len : bootBuiltins "len" = some (.builtin "len") := by decide +kernel
theorem bt_isinstance : bootBuiltins "isinstance" = some (.builtin "isinstance") := by decide +kernel
theorem bt_repr : bootBuiltins "repr" = some (.builtin "repr") := by decide +kernel
theorem bt_min : bootBuiltins "min" = some (.builtin "min") := by decide +kernel
theorem bt_max : bootBuiltins "max" = some (.builtin "max") := by decide +kernel
theorem bt_all : bootBuiltins "all" = some (.builtin "all") := by decide +kernel
theorem bt_any : bootBuiltins "any" = some (.builtin "any") := by decide +kernel
theorem bt_sum : bootBuiltins "sum" = some (.builtin "sum") := by decide +kernel
theorem bt_sorted : bootBuiltins "sorted" = some (.builtin "sorted") := by decide +kernel
theorem bt_abs : bootBuiltins "abs" = some (.builtin "abs") := by decide +kernel
theorem bt_int : bootBuiltins "int" = some (.type "int") := by decide +kernel
theorem bt_bool : bootBuiltins "bool" = some (.type "bool") := by decide +kernel
theorem bt_tuple : bootBuiltins "tuple" = some (.type "tuple") := by decide +kernel
theorem bt_list : bootBuiltins "list" = some (.type "list") := by decide +kernel
theorem bt_set : bootBuiltins "set" = some (.type "set") := by decide +kernel
theorem bt_str : bootBuiltins "str" = some (.type "str") := by decide +kernel
theorem bt_dict : bootBuiltins "dict" = some (.type "dict") := by decide +kernel
/-! ### {k: v, ..} -/
section
variable {κ : Type} [DecidableEq κ]
def mergeS (kvs more : List (κ × Sl)) : List (κ × Sl) := more.foldl (fun acc kv => putS acc kv.1 kv.2) kvs
end
theorem ks_merge {K : PySem.W.Frag} {H : Hp} {more : List (Key × Sl)} {ms : List (Key × V)} (r : KS K H more ms) : ∀ {kvs : List (Key × Sl)} {ws : List (Key × V)}, KS K H kvs ws → KS K H (mergeS kvs more) (mergeK ws ms) := by
  induction r with
  | nil => intro kvs ws h; exact h
  | @cons a b as bs r t ih =>
    intro kvs ws h
    obtain ⟨k, v⟩ := b
    obtain ⟨k', y⟩ := a
    obtain ⟨r1, r2⟩ := r
    have r1' : k' = k := r1
    subst r1'
    exact ih (KS.put h k' r2)
section
variable {X : Cx} {H0 : Hp} {F : List Addr} {ρ : List Sl} {μ μ' : Mu} {k v : Expr} {ks : List (Option Expr)} {vs : List Expr} {pos : Pos} {Q : Sl → Mu → Prop} {QP : List (Key × Sl) → Mu → Prop}
def wps (X : Cx) : List (Option Expr) → List Expr → List (TE × TE)
  | some k :: ks, v :: vs => (fun σ H Q => WE X k σ H Q, fun σ H Q => WE X v σ H Q) :: wps X ks vs
  | _, _ => []
def GPs (X : Cx) (H0 : Hp) (F : List Addr) (pos : Pos) (ks : List (Option Expr)) (vs : List Expr) (ρ : List Sl) (μ : Mu) (QP : List (Key × Sl) → Mu → Prop) : Prop := PPs X pos ks vs (wps X ks vs) ∧ ∀ Hb σ H, Ke Hb H → Sls X.K H ρ σ → Cs X.K H0 F μ H →
  ∀ QV : List (V × V) → Hp → Prop, (∀ kvs ws m H', Ke Hb H' → KS X.K H' kvs ws → Cs X.K H0 F m H' → QP kvs m → QV (ws.map fun kv => (kV kv.1, kv.2)) H') → tPairs (wps X ks vs) σ H QV
theorem gp_nil (q : QP [] μ) : GPs X H0 F pos [] [] ρ μ QP := ⟨pps_nil, fun Hb σ H k s c QV f => f [] [] μ H k .nil c q⟩
theorem gp_cons (h : GE X H0 F k ρ μ fun x m1 => ∃ d ky, x = .d d ∧ keyD d = some ky ∧ GE X H0 F v ρ m1 fun y m2 => GPs X H0 F pos ks vs ρ m2 fun kvs m3 => QP ((ky, y) :: kvs) m3) (hp : PPs X pos ks vs (wps X ks vs)) : GPs X H0 F pos (some k :: ks) (v :: vs) ρ μ QP :=
  ⟨pps_cons we_pe we_pe hp, fun Hb σ H kb s c QV f => h.run s c fun w H1 x m1 k1 sv c1 ⟨d, ky, ex, hk, q1⟩ => q1.run (s.keep k1) c1 fun w2 H2 y m2 k2 sw c2 q2 => q2.2 H2 σ H2 .refl (s.keep (k1.trans k2)) c2 _ fun kvs ws m H' k3 hv c3 q3 => by
    subst ex
    have ew : w = kV ky := keyD_fz hk sv
    subst ew
    exact f ((ky, y) :: kvs) ((ky, w2) :: ws) m H' (((kb.trans k1).trans k2).trans k3) (.cons ⟨rfl, sw.keep k3⟩ hv) c3 q3⟩
theorem wps_ok : ∀ (ks : List Expr) (vs : List Expr), ks.length = vs.length → PPs X pos (ks.map some) vs (wps X (ks.map some) vs)
  | [], [], _ => pps_nil
  | [], _ :: _, h => by simp at h
  | _ :: _, [], h => by simp at h
  | k :: ks, v :: vs, h => pps_cons we_pe we_pe (wps_ok ks vs (by simpa using h))
/-- {k: v, ..}, keys ints and texts -/
theorem ge_disp (h : ∀ p, GPs X H0 F pos ks vs ρ ((p, .dK []) :: μ) fun kvs m => kvs.length ≤ 15 ∧ ∃ out m3, mergeS [] kvs = out ∧ At m p (.dK []) ∧ Put m p (.dK out) m3 ∧ Q (.a p) m3) (hp : PPs X pos ks vs (wps X ks vs)) (hall : ks.all (·.isSome) = true := by rfl) (hl : ks.length = vs.length := by rfl) (h0 : ks ≠ [] := by exact fun z => nomatch z)
    (h15 : ks.length ≤ 15 := by exact Nat.le_of_ble_eq_true rfl) : GE X H0 F (.Dict ks vs pos) ρ μ Q := ge_of (pe_disp hp hall hl h0 h15) fun σ H s c p n => by
  have k0 : Ke H (upd H p (.dK [])) := Ke.new n
  refine (h p).2 H σ _ k0 (s.keep k0) (c.new (c := .dK []) n ⟨[], upd_same, .nil⟩) _ fun kvs ws m H' k hv c' ⟨h15, out, m3, eo, ha, hput, q⟩ => ?_
  obtain ⟨w0, hp2, hw⟩ := (show ∃ ws, H' p = some (.dK ws) ∧ KS X.K H' [] ws from c'.cl _ ha.mem)
  cases hw
  have k3 : Ke H' (upd H' p (.dK (mergeK [] ws))) := Ke.put (by rw [hp2]; exact True.intro)
  refine ⟨hp2, ws, rfl, by rw [← Paired.length hv]; exact h15, pq_a (k.trans k3) (c'.put hput ⟨_, upd_same, ?_⟩) q⟩
  rw [← eo]
  exact ks_merge (KS.keep hv k3) .nil
end
/-! ### side goals -/
theorem nd_int (i : Int) : (PyData.int i).hasDict = false := rfl
end Nl

/-! Nl, part M: rows of ints, dicts of words seen, the pot of drawn numbers. -/
namespace Nl
open PySem PySem.Spec PyProof.Rows L2
/-! ### slices -/
theorem cutL_from {α : Type} (xs : List α) {i : Int} (n : Nat) (e : i = n) : cutL xs (some i) none = xs.drop n := by
  subst e
  unfold cutL
  rw [HT.sIx_nat, HT.sIx_none, List.take_of_length_le (by rw [List.length_drop]; omega)]
  by_cases h : n ≤ xs.length
  · rw [Nat.min_eq_left h]
  · rw [Nat.min_eq_right (by omega), List.drop_length, List.drop_of_length_le (by omega)]
theorem cutL_to {α : Type} (xs : List α) {i : Int} (n : Nat) (e : i = n) : cutL xs none (some i) = xs.take n := by
  subst e
  unfold cutL
  rw [HT.sIx_nat, HT.sIx_none, List.drop_zero, Nat.sub_zero]
  by_cases h : n ≤ xs.length
  · rw [Nat.min_eq_left h]
  · rw [Nat.min_eq_right (by omega), List.take_length, List.take_of_length_le (by omega)]
theorem cutL_mid {α : Type} (xs : List α) {i j : Int} (n m : Nat) (e : i = n) (e2 : j = m) : cutL xs (some i) (some j) = (xs.drop n).take (m - n) := by
  subst e e2
  unfold cutL
  rw [HT.sIx_nat, HT.sIx_nat]
  by_cases h : n ≤ xs.length
  · rw [show min n xs.length = n by omega]
    by_cases h2 : m ≤ xs.length
    · rw [show min m xs.length = m by omega]
    · rw [show min m xs.length = xs.length by omega]
      rw [List.take_of_length_le (by rw [List.length_drop]; omega), List.take_of_length_le (by rw [List.length_drop]; omega)]
  · rw [show min n xs.length = xs.length by omega, List.drop_length, List.drop_of_length_le (by omega), List.take_nil, List.take_nil]
theorem cutL_init {α : Type} (xs : List α) : cutL xs none (some (-1)) = xs.dropLast := by
  unfold cutL
  rw [HT.sIx_none, List.drop_zero, Nat.sub_zero, List.dropLast_eq_take]
  have e : HT.sIx xs.length xs.length (some (-1)) = xs.length - 1 := by
    show (if (-1 : Int) < 0 then ((-1 : Int) + (xs.length : Int)).toNat else min (-1 : Int).toNat xs.length) = _
    rw [if_pos (by decide)]
    omega
  rw [e]
theorem cutL_map {α β : Type} (f : α → β) (xs : List α) (lo hi : Option Int) : cutL (xs.map f) lo hi = (cutL xs lo hi).map f := by
  unfold cutL
  rw [List.length_map, List.map_take, List.map_drop]
theorem atI_at {α : Type} {xs : List α} {i : Int} {v : α} (j : Nat) (h : xs[j]? = some v) (e : i = j) : atI xs i = some v := by subst e; exact atI_nat h
theorem atI_neg1 {α : Type} {xs : List α} {v : α} (h : xs.getLast? = some v) : atI xs (-1) = some v := by
  obtain ⟨ys, rfl⟩ : ∃ ys, xs = ys ++ [v] := by
    cases xs with
    | nil => simp at h
    | cons a r =>
      rw [List.getLast?_eq_getLast (List.cons_ne_nil a r)] at h
      exact ⟨(a :: r).dropLast, by rw [← Option.some.inj h]; exact (List.dropLast_concat_getLast _).symm⟩
  exact atI_last ys v
abbrev dT (ns : List Int) : PyData := .tuple (ns.map PyData.int)
abbrev dLs (ns : List Int) : PyData := .list (ns.map PyData.int)
section
variable {X : Cx} {H0 : Hp} {F : List Addr} {ρ : List Sl} {μ μ' : Mu} {Q : Sl → Mu → Prop} {ns ms out : List Int} {i j : Int} {lo hi : Option Int}
theorem so_tI (out : List Int) (h : cutL ns lo hi = out) (q : Q (.d (dT out)) μ) : SO X H0 F (.d (dT ns)) lo hi μ Q := so_tup (by rw [cutL_map, h]; exact q)
theorem bo_catI (h : ns.length + ms.length ≤ 16777216) (q : Q (.d (dT (ns ++ ms))) μ) : BO X H0 F (binaryOp .Add) (.d (dT ns)) (.d (dT ms)) μ Q := bo_catT (by rw [List.length_map, List.length_map, sizeLine_eq]; exact h) (by rw [← List.map_append]; exact q)
theorem bo_repI (h1 : -(2 ^ 63) ≤ i) (h2 : i < 2 ^ 63) (h : ns.length * i.toNat ≤ 1000000) (q : Q (.d (dT (List.replicate i.toNat ns).flatten)) μ) : BO X H0 F (binaryOp .Mult) (.d (dT ns)) (.d (.int i)) μ Q := bo_repT h1 h2 (by rw [List.length_map]; exact h) (by
  have e : (List.replicate i.toNat (ns.map PyData.int)).flatten = ((List.replicate i.toNat ns).flatten).map PyData.int := by rw [List.map_flatten, List.map_replicate]
  rw [e]; exact q)
theorem io_tI {v : Int} (h : atI ns i = some v) (q : Q (.d (.int v)) μ) : IO X H0 F (.d (dT ns)) (.d (.int i)) μ Q := io_tup (d := .int v) (by
  unfold atI at h ⊢
  rw [List.length_map]
  cases e : ixN ns.length i with
  | none => rw [e] at h; cases h
  | some k =>
    rw [e] at h
    have h2 : ns[k]? = some v := h
    show (ns.map PyData.int)[k]? = _
    rw [List.getElem?_map, h2]; rfl) q
theorem io_lI {v : Int} (h : atI ns i = some v) (q : Q (.d (.int v)) μ) : IO X H0 F (.d (dLs ns)) (.d (.int i)) μ Q := io_lst (d := .int v) (by
  unfold atI at h ⊢
  rw [List.length_map]
  cases e : ixN ns.length i with
  | none => rw [e] at h; cases h
  | some k =>
    rw [e] at h
    have h2 : ns[k]? = some v := h
    show (ns.map PyData.int)[k]? = _
    rw [List.getElem?_map, h2]; rfl) q
theorem bo_mulS (h : CMul i j) (q : Q (.d (.int (i * j))) μ) : BO X H0 F (binaryOp .Mult) (.d (.int i)) (.d (.int j)) μ Q := ⟨_, op_mul, fun Hb H v w k sv sw c => ⟨i, j, Fz.int_inv sv, Fz.int_inv sw, h, pq_d k (.int _) c q⟩⟩
open PySem.W in
theorem bo_ltI (hu : X.A.units + 64 < cLine) (q : Q (.d (.bool (listLt ns ms))) μ) : BO X H0 F (compareOp .Lt) (.d (dT ns)) (.d (dT ms)) μ Q := bo_ltT (s := Tup.mk ns) (t := Tup.mk ms) (by show X.A.units + (0 + 1) < cLine; omega) q
open PySem.W in
theorem bo_leI (hu : X.A.units + 64 < cLine) (q : Q (.d (.bool (!listLt ms ns))) μ) : BO X H0 F (compareOp .LtE) (.d (dT ns)) (.d (dT ms)) μ Q := bo_leT (s := Tup.mk ns) (t := Tup.mk ms) (by show X.A.units + (0 + 1) < cLine; omega) q
open PySem.W in
theorem bo_eqTI (hu : X.A.units + 64 < cLine) (q : Q (.d (.bool (decide (ns = ms)))) μ) : BO X H0 F (compareOp .Eq) (.d (dT ns)) (.d (dT ms)) μ Q := bo_eqT (s := Tup.mk ns) (t := Tup.mk ms) (by show X.A.units + (0 + 1) < cLine; omega) (by
  rw [show decide (Tup.mk ns = Tup.mk ms) = decide (ns = ms) from decide_eq_decide.mpr ⟨fun e => by cases e; rfl, fun e => by rw [e]⟩]; exact q)
open PySem.W in
theorem bo_neTI (hu : X.A.units + 64 < cLine) (q : Q (.d (.bool (decide (ns ≠ ms)))) μ) : BO X H0 F (compareOp .NotEq) (.d (dT ns)) (.d (dT ms)) μ Q := bo_neT (s := Tup.mk ns) (t := Tup.mk ms) (by show X.A.units + (0 + 1) < cLine; omega) (by
  rw [show decide (Tup.mk ns ≠ Tup.mk ms) = decide (ns ≠ ms) from decide_eq_decide.mpr ⟨fun e z => e (by rw [z]), fun e z => e (by cases z; rfl)⟩]; exact q)
/-- a list of ints against [] -/
theorem bo_ne0 {x : Sl} {xs : List Sl} {ds : List PyData} (ha : LsA μ x xs) (hd : datas xs = some ds) (nd : PyData.hasDictAll ds = false) (sh : SeqAt.shaped (.list ds) = true) (hu : X.A.units + 64 < cLine) (q : Q (.d (.bool (!ds.isEmpty))) μ) : BO X H0 F (compareOp .NotEq) x (.d (.list [])) μ Q :=
  bo_neL ha .d hd rfl nd rfl sh rfl hu (by rw [eqv_nil]; exact q)
theorem bo_eq0 {x : Sl} {xs : List Sl} {ds : List PyData} (ha : LsA μ x xs) (hd : datas xs = some ds) (nd : PyData.hasDictAll ds = false) (sh : SeqAt.shaped (.list ds) = true) (hu : X.A.units + 64 < cLine) (q : Q (.d (.bool ds.isEmpty)) μ) : BO X H0 F (compareOp .Eq) x (.d (.list [])) μ Q :=
  bo_eqL ha .d hd rfl nd rfl sh rfl hu (by rw [eqv_nil]; exact q)
theorem co_lenI (q : Q (.d (.int ns.length)) μ) : CO X H0 F (.builtin "len") [.d (dT ns)] μ Q := co_lenT (by rw [List.length_map]; exact q)
theorem co_lenLI (q : Q (.d (.int ns.length)) μ) : CO X H0 F (.builtin "len") [.d (dLs ns)] μ Q := co_lenL .d (by rw [List.length_map, List.length_map]; exact q)
open PySem.W in
theorem co_minI {x : Sl} {w : List Int} {ws : List (List Int)} (ha : LsA μ x ((w :: ws).map fun t => Sl.d (dT t))) (hu : X.A.units + 64 < cLine) (q : ∀ v ∈ w :: ws, Q (.d (dT v)) μ) (hc : X.calm = true := by rfl) : CO X H0 F (.builtin "min") [x] μ Q := by
  refine co_minL (t := Tup.mk w) (ts := ws.map Tup.mk) (by rw [← List.map_cons, List.map_map]; exact ha) (by show X.A.units + 1 + (0 + 1) < cLine; omega) ?_ hc
  have key : ∀ (ts : List (List Int)) (a : List Int), ∃ v ∈ a :: ts, minOf (Tup.mk a) (ts.map Tup.mk) = Tup.mk v := by
    intro ts
    induction ts with
    | nil => intro a; exact ⟨a, List.mem_cons_self, rfl⟩
    | cons b r ih =>
      intro a
      by_cases h : DatumOrd.lt (Tup.mk b) (Tup.mk a) = true
      · obtain ⟨v, m, e⟩ := ih b
        refine ⟨v, List.mem_cons_of_mem _ m, ?_⟩
        rw [← e]
        show List.foldl _ (if DatumOrd.lt (Tup.mk b) (Tup.mk a) = true then Tup.mk b else Tup.mk a) (r.map Tup.mk) = _
        rw [if_pos h]; rfl
      · obtain ⟨v, m, e⟩ := ih a
        refine ⟨v, ?_, ?_⟩
        · rcases List.mem_cons.mp m with z | z
          · rw [z]; exact List.mem_cons_self
          · exact List.mem_cons_of_mem _ (List.mem_cons_of_mem _ z)
        · rw [← e]
          show List.foldl _ (if DatumOrd.lt (Tup.mk b) (Tup.mk a) = true then Tup.mk b else Tup.mk a) (r.map Tup.mk) = _
          rw [if_neg h]; rfl
  obtain ⟨v, m, e⟩ := key ws w
  rw [e]
  exact q v m
end
/-! ### comprehensions over a range -/
def onInt (g : Int → PyData) : PyData → PyData
  | .int i => g i
  | _ => .none
def onIntB (g : Int → Bool) : PyData → Bool
  | .int i => g i
  | _ => false
theorem all_true {α : Type} (xs : List α) : xs.filter (fun _ => true) = xs := List.filter_eq_self.mpr fun _ _ => rfl
/-! ### words seen -/
abbrev wk (w : List Int) : List Key := w.map Sum.inl
def seenD (ws : List (List Int)) : List (List Key × Sl) := ws.map fun w => (wk w, Sl.d (.bool true))
theorem wk_inj {a b : List Int} (h : wk a = wk b) : a = b := by
  induction a generalizing b with
  | nil => cases b with
    | nil => rfl
    | cons _ _ => cases h
  | cons x r ih => cases b with
    | nil => cases h
    | cons y s =>
      simp only [wk, List.map_cons, List.cons.injEq, Sum.inl.injEq] at h
      rw [h.1, ih h.2]
theorem seen_is (ws : List (List Int)) (w : List Int) : (lookS (seenD ws) (wk w)).isSome = decide (w ∈ ws) := by
  induction ws with
  | nil => simp [seenD, lookS]
  | cons a r ih =>
    by_cases h : a = w
    · subst h
      simp [seenD, lookS]
    · have h2 : ¬ wk a = wk w := fun z => h (wk_inj z)
      have e : lookS (seenD (a :: r)) (wk w) = lookS (seenD r) (wk w) := by
        unfold lookS seenD
        rw [List.map_cons, List.find?_cons, decide_eq_false h2]
      rw [e, ih]
      simp [List.mem_cons, Ne.symm h]
theorem seen_put {ws : List (List Int)} {w : List Int} (h : w ∉ ws) : putS (seenD ws) (wk w) (.d (.bool true)) = seenD (ws ++ [w]) := by
  unfold putS
  rw [lookS_any, seen_is, decide_eq_false h, if_neg Bool.false_ne_true]
  simp [seenD]
theorem seen_len (ws : List (List Int)) : (seenD ws).length = ws.length := by simp [seenD]
theorem keysD_wk (ns : List Int) : keysD (ns.map PyData.int) = some (wk ns) := keysD_ints ns
/-! ### the pot of drawn numbers -/
structure PotS where
  gr : List Int
  st : Int
  tn : Int
structure PotOk (n : Nat) (S : PotS) : Prop where
  gr : ∀ c ∈ S.gr, 0 ≤ c ∧ c.natAbs < 2 ^ 1048600
  ln : S.gr.length ≤ 1000
  s0 : 0 ≤ S.st
  s1 : S.st < 4294967296
  t0 : 0 ≤ S.tn
  t1 : S.tn ≤ n
def potC (g : Addr) (S : PotS) : Cl := .dK [(Sum.inr (Str.ofString "great"), .a g), (Sum.inr (Str.ofString "stirred"), .d (.int S.st)), (Sum.inr (Str.ofString "turn"), .d (.int S.tn))]
def potG (S : PotS) : Cl := .lst (S.gr.map fun n => Sl.d (.int n))
abbrev PotM (p g : Addr) (S : PotS) : Mu := [(g, potG S), (p, potC g S)]
theorem k12 : ¬ (Str.ofString "great" = Str.ofString "stirred") := by decide +kernel
theorem k13 : ¬ (Str.ofString "great" = Str.ofString "turn") := by decide +kernel
theorem k23 : ¬ (Str.ofString "stirred" = Str.ofString "turn") := by decide +kernel
theorem look_gr (x y z : Sl) : lookS [((Sum.inr (Str.ofString "great") : Key), x), (Sum.inr (Str.ofString "stirred"), y), (Sum.inr (Str.ofString "turn"), z)] (Sum.inr (Str.ofString "great")) = some x := by simp [lookS]
theorem look_st (x y z : Sl) : lookS [((Sum.inr (Str.ofString "great") : Key), x), (Sum.inr (Str.ofString "stirred"), y), (Sum.inr (Str.ofString "turn"), z)] (Sum.inr (Str.ofString "stirred")) = some y := by simp [lookS, k12]
theorem look_tn (x y z : Sl) : lookS [((Sum.inr (Str.ofString "great") : Key), x), (Sum.inr (Str.ofString "stirred"), y), (Sum.inr (Str.ofString "turn"), z)] (Sum.inr (Str.ofString "turn")) = some z := by simp [lookS, k13, k23]
theorem put_st (x y z v : Sl) : putS [((Sum.inr (Str.ofString "great") : Key), x), (Sum.inr (Str.ofString "stirred"), y), (Sum.inr (Str.ofString "turn"), z)] (Sum.inr (Str.ofString "stirred")) v = [(Sum.inr (Str.ofString "great"), x), (Sum.inr (Str.ofString "stirred"), v), (Sum.inr (Str.ofString "turn"), z)] := by simp [putS, k12, Ne.symm k23]
theorem put_tn (x y z v : Sl) : putS [((Sum.inr (Str.ofString "great") : Key), x), (Sum.inr (Str.ofString "stirred"), y), (Sum.inr (Str.ofString "turn"), z)] (Sum.inr (Str.ofString "turn")) v = [(Sum.inr (Str.ofString "great"), x), (Sum.inr (Str.ofString "stirred"), y), (Sum.inr (Str.ofString "turn"), v)] := by simp [putS, k13, k23]
theorem merge_pot (x y z : Sl) : mergeS [] [((Sum.inr (Str.ofString "great") : Key), x), (Sum.inr (Str.ofString "stirred"), y), (Sum.inr (Str.ofString "turn"), z)] = [(Sum.inr (Str.ofString "great"), x), (Sum.inr (Str.ofString "stirred"), y), (Sum.inr (Str.ofString "turn"), z)] := by simp [mergeS, putS, k12, k13, k23]
theorem cdiv {i j : Int} (h0 : 0 < j) (h : j < 2 ^ 60) : CDivW i j := wide_div (b := 60) h0 (by omega) (by decide) (by decide)
section
variable {X : Cx} {H0 : Hp} {F : List Addr} {ρ : List Sl} {μ μ' : Mu} {a b e tg iter : Expr} {pos : Pos} {Q : Sl → Mu → Prop} {QD : List PyData → Mu → Prop} {p : Addr} {i : Int}
theorem dp_Ke {kvs out : List (Key × Sl)} {d : PyData} {ky : Key} {z : Sl} {k : Mu → Prop} (ha : At μ p (.dK kvs)) (hk : keyD d = some ky) (he : putS kvs ky z = out) (hz : kvs.length < sizeLine) (hp : Put μ p (.dK out) μ') (q : k μ') : DP X H0 F (.a p) (.d d) z μ k := dp_K ha hk hz (he ▸ hp) q
theorem dp_Te {kvs out : List (List Key × Sl)} {ds : List PyData} {ks : List Key} {z : Sl} {k : Mu → Prop} (ha : At μ p (.dT kvs)) (hk : keysD ds = some ks) (he : putS kvs ks z = out) (hz : kvs.length < sizeLine) (hp : Put μ p (.dT out) μ') (q : k μ') : DP X H0 F (.a p) (.d (.tuple ds)) z μ k := dp_T ha hk hz (he ▸ hp) q
/-- the words seen -/
theorem bo_inSeen {ws : List (List Int)} {w : List Int} (hu : X.A.units + 1 < cLine) (ha : At μ p (.dT (seenD ws))) (q : Q (.d (.bool (decide (w ∈ ws)))) μ) : BO X H0 F (compareOp .In) (.d (dT w)) (.a p) μ Q := bo_inT hu ha (keysD_wk w) (by rw [seen_is]; exact q)
theorem bo_notInSeen {ws : List (List Int)} {w : List Int} (hu : X.A.units + 1 < cLine) (ha : At μ p (.dT (seenD ws))) (q : Q (.d (.bool (!decide (w ∈ ws)))) μ) : BO X H0 F (compareOp .NotIn) (.d (dT w)) (.a p) μ Q := bo_notInT hu ha (keysD_wk w) (by rw [seen_is]; exact q)
theorem dp_seen {ws : List (List Int)} {w : List Int} {k : Mu → Prop} (ha : At μ p (.dT (seenD ws))) (hn : w ∉ ws) (hz : ws.length < 16777216) (hp : Put μ p (.dT (seenD (ws ++ [w]))) μ') (q : k μ') : DP X H0 F (.a p) (.d (dT w)) (.d (.bool true)) μ k :=
  dp_Te ha (keysD_wk w) (seen_put hn) (by rw [seen_len, sizeLine_eq]; exact hz) hp q
/-! ### ints walked -/
def rangeI (lo : Int) (n : Nat) : List Int := (List.range n).map fun i => lo + (i : Nat)
theorem rangeD_I (lo : Int) (n : Nat) : rangeD lo n = (rangeI lo n).map PyData.int := by unfold rangeD rangeI; rw [List.map_map]; rfl
theorem rangeI_len (lo : Int) (n : Nat) : (rangeI lo n).length = n := by unfold rangeI; rw [List.length_map, List.length_range]
theorem rangeI_at {lo : Int} {n j : Nat} {c : Int} (h : (rangeI lo n)[j]? = some c) : j < n ∧ c = lo + (j : Nat) := by
  unfold rangeI at h
  rw [List.getElem?_map] at h
  by_cases hj : j < n
  · rw [List.getElem?_range hj] at h
    exact ⟨hj, (Option.some.inj h).symm⟩
  · rw [List.getElem?_eq_none (by rw [List.length_range]; omega)] at h
    cases h
theorem gi_rng1 {p : Pos} (h : GE X H0 F a ρ μ (onI fun n m => n < 2 ^ 62 ∧ -(2 ^ 62) ≤ n ∧ QD ((rangeI 0 n.toNat).map PyData.int) m)) (hm : X.mg "range" = none) (hg : Gl X "range" := by rfl) (hs : starEach [a] X.env = [(false, eval a X.env)] := by rfl) : GI X H0 F tg (.Call (.Name "range" p) [a] [] pos) ρ μ QD :=
  gi_range1 (GE.mono h fun x m q => match x, q with | .d (.int n), ⟨q1, q2, q⟩ => ⟨q1, q2, by rw [rangeD_I]; exact q⟩) hm hg hs
theorem gi_rng2 {p : Pos} (h : GE X H0 F a ρ μ (onI fun l m => GE X H0 F b ρ m (onI fun n m' => (-(2 ^ 62) ≤ l ∧ l < 2 ^ 62 ∧ -(2 ^ 62) ≤ n ∧ n < 2 ^ 62) ∧ QD ((rangeI l (n - l).toNat).map PyData.int) m'))) (hm : X.mg "range" = none) (hg : Gl X "range" := by rfl)
    (hs : starEach [a, b] X.env = [(false, eval a X.env), (false, eval b X.env)] := by rfl) (hs2 : starEach [b] X.env = [(false, eval b X.env)] := by rfl) : GI X H0 F tg (.Call (.Name "range" p) [a, b] [] pos) ρ μ QD :=
  gi_range2 (GE.mono h fun x m q => match x, q with | .d (.int n), q => GE.mono q fun y m2 q2 => match y, q2 with | .d (.int k), ⟨q3, q4⟩ => ⟨q3, by rw [rangeD_I]; exact q4⟩) hm hg hs hs2
theorem datas_f {α : Type} (f : α → PyData) : ∀ xs : List α, datas (xs.map fun c => Sl.d (f c)) = some (xs.map f)
  | [] => rfl
  | x :: r => by simp only [List.map_cons, datas, datas_f f r, Option.map_some]
/-- a comprehension over ints -/
theorem lc_I {elt : Expr} {ifs : List Expr} {scope : Scope} {vs js : List Nat} {QA : Addr → Mu → Prop} {ns : List Int} {m : Mu} (p : Int → Bool) (f : Int → PyData) (hz : ns.length < sizeLine)
    (turn : ∀ (i : Nat) (c : Int) (m : Mu), ns[i]? = some c → BX X scope fun Y => GG Y H0 F tg js (.d (.int c)) (wipeR ρ vs) m fun ρ2 m2 => m2 = m ∧ BX X scope fun Y => GTs Y H0 F ifs ρ2 m fun b m3 => b = p c ∧ m3 = m ∧ (p c = true → BX X scope fun Y => GE Y H0 F elt ρ2 m fun y m4 => y = .d (f c) ∧ m4 = m))
    (fin : ∀ D, QA D ((D, .lst ((ns.filter p).map fun c => Sl.d (f c))) :: m)) : LcG X H0 F elt tg ifs scope vs js ρ QA (ns.map PyData.int) m :=
  lc_pure (onIntB p) (onInt f) (by rw [List.length_map]; exact hz) (fun i d m hd => by
    rw [List.getElem?_map] at hd
    cases e : ns[i]? with
    | none => rw [e] at hd; cases hd
    | some c =>
      rw [e] at hd
      cases hd
      exact turn i c m e) fun D => by
    have e : (((ns.map PyData.int).filter (onIntB p)).map (onInt f)).map Sl.d = (ns.filter p).map fun c => Sl.d (f c) := by
      rw [List.filter_map, List.map_map, List.map_map]
      rfl
    rw [e]
    exact fin D
theorem co_allF {α : Type} {x : Sl} {xs : List α} {g : α → Bool} (ha : LsA μ x (xs.map fun c => Sl.d (.bool (g c)))) (q : Q (.d (.bool (xs.all g))) μ) (hc : X.calm = true := by rfl) : CO X H0 F (.builtin "all") [x] μ Q :=
  co_all (bs := xs.map g) (by rw [List.map_map]; exact ha) (by
    have e : (xs.map g).all _root_.id = xs.all g := by rw [List.all_map]; rfl
    rw [e]; exact q) hc
theorem co_minF {α : Type} {x : Sl} {xs : List α} {g : α → List Int} (ha : LsA μ x (xs.map fun c => Sl.d (dT (g c)))) (hne : xs ≠ []) (hu : X.A.units + 64 < cLine) (q : ∀ v ∈ xs, Q (.d (dT (g v))) μ) (hc : X.calm = true := by rfl) : CO X H0 F (.builtin "min") [x] μ Q := by
  cases xs with
  | nil => exact absurd rfl hne
  | cons a r => exact co_minI (w := g a) (ws := r.map g) (by rw [← List.map_cons, List.map_map]; exact ha) hu (fun v m => by
      rw [← List.map_cons] at m
      obtain ⟨c, hc, e⟩ := List.mem_map.mp m
      rw [← e]; exact q c hc) hc
theorem so_lI {ns : List Int} {lo hi : Option Int} (out : List Int) (h : cutL ns lo hi = out) (q : ∀ p, Q (.a p) ((p, .lst ((out.map PyData.int).map Sl.d)) :: μ)) : SO X H0 F (.d (dLs ns)) lo hi μ Q := so_lst (by rw [cutL_map, h]; exact q)
end
theorem seq0 {n : Nat} (h : 0 < n) : seqIndex? 0 n = some 0 := by
  unfold seqIndex?
  simp only [show ¬ ((0 : Int) < 0) from by decide, if_false, Int.le_refl, decide_true, Bool.true_and]
  rw [if_pos (by simpa using h)]
  rfl
/-! ### two roads that meet -/
section
variable {X : Cx} {H0 : Hp} {F : List Addr} {ρ : List Sl} {μ : Mu} {st : Stmt} {sts : List Stmt} {E : GEnds} {Q : Sl → Mu → Prop} {ds : List PyData} {n : Nat}
theorem gss_join (J : List Sl → Mu → Prop) (h : GS X H0 F st { E with nx := J } ρ μ) (k : ∀ ρ m, J ρ m → GSs X H0 F sts E ρ m) : GSs X H0 F (st :: sts) E ρ μ :=
  gss_cons fun σ H s c => WS.ends (h σ H s c) (fun σ' H' ⟨k1, ρ', m, s2, c2, q⟩ => ⟨k1, ρ', m, s2, c2, k ρ' m q⟩) (fun _ _ z => z) (fun _ _ z => z) fun _ _ z => z
theorem rk_int {i : Int} {k : Nat} (h : i.natAbs < 2 ^ 64) : Rok (.int i) 65 k := (rok_int h).up (Nat.le_refl _) (Nat.zero_le _)
theorem rk_bool {b : Bool} {k : Nat} : Rok (.bool b) 5 k := (rok_bool b).up (Nat.le_refl _) (Nat.zero_le _)
theorem rk_none {k : Nat} : Rok .none 4 k := rok_none.up (Nat.le_refl _) (Nat.zero_le _)
theorem rk_nil {k : Nat} : RokA [] 0 k := rokA_nil
theorem rk_cons {d : PyData} {n m k : Nat} (h : Rok d n k) (t : RokA ds m k) : RokA (d :: ds) (n + 2 + m) k := rokA_cons h t (Nat.le_refl _)
theorem rk_list {k : Nat} (h : RokA ds n k) : Rok (.list ds) (n + 2) (k + 1) := rok_list h
theorem rk_tuple {k : Nat} (h : RokA ds n k) : Rok (.tuple ds) (n + 3) (k + 1) := rok_tuple h
theorem rk_dT {ns : List Int} {k : Nat} (h : ∀ n ∈ ns, n.natAbs < 2 ^ 64) : Rok (dT ns) (ns.length * 67 + 3) (k + 1) := (rok_tupI h).up (Nat.le_refl _) (by omega)
theorem co_repr9 (h : Rok (.list ds) n 9) (hn : n ≤ 16777216) (hu : X.A.units + 64 < cLine) (hg : X.A.guards = some []) (q : Q (.d (.str (PyData.list ds).shown)) μ) : CO X H0 F (.builtin "repr") [.d (.list ds)] μ Q := co_reprR h hn (by decide) hu hg q
end
/-! ### the first word met again -/
def firstRep (f : Nat → List Int) (many : Nat) : Option Nat := (List.range many).find? fun i => decide (f i ∈ (List.range i).map f)
theorem firstRep_none {f : Nat → List Int} {many : Nat} (h : ∀ i < many, f i ∉ (List.range i).map f) : firstRep f many = none := by
  unfold firstRep
  rw [List.find?_eq_none]
  intro i hi
  simpa using h i (List.mem_range.mp hi)
theorem firstRep_some {f : Nat → List Int} {i : Nat} (h : f i ∈ (List.range i).map f) (hj : ∀ j < i, f j ∉ (List.range j).map f) : ∀ many, i < many → firstRep f many = some i
  | 0, hi => absurd hi (Nat.not_lt_zero _)
  | m + 1, hi => by
    unfold firstRep
    rw [List.range_succ, List.find?_append]
    by_cases z : i < m
    · have := firstRep_some h hj m z
      unfold firstRep at this
      rw [this]; rfl
    · have e : i = m := by omega
      subst e
      have := firstRep_none hj
      unfold firstRep at this
      rw [this, List.find?_cons, decide_eq_true h]; rfl
def optD : Option Nat → PyData
  | none => .none
  | some i => .int (i : Nat)
theorem range_step (f : Nat → List Int) (i : Nat) : (List.range (i + 1)).map f = (List.range i).map f ++ [f i] := by rw [List.range_succ, List.map_append]; rfl
end Nl

/-! Nl, part N: rows backwards, lists grown and joined, values of any shape, their repr. -/
namespace Nl
open PySem PySem.Spec PyProof.Rows L2
/-! ### t[::-1] -/
section
variable {prog : Program} {w : World} {A : Around} {E : Value → Shared → Prop} {s : Shared}
theorem adjust_rev (n : Nat) : Builtin.Slice.sliceAdjust none none (-1) (n : Int) = ((n : Int) - 1, -1) := by
  unfold Builtin.Slice.sliceAdjust
  simp only [show ((-1 : Int) < 0) from by decide, if_true]
theorem places_rev (n : Nat) : Builtin.Slice.slicePlaces ((n : Int) - 1) (-1) (-1) = n := by
  unfold Builtin.Slice.slicePlaces
  simp only [show ¬ ((-1 : Int) > 0) from by decide, if_false]
  rw [show (-(-1 : Int)) = 1 from rfl, Int.ediv_one]
  split <;> omega
theorem sliceApplied_rev {sl : Addr} {n : Nat} {t : Tok} {Q : Int × Int × Nat → Shared → Prop} (hs : s.heap.IsSliceOf sl .none .none (.int (-1) t)) (h : Q ((n : Int) - 1, -1, n) s) :
    wpAny (model prog w) A (Builtin.Slice.sliceApplied (.ref sl) (pure (n : Int))) Q E s := by
  obtain ⟨os, hos, hcs, hds⟩ := id hs
  unfold Builtin.Slice.sliceApplied Builtin.Slice.sliceFields
  refine wpAny_bind (wpAny_bind (wpAny_field hos hds (x := .none) rfl (wpAny_bind (wpAny_field hos hds (x := .none) rfl (wpAny_bind (wpAny_field hos hds (x := .int (-1) t) rfl (wpAny_pure ?_)))))))
  refine wpAny_bind (slicePart_int ?_)
  show wpAny _ _ (if ((-1 : Int) == 0) = true then _ else _) _ _ s
  rw [if_neg (by decide)]
  refine wpAny_bind (slicePart_none (wpAny_bind (slicePart_none (wpAny_bind (wpAny_pure ?_)))))
  show wpAny _ _ (match Builtin.Slice.sliceAdjust none none (-1) (n : Int) with | (lo, hi) => pure (lo, (-1 : Int), Builtin.Slice.slicePlaces lo hi (-1))) _ _ s
  rw [adjust_rev n]
  show wpAny _ _ (pure ((n : Int) - 1, (-1 : Int), Builtin.Slice.slicePlaces ((n : Int) - 1) (-1) (-1))) _ _ s
  rw [places_rev]
  exact wpAny_pure h
theorem filterMap_same {α β : Type} {f g : α → Option β} : ∀ l : List α, (∀ m ∈ l, f m = g m) → l.filterMap f = l.filterMap g
  | [], _ => rfl
  | a :: l, h => by rw [List.filterMap_cons, List.filterMap_cons, h a List.mem_cons_self, filterMap_same l fun m hm => h m (List.mem_cons_of_mem _ hm)]
theorem pick_rev (xs : Array Value) : ((List.range xs.size).filterMap fun (m : Nat) => xs[((((xs.size : Nat) : Int) - 1) + (m : Int) * (-1)).toNat]?).toArray = xs.toList.reverse.toArray := by
  congr 1
  have e : ((List.range xs.size).filterMap fun (m : Nat) => xs[((((xs.size : Nat) : Int) - 1) + (m : Int) * (-1)).toNat]?) = (((List.range xs.size).map fun k => xs.size - 1 - k).filterMap (xs[·]?)) := by
    rw [List.filterMap_map]
    refine filterMap_same _ fun m hm => ?_
    have h := List.mem_range.mp hm
    show xs[((((xs.size : Nat) : Int) - 1) + (m : Int) * (-1)).toNat]? = xs[xs.size - 1 - m]?
    rw [show ((((xs.size : Nat) : Int) - 1) + (m : Int) * (-1)).toNat = xs.size - 1 - m by omega]
  rw [e, PySem.W.krv_range, List.filterMap_reverse, PySem.W.krv_all]
theorem getItem_tuple_rev {t sl : Addr} {items : Array Value} {tk : Tok} {Q : Value → Shared → Prop} (ht : IsTup s.heap t items) (hs : s.heap.IsSliceOf sl .none .none (.int (-1) tk))
    (h : Q (.ref s.heap.objs.size) { s with heap := s.heap.push { cls := .type "tuple", data := .seq items.toList.reverse.toArray } }) (hsz : items.size ≤ sizeLine) : wpAny (model prog w) A (getItem (.ref t) (.ref sl)) Q E s := by
  have htake : sizeOk (.seq items.toList.reverse.toArray) := by
    show items.toList.reverse.toArray.size ≤ sizeLine
    rw [List.size_toArray, List.length_reverse, Array.length_toList]
    exact hsz
  obtain ⟨os, hos, hcs, hds⟩ := id hs
  have hTs : s.TypeIs (.ref sl) "slice" := ⟨os, hos, hcs⟩
  unfold getItem
  try with_reducible refine wpAny_holding ?_
  first | refine wpAny_bind (wpAny_pure ?_) | skip
  refine wpAny_bind (wpAny_sequenceKey ht.typeIs (by decide) ?_)
  refine wpAny_bind (wpAny_callSpecial?_slot (name := Str.ofString "__getitem__") ht.typeIs PyProof.Rows.slot_tuple_getitem
    (wpAny_call_entry PyProof.Rows.slot_tuple_getitem ht.typeIs entry_tuple_getitem ?_ (args_tuple_getitem _ _)))
  show wpAny _ _ (Builtin.Tuple.tupleItemsOf (.ref t) >>= _) _ _ s
  refine wpAny_bind (tupleItemsOf_ ht (wpAny_bind (wpAny_typeOf hTs ?_)))
  rw [if_pos (by decide)]
  refine wpAny_bind (sliceApplied_rev hs ?_)
  show wpAny _ _ (if (((items.size : Nat) : Int) - 1 == 0 && (-1 : Int) == 1 && items.size == items.size) = true then _ else _) _ _ s
  rw [if_neg (by rw [show ((-1 : Int) == 1) = false from rfl, Bool.and_false, Bool.false_and]; exact Bool.false_ne_true), pick_rev]
  first
    | exact wpAny_bind (m := Builtin.Tuple.tupleExact _) (wpAny_newObj_type (wpAny_pure ⟨_, rfl, wpAny_pure h⟩) htake)
    | exact wpAny_bind (m := Builtin.Tuple.tupleExact _) (wpAny_newObj_type (wpAny_bind (wpAny_pure (wpAny_pure ⟨_, rfl, wpAny_pure h⟩))) htake)
    | exact wpAny_bind (wpAny_bind (m := Builtin.Tuple.tupleExact _) (wpAny_newObj_type (wpAny_pure (wpAny_pure ⟨_, rfl, wpAny_pure h⟩)) htake))
    | exact wpAny_bind (wpAny_bind (m := Builtin.Tuple.tupleExact _) (wpAny_newObj_type (wpAny_pure ⟨_, rfl, wpAny_pure h⟩) htake))
end
section
variable {X : Cx} {H0 : Hp} {F : List Addr} {ρ : List Sl} {μ μ' : Mu} {e st : Expr} {pos p2 : Pos} {Q : Sl → Mu → Prop} {ds : List PyData} {p : Addr} {x y : Sl} {xs ys : List Sl}
/-- e[::-1], e a tuple that is data -/
theorem ge_rev (h : GE X H0 F e ρ μ fun x m => ∃ ds, x = .d (.tuple ds) ∧ GE X H0 F st ρ m fun y m2 => y = .d (.int (-1)) ∧ Q (.d (.tuple ds.reverse)) m2) (hs : ∀ v sl, subscripted (.Slice none none (some st) p2) false v sl = operate [v, sl] (getItem v sl) := by intro _ _; with_unfolding_all rfl) :
    GE X H0 F (.Subscript e (.Slice none none (some st) p2) pos) ρ μ Q := fun σ H s c pins s0 I => by
  refine Subscript_ (thn (h σ H s c pins s0 I) fun v s1 ⟨v1, H1, I1, r1, k1, x, m, sx, c1, ds, ex, q1⟩ => ?_)
  subst ex
  refine wpAny_Slice ?_
  rw [evalPart_none, evalPart_some]
  refine wpAny_pure (wpAny_pure (thn (q1 σ H1 (s.keep k1) c1 pins s1 I1) fun vs s2 ⟨w1, H2, I2, r2, k2, y, m2, sy, c2, ey, q2⟩ => ?_))
  subst ey
  obtain ⟨a, ws, rfl, ta, za⟩ := Fz.tuple_inv (Fz.keep k2 sx)
  obtain rfl : v = Value.ref a := r1
  have ew : w1 = V.int (-1) := Fz.int_inv sy
  subst ew
  obtain ⟨tk, rfl⟩ := (show ∃ t, vs = Value.int (-1) t from r2)
  have I4 : Inv X pins σ H2 { s2 with heap := s2.heap.push { cls := .type "slice", data := .fields #[.none, .none, .int (-1) tk] } } := I2.kept (t' := s2.toks) fun b ob q => Heap.get?_push_of_some _ q
  obtain ⟨its, r, ht, hz⟩ := I4.tuple ta
  have hlen : its.toArray.size = ws.length := by rw [List.size_toArray]; exact r.length.symm
  show wpAny (model X.prog X.w) X.A (subscriptTail e (.Slice none none (some st) p2) (.ref a) (.ref s2.heap.objs.size)) (EP X pins σ _) X.xe { s2 with heap := s2.heap.push { cls := .type "slice", data := .fields #[.none, .none, .int (-1) tk] } }
  refine tail_any (ops := [.ref a, .ref s2.heap.objs.size]) ht.typeIs PyProof.Rows.slot_tuple_getitem.lookup (getItem_tuple_rev ht (Heap.IsSliceOf.new ..) ?_ (by rw [hlen]; exact hz)) (hs _ _)
  have hn : H2 (s2.heap.push { cls := .type "slice", data := .fields #[.none, .none, .int (-1) tk] }).objs.size = none := I4.hok.fresh (Nat.le_refl _)
  refine ⟨.ref _, _, I4.laid (t' := s2.toks) (o := .tup ws.reverse) (fun b ob q => Heap.get?_push_of_some _ q) (Nat.le_refl _) ⟨by rw [List.length_reverse]; exact hz, its.reverse, ?_, ?_⟩, rfl, pq_tup (k1.trans k2) hn (pair_reverse za) c2 q2⟩
  · exact pair_reverse r
  · exact IsTup.new _ _
end
end Nl

/-! Nl, part O: lists grown and joined, list(range(n)), values of any shape and their repr. -/
namespace Nl
open PySem PySem.Spec PyProof.Rows L2
/-! ### extend by a tuple -/
theorem extend_tuple (l : Addr) (items : Array Value) (n : Nat) (b : Addr) (items2 : Array Value) (n2 : Nat) (dd : Option Addr) (sl : Array (Option Value)) (h0 : ¬(!items.isEmpty && Builtin.List.listTooLong (items.size + items2.size)) = true) (h1 : items.size ≤ sizeLine) (h2 : items.size + items2.size ≤ sizeLine + 1) :
    Meets (Builtin.«list.extend» ⟨[.ref l, .ref b], []⟩) (fun _ R s => s.heap.get? l = some { cls := .type "list", data := .seq items n } ∧ s.heap.get? b = some { cls := .type "tuple", dict := dd, data := .seq items2 n2, slots := sl } ∧
      R (.ok (.ret Value.none)) { s with heap := s.heap.update l (Obj.mapSeq fun x => x ++ items2), toks := s.toks }) :=
  .of_wp fun prog w A R s h => by
    obtain ⟨hp, g, d, tk, os⟩ := s; obtain ⟨hl, hb, h⟩ := h
    have f1 := AutoSeq1.idx_int; have f2 := AutoSeq1.sub_tuple_tuple; have f3 := AutoSeq1.sub_list_list; have f4 := AutoSeq1.sub_tuple_list; have f5 := AutoSeq1.sub_list_tuple
    have hz' : (items ++ items2).size ≤ sizeLine + 1 := by rw [Array.size_append]; exact h2
    wp_walk using (wpAny_updateSeq hl rfl (hz := h1) (_hz' := hz')), wpAny_loadPart' hl, wpAny_loadPart' hb; exact ⟨_, rfl, h⟩
section
variable {X : Cx} {H0 : Hp} {F : List Addr} {ρ : List Sl} {μ μ' : Mu} {a e : Expr} {pos p1 p2 : Pos} {Q : Sl → Mu → Prop} {ds es : List PyData} {p : Addr} {x y : Sl} {xs ys : List Sl} {i : Int}
theorem mt_extendT : MtM X "list.extend" (fun x vs H Q => ∃ l b xs zs, x = .ref l ∧ vs = [.ref b] ∧ H l = some (.lst xs) ∧ SqT X.K H b zs ∧ xs.length + zs.length ≤ sizeLine ∧ Q .non (upd H l (.lst (xs ++ zs)))) := by
  intro pins s σ H x vs v us Q I rx rv h
  obtain ⟨l, b, xs, zs, rfl, rfl, hH, hB, hz, q⟩ := h
  cases rx
  obtain ⟨u, rfl, ru⟩ := rv.one
  cases ru
  obtain ⟨z, its, n, r, hl, e⟩ := I.lstM hH
  obtain ⟨its2, r2, ⟨⟨cls, dd, dat, sl⟩, ho, hc, n2, hd⟩, _⟩ := I.tuple hB
  simp only at hc hd
  subst hc hd
  have e1 := r.length
  have e2 := r2.length
  have hsz : its.toArray.size + its2.toArray.size ≤ sizeLine := by rw [List.size_toArray, List.size_toArray]; omega
  have hlong : ¬ (!its.toArray.isEmpty && Builtin.List.listTooLong (its.toArray.size + its2.toArray.size)) = true := by
    rw [notLongL hsz, Bool.and_false]
    exact Bool.false_ne_true
  refine call_meets F.slot_list_extend ⟨_, e, rfl⟩ F.entry_list_extend (F.args_list_extend_2 _ _) (extend_tuple l its.toArray n b its2.toArray n2 dd sl hlong (by omega) (by omega)) ⟨e, ho, ?_⟩
  refine ⟨.non, _, I.lset (its' := its ++ its2) hH e (by simp) (r.append r2) ?_, rfl, q⟩
  rw [List.length_append]
  omega
theorem mo_extendT (ha : At μ p (.lst xs)) (hz : xs.length + ds.length ≤ 16777216) (hp : Put μ p (.lst (xs ++ ds.map Sl.d)) μ') (q : Q (.d .none) μ') : MO X H0 F "list.extend" (.a p) [.d (.tuple ds)] μ Q := ⟨_, mt_extendT, fun Hb H v vs k sv ss c => by
  obtain ⟨ws, hw, hv⟩ := (show ∃ vs, H p = some (.lst vs) ∧ Paired (SlV X.K H) xs vs from c.cl _ ha.mem)
  obtain ⟨v2, rfl, s2⟩ := one ss
  obtain ⟨b, zs, rfl, hb, hzs⟩ := Fz.tuple_inv s2
  have k2 : Ke H (upd H p (.lst (ws ++ zs))) := Ke.put (by rw [hw]; exact True.intro)
  exact ⟨p, b, ws, zs, sv, rfl, hw, hb, by rw [← Paired.length hv, Paired.length hzs, sizeLine_eq]; exact hz, pq_d (k.trans k2) .non (c.put hp ⟨_, upd_same, pair_append (Paired.mapP hv fun _ _ z => z.keep k2) (Paired.mapP (slv_of_fz hzs) fun _ _ z => z.keep k2)⟩) q⟩⟩
theorem mo_extendL {p' : Addr} (ha : At μ p (.lst xs)) (hb : At μ p' (.lst ys)) (hz : xs.length + ys.length ≤ 16777216) (hp : Put μ p (.lst (xs ++ ys)) μ') (q : Q (.d .none) μ') : MO X H0 F "list.extend" (.a p) [.a p'] μ Q := ⟨_, mt_extend, fun Hb H v vs k sv ss c => by
  obtain ⟨ws, hw, hv⟩ := (show ∃ vs, H p = some (.lst vs) ∧ Paired (SlV X.K H) xs vs from c.cl _ ha.mem)
  obtain ⟨zs, hw2, hv2⟩ := (show ∃ vs, H p' = some (.lst vs) ∧ Paired (SlV X.K H) ys vs from c.cl _ hb.mem)
  obtain ⟨v2, rfl, s2⟩ := one ss
  obtain rfl : v2 = .ref p' := s2
  have k2 : Ke H (upd H p (.lst (ws ++ zs))) := Ke.put (by rw [hw]; exact True.intro)
  exact ⟨p, p', ws, zs, sv, rfl, hw, hw2, by rw [← Paired.length hv, ← Paired.length hv2, sizeLine_eq]; exact hz, pq_d (k.trans k2) .non (c.put hp ⟨_, upd_same, pair_append (Paired.mapP hv fun _ _ z => z.keep k2) (Paired.mapP hv2 fun _ _ z => z.keep k2)⟩) q⟩⟩
/-! ### lists joined and repeated -/
theorem LsA.ls {H : Hp} {v : V} (h : LsA μ x xs) (sv : SlV X.K H x v) (c : Cs X.K H0 F μ H) : ∃ a vs, v = .ref a ∧ LsO X.K H a vs ∧ Paired (SlV X.K H) xs vs := by
  cases h with
  | c ha =>
    obtain ⟨ws, hp, hv⟩ := (show ∃ vs, H _ = some (.lst vs) ∧ Paired (SlV X.K H) xs vs from c.cl _ ha.mem)
    exact ⟨_, ws, sv, .inr hp, hv⟩
  | d =>
    obtain ⟨a, vs, rfl, ta, za⟩ := Fz.list_inv sv
    exact ⟨a, vs, rfl, .inl ta, slv_of_fz za⟩
theorem bo_catL (h1 : LsA μ x xs) (h2 : LsA μ y ys) (hz : xs.length + ys.length ≤ 16777216) (q : ∀ p, Q (.a p) ((p, .lst (xs ++ ys)) :: μ)) : BO X H0 F (binaryOp .Add) x y μ Q := ⟨_, op_catX, fun Hb H v w k sv sw c => by
  obtain ⟨a, vs, rfl, ha, hv⟩ := h1.ls sv c
  obtain ⟨b, ws, rfl, hb, hw⟩ := h2.ls sw c
  exact ⟨a, b, vs, ws, rfl, rfl, ha, hb, by rw [← Paired.length hv, ← Paired.length hw, sizeLine_eq]; exact hz, fun p n => pq_cell k n (pair_append hv hw) c q⟩⟩
theorem bo_repL (h1 : LsA μ x xs) (hi0 : -(2 ^ 63) ≤ i) (hi1 : i < 2 ^ 63) (hz : xs.length * i.toNat ≤ 1000000) (q : ∀ p, Q (.a p) ((p, .lst (List.replicate i.toNat xs).flatten) :: μ)) : BO X H0 F (binaryOp .Mult) x (.d (.int i)) μ Q := ⟨_, op_repX, fun Hb H v w k sv sw c => by
  obtain ⟨a, vs, rfl, ha, hv⟩ := h1.ls sv c
  exact ⟨a, i, vs, rfl, Fz.int_inv sw, ha, hi0, hi1, by rw [← Paired.length hv, sizeLine_eq]; omega, fun p n => pq_cell k n (pair_flat_rep hv _) c q⟩⟩
/-! ### list(range(n)) -/
theorem cr_range1 : CallR X (.type "range") (fun vs H Q => ∃ i, vs = [V.int i] ∧ ∀ p, H p = none → Q (.ref p) (upd H p (.rng 0 i))) := by
  intro pins s σ H vs us Q I r h
  obtain ⟨i, rfl, q⟩ := h
  obtain ⟨u1, rfl, ri⟩ := vals_1 r
  obtain ⟨t, rfl⟩ := ri
  refine call_range_1 ⟨.ref s.heap.objs.size, upd H s.heap.objs.size (.rng 0 i), I.laid (t' := s.toks + 1 + 1) (fun b o e => Heap.get?_push_of_some _ e) (Nat.le_refl _) ?_, rfl, q _ (I.hok.fresh (Nat.le_refl _))⟩
  exact ⟨s.toks, t, s.toks + 1, Heap.get?_push_size _ rfl⟩
theorem rangeI_vals {acc : Array Value} {lo : Int} {n : Nat} (h : ItemsOf (fun i v => ∃ t, v = Value.int (lo + i * 1) t) acc n) : Vals ((rangeI lo n).map V.int) acc.toList := by
  obtain ⟨h1, h2⟩ := h
  refine pair_of (by rw [List.length_map, rangeI_len, Array.length_toList, h1]) fun j x u hx hu => ?_
  rw [List.getElem?_map] at hx
  obtain ⟨c, hc, rfl⟩ := Option.map_eq_some_iff.mp hx
  obtain ⟨_, rfl⟩ := rangeI_at hc
  obtain ⟨t, rfl⟩ := h2 j u (by rw [← Array.getElem?_toList]; exact hu)
  exact ⟨t, by rw [Int.mul_one]⟩
theorem rsize (n : Nat) : Builtin.Range.rangeSize 0 (n : Int) 1 = ((n : Nat) : Int) := by
  unfold Builtin.Range.rangeSize
  rw [if_pos (by decide), Int.ediv_one]
  split <;> omega
theorem rsmall (n : Nat) (h : n ≤ 16777216) : Builtin.Range.small 0 (n : Int) 1 = true ∧ Builtin.Range.rangeSize 0 (n : Int) 1 = ((n : Nat) : Int) := by
  constructor
  · have e := rsize n
    unfold Builtin.Range.small
    have fl : ∀ x : Int, 0 ≤ x → x ≤ 16777217 → Builtin.Range.rangeFitsLong x = true := fun x h0 h1 => by
      unfold Builtin.Range.rangeFitsLong
      simp only [Bool.and_eq_true, decide_eq_true_eq]
      omega
    rw [e, fl 0 (by decide) (by decide), fl _ (by omega) (by omega), fl 1 (by decide) (by decide), if_pos (by decide), fl ((n : Int) + (1 - 1)) (by omega) (by omega)]
    simp
  · exact rsize n
theorem ge_listRange {nm1 nm2 : Str} {q1 q2 : Pos} (hm1 : X.mg "list" = none) (hm2 : X.mg "range" = none) (h : GE X H0 F a ρ μ fun x m => ∃ n : Nat, x = .d (.int (n : Nat)) ∧ n ≤ 16777216 ∧ ∀ p, Q (.a p) ((p, .lst ((rangeI 0 n).map fun c => Sl.d (.int c))) :: m)) (hc : X.calm = true := by rfl)
    (hg1 : Gl X "list" := by rfl) (hg2 : Gl X "range" := by rfl) (hs : starEach [a] X.env = (false, eval a X.env) :: starEach [] X.env := by rfl) (hs2 : starEach [.Call (.Name "range" p2) [a] [] q2] X.env = (false, eval (.Call (.Name "range" p2) [a] [] q2) X.env) :: starEach [] X.env := by rfl) :
    GE X H0 F (.Call (.Name "list" p1) [.Call (.Name "range" p2) [a] [] q2] [] q1) ρ μ Q :=
  ge_of (pe_callTy call_rCO hg1 hm1 bt_list (pa_cons (pe_callTy cr_range1 hg2 hm2 (by decide +kernel) (pa_cons we_pe pa_nil hs) (he := hs) (hpl := rfl)) pa_nil hs2) (he := hs2) (hpl := rfl)) fun σ H s c => h.run s c fun v H1 x m k1 sv c1 ⟨n, ex, hn, q⟩ => by
    subst ex
    refine ⟨n, by rw [Fz.int_inv sv], fun r hr pins st σ2 us I rv => ?_⟩
    obtain ⟨u, rfl, ru⟩ := vals_1 rv
    obtain rfl : u = Value.ref r := ru
    have kr : Ke H1 (upd H1 r (.rng 0 n)) := Ke.new hr
    have cr : Cs X.K H0 F m (upd H1 r (.rng 0 n)) := c1.grow fun b o e => by rw [upd_ne (ne_of_none e hr)]; exact e
    obtain ⟨t1, t2, t3, er⟩ := (show ∃ t u v, st.heap.get? r = some { cls := .type "range", data := .fields #[.int 0 t, .int (n : Int) u, .int 1 v] } from I.hok r _ upd_same)
    refine call_list_range (I.ok.hd hc) er (rsmall n hn).1 (rsmall n hn).2 (Nat.le_trans hn (by decide)) fun h' tk acc' c' ex eo it => ?_
    have hv := rangeI_vals it
    have hnn : (upd H1 r (.rng 0 n)) st.heap.objs.size = none := I.hok.fresh (Nat.le_refl _)
    refine ⟨.ref st.heap.objs.size, _, I.laid (t' := tk) (o := .lst ((rangeI 0 n).map V.int)) ex (Nat.le_refl _) ⟨by rw [List.length_map, rangeI_len, sizeLine_eq]; exact hn, acc'.toList, c', hv, by simpa using eo⟩, rfl, pq_cell (k1.trans kr) hnn (xs := (rangeI 0 n).map fun c => Sl.d (.int c)) ?_ cr q⟩
    exact pair_of (by rw [List.length_map, List.length_map]) fun j x v hx hv2 => by
      rw [List.getElem?_map] at hx hv2
      obtain ⟨c, hc, rfl⟩ := Option.map_eq_some_iff.mp hx
      rw [hc] at hv2
      cases hv2
      exact Fz.int c
end
end Nl

/-! Nl, part P: values of any shape. -/
namespace Nl
open PySem PySem.Spec PyProof.Rows L2
section
variable {X : Cx} {pins : List (Addr × Obj)} {σ : L2.St} {H : Hp} {s : Shared}
theorem base_big (I : Inv X pins σ H s) : sysModules < s.heap.objs.size := by
  obtain ⟨o, es, ep, e, _⟩ := I.ok.mod.glob
  have hlt := Heap.lt_size e
  have h2 : X.base.objs.size ≤ s.heap.objs.size := Nat.le_trans I.ok.bsz I.sz
  exact Nat.lt_of_lt_of_le (Nat.lt_of_le_of_lt (show sysModules ≤ mainGlobals by decide) hlt) h2
/-- no dict, or the empty one -/
def Vd (d : PyData) : Prop := d.hasDict = false ∨ d = .dict []
theorem reads_v {v : V} {d : PyData} {u : Value} (I : Inv X pins σ H s) (z : Fz X.K H v d) (h : Vd d) (r : RelV v u) : ∃ as, Reads s.heap u d as ∧ (d.hasDict = true → ∀ a ∈ as, a ≠ sysModules) := by
  rcases h with h | h
  · obtain ⟨as, q⟩ := Fz.reads I z h u r
    exact ⟨as, q, fun e => absurd (h.symm.trans e) Bool.false_ne_true⟩
  · subst h
    cases z with
    | @dct a o kvs _ ha hl _ _ =>
      have ek : kvs = [] := List.length_eq_zero_iff.mp hl
      subst ek
      obtain rfl : u = Value.ref a := r
      obtain ⟨e1, _, hs, vs, hv, o2, es, ep, e2, hx, hd, _, hp, _⟩ := (show s.heap.get? a = some o ∧ ObjOk X.prog X.w H s.heap a (.dK []) from I.hok a _ ha)
      cases hv
      have he : es.toList = [] := by
        cases q : es.toList with
        | nil => rfl
        | cons b bs => rw [q] at hp; exact absurd hp (by intro z; cases z)
      refine ⟨a :: [] ++ [], .dict (kvs := []) e2 hx.1 hd (by rw [he]; exact .nil) (by rw [he]; exact .nil), fun _ b hb z => ?_⟩
      rcases List.mem_cons.mp hb with e | e
      · rw [e] at z
        rw [z] at hs
        exact absurd hs (by decide)
      · cases e
end
/-- what repr([d]) needs -/
structure VOk (d : PyData) : Prop where
  vd : Vd d
  sh : (PyData.list [d]).showable = true
  ln : (PyData.list [d]).shown.length ≤ 16777216
  dp : (PyData.list [d]).depth ≤ 20
theorem vok_rok {d : PyData} {n : Nat} (h : Rok d n 8) (hn : n ≤ 16000000) : VOk d := by
  have r : Rok (.list [d]) (n + 2 + 0 + 2) 9 := rk_list (rk_cons h rk_nil)
  exact ⟨.inl h.nd, r.sh, Nat.le_trans r.ln (by omega), Nat.le_trans r.dp (by decide)⟩
theorem vok_dict : VOk (.dict []) := ⟨.inr rfl, rfl, by decide +kernel, by decide +kernel⟩
section
variable {X : Cx} {H0 : Hp} {F : List Addr} {ρ : List Sl} {μ : Mu} {e : Expr} {p1 p2 p3 : Pos} {Q : Sl → Mu → Prop} {d : PyData} {T : String}
/-- repr([e]) -/
theorem ge_repr1 (hm : X.mg "repr" = none) (hu : X.A.units + 64 < cLine) (hgd : X.A.guards = some []) (h : GE X H0 F e ρ μ fun x m => ∃ d, x = .d d ∧ VOk d ∧ Q (.d (.str (PyData.list [d]).shown)) m) (hgl : Gl X "repr" := by rfl)
    (he : starEach [.List [e] p2] X.env = (false, eval (.List [e] p2) X.env) :: starEach [] X.env := by rfl) (he2 : starEach [e] X.env = (false, eval e X.env) :: starEach [] X.env := by rfl) (hdb : (("repr" : Str) == ("__debug__" : Str)) = false := by decide) (hn : ("repr" : Str) ≠ "__name__" := by decide) :
    GE X H0 F (.Call (.Name "repr" p1) [.List [e] p2] [] p3) ρ μ Q := fun σ H s c pins st I => by
  refine wpAny_Call_Name_kw (ld_blt I hgl hm bt_repr ?_ hn hdb)
  refine PyProof.Rows.callWith_builtin1 ?_ he rfl
  rw [he]
  show wpAny _ _ (spliced ((false, eval (.List [e] p2) X.env) :: backTo p3 (starEach [] X.env))) _ _ st
  refine Calls.spliced_cons (wpAny_List_spliced ?_)
  rw [he2]
  show wpAny _ _ (spliced ((false, eval e X.env) :: backTo p2 (starEach [] X.env))) _ _ st
  refine Calls.spliced_cons (thn (h σ H s c pins st I) fun u s1 ⟨v, H1, I1, r1, k1, x, m, sv, c1, d, ex, hv, q⟩ => Calls.spliced_nil ⟨by rw [sizeLine_eq]; exact Nat.le_of_ble_eq_true rfl, Calls.spliced_nil ?_⟩)
  subst ex
  obtain ⟨as, ra, hno⟩ := reads_v I1 sv hv.vd r1
  have hbig := base_big I1
  have hl : Reads (s1.heap.push { cls := .type "list", data := .seq #[u] }) (.ref s1.heap.objs.size) (.list [d]) (s1.heap.objs.size :: (as ++ [])) :=
    .list (Heap.get?_push_size _ rfl) rfl rfl (.cons (Reads.keeps (fun b o z => Heap.get?_push_of_some _ z) ra) .nil)
  refine PySem.repr_of_reads' hl hv.sh (fun hd hm => ?_) hgd (by have := hv.dp; omega) (fun _ _ z => z) (fun h' w tk ex => ?_) (by rw [sizeLine_eq]; exact hv.ln)
  · rcases List.mem_cons.mp hm with z | z
    · exact absurd z (Nat.ne_of_lt hbig)
    · rw [List.append_nil] at z
      refine hno ?_ _ z rfl
      simpa only [PyData.hasDict, PyData.hasDictAll, Bool.or_false] using hd
  · have J : Inv X pins σ H1 { s1 with heap := h', toks := tk } := I1.kept fun b o z => ex b o (Heap.get?_push_of_some _ z)
    exact ep_d J (v := .str _) ⟨w, rfl⟩ k1 (.str _) c1 q
/-! isinstance of a value of any shape -/
theorem co_isiV {b : Bool} (hv : Vd d) (h : ∀ {s : Shared} {v : Value} {as : List Addr} {Q : Value → Shared → Prop} {E : Value → Shared → Prop}, Reads s.heap v d as → (∀ tk, s.toks ≤ tk → Q (.bool b) { s with toks := tk }) → wpAny (model X.prog X.w) X.A (call (.builtin "isinstance") [v, .type T]) Q E s)
    (q : Q (.d (.bool b)) μ) : CO X H0 F (.builtin "isinstance") [.d d, .w (.ty T)] μ Q := fun Hb H vs us pins s σ k sv c I rv => by
  obtain ⟨v, w, rfl, s1, s2⟩ := two sv
  obtain rfl : w = V.ty T := s2
  obtain ⟨u1, u2, rfl, r1, r2⟩ := vals_2 rv
  obtain rfl : u2 = Value.type T := r2
  obtain ⟨as, ra, _⟩ := reads_v I s1 hv r1
  exact h ra fun tk _ => ep_d (I.tok tk) (v := .bl _) rfl k (.bl _) c q
open PySem.W in
theorem co_isIntV (hv : Vd d) (q : Q (.d (.bool d.isInt)) μ) : CO X H0 F (.builtin "isinstance") [.d d, .w (.ty "int")] μ Q := co_isiV hv (fun r h => isinstance_int_data r h) q
open PySem.W in
theorem co_isBoolV (hv : Vd d) (q : Q (.d (.bool d.isBool)) μ) : CO X H0 F (.builtin "isinstance") [.d d, .w (.ty "bool")] μ Q := co_isiV hv (fun r h => isinstance_bool_data r h) q
open PySem.W in
theorem co_isTupleV (hv : Vd d) (q : Q (.d (.bool d.isTuple)) μ) : CO X H0 F (.builtin "isinstance") [.d d, .w (.ty "tuple")] μ Q := co_isiV hv (fun r h => isinstance_tuple_data r h) q
/-! repr of None, of a text -/
theorem co_reprN (q : Q (.d (.str PyData.none.shown)) μ) : CO X H0 F (.builtin "repr") [.d .none] μ Q := fun Hb H vs us pins s σ k sv c I rv => by
  obtain ⟨v, rfl, s1⟩ := one sv
  obtain ⟨u, rfl, ru⟩ := vals_1 rv
  rw [Fz.none_inv s1] at ru
  obtain rfl : u = Value.none := ru
  exact PySem.P.repr_of_none (ep_d (I.tok _) (v := .str _) ⟨_, rfl⟩ k (.str _) c q)
theorem co_reprT1 {x : Str} (hz : (reprText x).length ≤ 16777216) (q : Q (.d (.str (PyData.str x).shown)) μ) : CO X H0 F (.builtin "repr") [.d (.str x)] μ Q := fun Hb H vs us pins s σ k sv c I rv => by
  obtain ⟨v, rfl, s1⟩ := one sv
  obtain ⟨u, rfl, ru⟩ := vals_1 rv
  rw [Fz.str_inv s1] at ru
  obtain ⟨t, rfl⟩ := (show ∃ t, u = Value.str x t from ru)
  exact PySem.call_repr_gives (typeIs_str s x t) PySem.F.slot_str_repr PySem.F.entry_str_repr (PySem.F.args_str_repr_1 _) (gives_str_repr x t) (ep_d (I.tok _) (v := .str _) ⟨_, rfl⟩ k (.str _) c q) (hx := by rw [sizeLine_eq]; exact hz)
theorem rk_str {x : Str} {k : Nat} : Rok (.str x) (reprText x).length k := ⟨rfl, rfl, Nat.le_refl _, Nat.zero_le _⟩
theorem rk_intW {i : Int} {k : Nat} (h : i.natAbs.log2 < 1920) : Rok (.int i) 1921 k := ⟨by simp only [PyData.showable]; exact decide_eq_true h, rfl, by
  have := PySem.int_text_length_le (a := i) (k := 1920) (by decide) h
  show (Str.ofString (toString i)).length ≤ 1921
  rw [PySem.ofString_length]
  exact this, Nat.zero_le _⟩
/-- {} as data -/
theorem inv_lockD {pins : List (Addr × Obj)} {σ : L2.St} {H : Hp} {s : Shared} {p : Addr} (I : Inv X pins σ H s) (h : H p = some (.dK [])) : ∃ o, Inv X pins σ (upd H p (.frz o (.dK []))) s := by
  have ok := I.hok p _ h
  obtain ⟨_, _, _, _, o, _, _, e, _⟩ := id ok
  exact ⟨o, I.write (h' := s.heap) (t' := s.toks) (x := p) (e := p) (by rw [h]; exact True.intro) (.inl rfl) (fun b u _ q => q) ⟨_, e⟩ ⟨e, ok⟩⟩
theorem ge_dictD (q : Q (.d (.dict [])) μ) : GE X H0 F (.Dict [] [] p1) ρ μ Q := fun σ H s c pins st I =>
  thn (we_of pe_dnewK (σ := σ) (H := H) (Q := fun v H' => ∃ p, v = .ref p ∧ H p = none ∧ H' = upd H p (.dK [])) (fun p n => ⟨p, rfl, n, rfl⟩) pins st I) fun u s1 ⟨v, H1, I1, r, p, ev, n, eH⟩ => by
    subst ev eH
    obtain ⟨o, J⟩ := inv_lockD I1 upd_same
    rw [upd_upd] at J
    have k2 : Ke H (upd H p (.frz o (.dK []))) := Ke.new n
    exact ⟨.ref p, _, J, r, pq_d k2 (.dct upd_same rfl (fun i p d h => by simp at h) (fun i p d h => by simp at h)) (c.grow fun b o e => by rw [upd_ne (ne_of_none e n)]; exact e) q⟩
end
end Nl

/-! Nl, part Q: tests joined, tuples of any data, bent values, faults of rows. -/
namespace Nl
open PySem PySem.Spec PyProof.Rows L2
section
variable {X : Cx} {H0 : Hp} {F : List Addr} {ρ : List Sl} {μ : Mu} {e c : Expr} {R R' : Bool → Mu → Prop} {Q : Sl → Mu → Prop} {ds out : List PyData} {lo hi : Option Int} {x y : Sl} {xs ys : List Sl}
theorem GT.mono (h : GT X H0 F c ρ μ R) (f : ∀ b m, R b m → R' b m) : GT X H0 F c ρ μ R' := fun σ H s cs => (h σ H s cs).mono fun b H' ⟨k, m, c1, q⟩ => ⟨k, m, c1, f b m q⟩
theorem gt_same {B : Bool} (h : GT X H0 F c ρ μ fun b m => b = B ∧ m = μ) (k : R B μ) : GT X H0 F c ρ μ R := GT.mono h fun b m ⟨e1, e2⟩ => by rw [e1, e2]; exact k
theorem so_tD (out : List PyData) (h : cutL ds lo hi = out) (q : Q (.d (.tuple out)) μ) : SO X H0 F (.d (.tuple ds)) lo hi μ Q := so_tup (by rw [h]; exact q)
end
theorem vd_item {ds : List PyData} {d : PyData} (h : Vd (.tuple ds)) (m : d ∈ ds) : Vd d := by
  rcases h with h | h
  · simp only [PyData.hasDict] at h
    exact .inl (noDictAll h d m)
  · cases h
/-! ### values bent -/
/-- a value small enough to be shown -/
def Sm (d : PyData) : Prop := Rok d 2000 4
def Gd (d : PyData) : Prop := Rok d 8000000 7 ∨ d = .dict []
theorem Gd.vok {d : PyData} (h : Gd d) : VOk d := by
  rcases h with h | h
  · exact vok_rok (h.up (Nat.le_refl _) (by decide)) (by decide)
  · rw [h]; exact vok_dict
theorem Gd.vd {d : PyData} (h : Gd d) : Vd d := h.vok.vd
theorem Sm.gd {d : PyData} (h : Sm d) : Gd d := .inl (Rok.up h (by decide) (by decide))
theorem rokA_all {ds : List PyData} {n k : Nat} (h : ∀ d ∈ ds, Rok d n k) : RokA ds (ds.length * (n + 2)) k := by
  have := rokA_map (f := id) (xs := ds) h
  rwa [List.map_id] at this
theorem gd_tuple {ds : List PyData} (h : ∀ d ∈ ds, Sm d) (hl : ds.length ≤ 3010) : Gd (.tuple ds) := .inl ((rok_tuple (rokA_all h)).up (by omega) (by decide))
theorem gd_list {ds : List PyData} (h : ∀ d ∈ ds, Sm d) (hl : ds.length ≤ 3010) : Gd (.list ds) := .inl ((rok_list (rokA_all h)).up (by omega) (by decide))
theorem gd_one {ds : List PyData} (h : ∀ d ∈ ds, Sm d) (hl : ds.length ≤ 3010) : Gd (.tuple [.tuple ds]) :=
  .inl ((rok_tuple (rokA_cons (rok_tuple (rokA_all h)) (rokA_nil (k := 5)) (by decide))).up (by omega) (by decide))
theorem sm_int {i : Int} (h : i.natAbs < 2 ^ 64) : Sm (.int i) := (rok_int h).up (by decide) (by decide)
theorem sm_ints {w : List Int} (h : ∀ x ∈ w, x.natAbs < 2 ^ 64) : ∀ d ∈ w.map PyData.int, Sm d := fun d m => by
  obtain ⟨x, hx, rfl⟩ := List.mem_map.mp m
  exact sm_int (h x hx)
/-- a row with one thing put in its i-th place -/
def withD (ds : List PyData) (i : Nat) (x : PyData) : List PyData := ds.take i ++ [x] ++ ds.drop (i + 1)
theorem withD_len {ds : List PyData} {i : Nat} {x : PyData} (h : i < ds.length) : (withD ds i x).length = ds.length := by
  unfold withD
  rw [List.length_append, List.length_append, List.length_take, List.length_drop]
  show min i ds.length + 1 + (ds.length - (i + 1)) = ds.length
  omega
theorem withD_sm {ds : List PyData} {i : Nat} {x : PyData} (h : ∀ d ∈ ds, Sm d) (hx : Sm x) : ∀ d ∈ withD ds i x, Sm d := fun d m => by
  unfold withD at m
  rcases List.mem_append.mp m with m | m
  · rcases List.mem_append.mp m with m | m
    · exact h d (List.mem_of_mem_take m)
    · rw [List.mem_singleton.mp m]; exact hx
  · exact h d (List.mem_of_mem_drop m)
/-! ### whole numbers within bounds -/
def inIv (d : PyData) (lo hi : Int) : Bool := match d with
  | .int v => decide (lo ≤ v) && decide (v ≤ hi)
  | _ => false
theorem int_of {d : PyData} (h1 : d.isInt = true) (h2 : (!d.isBool) = true) : ∃ v, d = .int v := by
  cases d with
  | int v => exact ⟨v, rfl⟩
  | bool b => exact Bool.noConfusion (show false = true from h2)
  | none => exact Bool.noConfusion (show false = true from h1)
  | str _ => exact Bool.noConfusion (show false = true from h1)
  | list _ => exact Bool.noConfusion (show false = true from h1)
  | tuple _ => exact Bool.noConfusion (show false = true from h1)
  | dict _ => exact Bool.noConfusion (show false = true from h1)
theorem inIv_no {d : PyData} {lo hi : Int} (h : (d.isInt && !d.isBool) = false) : inIv d lo hi = false := by
  cases d <;> first | rfl | (simp [PyData.isInt, PyData.isBool] at h)
theorem isInt_iv {d : PyData} {lo hi : Int} (h : inIv d lo hi = true) : ∃ v, d = .int v ∧ lo ≤ v ∧ v ≤ hi := by
  cases d with
  | int v =>
    simp only [inIv, Bool.and_eq_true, decide_eq_true_eq] at h
    exact ⟨v, rfl, h.1, h.2⟩
  | _ => simp [inIv] at h
def valI : PyData → Int
  | .int v => v
  | _ => 0
theorem all_ints {ds : List PyData} {lo hi : Int} (h : ∀ d ∈ ds, inIv d lo hi = true) : ds = (ds.map valI).map PyData.int ∧ ∀ x ∈ ds.map valI, lo ≤ x ∧ x ≤ hi := by
  induction ds with
  | nil => exact ⟨rfl, fun _ m => (nomatch m)⟩
  | cons d r ih =>
    obtain ⟨v, rfl, h1, h2⟩ := isInt_iv (h d List.mem_cons_self)
    obtain ⟨e, f⟩ := ih fun x m => h x (List.mem_cons_of_mem _ m)
    refine ⟨?_, fun x m => ?_⟩
    · rw [List.map_cons, List.map_cons, ← e]; rfl
    · rcases List.mem_cons.mp m with z | z
      · rw [z]; exact ⟨h1, h2⟩
      · exact f x z
end Nl

/-! Nl, part R: faults of a row of letters. -/
namespace Nl
open PySem PySem.Spec PyProof.Rows L2
def winC (w : List Int) (n i : Nat) : List Int := (List.range n).map fun j => w.getD ((i + j) % w.length) 0
def extW (w : List Int) (n : Nat) : List Int := w ++ ((List.replicate n w).flatten).take n
def cutW (w : List Int) (n i : Nat) : List Int := (w.drop i).take n
theorem getD_at {w : List Int} {j : Nat} (h : j < w.length) : w[j]? = some (w.getD j 0) := by
  rw [List.getD_eq_getElem?_getD, List.getElem?_eq_getElem h]; rfl
theorem win_comp (w : List Int) (n i : Nat) : ((rangeI 0 n).map fun c => PyData.int (w.getD (((i : Int) + c) % (w.length : Int)).toNat 0)) = (winC w n i).map PyData.int := by
  unfold rangeI winC
  rw [List.map_map, List.map_map]
  refine List.map_congr_left fun j _ => ?_
  show PyData.int (w.getD (((i : Int) + (0 + (j : Int))) % (w.length : Int)).toNat 0) = PyData.int (w.getD ((i + j) % w.length) 0)
  rw [show ((i : Int) + (0 + (j : Int))) % (w.length : Int) = (((i + j) % w.length : Nat) : Int) by rw [Int.zero_add]; norm_cast]
  rfl
/-- copies of a row, by places -/
theorem rep_at {w : List Int} : ∀ (n m : Nat), m < n * w.length → ((List.replicate n w).flatten)[m]? = w[m % w.length]?
  | 0, m, h => by rw [Nat.zero_mul] at h; exact absurd h (Nat.not_lt_zero _)
  | n + 1, m, h => by
    rw [List.replicate_succ, List.flatten_cons]
    by_cases z : m < w.length
    · rw [List.getElem?_append_left z, Nat.mod_eq_of_lt z]
    · rw [Nat.succ_mul] at h
      rw [List.getElem?_append_right (by omega), rep_at n (m - w.length) (by omega)]
      congr 1
      exact (Nat.mod_eq_sub_mod (by omega)).symm
theorem win_len (w : List Int) (n i : Nat) : (winC w n i).length = n := by simp [winC]
theorem cut_win {w : List Int} {n i : Nat} (hi : i < w.length) : cutW (extW w n) n i = winC w n i := by
  refine List.ext_getElem? fun j => ?_
  unfold cutW
  by_cases h : j < n
  · rw [List.getElem?_take_of_lt h, List.getElem?_drop]
    unfold winC extW
    rw [List.getElem?_map, List.getElem?_range h]
    show _ = some (w.getD ((i + j) % w.length) 0)
    have hm : (i + j) % w.length < w.length := Nat.mod_lt _ (by omega)
    rw [← getD_at hm]
    by_cases h2 : i + j < w.length
    · rw [List.getElem?_append_left h2, Nat.mod_eq_of_lt h2]
    · rw [List.getElem?_append_right (by omega), List.getElem?_take_of_lt (by omega), rep_at n (i + j - w.length) ?_]
      · congr 1
        exact (Nat.mod_eq_sub_mod (by omega)).symm
      · have h3 : n ≤ n * w.length := Nat.le_mul_of_pos_right n (by omega)
        omega
  · rw [List.getElem?_eq_none (by rw [List.length_take]; omega), List.getElem?_eq_none (by rw [win_len]; omega)]
theorem firstRep_same {f g : Nat → List Int} {n : Nat} (h : ∀ i < n, f i = g i) : firstRep f n = firstRep g n := by
  unfold firstRep
  have key : ∀ l : List Nat, (∀ i ∈ l, i < n) → l.find? (fun i => decide (f i ∈ (List.range i).map f)) = l.find? (fun i => decide (g i ∈ (List.range i).map g)) := by
    intro l
    induction l with
    | nil => intro _; rfl
    | cons a r ih =>
      intro hl
      have ha := hl a List.mem_cons_self
      have e : (List.range a).map f = (List.range a).map g := List.map_congr_left fun j hj => h j (by have := List.mem_range.mp hj; omega)
      rw [List.find?_cons, List.find?_cons, e, h a ha, ih fun i hi => hl i (List.mem_cons_of_mem _ hi)]
  exact key _ fun i hi => List.mem_range.mp hi
/-! ### the fault of a value -/
def lenD : PyData → Nat
  | .tuple ds => ds.length
  | _ => 0
def rErrL (k : Int) (n : Nat) (ds : List PyData) : PyData :=
  match ds.findIdx? (fun x => !inIv x 0 (k - 1)) with
  | some i => .tuple [.str (Str.ofString "letter"), .int (i : Nat)]
  | none => match firstRep (winC (ds.map valI) n) ds.length with
    | some i => .tuple [.str (Str.ofString "again"), .int (i : Nat)]
    | none => .none
theorem nb {a : Bool} (h : (!a) = true) : a = false := by cases a <;> simp_all
theorem nb' {a : Bool} (h : (!a) = false) : a = true := by cases a <;> simp_all
theorem lt_le1 (v k : Int) : decide (v < k) = decide (v ≤ k - 1) := decide_eq_decide.mpr (by omega)
theorem fi_some {α : Type} {p : α → Bool} : ∀ {ds : List α} {i : Nat} {x : α}, ds[i]? = some x → p x = true → (∀ j y, j < i → ds[j]? = some y → p y = false) → ds.findIdx? p = some i
  | [], i, x, h, _, _ => by simp at h
  | d :: ds, 0, x, h, hp, _ => by
    simp at h
    subst h
    rw [List.findIdx?_cons, hp]; rfl
  | d :: ds, i + 1, x, h, hp, hj => by
    have h0 : p d = false := hj 0 d (Nat.succ_pos _) rfl
    rw [List.findIdx?_cons, h0, fi_some (ds := ds) (i := i) (by simpa using h) hp fun j y hlt hy => hj (j + 1) y (Nat.succ_lt_succ hlt) (by simpa using hy)]
    rfl
theorem fi_none {α : Type} {p : α → Bool} {ds : List α} (h : ∀ x ∈ ds, p x = false) : ds.findIdx? p = none := by
  rw [List.findIdx?_eq_none_iff]
  exact h
theorem vals_back (w : List Int) : (w.map PyData.int).map valI = w := by
  rw [List.map_map]
  show w.map (fun x => valI (.int x)) = w
  exact List.map_id w
def badP (k : Int) : PyData → Bool
  | .tuple [_, x] => !inIv x 0 (k - 1)
  | _ => false
def fstD : PyData → PyData
  | .tuple (a :: _) => a
  | _ => .none
theorem bad_ints (k : Int) : ∀ (ds : List PyData) (s : Nat), ∃ L : List Int, ((ds.mapIdx fun i d => PyData.tuple [.int ((s + i : Nat) : Int), d]).filter (badP k)).map fstD = L.map PyData.int ∧
    (ds.findIdx? (fun x => !inIv x 0 (k - 1)) = none → L = []) ∧ (∀ i, ds.findIdx? (fun x => !inIv x 0 (k - 1)) = some i → ∃ r, L = ((s + i : Nat) : Int) :: r)
  | [], s => ⟨[], rfl, fun _ => rfl, fun i h => by simp at h⟩
  | d :: ds, s => by
    obtain ⟨L, e, h1, h2⟩ := bad_ints k ds (s + 1)
    have em : ((d :: ds).mapIdx fun i d => PyData.tuple [.int ((s + i : Nat) : Int), d]) = .tuple [.int ((s : Nat) : Int), d] :: (ds.mapIdx fun i d => PyData.tuple [.int ((s + 1 + i : Nat) : Int), d]) := by
      rw [List.mapIdx_cons]
      congr 1
      congr 1
      funext i d
      rw [show s + (i + 1) = s + 1 + i by omega]
    rw [em, List.filter_cons]
    by_cases z : inIv d 0 (k - 1) = true
    · have zb : badP k (.tuple [.int ((s : Nat) : Int), d]) = false := by show (!inIv d 0 (k - 1)) = false; rw [z]; rfl
      rw [zb, if_neg Bool.false_ne_true]
      have hf : (d :: ds).findIdx? (fun x => !inIv x 0 (k - 1)) = (ds.findIdx? (fun x => !inIv x 0 (k - 1))).map (· + 1) := by
        rw [List.findIdx?_cons, z]; rfl
      refine ⟨L, e, fun h => h1 ?_, fun i h => ?_⟩
      · rw [hf] at h
        cases q : ds.findIdx? (fun x => !inIv x 0 (k - 1)) with
        | none => rfl
        | some j => rw [q] at h; cases h
      · rw [hf] at h
        obtain ⟨j, hj, rfl⟩ := Option.map_eq_some_iff.mp h
        obtain ⟨r, hr⟩ := h2 j hj
        exact ⟨r, by rw [hr]; congr 2; omega⟩
    · have z' : inIv d 0 (k - 1) = false := by simpa using z
      have zb : badP k (.tuple [.int ((s : Nat) : Int), d]) = true := by show (!inIv d 0 (k - 1)) = true; rw [z']; rfl
      rw [zb, if_pos rfl, List.map_cons, e]
      have hf : (d :: ds).findIdx? (fun x => !inIv x 0 (k - 1)) = some 0 := by rw [List.findIdx?_cons, z']; rfl
      refine ⟨((s : Nat) : Int) :: L, rfl, fun h => ?_, fun i h => ?_⟩
      · rw [hf] at h; cases h
      · rw [hf] at h
        cases h
        exact ⟨L, rfl⟩
theorem enum_bad (k : Int) (ds : List PyData) : ∃ L : List Int, ((enumD ds).filter (badP k)).map fstD = L.map PyData.int ∧ (ds.findIdx? (fun x => !inIv x 0 (k - 1)) = none → L = []) ∧ (∀ i, ds.findIdx? (fun x => !inIv x 0 (k - 1)) = some i → ∃ r, L = ((i : Nat) : Int) :: r) := by
  obtain ⟨L, h1, h2, h3⟩ := bad_ints k ds 0
  refine ⟨L, ?_, h2, fun i h => ?_⟩
  · rw [← h1]
    unfold enumD
    simp only [Nat.zero_add]
  · obtain ⟨r, hr⟩ := h3 i h
    exact ⟨r, by rw [hr, Nat.zero_add]⟩
theorem fi_ok {ds : List PyData} {k : Int} (h : ds.findIdx? (fun x => !inIv x 0 (k - 1)) = none) : ∀ d ∈ ds, inIv d 0 (k - 1) = true := fun d m => by
  rw [List.findIdx?_eq_none_iff] at h
  exact nb' (h d m)
end Nl

/-! The arithmetic of k48. -/
namespace Nl
open PySem PySem.Spec PyProof.Rows L2
/-! ### prime words, as they are walked -/
def powN (k : Int) : Nat → Int
  | 0 => 1
  | n + 1 => powN k n * k
def stripF (k : Int) : List Int → List Int
  | [] => []
  | x :: r => match stripF k r with
    | [] => if x = k - 1 then [] else [x]
    | y :: s => x :: y :: s
def extF (n : Nat) (w : List Int) : List Int := ((List.replicate n w).flatten).take n
def incF (w : List Int) : List Int := w.dropLast ++ [w.getLastD 0 + 1]
def nextP (k : Int) (n : Nat) (w : List Int) : List Int := match stripF k (extF n w) with
  | [] => []
  | s => incF s
def iterP (k : Int) (n : Nat) : Nat → List Int
  | 0 => [0]
  | i + 1 => nextP k n (iterP k n i)
def foundP (k : Int) (n : Nat) : Nat → List (List Int)
  | 0 => []
  | i + 1 => foundP k n i ++ (if n % (iterP k n i).length = 0 then [iterP k n i] else [])
/-- the walk from w on: how many words till the empty one, and those whose length divides n -/
def goP (k : Int) (n : Nat) : Nat → List Int → Option (Nat × List (List Int))
  | 0, _ => none
  | f + 1, [] => some (0, [])
  | f + 1, x :: r => match goP k n f (nextP k n (x :: r)) with
    | none => none
    | some (t, l) => some (t + 1, (if n % (x :: r).length = 0 then [x :: r] else []) ++ l)
theorem iterP_add (k : Int) (n : Nat) (i : Nat) : iterP k n (i + 1) = nextP k n (iterP k n i) := rfl
theorem goP_ok {k : Int} {n : Nat} : ∀ (f : Nat) (i T : Nat) (l : List (List Int)), goP k n f (iterP k n i) = some (T, l) → iterP k n (i + T) = [] ∧ (∀ j, j < T → iterP k n (i + j) ≠ []) ∧ foundP k n (i + T) = foundP k n i ++ l
  | 0, _, _, _, h => by cases h
  | f + 1, i, T, l, h => by
    cases e : iterP k n i with
    | nil =>
      rw [e] at h
      cases h
      exact ⟨e, fun j hj => absurd hj (Nat.not_lt_zero _), (List.append_nil _).symm⟩
    | cons x r =>
      rw [e] at h
      have e2 : nextP k n (x :: r) = iterP k n (i + 1) := by rw [iterP_add, e]
      unfold goP at h
      rw [e2] at h
      cases g : goP k n f (iterP k n (i + 1)) with
      | none => rw [g] at h; cases h
      | some q =>
        obtain ⟨t, l'⟩ := q
        rw [g] at h
        cases h
        obtain ⟨h1, h2, h3⟩ := goP_ok f (i + 1) t l' g
        refine ⟨by rw [← h1]; congr 1; omega, fun j hj => ?_, ?_⟩
        · cases j with
          | zero => rw [Nat.add_zero, e]; exact List.cons_ne_nil _ _
          | succ j => rw [show i + (j + 1) = i + 1 + j by omega]; exact h2 j (by omega)
        · rw [show i + (t + 1) = i + 1 + t by omega, h3]
          show foundP k n i ++ (if n % (iterP k n i).length = 0 then [iterP k n i] else []) ++ l' = _
          rw [e, List.append_assoc]
theorem strip_len (k : Int) : ∀ w : List Int, (stripF k w).length ≤ w.length
  | [] => Nat.le_refl _
  | x :: r => by
    have := strip_len k r
    unfold stripF
    cases e : stripF k r with
    | nil => by_cases z : x = k - 1 <;> simp [z]
    | cons y s => rw [e] at this; simp at this ⊢; omega
theorem ext_len {n : Nat} {w : List Int} (h : w ≠ []) : (extF n w).length = n := by
  unfold extF
  have h1 : 0 < w.length := List.length_pos_iff.mpr h
  have h2 : ((List.replicate n w).flatten).length = n * w.length := by
    induction n with
    | zero => simp
    | succ n ih => rw [List.replicate_succ, List.flatten_cons, List.length_append, ih, Nat.succ_mul]; omega
  rw [List.length_take, h2]
  have h3 : n ≤ n * w.length := Nat.le_mul_of_pos_right n h1
  omega
theorem nextP_len (k : Int) {n : Nat} (w : List Int) : (nextP k n w).length ≤ n := by
  have h1 : (extF n w).length ≤ n := by unfold extF; rw [List.length_take]; exact Nat.min_le_left _ _
  have h2 := strip_len k (extF n w)
  unfold nextP
  cases e : stripF k (extF n w) with
  | nil => exact Nat.zero_le _
  | cons x r =>
    rw [e] at h2
    show (incF (x :: r)).length ≤ n
    unfold incF
    rw [List.length_append, List.length_dropLast]
    simp at h2 ⊢
    omega
theorem iterP_len (k : Int) {n : Nat} (hn : 1 ≤ n) : ∀ i, (iterP k n i).length ≤ n
  | 0 => hn
  | i + 1 => nextP_len k _
/-! ### windows that differ -/
def Dis (r : List Int) (n : Nat) : Prop := ∀ i j, i < j → j < r.length → winC r n i ≠ winC r n j
theorem Dis.ne {r : List Int} {n : Nat} (h : Dis r n) {i j : Nat} (hi : i < r.length) (hj : j < r.length) (e : winC r n i = winC r n j) : i = j := by
  rcases Nat.lt_trichotomy i j with z | z | z
  · exact absurd e (h i j z hj)
  · exact z
  · exact absurd e.symm (h j i z hi)
theorem Dis.rep {r : List Int} {n : Nat} (h : Dis r n) : firstRep (winC r n) r.length = none := firstRep_none fun i hi m => by
  obtain ⟨j, hj, e⟩ := List.mem_map.mp m
  have hj' := List.mem_range.mp hj
  exact h j i hj' hi e
theorem mod_same {a b m : Nat} (h : a % m = b % m) (hb : b ≤ a) (hd : a - b < m) : a = b := by
  have h1 := Nat.sub_mod_eq_zero_of_mod_eq h
  rw [Nat.mod_eq_of_lt hd] at h1
  omega
theorem win_mod (r : List Int) (n i : Nat) : winC r n (i % r.length) = winC r n i := by
  unfold winC
  refine List.map_congr_left fun t _ => ?_
  rw [Nat.mod_add_mod]
theorem dis_map {r : List Int} {n : Nat} (h : Dis r n) (f : Int → Int) (hf : ∀ x ∈ r, ∀ y ∈ r, f x = f y → x = y) (hn : 1 ≤ n) : Dis (r.map f) n := fun i j hij hj e => by
  rw [List.length_map] at hj
  have hm : ∀ i, winC (r.map f) n i = (winC r n i).map f := fun i => by
    unfold winC
    rw [List.map_map, List.length_map]
    refine List.map_congr_left fun t _ => ?_
    have hlt : (i + t) % r.length < r.length := Nat.mod_lt _ (by omega)
    show (r.map f).getD ((i + t) % r.length) 0 = f (r.getD ((i + t) % r.length) 0)
    rw [List.getD_eq_getElem?_getD, List.getElem?_map, List.getD_eq_getElem?_getD, List.getElem?_eq_getElem hlt]
    rfl
  rw [hm, hm] at e
  have hin : ∀ i, ∀ x ∈ winC r n i, x ∈ r := fun i x hx => by
    obtain ⟨t, _, rfl⟩ := List.mem_map.mp hx
    have hlt : (i + t) % r.length < r.length := Nat.mod_lt _ (by omega)
    rw [List.getD_eq_getElem?_getD, List.getElem?_eq_getElem hlt]
    exact List.getElem_mem hlt
  have inj : ∀ (u v : List Int), (∀ x ∈ u, x ∈ r) → (∀ x ∈ v, x ∈ r) → u.map f = v.map f → u = v := by
    intro u
    induction u with
    | nil => intro v _ _ h; cases v with
      | nil => rfl
      | cons _ _ => cases h
    | cons x u ih => intro v hu hv h; cases v with
      | nil => cases h
      | cons y v =>
        simp only [List.map_cons, List.cons.injEq] at h
        rw [hf x (hu x List.mem_cons_self) y (hv y List.mem_cons_self) h.1, ih v (fun z m => hu z (List.mem_cons_of_mem _ m)) (fun z m => hv z (List.mem_cons_of_mem _ m)) h.2]
  exact h i j hij hj (inj _ _ (hin i) (hin j) e)
def rotR (r : List Int) (j : Nat) : List Int := r.drop j ++ r.take j
theorem rotR_len (r : List Int) {j : Nat} (h : j ≤ r.length) : (rotR r j).length = r.length := by unfold rotR; rw [List.length_append, List.length_drop, List.length_take]; omega
theorem rotR_at {r : List Int} {j m : Nat} (hj : j < r.length) (hm : m < r.length) : (rotR r j).getD m 0 = r.getD ((m + j) % r.length) 0 := by
  unfold rotR
  rw [List.getD_eq_getElem?_getD, List.getD_eq_getElem?_getD]
  by_cases z : m < r.length - j
  · rw [List.getElem?_append_left (by rw [List.length_drop]; exact z), List.getElem?_drop, Nat.mod_eq_of_lt (by omega), Nat.add_comm]
  · rw [List.getElem?_append_right (by rw [List.length_drop]; omega), List.length_drop, List.getElem?_take_of_lt (by omega), Nat.mod_eq_sub_mod (by omega), Nat.mod_eq_of_lt (by omega)]
    congr 2
    omega
theorem dis_rot {r : List Int} {n j : Nat} (h : Dis r n) (hj : j < r.length) : Dis (rotR r j) n := fun a b hab hb e => by
  rw [rotR_len r (by omega)] at hb
  have hm : ∀ i, winC (rotR r j) n i = winC r n (i + j) := fun i => by
    unfold winC
    rw [rotR_len r (by omega)]
    refine List.map_congr_left fun t _ => ?_
    have hlt : (i + t) % r.length < r.length := Nat.mod_lt _ (by omega)
    rw [rotR_at hj hlt, Nat.mod_add_mod]
    congr 2
    omega
  rw [hm, hm, ← win_mod r n (a + j), ← win_mod r n (b + j)] at e
  have hp : 0 < r.length := by omega
  have e2 := h.ne (Nat.mod_lt _ hp) (Nat.mod_lt _ hp) e
  have := mod_same e2.symm (by omega) (by omega)
  omega
theorem rev_at {r : List Int} {m : Nat} (hm : m < r.length) : r.reverse.getD m 0 = r.getD (r.length - 1 - m) 0 := by
  rw [List.getD_eq_getElem?_getD, List.getD_eq_getElem?_getD, List.getElem?_reverse hm]
theorem dis_rev {r : List Int} {n : Nat} (h : Dis r n) : Dis r.reverse n := fun a b hab hb e => by
  rw [List.length_reverse] at hb
  have hp : 0 < r.length := by omega
  have hbig : ∀ i, i < r.length → i + n ≤ r.length * (n + 1) := fun i hi => by
    rw [Nat.mul_succ]
    have : n ≤ r.length * n := Nat.le_mul_of_pos_left n hp
    omega
  have hm : ∀ i, i < r.length → winC r.reverse n i = (winC r n (r.length * (n + 1) - i - n)).reverse := fun i hi => by
    have hb1 := hbig i hi
    refine List.ext_getElem? fun t => ?_
    by_cases z : t < n
    · rw [List.getElem?_reverse (by rw [win_len]; exact z), win_len]
      unfold winC
      rw [List.getElem?_map, List.getElem?_range z, List.getElem?_map, List.getElem?_range (by omega), List.length_reverse]
      have hlt : (i + t) % r.length < r.length := Nat.mod_lt _ hp
      show some (r.reverse.getD ((i + t) % r.length) 0) = some (r.getD ((r.length * (n + 1) - i - n + (n - 1 - t)) % r.length) 0)
      rw [rev_at hlt]
      congr 2
      have hdiv := Nat.mod_add_div (i + t) r.length
      have hle : (i + t) / r.length ≤ n := by
        have h5 : (i + t) / r.length < n + 1 := Nat.div_lt_of_lt_mul (by
          rw [Nat.mul_succ]
          have : n ≤ r.length * n := Nat.le_mul_of_pos_left n hp
          omega)
        omega
      have hmul : r.length * (n + 1) = r.length * ((i + t) / r.length) + r.length * (n - (i + t) / r.length) + r.length := by
        rw [← Nat.mul_add, ← Nat.mul_succ]
        congr 1
        omega
      have e3 : r.length * (n + 1) - i - n + (n - 1 - t) = (r.length - 1 - (i + t) % r.length) + r.length * (n - (i + t) / r.length) := by omega
      rw [e3, Nat.add_mul_mod_self_left, Nat.mod_eq_of_lt (show r.length - 1 - (i + t) % r.length < r.length by omega)]
    · rw [List.getElem?_eq_none (by rw [win_len]; omega), List.getElem?_eq_none (by rw [List.length_reverse, win_len]; omega)]
  rw [hm a (by omega), hm b hb] at e
  have e1 := List.reverse_inj.mp e
  rw [← win_mod r n (_ - a - n), ← win_mod r n (_ - b - n)] at e1
  have e2 := h.ne (Nat.mod_lt _ hp) (Nat.mod_lt _ hp) e1
  have h1 := hbig a (by omega)
  have h2 := hbig b hb
  have := mod_same e2 (by omega) (by omega)
  omega
/-! ### windows that differ, by counting -/
def chkM : List Nat → Nat → Bool
  | [], _ => true
  | c :: r, s => !(s.testBit c) && chkM r (s ||| 2 ^ c)
theorem chkM_ok : ∀ (l : List Nat) (s : Nat), chkM l s = true → l.Nodup ∧ ∀ c ∈ l, s.testBit c = false
  | [], _, _ => ⟨.nil, fun _ m => (nomatch m)⟩
  | c :: r, s, h => by
    simp only [chkM, Bool.and_eq_true, Bool.not_eq_true'] at h
    obtain ⟨h1, h2⟩ := chkM_ok r _ h.2
    have h3 : ∀ d ∈ r, s.testBit d = false ∧ d ≠ c := fun d m => by
      have := h2 d m
      rw [Nat.testBit_or, Bool.or_eq_false_iff] at this
      refine ⟨this.1, fun e => ?_⟩
      rw [e, Nat.testBit_two_pow_self] at this
      exact Bool.noConfusion this.2
    refine ⟨List.nodup_cons.mpr ⟨fun m => (h3 c m).2 rfl, h1⟩, fun d m => ?_⟩
    rcases List.mem_cons.mp m with e | m
    · rw [e]; exact h.1
    · exact (h3 d m).1
def wins (n : Nat) : Nat → List Int → List (List Int)
  | 0, _ => []
  | c + 1, w => w.take n :: wins n c (w.drop 1)
theorem wins_at (n : Nat) : ∀ (c : Nat) (w : List Int) (i : Nat), i < c → (wins n c w)[i]? = some ((w.drop i).take n)
  | 0, _, _, h => absurd h (Nat.not_lt_zero _)
  | c + 1, w, 0, _ => by rw [List.drop_zero]; rfl
  | c + 1, w, i + 1, h => by
    show (wins n c (w.drop 1))[i]? = _
    rw [wins_at n c _ i (by omega), List.drop_drop, Nat.add_comm 1 i]
def codeK (k : Nat) (w : List Int) : Nat := w.foldl (fun a x => a * k + x.toNat) 0
theorem dis_of {r : List Int} {n k : Nat} (h : chkM ((wins n r.length (r ++ extF n r)).map (codeK k)) 0 = true) : Dis r n := fun i j hij hj e => by
  obtain ⟨h1, _⟩ := chkM_ok _ _ h
  have at1 : ∀ i, i < r.length → ((wins n r.length (r ++ extF n r)).map (codeK k))[i]? = some (codeK k (winC r n i)) := fun i hi => by
    rw [List.getElem?_map, wins_at n _ _ i hi]
    show some (codeK k (cutW (extW r n) n i)) = _
    rw [cut_win hi]
  have a := at1 i (by omega)
  have b := at1 j hj
  rw [e] at a
  obtain ⟨hi2, ea⟩ := List.getElem?_eq_some_iff.mp a
  obtain ⟨hj2, eb⟩ := List.getElem?_eq_some_iff.mp b
  exact List.pairwise_iff_getElem.mp h1 i j hi2 hj2 hij (ea.trans eb.symm)
/-! ### the sizes of the law -/
def facL : Nat → Int
  | 0 => 1
  | n + 1 => facL n * ((n : Int) + 1)
def pairsK : List (Nat × Nat) := [1, 2, 3, 4, 5, 16].flatMap fun k => ((List.range 12).map (· + 1)).filterMap fun n => if k ^ n ≤ 300 then some (k, n) else none
structure POk (k n : Nat) (T : Nat) (l : List (List Int)) : Prop where
  run : goP k n 400 [0] = some (T, l)
  len : l.flatten.length = k ^ n
  dis : Dis l.flatten n
  let_ : ∀ x ∈ l.flatten, 0 ≤ x ∧ x < k
  big : (powN (facL k) (k ^ (n - 1)) / ((k ^ n : Nat) : Int)).natAbs.log2 < 1920
  few : l.length ≤ 400
def chkP (k n : Nat) : Bool := match goP k n 400 [0] with
  | none => false
  | some (_, l) => decide (l.flatten.length = k ^ n) && chkM ((wins n l.flatten.length (l.flatten ++ extF n l.flatten)).map (codeK k)) 0 && l.flatten.all (fun x => decide (0 ≤ x) && decide (x < k)) &&
    decide ((powN (facL k) (k ^ (n - 1)) / ((k ^ n : Nat) : Int)).natAbs.log2 < 1920) && decide (l.length ≤ 400)
theorem chkP_ok {k n : Nat} (h : chkP k n = true) : ∃ T l, POk k n T l := by
  unfold chkP at h
  cases e : goP k n 400 [0] with
  | none => rw [e] at h; cases h
  | some q =>
    obtain ⟨T, l⟩ := q
    rw [e] at h
    simp only [Bool.and_eq_true, decide_eq_true_eq] at h
    obtain ⟨⟨⟨⟨h1, h2⟩, h3⟩, h4⟩, h5⟩ := h
    refine ⟨T, l, e, h1, dis_of h2, fun x m => ?_, h4, h5⟩
    have := List.all_eq_true.mp h3 x m
    simpa using this
theorem pairs_ok : pairsK.all (fun p => chkP p.1 p.2) = true := by decide +kernel
theorem pair_ok {k n : Nat} (h : (k, n) ∈ pairsK) : ∃ T l, POk k n T l := chkP_ok (List.all_eq_true.mp pairs_ok (k, n) h)
end Nl

namespace Nl
open PySem PySem.Spec PyProof.Rows L2
theorem hu64 {A : Around} {k : Nat} (hr : Room k A) : A.units + 64 < cLine := hr.units
local macro_rules | `(tactic| walk_at "side") => `(tactic| first | omega | with_reducible assumption | exact hu_of (by assumption) | exact hu64 (by assumption) | with_reducible rfl | (simp only [enumD_len, List.length_take, rangeI_len, List.length_map, List.length_append, List.length_cons, List.length_nil, sizeLine_eq] at *; omega) | rfl | decide)
local macro_rules | `(tactic| walk_at "sub") => `(tactic| first | (repeat first | exact wk_refl | refine wk_cons ?_) <;> done | (apply wk_ext; repeat first | exact Sub.nil | apply Sub.cons | exact Tk.here | apply Tk.there) <;> done)
local macro_rules | `(tactic| walk_at "no") => `(tactic| (intro z; first | exact Bool.noConfusion z | (simp at z; done) | (simp at z; omega) | (simp_all; done) | (simp_all; omega)))
local macro_rules | `(tactic| walk_at "inv") => `(tactic| first | exact ⟨rfl, rfl⟩ | exact ⟨_, rfl, rfl⟩ | exact ⟨_, _, rfl, rfl⟩)
def topS (i : Nat) : Stmt := PySem.Challenge.pw_nearlists_k48_whole_main_rounds.main.body.getD i (.Pass ⟨0, 0, 0, 0⟩)
structure Gs (mg : Str → Option Value) : Prop where
  len : mg "len" = none
  isinstance : mg "isinstance" = none
  repr : mg "repr" = none
  abs : mg "abs" = none
  int : mg "int" = none
  bool : mg "bool" = none
  tuple : mg "tuple" = none
  list : mg "list" = none
  range : mg "range" = none
  enumerate : mg "enumerate" = none
section
variable {P : Program} {w : World} {K : PySem.W.Frag} {mg : Str → Option Value} {base : Heap}

abbrev sp_is_integer : SpD := fun xs μ Q => ∃ d, xs = [.d d] ∧ Vd d ∧ Q (.d (.bool (d.isInt && !d.isBool))) μ
def powL (a : Int) : Nat → Int
  | 0 => 1
  | n + 1 => powL a n * a
abbrev sp_pow : SpD := fun xs μ Q => ∃ (a : Int) (n : Nat), xs = [.d (.int a), .d (.int (n : Int))] ∧ 0 ≤ a ∧ a < 2 ^ 60 ∧ n < 2 ^ 60 ∧ Q (.d (.int (powL a n))) μ
abbrev sp_power_of : SpD := sp_pow
abbrev sp__law_raised : SpD := sp_pow
abbrev sp__law_draw : SpD := fun xs μ Q => ∃ p g S n m, xs = [.a p, .d (.int m)] ∧ μ = PotM p g S ∧ PotOk n S ∧ n < 2 ^ 40 ∧ 0 < m ∧ m < 2 ^ 60 ∧ ∀ r S', 0 ≤ r → r < m → PotOk (n + 1) S' → Q (.d (.int r)) (PotM p g S')
abbrev sp__law_pick : SpD := fun xs μ Q => ∃ p g S n x ds, xs = [.a p, .d x] ∧ (x = .list ds ∨ x = .tuple ds) ∧ μ = PotM p g S ∧ PotOk n S ∧ n < 2 ^ 40 ∧ ds ≠ [] ∧ ds.length < 2 ^ 40 ∧ ∀ d S', d ∈ ds → PotOk (n + 1) S' → Q (.d d) (PotM p g S')
abbrev sp__law_pot : SpD := fun xs μ Q => ∃ ns : List Int, xs = [.d (dLs ns)] ∧ ns.length ≤ 63 ∧ (∀ z ∈ ns, Builtin.Int.intBits z ≤ 1048576) ∧ ∀ p g S, PotOk 0 S → Q (.a p) (PotM p g S ++ μ)

abbrev sp__law_is_int : SpD := fun xs μ Q => ∃ (d : PyData) (lo hi : Int), xs = [.d d, .d (.int lo), .d (.int hi)] ∧ Vd d ∧ Q (.d (.bool (inIv d lo hi))) μ
abbrev sp__law_with : SpD := fun xs μ Q => ∃ (ds : List PyData) (i : Nat) (x : PyData), xs = [.d (.tuple ds), .d (.int (i : Nat)), .d x] ∧ i < ds.length ∧ ds.length ≤ 100000 ∧ Q (.d (.tuple (withD ds i x))) μ
abbrev sp__law_mixed : SpD := fun xs μ Q => ∃ (p g : Addr) (S : PotS) (n : Nat) (ds : List PyData), xs = [.a p, .d (.list ds)] ∧ μ = PotM p g S ∧ PotOk n S ∧ n < 2 ^ 30 ∧ ds.length ≤ 1000 ∧ ∀ q (es : List PyData) S', es.Perm ds → PotOk (n + 1000) S' → Q (.a q) ((q, .lst (es.map Sl.d)) :: PotM p g S')
abbrev sp__law_bent : SpD := fun xs μ Q => ∃ (p g : Addr) (S : PotS) (n : Nat) (w : List Int) (ds : List PyData), xs = [.a p, .d (dT w), .d (.list ds)] ∧ μ = PotM p g S ∧ PotOk n S ∧ n < 2 ^ 30 ∧ w ≠ [] ∧ w.length ≤ 3000 ∧ (∀ x ∈ w, x.natAbs < 2 ^ 64) ∧ ds ≠ [] ∧ ds.length ≤ 20 ∧ (∀ d ∈ ds, Sm d) ∧
  ∀ q (es : List PyData) S', (∀ d ∈ es, Gd d) → es.length ≤ 50 → PotOk (n + 20) S' → Q (.a q) ((q, .lst (es.map Sl.d)) :: PotM p g S')
abbrev sp__law_odd : SpD := fun xs μ Q => ∃ (p g : Addr) (S : PotS) (n : Nat), xs = [.a p] ∧ μ = PotM p g S ∧ PotOk n S ∧ n < 2 ^ 30 ∧ ∀ d S', Gd d → PotOk (n + 1) S' → Q (.d d) (PotM p g S')

def rErr (k : Int) (n : Nat) : PyData → PyData
  | .tuple ds => if (ds.length : Int) = powL k n then rErrL k n ds else .str (Str.ofString "form")
  | _ => .str (Str.ofString "form")
theorem rErr_nt {k : Int} {n : Nat} {d : PyData} (h : d.isTuple = false) : rErr k n d = .str (Str.ofString "form") := by
  cases d <;> first | rfl | (exact absurd (show true = false from h) (by decide))
theorem tuple_of {d : PyData} (h : d.isTuple = true) : ∃ ds, d = .tuple ds := by
  cases d with
  | tuple ds => exact ⟨ds, rfl⟩
  | none => exact Bool.noConfusion (show false = true from h)
  | bool _ => exact Bool.noConfusion (show false = true from h)
  | int _ => exact Bool.noConfusion (show false = true from h)
  | str _ => exact Bool.noConfusion (show false = true from h)
  | list _ => exact Bool.noConfusion (show false = true from h)
  | dict _ => exact Bool.noConfusion (show false = true from h)
abbrev sp_word_in : SpD := fun xs μ Q => ∃ (w : List Int) (n i : Nat), xs = [.d (dT w), .d (.int (n : Nat)), .d (.int (i : Nat))] ∧ w ≠ [] ∧ n ≤ 1000 ∧ w.length ≤ 100000 ∧ Q (.d (dT (winC w n i))) μ
abbrev sp__law_window : SpD := sp_word_in
abbrev sp_round_error : SpD := fun xs μ Q => ∃ (k : Int) (n : Nat) (d : PyData), xs = [.d (.int k), .d (.int (n : Nat)), .d d] ∧ Vd d ∧ powL k n ≤ 10000 ∧ 0 ≤ k ∧ k < 1000 ∧ n ≤ 100 ∧ Q (.d (rErr k n d)) μ
abbrev sp__law_round_fault : SpD := sp_round_error
abbrev sp__law_again : SpD := fun xs μ Q => ∃ (n : Nat) (w : List Int) (many : Nat), xs = [.d (.int (n : Nat)), .d (dT w), .d (.int (many : Nat))] ∧ n ≤ 1000 ∧ w.length ≤ 100000 ∧ many ≤ 100000 ∧ Q (.d (optD (firstRep (cutW w n) many))) μ
abbrev s_is_integer : Stmt := topS 1
theorem sc_is_integer : FnScope ["value"] ["value"] (defScope s_is_integer) := ⟨rfl, rfl, rfl, by decide +kernel, rfl, by decide +kernel, by decide +kernel⟩
abbrev ps_is_integer : List Str := ["value"]
theorem ok_is_integer {k : Nat} (G : Gs mg) (D : Dn K mg "is_integer" s_is_integer ps_is_integer)  : Cal P w K mg base (k + 1) "is_integer" s_is_integer ps_is_integer sp_is_integer := by
  refine D.cal sc_is_integer (fun xs μ Q h => ?_) fun f cdv A outer s H xs μ Q hr hg h => ?_
  · obtain ⟨d, rfl, hv, q⟩ := h
    rfl
  · obtain ⟨d, rfl, hv, q⟩ := h
    refine gss_cons ?_
    refine gs_ret ?_
    refine ge_and ?_
    refine ge_callB G.isinstance bt_isinstance ?_
    refine ga_cons ?_
    refine ge_name 0 rfl True.intro ?_
    refine ga_cons ?_
    refine ge_ty G.int bt_int ?_
    refine ga_nil ?_
    refine co_isIntV hv ?_
    refine onB_ ⟨fun hT => ?_, fun hF => ?_⟩
    ·
      refine later ?_
      refine ge_one ?_
      refine ge_not ?_
      refine ge_callB G.isinstance bt_isinstance ?_
      refine ga_cons ?_
      refine ge_name 0 rfl True.intro ?_
      refine ga_cons ?_
      refine ge_ty G.bool bt_bool ?_
      refine ga_nil ?_
      refine co_isBoolV hv ?_
      rw [hT, Bool.true_and] at q
      exact ⟨_, by walk_at "sub", q⟩
    ·
      rw [hF, Bool.false_and] at q
      exact ⟨_, by walk_at "sub", q⟩
abbrev s_power_of : Stmt := topS 3
theorem sc_power_of : FnScope ["base", "often", "found", "step"] ["base", "often"] (defScope s_power_of) := ⟨rfl, rfl, rfl, by decide +kernel, rfl, by decide +kernel, by decide +kernel⟩
abbrev ps_power_of : List Str := ["base", "often"]
theorem ok_power_of {k : Nat} (G : Gs mg) (D : Dn K mg "power_of" s_power_of ps_power_of)  : Cal P w K mg base (k + 1) "power_of" s_power_of ps_power_of sp_power_of := by
  refine D.cal sc_power_of (fun xs μ Q h => ?_) fun f cdv A outer s H xs μ Q hr hg h => ?_
  · obtain ⟨a, n, rfl, ha, ha2, hn, q⟩ := h
    rfl
  · obtain ⟨a, n, rfl, ha, ha2, hn, q⟩ := h
    refine gss_cons ?_
    refine gs_set 2 ?_ sc_power_of.nd
    refine ge_int ?_
    refine gss_cons ?_
    refine gs_for (js := [3]) ?_
    refine gi_range1 (hm := G.range) ?_
    refine ge_name 1 rfl True.intro ?_
    refine onI_ ⟨by walk_at "side", by walk_at "side", ?_⟩
    refine ⟨fun i ρ m => ∃ x, ρ = [.d (.int a), .d (.int n), .d (.int (powL a i)), x] ∧ μ = m, ⟨_, rfl, rfl⟩, ?_, ?_⟩
    ·
      intro i d ρ m hd hI
      obtain ⟨hi, rfl⟩ := rangeD_at hd
      obtain ⟨x, rfl, rfl⟩ := hI
      refine gg_name 3 ?_ sc_power_of.nd
      refine gss_cons ?_
      refine gs_set 2 ?_ sc_power_of.nd
      refine ge_bin ?_
      refine ge_name 2 rfl True.intro ?_
      refine ge_name 0 rfl True.intro ?_
      refine bo_mulS (.inr ⟨by omega, by omega⟩) ?_
      refine gss_nil ?_
      exact ⟨_, rfl, rfl⟩
    ·
      intro ρ m hI
      obtain ⟨x, rfl, rfl⟩ := hI
      refine gss_cons ?_
      refine gs_ret ?_
      refine ge_name 2 rfl True.intro ?_
      rw [rangeD_len] at *
      exact ⟨_, by walk_at "sub", q⟩
abbrev s__law_raised : Stmt := topS 19
theorem sc__law_raised : FnScope ["a", "k", "found", "turn"] ["a", "k"] (defScope s__law_raised) := ⟨rfl, rfl, rfl, by decide +kernel, rfl, by decide +kernel, by decide +kernel⟩
abbrev ps__law_raised : List Str := ["a", "k"]
theorem ok__law_raised {k : Nat} (G : Gs mg) (D : Dn K mg "_law_raised" s__law_raised ps__law_raised)  : Cal P w K mg base (k + 1) "_law_raised" s__law_raised ps__law_raised sp__law_raised := by
  refine D.cal sc__law_raised (fun xs μ Q h => ?_) fun f cdv A outer s H xs μ Q hr hg h => ?_
  · obtain ⟨a, n, rfl, ha, ha2, hn, q⟩ := h
    rfl
  · obtain ⟨a, n, rfl, ha, ha2, hn, q⟩ := h
    refine gss_cons ?_
    refine gs_set 2 ?_ sc__law_raised.nd
    refine ge_int ?_
    refine gss_cons ?_
    refine gs_for (js := [3]) ?_
    refine gi_range1 (hm := G.range) ?_
    refine ge_name 1 rfl True.intro ?_
    refine onI_ ⟨by walk_at "side", by walk_at "side", ?_⟩
    refine ⟨fun i ρ m => ∃ x, ρ = [.d (.int a), .d (.int n), .d (.int (powL a i)), x] ∧ μ = m, ⟨_, rfl, rfl⟩, ?_, ?_⟩
    ·
      intro i d ρ m hd hI
      obtain ⟨hi, rfl⟩ := rangeD_at hd
      obtain ⟨x, rfl, rfl⟩ := hI
      refine gg_name 3 ?_ sc__law_raised.nd
      refine gss_cons ?_
      refine gs_set 2 ?_ sc__law_raised.nd
      refine ge_bin ?_
      refine ge_name 2 rfl True.intro ?_
      refine ge_name 0 rfl True.intro ?_
      refine bo_mulS (.inr ⟨by omega, by omega⟩) ?_
      refine gss_nil ?_
      exact ⟨_, rfl, rfl⟩
    ·
      intro ρ m hI
      obtain ⟨x, rfl, rfl⟩ := hI
      refine gss_cons ?_
      refine gs_ret ?_
      refine ge_name 2 rfl True.intro ?_
      rw [rangeD_len] at *
      exact ⟨_, by walk_at "sub", q⟩
abbrev s__law_pot : Stmt := topS 11
theorem sc__law_pot : FnScope ["script", "cells", "stirred", "cell"] ["script"] (defScope s__law_pot) := ⟨rfl, rfl, rfl, by decide +kernel, rfl, by decide +kernel, by decide +kernel⟩
def cellOf (c : Int) : Int := 2 * (if c < 0 then -c else c) + (if decide (c < 0) = true then 1 else 0)
theorem cell_ok {c : Int} (h : Builtin.Int.intBits c ≤ 1048576) : 0 ≤ cellOf c ∧ (cellOf c).natAbs < 2 ^ 1048600 := by
  have h1 : c.natAbs < 2 ^ 1048577 := by
    unfold Builtin.Int.intBits at h
    split at h
    · rename_i z
      have e : c.natAbs = 0 := by simp_all
      rw [e]
      exact Nat.two_pow_pos _
    · exact PySem.lt_two_pow_of_log2_lt (by omega)
  have h2 : (2 : Nat) ^ 1048577 * 4 ≤ 2 ^ 1048600 := by
    have : (4 : Nat) = 2 ^ 2 := rfl
    rw [this, ← Nat.pow_add]
    exact Nat.pow_le_pow_right (by decide) (by decide)
  have h3 : 1 ≤ (2 : Nat) ^ 1048577 := Nat.two_pow_pos _
  unfold cellOf
  generalize (2 : Nat) ^ 1048577 = A at *
  generalize (2 : Nat) ^ 1048600 = B at *
  constructor
  · split <;> split <;> omega
  · split <;> split <;> omega
theorem pot_div {c many : Int} (h : 0 ≤ c ∧ c.natAbs < 2 ^ 1048600) (hm : 0 < many) : 0 ≤ c / many ∧ (c / many).natAbs < 2 ^ 1048600 := by
  obtain ⟨h1, h2⟩ := h
  have h3 : 0 ≤ c / many := Int.ediv_nonneg h1 (by omega)
  refine ⟨h3, ?_⟩
  have h4 : c / many ≤ c := Int.ediv_le_self _ h1
  generalize (2 : Nat) ^ 1048600 = B at *
  omega

abbrev ps__law_pot : List Str := ["script"]
theorem ok__law_pot {k : Nat} (G : Gs mg) (D : Dn K mg "_law_pot" s__law_pot ps__law_pot)  : Cal P w K mg base (k + 1) "_law_pot" s__law_pot ps__law_pot sp__law_pot := by
  refine D.cal sc__law_pot (fun xs μ Q h => ?_) fun f cdv A outer s H xs μ Q hr hg h => ?_
  · obtain ⟨ns, rfl, hln, hbits, q⟩ := h
    rfl
  · obtain ⟨ns, rfl, hln, hbits, q⟩ := h
    refine gss_cons ?_
    refine gs_par 1 2 ?_ sc__law_pot.nd
    refine ga_cons ?_
    refine ge_lc (own := [("cell", 3)]) (js := [3]) ?_ (by decide) sc__law_pot.nd (show BlkOk ["script", "cells", "stirred", "cell"] (defScope s__law_pot) _ [("cell", 3)] from ⟨rfl, by decide +kernel, by decide +kernel, by decide +kernel, by decide +kernel⟩)
    refine gi_lst ?_
    refine ge_lock ?_
    refine ge_slice ?_
    refine ge_name 0 rfl True.intro ?_
    refine go_none ?_
    refine go_some ?_
    refine ge_int ?_
    refine so_lI (ns.take 61) (cutL_to _ 61 rfl) fun p => lk_ (datas_d _) ?_
    refine onL_ ?_
    refine lc_I (fun _ => true) (fun c => .int (cellOf c)) (by walk_at "side") (fun ci c m hd => ?_) (fun pl => ?_)
    ·
      intro st H C cl fp
      refine gg_name 3 ?_ sc__law_pot.nd
      refine ⟨rfl, fun st H C cl fp => ?_⟩
      refine gts_nil ⟨rfl, rfl, fun hp st H C cl fp => ?_⟩
      refine ge_bin ?_
      refine ge_bin ?_
      refine ge_int ?_
      refine ge_callB G.abs bt_abs ?_
      refine ga_cons ?_
      refine ge_name 3 rfl True.intro ?_
      refine ga_nil ?_
      refine co_abs ?_
      first | refine bo_mulS (.inr ⟨by omega, by omega⟩) ?_ | refine bo_mulS (.inl ⟨by omega, by omega⟩) ?_ | refine bo_repI (by walk_at "side") (by walk_at "side") (by walk_at "side") ?_
      refine ge_callT G.int bt_int ?_
      refine ga_cons ?_
      refine ge_cmp ?_
      refine ge_name 3 rfl True.intro ?_
      refine ge_int ?_
      refine bo_lt ?_
      refine ga_nil ?_
      first | refine co_intI ?_ | refine co_intB ?_
      first | refine bo_add ?_ | refine bo_catI (by walk_at "side") ?_
      exact ⟨rfl, rfl⟩
    refine ga_cons ?_
    refine ge_bin ?_
    refine ge_int ?_
    refine ge_bin ?_
    refine ge_int ?_
    refine ge_callB G.len bt_len ?_
    refine ga_cons ?_
    refine ge_name 0 rfl True.intro ?_
    refine ga_nil ?_
    first | refine co_lenI ?_ | refine co_lenLI ?_ | refine co_lenT ?_ | refine co_lenL .d ?_ | refine co_lenL (.c .here) ?_
    first | refine bo_mulS (.inr ⟨by omega, by omega⟩) ?_ | refine bo_mulS (.inl ⟨by omega, by omega⟩) ?_ | refine bo_repI (by walk_at "side") (by walk_at "side") (by walk_at "side") ?_
    first | refine bo_add ?_ | refine bo_catI (by walk_at "side") ?_
    refine ga_nil ?_
    refine ⟨_, _, rfl, ?_⟩
    rw [all_true]
    have hcells : ((ns.take 61).map fun c => Sl.d (.int (cellOf c))) = (((ns.take 61).map cellOf).map fun n => Sl.d (.int n)) := by rw [List.map_map]; rfl
    rw [hcells]
    refine gss_lock 1 rfl .here (datas_ints _) .here ?_
    refine gss_cons ?_
    refine gs_for (js := [3]) ?_
    refine gi_lst ?_
    refine ge_name 1 rfl True.intro ?_
    refine onL_ ?_
    refine ⟨fun i ρ m => ∃ st x, ρ = [.d (dLs ns), .d (dLs ((ns.take 61).map cellOf)), .d (.int st), x] ∧ 0 ≤ st ∧ st < 4294967296 ∧ μ = m, ⟨_, _, rfl, by omega, by omega, rfl⟩, ?_, ?_⟩
    ·
      intro i d ρ m hd hI
      rw [List.getElem?_map] at hd
      obtain ⟨c, hc, rfl⟩ := Option.map_eq_some_iff.mp hd
      obtain ⟨st, x, rfl, h0, h1, rfl⟩ := hI
      refine gg_name 3 ?_ sc__law_pot.nd
      refine gss_cons ?_
      refine gs_set 2 ?_ sc__law_pot.nd
      refine ge_bin ?_
      refine ge_callT G.int bt_int ?_
      refine ga_cons ?_
      refine ge_bin ?_
      refine ge_bin ?_
      refine ge_bin ?_
      refine ge_name 2 rfl True.intro ?_
      refine ge_int ?_
      first | refine bo_mulS (.inr ⟨by omega, by omega⟩) ?_ | refine bo_mulS (.inl ⟨by omega, by omega⟩) ?_ | refine bo_repI (by walk_at "side") (by walk_at "side") (by walk_at "side") ?_
      refine ge_name 3 rfl True.intro ?_
      first | refine bo_add ?_ | refine bo_catI (by walk_at "side") ?_
      refine ge_int ?_
      first | refine bo_add ?_ | refine bo_catI (by walk_at "side") ?_
      refine ga_nil ?_
      first | refine co_intI ?_ | refine co_intB ?_
      refine ge_int ?_
      refine bo_mod (by walk_at "side") ?_
      refine gss_nil ?_
      exact ⟨_, _, rfl, Int.emod_nonneg _ (by decide), Int.lt_trans (Int.emod_lt_of_pos _ (by decide)) (by decide), rfl⟩
    ·
      intro ρ m hI
      obtain ⟨st, x, rfl, h0, h1, rfl⟩ := hI
      refine gss_cons ?_
      refine gs_ret ?_
      refine ge_disp (fun pd => ?_) (by repeat first | exact pps_nil | refine pps_cons we_pe we_pe ?_)
      refine gp_cons ?_ (by repeat first | exact pps_nil | refine pps_cons we_pe we_pe ?_)
      refine ge_str ?_
      refine ⟨_, _, rfl, rfl, ?_⟩
      refine ge_lc (own := [("cell", 3)]) (js := [3]) ?_ (by decide) sc__law_pot.nd (show BlkOk ["script", "cells", "stirred", "cell"] (defScope s__law_pot) _ [("cell", 3)] from ⟨rfl, by decide +kernel, by decide +kernel, by decide +kernel, by decide +kernel⟩)
      refine gi_lst ?_
      refine ge_name 1 rfl True.intro ?_
      refine onL_ ?_
      refine lc_I (fun c => decide (10 ^ 16 ≤ c)) (fun c => .int c) (by walk_at "side") (fun ci c m hd => ?_) (fun pl => ?_)
      ·
        intro st H C cl fp
        refine gg_name 3 ?_ sc__law_pot.nd
        refine ⟨rfl, fun st H C cl fp => ?_⟩
        refine gts_one ?_
        refine gt_cmp ?_
        refine ge_name 3 rfl True.intro ?_
        refine ge_bin ?_
        refine ge_int ?_
        refine ge_int ?_
        refine bo_pow ⟨by omega, by omega, by omega⟩ ?_
        refine bo_ge ?_
        refine ⟨_, rfl, ?_⟩
        refine ⟨rfl, rfl, fun hp st H C cl fp => ?_⟩
        refine ge_name 3 rfl True.intro ?_
        exact ⟨rfl, rfl⟩
      refine gp_cons ?_ (by repeat first | exact pps_nil | refine pps_cons we_pe we_pe ?_)
      refine ge_str ?_
      refine ⟨_, _, rfl, rfl, ?_⟩
      refine ge_name 2 rfl True.intro ?_
      refine gp_cons ?_ (by repeat first | exact pps_nil | refine pps_cons we_pe we_pe ?_)
      refine ge_str ?_
      refine ⟨_, _, rfl, rfl, ?_⟩
      refine ge_int ?_
      refine gp_nil ?_
      refine ⟨Nat.le_of_ble_eq_true rfl, _, _, merge_pot _ _ _, .there .here, .there .here, ?_⟩
      refine ⟨_, by walk_at "sub", q pd pl ⟨((ns.take 61).map cellOf).filter (fun c => decide (10 ^ 16 ≤ c)), st, 0⟩ ⟨fun c hc => ?_, ?_, h0, h1, Int.le_refl 0, Int.le_refl 0⟩⟩
      · obtain ⟨z, hz, rfl⟩ := List.mem_map.mp (List.mem_filter.mp hc).1
        exact cell_ok (hbits z (List.mem_of_mem_take hz))
      · refine Nat.le_trans (List.length_filter_le _ _) ?_
        rw [List.length_map, List.length_take]
        omega
abbrev s__law_draw : Stmt := topS 12
theorem sc__law_draw : FnScope ["pot", "many", "great", "cell", "turn", "rolled"] ["pot", "many"] (defScope s__law_draw) := ⟨rfl, rfl, rfl, by decide +kernel, rfl, by decide +kernel, by decide +kernel⟩
abbrev ps__law_draw : List Str := ["pot", "many"]
theorem ok__law_draw {k : Nat} (G : Gs mg) (D : Dn K mg "_law_draw" s__law_draw ps__law_draw)  : Cal P w K mg base (k + 1) "_law_draw" s__law_draw ps__law_draw sp__law_draw := by
  refine D.cal sc__law_draw (fun xs μ Q h => ?_) fun f cdv A outer s H xs μ Q hr hg h => ?_
  · obtain ⟨p, g, ⟨gr, st, tn⟩, n, many, rfl, hμ, hS, hn, hm0, hm, q⟩ := h
    rfl
  · obtain ⟨p, g, ⟨gr, st, tn⟩, n, many, rfl, hμ, hS, hn, hm0, hm, q⟩ := h
    obtain ⟨hgr, hln, hs0, hs1, ht0, ht1⟩ := hS
    obtain rfl : μ = [(g, .lst (gr.map fun n => Sl.d (.int n))), (p, .dK [(Sum.inr (Str.ofString "great"), .a g), (Sum.inr (Str.ofString "stirred"), .d (.int st)), (Sum.inr (Str.ofString "turn"), .d (.int tn))])] := hμ
    simp only at hgr hln hs0 hs1 ht0 ht1
    refine gss_cons ?_
    refine gs_set 2 ?_ sc__law_draw.nd
    refine ge_dget (hu := hu_of hr) ?_
    refine ge_name 0 rfl True.intro ?_
    refine ge_str ?_
    refine dg_K (.there .here) rfl (look_gr _ _ _) ?_
    refine gss_cons ?_
    refine gs_if ?_
    refine gt_cmp ?_
    refine ge_name 2 rfl True.intro ?_
    refine ge_lock ?_
    refine ge_lst ?_
    refine ga_nil ?_
    refine ⟨by walk_at "side", fun plk => lk_ rfl ?_⟩
    refine bo_ne0 (.c .here) (datas_ints _) (noDict_ints _) (shaped_listI _) (hu64 hr) ?_
    refine ⟨_, rfl, ?_⟩
    refine ⟨fun hT => ?_, fun hF => ?_⟩
    ·
      cases gr with
      | nil => exact absurd hT (by walk_at "no")
      | cons c gr =>
      have hc := hgr c List.mem_cons_self
      have hgr' := fun x m => hgr x (List.mem_cons_of_mem _ m)
      have hln' : gr.length + 1 ≤ 1000 := hln
      refine gss_cons ?_
      refine gs_set 3 ?_ sc__law_draw.nd
      refine ge_bm PySem.F.plainAttrs_list PySem.F.slot_list_pop PySem.F.type_list_pop ?_
      refine ge_name 2 rfl True.intro ?_
      refine ⟨tym_lst .here, ?_⟩
      refine ga_cons ?_
      refine ge_int ?_
      refine ga_nil ?_
      refine mo_popAt .here (by decide) (by decide) (j := 0) (seq0 (by rw [List.length_map]; exact Nat.succ_pos _)) rfl .here ?_
      refine gss_cons ?_
      refine gs_if ?_
      refine gt_cmp ?_
      refine ge_name 3 rfl True.intro ?_
      refine ge_name 1 rfl True.intro ?_
      refine bo_ge ?_
      refine ⟨_, rfl, ?_⟩
      refine ⟨fun hT => ?_, fun hF => ?_⟩
      ·
        refine gss_cons ?_
        refine gs_expr ?_
        refine ge_bm PySem.F.plainAttrs_list PySem.F.slot_list_insert PySem.F.type_list_insert ?_
        refine ge_name 2 rfl True.intro ?_
        refine ⟨tym_lst .here, ?_⟩
        refine ga_cons ?_
        refine ge_int ?_
        refine ga_cons ?_
        refine ge_bin ?_
        refine ge_name 3 rfl True.intro ?_
        refine ge_name 1 rfl True.intro ?_
        refine bo_div (cdiv hm0 hm) ?_
        refine ga_nil ?_
        refine mo_insert .here (by decide) (by decide) (by rw [sizeLine_eq]; show (gr.map _).length < _; rw [List.length_map]; omega) .here ?_
        refine gss_nil ?_
        refine gss_cons ?_
        refine gs_ret ?_
        refine ge_bin ?_
        refine ge_callT G.int bt_int ?_
        refine ga_cons ?_
        refine ge_name 3 rfl True.intro ?_
        refine ga_nil ?_
        first | refine co_intI ?_ | refine co_intB ?_
        refine ge_name 1 rfl True.intro ?_
        refine bo_mod (by walk_at "side") ?_
        exact ⟨_, by walk_at "sub", q _ ⟨(c / many) :: gr, st, tn⟩ (Int.emod_nonneg _ (by omega)) (Int.emod_lt_of_pos _ hm0) ⟨fun x m => by
          rcases List.mem_cons.mp m with e | m
          · subst e; exact pot_div hc hm0
          · exact hgr' x m, by show gr.length + 1 ≤ 1000; omega, hs0, hs1, ht0, by show tn ≤ _; omega⟩⟩
      ·
        refine gss_nil ?_
        refine gss_cons ?_
        refine gs_ret ?_
        refine ge_bin ?_
        refine ge_callT G.int bt_int ?_
        refine ga_cons ?_
        refine ge_name 3 rfl True.intro ?_
        refine ga_nil ?_
        first | refine co_intI ?_ | refine co_intB ?_
        refine ge_name 1 rfl True.intro ?_
        refine bo_mod (by walk_at "side") ?_
        exact ⟨_, by walk_at "sub", q _ ⟨gr, st, tn⟩ (Int.emod_nonneg _ (by omega)) (Int.emod_lt_of_pos _ hm0) ⟨hgr', by show gr.length ≤ 1000; omega, hs0, hs1, ht0, by show tn ≤ _; omega⟩⟩
    ·
      cases gr with
      | cons c gr => exact absurd hF (by walk_at "no")
      | nil =>
      refine gss_nil ?_
      refine gss_cons ?_
      refine gs_dput (hu := hu_of hr) ?_
      refine ge_bin ?_
      refine ge_dget (hu := hu_of hr) ?_
      refine ge_name 0 rfl True.intro ?_
      refine ge_str ?_
      refine dg_K (.there .here) rfl (look_tn _ _ _) ?_
      refine ge_int ?_
      first | refine bo_add ?_ | refine bo_catI (by walk_at "side") ?_
      refine ge_name 0 rfl True.intro ?_
      refine ge_str ?_
      refine dp_Ke (.there .here) rfl (put_tn _ _ _ _) (by rw [sizeLine_eq]; exact Nat.le_of_ble_eq_true rfl) (.there .here) ?_
      refine gss_cons ?_
      refine gs_set 4 ?_ sc__law_draw.nd
      refine ge_dget (hu := hu_of hr) ?_
      refine ge_name 0 rfl True.intro ?_
      refine ge_str ?_
      refine dg_K (.there .here) rfl (look_tn _ _ _) ?_
      refine gss_cons ?_
      refine gs_set 5 ?_ sc__law_draw.nd
      refine ge_bin ?_
      refine ge_callT G.int bt_int ?_
      refine ga_cons ?_
      refine ge_bin ?_
      refine ge_bin ?_
      refine ge_bin ?_
      refine ge_dget (hu := hu_of hr) ?_
      refine ge_name 0 rfl True.intro ?_
      refine ge_str ?_
      refine dg_K (.there .here) rfl (look_st _ _ _) ?_
      refine ge_int ?_
      first | refine bo_mulS (.inr ⟨by omega, by omega⟩) ?_ | refine bo_mulS (.inl ⟨by omega, by omega⟩) ?_ | refine bo_repI (by walk_at "side") (by walk_at "side") (by walk_at "side") ?_
      refine ge_bin ?_
      refine ge_bin ?_
      refine ge_name 4 rfl True.intro ?_
      refine ge_name 4 rfl True.intro ?_
      first | refine bo_mulS (.inr ⟨by omega, by omega⟩) ?_ | refine bo_mulS (.inl ⟨by omega, by omega⟩) ?_ | refine bo_repI (by walk_at "side") (by walk_at "side") (by walk_at "side") ?_
      refine ge_int ?_
      first | refine bo_mulS (.inr ⟨by omega, by omega⟩) ?_ | refine bo_mulS (.inl ⟨by omega, by omega⟩) ?_ | refine bo_repI (by walk_at "side") (by walk_at "side") (by walk_at "side") ?_
      first | refine bo_add ?_ | refine bo_catI (by walk_at "side") ?_
      refine ge_bin ?_
      refine ge_int ?_
      refine ge_name 4 rfl True.intro ?_
      first | refine bo_mulS (.inr ⟨by omega, by omega⟩) ?_ | refine bo_mulS (.inl ⟨by omega, by omega⟩) ?_ | refine bo_repI (by walk_at "side") (by walk_at "side") (by walk_at "side") ?_
      first | refine bo_add ?_ | refine bo_catI (by walk_at "side") ?_
      refine ga_nil ?_
      first | refine co_intI ?_ | refine co_intB ?_
      refine ge_int ?_
      refine bo_mod (by walk_at "side") ?_
      refine gss_cons ?_
      refine gs_set 5 ?_ sc__law_draw.nd
      refine ge_bin ?_
      refine ge_callT G.int bt_int ?_
      refine ga_cons ?_
      refine ge_bin ?_
      refine ge_bin ?_
      refine ge_name 5 rfl True.intro ?_
      refine ge_int ?_
      first | refine bo_mulS (.inr ⟨by omega, by omega⟩) ?_ | refine bo_mulS (.inl ⟨by omega, by omega⟩) ?_ | refine bo_repI (by walk_at "side") (by walk_at "side") (by walk_at "side") ?_
      refine ge_bin ?_
      refine ge_name 5 rfl True.intro ?_
      refine ge_int ?_
      refine bo_div (cdiv (by omega) (by omega)) ?_
      first | refine bo_add ?_ | refine bo_catI (by walk_at "side") ?_
      refine ga_nil ?_
      first | refine co_intI ?_ | refine co_intB ?_
      refine ge_int ?_
      refine bo_mod (by walk_at "side") ?_
      refine gss_cons ?_
      refine gs_dput (hu := hu_of hr) ?_
      refine ge_name 5 rfl True.intro ?_
      refine ge_name 0 rfl True.intro ?_
      refine ge_str ?_
      refine dp_Ke (.there .here) rfl (put_st _ _ _ _) (by rw [sizeLine_eq]; exact Nat.le_of_ble_eq_true rfl) (.there .here) ?_
      refine gss_cons ?_
      refine gs_ret ?_
      refine ge_bin ?_
      refine ge_callT G.int bt_int ?_
      refine ga_cons ?_
      refine ge_bin ?_
      refine ge_name 5 rfl True.intro ?_
      refine ge_int ?_
      refine bo_div (cdiv (by omega) (by omega)) ?_
      refine ga_nil ?_
      first | refine co_intI ?_ | refine co_intB ?_
      refine ge_name 1 rfl True.intro ?_
      refine bo_mod (by walk_at "side") ?_
      exact ⟨_, by walk_at "sub", q _ ⟨[], _, tn + 1⟩ (Int.emod_nonneg _ (by omega)) (Int.emod_lt_of_pos _ hm0) ⟨fun x m => (nomatch m), Nat.zero_le _, Int.emod_nonneg _ (by decide), by show _ % 4294967291 < 4294967296; omega, by show 0 ≤ tn + 1; omega, by show tn + 1 ≤ _; omega⟩⟩
abbrev s__law_pick : Stmt := topS 13
theorem sc__law_pick : FnScope ["pot", "row"] ["pot", "row"] (defScope s__law_pick) := ⟨rfl, rfl, rfl, by decide +kernel, rfl, by decide +kernel, by decide +kernel⟩
abbrev ps__law_pick : List Str := ["pot", "row"]
theorem ok__law_pick {k : Nat} (G : Gs mg) (D : Dn K mg "_law_pick" s__law_pick ps__law_pick) (C__law_draw : Cal P w K mg base k "_law_draw" s__law_draw ps__law_draw sp__law_draw) : Cal P w K mg base (k + 1) "_law_pick" s__law_pick ps__law_pick sp__law_pick := by
  refine D.cal sc__law_pick (fun xs μ Q h => ?_) fun f cdv A outer s H xs μ Q hr hg h => ?_
  · obtain ⟨p, g, S, n, x, ds, rfl, hx, rfl, hS, hn, hne, hl, q⟩ := h
    rfl
  · obtain ⟨p, g, S, n, x, ds, rfl, hx, rfl, hS, hn, hne, hl, q⟩ := h
    have hpos : 0 < ds.length := List.length_pos_iff.mpr hne
    rcases hx with rfl | rfl
    all_goals (
      refine gss_cons ?_
      refine gs_ret ?_
      refine ge_ix ?_
      refine ge_name 1 rfl True.intro ?_
      refine ge_cal C__law_draw hr hg ?_
      refine ga_cons ?_
      refine ge_name 0 rfl True.intro ?_
      refine ga_cons ?_
      refine ge_callB G.len bt_len ?_
      refine ga_cons ?_
      refine ge_name 1 rfl True.intro ?_
      refine ga_nil ?_
      first | refine co_lenT ?_ | (refine co_lenL .d ?_; rw [List.length_map])
      refine ga_nil ?_
      refine ⟨_, _, .cons .here (.cons .here .nil), _, _, _, _, _, rfl, rfl, hS, by walk_at "side", by walk_at "side", by walk_at "side", fun r S' h0 h1 hS => ?_⟩
      obtain ⟨j, rfl⟩ : ∃ j : Nat, r = j := ⟨r.toNat, by omega⟩
      have hj : j < ds.length := by omega
      first | refine io_tup (atI_nat (List.getElem?_eq_getElem hj)) ?_ | refine io_lst (atI_nat (List.getElem?_eq_getElem hj)) ?_
      exact ⟨_, by walk_at "sub", q _ _ (List.getElem_mem hj) hS⟩
    )
abbrev s__law_is_int : Stmt := topS 16
theorem sc__law_is_int : FnScope ["value", "low", "high"] ["value", "low", "high"] (defScope s__law_is_int) := ⟨rfl, rfl, rfl, by decide +kernel, rfl, by decide +kernel, by decide +kernel⟩
abbrev ps__law_is_int : List Str := ["value", "low", "high"]
theorem ok__law_is_int {k : Nat} (G : Gs mg) (D : Dn K mg "_law_is_int" s__law_is_int ps__law_is_int)  : Cal P w K mg base (k + 1) "_law_is_int" s__law_is_int ps__law_is_int sp__law_is_int := by
  refine D.cal sc__law_is_int (fun xs μ Q h => ?_) fun f cdv A outer s H xs μ Q hr hg h => ?_
  · obtain ⟨d, lo, hi, rfl, hv, q⟩ := h
    rfl
  · obtain ⟨d, lo, hi, rfl, hv, q⟩ := h
    refine gss_cons ?_
    refine gs_ret ?_
    refine ge_and ?_
    refine ge_callB G.isinstance bt_isinstance ?_
    refine ga_cons ?_
    refine ge_name 0 rfl True.intro ?_
    refine ga_cons ?_
    refine ge_ty G.int bt_int ?_
    refine ga_nil ?_
    refine co_isIntV hv ?_
    refine onB_ ⟨fun hT => ?_, fun hF => ?_⟩
    ·
      have hT' := hT
      refine later ?_
      refine ge_and ?_
      refine ge_not ?_
      refine ge_callB G.isinstance bt_isinstance ?_
      refine ga_cons ?_
      refine ge_name 0 rfl True.intro ?_
      refine ga_cons ?_
      refine ge_ty G.bool bt_bool ?_
      refine ga_nil ?_
      refine co_isBoolV hv ?_
      refine onB_ ⟨fun hT => ?_, fun hF => ?_⟩
      ·
        obtain ⟨v, rfl⟩ := int_of hT' hT
        refine later ?_
        refine ge_one ?_
        refine ge_chain ?_
        refine ge_name 1 rfl True.intro ?_
        refine ge_name 0 rfl True.intro ?_
        refine bo_le ?_
        refine onB_ ⟨fun hT => ?_, fun hF => ?_⟩
        ·
          refine chain2 ?_
          refine ge_name 2 rfl True.intro ?_
          refine bo_le ?_
          rw [show inIv (.int v) lo hi = (decide (lo ≤ v) && decide (v ≤ hi)) from rfl, hT, Bool.true_and] at q
          exact ⟨_, by walk_at "sub", q⟩
        ·
          rw [show inIv (.int v) lo hi = (decide (lo ≤ v) && decide (v ≤ hi)) from rfl, hF, Bool.false_and] at q
          exact ⟨_, by walk_at "sub", q⟩
      ·
        rw [inIv_no (by rw [hF, Bool.and_false])] at q
        exact ⟨_, by walk_at "sub", q⟩
    ·
      rw [inIv_no (by rw [hF, Bool.false_and])] at q
      exact ⟨_, by walk_at "sub", q⟩
abbrev s__law_with : Stmt := topS 15
theorem sc__law_with : FnScope ["row", "spot", "item"] ["row", "spot", "item"] (defScope s__law_with) := ⟨rfl, rfl, rfl, by decide +kernel, rfl, by decide +kernel, by decide +kernel⟩
abbrev ps__law_with : List Str := ["row", "spot", "item"]
theorem ok__law_with {k : Nat} (G : Gs mg) (D : Dn K mg "_law_with" s__law_with ps__law_with)  : Cal P w K mg base (k + 1) "_law_with" s__law_with ps__law_with sp__law_with := by
  refine D.cal sc__law_with (fun xs μ Q h => ?_) fun f cdv A outer s H xs μ Q hr hg h => ?_
  · obtain ⟨ds, i, x, rfl, hi, hl, q⟩ := h
    rfl
  · obtain ⟨ds, i, x, rfl, hi, hl, q⟩ := h
    refine gss_cons ?_
    refine gs_ret ?_
    refine ge_bin ?_
    refine ge_bin ?_
    refine ge_slice ?_
    refine ge_name 0 rfl True.intro ?_
    refine go_none ?_
    refine go_some ?_
    refine ge_name 1 rfl True.intro ?_
    refine so_tD (ds.take i) (cutL_to _ i rfl) ?_
    refine ge_tup ?_
    refine ga_cons ?_
    refine ge_name 2 rfl True.intro ?_
    refine ga_nil ?_
    refine ⟨[x], rfl, by walk_at "side", ?_⟩
    refine bo_catT (by simp only [List.length_append, List.length_take, List.length_drop, List.length_cons, List.length_nil, sizeLine_eq]; omega) ?_
    refine ge_slice ?_
    refine ge_name 0 rfl True.intro ?_
    refine go_some ?_
    refine ge_bin ?_
    refine ge_name 1 rfl True.intro ?_
    refine ge_int ?_
    refine bo_add ?_
    refine go_none ?_
    refine so_tD (ds.drop (i + 1)) (cutL_from _ (i + 1) (by omega)) ?_
    refine bo_catT (by simp only [List.length_append, List.length_take, List.length_drop, List.length_cons, List.length_nil, sizeLine_eq]; omega) ?_
    exact ⟨_, by walk_at "sub", q⟩
abbrev s__law_mixed : Stmt := topS 14
theorem sc__law_mixed : FnScope ["pot", "row", "left", "found", "turn"] ["pot", "row"] (defScope s__law_mixed) := ⟨rfl, rfl, rfl, by decide +kernel, rfl, by decide +kernel, by decide +kernel⟩
theorem PotOk.up {n m : Nat} {S : PotS} (h : PotOk n S) (k : n ≤ m) : PotOk m S := ⟨h.gr, h.ln, h.s0, h.s1, h.t0, Int.le_trans h.t1 (by omega)⟩
theorem seqJ {j n : Nat} (h : j < n) : seqIndex? (j : Int) n = some j := by
  unfold seqIndex?
  simp only [show ¬ ((j : Int) < 0) from by omega, if_false]
  rw [if_pos (by simp; omega)]
  rw [Int.toNat_natCast]
theorem map_erase {α β : Type} (f : α → β) : ∀ (xs : List α) (j : Nat), (xs.eraseIdx j).map f = (xs.map f).eraseIdx j
  | [], _ => rfl
  | _ :: _, 0 => rfl
  | x :: xs, j + 1 => by
    show f x :: (xs.eraseIdx j).map f = f x :: (xs.map f).eraseIdx j
    rw [map_erase f xs j]
theorem perm_erase {α : Type} : ∀ {xs : List α} {j : Nat} (h : j < xs.length), ([xs[j]] ++ xs.eraseIdx j).Perm xs
  | x :: xs, 0, _ => .refl _
  | x :: xs, j + 1, h => by
    have ih := perm_erase (xs := xs) (j := j) (by simpa using h)
    exact (List.Perm.swap x _ _).trans (ih.cons x)

abbrev ps__law_mixed : List Str := ["pot", "row"]
theorem ok__law_mixed {k : Nat} (G : Gs mg) (D : Dn K mg "_law_mixed" s__law_mixed ps__law_mixed) (C__law_draw : Cal P w K mg base k "_law_draw" s__law_draw ps__law_draw sp__law_draw) : Cal P w K mg base (k + 1) "_law_mixed" s__law_mixed ps__law_mixed sp__law_mixed := by
  refine D.cal sc__law_mixed (fun xs μ Q h => ?_) fun f cdv A outer s H xs μ Q hr hg h => ?_
  · obtain ⟨p, g, S, n, ds, rfl, rfl, hS, hn, hl, q⟩ := h
    rfl
  · obtain ⟨p, g, S, n, ds, rfl, rfl, hS, hn, hl, q⟩ := h
    refine gss_cons ?_
    refine gs_par 2 3 ?_ sc__law_mixed.nd
    refine ga_cons ?_
    refine ge_callT G.list bt_list ?_
    refine ga_cons ?_
    refine ge_name 1 rfl True.intro ?_
    refine ga_nil ?_
    refine co_lstL .d fun pl => ?_
    refine ga_cons ?_
    refine ge_lst ?_
    refine ga_nil ?_
    refine ⟨by walk_at "side", fun pf => ?_⟩
    refine ga_nil ?_
    refine ⟨_, _, rfl, ?_⟩
    refine gss_cons ?_
    refine gs_for (js := [4]) ?_
    refine gi_range1 (hm := G.range) ?_
    refine ge_callB G.len bt_len ?_
    refine ga_cons ?_
    refine ge_name 1 rfl True.intro ?_
    refine ga_nil ?_
    refine co_lenL .d ?_
    rw [List.length_map]
    refine onI_ ⟨by walk_at "side", by walk_at "side", ?_⟩
    refine ⟨fun i ρ m => ∃ S' ls fs x, ρ = [.a p, .d (.list ds), .a pl, .a pf, x] ∧ Wk ((pf, .lst (fs.map Sl.d)) :: (pl, .lst (ls.map Sl.d)) :: PotM p g S') m ∧ (fs ++ ls).Perm ds ∧ fs.length = i ∧ PotOk (n + i) S', ⟨S, ds, [], _, rfl, by walk_at "sub", .refl _, rfl, hS⟩, ?_, ?_⟩
    ·
      intro i d ρ m hd hI
      obtain ⟨hi, rfl⟩ := rangeD_at hd
      obtain ⟨S1, ls, fs, x, rfl, hwk, hp, hf, hS⟩ := hI
      rw [Int.toNat_natCast] at hi
      have hlen := hp.length_eq
      rw [List.length_append] at hlen
      refine gg_wk hwk ?_
      refine gg_name 4 ?_ sc__law_mixed.nd
      refine gss_cons ?_
      refine gs_expr ?_
      refine ge_bm PySem.F.plainAttrs_list PySem.F.slot_list_append PySem.F.type_list_append ?_
      refine ge_name 3 rfl True.intro ?_
      refine ⟨tym_lst .here, ?_⟩
      refine ga_cons ?_
      refine ge_bm PySem.F.plainAttrs_list PySem.F.slot_list_pop PySem.F.type_list_pop ?_
      refine ge_name 2 rfl True.intro ?_
      refine ⟨tym_lst (.there .here), ?_⟩
      refine ga_cons ?_
      refine ge_cal C__law_draw hr hg ?_
      refine ga_cons ?_
      refine ge_name 0 rfl True.intro ?_
      refine ga_cons ?_
      refine ge_callB G.len bt_len ?_
      refine ga_cons ?_
      refine ge_name 2 rfl True.intro ?_
      refine ga_nil ?_
      refine co_lenL (.c (.there .here)) ?_
      rw [List.length_map]
      refine ga_nil ?_
      refine ⟨_, _, .cons (.there (.there .here)) (.cons (.there (.there .here)) .nil), p, g, S1, n + i, (ls.length : Int), rfl, rfl, hS, by omega, by omega, by omega, fun r S2 h0 h1 hS => ?_⟩
      obtain ⟨j, rfl⟩ : ∃ j : Nat, r = j := ⟨r.toNat, by omega⟩
      have hj : j < ls.length := by omega
      refine ga_nil ?_
      refine mo_popAt (j := j) (y := .d ls[j]) (.there (.there (.there .here))) (by omega) (by omega) (by rw [List.length_map]; exact seqJ hj) (by rw [List.getElem?_map, List.getElem?_eq_getElem hj]; rfl) (.there (.there (.there .here))) ?_
      refine ga_nil ?_
      refine mo_append (.there (.there .here)) (by rw [List.length_map, sizeLine_eq]; omega) (.there (.there .here)) ?_
      refine gss_nil ?_
      refine ⟨S2, ls.eraseIdx j, fs ++ [ls[j]], _, rfl, ?_, ?_, by rw [List.length_append, hf]; rfl, hS⟩
      · rw [List.map_append, ← map_erase]
        walk_at "sub"
      · rw [List.append_assoc]
        exact (List.Perm.append_left fs (perm_erase hj)).trans hp
    ·
      intro ρ m hI
      obtain ⟨S1, ls, fs, x, rfl, hwk, hp, hf, hS⟩ := hI
      rw [rangeD_len, Int.toNat_natCast] at hf hS
      have hlen := hp.length_eq
      rw [List.length_append] at hlen
      obtain rfl : ls = [] := List.length_eq_zero_iff.mp (by omega)
      rw [List.append_nil] at hp
      refine gss_cons ?_
      refine gs_ret ?_
      refine ge_name 3 rfl True.intro ?_
      exact ⟨_, (show Wk ((pf, .lst (fs.map Sl.d)) :: PotM p g S1) _ from by walk_at "sub").trans hwk, q pf fs S1 hp (hS.up (by omega))⟩
abbrev s__law_odd : Stmt := topS 18
theorem sc__law_odd : FnScope ["pot", "some"] ["pot"] (defScope s__law_odd) := ⟨rfl, rfl, rfl, by decide +kernel, rfl, by decide +kernel, by decide +kernel⟩
def oddL : List PyData := [.none, .bool true, .int 0, .int (-1), .str (Str.ofString ""), .tuple [], .list [], .dict [], .tuple [.int 0], .tuple [.tuple [.int 0, .int 1]], .tuple [.none], .tuple [.tuple []], .str (Str.ofString "list"), .int (10 ^ (30 : Int).toNat)] ++ [.tuple [.int 1, .int 2], .tuple [.str (Str.ofString "list"), .tuple []], .tuple [.list [], .tuple []], .tuple [.str (Str.ofString "sides"), .int 1, .int 1], .tuple [.tuple [.int 0, .int 1], .int 1]]
def gdB (d : PyData) : Bool := match d with
  | .dict [] => true
  | d => d.showable && !d.hasDict && decide (d.shown.length ≤ 8000000) && decide (d.depth ≤ 7)
theorem gdB_ok {d : PyData} (h : gdB d = true) : Gd d := by
  unfold gdB at h
  split at h
  · exact .inr rfl
  · simp only [Bool.and_eq_true, Bool.not_eq_true', decide_eq_true_eq] at h
    exact .inl ⟨h.1.1.1, h.1.1.2, h.1.2, h.2⟩
theorem odd_all : oddL.all gdB = true := by decide +kernel
theorem odd_ok (d : PyData) (h : d ∈ oddL) : Gd d := gdB_ok (List.all_eq_true.mp odd_all d h)

abbrev ps__law_odd : List Str := ["pot"]
theorem ok__law_odd {k : Nat} (G : Gs mg) (D : Dn K mg "_law_odd" s__law_odd ps__law_odd) (C__law_pick : Cal P w K mg base k "_law_pick" s__law_pick ps__law_pick sp__law_pick) : Cal P w K mg base (k + 1) "_law_odd" s__law_odd ps__law_odd sp__law_odd := by
  refine D.cal sc__law_odd (fun xs μ Q h => ?_) fun f cdv A outer s H xs μ Q hr hg h => ?_
  · obtain ⟨p, g, S, n, rfl, rfl, hS, hn, q⟩ := h
    rfl
  · obtain ⟨p, g, S, n, rfl, rfl, hS, hn, q⟩ := h
    refine gss_cons ?_
    refine gs_set 1 ?_ sc__law_odd.nd
    refine ge_lst ?_
    refine ga_cons ?_
    refine ge_non ?_
    refine ga_cons ?_
    refine ge_bl ?_
    refine ga_cons ?_
    refine ge_int ?_
    refine ga_cons ?_
    refine ge_neg ?_
    refine ge_int ?_
    refine ga_cons ?_
    refine ge_str ?_
    refine ga_cons ?_
    refine ge_tup ?_
    refine ga_nil ?_
    refine ⟨_, rfl, by walk_at "side", ?_⟩
    refine ga_cons ?_
    refine ge_lock ?_
    refine ge_lst ?_
    refine ga_nil ?_
    refine ⟨by walk_at "side", fun plk => lk_ rfl ?_⟩
    refine ga_cons ?_
    refine ge_dictD ?_
    refine ga_cons ?_
    refine ge_tup ?_
    refine ga_cons ?_
    refine ge_int ?_
    refine ga_nil ?_
    refine ⟨_, rfl, by walk_at "side", ?_⟩
    refine ga_cons ?_
    refine ge_tup ?_
    refine ga_cons ?_
    refine ge_tup ?_
    refine ga_cons ?_
    refine ge_int ?_
    refine ga_cons ?_
    refine ge_int ?_
    refine ga_nil ?_
    refine ⟨_, rfl, by walk_at "side", ?_⟩
    refine ga_nil ?_
    refine ⟨_, rfl, by walk_at "side", ?_⟩
    refine ga_cons ?_
    refine ge_tup ?_
    refine ga_cons ?_
    refine ge_non ?_
    refine ga_nil ?_
    refine ⟨_, rfl, by walk_at "side", ?_⟩
    refine ga_cons ?_
    refine ge_tup ?_
    refine ga_cons ?_
    refine ge_tup ?_
    refine ga_nil ?_
    refine ⟨_, rfl, by walk_at "side", ?_⟩
    refine ga_nil ?_
    refine ⟨_, rfl, by walk_at "side", ?_⟩
    refine ga_cons ?_
    refine ge_str ?_
    refine ga_cons ?_
    refine ge_bin ?_
    refine ge_int ?_
    refine ge_int ?_
    refine bo_pow ⟨by omega, by omega, by omega⟩ ?_
    refine ga_nil ?_
    refine ⟨by walk_at "side", fun ps => ?_⟩
    refine gss_cons ?_
    refine gs_ret ?_
    refine ge_cal C__law_pick hr hg ?_
    refine ga_cons ?_
    refine ge_name 0 rfl True.intro ?_
    refine ga_cons ?_
    refine ge_lock ?_
    refine ge_bin ?_
    refine ge_name 1 rfl True.intro ?_
    refine ge_lock ?_
    refine ge_lst ?_
    refine ga_cons ?_
    refine ge_tup ?_
    refine ga_cons ?_
    refine ge_int ?_
    refine ga_cons ?_
    refine ge_int ?_
    refine ga_nil ?_
    refine ⟨_, rfl, by walk_at "side", ?_⟩
    refine ga_cons ?_
    refine ge_tup ?_
    refine ga_cons ?_
    refine ge_str ?_
    refine ga_cons ?_
    refine ge_tup ?_
    refine ga_nil ?_
    refine ⟨_, rfl, by walk_at "side", ?_⟩
    refine ga_nil ?_
    refine ⟨_, rfl, by walk_at "side", ?_⟩
    refine ga_cons ?_
    refine ge_tup ?_
    refine ga_cons ?_
    refine ge_lock ?_
    refine ge_lst ?_
    refine ga_nil ?_
    refine ⟨by walk_at "side", fun plk => lk_ rfl ?_⟩
    refine ga_cons ?_
    refine ge_tup ?_
    refine ga_nil ?_
    refine ⟨_, rfl, by walk_at "side", ?_⟩
    refine ga_nil ?_
    refine ⟨_, rfl, by walk_at "side", ?_⟩
    refine ga_cons ?_
    refine ge_tup ?_
    refine ga_cons ?_
    refine ge_str ?_
    refine ga_cons ?_
    refine ge_int ?_
    refine ga_cons ?_
    refine ge_int ?_
    refine ga_nil ?_
    refine ⟨_, rfl, by walk_at "side", ?_⟩
    refine ga_cons ?_
    refine ge_tup ?_
    refine ga_cons ?_
    refine ge_tup ?_
    refine ga_cons ?_
    refine ge_int ?_
    refine ga_cons ?_
    refine ge_int ?_
    refine ga_nil ?_
    refine ⟨_, rfl, by walk_at "side", ?_⟩
    refine ga_cons ?_
    refine ge_int ?_
    refine ga_nil ?_
    refine ⟨_, rfl, by walk_at "side", ?_⟩
    refine ga_nil ?_
    refine ⟨by walk_at "side", fun plk => lk_ rfl ?_⟩
    refine bo_catL (.c .here) .d (by exact Nat.le_of_ble_eq_true rfl) fun pc => lk_ rfl ?_
    refine ga_nil ?_
    refine ⟨_, _, .cons (.there .here) (.cons (.there .here) .nil), ?_⟩
    refine ⟨p, g, S, n, .list oddL, oddL, rfl, .inl rfl, rfl, hS, by omega, ?_, ?_, fun dd S1 hdd hS => ?_⟩
    · exact fun z => nomatch z
    · exact Nat.lt_of_le_of_lt (show oddL.length ≤ 19 from Nat.le_of_ble_eq_true rfl) (by decide)
    exact ⟨_, by walk_at "sub", q dd S1 (odd_ok dd hdd) hS⟩
abbrev s__law_bent : Stmt := topS 17
theorem sc__law_bent : FnScope ["pot", "row", "items", "own", "i", "j", "found", "turn"] ["pot", "row", "items"] (defScope s__law_bent) := ⟨rfl, rfl, rfl, by decide +kernel, rfl, by decide +kernel, by decide +kernel⟩
theorem cutL_last {α : Type} (xs : List α) : cutL xs (some (-1)) none = xs.drop (xs.length - 1) := by
  unfold cutL
  rw [HT.sIx_none]
  have e : HT.sIx xs.length 0 (some (-1)) = xs.length - 1 := by
    show (if (-1 : Int) < 0 then ((-1 : Int) + (xs.length : Int)).toNat else min (-1 : Int).toNat xs.length) = _
    rw [if_pos (by decide)]
    omega
  rw [e, List.take_of_length_le (by rw [List.length_drop]; omega)]
theorem datas_app (ds es : List PyData) : datas (ds.map Sl.d ++ es.map Sl.d) = some (ds ++ es) := by rw [← List.map_append]; exact datas_d _
theorem mem_drop_abs {w : List Int} (h : ∀ x ∈ w, x.natAbs < 2 ^ 64) (n : Nat) : ∀ x ∈ w.drop n, x.natAbs < 2 ^ 64 := fun x m => h x (List.mem_of_mem_drop m)

abbrev ps__law_bent : List Str := ["pot", "row", "items"]
theorem ok__law_bent {k : Nat} (G : Gs mg) (D : Dn K mg "_law_bent" s__law_bent ps__law_bent) (C__law_draw : Cal P w K mg base k "_law_draw" s__law_draw ps__law_draw sp__law_draw) (C__law_with : Cal P w K mg base k "_law_with" s__law_with ps__law_with sp__law_with) (C__law_pick : Cal P w K mg base k "_law_pick" s__law_pick ps__law_pick sp__law_pick) : Cal P w K mg base (k + 1) "_law_bent" s__law_bent ps__law_bent sp__law_bent := by
  refine D.cal sc__law_bent (fun xs μ Q h => ?_) fun f cdv A outer s H xs μ Q hr hg h => ?_
  · obtain ⟨p, g, S, n, w, ds, rfl, rfl, hS, hn, hne, hwl, hwa, hds, hdl, hsm, q⟩ := h
    rfl
  · obtain ⟨p, g, S, n, w, ds, rfl, rfl, hS, hn, hne, hwl, hwa, hds, hdl, hsm, q⟩ := h
    have hpos : 0 < w.length := List.length_pos_iff.mpr hne
    have hml : (w.map PyData.int).length = w.length := List.length_map ..
    have hwS := sm_ints hwa
    refine gss_cons ?_
    refine gs_if ?_
    refine gt_cmp ?_
    refine ge_name 1 rfl True.intro ?_
    refine ge_tup ?_
    refine ga_nil ?_
    refine ⟨List.map PyData.int [], rfl, by walk_at "side", ?_⟩
    refine bo_eqTI (hu64 hr) ?_
    refine ⟨_, rfl, ?_⟩
    refine ⟨fun hT => (show False from hne (of_decide_eq_true hT)).elim, fun _ => ?_⟩
    refine gss_nil ?_
    refine gss_cons ?_
    refine gs_tup (js := [4, 5]) ?_
    refine ga_cons ?_
    refine ge_cal C__law_draw hr hg ?_
    refine ga_cons ?_
    refine ge_name 0 rfl True.intro ?_
    refine ga_cons ?_
    refine ge_callB G.len bt_len ?_
    refine ga_cons ?_
    refine ge_name 1 rfl True.intro ?_
    refine ga_nil ?_
    first | refine co_lenI ?_ | refine co_lenLI ?_ | refine co_lenT ?_ | refine co_lenL .d ?_ | refine co_lenL (.c .here) ?_
    refine ga_nil ?_
    refine ⟨_, _, .cons .here (.cons .here .nil), p, g, S, n, (w.length : Int), rfl, rfl, hS, by omega, by omega, by omega, fun r S1 h0 h1 hS => ?_⟩
    obtain ⟨i, rfl⟩ : ∃ i : Nat, r = i := ⟨r.toNat, by omega⟩
    have hi : i < w.length := by omega
    refine ga_cons ?_
    refine ge_cal C__law_draw hr hg ?_
    refine ga_cons ?_
    refine ge_name 0 rfl True.intro ?_
    refine ga_cons ?_
    refine ge_callB G.len bt_len ?_
    refine ga_cons ?_
    refine ge_name 1 rfl True.intro ?_
    refine ga_nil ?_
    first | refine co_lenI ?_ | refine co_lenLI ?_ | refine co_lenT ?_ | refine co_lenL .d ?_ | refine co_lenL (.c .here) ?_
    refine ga_nil ?_
    refine ⟨_, _, .cons .here (.cons .here .nil), p, g, S1, n + 1, (w.length : Int), rfl, rfl, hS, by omega, by omega, by omega, fun r S2 h0 h1 hS => ?_⟩
    obtain ⟨j, rfl⟩ : ∃ j : Nat, r = j := ⟨r.toNat, by omega⟩
    have hj : j < w.length := by omega
    have hvj := List.getElem?_eq_getElem hj
    have hvi := List.getElem?_eq_getElem hi
    refine ga_nil ?_
    refine ⟨by walk_at "side", rfl, ?_⟩
    refine ggs_cons (js := [4]) (ks := [5]) ?_
    refine gg_name 4 ?_ sc__law_bent.nd
    refine ggs_cons (js := [5]) (ks := []) ?_
    refine gg_name 5 ?_ sc__law_bent.nd
    refine ggs_nil ?_
    refine gss_cons ?_
    refine gs_setLc 6 (own := [("own", 3)]) (js := [3]) ?_ (by decide) sc__law_bent.nd (show BlkOk ["pot", "row", "items", "own", "i", "j", "found", "turn"] (defScope s__law_bent) _ [("own", 3)] from ⟨rfl, by decide +kernel, by decide +kernel, by decide +kernel, by decide +kernel⟩) (by rfl)
    refine gi_lst ?_
    refine ge_lock ?_
    refine ge_bin ?_
    refine ge_name 2 rfl True.intro ?_
    refine ge_lock ?_
    refine ge_lst ?_
    refine ga_cons ?_
    refine ge_ix ?_
    refine ge_name 1 rfl True.intro ?_
    refine ge_name 5 rfl True.intro ?_
    refine io_tI (atI_nat hvj) ?_
    refine ga_nil ?_
    refine ⟨by walk_at "side", fun plk => lk_ rfl ?_⟩
    refine bo_catL .d .d (by rw [List.length_map, List.length_map]; show ds.length + 1 ≤ _; omega) fun pc => lk_ (datas_app _ _) ?_
    refine onL_ ?_
    refine lc_pure (fun _ => true) (fun d => .tuple (withD (w.map PyData.int) i d)) (by walk_at "side") (fun ci d m hd => ?_) (fun pl => ?_)
    ·
      intro st H C cl fp
      refine gg_name 3 ?_ sc__law_bent.nd
      refine ⟨rfl, fun st H C cl fp => ?_⟩
      refine gts_nil ⟨rfl, rfl, fun hp st H C cl fp => ?_⟩
      refine ge_cal C__law_with hr hg ?_
      refine ga_cons ?_
      refine ge_name 1 rfl True.intro ?_
      refine ga_cons ?_
      refine ge_name 4 rfl True.intro ?_
      refine ga_cons ?_
      refine ge_name 3 rfl True.intro ?_
      refine ga_nil ?_
      refine ⟨[], _, .nil, w.map PyData.int, i, d, rfl, by omega, by omega, ?_⟩
      exact ⟨rfl, rfl⟩
    rw [all_true]
    have hg0 : ∀ d ∈ (ds ++ [PyData.int w[j]]).map (fun d => PyData.tuple (withD (w.map PyData.int) i d)), Gd d := fun d m => by
      obtain ⟨x, hx, rfl⟩ := List.mem_map.mp m
      have hxs : Sm x := by
        rcases List.mem_append.mp hx with z | z
        · exact hsm x z
        · rw [List.mem_singleton.mp z]; exact sm_int (hwa _ (List.getElem_mem hj))
      exact gd_tuple (withD_sm hwS hxs) (by rw [withD_len (by omega)]; omega)
    refine gss_cons ?_
    refine gs_for (js := [7]) ?_
    refine gi_range1 (hm := G.range) ?_
    refine ge_int ?_
    refine onI_ ⟨by walk_at "side", by walk_at "side", ?_⟩
    refine ⟨fun k ρ m => ∃ S' es y x, ρ = [.a p, .d (dT w), .d (.list ds), y, .d (.int (i : Nat)), .d (.int (j : Nat)), .a pl, x] ∧ Wk ((pl, .lst (es.map Sl.d)) :: PotM p g S') m ∧ (∀ d ∈ es, Gd d) ∧ es.length ≤ 21 + k ∧ PotOk (n + 2 + 2 * k) S', ⟨S2, _, _, _, rfl, wk_refl, hg0, by rw [List.length_map, List.length_append]; show ds.length + 1 ≤ _; omega, hS⟩, ?_, ?_⟩
    ·
      intro kk d ρ m hd hI
      obtain ⟨S3, es, y, x, rfl, hwk, hes, hel, hS⟩ := hI
      obtain ⟨hk3, rfl⟩ := rangeD_at hd
      have hk3' : kk < 3 := hk3
      refine gg_wk hwk ?_
      refine gg_name 7 ?_ sc__law_bent.nd
      refine gss_cons ?_
      refine gs_expr ?_
      refine ge_bm PySem.F.plainAttrs_list PySem.F.slot_list_append PySem.F.type_list_append ?_
      refine ge_name 6 rfl True.intro ?_
      refine ⟨tym_lst .here, ?_⟩
      refine ga_cons ?_
      refine ge_cal C__law_with hr hg ?_
      refine ga_cons ?_
      refine ge_cal C__law_with hr hg ?_
      refine ga_cons ?_
      refine ge_name 1 rfl True.intro ?_
      refine ga_cons ?_
      refine ge_name 4 rfl True.intro ?_
      refine ga_cons ?_
      refine ge_cal C__law_pick hr hg ?_
      refine ga_cons ?_
      refine ge_name 0 rfl True.intro ?_
      refine ga_cons ?_
      refine ge_name 2 rfl True.intro ?_
      refine ga_nil ?_
      refine ⟨_, _, (.cons (.there .here) (.cons (.there .here) .nil)), ?_⟩
      refine ⟨p, g, S3, n + 2 + 2 * kk, .list ds, ds, rfl, .inl rfl, rfl, hS, by omega, hds, Nat.lt_of_le_of_lt hdl (by decide), fun d1 S4 hd1 hS => ?_⟩
      have sd1 := hsm d1 hd1
      refine ga_nil ?_
      refine ⟨[], _, .nil, w.map PyData.int, i, d1, rfl, by omega, by omega, ?_⟩
      refine ga_cons ?_
      refine ge_name 5 rfl True.intro ?_
      refine ga_cons ?_
      refine ge_cal C__law_pick hr hg ?_
      refine ga_cons ?_
      refine ge_name 0 rfl True.intro ?_
      refine ga_cons ?_
      refine ge_name 2 rfl True.intro ?_
      refine ga_nil ?_
      refine ⟨_, _, (.cons .here (.cons .here .nil)), ?_⟩
      refine ⟨p, g, S4, n + 2 + 2 * kk + 1, .list ds, ds, rfl, .inl rfl, rfl, hS, by omega, hds, Nat.lt_of_le_of_lt hdl (by decide), fun d2 S5 hd2 hS => ?_⟩
      have sd2 := hsm d2 hd2
      refine ga_nil ?_
      have hl1 := withD_len (ds := w.map PyData.int) (i := i) (x := d1) (by omega)
      refine ⟨[], _, .nil, withD (w.map PyData.int) i d1, j, d2, rfl, by omega, by omega, ?_⟩
      refine ga_nil ?_
      refine mo_append (.there (.there .here)) (by rw [List.length_map, sizeLine_eq]; omega) (.there (.there .here)) ?_
      refine gss_nil ?_
      refine ⟨S5, es ++ [PyData.tuple (withD (withD (w.map PyData.int) i d1) j d2)], _, _, rfl, ?_, fun d m => ?_, by rw [List.length_append]; show es.length + 1 ≤ _; omega, hS⟩
      · rw [List.map_append]
        walk_at "sub"
      · rcases List.mem_append.mp m with z | z
        · exact hes d z
        · rw [List.mem_singleton.mp z]; exact gd_tuple (withD_sm (withD_sm hwS sd1) sd2) (by rw [withD_len (by omega)]; omega)
    ·
      intro ρ m hI
      obtain ⟨S3, es, y, x, rfl, hwk, hes, hel, hS⟩ := hI
      rw [show (rangeD 0 (Int.toNat 3)).length = 3 from rfl] at hel hS
      refine gss_wk hwk ?_
      refine gss_cons ?_
      refine gs_expr ?_
      refine ge_bm PySem.F.plainAttrs_list PySem.F.slot_list_append PySem.F.type_list_append ?_
      refine ge_name 6 rfl True.intro ?_
      refine ⟨tym_lst .here, ?_⟩
      refine ga_cons ?_
      refine ge_cal C__law_with hr hg ?_
      refine ga_cons ?_
      refine ge_cal C__law_with hr hg ?_
      refine ga_cons ?_
      refine ge_name 1 rfl True.intro ?_
      refine ga_cons ?_
      refine ge_name 4 rfl True.intro ?_
      refine ga_cons ?_
      refine ge_ix ?_
      refine ge_name 1 rfl True.intro ?_
      refine ge_name 5 rfl True.intro ?_
      refine io_tI (atI_nat hvj) ?_
      refine ga_nil ?_
      refine ⟨[], _, .nil, w.map PyData.int, i, .int w[j], rfl, by omega, by omega, ?_⟩
      refine ga_cons ?_
      refine ge_name 5 rfl True.intro ?_
      refine ga_cons ?_
      refine ge_ix ?_
      refine ge_name 1 rfl True.intro ?_
      refine ge_name 4 rfl True.intro ?_
      refine io_tI (atI_nat hvi) ?_
      refine ga_nil ?_
      have hl1 := withD_len (ds := w.map PyData.int) (i := i) (x := PyData.int w[j]) (by omega)
      refine ⟨[], _, .nil, withD (w.map PyData.int) i (.int w[j]), j, .int w[i], rfl, by omega, by omega, ?_⟩
      refine ga_nil ?_
      refine mo_append .here (by rw [List.length_map, sizeLine_eq]; omega) .here ?_
      refine gss_cons ?_
      refine gs_ret ?_
      refine ge_bin ?_
      refine ge_name 6 rfl True.intro ?_
      refine ge_lock ?_
      refine ge_lst ?_
      refine ga_cons ?_
      refine ge_slice ?_
      refine ge_name 1 rfl True.intro ?_
      refine go_some ?_
      refine ge_int ?_
      refine go_none ?_
      refine so_tI _ (cutL_from _ 1 rfl) ?_
      refine ga_cons ?_
      refine ge_slice ?_
      refine ge_name 1 rfl True.intro ?_
      refine go_none ?_
      refine go_some ?_
      refine ge_neg ?_
      refine ge_int ?_
      refine so_tI _ (cutL_init _) ?_
      refine ga_cons ?_
      refine ge_bin ?_
      refine ge_name 1 rfl True.intro ?_
      refine ge_slice ?_
      refine ge_name 1 rfl True.intro ?_
      refine go_some ?_
      refine ge_neg ?_
      refine ge_int ?_
      refine go_none ?_
      refine so_tI _ (cutL_last _) ?_
      refine bo_catI (by rw [List.length_drop]; omega) ?_
      refine ga_cons ?_
      refine ge_rev ?_
      refine ge_name 1 rfl True.intro ?_
      refine ⟨_, rfl, ?_⟩
      refine ge_neg ?_
      refine ge_int ?_
      refine ⟨rfl, ?_⟩
      refine ga_cons ?_
      refine ge_lock ?_
      refine ge_callT G.list bt_list ?_
      refine ga_cons ?_
      refine ge_name 1 rfl True.intro ?_
      refine ga_nil ?_
      refine co_lstT fun plr => lk_ (datas_d _) ?_
      refine ga_cons ?_
      refine ge_tup ?_
      refine ga_cons ?_
      refine ge_name 1 rfl True.intro ?_
      refine ga_nil ?_
      refine ⟨_, rfl, by walk_at "side", ?_⟩
      refine ga_cons ?_
      refine ge_non ?_
      refine ga_cons ?_
      refine ge_tup ?_
      refine ga_nil ?_
      refine ⟨_, rfl, by walk_at "side", ?_⟩
      refine ga_nil ?_
      refine ⟨by walk_at "side", fun plk => lk_ rfl ?_⟩
      refine bo_catL (.c .here) .d (by rw [List.length_append, List.length_map, List.length_map]; show es.length + 1 + 8 ≤ _; omega) fun pq => ?_
      have hab := fun (u : List Int) (hu : ∀ x ∈ u, x ∈ w) (hl : u.length ≤ 3010) => gd_tuple (sm_ints fun x m => hwa x (hu x m)) (by rw [List.length_map]; exact hl)
      refine ⟨(pq, .lst ((es ++ [PyData.tuple (withD (withD (w.map PyData.int) i (.int w[j])) j (.int w[i]))] ++ [dT (w.drop 1), dT w.dropLast, dT (w ++ w.drop (w.length - 1)), PyData.tuple (w.map PyData.int).reverse, PyData.list (w.map PyData.int), PyData.tuple [dT w], PyData.none, PyData.tuple []]).map Sl.d)) :: PotM p g S3, ?_, ?_⟩
      · rw [List.map_append, List.map_append]
        walk_at "sub"
      · refine q pq _ S3 (fun d m => ?_) (by simp only [List.length_append, List.length_cons, List.length_nil]; omega) (hS.up (by omega))
        rcases List.mem_append.mp m with m | m
        · rcases List.mem_append.mp m with z | z
          · exact hes d z
          · rw [List.mem_singleton.mp z]; exact gd_tuple (withD_sm (withD_sm hwS (sm_int (hwa _ (List.getElem_mem hj)))) (sm_int (hwa _ (List.getElem_mem hi)))) (by rw [withD_len (by omega)]; omega)
        · simp only [List.mem_cons, List.not_mem_nil, or_false] at m
          rcases m with rfl | rfl | rfl | rfl | rfl | rfl | rfl | rfl
          · exact hab _ (fun x m => List.mem_of_mem_drop m) (by rw [List.length_drop]; omega)
          · exact hab _ (fun x m => List.dropLast_subset _ m) (by rw [List.length_dropLast]; omega)
          · exact hab _ (fun x m => (List.mem_append.mp m).elim id List.mem_of_mem_drop) (by rw [List.length_append, List.length_drop]; omega)
          · exact gd_tuple (fun d m => hwS d (List.mem_reverse.mp m)) (by rw [List.length_reverse, hml]; omega)
          · exact gd_list hwS (by omega)
          · exact gd_one hwS (by omega)
          · exact (Sm.gd (rok_none.up (by decide) (by decide)))
          · exact gd_tuple (ds := []) (fun d m => nomatch m) (by decide)
abbrev s_word_in : Stmt := topS 4
theorem sc_word_in : FnScope ["row", "n", "i", "many", "step"] ["row", "n", "i"] (defScope s_word_in) := ⟨rfl, rfl, rfl, by decide +kernel, rfl, by decide +kernel, by decide +kernel⟩
abbrev ps_word_in : List Str := ["row", "n", "i"]
theorem ok_word_in {k : Nat} (G : Gs mg) (D : Dn K mg "word_in" s_word_in ps_word_in)  : Cal P w K mg base (k + 1) "word_in" s_word_in ps_word_in sp_word_in := by
  refine D.cal sc_word_in (fun xs μ Q h => ?_) fun f cdv A outer s H xs μ Q hr hg h => ?_
  · obtain ⟨w, n, i, rfl, hne, hn, hw, q⟩ := h
    rfl
  · obtain ⟨w, n, i, rfl, hne, hn, hw, q⟩ := h
    have hpos : 0 < w.length := List.length_pos_iff.mpr hne
    refine gss_cons ?_
    refine gs_set 3 ?_ sc_word_in.nd
    refine ge_callB G.len bt_len ?_
    refine ga_cons ?_
    refine ge_name 0 rfl True.intro ?_
    refine ga_nil ?_
    first | refine co_lenI ?_ | refine co_lenLI ?_ | refine co_lenT ?_ | refine co_lenL .d ?_ | refine co_lenL (.c .here) ?_
    refine gss_cons ?_
    refine gs_ret ?_
    refine ge_callT G.tuple bt_tuple ?_
    refine ga_cons ?_
    refine ge_lc (own := [("step", 4)]) (js := [4]) ?_ (by decide) sc_word_in.nd (show BlkOk ["row", "n", "i", "many", "step"] (defScope s_word_in) _ [("step", 4)] from ⟨rfl, by decide +kernel, by decide +kernel, by decide +kernel, by decide +kernel⟩)
    refine gi_rng1 (hm := G.range) ?_
    refine ge_name 1 rfl True.intro ?_
    refine onI_ ⟨by walk_at "side", by walk_at "side", ?_⟩
    refine lc_I (fun _ => true) (fun c => .int (w.getD (((i : Int) + c) % (w.length : Int)).toNat 0)) (by walk_at "side") (fun ci c m hd => ?_) (fun pl => ?_)
    ·
      obtain ⟨hj, rfl⟩ := rangeI_at hd
      intro st H C cl fp
      refine gg_name 4 ?_ sc_word_in.nd
      refine ⟨rfl, fun st H C cl fp => ?_⟩
      refine gts_nil ⟨rfl, rfl, fun hp st H C cl fp => ?_⟩
      refine ge_ix ?_
      refine ge_name 0 rfl True.intro ?_
      refine ge_bin ?_
      refine ge_bin ?_
      refine ge_name 2 rfl True.intro ?_
      refine ge_name 4 rfl True.intro ?_
      first | refine bo_add ?_ | refine bo_catI (by walk_at "side") ?_
      refine ge_name 3 rfl True.intro ?_
      refine bo_mod (by omega) ?_
      have hm0 : 0 ≤ ((i : Int) + (0 + (ci : Int))) % (w.length : Int) := Int.emod_nonneg _ (by omega)
      have hm1 := Int.emod_lt_of_pos ((i : Int) + (0 + (ci : Int))) (show (0 : Int) < (w.length : Int) by omega)
      refine io_tI (atI_at _ (getD_at (by omega)) (Int.toNat_of_nonneg hm0).symm) ?_
      exact ⟨rfl, rfl⟩
    refine ga_nil ?_
    rw [all_true]
    refine co_tupL (.c .here) (datas_f _ _) ?_
    rw [Int.toNat_natCast, win_comp]
    exact ⟨_, by walk_at "sub", q⟩
abbrev s__law_window : Stmt := topS 24
theorem sc__law_window : FnScope ["row", "k", "i", "j"] ["row", "k", "i"] (defScope s__law_window) := ⟨rfl, rfl, rfl, by decide +kernel, rfl, by decide +kernel, by decide +kernel⟩
abbrev ps__law_window : List Str := ["row", "k", "i"]
theorem ok__law_window {k : Nat} (G : Gs mg) (D : Dn K mg "_law_window" s__law_window ps__law_window)  : Cal P w K mg base (k + 1) "_law_window" s__law_window ps__law_window sp__law_window := by
  refine D.cal sc__law_window (fun xs μ Q h => ?_) fun f cdv A outer s H xs μ Q hr hg h => ?_
  · obtain ⟨w, n, i, rfl, hne, hn, hw, q⟩ := h
    rfl
  · obtain ⟨w, n, i, rfl, hne, hn, hw, q⟩ := h
    have hpos : 0 < w.length := List.length_pos_iff.mpr hne
    refine gss_cons ?_
    refine gs_ret ?_
    refine ge_callT G.tuple bt_tuple ?_
    refine ga_cons ?_
    refine ge_lc (own := [("j", 3)]) (js := [3]) ?_ (by decide) sc__law_window.nd (show BlkOk ["row", "k", "i", "j"] (defScope s__law_window) _ [("j", 3)] from ⟨rfl, by decide +kernel, by decide +kernel, by decide +kernel, by decide +kernel⟩)
    refine gi_rng1 (hm := G.range) ?_
    refine ge_name 1 rfl True.intro ?_
    refine onI_ ⟨by walk_at "side", by walk_at "side", ?_⟩
    refine lc_I (fun _ => true) (fun c => .int (w.getD (((i : Int) + c) % (w.length : Int)).toNat 0)) (by walk_at "side") (fun ci c m hd => ?_) (fun pl => ?_)
    ·
      obtain ⟨hj, rfl⟩ := rangeI_at hd
      intro st H C cl fp
      refine gg_name 3 ?_ sc__law_window.nd
      refine ⟨rfl, fun st H C cl fp => ?_⟩
      refine gts_nil ⟨rfl, rfl, fun hp st H C cl fp => ?_⟩
      refine ge_ix ?_
      refine ge_name 0 rfl True.intro ?_
      refine ge_bin ?_
      refine ge_bin ?_
      refine ge_name 2 rfl True.intro ?_
      refine ge_name 3 rfl True.intro ?_
      first | refine bo_add ?_ | refine bo_catI (by walk_at "side") ?_
      refine ge_callB G.len bt_len ?_
      refine ga_cons ?_
      refine ge_name 0 rfl True.intro ?_
      refine ga_nil ?_
      first | refine co_lenI ?_ | refine co_lenLI ?_ | refine co_lenT ?_ | refine co_lenL .d ?_ | refine co_lenL (.c .here) ?_
      refine bo_mod (by omega) ?_
      have hm0 : 0 ≤ ((i : Int) + (0 + (ci : Int))) % (w.length : Int) := Int.emod_nonneg _ (by omega)
      have hm1 := Int.emod_lt_of_pos ((i : Int) + (0 + (ci : Int))) (show (0 : Int) < (w.length : Int) by omega)
      refine io_tI (atI_at _ (getD_at (by omega)) (Int.toNat_of_nonneg hm0).symm) ?_
      exact ⟨rfl, rfl⟩
    refine ga_nil ?_
    rw [all_true]
    refine co_tupL (.c .here) (datas_f _ _) ?_
    rw [Int.toNat_natCast, win_comp]
    exact ⟨_, by walk_at "sub", q⟩
abbrev s_round_error : Stmt := topS 5
theorem sc_round_error : FnScope ["k", "n", "value", "i", "item", "known", "word"] ["k", "n", "value"] (defScope s_round_error) := ⟨rfl, rfl, rfl, by decide +kernel, rfl, by decide +kernel, by decide +kernel⟩
abbrev ps_round_error : List Str := ["k", "n", "value"]
theorem ok_round_error {k : Nat} (G : Gs mg) (D : Dn K mg "round_error" s_round_error ps_round_error) (C_word_in : Cal P w K mg base k "word_in" s_word_in ps_word_in sp_word_in) (C_power_of : Cal P w K mg base k "power_of" s_power_of ps_power_of sp_power_of) (C_is_integer : Cal P w K mg base k "is_integer" s_is_integer ps_is_integer sp_is_integer) : Cal P w K mg base (k + 1) "round_error" s_round_error ps_round_error sp_round_error := by
  refine D.cal sc_round_error (fun xs μ Q h => ?_) fun f cdv A outer s H xs μ Q hr hg h => ?_
  · obtain ⟨kk, n, d, rfl, hv, hl, hk0, hk1, hn, q⟩ := h
    rfl
  · obtain ⟨kk, n, d, rfl, hv, hl, hk0, hk1, hn, q⟩ := h
    cases hvt : d.isTuple
    ·
      refine gss_cons ?_
      refine gs_if ?_
      refine gt_bool ?_
      refine gb_or ?_
      refine gt_not ?_
      refine gt_val ?_
      refine ge_callB G.isinstance bt_isinstance ?_
      refine ga_cons ?_
      refine ge_name 2 rfl True.intro ?_
      refine ga_cons ?_
      refine ge_ty G.tuple bt_tuple ?_
      refine ga_nil ?_
      refine co_isTupleV hv ?_
      refine ⟨fun _ => ?_, fun hF => (show False from by rw [hvt] at hF; exact Bool.noConfusion hF).elim⟩
      refine ⟨fun _ => ?_, fun hF => absurd hF (by walk_at "no")⟩
      refine gss_cons ?_
      refine gs_ret ?_
      refine ge_str ?_
      rw [rErr_nt hvt] at q
      exact ⟨_, by walk_at "sub", q⟩
    ·
      obtain ⟨ds, rfl⟩ := tuple_of hvt
      refine gss_cons ?_
      refine gs_if ?_
      refine gt_bool ?_
      refine gb_or ?_
      refine gt_not ?_
      refine gt_val ?_
      refine ge_callB G.isinstance bt_isinstance ?_
      refine ga_cons ?_
      refine ge_name 2 rfl True.intro ?_
      refine ga_cons ?_
      refine ge_ty G.tuple bt_tuple ?_
      refine ga_nil ?_
      refine co_isTupleV hv ?_
      refine ⟨fun hT => absurd hT (by walk_at "no"), fun _ => ?_⟩
      refine gb_or1 ?_
      refine gt_cmp ?_
      refine ge_callB G.len bt_len ?_
      refine ga_cons ?_
      refine ge_name 2 rfl True.intro ?_
      refine ga_nil ?_
      refine co_lenT ?_
      refine ge_cal C_power_of hr hg ?_
      refine ga_cons ?_
      refine ge_name 0 rfl True.intro ?_
      refine ga_cons ?_
      refine ge_name 1 rfl True.intro ?_
      refine ga_nil ?_
      refine ⟨[], _, .nil, kk, n, rfl, hk0, by omega, by omega, ?_⟩
      refine bo_neI ?_
      refine ⟨_, rfl, ?_⟩
      refine ⟨fun hT => ?_, fun hF => ?_⟩
      ·
        have hne := of_decide_eq_false (nb hT)
        refine gss_cons ?_
        refine gs_ret ?_
        refine ge_str ?_
        rw [show rErr kk n (.tuple ds) = _ from if_neg hne] at q
        exact ⟨_, by walk_at "sub", q⟩
      ·
        have heq := of_decide_eq_true (nb' hF)
        have hl : ds.length ≤ 10000 := by omega
        rw [show rErr kk n (.tuple ds) = _ from if_pos heq] at q
        refine gss_nil ?_
        refine gss_cons ?_
        refine gs_for (js := [3, 4]) ?_
        refine gi_enumT (hm := G.enumerate) ?_
        refine ge_name 2 rfl True.intro ?_
        refine onT_ ?_
        refine ⟨fun i ρ m => ∃ x y, ρ = [.d (.int kk), .d (.int n), .d (.tuple ds), x, y, .u, .u] ∧ μ = m ∧ ∀ j y, j < i → ds[j]? = some y → (!inIv y 0 (kk - 1)) = false, ⟨_, _, rfl, rfl, fun j y hj => absurd hj (Nat.not_lt_zero _)⟩, ?_, ?_⟩
        ·
          intro i d ρ m hd hI
          obtain ⟨dx, hdx, rfl⟩ := enumD_at hd
          obtain ⟨x, y, rfl, rfl, hok⟩ := hI
          have hvx := vd_item hv (List.mem_of_getElem? hdx)
          refine gg_tup ?_
          refine ggs_cons (js := [3]) (ks := [4]) ?_
          refine gg_name 3 ?_ sc_round_error.nd
          refine ggs_cons (js := [4]) (ks := []) ?_
          refine gg_name 4 ?_ sc_round_error.nd
          refine ggs_nil ?_
          refine gss_cons ?_
          refine gs_if ?_
          refine gt_same (B := !inIv dx 0 (kk - 1)) ?_ ?_
          ·
            refine gt_bool ?_
            refine gb_or ?_
            refine gt_not ?_
            refine gt_val ?_
            refine ge_cal C_is_integer hr hg ?_
            refine ga_cons ?_
            refine ge_name 4 rfl True.intro ?_
            refine ga_nil ?_
            refine ⟨[], _, .nil, dx, rfl, hvx, ?_⟩
            refine ⟨fun hT => ?_, fun hF => ?_⟩
            ·
              exact ⟨by rw [inIv_no (nb hT)]; rfl, rfl⟩
            ·
              have hii := nb' hF
              obtain ⟨hi1, hi2⟩ := Bool.and_eq_true_iff.mp hii
              obtain ⟨v, rfl⟩ := int_of hi1 hi2
              refine gb_or1 ?_
              refine gt_not ?_
              refine gt_chain ?_
              refine ge_int ?_
              refine ge_name 4 rfl True.intro ?_
              refine bo_le ?_
              refine onB_ ⟨fun hT => ?_, fun hF => ?_⟩
              ·
                refine chain2 ?_
                refine ge_name 0 rfl True.intro ?_
                refine bo_lt ?_
                refine onB_ ?_
                exact ⟨by simp only [inIv, hT, Bool.true_and, lt_le1], rfl⟩
              ·
                exact ⟨by simp only [inIv, hF, Bool.false_and], rfl⟩
          refine ⟨fun hT => ?_, fun hF => ?_⟩
          ·
            refine gss_cons ?_
            refine gs_ret ?_
            refine ge_tup ?_
            refine ga_cons ?_
            refine ge_str ?_
            refine ga_cons ?_
            refine ge_name 3 rfl True.intro ?_
            refine ga_nil ?_
            refine ⟨_, rfl, by walk_at "side", ?_⟩
            rw [show rErrL kk n ds = _ from by unfold rErrL; rw [fi_some hdx hT hok]] at q
            exact ⟨_, by walk_at "sub", q⟩
          ·
            refine gss_nil ?_
            refine gss_nil ?_
            refine ⟨_, _, rfl, rfl, fun j y hj hy => ?_⟩
            rcases Nat.lt_or_ge j i with z | z
            · exact hok j y z hy
            · rw [show j = i by omega, hdx] at hy
              cases hy
              exact hF
        ·
          intro ρ m hI
          obtain ⟨x, y, rfl, rfl, hok⟩ := hI
          rw [enumD_len] at hok
          have hall : ∀ d ∈ ds, inIv d 0 (kk - 1) = true := fun d md => by
            obtain ⟨j, hj, hjd⟩ := List.getElem_of_mem md
            exact nb' (hok j d hj (by rw [List.getElem?_eq_getElem hj, hjd]))
          obtain ⟨hds, hrange⟩ := all_ints hall
          obtain ⟨w, hw⟩ : ∃ w, w = ds.map valI := ⟨_, rfl⟩
          rw [← hw] at hds hrange
          subst hds
          rw [List.length_map] at hl
          rw [show rErrL kk n (w.map PyData.int) = _ from by unfold rErrL; rw [fi_none (fun d md => by rw [hall d md]; rfl), vals_back, List.length_map]] at q
          refine gss_wk wk_refl ?_
          refine gss_cons ?_
          refine gs_set 5 ?_ sc_round_error.nd
          refine ge_dictT fun pd => ?_
          refine gss_cons ?_
          refine gs_for (js := [3]) ?_
          refine gi_range1 (hm := G.range) ?_
          refine ge_callB G.len bt_len ?_
          refine ga_cons ?_
          refine ge_name 2 rfl True.intro ?_
          refine ga_nil ?_
          first | refine co_lenI ?_ | refine co_lenLI ?_ | refine co_lenT ?_ | refine co_lenL .d ?_ | refine co_lenL (.c .here) ?_
          refine onI_ ⟨by walk_at "side", by walk_at "side", ?_⟩
          refine ⟨fun i ρ m => ∃ x y z, ρ = [.d (.int kk), .d (.int n), .d (dT w), x, y, .a pd, z] ∧ m = (pd, .dT (seenD ((List.range i).map (winC w n)))) :: μ ∧ ∀ j < i, winC w n j ∉ (List.range j).map (winC w n), ⟨_, _, _, rfl, rfl, fun j hj => absurd hj (Nat.not_lt_zero _)⟩, ?_, ?_⟩
          ·
            intro i d ρ m hd hI
            obtain ⟨hi, rfl⟩ := rangeD_at hd
            obtain ⟨x, y, z, rfl, rfl, hnew⟩ := hI
            have hi' : i < w.length := by omega
            refine gg_name 3 ?_ sc_round_error.nd
            refine gss_cons ?_
            refine gs_set 6 ?_ sc_round_error.nd
            refine ge_cal C_word_in hr hg ?_
            refine ga_cons ?_
            refine ge_name 2 rfl True.intro ?_
            refine ga_cons ?_
            refine ge_name 1 rfl True.intro ?_
            refine ga_cons ?_
            refine ge_name 3 rfl True.intro ?_
            refine ga_nil ?_
            refine ⟨[], _, .nil, w, n, i, by rw [Int.zero_add], (fun z => by rw [z] at hi'; exact absurd hi' (Nat.not_lt_zero _)), by omega, by omega, ?_⟩
            refine gss_cons ?_
            refine gs_if ?_
            refine gt_cmp ?_
            refine ge_name 6 rfl True.intro ?_
            refine ge_name 5 rfl True.intro ?_
            refine bo_inSeen (hu_of hr) .here ?_
            refine ⟨_, rfl, ?_⟩
            refine ⟨fun hT => ?_, fun hF => ?_⟩
            ·
              have hin := of_decide_eq_true hT
              refine gss_cons ?_
              refine gs_ret ?_
              refine ge_tup ?_
              refine ga_cons ?_
              refine ge_str ?_
              refine ga_cons ?_
              refine ge_name 3 rfl True.intro ?_
              refine ga_nil ?_
              refine ⟨_, rfl, by walk_at "side", ?_⟩
              rw [firstRep_some hin hnew w.length hi'] at q
              rw [Int.zero_add]
              exact ⟨_, by walk_at "sub", q⟩
            ·
              have hin := of_decide_eq_false hF
              refine gss_nil ?_
              refine gss_cons ?_
              refine gs_dput (hu := hu_of hr) ?_
              refine ge_bl ?_
              refine ge_name 5 rfl True.intro ?_
              refine ge_name 6 rfl True.intro ?_
              refine dp_seen .here hin (by rw [List.length_map, List.length_range]; omega) .here ?_
              refine gss_nil ?_
              refine ⟨_, _, _, rfl, by rw [range_step], fun j hj => ?_⟩
              rcases Nat.lt_or_ge j i with z | z
              · exact hnew j z
              · rw [show j = i by omega]; exact hin
          ·
            intro ρ m hI
            obtain ⟨x, y, z, rfl, rfl, hnew⟩ := hI
            rw [rangeD_len, Int.toNat_natCast] at hnew
            refine gss_cons ?_
            refine gs_ret ?_
            refine ge_non ?_
            rw [firstRep_none hnew] at q
            exact ⟨_, by walk_at "sub", q⟩
abbrev s__law_again : Stmt := topS 22
theorem sc__law_again : FnScope ["n", "row", "many", "seen", "i", "word"] ["n", "row", "many"] (defScope s__law_again) := ⟨rfl, rfl, rfl, by decide +kernel, rfl, by decide +kernel, by decide +kernel⟩
abbrev ps__law_again : List Str := ["n", "row", "many"]
theorem ok__law_again {k : Nat} (G : Gs mg) (D : Dn K mg "_law_again" s__law_again ps__law_again)  : Cal P w K mg base (k + 1) "_law_again" s__law_again ps__law_again sp__law_again := by
  refine D.cal sc__law_again (fun xs μ Q h => ?_) fun f cdv A outer s H xs μ Q hr hg h => ?_
  · obtain ⟨n, w, many, rfl, hn, hw, hm, q⟩ := h
    rfl
  · obtain ⟨n, w, many, rfl, hn, hw, hm, q⟩ := h
    refine gss_cons ?_
    refine gs_set 3 ?_ sc__law_again.nd
    refine ge_dictT fun pd => ?_
    refine gss_cons ?_
    refine gs_for (js := [4]) ?_
    refine gi_range1 (hm := G.range) ?_
    refine ge_name 2 rfl True.intro ?_
    refine onI_ ⟨by walk_at "side", by walk_at "side", ?_⟩
    refine ⟨fun i ρ m => ∃ x y, ρ = [.d (.int n), .d (dT w), .d (.int many), .a pd, x, y] ∧ m = (pd, .dT (seenD ((List.range i).map (cutW w n)))) :: μ ∧ ∀ j < i, cutW w n j ∉ (List.range j).map (cutW w n), ⟨_, _, rfl, rfl, fun j hj => absurd hj (Nat.not_lt_zero _)⟩, ?_, ?_⟩
    ·
      intro i d ρ m hd hI
      obtain ⟨hi, rfl⟩ := rangeD_at hd
      obtain ⟨x, y, rfl, rfl, hnew⟩ := hI
      rw [Int.toNat_natCast] at hi
      refine gg_name 4 ?_ sc__law_again.nd
      refine gss_cons ?_
      refine gs_set 5 ?_ sc__law_again.nd
      refine ge_slice ?_
      refine ge_name 1 rfl True.intro ?_
      refine go_some ?_
      refine ge_name 4 rfl True.intro ?_
      refine go_some ?_
      refine ge_bin ?_
      refine ge_name 4 rfl True.intro ?_
      refine ge_name 0 rfl True.intro ?_
      first | refine bo_add ?_ | refine bo_catI (by walk_at "side") ?_
      refine so_tI (cutW w n i) (by rw [cutL_mid w i (i + n) (by omega) (by omega)]; show (w.drop i).take (i + n - i) = _; rw [Nat.add_sub_cancel_left]; rfl) ?_
      refine gss_cons ?_
      refine gs_if ?_
      refine gt_cmp ?_
      refine ge_name 5 rfl True.intro ?_
      refine ge_name 3 rfl True.intro ?_
      refine bo_inSeen (hu_of hr) .here ?_
      refine ⟨_, rfl, ?_⟩
      refine ⟨fun hT => ?_, fun hF => ?_⟩
      ·
        have hin := of_decide_eq_true hT
        refine gss_cons ?_
        refine gs_ret ?_
        refine ge_name 4 rfl True.intro ?_
        rw [firstRep_some hin hnew many hi] at q
        rw [Int.zero_add]
        exact ⟨_, by walk_at "sub", q⟩
      ·
        have hin := of_decide_eq_false hF
        refine gss_nil ?_
        refine gss_cons ?_
        refine gs_dput (hu := hu_of hr) ?_
        refine ge_bl ?_
        refine ge_name 3 rfl True.intro ?_
        refine ge_name 5 rfl True.intro ?_
        refine dp_seen .here hin (by rw [List.length_map, List.length_range]; omega) .here ?_
        refine gss_nil ?_
        refine ⟨_, _, rfl, by rw [range_step], fun j hj => ?_⟩
        rcases Nat.lt_or_ge j i with z | z
        · exact hnew j z
        · rw [show j = i by omega]; exact hin
    ·
      intro ρ m hI
      obtain ⟨x, y, rfl, rfl, hnew⟩ := hI
      rw [rangeD_len, Int.toNat_natCast] at hnew
      refine gss_cons ?_
      refine gs_ret ?_
      refine ge_non ?_
      rw [firstRep_none hnew] at q
      exact ⟨_, by walk_at "sub", q⟩
abbrev s__law_round_fault : Stmt := topS 23
theorem sc__law_round_fault : FnScope ["k", "n", "value", "many", "bad", "i", "own", "again"] ["k", "n", "value"] (defScope s__law_round_fault) := ⟨rfl, rfl, rfl, by decide +kernel, rfl, by decide +kernel, by decide +kernel⟩
theorem rep_le {a n : Nat} (h : a ≤ 10000) (h2 : n ≤ 100) : a * n ≤ 1000000 := Nat.mul_le_mul h h2

abbrev ps__law_round_fault : List Str := ["k", "n", "value"]
theorem ok__law_round_fault {k : Nat} (G : Gs mg) (D : Dn K mg "_law_round_fault" s__law_round_fault ps__law_round_fault) (C__law_raised : Cal P w K mg base k "_law_raised" s__law_raised ps__law_raised sp__law_raised) (C__law_again : Cal P w K mg base k "_law_again" s__law_again ps__law_again sp__law_again) (C__law_is_int : Cal P w K mg base k "_law_is_int" s__law_is_int ps__law_is_int sp__law_is_int) : Cal P w K mg base (k + 1) "_law_round_fault" s__law_round_fault ps__law_round_fault sp__law_round_fault := by
  refine D.cal sc__law_round_fault (fun xs μ Q h => ?_) fun f cdv A outer s H xs μ Q hr hg h => ?_
  · obtain ⟨kk, n, d, rfl, hv, hl, hk0, hk1, hn, q⟩ := h
    rfl
  · obtain ⟨kk, n, d, rfl, hv, hl, hk0, hk1, hn, q⟩ := h
    cases hvt : d.isTuple
    ·
      refine gss_cons ?_
      refine gs_set 3 ?_ sc__law_round_fault.nd
      refine ge_cal C__law_raised hr hg ?_
      refine ga_cons ?_
      refine ge_name 0 rfl True.intro ?_
      refine ga_cons ?_
      refine ge_name 1 rfl True.intro ?_
      refine ga_nil ?_
      refine ⟨[], _, .nil, kk, n, rfl, hk0, by omega, by omega, ?_⟩
      refine gss_cons ?_
      refine gs_if ?_
      refine gt_bool ?_
      refine gb_or ?_
      refine gt_not ?_
      refine gt_val ?_
      refine ge_callB G.isinstance bt_isinstance ?_
      refine ga_cons ?_
      refine ge_name 2 rfl True.intro ?_
      refine ga_cons ?_
      refine ge_ty G.tuple bt_tuple ?_
      refine ga_nil ?_
      refine co_isTupleV hv ?_
      refine ⟨fun _ => ?_, fun hF => (show False from by rw [hvt] at hF; exact Bool.noConfusion hF).elim⟩
      refine ⟨fun _ => ?_, fun hF => absurd hF (by walk_at "no")⟩
      refine gss_cons ?_
      refine gs_ret ?_
      refine ge_str ?_
      rw [rErr_nt hvt] at q
      exact ⟨_, by walk_at "sub", q⟩
    ·
      obtain ⟨ds, rfl⟩ := tuple_of hvt
      refine gss_cons ?_
      refine gs_set 3 ?_ sc__law_round_fault.nd
      refine ge_cal C__law_raised hr hg ?_
      refine ga_cons ?_
      refine ge_name 0 rfl True.intro ?_
      refine ga_cons ?_
      refine ge_name 1 rfl True.intro ?_
      refine ga_nil ?_
      refine ⟨[], _, .nil, kk, n, rfl, hk0, by omega, by omega, ?_⟩
      refine gss_cons ?_
      refine gs_if ?_
      refine gt_bool ?_
      refine gb_or ?_
      refine gt_not ?_
      refine gt_val ?_
      refine ge_callB G.isinstance bt_isinstance ?_
      refine ga_cons ?_
      refine ge_name 2 rfl True.intro ?_
      refine ga_cons ?_
      refine ge_ty G.tuple bt_tuple ?_
      refine ga_nil ?_
      refine co_isTupleV hv ?_
      refine ⟨fun hT => absurd hT (by walk_at "no"), fun _ => ?_⟩
      refine gb_or1 ?_
      refine gt_cmp ?_
      refine ge_callB G.len bt_len ?_
      refine ga_cons ?_
      refine ge_name 2 rfl True.intro ?_
      refine ga_nil ?_
      refine co_lenT ?_
      refine ge_name 3 rfl True.intro ?_
      refine bo_neI ?_
      refine ⟨_, rfl, ?_⟩
      refine ⟨fun hT => ?_, fun hF => ?_⟩
      ·
        have hne := of_decide_eq_false (nb hT)
        refine gss_cons ?_
        refine gs_ret ?_
        refine ge_str ?_
        rw [show rErr kk n (.tuple ds) = _ from if_neg hne] at q
        exact ⟨_, by walk_at "sub", q⟩
      ·
        have heq := of_decide_eq_true (nb' hF)
        have hl : ds.length ≤ 10000 := by omega
        rw [show rErr kk n (.tuple ds) = _ from if_pos heq] at q
        refine gss_nil ?_
        refine gss_cons ?_
        refine gs_setLc 4 (own := [("i", 5), ("own", 6)]) (js := [5, 6]) ?_ (by decide) sc__law_round_fault.nd (show BlkOk ["k", "n", "value", "many", "bad", "i", "own", "again"] (defScope s__law_round_fault) _ [("i", 5), ("own", 6)] from ⟨rfl, by decide +kernel, by decide +kernel, by decide +kernel, by decide +kernel⟩) (by rfl)
        refine gi_enumT (hm := G.enumerate) ?_
        refine ge_name 2 rfl True.intro ?_
        refine onT_ ?_
        refine lc_pure (badP kk) fstD (by walk_at "side") (fun ci d m hd => ?_) (fun pl => ?_)
        ·
          obtain ⟨dx, hdx, rfl⟩ := enumD_at hd
          have hvx := vd_item hv (List.mem_of_getElem? hdx)
          intro st H C cl fp
          refine gg_tup ?_
          refine ggs_cons (js := [5]) (ks := [6]) ?_
          refine gg_name 5 ?_ sc__law_round_fault.nd
          refine ggs_cons (js := [6]) (ks := []) ?_
          refine gg_name 6 ?_ sc__law_round_fault.nd
          refine ggs_nil ?_
          refine ⟨rfl, fun st H C cl fp => ?_⟩
          refine gts_one ?_
          refine gt_not ?_
          refine gt_val ?_
          refine ge_cal C__law_is_int hr hg ?_
          refine ga_cons ?_
          refine ge_name 6 rfl True.intro ?_
          refine ga_cons ?_
          refine ge_int ?_
          refine ga_cons ?_
          refine ge_bin ?_
          refine ge_name 0 rfl True.intro ?_
          refine ge_int ?_
          refine bo_sub ?_
          refine ga_nil ?_
          refine ⟨[], _, .nil, dx, 0, kk - 1, rfl, hvx, ?_⟩
          refine ⟨rfl, rfl, fun hp st H C cl fp => ?_⟩
          refine ge_name 5 rfl True.intro ?_
          exact ⟨rfl, rfl⟩
        obtain ⟨L, hL, hL0, hL1⟩ := enum_bad kk ds
        rw [hL]
        have hcl : (List.map Sl.d (L.map PyData.int)) = L.map fun n => Sl.d (.int n) := by rw [List.map_map]; rfl
        rw [hcl]
        refine gss_lock 4 rfl .here (datas_ints _) .here ?_
        refine gss_cons ?_
        refine gs_if ?_
        refine gt_cmp ?_
        refine ge_name 4 rfl True.intro ?_
        refine ge_lock ?_
        refine ge_lst ?_
        refine ga_nil ?_
        refine ⟨by walk_at "side", fun plk => lk_ rfl ?_⟩
        refine bo_ne0 .d (datas_d _) (noDict_ints _) (shaped_listI _) (hu64 hr) ?_
        refine ⟨_, rfl, ?_⟩
        refine ⟨fun hT => ?_, fun hF => ?_⟩
        ·
          cases hfi : ds.findIdx? (fun x => !inIv x 0 (kk - 1)) with
          | none =>
            rw [hL0 hfi] at hT
            exact Bool.noConfusion (show false = true from hT)
          | some bi =>
          obtain ⟨r, rfl⟩ := hL1 bi hfi
          refine gss_cons ?_
          refine gs_ret ?_
          refine ge_tup ?_
          refine ga_cons ?_
          refine ge_str ?_
          refine ga_cons ?_
          refine ge_ix ?_
          refine ge_name 4 rfl True.intro ?_
          refine ge_int ?_
          refine io_lI (atI_nat (j := 0) rfl) ?_
          refine ga_nil ?_
          refine ⟨_, rfl, by walk_at "side", ?_⟩
          rw [show rErrL kk n ds = _ from by unfold rErrL; rw [hfi]] at q
          exact ⟨_, by walk_at "sub", q⟩
        ·
          cases hfi : ds.findIdx? (fun x => !inIv x 0 (kk - 1)) with
          | some bi =>
            obtain ⟨r, rfl⟩ := hL1 bi hfi
            exact Bool.noConfusion (show true = false from hF)
          | none =>
          obtain ⟨hds, hrange⟩ := all_ints (fi_ok hfi)
          obtain ⟨w, hw⟩ : ∃ w, w = ds.map valI := ⟨_, rfl⟩
          rw [← hw] at hds hrange
          subst hds
          rw [List.length_map] at hl heq
          rw [show rErrL kk n (w.map PyData.int) = _ from by unfold rErrL; rw [hfi, vals_back, List.length_map]] at q
          have hfs := firstRep_same (f := cutW (extW w n) n) (g := winC w n) (n := w.length) fun i hi => cut_win hi
          refine gss_nil ?_
          refine gss_cons ?_
          refine gs_set 7 ?_ sc__law_round_fault.nd
          refine ge_cal C__law_again hr hg ?_
          refine ga_cons ?_
          refine ge_name 1 rfl True.intro ?_
          refine ga_cons ?_
          refine ge_bin ?_
          refine ge_name 2 rfl True.intro ?_
          refine ge_slice ?_
          refine ge_bin ?_
          refine ge_name 2 rfl True.intro ?_
          refine ge_name 1 rfl True.intro ?_
          refine bo_repI (by omega) (by omega) (by rw [Int.toNat_natCast]; exact rep_le hl hn) ?_
          refine go_none ?_
          refine go_some ?_
          refine ge_name 1 rfl True.intro ?_
          refine so_tI _ (cutL_to _ n rfl) ?_
          refine bo_catI (by rw [List.length_take]; omega) ?_
          refine ga_cons ?_
          refine ge_name 3 rfl True.intro ?_
          refine ga_nil ?_
          rw [Int.toNat_natCast]
          refine ⟨[], _, .nil, n, extW w n, w.length, by rw [heq]; rfl, by omega, by unfold extW; rw [List.length_append, List.length_take]; omega, by omega, ?_⟩
          rw [hfs]
          refine gss_cons ?_
          refine gs_ret ?_
          refine ge_if ?_
          refine gt_cmp ?_
          refine ge_name 7 rfl True.intro ?_
          refine ge_non ?_
          refine bo_notN ?_
          refine ⟨_, rfl, ?_⟩
          refine ⟨fun hT => ?_, fun hF => ?_⟩
          ·
            cases hfr : firstRep (winC w n) w.length with
            | none =>
              rw [hfr] at hT
              exact Bool.noConfusion (show false = true from hT)
            | some fi =>
            rw [hfr] at q
            refine later ?_
            refine ge_tup ?_
            refine ga_cons ?_
            refine ge_str ?_
            refine ga_cons ?_
            refine ge_name 7 rfl True.intro ?_
            refine ga_nil ?_
            refine ⟨_, rfl, by walk_at "side", ?_⟩
            exact ⟨_, by walk_at "sub", q⟩
          ·
            cases hfr : firstRep (winC w n) w.length with
            | some fi =>
              rw [hfr] at hF
              exact Bool.noConfusion (show true = false from hF)
            | none =>
            rw [hfr] at q
            refine later ?_
            refine ge_non ?_
            exact ⟨_, by walk_at "sub", q⟩
end
end Nl

namespace Nl
open PySem PySem.Spec PyProof.Rows L2
local macro_rules | `(tactic| walk_at "side") => `(tactic| first | omega | with_reducible assumption | exact hu_of (by assumption) | exact hu64 (by assumption) | with_reducible rfl | (simp only [enumD_len, List.length_take, rangeI_len, List.length_map, List.length_append, List.length_cons, List.length_nil, sizeLine_eq] at *; omega) | rfl | decide)
local macro_rules | `(tactic| walk_at "sub") => `(tactic| first | (repeat first | exact wk_refl | refine wk_cons ?_) <;> done | (apply wk_ext; repeat first | exact Sub.nil | apply Sub.cons | exact Tk.here | apply Tk.there) <;> done)
local macro_rules | `(tactic| walk_at "no") => `(tactic| (intro z; first | exact Bool.noConfusion z | (simp at z; done) | (simp at z; omega) | (simp_all; done) | (simp_all; omega)))
local macro_rules | `(tactic| walk_at "inv") => `(tactic| first | exact ⟨rfl, rfl⟩ | exact ⟨_, rfl, rfl⟩ | exact ⟨_, _, rfl, rfl⟩)
section
variable {P : Program} {w : World} {K : PySem.W.Frag} {mg : Str → Option Value} {base : Heap}

theorem powL_N (k : Int) : ∀ n, powL k n = powN k n
  | 0 => rfl
  | n + 1 => by show powL k n * k = powN k n * k; rw [powL_N k n]
theorem powL_nat (k : Nat) : ∀ n : Nat, powL (k : Int) n = ((k ^ n : Nat) : Int)
  | 0 => rfl
  | n + 1 => by
    show powL (k : Int) n * (k : Int) = _
    rw [powL_nat k n, Nat.pow_succ, Int.natCast_mul]
structure Siz (k n : Nat) : Prop where
  mem : (k, n) ∈ pairsK
  k1 : 1 ≤ k
  k16 : k ≤ 16
  n1 : 1 ≤ n
  n12 : n ≤ 12
  pw : k ^ n ≤ 300
abbrev sp_prime_words : SpD := fun xs μ Q => ∃ (k n T : Nat) (l : List (List Int)), xs = [.d (.int (k : Nat)), .d (.int (n : Nat))] ∧ Siz k n ∧ POk k n T l ∧ Q (.d (.tuple (l.map dT))) μ
abbrev sp__law_primes : SpD := fun xs μ Q => ∃ (k n T : Nat) (l : List (List Int)), xs = [.d (.int (k : Nat)), .d (.int (n : Nat))] ∧ μ = [] ∧ Siz k n ∧ POk k n T l ∧ ∀ q, Q (.a q) [(q, .lst (l.map fun w => Sl.d (dT w)))]
abbrev sp_least_round : SpD := fun xs μ Q => ∃ (k n T : Nat) (l : List (List Int)), xs = [.d (.int (k : Nat)), .d (.int (n : Nat))] ∧ Siz k n ∧ POk k n T l ∧ Q (.d (dT l.flatten)) μ
abbrev sp_place_in_round : SpD := fun xs μ Q => ∃ (k : Int) (n : Nat) (w : List Int) (i0 : Nat), xs = [.d (.int k), .d (.int (n : Nat)), .d (dT w), .d (dT (winC w n i0))] ∧ i0 < w.length ∧ Dis w n ∧ n ≤ 1000 ∧ w.length ≤ 100000 ∧ Q (.d (.int (i0 : Nat))) μ
abbrev sp_rounds_number : SpD := fun xs μ Q => ∃ (k n : Nat), xs = [.d (.int (k : Nat)), .d (.int (n : Nat))] ∧ Siz k n ∧ Q (.d (.int (powN (facL k) (k ^ (n - 1)) / ((k ^ n : Nat) : Int)))) μ
abbrev sp__law_sizes : SpD := fun xs μ Q => ∃ (p g : Addr) (S : PotS) (m : Nat) (most : Int), xs = [.a p, .d (.int most)] ∧ μ = PotM p g S ∧ PotOk m S ∧ m < 2 ^ 30 ∧ 16 ≤ most ∧ most ≤ 300 ∧ ∀ k n S', Siz k n → PotOk (m + 2) S' → Q (.d (.tuple [.int (k : Nat), .int (n : Nat)])) (PotM p g S')
theorem datas_rep (w : List Int) (n : Nat) : datas (List.replicate n ((w.map PyData.int).map Sl.d)).flatten = some (((List.replicate n w).flatten).map PyData.int) := by
  have e : (List.replicate n ((w.map PyData.int).map Sl.d)).flatten = (((List.replicate n w).flatten).map PyData.int).map Sl.d := by rw [List.map_flatten, List.map_replicate, List.map_flatten, List.map_replicate]
  rw [e]; exact datas_d _
def lastIs (k : Int) (u : List Int) : Bool := match u.getLast? with
  | some x => decide (x = k - 1)
  | none => false
theorem last_at (u : List Int) {x : Int} (h : u.getLast? = some x) : u = u.dropLast ++ [x] := by
  cases u with
  | nil => simp at h
  | cons a r =>
    rw [List.getLast?_eq_getLast (List.cons_ne_nil a r)] at h
    rw [← Option.some.inj h]
    exact (List.dropLast_concat_getLast _).symm
theorem strip_app (k : Int) (x : Int) : ∀ v : List Int, stripF k (v ++ [x]) = if x = k - 1 then stripF k v else v ++ [x]
  | [] => by
    show (match stripF k [] with | [] => if x = k - 1 then [] else [x] | y :: s => x :: y :: s) = _
    by_cases z : x = k - 1 <;> simp [stripF, z]
  | a :: v => by
    have ih := strip_app k x v
    show stripF k (a :: (v ++ [x])) = _
    rw [stripF, ih]
    by_cases z : x = k - 1
    · rw [if_pos z, if_pos z]; rfl
    · rw [if_neg z, if_neg z]
      cases v with
      | nil => rfl
      | cons b v => rfl
theorem strip_go {k : Int} {u : List Int} (h : lastIs k u = true) : stripF k u.dropLast = stripF k u := by
  unfold lastIs at h
  cases e : u.getLast? with
  | none => rw [e] at h; cases h
  | some x =>
    rw [e] at h
    have hx : x = k - 1 := of_decide_eq_true h
    have h2 := last_at u e
    rw [h2, strip_app, if_pos hx, ← h2]
theorem strip_end {k : Int} {u : List Int} (h : lastIs k u = false) : stripF k u = u := by
  unfold lastIs at h
  cases e : u.getLast? with
  | none =>
    have : u = [] := List.getLast?_eq_none_iff.mp e
    rw [this]; rfl
  | some x =>
    rw [e] at h
    have hx : ¬ x = k - 1 := of_decide_eq_false h
    have h2 := last_at u e
    rw [h2, strip_app, if_neg hx]
theorem ne_last {u : List Int} (h : u ≠ []) : ∃ x, u.getLast? = some x ∧ u.getLastD 0 = x := by
  refine ⟨u.getLast h, List.getLast?_eq_getLast h, ?_⟩
  rw [List.getLastD_eq_getLast?, List.getLast?_eq_getLast h]; rfl
theorem isE {w : List Int} (h : (!(w.map PyData.int).isEmpty) = true) : w ≠ [] := fun z => by rw [z] at h; exact Bool.noConfusion (show false = true from h)
theorem isE' {w : List Int} (h : (!(w.map PyData.int).isEmpty) = false) : w = [] := by
  cases w with
  | nil => rfl
  | cons _ _ => exact Bool.noConfusion (show true = false from h)
theorem next_some {k : Int} {n : Nat} {w u : List Int} (hu : u = stripF k (extF n w)) (hne : u ≠ []) : nextP k n w = incF u := by
  unfold nextP
  cases e : stripF k (extF n w) with
  | nil => rw [e] at hu; exact absurd hu hne
  | cons x r => rw [e] at hu; rw [hu]
theorem next_none {k : Int} {n : Nat} {w : List Int} (h : stripF k (extF n w) = []) : nextP k n w = [] := by unfold nextP; rw [h]
theorem found_yes {k : Int} {n i : Nat} (h : n % (iterP k n i).length = 0) : foundP k n (i + 1) = foundP k n i ++ [iterP k n i] := by show foundP k n i ++ _ = _; rw [if_pos h]
theorem found_no {k : Int} {n i : Nat} (h : ¬ n % (iterP k n i).length = 0) : foundP k n (i + 1) = foundP k n i := by show foundP k n i ++ _ = _; rw [if_neg h, List.append_nil]
abbrev s_prime_words : Stmt := topS 6
theorem sc_prime_words : FnScope ["k", "n", "found", "word"] ["k", "n"] (defScope s_prime_words) := ⟨rfl, rfl, rfl, by decide +kernel, rfl, by decide +kernel, by decide +kernel⟩
theorem found_len (k : Int) (n : Nat) : ∀ i, (foundP k n i).length ≤ i
  | 0 => Nat.le_refl _
  | i + 1 => by
    have := found_len k n i
    show (foundP k n i ++ _).length ≤ _
    rw [List.length_append]
    split <;> simp <;> omega
theorem goP_le {k : Int} {n : Nat} : ∀ (f : Nat) (w : List Int) (T : Nat) (l : List (List Int)), goP k n f w = some (T, l) → T ≤ f
  | 0, _, _, _, h => by cases h
  | f + 1, [], T, l, h => by cases h; omega
  | f + 1, x :: r, T, l, h => by
    unfold goP at h
    cases e : goP k n f (nextP k n (x :: r)) with
    | none => rw [e] at h; cases h
    | some q =>
      obtain ⟨t, l'⟩ := q
      rw [e] at h
      cases h
      have := goP_le f _ t l' e
      omega
theorem T_le {k n T : Nat} {l : List (List Int)} (h : POk k n T l) : T ≤ 400 := goP_le _ _ _ _ h.run

abbrev ps_prime_words : List Str := ["k", "n"]
theorem ok_prime_words {k : Nat} (G : Gs mg) (D : Dn K mg "prime_words" s_prime_words ps_prime_words)  : Cal P w K mg base (k + 1) "prime_words" s_prime_words ps_prime_words sp_prime_words := by
  refine D.cal sc_prime_words (fun xs μ Q h => ?_) fun f cdv A outer s H xs μ Q hr hg h => ?_
  · obtain ⟨k1, n, T, l, rfl, hz, hP, q⟩ := h
    rfl
  · obtain ⟨k1, n, T, l, rfl, hz, hP, q⟩ := h
    obtain ⟨hend, hgo, hfnd⟩ := goP_ok 400 0 T l hP.run
    rw [Nat.zero_add] at hend hfnd
    have hfnd' : foundP k1 n T = l := hfnd
    have hl12 := hz.n12
    have hn1 := hz.n1
    have hk16 := hz.k16
    refine gss_cons ?_
    refine gs_par 2 3 ?_ sc_prime_words.nd
    refine ga_cons ?_
    refine ge_lst ?_
    refine ga_nil ?_
    refine ⟨by walk_at "side", fun pf => ?_⟩
    refine ga_cons ?_
    refine ge_lock ?_
    refine ge_lst ?_
    refine ga_cons ?_
    refine ge_int ?_
    refine ga_nil ?_
    refine ⟨by walk_at "side", fun plk => lk_ rfl ?_⟩
    refine ga_nil ?_
    refine ⟨_, _, rfl, ?_⟩
    refine gss_cons ?_
    refine gs_while (fun left ρ m => ∃ i, ρ = [.d (.int k1), .d (.int n), .a pf, .d (dLs (iterP k1 n i))] ∧ left + i = T ∧ m = (pf, .lst ((foundP k1 n i).map fun w => Sl.d (dT w))) :: μ) T ⟨0, rfl, by omega, rfl⟩ ?_
    intro left ρ m hI
    obtain ⟨i, rfl, hi, rfl⟩ := hI
    refine gt_cmp ?_
    refine ge_name 3 rfl True.intro ?_
    refine ge_lock ?_
    refine ge_lst ?_
    refine ga_nil ?_
    refine ⟨by walk_at "side", fun plk => lk_ rfl ?_⟩
    refine bo_ne0 .d (datas_d _) (noDict_ints _) (shaped_listI _) (hu64 hr) ?_
    refine ⟨_, rfl, ?_⟩
    refine ⟨fun hT => ?_, fun hF => ?_⟩
    ·
      have hne := isE hT
      have hlt : i < T := by
        rcases Nat.lt_or_ge i T with z | z
        · exact z
        · rw [show i = T by omega, hend] at hne; exact absurd rfl hne
      have hwn := iterP_len k1 hn1 i
      obtain ⟨w, hw⟩ : ∃ w, w = iterP k1 n i := ⟨_, rfl⟩
      rw [← hw] at hne hwn
      rw [← hw]
      have hpos : 0 < w.length := List.length_pos_iff.mpr hne
      have hel := ext_len (n := n) hne
      refine gss_join (fun ρ m => ρ = [.d (.int k1), .d (.int n), .a pf, .d (dLs w)] ∧ m = (pf, .lst ((foundP k1 n (i + 1)).map fun w => Sl.d (dT w))) :: μ) ?_ ?_
      ·
        refine gs_if ?_
        refine gt_cmp ?_
        refine ge_bin ?_
        refine ge_name 1 rfl True.intro ?_
        refine ge_callB G.len bt_len ?_
        refine ga_cons ?_
        refine ge_name 3 rfl True.intro ?_
        refine ga_nil ?_
        first | refine co_lenI ?_ | refine co_lenLI ?_ | refine co_lenT ?_ | refine co_lenL .d ?_ | refine co_lenL (.c .here) ?_
        refine bo_mod (by omega) ?_
        refine ge_int ?_
        refine bo_eqI ?_
        refine ⟨_, rfl, ?_⟩
        refine ⟨fun hT => ?_, fun hF => ?_⟩
        ·
          refine gss_cons ?_
          refine gs_expr ?_
          refine ge_bm PySem.F.plainAttrs_list PySem.F.slot_list_append PySem.F.type_list_append ?_
          refine ge_name 2 rfl True.intro ?_
          refine ⟨tym_lst .here, ?_⟩
          refine ga_cons ?_
          refine ge_callT G.tuple bt_tuple ?_
          refine ga_cons ?_
          refine ge_name 3 rfl True.intro ?_
          refine ga_nil ?_
          refine co_tupL .d (datas_d _) ?_
          refine ga_nil ?_
          refine mo_append .here (by rw [List.length_map, sizeLine_eq]; have := found_len k1 n i; have := hP.few; have := T_le hP; omega) .here ?_
          refine gss_nil ?_
          have hm : n % w.length = 0 := by have := of_decide_eq_true hT; exact_mod_cast this
          rw [hw] at hm
          exact ⟨rfl, by rw [found_yes hm, List.map_append, ← hw]; rfl⟩
        ·
          refine gss_nil ?_
          have hm : ¬ n % w.length = 0 := fun z => of_decide_eq_false hF (by exact_mod_cast z)
          rw [hw] at hm
          exact ⟨rfl, by rw [found_no hm]⟩
      rintro ρ m ⟨rfl, rfl⟩
      refine gss_cons ?_
      refine gs_set 3 ?_ sc_prime_words.nd
      refine ge_lock ?_
      refine ge_slice ?_
      refine ge_lock ?_
      refine ge_bin ?_
      refine ge_name 3 rfl True.intro ?_
      refine ge_name 1 rfl True.intro ?_
      refine bo_repL .d (by omega) (by omega) (by rw [List.length_map, List.length_map, Int.toNat_natCast]; exact Nat.le_trans (Nat.mul_le_mul hwn hl12) (by omega)) fun p1 => lk_ (by rw [Int.toNat_natCast]; exact datas_rep w n) ?_
      refine go_none ?_
      refine go_some ?_
      refine ge_name 1 rfl True.intro ?_
      refine so_lI (extF n w) (cutL_to _ n rfl) fun p2 => lk_ (datas_d _) ?_
      refine gss_cons ?_
      refine gs_while (fun left ρ m => ∃ u : List Int, ρ = [.d (.int k1), .d (.int n), .a pf, .d (dLs u)] ∧ stripF k1 u = stripF k1 (extF n w) ∧ u.length ≤ left ∧ m = (pf, .lst ((foundP k1 n (i + 1)).map fun w => Sl.d (dT w))) :: μ) n ⟨_, rfl, rfl, by omega, rfl⟩ ?_
      intro left2 ρ m hI
      obtain ⟨u, rfl, hu, hul, rfl⟩ := hI
      refine gt_same (B := lastIs k1 u) ?_ ?_
      ·
        refine gt_bool ?_
        refine gb_and ?_
        refine gt_cmp ?_
        refine ge_name 3 rfl True.intro ?_
        refine ge_lock ?_
        refine ge_lst ?_
        refine ga_nil ?_
        refine ⟨by walk_at "side", fun plk => lk_ rfl ?_⟩
        refine bo_ne0 .d (datas_d _) (noDict_ints _) (shaped_listI _) (hu64 hr) ?_
        refine ⟨_, rfl, ?_⟩
        refine ⟨fun hT => ?_, fun hF => ?_⟩
        ·
          obtain ⟨x, hx, hxd⟩ := ne_last (isE hT)
          refine gb_and1 ?_
          refine gt_cmp ?_
          refine ge_ix ?_
          refine ge_name 3 rfl True.intro ?_
          refine ge_neg ?_
          refine ge_int ?_
          refine io_lI (atI_neg1 hx) ?_
          refine ge_bin ?_
          refine ge_name 0 rfl True.intro ?_
          refine ge_int ?_
          refine bo_sub ?_
          refine bo_eqI ?_
          refine ⟨_, rfl, ?_⟩
          exact ⟨by unfold lastIs; rw [hx], rfl⟩
        ·
          exact ⟨by rw [isE' hF]; rfl, rfl⟩
      refine ⟨fun hT => ?_, fun hF => ?_⟩
      ·
        refine gss_cons ?_
        refine gs_set 3 ?_ sc_prime_words.nd
        refine ge_lock ?_
        refine ge_slice ?_
        refine ge_name 3 rfl True.intro ?_
        refine go_none ?_
        refine go_some ?_
        refine ge_neg ?_
        refine ge_int ?_
        refine so_lI u.dropLast (cutL_init _) fun p2 => lk_ (datas_d _) ?_
        refine gss_nil ?_
        have hu1 : u ≠ [] := fun z => by rw [z] at hT; exact Bool.noConfusion (show false = true from hT)
        have hu2 := List.length_pos_iff.mpr hu1
        exact ⟨u.length - 1, by omega, _, rfl, by rw [strip_go hT, hu], by rw [List.length_dropLast]; exact Nat.le_refl _, rfl⟩
      ·
        have hus : u = stripF k1 (extF n w) := by rw [← hu, strip_end hF]
        have hun : u.length ≤ n := by rw [hus]; exact Nat.le_trans (strip_len _ _) (by omega)
        refine gss_join (fun ρ m => ρ = [.d (.int k1), .d (.int n), .a pf, .d (dLs (nextP k1 n w))] ∧ m = (pf, .lst ((foundP k1 n (i + 1)).map fun w => Sl.d (dT w))) :: μ) ?_ ?_
        ·
          refine gs_if ?_
          refine gt_cmp ?_
          refine ge_name 3 rfl True.intro ?_
          refine ge_lock ?_
          refine ge_lst ?_
          refine ga_nil ?_
          refine ⟨by walk_at "side", fun plk => lk_ rfl ?_⟩
          refine bo_ne0 .d (datas_d _) (noDict_ints _) (shaped_listI _) (hu64 hr) ?_
          refine ⟨_, rfl, ?_⟩
          refine ⟨fun hT => ?_, fun hF => ?_⟩
          ·
            obtain ⟨x, hx, hxd⟩ := ne_last (isE hT)
            refine gss_cons ?_
            refine gs_set 3 ?_ sc_prime_words.nd
            refine ge_lock ?_
            refine ge_bin ?_
            refine ge_lock ?_
            refine ge_slice ?_
            refine ge_name 3 rfl True.intro ?_
            refine go_none ?_
            refine go_some ?_
            refine ge_neg ?_
            refine ge_int ?_
            refine so_lI u.dropLast (cutL_init _) fun p2 => lk_ (datas_d _) ?_
            refine ge_lock ?_
            refine ge_lst ?_
            refine ga_cons ?_
            refine ge_bin ?_
            refine ge_ix ?_
            refine ge_name 3 rfl True.intro ?_
            refine ge_neg ?_
            refine ge_int ?_
            refine io_lI (atI_neg1 hx) ?_
            refine ge_int ?_
            refine bo_add ?_
            refine ga_nil ?_
            refine ⟨by walk_at "side", fun plk => lk_ rfl ?_⟩
            refine bo_catL .d .d (by rw [List.length_map, List.length_map, List.length_dropLast]; show _ + 1 ≤ _; omega) fun p3 => lk_ (ds := (incF u).map PyData.int) (by rw [datas_app]; unfold incF; rw [hxd, List.map_append]; rfl) ?_
            refine gss_nil ?_
            exact ⟨by rw [next_some hus (isE hT)]; rfl, rfl⟩
          ·
            refine gss_nil ?_
            have hz0 := isE' hF
            exact ⟨by rw [next_none (by rw [← hus, hz0]), hz0], rfl⟩
        rintro ρ m ⟨rfl, rfl⟩
        refine gss_nil ?_
        exact ⟨T - (i + 1), by omega, i + 1, by rw [iterP_add, hw], by omega, rfl⟩
    ·
      have he := isE' hF
      have hiT : i = T := by
        rcases Nat.lt_or_ge i T with z | z
        · have := hgo i z; rw [Nat.zero_add] at this; exact absurd he this
        · omega
      refine gss_cons ?_
      refine gs_ret ?_
      refine ge_callT G.tuple bt_tuple ?_
      refine ga_cons ?_
      refine ge_name 2 rfl True.intro ?_
      refine ga_nil ?_
      refine co_tupL (.c .here) (datas_f _ _) ?_
      rw [hiT, hfnd']
      exact ⟨_, by walk_at "sub", q⟩
abbrev s__law_primes : Stmt := topS 21
theorem sc__law_primes : FnScope ["k", "n", "found", "word", "own", "i"] ["k", "n"] (defScope s__law_primes) := ⟨rfl, rfl, rfl, by decide +kernel, rfl, by decide +kernel, by decide +kernel⟩
theorem ext_win {n : Nat} {w : List Int} (h : w ≠ []) : extF n w = winC w n 0 := by
  have hp : 0 < w.length := List.length_pos_iff.mpr h
  refine List.ext_getElem? fun j => ?_
  by_cases z : j < n
  · unfold extF winC
    have hj : j < n * w.length := Nat.lt_of_lt_of_le z (Nat.le_mul_of_pos_right n hp)
    rw [List.getElem?_take_of_lt z, rep_at n j hj, List.getElem?_map, List.getElem?_range z]
    show _ = some (w.getD ((0 + j) % w.length) 0)
    rw [Nat.zero_add, ← getD_at (Nat.mod_lt _ hp)]
  · rw [List.getElem?_eq_none (by rw [ext_len h]; omega), List.getElem?_eq_none (by rw [win_len]; omega)]
theorem ext_comp {n : Nat} {w : List Int} (h : w ≠ []) : ((rangeI 0 n).map fun c => Sl.d (PyData.int (w.getD ((c % (w.length : Int)).toNat) 0))) = (extF n w).map fun c => Sl.d (.int c) := by
  have e := win_comp w n 0
  have e2 : ((rangeI 0 n).map fun c => PyData.int (w.getD ((((0 : Nat) : Int) + c) % (w.length : Int)).toNat 0)) = (rangeI 0 n).map fun c => PyData.int (w.getD ((c % (w.length : Int)).toNat) 0) := by
    refine List.map_congr_left fun c _ => ?_
    rw [show (((0 : Nat) : Int) + c) = c from Int.zero_add c]
  rw [e2] at e
  have e3 := congrArg (List.map Sl.d) e
  rw [List.map_map, List.map_map, ← ext_win h] at e3
  exact e3
theorem cell_last {u : List Int} {x : Int} (h : u.getLast? = some x) : atI (u.map fun c => Sl.d (.int c)) (-1) = some (.d (.int x)) := atI_neg1 (by rw [List.getLast?_map, h]; rfl)
theorem cell_pop {u : List Int} {x : Int} (h : u.getLast? = some x) : (u.map fun c => Sl.d (.int c))[(u.map fun c => Sl.d (.int c)).length - 1]? = some (.d (.int x)) := by
  rw [← List.getLast?_eq_getElem?, List.getLast?_map, h]; rfl
theorem map_dropL {α β : Type} (f : α → β) (u : List α) : (u.map f).dropLast = u.dropLast.map f := by rw [List.dropLast_eq_take, List.dropLast_eq_take, List.length_map, List.map_take]

abbrev ps__law_primes : List Str := ["k", "n"]
theorem ok__law_primes {k : Nat} (G : Gs mg) (D : Dn K mg "_law_primes" s__law_primes ps__law_primes)  : Cal P w K mg base (k + 1) "_law_primes" s__law_primes ps__law_primes sp__law_primes := by
  refine D.cal sc__law_primes (fun xs μ Q h => ?_) fun f cdv A outer s H xs μ Q hr hg h => ?_
  · obtain ⟨k1, n, T, l, rfl, rfl, hz, hP, q⟩ := h
    rfl
  · obtain ⟨k1, n, T, l, rfl, rfl, hz, hP, q⟩ := h
    obtain ⟨hend, hgo, hfnd⟩ := goP_ok 400 0 T l hP.run
    rw [Nat.zero_add] at hend hfnd
    have hfnd' : foundP k1 n T = l := hfnd
    have hl12 := hz.n12
    have hn1 := hz.n1
    have hk16 := hz.k16
    refine gss_cons ?_
    refine gs_tup (js := [2, 3]) ?_
    refine ga_cons ?_
    refine ge_lst ?_
    refine ga_nil ?_
    refine ⟨by walk_at "side", fun pf => ?_⟩
    refine ga_cons ?_
    refine ge_lock ?_
    refine ge_lst ?_
    refine ga_cons ?_
    refine ge_int ?_
    refine ga_nil ?_
    refine ⟨by walk_at "side", fun plk => lk_ rfl ?_⟩
    refine ga_nil ?_
    refine ⟨by walk_at "side", rfl, ?_⟩
    refine ggs_cons (js := [2]) (ks := [3]) ?_
    refine gg_name 2 ?_ sc__law_primes.nd
    refine ggs_cons (js := [3]) (ks := []) ?_
    refine gg_name 3 ?_ sc__law_primes.nd
    refine ggs_nil ?_
    refine gss_cons ?_
    refine gs_while (fun left ρ m => ∃ i x y, ρ = [.d (.int k1), .d (.int n), .a pf, .d (dLs (iterP k1 n i)), x, y] ∧ left + i = T ∧ Wk [(pf, .lst ((foundP k1 n i).map fun w => Sl.d (dT w)))] m) T ⟨0, _, _, rfl, by omega, wk_refl⟩ ?_
    intro left ρ m hI
    obtain ⟨i, x, y, rfl, hi, hwk⟩ := hI
    refine gt_wk hwk ?_
    refine gt_cmp ?_
    refine ge_name 3 rfl True.intro ?_
    refine ge_lock ?_
    refine ge_lst ?_
    refine ga_nil ?_
    refine ⟨by walk_at "side", fun plk => lk_ rfl ?_⟩
    refine bo_ne0 .d (datas_d _) (noDict_ints _) (shaped_listI _) (hu64 hr) ?_
    refine ⟨_, rfl, ?_⟩
    refine ⟨fun hT => ?_, fun hF => ?_⟩
    ·
      have hne := isE hT
      have hlt : i < T := by
        rcases Nat.lt_or_ge i T with z | z
        · exact z
        · rw [show i = T by omega, hend] at hne; exact absurd rfl hne
      have hwn := iterP_len k1 hn1 i
      obtain ⟨w, hw⟩ : ∃ w, w = iterP k1 n i := ⟨_, rfl⟩
      rw [← hw] at hne hwn
      rw [← hw]
      have hpos : 0 < w.length := List.length_pos_iff.mpr hne
      have hel := ext_len (n := n) hne
      refine gss_join (fun ρ m => ρ = [.d (.int k1), .d (.int n), .a pf, .d (dLs w), x, y] ∧ m = [(pf, .lst ((foundP k1 n (i + 1)).map fun w => Sl.d (dT w)))]) ?_ ?_
      ·
        refine gs_if ?_
        refine gt_cmp ?_
        refine ge_bin ?_
        refine ge_name 1 rfl True.intro ?_
        refine ge_callB G.len bt_len ?_
        refine ga_cons ?_
        refine ge_name 3 rfl True.intro ?_
        refine ga_nil ?_
        first | refine co_lenI ?_ | refine co_lenLI ?_ | refine co_lenT ?_ | refine co_lenL .d ?_ | refine co_lenL (.c .here) ?_
        refine bo_mod (by omega) ?_
        refine ge_int ?_
        refine bo_eqI ?_
        refine ⟨_, rfl, ?_⟩
        refine ⟨fun hT => ?_, fun hF => ?_⟩
        ·
          refine gss_cons ?_
          refine gs_expr ?_
          refine ge_bm PySem.F.plainAttrs_list PySem.F.slot_list_append PySem.F.type_list_append ?_
          refine ge_name 2 rfl True.intro ?_
          refine ⟨tym_lst .here, ?_⟩
          refine ga_cons ?_
          refine ge_callT G.tuple bt_tuple ?_
          refine ga_cons ?_
          refine ge_name 3 rfl True.intro ?_
          refine ga_nil ?_
          refine co_tupL .d (datas_d _) ?_
          refine ga_nil ?_
          refine mo_append .here (by rw [List.length_map, sizeLine_eq]; have := found_len k1 n i; have := hP.few; have := T_le hP; omega) .here ?_
          refine gss_nil ?_
          have hm : n % w.length = 0 := by have := of_decide_eq_true hT; exact_mod_cast this
          rw [hw] at hm
          exact ⟨rfl, by rw [found_yes hm, List.map_append, ← hw]; rfl⟩
        ·
          refine gss_nil ?_
          have hm : ¬ n % w.length = 0 := fun z => of_decide_eq_false hF (by exact_mod_cast z)
          rw [hw] at hm
          exact ⟨rfl, by rw [found_no hm]⟩
      rintro ρ m ⟨rfl, rfl⟩
      refine gss_cons ?_
      refine gs_setLc 4 (own := [("i", 5)]) (js := [5]) ?_ (by decide) sc__law_primes.nd (show BlkOk ["k", "n", "found", "word", "own", "i"] (defScope s__law_primes) _ [("i", 5)] from ⟨rfl, by decide +kernel, by decide +kernel, by decide +kernel, by decide +kernel⟩) (by rfl)
      refine gi_rng1 (hm := G.range) ?_
      refine ge_name 1 rfl True.intro ?_
      refine onI_ ⟨by walk_at "side", by walk_at "side", ?_⟩
      refine lc_I (fun _ => true) (fun c => .int (w.getD ((c % (w.length : Int)).toNat) 0)) (by walk_at "side") (fun ci c m hd => ?_) (fun pl => ?_)
      ·
        obtain ⟨hj, rfl⟩ := rangeI_at hd
        intro st H C cl fp
        refine gg_name 5 ?_ sc__law_primes.nd
        refine ⟨rfl, fun st H C cl fp => ?_⟩
        refine gts_nil ⟨rfl, rfl, fun hp st H C cl fp => ?_⟩
        refine ge_ix ?_
        refine ge_name 3 rfl True.intro ?_
        refine ge_bin ?_
        refine ge_name 5 rfl True.intro ?_
        refine ge_callB G.len bt_len ?_
        refine ga_cons ?_
        refine ge_name 3 rfl True.intro ?_
        refine ga_nil ?_
        first | refine co_lenI ?_ | refine co_lenLI ?_ | refine co_lenT ?_ | refine co_lenL .d ?_ | refine co_lenL (.c .here) ?_
        refine bo_mod (by omega) ?_
        have hm0 : 0 ≤ (0 + (ci : Int)) % (w.length : Int) := Int.emod_nonneg _ (by omega)
        have hm1 := Int.emod_lt_of_pos (0 + (ci : Int)) (show (0 : Int) < (w.length : Int) by omega)
        refine io_lI (atI_at _ (getD_at (by omega)) (Int.toNat_of_nonneg hm0).symm) ?_
        exact ⟨rfl, rfl⟩
      rw [all_true, Int.toNat_natCast, ext_comp hne]
      refine gss_cons ?_
      refine gs_while (fun left ρ m => ∃ u : List Int, ρ = [.d (.int k1), .d (.int n), .a pf, .d (dLs w), .a pl, y] ∧ stripF k1 u = stripF k1 (extF n w) ∧ u.length ≤ left ∧ m = [(pl, .lst (u.map fun c => Sl.d (.int c))), (pf, .lst ((foundP k1 n (i + 1)).map fun w => Sl.d (dT w)))]) n ⟨_, rfl, rfl, by omega, rfl⟩ ?_
      intro left2 ρ m hI
      obtain ⟨u, rfl, hu, hul, rfl⟩ := hI
      refine gt_same (B := lastIs k1 u) ?_ ?_
      ·
        refine gt_bool ?_
        refine gb_and ?_
        refine gt_cmp ?_
        refine ge_name 4 rfl True.intro ?_
        refine ge_lock ?_
        refine ge_lst ?_
        refine ga_nil ?_
        refine ⟨by walk_at "side", fun plk => lk_ rfl ?_⟩
        refine bo_ne0 (.c .here) (datas_ints _) (noDict_ints _) (shaped_listI _) (hu64 hr) ?_
        refine ⟨_, rfl, ?_⟩
        refine ⟨fun hT => ?_, fun hF => ?_⟩
        ·
          obtain ⟨x2, hx, hxd⟩ := ne_last (isE hT)
          refine gb_and1 ?_
          refine gt_cmp ?_
          refine ge_ix ?_
          refine ge_name 4 rfl True.intro ?_
          refine ge_neg ?_
          refine ge_int ?_
          refine io_cell .here (cell_last hx) ?_
          refine ge_bin ?_
          refine ge_name 0 rfl True.intro ?_
          refine ge_int ?_
          refine bo_sub ?_
          refine bo_eqI ?_
          refine ⟨_, rfl, ?_⟩
          exact ⟨by unfold lastIs; rw [hx], rfl⟩
        ·
          exact ⟨by rw [isE' hF]; rfl, rfl⟩
      refine ⟨fun hT => ?_, fun hF => ?_⟩
      ·
        have hu1 : u ≠ [] := fun z => by rw [z] at hT; exact Bool.noConfusion (show false = true from hT)
        obtain ⟨x2, hx, hxd⟩ := ne_last hu1
        have hu2 := List.length_pos_iff.mpr hu1
        refine gss_cons ?_
        refine gs_expr ?_
        refine ge_bm0 PySem.F.plainAttrs_list PySem.F.slot_list_pop PySem.F.type_list_pop ?_
        refine ge_name 4 rfl True.intro ?_
        refine ⟨tym_lst .here, ?_⟩
        refine mo_pop .here (cell_pop hx) .here ?_
        refine gss_nil ?_
        exact ⟨u.length - 1, by omega, u.dropLast, rfl, by rw [strip_go hT, hu], by rw [List.length_dropLast]; exact Nat.le_refl _, by rw [map_dropL]⟩
      ·
        have hus : u = stripF k1 (extF n w) := by rw [← hu, strip_end hF]
        have hun : u.length ≤ n := by rw [hus]; exact Nat.le_trans (strip_len _ _) (by omega)
        refine gss_cons ?_
        refine gs_set 3 ?_ sc__law_primes.nd
        refine GE.mono (Q := fun y m' => y = .d (dLs (nextP k1 n w)) ∧ m' = [(pl, .lst (u.map fun c => Sl.d (.int c))), (pf, .lst ((foundP k1 n (i + 1)).map fun w => Sl.d (dT w)))]) ?_ ?_
        ·
          refine ge_if ?_
          refine gt_cmp ?_
          refine ge_name 4 rfl True.intro ?_
          refine ge_lock ?_
          refine ge_lst ?_
          refine ga_nil ?_
          refine ⟨by walk_at "side", fun plk => lk_ rfl ?_⟩
          refine bo_ne0 (.c .here) (datas_ints _) (noDict_ints _) (shaped_listI _) (hu64 hr) ?_
          refine ⟨_, rfl, ?_⟩
          refine ⟨fun hT => ?_, fun hF => ?_⟩
          ·
            obtain ⟨x2, hx, hxd⟩ := ne_last (isE hT)
            refine later ?_
            refine ge_lock ?_
            refine ge_bin ?_
            refine ge_lock ?_
            refine ge_slice ?_
            refine ge_name 4 rfl True.intro ?_
            refine go_none ?_
            refine go_some ?_
            refine ge_neg ?_
            refine ge_int ?_
            refine so_cell .here fun p2 => lk_ (by rw [cutL_map, cutL_init]; exact datas_ints u.dropLast) ?_
            refine ge_lock ?_
            refine ge_lst ?_
            refine ga_cons ?_
            refine ge_bin ?_
            refine ge_ix ?_
            refine ge_name 4 rfl True.intro ?_
            refine ge_neg ?_
            refine ge_int ?_
            refine io_cell .here (cell_last hx) ?_
            refine ge_int ?_
            refine bo_add ?_
            refine ga_nil ?_
            refine ⟨by walk_at "side", fun plk => lk_ rfl ?_⟩
            refine bo_catL .d .d (by rw [List.length_map, List.length_map, List.length_dropLast]; show _ + 1 ≤ _; omega) fun p3 => lk_ (ds := (incF u).map PyData.int) (by rw [datas_app]; unfold incF; rw [hxd, List.map_append]; rfl) ?_
            exact ⟨by rw [next_some hus (isE hT)], rfl⟩
          ·
            refine later ?_
            refine ge_lock ?_
            refine ge_lst ?_
            refine ga_nil ?_
            refine ⟨by walk_at "side", fun plk => lk_ rfl ?_⟩
            have hz0 := isE' hF
            exact ⟨by rw [next_none (by rw [← hus, hz0])]; rfl, rfl⟩
        rintro _ _ ⟨rfl, rfl⟩
        refine gss_nil ?_
        exact ⟨T - (i + 1), by omega, i + 1, _, _, by rw [iterP_add, ← hw]; rfl, by omega, by walk_at "sub"⟩
    ·
      have he := isE' hF
      have hiT : i = T := by
        rcases Nat.lt_or_ge i T with z | z
        · have := hgo i z; rw [Nat.zero_add] at this; exact absurd he this
        · omega
      refine gss_cons ?_
      refine gs_ret ?_
      refine ge_name 2 rfl True.intro ?_
      rw [hiT, hfnd']
      exact ⟨_, by walk_at "sub", q pf⟩
abbrev s_least_round : Stmt := topS 7
theorem sc_least_round : FnScope ["k", "n", "found", "word"] ["k", "n"] (defScope s_least_round) := ⟨rfl, rfl, rfl, by decide +kernel, rfl, by decide +kernel, by decide +kernel⟩
theorem flat_le (l : List (List Int)) (i : Nat) : (l.take i).flatten.length ≤ l.flatten.length := by
  have h : l.flatten = (l.take i).flatten ++ (l.drop i).flatten := by rw [← List.flatten_append, List.take_append_drop]
  rw [h, List.length_append]; omega
theorem flat_step {l : List (List Int)} {i : Nat} {w : List Int} (h : l[i]? = some w) : (l.take i).flatten.length + (w.map PyData.int).length ≤ l.flatten.length := by
  have e : (l.take (i + 1)).flatten = (l.take i).flatten ++ w := by rw [List.take_add_one, h, List.flatten_append]; simp
  have := flat_le l (i + 1)
  rw [e, List.length_append] at this
  rw [List.length_map]; exact this

abbrev ps_least_round : List Str := ["k", "n"]
theorem ok_least_round {k : Nat} (G : Gs mg) (D : Dn K mg "least_round" s_least_round ps_least_round) (C_prime_words : Cal P w K mg base k "prime_words" s_prime_words ps_prime_words sp_prime_words) : Cal P w K mg base (k + 1) "least_round" s_least_round ps_least_round sp_least_round := by
  refine D.cal sc_least_round (fun xs μ Q h => ?_) fun f cdv A outer s H xs μ Q hr hg h => ?_
  · obtain ⟨k1, n, T, l, rfl, hz, hP, q⟩ := h
    rfl
  · obtain ⟨k1, n, T, l, rfl, hz, hP, q⟩ := h
    have hfew := hP.few
    refine gss_cons ?_
    refine gs_set 2 ?_ sc_least_round.nd
    refine ge_lst ?_
    refine ga_nil ?_
    refine ⟨by walk_at "side", fun pf => ?_⟩
    refine gss_cons ?_
    refine gs_for (js := [3]) ?_
    refine gi_tup ?_
    refine ge_cal C_prime_words hr hg ?_
    refine ga_cons ?_
    refine ge_name 0 rfl True.intro ?_
    refine ga_cons ?_
    refine ge_name 1 rfl True.intro ?_
    refine ga_nil ?_
    refine ⟨[], _, .nil, k1, n, T, l, rfl, hz, hP, ?_⟩
    refine onT_ ?_
    refine ⟨fun i ρ m => ∃ x, ρ = [.d (.int k1), .d (.int n), .a pf, x] ∧ m = (pf, .lst (((l.take i).flatten).map fun c => Sl.d (.int c))) :: μ, ⟨_, rfl, rfl⟩, ?_, ?_⟩
    ·
      intro i d ρ m hd hI
      rw [List.getElem?_map] at hd
      obtain ⟨w, hw, rfl⟩ := Option.map_eq_some_iff.mp hd
      obtain ⟨x, rfl, rfl⟩ := hI
      have hlw := flat_le l i
      have htot := hP.len
      have hpw := hz.pw
      refine gg_name 3 ?_ sc_least_round.nd
      refine gss_cons ?_
      refine gs_expr ?_
      refine ge_bm PySem.F.plainAttrs_list PySem.F.slot_list_extend PySem.F.type_list_extend ?_
      refine ge_name 2 rfl True.intro ?_
      refine ⟨tym_lst .here, ?_⟩
      refine ga_cons ?_
      refine ge_name 3 rfl True.intro ?_
      refine ga_nil ?_
      refine mo_extendT .here (by rw [List.length_map]; have := List.getElem?_eq_some_iff.mp hw; have := flat_step hw; omega) .here ?_
      refine gss_nil ?_
      exact ⟨_, rfl, by rw [List.take_add_one, hw, List.flatten_append, List.map_append, List.map_map]; simp⟩
    ·
      intro ρ m hI
      obtain ⟨x, rfl, rfl⟩ := hI
      rw [List.length_map, List.take_length]
      refine gss_cons ?_
      refine gs_ret ?_
      refine ge_callT G.tuple bt_tuple ?_
      refine ga_cons ?_
      refine ge_name 2 rfl True.intro ?_
      refine ga_nil ?_
      refine co_tupL (.c .here) (datas_ints _) ?_
      exact ⟨_, by walk_at "sub", q⟩
abbrev s_place_in_round : Stmt := topS 8
theorem sc_place_in_round : FnScope ["k", "n", "row", "word", "i"] ["k", "n", "row", "word"] (defScope s_place_in_round) := ⟨rfl, rfl, rfl, by decide +kernel, rfl, by decide +kernel, by decide +kernel⟩
abbrev ps_place_in_round : List Str := ["k", "n", "row", "word"]
theorem ok_place_in_round {k : Nat} (G : Gs mg) (D : Dn K mg "place_in_round" s_place_in_round ps_place_in_round) (C_word_in : Cal P w K mg base k "word_in" s_word_in ps_word_in sp_word_in) : Cal P w K mg base (k + 1) "place_in_round" s_place_in_round ps_place_in_round sp_place_in_round := by
  refine D.cal sc_place_in_round (fun xs μ Q h => ?_) fun f cdv A outer s H xs μ Q hr hg h => ?_
  · obtain ⟨k1, n, w, i0, rfl, hi0, hD, hn, hw, q⟩ := h
    rfl
  · obtain ⟨k1, n, w, i0, rfl, hi0, hD, hn, hw, q⟩ := h
    refine gss_cons ?_
    refine gs_for (js := [4]) ?_
    refine gi_range1 (hm := G.range) ?_
    refine ge_callB G.len bt_len ?_
    refine ga_cons ?_
    refine ge_name 2 rfl True.intro ?_
    refine ga_nil ?_
    first | refine co_lenI ?_ | refine co_lenLI ?_ | refine co_lenT ?_ | refine co_lenL .d ?_ | refine co_lenL (.c .here) ?_
    refine onI_ ⟨by walk_at "side", by walk_at "side", ?_⟩
    refine ⟨fun i ρ m => ∃ x, ρ = [.d (.int k1), .d (.int n), .d (dT w), .d (dT (winC w n i0)), x] ∧ μ = m ∧ i ≤ i0, ⟨_, rfl, rfl, Nat.zero_le _⟩, ?_, ?_⟩
    ·
      intro i d ρ m hd hI
      obtain ⟨hi, rfl⟩ := rangeD_at hd
      obtain ⟨x, rfl, rfl, hle⟩ := hI
      have hi' : i < w.length := by omega
      refine gg_name 4 ?_ sc_place_in_round.nd
      refine gss_cons ?_
      refine gs_if ?_
      refine gt_cmp ?_
      refine ge_cal C_word_in hr hg ?_
      refine ga_cons ?_
      refine ge_name 2 rfl True.intro ?_
      refine ga_cons ?_
      refine ge_name 1 rfl True.intro ?_
      refine ga_cons ?_
      refine ge_name 4 rfl True.intro ?_
      refine ga_nil ?_
      refine ⟨[], _, .nil, w, n, i, by rw [Int.zero_add], (fun z => by rw [z] at hi'; exact absurd hi' (Nat.not_lt_zero _)), hn, hw, ?_⟩
      refine ge_name 3 rfl True.intro ?_
      refine bo_eqTI (hu64 hr) ?_
      refine ⟨_, rfl, ?_⟩
      refine ⟨fun hT => ?_, fun hF => ?_⟩
      ·
        have he := hD.ne hi' hi0 (of_decide_eq_true hT)
        refine gss_cons ?_
        refine gs_ret ?_
        refine ge_name 4 rfl True.intro ?_
        rw [Int.zero_add, he]
        exact ⟨_, by walk_at "sub", q⟩
      ·
        have he : i ≠ i0 := fun z => of_decide_eq_false hF (by rw [z])
        refine gss_nil ?_
        refine gss_nil ?_
        exact ⟨_, rfl, rfl, by omega⟩
    ·
      intro ρ m hI
      obtain ⟨x, rfl, rfl, hle⟩ := hI
      rw [rangeD_len] at hle
      refine gss_cons ?_
      refine gs_ret ?_
      refine ge_non ?_
      exact absurd hle (by omega)
abbrev s_rounds_number : Stmt := topS 9
theorem sc_rounds_number : FnScope ["k", "n", "product", "own"] ["k", "n"] (defScope s_rounds_number) := ⟨rfl, rfl, rfl, by decide +kernel, rfl, by decide +kernel, by decide +kernel⟩
theorem fac_le : ∀ k : Nat, k ≤ 16 → 0 ≤ facL k ∧ facL k < 2 ^ 60 := by
  intro k h
  have key : ∀ k ∈ List.range 17, 0 ≤ facL k ∧ facL k < 2 ^ 60 := by decide +kernel
  exact key k (List.mem_range.mpr (by omega))

abbrev ps_rounds_number : List Str := ["k", "n"]
theorem ok_rounds_number {k : Nat} (G : Gs mg) (D : Dn K mg "rounds_number" s_rounds_number ps_rounds_number) (C_power_of : Cal P w K mg base k "power_of" s_power_of ps_power_of sp_power_of) : Cal P w K mg base (k + 1) "rounds_number" s_rounds_number ps_rounds_number sp_rounds_number := by
  refine D.cal sc_rounds_number (fun xs μ Q h => ?_) fun f cdv A outer s H xs μ Q hr hg h => ?_
  · obtain ⟨k1, n, rfl, hz, q⟩ := h
    rfl
  · obtain ⟨k1, n, rfl, hz, q⟩ := h
    obtain ⟨hmem, hk1, hk16, hn1, hn12, hpw⟩ := hz
    refine gss_cons ?_
    refine gs_set 2 ?_ sc_rounds_number.nd
    refine ge_int ?_
    refine gss_cons ?_
    refine gs_for (js := [3]) ?_
    refine gi_range2 (hm := G.range) ?_
    refine ge_int ?_
    refine onI_ ?_
    refine ge_bin ?_
    refine ge_name 0 rfl True.intro ?_
    refine ge_int ?_
    first | refine bo_add ?_ | refine bo_catI (by walk_at "side") ?_
    refine onI_ ⟨by walk_at "side", ?_⟩
    refine ⟨fun i ρ m => ∃ x, ρ = [.d (.int k1), .d (.int n), .d (.int (facL (i + 1))), x] ∧ μ = m, ⟨_, rfl, rfl⟩, ?_, ?_⟩
    ·
      intro i d ρ m hd hI
      obtain ⟨hi, rfl⟩ := rangeD_at hd
      obtain ⟨x, rfl, rfl⟩ := hI
      refine gg_name 3 ?_ sc_rounds_number.nd
      refine gss_cons ?_
      refine gs_set 2 ?_ sc_rounds_number.nd
      refine ge_bin ?_
      refine ge_name 2 rfl True.intro ?_
      refine ge_name 3 rfl True.intro ?_
      refine bo_mulS (.inr ⟨by omega, by omega⟩) ?_
      refine gss_nil ?_
      exact ⟨_, by rw [show facL (i + 1 + 1) = facL (i + 1) * (((i + 1 : Nat) : Int) + 1) from rfl, show (2 : Int) + (i : Int) = ((i + 1 : Nat) : Int) + 1 by omega]; rfl, rfl⟩
    ·
      intro ρ m hI
      obtain ⟨x, rfl, rfl⟩ := hI
      rw [rangeD_len, show ((k1 : Int) + 1 - 2).toNat + 1 = k1 by omega]
      have hfac : 0 ≤ facL k1 ∧ facL k1 < 2 ^ 60 := fac_le k1 hk16
      have hkn : k1 ^ (n - 1) ≤ 300 := Nat.le_trans (Nat.pow_le_pow_right hk1 (by omega)) hpw
      refine gss_cons ?_
      refine gs_ret ?_
      refine ge_bin ?_
      refine ge_cal C_power_of hr hg ?_
      refine ga_cons ?_
      refine ge_name 2 rfl True.intro ?_
      refine ga_cons ?_
      refine ge_cal C_power_of hr hg ?_
      refine ga_cons ?_
      refine ge_name 0 rfl True.intro ?_
      refine ga_cons ?_
      refine ge_bin ?_
      refine ge_name 1 rfl True.intro ?_
      refine ge_int ?_
      refine bo_sub ?_
      refine ga_nil ?_
      refine ⟨[], _, .nil, k1, n - 1, by rw [show ((n - 1 : Nat) : Int) = (n : Int) - 1 by omega], by omega, by omega, by omega, ?_⟩
      rw [powL_nat]
      refine ga_nil ?_
      refine ⟨[], _, .nil, facL k1, k1 ^ (n - 1), rfl, hfac.1, hfac.2, Nat.lt_of_le_of_lt hkn (by decide), ?_⟩
      refine ge_cal C_power_of hr hg ?_
      refine ga_cons ?_
      refine ge_name 0 rfl True.intro ?_
      refine ga_cons ?_
      refine ge_name 1 rfl True.intro ?_
      refine ga_nil ?_
      refine ⟨[], _, .nil, k1, n, rfl, by omega, by omega, by omega, ?_⟩
      rw [powL_nat, powL_N]
      refine bo_div (cdiv (Int.natCast_pos.mpr (Nat.pow_pos hk1)) (Int.lt_of_le_of_lt (show ((k1 ^ n : Nat) : Int) ≤ 300 by exact_mod_cast hpw) (by decide))) ?_
      exact ⟨_, by walk_at "sub", q⟩
abbrev s__law_sizes : Stmt := topS 20
theorem sc__law_sizes : FnScope ["pot", "most", "k", "some", "n"] ["pot", "most"] (defScope s__law_sizes) := ⟨rfl, rfl, rfl, by decide +kernel, rfl, by decide +kernel, by decide +kernel⟩
theorem siz_all : ∀ k ∈ [1, 2, 3, 4, 5, 16], ∀ n ∈ List.range 13, 1 ≤ n → k ^ n ≤ 300 → (k, n) ∈ pairsK := by decide +kernel

abbrev ps__law_sizes : List Str := ["pot", "most"]
theorem ok__law_sizes {k : Nat} (G : Gs mg) (D : Dn K mg "_law_sizes" s__law_sizes ps__law_sizes) (C__law_pick : Cal P w K mg base k "_law_pick" s__law_pick ps__law_pick sp__law_pick) (C__law_raised : Cal P w K mg base k "_law_raised" s__law_raised ps__law_raised sp__law_raised) : Cal P w K mg base (k + 1) "_law_sizes" s__law_sizes ps__law_sizes sp__law_sizes := by
  refine D.cal sc__law_sizes (fun xs μ Q h => ?_) fun f cdv A outer s H xs μ Q hr hg h => ?_
  · obtain ⟨p, g, S, m0, most, rfl, rfl, hS, hm, hlo, hhi, q⟩ := h
    rfl
  · obtain ⟨p, g, S, m0, most, rfl, rfl, hS, hm, hlo, hhi, q⟩ := h
    refine gss_cons ?_
    refine gs_set 2 ?_ sc__law_sizes.nd
    refine ge_cal C__law_pick hr hg ?_
    refine ga_cons ?_
    refine ge_name 0 rfl True.intro ?_
    refine ga_cons ?_
    refine ge_lock ?_
    refine ge_lst ?_
    refine ga_cons ?_
    refine ge_int ?_
    refine ga_cons ?_
    refine ge_int ?_
    refine ga_cons ?_
    refine ge_int ?_
    refine ga_cons ?_
    refine ge_int ?_
    refine ga_cons ?_
    refine ge_int ?_
    refine ga_cons ?_
    refine ge_int ?_
    refine ga_cons ?_
    refine ge_int ?_
    refine ga_cons ?_
    refine ge_int ?_
    refine ga_cons ?_
    refine ge_int ?_
    refine ga_nil ?_
    refine ⟨by walk_at "side", fun plk => lk_ rfl ?_⟩
    refine ga_nil ?_
    refine ⟨_, _, .cons .here (.cons .here .nil), ?_⟩
    refine ⟨p, g, S, m0, _, List.map PyData.int [2, 2, 2, 3, 3, 4, 1, 5, 16], rfl, .inl rfl, rfl, hS, by omega, ?_, ?_, fun dd S1 hdd hS => ?_⟩
    · exact fun z => nomatch z
    · exact Nat.lt_of_le_of_lt (show _ ≤ 9 from Nat.le_of_ble_eq_true rfl) (by decide)
    obtain ⟨c, hc, rfl⟩ := List.mem_map.mp hdd
    obtain ⟨k1, rfl, hk⟩ : ∃ k1 : Nat, c = k1 ∧ k1 ∈ [1, 2, 3, 4, 5, 16] := by
      simp only [List.mem_cons, List.not_mem_nil, or_false] at hc
      rcases hc with rfl | rfl | rfl | rfl | rfl | rfl | rfl | rfl | rfl
      · exact ⟨2, rfl, by decide⟩
      · exact ⟨2, rfl, by decide⟩
      · exact ⟨2, rfl, by decide⟩
      · exact ⟨3, rfl, by decide⟩
      · exact ⟨3, rfl, by decide⟩
      · exact ⟨4, rfl, by decide⟩
      · exact ⟨1, rfl, by decide⟩
      · exact ⟨5, rfl, by decide⟩
      · exact ⟨16, rfl, by decide⟩
    have hk2 : 1 ≤ k1 ∧ k1 ≤ 16 := by
      simp only [List.mem_cons, List.not_mem_nil, or_false] at hk
      omega
    refine gss_cons ?_
    refine gs_setLc 3 (own := [("n", 4)]) (js := [4]) ?_ (by decide) sc__law_sizes.nd (show BlkOk ["pot", "most", "k", "some", "n"] (defScope s__law_sizes) _ [("n", 4)] from ⟨rfl, by decide +kernel, by decide +kernel, by decide +kernel, by decide +kernel⟩) (by rfl)
    refine gi_rng2 (hm := G.range) ?_
    refine ge_int ?_
    refine onI_ ?_
    refine ge_int ?_
    refine onI_ ⟨by walk_at "side", ?_⟩
    refine lc_I (fun c => decide (powL k1 c.toNat ≤ most)) (fun c => .int c) (by walk_at "side") (fun ci c m hd => ?_) (fun pl => ?_)
    ·
      obtain ⟨hj, rfl⟩ := rangeI_at hd
      intro st H C cl fp
      refine gg_name 4 ?_ sc__law_sizes.nd
      refine ⟨rfl, fun st H C cl fp => ?_⟩
      refine gts_one ?_
      refine gt_cmp ?_
      refine ge_cal C__law_raised hr hg ?_
      refine ga_cons ?_
      refine ge_name 2 rfl True.intro ?_
      refine ga_cons ?_
      refine ge_name 4 rfl True.intro ?_
      refine ga_nil ?_
      refine ⟨[], _, .nil, k1, 1 + ci, by rw [show ((1 + ci : Nat) : Int) = 1 + (ci : Int) by omega], by omega, by omega, by omega, ?_⟩
      refine ge_name 1 rfl True.intro ?_
      refine bo_le ?_
      refine ⟨_, rfl, ?_⟩
      refine ⟨by rw [show (1 + (ci : Int)).toNat = 1 + ci by omega], rfl, fun hp st H C cl fp => ?_⟩
      refine ge_name 4 rfl True.intro ?_
      exact ⟨rfl, rfl⟩
    refine gss_lock 3 rfl .here (datas_ints _) .here ?_
    refine gss_cons ?_
    refine gs_set 4 ?_ sc__law_sizes.nd
    refine ge_cal C__law_pick hr hg ?_
    refine ga_cons ?_
    refine ge_name 0 rfl True.intro ?_
    refine ga_cons ?_
    refine ge_name 3 rfl True.intro ?_
    refine ga_nil ?_
    refine ⟨_, _, .cons .here (.cons .here .nil), ?_⟩
    refine ⟨p, g, S1, m0 + 1, _, _, rfl, .inl rfl, rfl, hS, by omega, ?_, ?_, fun dd S2 hdd hS => ?_⟩
    · intro z
      have h1 : (1 : Int) ∈ (rangeI 1 ((13 : Int) - 1).toNat).filter (fun c => decide (powL k1 c.toNat ≤ most)) := List.mem_filter.mpr ⟨by decide, decide_eq_true (by show (1 : Int) * (k1 : Int) ≤ most; omega)⟩
      rw [List.map_eq_nil_iff.mp z] at h1
      exact absurd h1 (by simp)
    · rw [List.length_map]
      exact Nat.lt_of_le_of_lt (List.length_filter_le _ _) (by rw [rangeI_len]; decide)
    obtain ⟨c, hc, rfl⟩ := List.mem_map.mp hdd
    obtain ⟨hc1, hc2⟩ := List.mem_filter.mp hc
    obtain ⟨j, hj, rfl⟩ := List.mem_map.mp hc1
    have hj12 : j < 12 := List.mem_range.mp hj
    have hpow := of_decide_eq_true hc2
    rw [show (1 + (j : Int)).toNat = 1 + j by omega, powL_nat] at hpow
    have hpw3 : ((k1 ^ (1 + j) : Nat) : Int) ≤ 300 := Int.le_trans hpow hhi
    have hpw : k1 ^ (1 + j) ≤ 300 := by exact_mod_cast hpw3
    refine gss_cons ?_
    refine gs_ret ?_
    refine ge_tup ?_
    refine ga_cons ?_
    refine ge_name 2 rfl True.intro ?_
    refine ga_cons ?_
    refine ge_name 4 rfl True.intro ?_
    refine ga_nil ?_
    refine ⟨_, rfl, by walk_at "side", ?_⟩
    have hq := q k1 (1 + j) S2 ⟨siz_all k1 hk (1 + j) (List.mem_range.mpr (by omega)) (by omega) hpw, hk2.1, hk2.2, by omega, by omega, hpw⟩ hS
    rw [show ((1 + j : Nat) : Int) = 1 + (j : Int) by omega] at hq
    exact ⟨_, by walk_at "sub", hq⟩
end
end Nl

namespace Nl
open PySem PySem.Spec PyProof.Rows L2
local macro_rules | `(tactic| walk_at "side") => `(tactic| first | omega | with_reducible assumption | exact hu_of (by assumption) | exact hu64 (by assumption) | with_reducible rfl | (simp only [enumD_len, List.length_take, rangeI_len, List.length_map, List.length_append, List.length_cons, List.length_nil, sizeLine_eq] at *; omega) | rfl | decide)
local macro_rules | `(tactic| walk_at "sub") => `(tactic| first | (repeat first | exact wk_refl | refine wk_cons ?_) <;> done | (apply wk_ext; repeat first | exact Sub.nil | apply Sub.cons | exact Tk.here | apply Tk.there) <;> done)
local macro_rules | `(tactic| walk_at "no") => `(tactic| (intro z; first | exact Bool.noConfusion z | (simp at z; done) | (simp at z; omega) | (simp_all; done) | (simp_all; omega)))
local macro_rules | `(tactic| walk_at "inv") => `(tactic| first | exact ⟨rfl, rfl⟩ | exact ⟨_, rfl, rfl⟩ | exact ⟨_, _, rfl, rfl⟩)
section
variable {P : Program} {w : World} {K : PySem.W.Frag} {mg : Str → Option Value} {base : Heap}

def rowsF (k : Nat) : Nat → List (List Int)
  | 0 => [[]]
  | i + 1 => (rowsF k i).flatMap fun w => (rangeI 0 k).map fun x => w ++ [x]
def okF (k n many : Nat) (w : List Int) : Bool := isNone (rErr (k : Int) n (dT w)) && decide (w.take n = ((List.replicate n [(0 : Int)]).flatten).take many)
def intsD : PyData → List Int
  | .tuple ds => ds.map valI
  | _ => []
def fewL : List (Nat × Nat) := [(2, 1), (2, 2), (2, 3), (1, 3), (3, 1)]
def fewD (q : Nat × Nat) : PyData := dT [(q.1 : Int), (q.2 : Int)]
theorem few_cnt : ∀ q ∈ fewL, powN (facL q.1) (q.1 ^ (q.2 - 1)) / ((q.1 ^ q.2 : Nat) : Int) = (((rowsF q.1 (q.1 ^ q.2)).filter (okF q.1 q.2 (q.1 ^ q.2))).length : Int) := by decide +kernel
theorem few_siz : ∀ q ∈ fewL, (q.1, q.2) ∈ pairsK ∧ 1 ≤ q.1 ∧ q.1 ≤ 3 ∧ 1 ≤ q.2 ∧ q.2 ≤ 3 ∧ q.1 ^ q.2 ≤ 8 := by decide +kernel
theorem few_len : ∀ q ∈ fewL, ∀ i ∈ List.range 9, i ≤ q.1 ^ q.2 → (rowsF q.1 i).length ≤ 300 := by decide +kernel
theorem rows_len (k : Nat) : ∀ i, ∀ w ∈ rowsF k i, w.length = i
  | 0, w, h => by rw [List.mem_singleton.mp h]; rfl
  | i + 1, w, h => by
    obtain ⟨u, hu, hw⟩ := List.mem_flatMap.mp h
    obtain ⟨x, _, rfl⟩ := List.mem_map.mp hw
    rw [List.length_append, rows_len k i u hu]; rfl
def lngF (k : Nat) (l : List (List Int)) : List (List Int) := l.flatMap fun w => (rangeI 0 k).map fun x => w ++ [x]
theorem lng_step {k : Nat} {l : List (List Int)} {j : Nat} {w : List Int} (h : l[j]? = some w) : lngF k (l.take (j + 1)) = lngF k (l.take j) ++ (rangeI 0 k).map fun x => w ++ [x] := by
  unfold lngF
  rw [List.take_add_one, h, List.flatMap_append]; simp
theorem lng_len (k : Nat) : ∀ l : List (List Int), (lngF k l).length = l.length * k
  | [] => by rw [Nat.mul_comm]; rfl
  | w :: l => by
    show ((_ : List (List Int)) ++ lngF k l).length = _
    rw [List.length_append, lng_len k l, List.length_map, rangeI_len, List.length_cons, Nat.succ_mul]; omega
abbrev sp__law_are_few_right : SpD := fun xs μ Q => ∃ (p g : Addr) (S : PotS) (m : Nat), xs = [.a p] ∧ μ = PotM p g S ∧ PotOk m S ∧ m < 2 ^ 30 ∧ ∀ S', PotOk (m + 1) S' → Q (.d (.bool true)) (PotM p g S')
abbrev s__law_are_few_right : Stmt := topS 25
theorem sc__law_are_few_right : FnScope ["pot", "k", "n", "many", "rows", "turn", "longer", "own", "x", "good"] ["pot"] (defScope s__law_are_few_right) := ⟨rfl, rfl, rfl, by decide +kernel, rfl, by decide +kernel, by decide +kernel⟩
theorem few_fil {k n many : Nat} (l : List (List Int)) : l.filter ((fun d => okF k n many (intsD d)) ∘ dT) = l.filter (okF k n many) := by
  congr 1
  funext w
  show okF k n many (intsD (dT w)) = _
  rw [show intsD (dT w) = w from vals_back w]
theorem noDict_int : ∀ w : List Int, (dT w).hasDict = false
  | [] => rfl
  | x :: r => noDict_int r
theorem vd_T (w : List Int) : Vd (dT w) := .inl (noDict_int w)

abbrev ps__law_are_few_right : List Str := ["pot"]
theorem ok__law_are_few_right {k : Nat} (G : Gs mg) (D : Dn K mg "_law_are_few_right" s__law_are_few_right ps__law_are_few_right) (C__law_pick : Cal P w K mg base k "_law_pick" s__law_pick ps__law_pick sp__law_pick) (C__law_raised : Cal P w K mg base k "_law_raised" s__law_raised ps__law_raised sp__law_raised) (C_rounds_number : Cal P w K mg base k "rounds_number" s_rounds_number ps_rounds_number sp_rounds_number) (C_round_error : Cal P w K mg base k "round_error" s_round_error ps_round_error sp_round_error) : Cal P w K mg base (k + 1) "_law_are_few_right" s__law_are_few_right ps__law_are_few_right sp__law_are_few_right := by
  refine D.cal sc__law_are_few_right (fun xs μ Q h => ?_) fun f cdv A outer s H xs μ Q hr hg h => ?_
  · obtain ⟨p, g, S, m0, rfl, rfl, hS, hm, q⟩ := h
    rfl
  · obtain ⟨p, g, S, m0, rfl, rfl, hS, hm, q⟩ := h
    refine gss_cons ?_
    refine gs_asg (js := [1, 2]) ?_
    refine ge_cal C__law_pick hr hg ?_
    refine ga_cons ?_
    refine ge_name 0 rfl True.intro ?_
    refine ga_cons ?_
    refine ge_lock ?_
    refine ge_lst ?_
    refine ga_cons ?_
    refine ge_tup ?_
    refine ga_cons ?_
    refine ge_int ?_
    refine ga_cons ?_
    refine ge_int ?_
    refine ga_nil ?_
    refine ⟨_, rfl, by walk_at "side", ?_⟩
    refine ga_cons ?_
    refine ge_tup ?_
    refine ga_cons ?_
    refine ge_int ?_
    refine ga_cons ?_
    refine ge_int ?_
    refine ga_nil ?_
    refine ⟨_, rfl, by walk_at "side", ?_⟩
    refine ga_cons ?_
    refine ge_tup ?_
    refine ga_cons ?_
    refine ge_int ?_
    refine ga_cons ?_
    refine ge_int ?_
    refine ga_nil ?_
    refine ⟨_, rfl, by walk_at "side", ?_⟩
    refine ga_cons ?_
    refine ge_tup ?_
    refine ga_cons ?_
    refine ge_int ?_
    refine ga_cons ?_
    refine ge_int ?_
    refine ga_nil ?_
    refine ⟨_, rfl, by walk_at "side", ?_⟩
    refine ga_cons ?_
    refine ge_tup ?_
    refine ga_cons ?_
    refine ge_int ?_
    refine ga_cons ?_
    refine ge_int ?_
    refine ga_nil ?_
    refine ⟨_, rfl, by walk_at "side", ?_⟩
    refine ga_nil ?_
    refine ⟨by walk_at "side", fun plk => lk_ rfl ?_⟩
    refine ga_nil ?_
    refine ⟨_, _, .cons .here (.cons .here .nil), ?_⟩
    refine ⟨p, g, S, m0, _, fewL.map fewD, rfl, .inl rfl, rfl, hS, by omega, (fun z => nomatch z), Nat.lt_of_le_of_lt (show _ ≤ 5 from Nat.le_of_ble_eq_true rfl) (by decide), fun dd S1 hdd hS => ?_⟩
    obtain ⟨⟨k1, n⟩, hq, rfl⟩ := List.mem_map.mp hdd
    obtain ⟨hpk, hk1, hk3, hn1, hn3, hpw⟩ := few_siz _ hq
    have hcnt := few_cnt _ hq
    have hlen := few_len _ hq
    dsimp only at hpk hk1 hk3 hn1 hn3 hpw hcnt hlen
    unfold fewD
    obtain ⟨many, hmany⟩ : ∃ many, many = k1 ^ n := ⟨_, rfl⟩
    rw [← hmany] at hpw hcnt hlen
    refine gg_tup ?_
    refine ggs_cons (js := [1]) (ks := [2]) ?_
    refine gg_name 1 ?_ sc__law_are_few_right.nd
    refine ggs_cons (js := [2]) (ks := []) ?_
    refine gg_name 2 ?_ sc__law_are_few_right.nd
    refine ggs_nil ?_
    refine gss_cons ?_
    refine gs_tup (js := [3, 4]) ?_
    refine ga_cons ?_
    refine ge_cal C__law_raised hr hg ?_
    refine ga_cons ?_
    refine ge_name 1 rfl True.intro ?_
    refine ga_cons ?_
    refine ge_name 2 rfl True.intro ?_
    refine ga_nil ?_
    refine ⟨[], _, .nil, k1, n, rfl, by omega, by omega, by omega, ?_⟩
    rw [powL_nat, ← hmany]
    refine ga_cons ?_
    refine ge_lock ?_
    refine ge_lst ?_
    refine ga_cons ?_
    refine ge_tup ?_
    refine ga_nil ?_
    refine ⟨_, rfl, by walk_at "side", ?_⟩
    refine ga_nil ?_
    refine ⟨by walk_at "side", fun plk => lk_ rfl ?_⟩
    refine ga_nil ?_
    refine ⟨by walk_at "side", rfl, ?_⟩
    refine ggs_cons (js := [3]) (ks := [4]) ?_
    refine gg_name 3 ?_ sc__law_are_few_right.nd
    refine ggs_cons (js := [4]) (ks := []) ?_
    refine gg_name 4 ?_ sc__law_are_few_right.nd
    refine ggs_nil ?_
    refine gss_cons ?_
    refine gs_for (js := [5]) ?_
    refine gi_range1 (hm := G.range) ?_
    refine ge_name 3 rfl True.intro ?_
    refine onI_ ⟨by walk_at "side", by walk_at "side", ?_⟩
    refine ⟨fun i ρ m => ∃ x y z, ρ = [.a p, .d (.int k1), .d (.int n), .d (.int many), .d (.list ((rowsF k1 i).map dT)), x, y, z, .u, .u] ∧ Wk (PotM p g S1) m, ⟨_, _, _, rfl, wk_refl⟩, ?_, ?_⟩
    ·
      intro i d ρ m hd hI
      obtain ⟨hi, rfl⟩ := rangeD_at hd
      obtain ⟨x, y, z, rfl, hwk⟩ := hI
      rw [Int.toNat_natCast] at hi
      have hli := hlen i (List.mem_range.mpr (by omega)) (by omega)
      refine gg_wk hwk ?_
      refine gg_name 5 ?_ sc__law_are_few_right.nd
      refine gss_cons ?_
      refine gs_set 6 ?_ sc__law_are_few_right.nd
      refine ge_lst ?_
      refine ga_nil ?_
      refine ⟨by walk_at "side", fun pf => ?_⟩
      refine gss_cons ?_
      refine gs_for (js := [7]) ?_
      refine gi_lst ?_
      refine ge_name 4 rfl True.intro ?_
      refine onL_ ?_
      refine ⟨fun j ρ m => ∃ x z, ρ = [.a p, .d (.int k1), .d (.int n), .d (.int many), .d (.list ((rowsF k1 i).map dT)), x, .a pf, z, .u, .u] ∧ Wk ((pf, .lst ((lngF k1 ((rowsF k1 i).take j)).map fun w => Sl.d (dT w))) :: PotM p g S1) m, ⟨_, _, rfl, wk_refl⟩, ?_, ?_⟩
      ·
        intro j d ρ m hd hI
        rw [List.getElem?_map] at hd
        obtain ⟨w, hw, rfl⟩ := Option.map_eq_some_iff.mp hd
        obtain ⟨x2, z2, rfl, hwk2⟩ := hI
        have hwl := rows_len k1 i w (List.mem_of_getElem? hw)
        refine gg_wk hwk2 ?_
        refine gg_name 7 ?_ sc__law_are_few_right.nd
        refine gss_cons ?_
        refine gs_expr ?_
        refine ge_bm PySem.F.plainAttrs_list PySem.F.slot_list_extend PySem.F.type_list_extend ?_
        refine ge_name 6 rfl True.intro ?_
        refine ⟨tym_lst .here, ?_⟩
        refine ga_cons ?_
        refine ge_lc (own := [("x", 8)]) (js := [8]) ?_ (by decide) sc__law_are_few_right.nd (show BlkOk ["pot", "k", "n", "many", "rows", "turn", "longer", "own", "x", "good"] (defScope s__law_are_few_right) _ [("x", 8)] from ⟨rfl, by decide +kernel, by decide +kernel, by decide +kernel, by decide +kernel⟩)
        refine gi_rng1 (hm := G.range) ?_
        refine ge_name 1 rfl True.intro ?_
        refine onI_ ⟨by walk_at "side", by walk_at "side", ?_⟩
        refine lc_I (fun _ => true) (fun c => dT (w ++ [c])) (by walk_at "side") (fun ci c m hd => ?_) (fun pl => ?_)
        ·
          obtain ⟨hj, rfl⟩ := rangeI_at hd
          intro st H C cl fp
          refine gg_name 8 ?_ sc__law_are_few_right.nd
          refine ⟨rfl, fun st H C cl fp => ?_⟩
          refine gts_nil ⟨rfl, rfl, fun hp st H C cl fp => ?_⟩
          refine ge_bin ?_
          refine ge_name 7 rfl True.intro ?_
          refine ge_tup ?_
          refine ga_cons ?_
          refine ge_name 8 rfl True.intro ?_
          refine ga_nil ?_
          refine ⟨List.map PyData.int [_], rfl, by walk_at "side", ?_⟩
          refine bo_catI (by show _ + 1 ≤ _; omega) ?_
          exact ⟨rfl, rfl⟩
        refine ga_nil ?_
        rw [all_true, Int.toNat_natCast]
        refine mo_extendL (.there .here) .here (by rw [List.length_map, lng_len, List.length_map, rangeI_len, List.length_take]; exact Nat.le_trans (Nat.add_le_add (Nat.mul_le_mul (Nat.min_le_right _ _) hk3) hk3) (by omega)) (.there .here) ?_
        refine gss_nil ?_
        refine ⟨_, _, rfl, ?_⟩
        rw [lng_step hw, List.map_append, List.map_map]
        walk_at "sub"
      ·
        intro ρ m hI
        obtain ⟨x2, z2, rfl, hwk2⟩ := hI
        rw [List.length_map, List.take_length] at hwk2
        refine gss_wk hwk2 ?_
        refine gss_cons ?_
        refine gs_set 4 ?_ sc__law_are_few_right.nd
        refine ge_name 6 rfl True.intro ?_
        refine gss_lock 4 rfl .here (datas_f _ _) .here ?_
        refine gss_nil ?_
        exact ⟨_, _, _, rfl, wk_refl⟩
    ·
      intro ρ m hI
      obtain ⟨x, y, z, rfl, hwk⟩ := hI
      rw [rangeD_len, Int.toNat_natCast] at *
      have hlm := hlen many (List.mem_range.mpr (by omega)) (Nat.le_refl _)
      refine gss_wk hwk ?_
      refine gss_cons ?_
      refine gs_setLc 9 (own := [("own", 7)]) (js := [7]) ?_ (by decide) sc__law_are_few_right.nd (show BlkOk ["pot", "k", "n", "many", "rows", "turn", "longer", "own", "x", "good"] (defScope s__law_are_few_right) _ [("own", 7)] from ⟨rfl, by decide +kernel, by decide +kernel, by decide +kernel, by decide +kernel⟩) (by rfl)
      refine gi_lst ?_
      refine ge_name 4 rfl True.intro ?_
      refine onL_ ?_
      refine lc_pure (fun d => okF k1 n many (intsD d)) (fun d => d) (by walk_at "side") (fun ci d m hd => ?_) (fun pl => ?_)
      ·
        rw [List.getElem?_map] at hd
        obtain ⟨w, hw, rfl⟩ := Option.map_eq_some_iff.mp hd
        have hwl := rows_len k1 many w (List.mem_of_getElem? hw)
        intro st H C cl fp
        refine gg_name 7 ?_ sc__law_are_few_right.nd
        refine ⟨rfl, fun st H C cl fp => ?_⟩
        refine gts_one ?_
        refine gt_same (B := okF k1 n many w) ?_ ?_
        ·
          refine gt_bool ?_
          refine gb_and ?_
          refine gt_cmp ?_
          refine ge_cal C_round_error hr hg ?_
          refine ga_cons ?_
          refine ge_name 1 rfl True.intro ?_
          refine ga_cons ?_
          refine ge_name 2 rfl True.intro ?_
          refine ga_cons ?_
          refine ge_name 7 rfl True.intro ?_
          refine ga_nil ?_
          refine ⟨[], _, .nil, k1, n, dT w, rfl, vd_T w, by rw [powL_nat, ← hmany]; omega, by omega, by omega, by omega, ?_⟩
          refine ge_non ?_
          refine bo_isN ?_
          refine ⟨_, rfl, ?_⟩
          refine ⟨fun hT => ?_, fun hF => ?_⟩
          ·
            refine gb_and1 ?_
            refine gt_cmp ?_
            refine ge_slice ?_
            refine ge_name 7 rfl True.intro ?_
            refine go_none ?_
            refine go_some ?_
            refine ge_name 2 rfl True.intro ?_
            refine so_tI _ (cutL_to _ n rfl) ?_
            refine ge_slice ?_
            refine ge_bin ?_
            refine ge_tup ?_
            refine ga_cons ?_
            refine ge_int ?_
            refine ga_nil ?_
            refine ⟨List.map PyData.int [0], rfl, by walk_at "side", ?_⟩
            refine ge_name 2 rfl True.intro ?_
            refine bo_repI (by omega) (by omega) (by show 1 * _ ≤ _; omega) ?_
            rw [Int.toNat_natCast]
            refine go_none ?_
            refine go_some ?_
            refine ge_name 3 rfl True.intro ?_
            refine so_tI _ (cutL_to _ many rfl) ?_
            refine bo_eqTI (hu64 hr) ?_
            refine ⟨_, rfl, ?_⟩
            exact ⟨by unfold okF; rw [hT, Bool.true_and], rfl⟩
          ·
            exact ⟨by unfold okF; rw [hF, Bool.false_and], rfl⟩
        refine ⟨by rw [show intsD (dT w) = w from vals_back w], rfl, fun hp st H C cl fp => ?_⟩
        refine ge_name 7 rfl True.intro ?_
        exact ⟨rfl, rfl⟩
      refine gss_cons ?_
      refine gs_ret ?_
      refine ge_cmp ?_
      refine ge_cal C_rounds_number hr hg ?_
      refine ga_cons ?_
      refine ge_name 1 rfl True.intro ?_
      refine ga_cons ?_
      refine ge_name 2 rfl True.intro ?_
      refine ga_nil ?_
      refine ⟨[], _, .nil, k1, n, rfl, ⟨hpk, hk1, by omega, hn1, by omega, by rw [← hmany]; omega⟩, ?_⟩
      rw [← hmany]
      refine ge_callB G.len bt_len ?_
      refine ga_cons ?_
      refine ge_name 9 rfl True.intro ?_
      refine ga_nil ?_
      refine co_lenL (.c .here) ?_
      rw [List.length_map, List.map_id', List.filter_map, List.length_map, few_fil]
      refine bo_eqI ?_
      rw [decide_eq_true hcnt]
      exact ⟨_, by walk_at "sub", q S1 hS⟩
end
end Nl

namespace Nl
open PySem PySem.Spec PyProof.Rows L2
local macro_rules | `(tactic| walk_at "side") => `(tactic| first | omega | with_reducible assumption | exact hu_of (by assumption) | exact hu64 (by assumption) | with_reducible rfl | (simp only [enumD_len, List.length_take, rangeI_len, List.length_map, List.length_append, List.length_cons, List.length_nil, sizeLine_eq] at *; omega) | rfl | decide)
local macro_rules | `(tactic| walk_at "sub") => `(tactic| first | (repeat first | exact wk_refl | refine wk_cons ?_) <;> done | (apply wk_ext; repeat first | exact Sub.nil | apply Sub.cons | exact Tk.here | apply Tk.there) <;> done)
local macro_rules | `(tactic| walk_at "no") => `(tactic| (intro z; first | exact Bool.noConfusion z | (simp at z; done) | (simp at z; omega) | (simp_all; done) | (simp_all; omega)))
local macro_rules | `(tactic| walk_at "inv") => `(tactic| first | exact ⟨rfl, rfl⟩ | exact ⟨_, rfl, rfl⟩ | exact ⟨_, _, rfl, rfl⟩)
section
variable {P : Program} {w : World} {K : PySem.W.Frag} {mg : Str → Option Value} {base : Heap}

abbrev sp_law : SpD := fun xs μ Q => ∃ ns : List Int, xs = [.d (dLs ns)] ∧ μ = [] ∧ ns.length ≤ 63 ∧ (∀ z ∈ ns, Builtin.Int.intBits z ≤ 1048576) ∧ ∀ m, Q (.d (.bool true)) m
theorem nodec {p : Prop} [Decidable p] (h : (!decide p) = true) (hp : p) : False := by
  rw [decide_eq_true hp] at h
  exact Bool.noConfusion h
structure Rnd (k n many : Nat) (w : List Int) : Prop where
  len : w.length = many
  dis : Dis w n
  let_ : ∀ x ∈ w, 0 ≤ x ∧ x < k
theorem Rnd.ne {k n many : Nat} {w : List Int} (h : Rnd k n many w) (hp : 0 < many) : w ≠ [] := fun z => by have := h.len; rw [z] at this; exact absurd this (by show 0 ≠ many; omega)
theorem Rnd.abs {k n many : Nat} {w : List Int} (h : Rnd k n many w) (hk : k ≤ 16) : ∀ x ∈ w, x.natAbs < 2 ^ 64 := fun x m => by have := h.let_ x m; omega
theorem Rnd.err {k n many : Nat} {w : List Int} (h : Rnd k n many w) (hm : powL (k : Int) n = (many : Int)) : rErr (k : Int) n (dT w) = .none := by
  have e : ((w.map PyData.int).length : Int) = powL (k : Int) n := by rw [List.length_map, h.len, hm]
  show (if ((w.map PyData.int).length : Int) = powL (k : Int) n then rErrL (k : Int) n (w.map PyData.int) else _) = _
  rw [if_pos e]
  unfold rErrL
  rw [fi_none (fun d md => by
    obtain ⟨x, hx, rfl⟩ := List.mem_map.mp md
    obtain ⟨h0, h1⟩ := h.let_ x hx
    show (!(decide (0 ≤ x) && decide (x ≤ (k : Int) - 1))) = false
    rw [decide_eq_true h0, decide_eq_true (by omega)]; rfl), vals_back, List.length_map, h.dis.rep]
theorem rnd_rot {k n many j : Nat} {w : List Int} (h : Rnd k n many w) (hj : j < many) : Rnd k n many (rotR w j) :=
  ⟨by rw [rotR_len w (by rw [h.len]; omega), h.len], dis_rot h.dis (by rw [h.len]; exact hj), fun x m => h.let_ x ((List.mem_append.mp m).elim List.mem_of_mem_drop List.mem_of_mem_take)⟩
theorem rnd_rev {k n many : Nat} {w : List Int} (h : Rnd k n many w) : Rnd k n many w.reverse :=
  ⟨by rw [List.length_reverse, h.len], dis_rev h.dis, fun x m => h.let_ x (List.mem_reverse.mp m)⟩
theorem ints_of {ns : List Int} {es : List PyData} (h : ∀ d ∈ es, d ∈ ns.map PyData.int) : es = (es.map valI).map PyData.int := by
  rw [List.map_map]
  refine ((List.map_congr_left fun d m => ?_).trans (List.map_id es)).symm
  obtain ⟨c, _, rfl⟩ := List.mem_map.mp (h d m)
  rfl
theorem perm_ints {ns : List Int} {es : List PyData} (h : es.Perm (ns.map PyData.int)) : ∃ v : List Int, es = v.map PyData.int ∧ v.Perm ns :=
  ⟨es.map valI, ints_of fun d m => h.mem_iff.mp m, by
    have := h.map valI
    rwa [vals_back] at this⟩
theorem rangeI_nodup (k : Nat) : (rangeI 0 k).Nodup := by
  show ((List.range k).map _).Nodup
  exact List.Pairwise.map _ (fun a b hab e => hab (by omega)) List.nodup_range
structure Nu (k : Nat) (v : List Int) : Prop where
  len : v.length = k
  nd : v.Nodup
  mem : ∀ x ∈ v, 0 ≤ x ∧ x < k
theorem nu_facts {k : Nat} {v : List Int} (h : v.Perm (rangeI 0 k)) : Nu k v :=
  ⟨by rw [h.length_eq, rangeI_len], h.nodup_iff.mpr (rangeI_nodup k), fun x m => by
    obtain ⟨i, hi, rfl⟩ := List.mem_map.mp (h.mem_iff.mp m)
    have := List.mem_range.mp hi
    omega⟩
theorem rnd_map {k n many : Nat} {w v : List Int} (h : Rnd k n many w) (hv : Nu k v) (hn : 1 ≤ n) : Rnd k n many (w.map fun c => v.getD c.toNat 0) := by
  have at_ : ∀ x ∈ w, ∃ (hx : x.toNat < v.length), v.getD x.toNat 0 = v[x.toNat] := fun x m => by
    have := h.let_ x m
    have hx : x.toNat < v.length := by rw [hv.len]; omega
    exact ⟨hx, by rw [List.getD_eq_getElem?_getD, List.getElem?_eq_getElem hx]; rfl⟩
  refine ⟨by rw [List.length_map, h.len], dis_map h.dis _ (fun x hx y hy e => ?_) hn, fun x m => ?_⟩
  · obtain ⟨a1, e1⟩ := at_ x hx
    obtain ⟨a2, e2⟩ := at_ y hy
    have b1 := h.let_ x hx
    have b2 := h.let_ y hy
    have e3 : v[x.toNat] = v[y.toNat] := by rw [← e1, ← e2]; exact e
    have e4 := (List.getElem_inj hv.nd).mp e3
    omega
  · obtain ⟨c, hc, rfl⟩ := List.mem_map.mp m
    obtain ⟨a1, e1⟩ := at_ c hc
    show 0 ≤ v.getD c.toNat 0 ∧ _
    rw [e1]
    exact hv.mem _ (List.getElem_mem a1)
theorem two_of {k n many i : Nat} {u w : List Int} {d : PyData} (h : [dT u, dT w][i]? = some d) (hu : Rnd k n many u) (hw : Rnd k n many w) : ∃ x, d = dT x ∧ Rnd k n many x := by
  have m := List.mem_of_getElem? h
  simp only [List.mem_cons, List.not_mem_nil, or_false] at m
  rcases m with rfl | rfl
  · exact ⟨u, rfl, hu⟩
  · exact ⟨w, rfl, hw⟩
theorem facL_s (i : Nat) : facL (i + 1) = facL i * (1 + (i : Int)) := by rw [Int.add_comm]; rfl
theorem rk_primes {k n T : Nat} {l : List (List Int)} (h : POk k n T l) (hp : k ^ n ≤ 300) (hk : k ≤ 16) : Rok (.tuple (l.map dT)) 8042003 8 := by
  refine (rok_tuple (rokA_map (n := 20103) (k := 1) fun w m => (rok_tupI (ns := w) fun x hx => ?_).up ?_ (Nat.le_refl _))).up ?_ (by decide)
  · have := h.let_ x (List.mem_flatten.mpr ⟨w, m, hx⟩)
    omega
  · have := (List.sublist_flatten_of_mem m).length_le
    have := h.len
    omega
  · have := h.few
    omega
def RepOk (d : PyData) : Prop := d = .none ∨ (∃ x, d = .str x ∧ (reprText x).length ≤ 1000) ∨ ∃ ds, d = .tuple ds ∧ Rok (.tuple ds) 5000 9
theorem rep_pair {x : Str} {i : Nat} (h : (reprText x).length ≤ 1000) (hi : i < 2 ^ 60) : RepOk (.tuple [.str x, .int (i : Nat)]) :=
  .inr (.inr ⟨_, rfl, (rk_tuple (k := 8) (rk_cons rk_str (rk_cons (rk_int (by omega)) rk_nil))).up (by omega) (Nat.le_refl _)⟩)
theorem form_ok : RepOk (.str (Str.ofString "form")) := .inr (.inl ⟨_, rfl, by decide +kernel⟩)
theorem rErr_shape {k : Int} {n : Nat} {d : PyData} (h : powL k n ≤ 10000) : RepOk (rErr k n d) := by
  cases ht : d.isTuple with
  | false => rw [rErr_nt ht]; exact form_ok
  | true =>
    obtain ⟨ds, rfl⟩ := tuple_of ht
    show RepOk (if (ds.length : Int) = powL k n then rErrL k n ds else _)
    split
    · rename_i e
      have hl : ds.length ≤ 10000 := by omega
      unfold rErrL
      split
      · rename_i i hi
        have := (List.findIdx?_eq_some_iff_getElem.mp hi).1
        exact rep_pair (by decide +kernel) (by omega)
      · split
        · rename_i i hi
          have := List.mem_range.mp (List.mem_of_find?_eq_some hi)
          exact rep_pair (by decide +kernel) (by omega)
        · exact .inl rfl
    · exact form_ok
section
variable {X : Cx} {H0 : Hp} {F : List Addr} {μ : Mu} {Q : Sl → Mu → Prop}
theorem co_reprE {d : PyData} (h : RepOk d) (hu : X.A.units + 64 < cLine) (hg : X.A.guards = some []) (q : Q (.d (.str d.shown)) μ) : CO X H0 F (.builtin "repr") [.d d] μ Q := by
  rcases h with rfl | ⟨x, rfl, hx⟩ | ⟨ds, rfl, hx⟩
  · exact co_reprN q
  · exact co_reprT1 (by omega) q
  · exact co_reprS hx (by decide) (by decide) hu hg q
end
theorem sm_items {k : Nat} {c : Int} (hk : k ≤ 16) (hc : 0 ≤ c ∧ c < k) : ∀ d ∈ [PyData.int 0, .int ((k : Int) - 1), .int (k : Nat), .int (-1), .bool true, .none, .str (Str.ofString "0"), .tuple [.int 0], .int (10 ^ (30 : Int).toNat), .int c], Sm d := fun d m => by
  simp only [List.mem_cons, List.not_mem_nil, or_false] at m
  rcases m with rfl | rfl | rfl | rfl | rfl | rfl | rfl | rfl | rfl | rfl
  · exact sm_int (by decide)
  · exact sm_int (by omega)
  · exact sm_int (by omega)
  · exact sm_int (by decide)
  · exact (rk_bool (k := 4)).up (by decide) (Nat.le_refl _)
  · exact (rk_none (k := 4)).up (by decide) (Nat.le_refl _)
  · exact (rk_str (k := 4)).up (by decide +kernel) (Nat.le_refl _)
  · exact (rk_tuple (k := 3) (rk_cons (rk_int (by decide)) rk_nil)).up (by decide) (Nat.le_refl _)
  · exact (rk_intW (k := 4) (by decide +kernel)).up (by decide) (Nat.le_refl _)
  · exact sm_int (by omega)
theorem gd_same {m : Nat} {c : Int} (hc : c.natAbs < 2 ^ 64) (hm : m ≤ 300) : Gd (dT (List.replicate (m : Int).toNat [c]).flatten) := by
  refine gd_tuple (sm_ints fun x h => ?_) ?_
  · obtain ⟨t, ht, hx⟩ := List.mem_flatten.mp h
    rw [List.eq_of_mem_replicate ht] at hx
    rw [List.mem_singleton.mp hx]; exact hc
  · rw [List.length_map, Int.toNat_natCast, List.length_flatten, List.map_replicate, List.sum_replicate_nat]
    show m * 1 ≤ _
    omega
abbrev s_law : Stmt := topS 26
theorem sc_law : FnScope ["script", "pot", "k", "n", "primes", "many", "row", "word", "above", "below", "x", "due", "j", "names", "other", "own", "i", "items", "values", "place", "value", "shown", "fault", "said"] ["script"] (defScope s_law) := ⟨rfl, rfl, rfl, by decide +kernel, rfl, by decide +kernel, by decide +kernel⟩
theorem four_gd {es vs : List PyData} {dd : PyData} {o : List Int} {k many : Nat} (hes : ∀ d ∈ es, Gd d) (hdd : Gd dd) (hm : many ≤ 300) (hk : k ≤ 16) (ha : ∀ x ∈ o, x.natAbs < 2 ^ 64) (hl : o.length = many) (h : vs = es ++ [dT (List.replicate (many : Int).toNat [(0 : Int)]).flatten, dT (List.replicate (many : Int).toNat [(k : Int) - 1]).flatten, dd, dT (o ++ o)]) (hk1 : 1 ≤ k) : ∀ d ∈ vs, Gd d := fun d m => by
  rw [h] at m
  rcases List.mem_append.mp m with z | z
  · exact hes d z
  · simp only [List.mem_cons, List.not_mem_nil, or_false] at z
    rcases z with rfl | rfl | rfl | rfl
    · exact gd_same (by decide) hm
    · exact gd_same (by omega) hm
    · exact hdd
    · exact gd_tuple (sm_ints fun x m => (List.mem_append.mp m).elim (ha x) (ha x)) (by rw [List.length_map, List.length_append]; omega)
theorem one_gd {es : List PyData} {o : List Int} {d : PyData} (ha : ∀ x ∈ o, x.natAbs < 2 ^ 64) (hl : o.length ≤ 3000) (hes : ∀ d ∈ es, Gd d) (h : d ∈ [dT o] ++ es.take 12) : Gd d := by
  rcases List.mem_append.mp h with z | z
  · rw [List.mem_singleton.mp z]; exact gd_tuple (sm_ints ha) (by rw [List.length_map]; omega)
  · exact hes d (List.mem_of_mem_take z)
theorem datas_app2 (a b : List PyData) : datas (a.map Sl.d ++ b.map Sl.d) = some (a ++ b) := by rw [← List.map_append]; exact datas_d _

abbrev ps_law : List Str := ["script"]
theorem kw_prime_words_n_k : KwOk "prime_words" s_prime_words ps_prime_words ["n", "k"] 0 [1, 0] := fun _ _ _ _ _ _ us ws h1 h2 => match us, ws, h1, h2 with | [], [_, _], _, _ => rfl
theorem kw_least_round_n_k : KwOk "least_round" s_least_round ps_least_round ["n", "k"] 0 [1, 0] := fun _ _ _ _ _ _ us ws h1 h2 => match us, ws, h1, h2 with | [], [_, _], _, _ => rfl
theorem kw_rounds_number_n_k : KwOk "rounds_number" s_rounds_number ps_rounds_number ["n", "k"] 0 [1, 0] := fun _ _ _ _ _ _ us ws h1 h2 => match us, ws, h1, h2 with | [], [_, _], _, _ => rfl
theorem kw_place_in_round_word_row_n_k : KwOk "place_in_round" s_place_in_round ps_place_in_round ["word", "row", "n", "k"] 0 [3, 2, 1, 0] := fun _ _ _ _ _ _ us ws h1 h2 => match us, ws, h1, h2 with | [], [_, _, _, _], _, _ => rfl
theorem kw_round_error_value_n_k : KwOk "round_error" s_round_error ps_round_error ["value", "n", "k"] 0 [2, 1, 0] := fun _ _ _ _ _ _ us ws h1 h2 => match us, ws, h1, h2 with | [], [_, _, _], _, _ => rfl
theorem ok_law {k : Nat} (G : Gs mg) (D : Dn K mg "law" s_law ps_law) (C__law_pot : Cal P w K mg base k "_law_pot" s__law_pot ps__law_pot sp__law_pot) (C__law_sizes : Cal P w K mg base k "_law_sizes" s__law_sizes ps__law_sizes sp__law_sizes) (C__law_are_few_right : Cal P w K mg base k "_law_are_few_right" s__law_are_few_right ps__law_are_few_right sp__law_are_few_right) (C__law_raised : Cal P w K mg base k "_law_raised" s__law_raised ps__law_raised sp__law_raised) (C__law_draw : Cal P w K mg base k "_law_draw" s__law_draw ps__law_draw sp__law_draw) (C__law_mixed : Cal P w K mg base k "_law_mixed" s__law_mixed ps__law_mixed sp__law_mixed) (C__law_window : Cal P w K mg base k "_law_window" s__law_window ps__law_window sp__law_window) (C__law_pick : Cal P w K mg base k "_law_pick" s__law_pick ps__law_pick sp__law_pick) (C__law_bent : Cal P w K mg base k "_law_bent" s__law_bent ps__law_bent sp__law_bent) (C__law_primes : Cal P w K mg base k "_law_primes" s__law_primes ps__law_primes sp__law_primes) (C_round_error : Cal P w K mg base k "round_error" s_round_error ps_round_error sp_round_error) (C__law_round_fault : Cal P w K mg base k "_law_round_fault" s__law_round_fault ps__law_round_fault sp__law_round_fault) (C__law_odd : Cal P w K mg base k "_law_odd" s__law_odd ps__law_odd sp__law_odd) (C_prime_words : Cal P w K mg base k "prime_words" s_prime_words ps_prime_words sp_prime_words) (C_rounds_number : Cal P w K mg base k "rounds_number" s_rounds_number ps_rounds_number sp_rounds_number) (C_least_round : Cal P w K mg base k "least_round" s_least_round ps_least_round sp_least_round) (C_place_in_round : Cal P w K mg base k "place_in_round" s_place_in_round ps_place_in_round sp_place_in_round) : Cal P w K mg base (k + 1) "law" s_law ps_law sp_law := by
  refine D.cal sc_law (fun xs μ Q h => ?_) fun f cdv A outer s H xs μ Q hr hg h => ?_
  · obtain ⟨ns, rfl, rfl, hln, hbits, q⟩ := h
    rfl
  · obtain ⟨ns, rfl, rfl, hln, hbits, q⟩ := h
    refine gss_cons ?_
    refine gs_set 1 ?_ sc_law.nd
    refine ge_cal C__law_pot hr hg ?_
    refine ga_cons ?_
    refine ge_name 0 rfl True.intro ?_
    refine ga_nil ?_
    refine ⟨[], _, .nil, ns, rfl, hln, hbits, fun p g S hS => ?_⟩
    refine gss_wk (μ' := PotM p g S) (by walk_at "sub") ?_
    refine gss_cons ?_
    refine gs_asg (js := [2, 3]) ?_
    refine ge_cal C__law_sizes hr hg ?_
    refine ga_cons ?_
    refine ge_name 1 rfl True.intro ?_
    refine ga_cons ?_
    refine GE.mono (Q := fun y m' => ∃ v S', y = .d (.int v) ∧ 16 ≤ v ∧ v ≤ 300 ∧ PotOk 1 S' ∧ m' = PotM p g S') ?_ ?_
    ·
      refine ge_if ?_
      refine gt_cmp ?_
      refine ge_cal C__law_draw hr hg ?_
      refine ga_cons ?_
      refine ge_name 1 rfl True.intro ?_
      refine ga_cons ?_
      refine ge_int ?_
      refine ga_nil ?_
      refine ⟨_, _, .cons .here (.cons .here .nil), p, g, S, 0, 4, rfl, rfl, hS, by omega, by omega, by omega, fun r0 S1 h0 h1 hS => ?_⟩
      refine ge_int ?_
      first | refine bo_eqI ?_ | refine bo_eqS ?_
      refine ⟨_, rfl, ?_⟩
      refine ⟨fun hT => ?_, fun hF => ?_⟩
      ·
        refine later ?_
        refine ge_int ?_
        exact ⟨300, S1, rfl, by decide, by decide, hS, rfl⟩
      ·
        refine later ?_
        refine ge_int ?_
        exact ⟨70, S1, rfl, by decide, by decide, hS, rfl⟩
    rintro _ _ ⟨v, S1, rfl, hv0, hv1, hS, rfl⟩
    refine ga_nil ?_
    refine ⟨_, _, .cons .here (.cons .here .nil), p, g, S1, 1, v, rfl, rfl, hS, by omega, hv0, hv1, fun k1 n S2 hz hS => ?_⟩
    obtain ⟨T, l, hP⟩ := pair_ok hz.mem
    have hk1 := hz.k1
    have hk16 := hz.k16
    have hn1 := hz.n1
    have hn12 := hz.n12
    have hpw := hz.pw
    have hRp := rk_primes hP hpw hk16
    have hbig := hP.big
    have hmp : 0 < k1 ^ n := Nat.pow_pos hk1
    have hfac := fac_le k1 hk16
    have hkn : k1 ^ (n - 1) ≤ 300 := Nat.le_trans (Nat.pow_le_pow_right hk1 (by omega)) hpw
    obtain ⟨many, hmany⟩ : ∃ many, many = k1 ^ n := ⟨_, rfl⟩
    obtain ⟨r, hrd⟩ : ∃ r, r = l.flatten := ⟨_, rfl⟩
    have hR : Rnd k1 n many r := ⟨by rw [hrd, hmany]; exact hP.len, hrd ▸ hP.dis, hrd ▸ hP.let_⟩
    have hpl : powL (k1 : Int) n = (many : Int) := by rw [powL_nat, ← hmany]
    rw [← hmany] at hpw hbig hmp
    have hrl := hR.len
    have hRr : Rok (dT r) 20103 8 := (rk_dT (k := 7) (hR.abs hk16)).up (by omega) (Nat.le_refl _)
    have hRd : Rok _ _ 8 := rk_intW hbig
    have hpL : powL (k1 : Int) n ≤ 10000 := by omega
    refine gg_tup ?_
    refine ggs_cons (js := [2]) (ks := [3]) ?_
    refine gg_name 2 ?_ sc_law.nd
    refine ggs_cons (js := [3]) (ks := []) ?_
    refine gg_name 3 ?_ sc_law.nd
    refine ggs_nil ?_
    refine gss_cons ?_
    refine gs_par 4 5 ?_ sc_law.nd
    refine ga_cons ?_
    refine ge_callT G.tuple bt_tuple ?_
    refine ga_cons ?_
    refine ge_cal C__law_primes hr hg ?_
    refine ga_cons ?_
    refine ge_name 2 rfl True.intro ?_
    refine ga_cons ?_
    refine ge_name 3 rfl True.intro ?_
    refine ga_nil ?_
    refine ⟨[], _, .nil, k1, n, T, l, rfl, rfl, hz, hP, fun q1 => ?_⟩
    refine ga_nil ?_
    refine co_tupL (.c .here) (datas_f _ _) ?_
    refine ga_cons ?_
    refine ge_cal C__law_raised hr hg ?_
    refine ga_cons ?_
    refine ge_name 2 rfl True.intro ?_
    refine ga_cons ?_
    refine ge_name 3 rfl True.intro ?_
    refine ga_nil ?_
    refine ⟨[], _, .nil, k1, n, rfl, by omega, by omega, by omega, ?_⟩
    rw [hpl]
    refine ga_nil ?_
    refine ⟨_, _, rfl, ?_⟩
    refine gss_wk (μ' := PotM p g S2) (by walk_at "sub") ?_
    refine gss_cons ?_
    refine gs_if ?_
    refine gt_cmp ?_
    refine ge_callB G.repr bt_repr ?_
    refine ga_cons ?_
    refine ge_lock ?_
    refine ge_lst ?_
    refine ga_cons ?_
    refine ge_cal C_prime_words hr hg ?_
    refine ga_cons ?_
    refine ge_name 2 rfl True.intro ?_
    refine ga_cons ?_
    refine ge_name 3 rfl True.intro ?_
    refine ga_nil ?_
    refine ⟨[], _, .nil, k1, n, T, l, rfl, hz, hP, ?_⟩
    refine ga_cons ?_
    refine ge_calK0 C_prime_words kw_prime_words_n_k hr hg ?_
    refine gk_cons ?_
    refine ge_name 3 rfl True.intro ?_
    refine gk_cons ?_
    refine ge_name 2 rfl True.intro ?_
    refine gk_nil ⟨rfl, ?_⟩
    refine ⟨[], _, .nil, k1, n, T, l, rfl, hz, hP, ?_⟩
    refine ga_nil ?_
    refine ⟨by walk_at "side", fun plk => lk_ rfl ?_⟩
    refine ga_nil ?_
    refine co_repr9 (rk_list (rk_cons hRp (rk_cons hRp rk_nil))) (by omega) (hu64 hr) hg ?_
    refine ge_callB G.repr bt_repr ?_
    refine ga_cons ?_
    refine ge_lock ?_
    refine ge_lst ?_
    refine ga_cons ?_
    refine ge_name 4 rfl True.intro ?_
    refine ga_cons ?_
    refine ge_name 4 rfl True.intro ?_
    refine ga_nil ?_
    refine ⟨by walk_at "side", fun plk => lk_ rfl ?_⟩
    refine ga_nil ?_
    refine co_repr9 (rk_list (rk_cons hRp (rk_cons hRp rk_nil))) (by omega) (hu64 hr) hg ?_
    first | refine bo_neI ?_ | refine bo_neS ?_
    refine ⟨_, rfl, ?_⟩
    refine ⟨fun hT => (show False from nodec hT rfl).elim, fun _ => ?_⟩
    refine gss_nil ?_
    refine gss_cons ?_
    refine gs_set 6 ?_ sc_law.nd
    refine ge_lst ?_
    refine ga_nil ?_
    refine ⟨by walk_at "side", fun pw => ?_⟩
    refine gss_cons ?_
    refine gs_for (js := [7]) ?_
    refine gi_tup ?_
    refine ge_name 4 rfl True.intro ?_
    refine onT_ ?_
    refine ⟨fun i ρ m => ∃ y7, ρ = [.d (dLs ns), .a p, .d (.int k1), .d (.int n), .d (.tuple (l.map dT)), .d (.int many), .a pw, y7, .u, .u, .u, .u, .u, .u, .u, .u, .u, .u, .u, .u, .u, .u, .u, .u] ∧ m = (pw, .lst (((l.take i).flatten).map fun c => Sl.d (.int c))) :: PotM p g S2, ⟨_, rfl, rfl⟩, ?_, ?_⟩
    ·
      intro i d ρ m hd hI
      rw [List.getElem?_map] at hd
      obtain ⟨w, hw, rfl⟩ := Option.map_eq_some_iff.mp hd
      obtain ⟨x, rfl, rfl⟩ := hI
      have hlw := flat_le l i
      have htot := hP.len
      rw [← hmany] at htot
      refine gg_name 7 ?_ sc_law.nd
      refine gss_cons ?_
      refine gs_expr ?_
      refine ge_bm PySem.F.plainAttrs_list PySem.F.slot_list_extend PySem.F.type_list_extend ?_
      refine ge_name 6 rfl True.intro ?_
      refine ⟨tym_lst .here, ?_⟩
      refine ga_cons ?_
      refine ge_name 7 rfl True.intro ?_
      refine ga_nil ?_
      refine mo_extendT .here (by rw [List.length_map]; have := List.getElem?_eq_some_iff.mp hw; have := flat_step hw; omega) .here ?_
      refine gss_nil ?_
      exact ⟨_, rfl, by rw [List.take_add_one, hw, List.flatten_append, List.map_append, List.map_map]; simp⟩
    ·
      intro ρ m hI
      obtain ⟨y7, rfl, rfl⟩ := hI
      rw [List.length_map, List.take_length, ← hrd]
      refine gss_cons ?_
      refine gs_set 6 ?_ sc_law.nd
      refine ge_callT G.tuple bt_tuple ?_
      refine ga_cons ?_
      refine ge_name 6 rfl True.intro ?_
      refine ga_nil ?_
      refine co_tupL (.c .here) (datas_ints _) ?_
      refine gss_wk (μ' := PotM p g S2) (by walk_at "sub") ?_
      refine gss_cons ?_
      refine gs_if ?_
      refine gt_bool ?_
      refine gb_or ?_
      refine gt_cmp ?_
      refine ge_callB G.repr bt_repr ?_
      refine ga_cons ?_
      refine ge_lock ?_
      refine ge_lst ?_
      refine ga_cons ?_
      refine ge_cal C_least_round hr hg ?_
      refine ga_cons ?_
      refine ge_name 2 rfl True.intro ?_
      refine ga_cons ?_
      refine ge_name 3 rfl True.intro ?_
      refine ga_nil ?_
      refine ⟨[], _, .nil, k1, n, T, l, rfl, hz, hP, ?_⟩
      rw [← hrd]
      refine ga_cons ?_
      refine ge_calK0 C_least_round kw_least_round_n_k hr hg ?_
      refine gk_cons ?_
      refine ge_name 3 rfl True.intro ?_
      refine gk_cons ?_
      refine ge_name 2 rfl True.intro ?_
      refine gk_nil ⟨rfl, ?_⟩
      refine ⟨[], _, .nil, k1, n, T, l, rfl, hz, hP, ?_⟩
      rw [← hrd]
      refine ga_nil ?_
      refine ⟨by walk_at "side", fun plk => lk_ rfl ?_⟩
      refine ga_nil ?_
      refine co_repr9 (rk_list (rk_cons hRr (rk_cons hRr rk_nil))) (by omega) (hu64 hr) hg ?_
      refine ge_callB G.repr bt_repr ?_
      refine ga_cons ?_
      refine ge_lock ?_
      refine ge_lst ?_
      refine ga_cons ?_
      refine ge_name 6 rfl True.intro ?_
      refine ga_cons ?_
      refine ge_name 6 rfl True.intro ?_
      refine ga_nil ?_
      refine ⟨by walk_at "side", fun plk => lk_ rfl ?_⟩
      refine ga_nil ?_
      refine co_repr9 (rk_list (rk_cons hRr (rk_cons hRr rk_nil))) (by omega) (hu64 hr) hg ?_
      first | refine bo_neI ?_ | refine bo_neS ?_
      refine ⟨_, rfl, ?_⟩
      refine ⟨fun hT => (show False from nodec hT rfl).elim, fun _ => ?_⟩
      refine gb_or1 ?_
      refine gt_cmp ?_
      refine ge_callB G.len bt_len ?_
      refine ga_cons ?_
      refine ge_name 6 rfl True.intro ?_
      refine ga_nil ?_
      first | refine co_lenI ?_ | refine co_lenLI ?_ | refine co_lenT ?_ | refine co_lenL .d ?_ | refine co_lenL (.c .here) ?_
      refine ge_name 5 rfl True.intro ?_
      first | refine bo_neI ?_ | refine bo_neS ?_
      refine ⟨_, rfl, ?_⟩
      refine ⟨fun hT => (show False from nodec hT (by exact_mod_cast hR.len)).elim, fun _ => ?_⟩
      refine gss_nil ?_
      refine gss_cons ?_
      refine gs_par 8 9 ?_ sc_law.nd
      refine ga_cons ?_
      refine ge_int ?_
      refine ga_cons ?_
      refine ge_name 5 rfl True.intro ?_
      refine ga_nil ?_
      refine ⟨_, _, rfl, ?_⟩
      refine gss_cons ?_
      refine gs_for (js := [10]) ?_
      refine gi_range2 (hm := G.range) ?_
      refine ge_int ?_
      refine onI_ ?_
      refine ge_bin ?_
      refine ge_name 2 rfl True.intro ?_
      refine ge_int ?_
      first | refine bo_add ?_ | refine bo_catI (by walk_at "side") ?_
      refine onI_ ⟨by walk_at "side", ?_⟩
      refine ⟨fun i ρ m => ∃ y10, ρ = [.d (dLs ns), .a p, .d (.int k1), .d (.int n), .d (.tuple (l.map dT)), .d (.int many), .d (dT r), y7, .d (.int (facL i)), .d (.int many), y10, .u, .u, .u, .u, .u, .u, .u, .u, .u, .u, .u, .u, .u] ∧ m = PotM p g S2, ⟨_, rfl, rfl⟩, ?_, ?_⟩
      ·
        intro i d ρ m hd hI
        obtain ⟨hi, rfl⟩ := rangeD_at hd
        obtain ⟨y10, rfl, rfl⟩ := hI
        refine gg_name 10 ?_ sc_law.nd
        refine gss_cons ?_
        refine gs_set 8 ?_ sc_law.nd
        refine ge_bin ?_
        refine ge_name 8 rfl True.intro ?_
        refine ge_name 10 rfl True.intro ?_
        refine bo_mulS (.inr ⟨by omega, by omega⟩) ?_
        refine gss_nil ?_
        exact ⟨_, by rw [facL_s i]; rfl, rfl⟩
      ·
        intro ρ m hI
        obtain ⟨y10, rfl, rfl⟩ := hI
        rw [rangeD_len, show ((k1 : Int) + 1 - 1).toNat = k1 by omega]
        refine gss_cons ?_
        refine gs_set 11 ?_ sc_law.nd
        refine ge_bin ?_
        refine ge_cal C__law_raised hr hg ?_
        refine ga_cons ?_
        refine ge_name 8 rfl True.intro ?_
        refine ga_cons ?_
        refine ge_cal C__law_raised hr hg ?_
        refine ga_cons ?_
        refine ge_name 2 rfl True.intro ?_
        refine ga_cons ?_
        refine ge_bin ?_
        refine ge_name 3 rfl True.intro ?_
        refine ge_int ?_
        refine bo_sub ?_
        refine ga_nil ?_
        refine ⟨[], _, .nil, k1, n - 1, by rw [show ((n - 1 : Nat) : Int) = (n : Int) - 1 by omega], by omega, by omega, by omega, ?_⟩
        rw [powL_nat]
        refine ga_nil ?_
        refine ⟨[], _, .nil, facL k1, k1 ^ (n - 1), rfl, hfac.1, hfac.2, Nat.lt_of_le_of_lt hkn (by decide), ?_⟩
        rw [powL_N]
        refine ge_name 9 rfl True.intro ?_
        refine bo_div (cdiv (by omega) (by omega)) ?_
        refine gss_cons ?_
        refine gs_if ?_
        refine gt_cmp ?_
        refine ge_callB G.repr bt_repr ?_
        refine ga_cons ?_
        refine ge_lock ?_
        refine ge_lst ?_
        refine ga_cons ?_
        refine ge_cal C_rounds_number hr hg ?_
        refine ga_cons ?_
        refine ge_name 2 rfl True.intro ?_
        refine ga_cons ?_
        refine ge_name 3 rfl True.intro ?_
        refine ga_nil ?_
        refine ⟨[], _, .nil, k1, n, rfl, hz, ?_⟩
        rw [← hmany]
        refine ga_cons ?_
        refine ge_calK0 C_rounds_number kw_rounds_number_n_k hr hg ?_
        refine gk_cons ?_
        refine ge_name 3 rfl True.intro ?_
        refine gk_cons ?_
        refine ge_name 2 rfl True.intro ?_
        refine gk_nil ⟨rfl, ?_⟩
        refine ⟨[], _, .nil, k1, n, rfl, hz, ?_⟩
        rw [← hmany]
        refine ga_nil ?_
        refine ⟨by walk_at "side", fun plk => lk_ rfl ?_⟩
        refine ga_nil ?_
        refine co_repr9 (rk_list (rk_cons hRd (rk_cons hRd rk_nil))) (by omega) (hu64 hr) hg ?_
        refine ge_callB G.repr bt_repr ?_
        refine ga_cons ?_
        refine ge_lock ?_
        refine ge_lst ?_
        refine ga_cons ?_
        refine ge_name 11 rfl True.intro ?_
        refine ga_cons ?_
        refine ge_name 11 rfl True.intro ?_
        refine ga_nil ?_
        refine ⟨by walk_at "side", fun plk => lk_ rfl ?_⟩
        refine ga_nil ?_
        refine co_repr9 (rk_list (rk_cons hRd (rk_cons hRd rk_nil))) (by omega) (hu64 hr) hg ?_
        first | refine bo_neI ?_ | refine bo_neS ?_
        refine ⟨_, rfl, ?_⟩
        refine ⟨fun hT => (show False from nodec hT rfl).elim, fun _ => ?_⟩
        refine gss_nil ?_
        refine gss_cons ?_
        refine gs_tup (js := [12, 13]) ?_
        refine ga_cons ?_
        refine ge_cal C__law_draw hr hg ?_
        refine ga_cons ?_
        refine ge_name 1 rfl True.intro ?_
        refine ga_cons ?_
        refine ge_name 5 rfl True.intro ?_
        refine ga_nil ?_
        refine ⟨_, _, .cons .here (.cons .here .nil), p, g, S2, 1 + 2, (many : Int), rfl, rfl, hS, by omega, by omega, by omega, fun r0 S3 h0 h1 hS => ?_⟩
        obtain ⟨j, rfl⟩ : ∃ j : Nat, r0 = j := ⟨r0.toNat, by omega⟩
        have hj : j < many := by omega
        refine ga_cons ?_
        refine ge_cal C__law_mixed hr hg ?_
        refine ga_cons ?_
        refine ge_name 1 rfl True.intro ?_
        refine ga_cons ?_
        refine ge_lock ?_
        refine ge_listRange (nm1 := "") (nm2 := "") G.list G.range ?_
        refine ge_name 2 rfl True.intro ?_
        refine ⟨_, rfl, by walk_at "side", fun plk => lk_ (datas_ints _) ?_⟩
        refine ga_nil ?_
        refine ⟨_, _, .cons .here (.cons .here .nil), p, g, S3, 1 + 2 + 1, (rangeI 0 k1).map PyData.int, rfl, rfl, hS, by omega, by rw [List.length_map, rangeI_len]; omega, fun qn es S4 hpe hS => ?_⟩
        obtain ⟨ν, rfl, hν⟩ := perm_ints hpe
        have hnf := nu_facts hν
        have hνl := hnf.len
        refine ga_nil ?_
        refine ⟨by walk_at "side", rfl, ?_⟩
        refine ggs_cons (js := [12]) (ks := [13]) ?_
        refine gg_name 12 ?_ sc_law.nd
        refine ggs_cons (js := [13]) (ks := []) ?_
        refine gg_name 13 ?_ sc_law.nd
        refine ggs_nil ?_
        refine gss_lock 13 rfl .here (datas_d _) .here ?_
        refine gss_cons ?_
        refine gs_set 14 ?_ sc_law.nd
        refine ge_bin ?_
        refine ge_slice ?_
        refine ge_name 6 rfl True.intro ?_
        refine go_some ?_
        refine ge_name 12 rfl True.intro ?_
        refine go_none ?_
        refine so_tI (r.drop j) (cutL_from _ j rfl) ?_
        refine ge_slice ?_
        refine ge_name 6 rfl True.intro ?_
        refine go_none ?_
        refine go_some ?_
        refine ge_name 12 rfl True.intro ?_
        refine so_tI (r.take j) (cutL_to _ j rfl) ?_
        refine bo_catI (by rw [List.length_drop, List.length_take]; omega) ?_
        refine gss_cons ?_
        refine gs_set 14 ?_ sc_law.nd
        refine ge_callT G.tuple bt_tuple ?_
        refine ga_cons ?_
        refine ge_lc (own := [("x", 10)]) (js := [10]) ?_ (by decide) sc_law.nd (show BlkOk ["script", "pot", "k", "n", "primes", "many", "row", "word", "above", "below", "x", "due", "j", "names", "other", "own", "i", "items", "values", "place", "value", "shown", "fault", "said"] (defScope s_law) _ [("x", 10)] from ⟨rfl, by decide +kernel, by decide +kernel, by decide +kernel, by decide +kernel⟩)
        refine gi_tup ?_
        refine GE.mono (Q := fun y m' => ∃ v S', y = .d (dT v) ∧ Rnd k1 n many v ∧ PotOk 2000 S' ∧ m' = PotM p g S') ?_ ?_
        ·
          refine ge_if ?_
          refine gt_cmp ?_
          refine ge_cal C__law_draw hr hg ?_
          refine ga_cons ?_
          refine ge_name 1 rfl True.intro ?_
          refine ga_cons ?_
          refine ge_int ?_
          refine ga_nil ?_
          refine ⟨_, _, .cons .here (.cons .here .nil), p, g, S4, 1 + 2 + 1 + 1000, 2, rfl, rfl, hS, by omega, by omega, by omega, fun r0 S5 h0 h1 hS => ?_⟩
          refine ge_int ?_
          first | refine bo_eqI ?_ | refine bo_eqS ?_
          refine ⟨_, rfl, ?_⟩
          refine ⟨fun hT => ?_, fun hF => ?_⟩
          ·
            refine later ?_
            refine ge_name 14 rfl True.intro ?_
            exact ⟨rotR r j, S5, rfl, rnd_rot hR hj, hS.up (by omega), rfl⟩
          ·
            refine later ?_
            refine ge_rev ?_
            refine ge_name 14 rfl True.intro ?_
            refine ⟨_, rfl, ?_⟩
            refine ge_neg ?_
            refine ge_int ?_
            refine ⟨rfl, ?_⟩
            exact ⟨(rotR r j).reverse, S5, congrArg (fun z => Sl.d (PyData.tuple z)) List.map_reverse.symm, rnd_rev (rnd_rot hR hj), hS.up (by omega), rfl⟩
        rintro _ _ ⟨v, S5, rfl, hv, hS, rfl⟩
        refine onT_ ?_
        have hvz : v.length < sizeLine := by rw [hv.len, sizeLine_eq]; omega
        refine lc_I (fun _ => true) (fun c => .int (ν.getD c.toNat 0)) (by walk_at "side") (fun ci c m hd => ?_) (fun pl => ?_)
        ·
          obtain ⟨hc0, hc1⟩ := hv.let_ c (List.mem_of_getElem? hd)
          intro st H C cl fp
          refine gg_name 10 ?_ sc_law.nd
          refine ⟨rfl, fun st H C cl fp => ?_⟩
          refine gts_nil ⟨rfl, rfl, fun hp st H C cl fp => ?_⟩
          refine ge_ix ?_
          refine ge_name 13 rfl True.intro ?_
          refine ge_name 10 rfl True.intro ?_
          refine io_lI (atI_at _ (getD_at (by rw [hνl]; omega)) (Int.toNat_of_nonneg hc0).symm) ?_
          exact ⟨rfl, rfl⟩
        refine ga_nil ?_
        rw [all_true]
        refine co_tupL (.c .here) (datas_f _ _) ?_
        obtain ⟨o, ho⟩ : ∃ o, o = v.map fun c => ν.getD c.toNat 0 := ⟨_, rfl⟩
        rw [show (v.map fun c => PyData.int (ν.getD c.toNat 0)) = o.map PyData.int from by rw [ho, List.map_map]; rfl]
        have hO : Rnd k1 n many o := ho ▸ rnd_map hv hnf hn1
        have hol := hO.len
        refine gss_wk (μ' := PotM p g S5) (by walk_at "sub") ?_
        refine gss_cons ?_
        refine gs_if ?_
        refine gt_bool ?_
        refine gb_or ?_
        refine gt_cmp ?_
        refine ge_cal C_round_error hr hg ?_
        refine ga_cons ?_
        refine ge_name 2 rfl True.intro ?_
        refine ga_cons ?_
        refine ge_name 3 rfl True.intro ?_
        refine ga_cons ?_
        refine ge_name 14 rfl True.intro ?_
        refine ga_nil ?_
        refine ⟨[], _, .nil, k1, n, dT o, rfl, vd_T o, hpL, by omega, by omega, by omega, ?_⟩
        rw [hO.err hpl]
        refine ge_non ?_
        refine bo_notN ?_
        refine ⟨_, rfl, ?_⟩
        refine ⟨fun hT => absurd hT (by walk_at "no"), fun _ => ?_⟩
        refine gb_or1 ?_
        refine gt_cmp ?_
        refine ge_cal C__law_round_fault hr hg ?_
        refine ga_cons ?_
        refine ge_name 2 rfl True.intro ?_
        refine ga_cons ?_
        refine ge_name 3 rfl True.intro ?_
        refine ga_cons ?_
        refine ge_name 14 rfl True.intro ?_
        refine ga_nil ?_
        refine ⟨[], _, .nil, k1, n, dT o, rfl, vd_T o, hpL, by omega, by omega, by omega, ?_⟩
        rw [hO.err hpl]
        refine ge_non ?_
        refine bo_notN ?_
        refine ⟨_, rfl, ?_⟩
        refine ⟨fun hT => absurd hT (by walk_at "no"), fun _ => ?_⟩
        refine gss_nil ?_
        refine gss_cons ?_
        refine gs_for (js := [15]) ?_
        refine gi_tup ?_
        refine ge_tup ?_
        refine ga_cons ?_
        refine ge_name 6 rfl True.intro ?_
        refine ga_cons ?_
        refine ge_name 14 rfl True.intro ?_
        refine ga_nil ?_
        refine ⟨_, rfl, by walk_at "side", ?_⟩
        refine onT_ ?_
        refine ⟨fun i ρ m => ∃ y7 y10 y15 y16 S6, ρ = [.d (dLs ns), .a p, .d (.int k1), .d (.int n), .d (.tuple (l.map dT)), .d (.int many), .d (dT r), y7, .d (.int (facL k1)), .d (.int many), y10, .d (.int (powN (facL k1) (k1 ^ (n - 1)) / (many : Int))), .d (.int j), .d (dLs ν), .d (dT o), y15, y16, .u, .u, .u, .u, .u, .u, .u] ∧ PotOk (2100 + i) S6 ∧ Wk (PotM p g S6) m, ⟨_, _, _, _, S5, rfl, hS.up (by omega), wk_refl⟩, ?_, ?_⟩
        ·
          intro i d ρ m hd hI
          obtain ⟨y7, y10, y15, y16, S6, rfl, hS, hwk⟩ := hI
          obtain ⟨w, rfl, hw⟩ := two_of hd hR hO
          have hi2 : i < 2 := (List.getElem?_eq_some_iff.mp hd).1
          have hwl := hw.len
          refine gg_wk hwk ?_
          refine gg_name 15 ?_ sc_law.nd
          refine gss_cons ?_
          refine gs_set 16 ?_ sc_law.nd
          refine ge_cal C__law_draw hr hg ?_
          refine ga_cons ?_
          refine ge_name 1 rfl True.intro ?_
          refine ga_cons ?_
          refine ge_name 5 rfl True.intro ?_
          refine ga_nil ?_
          refine ⟨_, _, .cons .here (.cons .here .nil), p, g, S6, 2100 + i, (many : Int), rfl, rfl, hS, by omega, by omega, by omega, fun r0 S7 h0 h1 hS => ?_⟩
          obtain ⟨i1, rfl⟩ : ∃ i1 : Nat, r0 = i1 := ⟨r0.toNat, by omega⟩
          have hi1 : i1 < many := by omega
          refine gss_cons ?_
          refine gs_set 7 ?_ sc_law.nd
          refine ge_cal C__law_window hr hg ?_
          refine ga_cons ?_
          refine ge_name 15 rfl True.intro ?_
          refine ga_cons ?_
          refine ge_name 3 rfl True.intro ?_
          refine ga_cons ?_
          refine ge_name 16 rfl True.intro ?_
          refine ga_nil ?_
          refine ⟨[], _, .nil, w, n, i1, rfl, hw.ne hmp, by omega, by omega, ?_⟩
          refine gss_cons ?_
          refine gs_if ?_
          refine gt_cmp ?_
          refine ge_callB G.repr bt_repr ?_
          refine ga_cons ?_
          refine ge_lock ?_
          refine ge_lst ?_
          refine ga_cons ?_
          refine ge_cal C_place_in_round hr hg ?_
          refine ga_cons ?_
          refine ge_name 2 rfl True.intro ?_
          refine ga_cons ?_
          refine ge_name 3 rfl True.intro ?_
          refine ga_cons ?_
          refine ge_name 15 rfl True.intro ?_
          refine ga_cons ?_
          refine ge_name 7 rfl True.intro ?_
          refine ga_nil ?_
          refine ⟨[], _, .nil, k1, n, w, i1, rfl, by omega, hw.dis, by omega, by omega, ?_⟩
          refine ga_cons ?_
          refine ge_calK0 C_place_in_round kw_place_in_round_word_row_n_k hr hg ?_
          refine gk_cons ?_
          refine ge_name 7 rfl True.intro ?_
          refine gk_cons ?_
          refine ge_name 15 rfl True.intro ?_
          refine gk_cons ?_
          refine ge_name 3 rfl True.intro ?_
          refine gk_cons ?_
          refine ge_name 2 rfl True.intro ?_
          refine gk_nil ⟨rfl, ?_⟩
          refine ⟨[], _, .nil, k1, n, w, i1, rfl, by omega, hw.dis, by omega, by omega, ?_⟩
          refine ga_nil ?_
          refine ⟨by walk_at "side", fun plk => lk_ rfl ?_⟩
          refine ga_nil ?_
          refine co_repr9 (rk_list (rk_cons (rk_int (by omega)) (rk_cons (rk_int (by omega)) rk_nil))) (by decide) (hu64 hr) hg ?_
          refine ge_callB G.repr bt_repr ?_
          refine ga_cons ?_
          refine ge_lock ?_
          refine ge_lst ?_
          refine ga_cons ?_
          refine ge_name 16 rfl True.intro ?_
          refine ga_cons ?_
          refine ge_name 16 rfl True.intro ?_
          refine ga_nil ?_
          refine ⟨by walk_at "side", fun plk => lk_ rfl ?_⟩
          refine ga_nil ?_
          refine co_repr9 (rk_list (rk_cons (rk_int (by omega)) (rk_cons (rk_int (by omega)) rk_nil))) (by decide) (hu64 hr) hg ?_
          first | refine bo_neI ?_ | refine bo_neS ?_
          refine ⟨_, rfl, ?_⟩
          refine ⟨fun hT => (show False from nodec hT rfl).elim, fun _ => ?_⟩
          refine gss_nil ?_
          refine gss_nil ?_
          exact ⟨_, _, _, _, S7, rfl, hS.up (by omega), by walk_at "sub"⟩
        ·
          intro ρ m hI
          obtain ⟨y7, y10, y15, y16, S6, rfl, hS, hwk⟩ := hI
          replace hS : PotOk 2200 S6 := hS.up (by show 2100 + 2 ≤ 2200; decide)
          refine gss_wk hwk ?_
          refine gss_cons ?_
          refine gs_set 17 ?_ sc_law.nd
          refine ge_lock ?_
          refine ge_lst ?_
          refine ga_cons ?_
          refine ge_int ?_
          refine ga_cons ?_
          refine ge_bin ?_
          refine ge_name 2 rfl True.intro ?_
          refine ge_int ?_
          refine bo_sub ?_
          refine ga_cons ?_
          refine ge_name 2 rfl True.intro ?_
          refine ga_cons ?_
          refine ge_neg ?_
          refine ge_int ?_
          refine ga_cons ?_
          refine ge_bl ?_
          refine ga_cons ?_
          refine ge_non ?_
          refine ga_cons ?_
          refine ge_str ?_
          refine ga_cons ?_
          refine ge_tup ?_
          refine ga_cons ?_
          refine ge_int ?_
          refine ga_nil ?_
          refine ⟨_, rfl, by walk_at "side", ?_⟩
          refine ga_cons ?_
          refine ge_bin ?_
          refine ge_int ?_
          refine ge_int ?_
          refine bo_pow ⟨by omega, by omega, by omega⟩ ?_
          refine ga_cons ?_
          refine ge_cal C__law_pick hr hg ?_
          refine ga_cons ?_
          refine ge_name 1 rfl True.intro ?_
          refine ga_cons ?_
          refine ge_name 6 rfl True.intro ?_
          refine ga_nil ?_
          refine ⟨_, _, .cons .here (.cons .here .nil), ?_⟩
          refine ⟨p, g, S6, 2200, _, r.map PyData.int, rfl, .inr rfl, rfl, hS, by omega, (fun z => hR.ne hmp (List.map_eq_nil_iff.mp z)), by rw [List.length_map]; omega, fun dd S7 hdd hS => ?_⟩
          obtain ⟨c, hc, rfl⟩ := List.mem_map.mp hdd
          replace hc := hR.let_ c hc
          refine ga_nil ?_
          refine ⟨by walk_at "side", fun plk => lk_ rfl ?_⟩
          refine gss_cons ?_
          refine gs_set 18 ?_ sc_law.nd
          refine ge_lock ?_
          refine ge_bin ?_
          refine ge_cal C__law_bent hr hg ?_
          refine ga_cons ?_
          refine ge_name 1 rfl True.intro ?_
          refine ga_cons ?_
          refine ge_name 14 rfl True.intro ?_
          refine ga_cons ?_
          refine ge_name 17 rfl True.intro ?_
          refine ga_nil ?_
          refine ⟨_, _, .cons .here (.cons .here .nil), ?_⟩
          refine ⟨p, g, S7, 2200 + 1, o, _, rfl, rfl, hS, by omega, hO.ne hmp, by omega, hO.abs hk16, ?_, ?_, ?_, fun qb es S8 hes hel hS => ?_⟩
          · exact fun z => nomatch z
          · exact Nat.le_of_ble_eq_true rfl
          · exact sm_items hk16 hc
          refine ge_lock ?_
          refine ge_lst ?_
          refine ga_cons ?_
          refine ge_bin ?_
          refine ge_tup ?_
          refine ga_cons ?_
          refine ge_int ?_
          refine ga_nil ?_
          refine ⟨List.map PyData.int [0], rfl, by walk_at "side", ?_⟩
          refine ge_name 5 rfl True.intro ?_
          refine bo_repI (by omega) (by omega) (by show 1 * _ ≤ _; omega) ?_
          refine ga_cons ?_
          refine ge_bin ?_
          refine ge_tup ?_
          refine ga_cons ?_
          refine ge_bin ?_
          refine ge_name 2 rfl True.intro ?_
          refine ge_int ?_
          refine bo_sub ?_
          refine ga_nil ?_
          refine ⟨List.map PyData.int [_], rfl, by walk_at "side", ?_⟩
          refine ge_name 5 rfl True.intro ?_
          refine bo_repI (by omega) (by omega) (by show 1 * _ ≤ _; omega) ?_
          refine ga_cons ?_
          refine ge_cal C__law_odd hr hg ?_
          refine ga_cons ?_
          refine ge_name 1 rfl True.intro ?_
          refine ga_nil ?_
          refine ⟨_, _, .cons (.there .here) (.cons (.there .here) .nil), ?_⟩
          refine ⟨p, g, S8, 2200 + 1 + 20, rfl, rfl, hS, by omega, fun dd2 S9 hdd2 hS => ?_⟩
          refine ga_cons ?_
          refine ge_bin ?_
          refine ge_name 14 rfl True.intro ?_
          refine ge_name 14 rfl True.intro ?_
          refine bo_catI (by omega) ?_
          refine ga_nil ?_
          refine ⟨by walk_at "side", fun plk => lk_ rfl ?_⟩
          obtain ⟨vs, hvs⟩ : ∃ vs, vs = es ++ [dT (List.replicate (many : Int).toNat [(0 : Int)]).flatten, dT (List.replicate (many : Int).toNat [(k1 : Int) - 1]).flatten, dd2, dT (o ++ o)] := ⟨_, rfl⟩
          have hvl : vs.length ≤ 54 := by rw [hvs, List.length_append]; exact Nat.add_le_add hel (Nat.le_refl 4)
          have hvg : ∀ d ∈ vs, Gd d := four_gd hes hdd2 hpw hk16 (hO.abs hk16) hol hvs hk1
          refine bo_catL (.c (.there (.there .here))) .d (by rw [List.length_map, List.length_map]; show es.length + 4 ≤ _; omega) fun pv => lk_ (ds := vs) (by rw [hvs, ← List.map_append]; exact datas_d _) ?_
          refine gss_wk (μ' := PotM p g S9) (by walk_at "sub") ?_
          refine gss_cons ?_
          refine gs_for (js := [19, 20]) ?_
          refine gi_enumL (hm := G.enumerate) ?_
          refine ge_lock ?_
          refine ge_bin ?_
          refine ge_lock ?_
          refine ge_lst ?_
          refine ga_cons ?_
          refine ge_name 14 rfl True.intro ?_
          refine ga_nil ?_
          refine ⟨by walk_at "side", fun plk => lk_ rfl ?_⟩
          refine ge_lock ?_
          refine ge_slice ?_
          refine ge_cal C__law_mixed hr hg ?_
          refine ga_cons ?_
          refine ge_name 1 rfl True.intro ?_
          refine ga_cons ?_
          refine ge_name 18 rfl True.intro ?_
          refine ga_nil ?_
          refine ⟨_, _, .cons .here (.cons .here .nil), p, g, S9, 2200 + 1 + 20 + 1, vs, rfl, rfl, hS, by omega, by omega, fun qm es2 S10 hpm hS => ?_⟩
          refine go_none ?_
          refine go_some ?_
          refine ge_int ?_
          refine so_cell .here fun p2 => lk_ (by rw [cutL_map, show cutL es2 none (some (12 : Int)) = es2.take 12 from cutL_to _ 12 rfl]; exact datas_d (es2.take 12)) ?_
          refine bo_catL .d .d (by rw [List.length_map, List.length_map, List.length_take]; show 1 + _ ≤ _; omega) fun p3 => lk_ (ds := [dT o] ++ es2.take 12) (by exact datas_app2 _ _) ?_
          refine onL_ ?_
          refine ⟨fun i ρ m => ∃ y0 y4 y5 y6 y7 y8 y9 y10 y11 y12 y13 y14 y15 y16 y17 y18 y19 y20 y21 y22 y23, ρ = [y0, .a p, .d (.int k1), .d (.int n), y4, y5, y6, y7, y8, y9, y10, y11, y12, y13, y14, y15, y16, y17, y18, y19, y20, y21, y22, y23] ∧ Wk (PotM p g S10) m, ⟨_, _, _, _, _, _, _, _, _, _, _, _, _, _, _, _, _, _, _, _, _, rfl, by walk_at "sub"⟩, ?_, ?_⟩
          ·
            intro i d ρ m hd hI
            obtain ⟨y0, y4, y5, y6, y7, y8, y9, y10, y11, y12, y13, y14, y15, y16, y17, y18, y19, y20, y21, y22, y23, rfl, hwk⟩ := hI
            obtain ⟨dx, hdx, rfl⟩ := enumD_at hd
            have hgd : Gd dx := one_gd (hO.abs hk16) (by omega) (fun d m => hvg d (hpm.mem_iff.mp m)) (List.mem_of_getElem? hdx)
            refine gg_wk hwk ?_
            refine gg_tup ?_
            refine ggs_cons (js := [19]) (ks := [20]) ?_
            refine gg_name 19 ?_ sc_law.nd
            refine ggs_cons (js := [20]) (ks := []) ?_
            refine gg_name 20 ?_ sc_law.nd
            refine ggs_nil ?_
            refine gss_cons ?_
            refine gs_par 21 22 ?_ sc_law.nd
            refine ga_cons ?_
            refine ge_repr1 G.repr (hu64 hr) hg ?_
            refine ge_name 20 rfl True.intro ?_
            refine ⟨_, rfl, hgd.vok, ?_⟩
            refine ga_cons ?_
            refine ge_cal C__law_round_fault hr hg ?_
            refine ga_cons ?_
            refine ge_name 2 rfl True.intro ?_
            refine ga_cons ?_
            refine ge_name 3 rfl True.intro ?_
            refine ga_cons ?_
            refine ge_name 20 rfl True.intro ?_
            refine ga_nil ?_
            refine ⟨[], _, .nil, k1, n, dx, rfl, hgd.vd, hpL, by omega, by omega, by omega, ?_⟩
            refine ga_nil ?_
            refine ⟨_, _, rfl, ?_⟩
            refine gss_cons ?_
            refine gs_set 23 ?_ sc_law.nd
            refine GE.mono (Q := fun y m' => y = .d (rErr k1 n dx) ∧ m' = PotM p g S10) ?_ ?_
            ·
              refine ge_if ?_
              refine gt_cmp ?_
              refine ge_bin ?_
              refine ge_name 19 rfl True.intro ?_
              refine ge_int ?_
              refine bo_mod (by omega) ?_
              refine ge_int ?_
              first | refine bo_eqI ?_ | refine bo_eqS ?_
              refine ⟨_, rfl, ?_⟩
              refine ⟨fun hT => ?_, fun hF => ?_⟩
              ·
                refine later ?_
                refine ge_calK0 C_round_error kw_round_error_value_n_k hr hg ?_
                refine gk_cons ?_
                refine ge_name 20 rfl True.intro ?_
                refine gk_cons ?_
                refine ge_name 3 rfl True.intro ?_
                refine gk_cons ?_
                refine ge_name 2 rfl True.intro ?_
                refine gk_nil ⟨rfl, ?_⟩
                refine ⟨[], _, .nil, k1, n, dx, rfl, hgd.vd, hpL, by omega, by omega, by omega, ?_⟩
                exact ⟨rfl, rfl⟩
              ·
                refine later ?_
                refine ge_cal C_round_error hr hg ?_
                refine ga_cons ?_
                refine ge_name 2 rfl True.intro ?_
                refine ga_cons ?_
                refine ge_name 3 rfl True.intro ?_
                refine ga_cons ?_
                refine ge_name 20 rfl True.intro ?_
                refine ga_nil ?_
                refine ⟨[], _, .nil, k1, n, dx, rfl, hgd.vd, hpL, by omega, by omega, by omega, ?_⟩
                exact ⟨rfl, rfl⟩
            rintro _ _ ⟨rfl, rfl⟩
            refine gss_cons ?_
            refine gs_if ?_
            refine gt_bool ?_
            refine gb_or ?_
            refine gt_cmp ?_
            refine ge_callB G.repr bt_repr ?_
            refine ga_cons ?_
            refine ge_name 23 rfl True.intro ?_
            refine ga_nil ?_
            refine co_reprE (rErr_shape hpL) (hu64 hr) hg ?_
            refine ge_callB G.repr bt_repr ?_
            refine ga_cons ?_
            refine ge_name 22 rfl True.intro ?_
            refine ga_nil ?_
            refine co_reprE (rErr_shape hpL) (hu64 hr) hg ?_
            first | refine bo_neI ?_ | refine bo_neS ?_
            refine ⟨_, rfl, ?_⟩
            refine ⟨fun hT => (show False from nodec hT rfl).elim, fun _ => ?_⟩
            refine gb_or1 ?_
            refine gt_cmp ?_
            refine ge_repr1 G.repr (hu64 hr) hg ?_
            refine ge_name 20 rfl True.intro ?_
            refine ⟨_, rfl, hgd.vok, ?_⟩
            refine ge_name 21 rfl True.intro ?_
            first | refine bo_neI ?_ | refine bo_neS ?_
            refine ⟨_, rfl, ?_⟩
            refine ⟨fun hT => (show False from nodec hT rfl).elim, fun _ => ?_⟩
            refine gss_nil ?_
            refine gss_nil ?_
            exact ⟨_, _, _, _, _, _, _, _, _, _, _, _, _, _, _, _, _, _, _, _, _, rfl, by walk_at "sub"⟩
          ·
            intro ρ m hI
            obtain ⟨y0, y4, y5, y6, y7, y8, y9, y10, y11, y12, y13, y14, y15, y16, y17, y18, y19, y20, y21, y22, y23, rfl, hwk⟩ := hI
            refine gss_wk hwk ?_
            refine gss_cons ?_
            refine gs_ret ?_
            refine ge_cal C__law_are_few_right hr hg ?_
            refine ga_cons ?_
            refine ge_name 1 rfl True.intro ?_
            refine ga_nil ?_
            refine ⟨_, _, .cons .here (.cons .here .nil), p, g, S10, 4000, rfl, rfl, hS.up (by omega), by decide, fun S11 hS => ?_⟩
            exact ⟨_, wk_refl, q _⟩
end
end Nl

namespace Nl
open PySem PySem.Spec PyProof.Rows L2
def BindOk (x : Str) (st : Stmt) (ps : List Str) : Prop := ∀ (kV doc pm : Value) (an : Option Addr) (cdv ct : Value) (us : List Value), us.length = ps.length → bindArgs (PySem.W.fnOf x x (defArgs st) (defBody st) (defScope st) .none kV doc pm an cdv ct) ⟨us, []⟩ = pure (ps.zip us)
theorem dn_mk {K : PySem.W.Frag} {h : Heap} {mg : Str → Option Value} {x : Str} {st : Stmt} {ps : List Str} {f : Addr} {oc kV dc pm cd ct : Value} {od an : Option Addr} {sl : Array (Option Value)} (X : K.In h) (G : h.Ns mainGlobals mg) (a : PySem.W.nsIn K mainGlobals x = some (some (.ref f)))
    (l : K.lookup f = some ⟨oc, od, .func (PySem.W.fnOf x x (defArgs st) (defBody st) (defScope st) .none kV dc pm an cd ct), sl⟩) (c : PySem.W.codeIn K cd x = true) (k : PySem.W.keepIn K (.ref f) = true) (b : BindOk x st ps) : Dn K mg x st ps :=
  have F := fun_mk (st := st) l c k
  ⟨f, _, F, PySem.W.mg_of X G a, F.binds b⟩
theorem fin_mk {l : PySem.W.OpenLaw} {w : World} {K : PySem.W.Frag} {mg : Str → Option Value} {x : Str} {st : Stmt} {fa : Addr} {k : Nat} {sp : SpD} (hmg : mg x = some (.ref fa)) (D : Dn K mg x st ["script"]) (b : BindOk x st ["script"]) (C : ∀ base : Heap, Cal l.prog w K mg base k x st ["script"] sp) :
    ∃ fd : FuncData, (∀ (s : Shared) (v : Value), BindsTo s fd ⟨[v], []⟩ [("script", v)]) ∧ ∀ base : Heap, K.In base → base.Ns mainGlobals mg → FnD l.prog w K mg base k fa fd ["script"] sp := by
  obtain ⟨f, fd, F, e, _⟩ := D
  rw [hmg, Option.some.injEq, Value.ref.injEq] at e
  subst e
  obtain ⟨oc, od, kV, doc, pm, an, cdv, ct, osl, efd, lk, hcd⟩ := F.ex
  refine ⟨fd, fun s v => .of_eq (by rw [efd]; exact b kV doc pm an cdv ct [v] rfl), fun base _ _ => ?_⟩
  obtain ⟨f2, fd2, F2, e2, _, R⟩ := C base
  rw [hmg, Option.some.injEq, Value.ref.injEq] at e2
  subst e2
  obtain ⟨oc2, od2, kV2, doc2, pm2, an2, cdv2, ct2, osl2, _, lk2, _⟩ := F2.ex
  rw [lk, Option.some.injEq] at lk2
  have e3 : fd = fd2 := by
    injection lk2 with _ _ h3 _
    injection h3
  rw [e3]; exact R
theorem bd_is_integer : BindOk "is_integer" s_is_integer ps_is_integer := fun _ _ _ _ _ _ us hl => match us, hl with | [_], _ => rfl
theorem bd_power_of : BindOk "power_of" s_power_of ps_power_of := fun _ _ _ _ _ _ us hl => match us, hl with | [_, _], _ => rfl
theorem bd__law_raised : BindOk "_law_raised" s__law_raised ps__law_raised := fun _ _ _ _ _ _ us hl => match us, hl with | [_, _], _ => rfl
theorem bd__law_pot : BindOk "_law_pot" s__law_pot ps__law_pot := fun _ _ _ _ _ _ us hl => match us, hl with | [_], _ => rfl
theorem bd__law_draw : BindOk "_law_draw" s__law_draw ps__law_draw := fun _ _ _ _ _ _ us hl => match us, hl with | [_, _], _ => rfl
theorem bd__law_pick : BindOk "_law_pick" s__law_pick ps__law_pick := fun _ _ _ _ _ _ us hl => match us, hl with | [_, _], _ => rfl
theorem bd__law_is_int : BindOk "_law_is_int" s__law_is_int ps__law_is_int := fun _ _ _ _ _ _ us hl => match us, hl with | [_, _, _], _ => rfl
theorem bd__law_with : BindOk "_law_with" s__law_with ps__law_with := fun _ _ _ _ _ _ us hl => match us, hl with | [_, _, _], _ => rfl
theorem bd__law_mixed : BindOk "_law_mixed" s__law_mixed ps__law_mixed := fun _ _ _ _ _ _ us hl => match us, hl with | [_, _], _ => rfl
theorem bd__law_odd : BindOk "_law_odd" s__law_odd ps__law_odd := fun _ _ _ _ _ _ us hl => match us, hl with | [_], _ => rfl
theorem bd__law_bent : BindOk "_law_bent" s__law_bent ps__law_bent := fun _ _ _ _ _ _ us hl => match us, hl with | [_, _, _], _ => rfl
theorem bd_word_in : BindOk "word_in" s_word_in ps_word_in := fun _ _ _ _ _ _ us hl => match us, hl with | [_, _, _], _ => rfl
theorem bd__law_window : BindOk "_law_window" s__law_window ps__law_window := fun _ _ _ _ _ _ us hl => match us, hl with | [_, _, _], _ => rfl
theorem bd_round_error : BindOk "round_error" s_round_error ps_round_error := fun _ _ _ _ _ _ us hl => match us, hl with | [_, _, _], _ => rfl
theorem bd__law_again : BindOk "_law_again" s__law_again ps__law_again := fun _ _ _ _ _ _ us hl => match us, hl with | [_, _, _], _ => rfl
theorem bd__law_round_fault : BindOk "_law_round_fault" s__law_round_fault ps__law_round_fault := fun _ _ _ _ _ _ us hl => match us, hl with | [_, _, _], _ => rfl
theorem bd_prime_words : BindOk "prime_words" s_prime_words ps_prime_words := fun _ _ _ _ _ _ us hl => match us, hl with | [_, _], _ => rfl
theorem bd__law_primes : BindOk "_law_primes" s__law_primes ps__law_primes := fun _ _ _ _ _ _ us hl => match us, hl with | [_, _], _ => rfl
theorem bd_least_round : BindOk "least_round" s_least_round ps_least_round := fun _ _ _ _ _ _ us hl => match us, hl with | [_, _], _ => rfl
theorem bd_place_in_round : BindOk "place_in_round" s_place_in_round ps_place_in_round := fun _ _ _ _ _ _ us hl => match us, hl with | [_, _, _, _], _ => rfl
theorem bd_rounds_number : BindOk "rounds_number" s_rounds_number ps_rounds_number := fun _ _ _ _ _ _ us hl => match us, hl with | [_, _], _ => rfl
theorem bd__law_sizes : BindOk "_law_sizes" s__law_sizes ps__law_sizes := fun _ _ _ _ _ _ us hl => match us, hl with | [_, _], _ => rfl
theorem bd__law_are_few_right : BindOk "_law_are_few_right" s__law_are_few_right ps__law_are_few_right := fun _ _ _ _ _ _ us hl => match us, hl with | [_], _ => rfl
theorem bd_law : BindOk "law" s_law ps_law := fun _ _ _ _ _ _ us hl => match us, hl with | [_], _ => rfl
theorem all_ok {P : Program} {w : World} {K : PySem.W.Frag} {mg : Str → Option Value} {base : Heap} (G : Gs mg) (D_is_integer : Dn K mg "is_integer" s_is_integer ps_is_integer) (D_power_of : Dn K mg "power_of" s_power_of ps_power_of) (D__law_raised : Dn K mg "_law_raised" s__law_raised ps__law_raised) (D__law_pot : Dn K mg "_law_pot" s__law_pot ps__law_pot) (D__law_draw : Dn K mg "_law_draw" s__law_draw ps__law_draw) (D__law_pick : Dn K mg "_law_pick" s__law_pick ps__law_pick) (D__law_is_int : Dn K mg "_law_is_int" s__law_is_int ps__law_is_int) (D__law_with : Dn K mg "_law_with" s__law_with ps__law_with) (D__law_mixed : Dn K mg "_law_mixed" s__law_mixed ps__law_mixed) (D__law_odd : Dn K mg "_law_odd" s__law_odd ps__law_odd) (D__law_bent : Dn K mg "_law_bent" s__law_bent ps__law_bent) (D_word_in : Dn K mg "word_in" s_word_in ps_word_in) (D__law_window : Dn K mg "_law_window" s__law_window ps__law_window) (D_round_error : Dn K mg "round_error" s_round_error ps_round_error) (D__law_again : Dn K mg "_law_again" s__law_again ps__law_again) (D__law_round_fault : Dn K mg "_law_round_fault" s__law_round_fault ps__law_round_fault) (D_prime_words : Dn K mg "prime_words" s_prime_words ps_prime_words) (D__law_primes : Dn K mg "_law_primes" s__law_primes ps__law_primes) (D_least_round : Dn K mg "least_round" s_least_round ps_least_round) (D_place_in_round : Dn K mg "place_in_round" s_place_in_round ps_place_in_round) (D_rounds_number : Dn K mg "rounds_number" s_rounds_number ps_rounds_number) (D__law_sizes : Dn K mg "_law_sizes" s__law_sizes ps__law_sizes) (D__law_are_few_right : Dn K mg "_law_are_few_right" s__law_are_few_right ps__law_are_few_right) (D_law : Dn K mg "law" s_law ps_law) : Cal P w K mg base 4 "law" s_law ps_law sp_law := by
  have C_is_integer := ok_is_integer (P := P) (w := w) (K := K) (base := base) (k := 0) G D_is_integer 
  have C_power_of := ok_power_of (P := P) (w := w) (K := K) (base := base) (k := 0) G D_power_of 
  have C__law_raised := ok__law_raised (P := P) (w := w) (K := K) (base := base) (k := 0) G D__law_raised 
  have C__law_pot := ok__law_pot (P := P) (w := w) (K := K) (base := base) (k := 0) G D__law_pot 
  have C__law_draw := ok__law_draw (P := P) (w := w) (K := K) (base := base) (k := 0) G D__law_draw 
  have C__law_pick := ok__law_pick (P := P) (w := w) (K := K) (base := base) (k := 1) G D__law_pick (C__law_draw.mono (by decide))
  have C__law_is_int := ok__law_is_int (P := P) (w := w) (K := K) (base := base) (k := 0) G D__law_is_int 
  have C__law_with := ok__law_with (P := P) (w := w) (K := K) (base := base) (k := 0) G D__law_with 
  have C__law_mixed := ok__law_mixed (P := P) (w := w) (K := K) (base := base) (k := 1) G D__law_mixed (C__law_draw.mono (by decide))
  have C__law_odd := ok__law_odd (P := P) (w := w) (K := K) (base := base) (k := 2) G D__law_odd (C__law_pick.mono (by decide))
  have C__law_bent := ok__law_bent (P := P) (w := w) (K := K) (base := base) (k := 2) G D__law_bent (C__law_draw.mono (by decide)) (C__law_with.mono (by decide)) (C__law_pick.mono (by decide))
  have C_word_in := ok_word_in (P := P) (w := w) (K := K) (base := base) (k := 0) G D_word_in 
  have C__law_window := ok__law_window (P := P) (w := w) (K := K) (base := base) (k := 0) G D__law_window 
  have C_round_error := ok_round_error (P := P) (w := w) (K := K) (base := base) (k := 1) G D_round_error (C_word_in.mono (by decide)) (C_power_of.mono (by decide)) (C_is_integer.mono (by decide))
  have C__law_again := ok__law_again (P := P) (w := w) (K := K) (base := base) (k := 0) G D__law_again 
  have C__law_round_fault := ok__law_round_fault (P := P) (w := w) (K := K) (base := base) (k := 1) G D__law_round_fault (C__law_raised.mono (by decide)) (C__law_again.mono (by decide)) (C__law_is_int.mono (by decide))
  have C_prime_words := ok_prime_words (P := P) (w := w) (K := K) (base := base) (k := 0) G D_prime_words 
  have C__law_primes := ok__law_primes (P := P) (w := w) (K := K) (base := base) (k := 0) G D__law_primes 
  have C_least_round := ok_least_round (P := P) (w := w) (K := K) (base := base) (k := 1) G D_least_round (C_prime_words.mono (by decide))
  have C_place_in_round := ok_place_in_round (P := P) (w := w) (K := K) (base := base) (k := 1) G D_place_in_round (C_word_in.mono (by decide))
  have C_rounds_number := ok_rounds_number (P := P) (w := w) (K := K) (base := base) (k := 1) G D_rounds_number (C_power_of.mono (by decide))
  have C__law_sizes := ok__law_sizes (P := P) (w := w) (K := K) (base := base) (k := 2) G D__law_sizes (C__law_pick.mono (by decide)) (C__law_raised.mono (by decide))
  have C__law_are_few_right := ok__law_are_few_right (P := P) (w := w) (K := K) (base := base) (k := 2) G D__law_are_few_right (C__law_pick.mono (by decide)) (C__law_raised.mono (by decide)) (C_rounds_number.mono (by decide)) (C_round_error.mono (by decide))
  have C_law := ok_law (P := P) (w := w) (K := K) (base := base) (k := 3) G D_law (C__law_pot.mono (by decide)) (C__law_sizes.mono (by decide)) (C__law_are_few_right.mono (by decide)) (C__law_raised.mono (by decide)) (C__law_draw.mono (by decide)) (C__law_mixed.mono (by decide)) (C__law_window.mono (by decide)) (C__law_pick.mono (by decide)) (C__law_bent.mono (by decide)) (C__law_primes.mono (by decide)) (C_round_error.mono (by decide)) (C__law_round_fault.mono (by decide)) (C__law_odd.mono (by decide)) (C_prime_words.mono (by decide)) (C_rounds_number.mono (by decide)) (C_least_round.mono (by decide)) (C_place_in_round.mono (by decide))
  exact C_law
end Nl
open PySem PySem.W PyProof.Rows
set_option maxRecDepth 100000 in
set_option maxHeartbeats 0 in
theorem PySem.Challenge.cw_nearlists_k48_whole_main_rounds_holds : PySem.Challenge.rw_nearlists_k48_whole_main_rounds.Holds := by
  w_on; o_law; k_head; (case hw => w_witness2)
  k_fill
  refine Nl.walkD (l := PySem.Challenge.rw_nearlists_k48_whole_main_rounds) (n := 63) (k := 4) (x := "script") (sp := Nl.sp_law) rfl (by decide) rfl ⟨rfl, by decide, by decide⟩ rfl (fun w h Y => PySem.W.kIn_of Y) ?F (fun ns hl hb => ⟨ns, rfl, rfl, hl, hb, fun _ => rfl⟩)
  case F =>
    intro w mg fa h KX G hmg0
    have hmg : mg "law" = some (.ref fa) := hmg0
    clear hmg0
    have D_is_integer : Nl.Dn (L2.KOf KX) mg "is_integer" Nl.s_is_integer Nl.ps_is_integer := by
      delta L2.KOf
      refine' Nl.dn_mk KX G ?a ?l ?c ?k Nl.bd_is_integer
      (case a => k_is); (case l => k_is); (case c => k_is); (case k => k_is)
    have D_power_of : Nl.Dn (L2.KOf KX) mg "power_of" Nl.s_power_of Nl.ps_power_of := by
      delta L2.KOf
      refine' Nl.dn_mk KX G ?a ?l ?c ?k Nl.bd_power_of
      (case a => k_is); (case l => k_is); (case c => k_is); (case k => k_is)
    have D__law_raised : Nl.Dn (L2.KOf KX) mg "_law_raised" Nl.s__law_raised Nl.ps__law_raised := by
      delta L2.KOf
      refine' Nl.dn_mk KX G ?a ?l ?c ?k Nl.bd__law_raised
      (case a => k_is); (case l => k_is); (case c => k_is); (case k => k_is)
    have D__law_pot : Nl.Dn (L2.KOf KX) mg "_law_pot" Nl.s__law_pot Nl.ps__law_pot := by
      delta L2.KOf
      refine' Nl.dn_mk KX G ?a ?l ?c ?k Nl.bd__law_pot
      (case a => k_is); (case l => k_is); (case c => k_is); (case k => k_is)
    have D__law_draw : Nl.Dn (L2.KOf KX) mg "_law_draw" Nl.s__law_draw Nl.ps__law_draw := by
      delta L2.KOf
      refine' Nl.dn_mk KX G ?a ?l ?c ?k Nl.bd__law_draw
      (case a => k_is); (case l => k_is); (case c => k_is); (case k => k_is)
    have D__law_pick : Nl.Dn (L2.KOf KX) mg "_law_pick" Nl.s__law_pick Nl.ps__law_pick := by
      delta L2.KOf
      refine' Nl.dn_mk KX G ?a ?l ?c ?k Nl.bd__law_pick
      (case a => k_is); (case l => k_is); (case c => k_is); (case k => k_is)
    have D__law_is_int : Nl.Dn (L2.KOf KX) mg "_law_is_int" Nl.s__law_is_int Nl.ps__law_is_int := by
      delta L2.KOf
      refine' Nl.dn_mk KX G ?a ?l ?c ?k Nl.bd__law_is_int
      (case a => k_is); (case l => k_is); (case c => k_is); (case k => k_is)
    have D__law_with : Nl.Dn (L2.KOf KX) mg "_law_with" Nl.s__law_with Nl.ps__law_with := by
      delta L2.KOf
      refine' Nl.dn_mk KX G ?a ?l ?c ?k Nl.bd__law_with
      (case a => k_is); (case l => k_is); (case c => k_is); (case k => k_is)
    have D__law_mixed : Nl.Dn (L2.KOf KX) mg "_law_mixed" Nl.s__law_mixed Nl.ps__law_mixed := by
      delta L2.KOf
      refine' Nl.dn_mk KX G ?a ?l ?c ?k Nl.bd__law_mixed
      (case a => k_is); (case l => k_is); (case c => k_is); (case k => k_is)
    have D__law_odd : Nl.Dn (L2.KOf KX) mg "_law_odd" Nl.s__law_odd Nl.ps__law_odd := by
      delta L2.KOf
      refine' Nl.dn_mk KX G ?a ?l ?c ?k Nl.bd__law_odd
      (case a => k_is); (case l => k_is); (case c => k_is); (case k => k_is)
    have D__law_bent : Nl.Dn (L2.KOf KX) mg "_law_bent" Nl.s__law_bent Nl.ps__law_bent := by
      delta L2.KOf
      refine' Nl.dn_mk KX G ?a ?l ?c ?k Nl.bd__law_bent
      (case a => k_is); (case l => k_is); (case c => k_is); (case k => k_is)
    have D_word_in : Nl.Dn (L2.KOf KX) mg "word_in" Nl.s_word_in Nl.ps_word_in := by
      delta L2.KOf
      refine' Nl.dn_mk KX G ?a ?l ?c ?k Nl.bd_word_in
      (case a => k_is); (case l => k_is); (case c => k_is); (case k => k_is)
    have D__law_window : Nl.Dn (L2.KOf KX) mg "_law_window" Nl.s__law_window Nl.ps__law_window := by
      delta L2.KOf
      refine' Nl.dn_mk KX G ?a ?l ?c ?k Nl.bd__law_window
      (case a => k_is); (case l => k_is); (case c => k_is); (case k => k_is)
    have D_round_error : Nl.Dn (L2.KOf KX) mg "round_error" Nl.s_round_error Nl.ps_round_error := by
      delta L2.KOf
      refine' Nl.dn_mk KX G ?a ?l ?c ?k Nl.bd_round_error
      (case a => k_is); (case l => k_is); (case c => k_is); (case k => k_is)
    have D__law_again : Nl.Dn (L2.KOf KX) mg "_law_again" Nl.s__law_again Nl.ps__law_again := by
      delta L2.KOf
      refine' Nl.dn_mk KX G ?a ?l ?c ?k Nl.bd__law_again
      (case a => k_is); (case l => k_is); (case c => k_is); (case k => k_is)
    have D__law_round_fault : Nl.Dn (L2.KOf KX) mg "_law_round_fault" Nl.s__law_round_fault Nl.ps__law_round_fault := by
      delta L2.KOf
      refine' Nl.dn_mk KX G ?a ?l ?c ?k Nl.bd__law_round_fault
      (case a => k_is); (case l => k_is); (case c => k_is); (case k => k_is)
    have D_prime_words : Nl.Dn (L2.KOf KX) mg "prime_words" Nl.s_prime_words Nl.ps_prime_words := by
      delta L2.KOf
      refine' Nl.dn_mk KX G ?a ?l ?c ?k Nl.bd_prime_words
      (case a => k_is); (case l => k_is); (case c => k_is); (case k => k_is)
    have D__law_primes : Nl.Dn (L2.KOf KX) mg "_law_primes" Nl.s__law_primes Nl.ps__law_primes := by
      delta L2.KOf
      refine' Nl.dn_mk KX G ?a ?l ?c ?k Nl.bd__law_primes
      (case a => k_is); (case l => k_is); (case c => k_is); (case k => k_is)
    have D_least_round : Nl.Dn (L2.KOf KX) mg "least_round" Nl.s_least_round Nl.ps_least_round := by
      delta L2.KOf
      refine' Nl.dn_mk KX G ?a ?l ?c ?k Nl.bd_least_round
      (case a => k_is); (case l => k_is); (case c => k_is); (case k => k_is)
    have D_place_in_round : Nl.Dn (L2.KOf KX) mg "place_in_round" Nl.s_place_in_round Nl.ps_place_in_round := by
      delta L2.KOf
      refine' Nl.dn_mk KX G ?a ?l ?c ?k Nl.bd_place_in_round
      (case a => k_is); (case l => k_is); (case c => k_is); (case k => k_is)
    have D_rounds_number : Nl.Dn (L2.KOf KX) mg "rounds_number" Nl.s_rounds_number Nl.ps_rounds_number := by
      delta L2.KOf
      refine' Nl.dn_mk KX G ?a ?l ?c ?k Nl.bd_rounds_number
      (case a => k_is); (case l => k_is); (case c => k_is); (case k => k_is)
    have D__law_sizes : Nl.Dn (L2.KOf KX) mg "_law_sizes" Nl.s__law_sizes Nl.ps__law_sizes := by
      delta L2.KOf
      refine' Nl.dn_mk KX G ?a ?l ?c ?k Nl.bd__law_sizes
      (case a => k_is); (case l => k_is); (case c => k_is); (case k => k_is)
    have D__law_are_few_right : Nl.Dn (L2.KOf KX) mg "_law_are_few_right" Nl.s__law_are_few_right Nl.ps__law_are_few_right := by
      delta L2.KOf
      refine' Nl.dn_mk KX G ?a ?l ?c ?k Nl.bd__law_are_few_right
      (case a => k_is); (case l => k_is); (case c => k_is); (case k => k_is)
    have D_law : Nl.Dn (L2.KOf KX) mg "law" Nl.s_law Nl.ps_law := by
      delta L2.KOf
      refine' Nl.dn_mk KX G ?a ?l ?c ?k Nl.bd_law
      (case a => k_is); (case l => k_is); (case c => k_is); (case k => k_is)
    have Z : Nl.Gs mg := by
      refine' ⟨PySem.W.mg_none_of KX G ?z0, PySem.W.mg_none_of KX G ?z1, PySem.W.mg_none_of KX G ?z2, PySem.W.mg_none_of KX G ?z3, PySem.W.mg_none_of KX G ?z4, PySem.W.mg_none_of KX G ?z5, PySem.W.mg_none_of KX G ?z6, PySem.W.mg_none_of KX G ?z7, PySem.W.mg_none_of KX G ?z8, PySem.W.mg_none_of KX G ?z9⟩
      (case z0 => k_is); (case z1 => k_is); (case z2 => k_is); (case z3 => k_is); (case z4 => k_is); (case z5 => k_is); (case z6 => k_is); (case z7 => k_is); (case z8 => k_is); (case z9 => k_is)
    exact Nl.fin_mk hmg D_law Nl.bd_law fun base => Nl.all_ok Z D_is_integer D_power_of D__law_raised D__law_pot D__law_draw D__law_pick D__law_is_int D__law_with D__law_mixed D__law_odd D__law_bent D_word_in D__law_window D_round_error D__law_again D__law_round_fault D_prime_words D__law_primes D_least_round D_place_in_round D_rounds_number D__law_sizes D__law_are_few_right D_law

