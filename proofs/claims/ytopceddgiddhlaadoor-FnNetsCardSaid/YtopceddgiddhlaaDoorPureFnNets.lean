/- What is proved: for every code the law FnNets answers true: on a net every cell has exactly one opposite one, and a net is a net in all forms, and the program agrees with the reference. No condition beyond the kinds of the numbers and the reach. -/
import Derived.Test.YtopceddgiddhlaaDoorPFnNetsx0
import Derived.Test.YtopceddgiddhlaaDoorPFnNetsx1
import Derived.Test.YtopceddgiddhlaaDoorPFnNetsx2
import Derived.Test.YtopceddgiddhlaaDoorPFnNetsx3
import Derived.Test.YtopceddgiddhlaaDoorPFnNetsx4
import Derived.Test.YtopceddgiddhlaaDoorPFnNetsx5
import Derived.Test.YtopceddgiddhlaaDoorPFnNetsx6
import Derived.Test.YtopceddgiddhlaaDoorPFnNetsx7
import Derived.Test.YtopceddgiddhlaaDoorPFnNetsx8
import Derived.Test.YtopceddgiddhlaaDoorPFnNetsx9
import Derived.Test.YtopceddgiddhlaaDoorPFnNetsx10
import Derived.Test.YtopceddgiddhlaaDoorPFnNetsx11
import Derived.Test.YtopceddgiddhlaaDoorPFnNetsx12
import Derived.Test.YtopceddgiddhlaaDoorPFnNetsx13
import Derived.Test.YtopceddgiddhlaaDoorPFnNetsx14
import Derived.Test.YtopceddgiddhlaaDoorPFnNetsx15
import Derived.Test.YtopceddgiddhlaaDoorPFnNetsx16
import Derived.Test.YtopceddgiddhlaaDoorPFnNetsx17
import Derived.Test.YtopceddgiddhlaaDoorPFnNetsx18
import Derived.Test.YtopceddgiddhlaaDoorPFnNetsx19
import Derived.Test.YtopceddgiddhlaaDoorKit
set_option linter.unusedVariables false
set_option linter.unusedSimpArgs false
namespace Go.Proofs.YtopceddgiddhlaaDoor.Pure
open Go.RowKit Go.Proofs.YtopceddgiddhlaaDoor.PFnNets Go.Proofs.YtopceddgiddhlaaDoorW.PrintWords Go.Proofs.YtopceddgiddhlaaDoorW.PrintLast Go.Proofs.YtopceddgiddhlaaDoor.Kit
/-! Shapes: both sides' IsShape come to one Bool. -/
abbrev cellAt (l : List S78) (i : Nat) : S78 := l.getD i z78
def inR (n : Int) : Bool := decide (-100 ≤ n) && decide (n ≤ 100)
def lessB (a b : S78) : Bool := decide (a.f1 < b.f1) || (decide (a.f1 = b.f1) && decide (a.f0 < b.f0))
def okAtB (l : List S78) (i : Nat) : Bool := (inR (cellAt l i).f0 && inR (cellAt l i).f1) && (decide (i = 0) || lessB (cellAt l (i - 1)) (cellAt l i))
def shapeFrom (l : List S78) : Nat → Nat → Bool
  | 0, _ => decide (1 ≤ l.length) && decide (l.length ≤ 40)
  | d + 1, i => okAtB l i && shapeFrom l d (i + 1)
def isShapeB (l : List S78) : Bool := shapeFrom l l.length 0
theorem in_valC (a : Int) (lo hi : Int) : spec_l01In.f a lo hi = some (decide (lo ≤ a) && decide (a ≤ hi)) := by
  unfold spec_l01In.f
  by_cases h : a ≥ lo
  · rw [if_pos h, decide_eq_true (show lo ≤ a from h), Bool.true_and]
  · rw [if_neg h, decide_eq_false (show ¬ lo ≤ a from h), Bool.false_and]
theorem within_valC (a : Int) (lo hi : Int) : impl_within.f a lo hi = some (decide (lo ≤ a) && decide (a ≤ hi)) := by
  unfold impl_within.f
  by_cases h : a ≥ lo
  · rw [if_pos h, decide_eq_true (show lo ≤ a from h), Bool.true_and]
  · rw [if_neg h, decide_eq_false (show ¬ lo ≤ a from h), Bool.false_and]
theorem cell_val (a b : Int) : spec_l02Cell.f a b = some (inR a && inR b) := by
  unfold spec_l02Cell.f
  rw [in_valC, in_valC]
  show (if inR a = true then some (inR b) else some false) = _
  cases inR a <;> rfl
theorem coord_val (a : Int) : impl_isCoordinate.f a = some (inR a) := by
  unfold impl_isCoordinate.f
  rw [within_valC]
  rfl
theorem less_val (a b c d : Int) : spec_l02Less.f a b c d = some (lessB ⟨a, b⟩ ⟨c, d⟩) := by
  unfold spec_l02Less.f lessB
  by_cases h : b < d
  · simp [h]
  · by_cases e : b = d
    · simp [e]
    · simp [h, e]
def cmp3 (a b : Int) : Int := if a < b then -1 else if a > b then 1 else 0
theorem cmp_val (a b : Int) : cmp_Compare_int64.f a b = some (cmp3 a b) := by
  have h : ∀ x : Int, cmp_isNaN_int64.f x = some false := fun x => by simp [cmp_isNaN_int64.f]
  unfold cmp_Compare_int64.f cmp3
  rw [h, h]
  simp only [Option.bind_some, Bool.false_eq_true, if_false]
  split
  · rfl
  · split <;> rfl
def cmpC (p q : S78) : Int := if cmp3 p.f1 q.f1 = 0 then cmp3 p.f0 q.f0 else cmp3 p.f1 q.f1
theorem compare_val (a b c d : Int) : impl_compareCells.f a b c d = some (cmpC ⟨a, b⟩ ⟨c, d⟩) := by
  unfold impl_compareCells.f cmpC
  rw [cmp_val, cmp_val]
  simp only [Option.bind_some]
  split <;> rfl
theorem cmpC_less (p q : S78) : (cmpC p q ≥ 0) ↔ lessB p q = false := by
  unfold cmpC cmp3 lessB
  simp only [Bool.or_eq_false_iff, Bool.and_eq_false_iff, decide_eq_false_iff_not]
  split <;> split <;> (try split) <;> (try split) <;> omega
theorem spec_shape_loop (l : List S78) (hm : l.length ≤ maxLen) (d : Nat) : ∀ n : Nat, n + d = l.length → Ev (fun k => spec_IsShape.l0 k l n) (shapeFrom l d n) := by
  unfold maxLen at hm
  induction d with
  | zero =>
    intro n hd
    refine Ev.step (f := fun _ => _) (fun k => by simp only [spec_IsShape.l0]; rfl) (ev_neg (by omega) (ev_some (in_valC _ _ _) (ev_const ?_)))
    rw [shapeFrom]
    congr 2 <;> exact decide_eq_decide.2 (by omega)
  | succ d ih =>
    intro n hd
    refine Ev.step (f := fun _ => _) (fun k => by simp only [spec_IsShape.l0]; rfl) (ev_pos (by omega) (ev_pos (by omega) (ev_some (cell_val _ _) ?_)))
    rw [show rd_T78 l (n : Int) = cellAt l n from rfl, shapeFrom, okAtB]
    cases h1 : (inR (cellAt l n).f0 && inR (cellAt l n).f1) with
    | false => exact ev_neg (by simp) (ev_const rfl)
    | true =>
      refine ev_pos rfl ?_
      by_cases h0 : n = 0
      · subst h0
        refine ev_neg (by omega) ?_
        rw [wrap_succ 0 (by omega)]
        simpa using ih 1 (by omega)
      · have hw : wrap64 ((n : Int) - 1) = ((n - 1 : Nat) : Int) := by rw [wrap_id _ (by omega) (by omega)]; omega
        rw [hw]
        refine ev_pos (by omega) (ev_pos (by omega) (ev_pos (by omega) (ev_some (less_val _ _ _ _) ?_)))
        rw [decide_eq_false h0, Bool.false_or, Bool.true_and, show rd_T78 l ((n - 1 : Nat) : Int) = cellAt l (n - 1) from rfl]
        cases h2 : lessB (cellAt l (n - 1)) (cellAt l n) with
        | false => exact ev_neg (by simp) (ev_const rfl)
        | true =>
          refine ev_pos rfl ?_
          rw [wrap_succ n (by omega), Bool.true_and]
          exact ih (n + 1) (by omega)
theorem spec_shape_val (l : List S78) (hm : l.length ≤ maxLen) : Ev (fun k => spec_IsShape.f k l) (isShapeB l) := spec_shape_loop l hm l.length 0 (by omega)
theorem impl_shape_loop (l : List S78) (hm : l.length ≤ maxLen) (d : Nat) : ∀ n : Nat, n + d = l.length → Ev (fun k => impl_IsShape.l0 k l l (l.length : Int) n) (shapeFrom l d n) := by
  unfold maxLen at hm
  induction d with
  | zero =>
    intro n hd
    refine Ev.step (f := fun _ => _) (fun k => by simp only [impl_IsShape.l0]; rfl) (ev_neg (by omega) ?_)
    rw [shapeFrom]
    by_cases h : (l.length : Int) ≥ 1
    · refine ev_pos h (ev_const ?_)
      rw [decide_eq_true (show 1 ≤ l.length by omega), Bool.true_and]
      congr 1
      exact decide_eq_decide.2 (by omega)
    · refine ev_neg h (ev_const ?_)
      rw [decide_eq_false (show ¬ 1 ≤ l.length by omega), Bool.false_and]
  | succ d ih =>
    intro n hd
    refine Ev.step (f := fun _ => _) (fun k => by simp only [impl_IsShape.l0]; rfl) (ev_pos (by omega) (ev_pos (by omega) (ev_pos (by omega) (ev_some (coord_val _) ?_))))
    rw [show rd_T78 l (n : Int) = cellAt l n from rfl, shapeFrom, okAtB]
    cases h1 : inR (cellAt l n).f0 with
    | false => exact ev_neg (by simp) (ev_const (by simp))
    | true =>
      refine ev_pos rfl (ev_some (coord_val _) ?_)
      cases h1' : inR (cellAt l n).f1 with
      | false => exact ev_neg (by simp) (ev_const (by simp))
      | true =>
        refine ev_pos rfl ?_
        by_cases h0 : n = 0
        · subst h0
          refine ev_neg (by omega) ?_
          rw [wrap_succ 0 (by omega)]
          simpa using ih 1 (by omega)
        · have hw : wrap64 ((n : Int) - 1) = ((n - 1 : Nat) : Int) := by rw [wrap_id _ (by omega) (by omega)]; omega
          rw [hw]
          refine ev_pos (by omega) (ev_pos (by omega) (ev_pos (by omega) (ev_some (compare_val _ _ _ _) ?_)))
          rw [decide_eq_false h0, Bool.false_or, Bool.true_and, show rd_T78 l ((n - 1 : Nat) : Int) = cellAt l (n - 1) from rfl]
          cases h2 : lessB (cellAt l (n - 1)) (cellAt l n) with
          | false => exact ev_pos ((cmpC_less _ _).2 h2) (ev_const rfl)
          | true =>
            refine ev_neg (fun h => by have := (cmpC_less _ _).1 h; rw [h2] at this; cases this) ?_
            rw [wrap_succ n (by omega), Bool.true_and]
            exact ih (n + 1) (by omega)
theorem impl_shape_val (l : List S78) (hm : l.length ≤ maxLen) : Ev (fun k => impl_IsShape.f k l) (isShapeB l) := impl_shape_loop l hm l.length 0 (by omega)
theorem less_iff (a b : S78) : lessB a b = true ↔ a.f1 < b.f1 ∨ (a.f1 = b.f1 ∧ a.f0 < b.f0) := by
  unfold lessB
  simp only [Bool.or_eq_true, Bool.and_eq_true, decide_eq_true_eq]
/-! What a shape is: at most 40 cells, near the origin, no two alike. -/
theorem shapeFrom_true (l : List S78) : ∀ d n : Nat, shapeFrom l d n = true → (∀ i, n ≤ i → i < n + d → okAtB l i = true) ∧ 1 ≤ l.length ∧ l.length ≤ 40
  | 0, n, h => by
    simp only [shapeFrom, Bool.and_eq_true, decide_eq_true_eq] at h
    exact ⟨fun i h1 h2 => by omega, h.1, h.2⟩
  | d + 1, n, h => by
    simp only [shapeFrom, Bool.and_eq_true] at h
    obtain ⟨h1, h2⟩ := shapeFrom_true l d (n + 1) h.2
    refine ⟨fun i h3 h4 => ?_, h2⟩
    by_cases e : i = n
    · subst e; exact h.1
    · exact h1 i (by omega) (by omega)
structure Shape (l : List S78) : Prop where
  pos : 1 ≤ l.length
  le : l.length ≤ 40
  near : ∀ i, i < l.length → (-100 ≤ (cellAt l i).f0 ∧ (cellAt l i).f0 ≤ 100) ∧ (-100 ≤ (cellAt l i).f1 ∧ (cellAt l i).f1 ≤ 100)
  apart : ∀ i j, i < l.length → j < l.length → cellKey (cellAt l i) = cellKey (cellAt l j) → i = j
theorem shape_of (l : List S78) (h : isShapeB l = true) : Shape l := by
  obtain ⟨h1, h2, h3⟩ := shapeFrom_true l _ _ h
  have hok : ∀ i, i < l.length → okAtB l i = true := fun i hi => h1 i (by omega) (by omega)
  have hless : ∀ j i, i < j → j < l.length → lessB (cellAt l i) (cellAt l j) = true := by
    intro j
    induction j with
    | zero => intro i hi; omega
    | succ j ih =>
      intro i hi hj
      have h4 := hok (j + 1) hj
      simp only [okAtB, Bool.and_eq_true, Bool.or_eq_true, decide_eq_true_eq, Nat.add_sub_cancel] at h4
      have h5 : lessB (cellAt l j) (cellAt l (j + 1)) = true := by
        rcases h4.2 with h6 | h6
        · omega
        · exact h6
      by_cases e : i = j
      · subst e; exact h5
      · have h6 := ih i (by omega) (by omega)
        rw [less_iff] at *
        omega
  refine ⟨h2, h3, fun i hi => ?_, fun i j hi hj he => ?_⟩
  · have h4 := hok i hi
    simp only [okAtB, inR, Bool.and_eq_true, decide_eq_true_eq] at h4
    exact ⟨⟨h4.1.1.1, h4.1.1.2⟩, h4.1.2.1, h4.1.2.2⟩
  · simp only [cellKey, Prod.mk.injEq] at he
    rcases Nat.lt_trichotomy i j with h4 | h4 | h4
    · have := (less_iff _ _).1 (hless j i h4 hj)
      omega
    · exact h4
    · have := (less_iff _ _).1 (hless i j h4 hi)
      omega
/-! Where a cell stands. -/
theorem atCell_none (l : List S78) (p : Int × Int) : ∀ n : Nat, (∀ i, i < n → cellKey (cellAt l i) ≠ p) → atCell l n p = none
  | 0, _ => rfl
  | n + 1, h => by
    rw [atCell, if_neg (fun e => h n (by omega) e.symm)]
    exact atCell_none l p n (fun i hi => h i (by omega))
theorem atCell_inv (l : List S78) (p : Int × Int) (q : Int) : ∀ n : Nat, atCell l n p = some q → ∃ i : Nat, i < n ∧ q = (i : Int) ∧ cellKey (cellAt l i) = p
  | 0, h => by simp [atCell] at h
  | n + 1, h => by
    rw [atCell] at h
    by_cases e : p = cellKey (rd_T78 l (n : Int))
    · rw [if_pos e] at h
      exact ⟨n, by omega, (Option.some.inj h).symm, e.symm⟩
    · rw [if_neg e] at h
      obtain ⟨i, h1, h2, h3⟩ := atCell_inv l p q n h
      exact ⟨i, by omega, h2, h3⟩
theorem atCell_some (l : List S78) (hs : Shape l) (i : Nat) (hi : i < l.length) : atCell l l.length (cellKey (cellAt l i)) = some (i : Int) := by
  cases h : atCell l l.length (cellKey (cellAt l i)) with
  | some q =>
    obtain ⟨j, h1, h2, h3⟩ := atCell_inv l _ q _ h
    rw [hs.apart j i h1 hi h3] at h2
    rw [h2]
  | none =>
    have : ∀ n : Nat, i < n → atCell l n (cellKey (cellAt l i)) ≠ none := by
      intro n
      induction n with
      | zero => intro h0; omega
      | succ n ih =>
        intro h0
        rw [atCell]
        by_cases e : cellKey (cellAt l i) = cellKey (rd_T78 l (n : Int))
        · rw [if_pos e]; simp
        · rw [if_neg e]
          exact ih (by
            have : i ≠ n := fun e2 => e (by rw [e2]; rfl)
            omega)
    exact absurd h (this _ hi)
def idxI (l : List S78) (p : Int × Int) : Int := match atCell l l.length p with | some q => q | none => -1
theorem index_loop (l : List S78) (hs : Shape l) (a b : Int) (d : Nat) : ∀ n : Nat, n + d = l.length → (∀ i, i < n → cellKey (cellAt l i) ≠ (a, b)) → Ev (fun k => spec_l02Index.l0 k l n a b) (idxI l (a, b)) := by
  have := hs.le
  induction d with
  | zero =>
    intro n hd hn
    refine Ev.step (f := fun _ => _) (fun k => by simp only [spec_l02Index.l0]; rfl) (ev_neg (by omega) (ev_const ?_))
    unfold idxI
    rw [atCell_none l (a, b) l.length (fun i hi => hn i (by omega))]
  | succ d ih =>
    intro n hd hn
    refine Ev.step (f := fun _ => _) (fun k => by simp only [spec_l02Index.l0]; rfl) (ev_pos (by omega) (ev_pos (by omega) ?_))
    rw [show rd_T78 l (n : Int) = cellAt l n from rfl]
    by_cases e : ((cellAt l n).f0 == a && (cellAt l n).f1 == b) = true
    · refine ev_pos e (ev_const ?_)
      simp only [Bool.and_eq_true, beq_iff_eq] at e
      unfold idxI
      rw [show ((a, b) : Int × Int) = cellKey (cellAt l n) by unfold cellKey; rw [e.1, e.2], atCell_some l hs n (by omega)]
    · refine ev_neg e ?_
      rw [wrap_succ n (by omega)]
      refine ih (n + 1) (by omega) (fun i hi => ?_)
      by_cases e2 : i = n
      · subst e2
        intro h
        simp only [cellKey, Prod.mk.injEq] at h
        exact e (by rw [Bool.and_eq_true]; exact ⟨beq_iff_eq.2 h.1, beq_iff_eq.2 h.2⟩)
      · exact hn i (by omega)
theorem index_val (l : List S78) (hs : Shape l) (a b : Int) : Ev (fun k => spec_l02Index.f k l a b) (idxI l (a, b)) := index_loop l hs a b l.length 0 (by omega) (fun i hi => by omega)
/-! Parts: both sides come to the same list. -/
def negs (out : List Int) : Nat := out.countP (fun x => decide (x < 0))
theorem negs_set (out : List Int) (q : Nat) (v : Int) (hq : q < out.length) (h0 : out.getD q 0 < 0) (hv : 0 ≤ v) : negs (out.set q v) + 1 = negs out := by
  unfold negs
  rw [List.countP_set hq]
  have h1 : out[q] = out.getD q 0 := by rw [List.getD_eq_getElem?_getD, List.getElem?_eq_getElem hq]; rfl
  have h2 : decide (out[q] < 0) = true := by rw [h1]; exact decide_eq_true h0
  have h3 : decide (v < 0) = false := decide_eq_false (by omega)
  have h4 : 0 < out.countP (fun x => decide (x < 0)) := List.countP_pos_iff.2 ⟨out[q], List.getElem_mem hq, h2⟩
  simp only [h2, h3, if_true, Bool.false_eq_true, if_false]
  omega
theorem rd_get (out : List Int) (q : Nat) : rd out (q : Int) = out.getD q 0 := rfl
theorem getD_set (out : List Int) (q j : Nat) (v : Int) (hq : q < out.length) : (out.set q v).getD j 0 = if j = q then v else out.getD j 0 := by
  rw [List.getD_eq_getElem?_getD, List.getD_eq_getElem?_getD, List.getElem?_set]
  by_cases e : q = j
  · subst e; simp [hq]
  · rw [if_neg e, if_neg (Ne.symm e)]
structure Fine (l : List S78) (out list : List Int) : Prop where
  len : out.length = l.length
  mem : ∀ q, q ∈ list → 0 ≤ q ∧ q < (l.length : Int)
  few : list.length + 2 * negs out ≤ 100
theorem okc_wrap (x y : Int) (hx : -100 ≤ x ∧ x ≤ 100) (hy : -100 ≤ y ∧ y ≤ 100) : ∀ d ∈ [(⟨x, wrap64 (y - 1)⟩ : S78), ⟨wrap64 (x - 1), y⟩, ⟨wrap64 (x + 1), y⟩, ⟨x, wrap64 (y + 1)⟩], okc d := by
  intro d hd
  have w : ∀ n : Int, -9223372036854775808 ≤ wrap64 n ∧ wrap64 n ≤ 9223372036854775807 := fun n => by unfold wrap64; omega
  simp only [List.mem_cons, List.not_mem_nil, or_false] at hd
  rcases hd with rfl | rfl | rfl | rfl
  · exact ⟨⟨by show _ ≤ x; omega, by show x ≤ _; omega⟩, w _⟩
  · exact ⟨w _, ⟨by show _ ≤ y; omega, by show y ≤ _; omega⟩⟩
  · exact ⟨w _, ⟨by show _ ≤ y; omega, by show y ≤ _; omega⟩⟩
  · exact ⟨⟨by show _ ≤ x; omega, by show x ≤ _; omega⟩, w _⟩
theorem rd_cell (l : List S78) (n : Nat) : rd_T78 l (n : Int) = cellAt l n := rfl
/-! The walk of the first part, as a relation. -/
def dsOf (c : S78) : List S78 := [(⟨c.f0, wrap64 (c.f1 - 1)⟩ : S78), ⟨wrap64 (c.f0 - 1), c.f1⟩, ⟨wrap64 (c.f0 + 1), c.f1⟩, ⟨c.f0, wrap64 (c.f1 + 1)⟩]
inductive PW (l : List S78) : List Int → List Int → Nat → Nat → Prop
  | start : PW l ((List.replicate l.length (-1)).set 0 0) [0] 0 0
  | pass (out list : List Int) (t j q0 : Nat) : PW l out list t j → j < 4 → t < list.length → list.getD t 0 = (q0 : Int) → q0 < l.length → (∀ p : Nat, p < l.length → cellKey (cellAt l p) = cellKey (cellAt (dsOf (cellAt l q0)) j) → 0 ≤ out.getD p 0) → PW l out list t (j + 1)
  | new (out list : List Int) (t j q0 p : Nat) : PW l out list t j → j < 4 → t < list.length → list.getD t 0 = (q0 : Int) → q0 < l.length → p < l.length → cellKey (cellAt l p) = cellKey (cellAt (dsOf (cellAt l q0)) j) → out.getD p 0 < 0 → PW l (out.set p 0) (list ++ [(p : Int)]) t (j + 1)
  | turn (out list : List Int) (t : Nat) : PW l out list t 4 → PW l out list (t + 1) 0
theorem parts3 (l : List S78) (hs : Shape l) (i t : Nat) (hi : i < l.length) (ds : List S78) (hds : ds.length = 4) (hok : ∀ d ∈ ds, okc d) (q0 : Nat) (hq0 : q0 < l.length) (hdq : ds = dsOf (cellAt l q0)) (d : Nat) : ∀ (j : Nat) (out list : List Int), j + d = 4 → t < list.length → list.getD t 0 = (q0 : Int) → (i = 0 → PW l out list t j) → Fine l out list →
    ∃ out' list', (i = 0 → PW l out' list' t 4) ∧ Fine l out' list' ∧ list.length ≤ list'.length ∧ list'.length + 2 * negs out' ≤ list.length + 2 * negs out ∧ (∀ q : Nat, 0 ≤ out.getD q 0 → 0 ≤ out'.getD q 0) ∧
      (∀ r, Ev (fun k => impl_parts.l2 k l out' i list' (t + 1 : Nat)) r → Ev (fun k => impl_parts.l3 k l out i list t ds j) r) ∧
      (∀ r, Ev (fun k => spec_l02Parts.l2 k l out' i (list'.drop (t + 1))) r → Ev (fun k => spec_l02Parts.l3 k l out i (list.drop (t + 1)) ds j) r) := by
  have hN := hs.le
  induction d with
  | zero =>
    intro j out list hj ht htq hW hF
    have := hF.few
    obtain rfl : j = 4 := by omega
    refine ⟨out, list, hW, hF, Nat.le_refl _, Nat.le_refl _, fun _ h => h, fun r hr => ?_, fun r hr => ?_⟩
    · refine Ev.step (f := fun _ => _) (fun k => by simp only [impl_parts.l3]; rfl) (ev_neg (by omega) ?_)
      rw [wrap_succ t (by omega)]
      exact hr
    · exact Ev.step (f := fun _ => _) (fun k => by simp only [spec_l02Parts.l3]; rfl) (ev_neg (by omega) hr)
  | succ d ih =>
    intro j out list hj ht htq hW hF
    have hfew := hF.few
    have hmem : cellAt ds j ∈ ds := getD_mem ds z78 j (by omega)
    cases hq : atCell l l.length (cellKey (cellAt ds j)) with
    | none =>
      obtain ⟨out', list', h0, h1, h2, h3, h4, h5, h6⟩ := ih (j + 1) out list (by omega) ht htq (fun h => PW.pass out list t j q0 (hW h) (by omega) ht htq hq0 (fun p hp hk => by rw [← hdq] at hk; rw [← hk, atCell_some l hs p hp] at hq; cases hq)) hF
      refine ⟨out', list', h0, h1, h2, h3, h4, fun r hr => ?_, fun r hr => ?_⟩
      · refine Ev.step (f := fun k => if (j : Int) < (ds.length : Int) then (if 0 ≤ (j : Int) ∧ okc (cellAt ds j) then impl_parts.l3 k l out i list t ds (wrap64 ((j : Int) + 1)) else none) else impl_parts.l2 k l out i list (wrap64 ((t : Int) + 1))) (fun k => by simp only [impl_parts.l3, rd_cell, hq]) (ev_pos (by omega) (ev_pos ⟨by omega, hok _ hmem⟩ ?_))
        rw [wrap_succ j (by omega)]
        exact h5 r hr
      · refine Ev.step (f := fun _ => _) (fun k => by simp only [spec_l02Parts.l3]; rfl) (ev_pos (by omega) (ev_pos (by omega) (ev_pos (by omega) (Ev.bind (index_val l hs _ _) ?_))))
        have he : idxI l ((rd_T78 ds (j : Int)).f0, (rd_T78 ds (j : Int)).f1) = -1 := by
          unfold idxI
          rw [show ((rd_T78 ds (j : Int)).f0, (rd_T78 ds (j : Int)).f1) = cellKey (cellAt ds j) from rfl, hq]
        rw [he]
        refine ev_neg (by omega) ?_
        rw [wrap_succ j (by omega)]
        exact h6 r hr
    | some q =>
      obtain ⟨p, hp, rfl, hpk⟩ := atCell_inv l _ _ _ hq
      have he : idxI l ((rd_T78 ds (j : Int)).f0, (rd_T78 ds (j : Int)).f1) = (p : Int) := by
        unfold idxI
        rw [show ((rd_T78 ds (j : Int)).f0, (rd_T78 ds (j : Int)).f1) = cellKey (cellAt ds j) from rfl, hq]
      have hI : ∀ (r : List Int) (g : Nat → Option (List Int)), Ev g r → (∀ k, g k = (if rd out (p : Int) < 0 then (if list.length < 17592186044416 then impl_parts.l3 k l (out.set (p : Int).toNat i) i (list ++ [(p : Int)]) t ds (wrap64 ((j : Int) + 1)) else none) else impl_parts.l3 k l out i list t ds (wrap64 ((j : Int) + 1)))) → Ev (fun k => impl_parts.l3 k l out i list t ds j) r := by
        intro r g hg hgk
        refine Ev.step (f := fun k => if (j : Int) < (ds.length : Int) then (if 0 ≤ (j : Int) ∧ okc (cellAt ds j) then (if 0 ≤ (p : Int) ∧ (p : Int) < (l.length : Int) then g k else none) else none) else impl_parts.l2 k l out i list (wrap64 ((t : Int) + 1))) (fun k => by simp only [impl_parts.l3, rd_cell, hq, hgk]) (ev_pos (by omega) (ev_pos ⟨by omega, hok _ hmem⟩ (ev_pos ⟨by omega, by omega⟩ hg)))
      by_cases hneg : rd out (p : Int) < 0
      · have hset := negs_set out p (i : Int) (by rw [hF.len]; exact hp) hneg (by omega)
        have hF2 : Fine l (out.set p (i : Int)) (list ++ [(p : Int)]) := ⟨by rw [List.length_set]; exact hF.len, fun q hq => by
          rcases List.mem_append.1 hq with h | h
          · exact hF.mem q h
          · rw [List.mem_singleton.1 h]; omega, by simp only [List.length_append, List.length_cons, List.length_nil]; omega⟩
        obtain ⟨out', list', h0, h1, h2, h3, h4, h5, h6⟩ := ih (j + 1) _ _ (by omega) (by simp; omega) (by rw [List.getD_eq_getElem?_getD, List.getElem?_append_left ht, ← List.getD_eq_getElem?_getD]; exact htq) (fun h => by have h' := PW.new out list t j q0 p (hW h) (by omega) ht htq hq0 hp (by rw [← hdq]; exact hpk) hneg; subst h; exact h') hF2
        simp only [List.length_append, List.length_cons, List.length_nil] at h2 h3
        refine ⟨out', list', h0, h1, by omega, by omega, fun q h => h4 q (by rw [getD_set _ _ _ _ (by rw [hF.len]; exact hp)]; split <;> omega), fun r hr => ?_, fun r hr => ?_⟩
        · refine hI r (fun k => impl_parts.l3 k l (out.set p i) i (list ++ [(p : Int)]) t ds ((j + 1 : Nat) : Int)) (h5 r hr) (fun k => ?_)
          rw [if_pos hneg, if_pos (by omega), wrap_succ j (by omega), Int.toNat_natCast]
        · refine Ev.step (f := fun _ => _) (fun k => by simp only [spec_l02Parts.l3]; rfl) (ev_pos (by omega) (ev_pos (by omega) (ev_pos (by omega) (Ev.bind (index_val l hs _ _) ?_))))
          rw [he]
          refine ev_pos (by omega) (ev_pos (by omega) (ev_pos (by rw [hF.len]; omega) (ev_pos hneg (ev_pos (by rw [List.length_drop]; omega) ?_))))
          rw [wrap_succ j (by omega), Int.toNat_natCast]
          have e : list.drop (t + 1) ++ [(p : Int)] = (list ++ [(p : Int)]).drop (t + 1) := by rw [List.drop_append_of_le_length (by omega)]
          rw [e]
          exact h6 r hr
      · obtain ⟨out', list', h0, h1, h2, h3, h4, h5, h6⟩ := ih (j + 1) out list (by omega) ht htq (fun h => PW.pass out list t j q0 (hW h) (by omega) ht htq hq0 (fun p' hp' hk => by rw [← hdq] at hk; rw [hs.apart p' p hp' hp (hk.trans hpk.symm)]; rw [rd_get] at hneg; omega)) hF
        refine ⟨out', list', h0, h1, h2, h3, h4, fun r hr => ?_, fun r hr => ?_⟩
        · refine hI r (fun k => impl_parts.l3 k l out i list t ds ((j + 1 : Nat) : Int)) (h5 r hr) (fun k => ?_)
          rw [if_neg hneg, wrap_succ j (by omega)]
        · refine Ev.step (f := fun _ => _) (fun k => by simp only [spec_l02Parts.l3]; rfl) (ev_pos (by omega) (ev_pos (by omega) (ev_pos (by omega) (Ev.bind (index_val l hs _ _) ?_))))
          rw [he]
          refine ev_pos (by omega) (ev_pos (by omega) (ev_pos (by rw [hF.len]; omega) (ev_neg hneg ?_)))
          rw [wrap_succ j (by omega)]
          exact h6 r hr
theorem parts2 (l : List S78) (hs : Shape l) (i : Nat) (hi : i < l.length) (M : Nat) : ∀ (out list : List Int) (t : Nat), 2 * negs out + (list.length - t) ≤ M → t ≤ list.length → (i = 0 → PW l out list t 0) → Fine l out list →
    ∃ out', (i = 0 → ∃ list', PW l out' list' list'.length 0) ∧ out'.length = l.length ∧ (∀ q : Nat, 0 ≤ out.getD q 0 → 0 ≤ out'.getD q 0) ∧ negs out' ≤ negs out + 50 ∧
      (∀ r, Ev (fun k => impl_parts.l1 k l out' (i + 1 : Nat)) r → Ev (fun k => impl_parts.l2 k l out i list t) r) ∧
      (∀ r, Ev (fun k => spec_l02Parts.l1 k l out' (i + 1 : Nat)) r → Ev (fun k => spec_l02Parts.l2 k l out i (list.drop t)) r) := by
  have hN := hs.le
  induction M with
  | zero =>
    intro out list t hM ht hW hF
    have hfew := hF.few
    obtain rfl : t = list.length := by omega
    refine ⟨out, fun h => ⟨list, hW h⟩, hF.len, fun _ h => h, by omega, fun r hr => ?_, fun r hr => ?_⟩
    · refine Ev.step (f := fun _ => _) (fun k => by simp only [impl_parts.l2]; rfl) (ev_neg (by omega) ?_)
      rw [wrap_succ i (by omega)]
      exact hr
    · refine Ev.step (f := fun _ => _) (fun k => by simp only [spec_l02Parts.l2]; rfl) (ev_neg (by rw [List.length_drop]; omega) ?_)
      rw [wrap_succ i (by omega)]
      exact hr
  | succ M ih =>
    intro out list t hM ht hW hF
    have hfew := hF.few
    by_cases e : t = list.length
    · subst e
      refine ⟨out, fun h => ⟨list, hW h⟩, hF.len, fun _ h => h, by omega, fun r hr => ?_, fun r hr => ?_⟩
      · refine Ev.step (f := fun _ => _) (fun k => by simp only [impl_parts.l2]; rfl) (ev_neg (by omega) ?_)
        rw [wrap_succ i (by omega)]
        exact hr
      · refine Ev.step (f := fun _ => _) (fun k => by simp only [spec_l02Parts.l2]; rfl) (ev_neg (by rw [List.length_drop]; omega) ?_)
        rw [wrap_succ i (by omega)]
        exact hr
    · have ht' : t < list.length := by omega
      have hm := hF.mem (list.getD t 0) (getD_mem list 0 t ht')
      obtain ⟨q, hq⟩ := Int.eq_ofNat_of_zero_le hm.1
      have hn := hs.near q (by omega)
      obtain ⟨out1, list1, h0, h1, h2, h3, h4, h5, h6⟩ := parts3 l hs i t hi [(⟨(cellAt l q).f0, wrap64 ((cellAt l q).f1 - 1)⟩ : S78), ⟨wrap64 ((cellAt l q).f0 - 1), (cellAt l q).f1⟩, ⟨wrap64 ((cellAt l q).f0 + 1), (cellAt l q).f1⟩, ⟨(cellAt l q).f0, wrap64 ((cellAt l q).f1 + 1)⟩] rfl (okc_wrap _ _ hn.1 hn.2) q (by omega) rfl 4 0 out list rfl ht' hq hW hF
      obtain ⟨out', g0, g1, g2, g3, g4, g5⟩ := ih out1 list1 (t + 1) (by omega) (by omega) (fun h => PW.turn _ _ _ (h0 h)) h1
      refine ⟨out', g0, g1, fun q h => g2 q (h4 q h), by have := h1.few; omega, fun r hr => ?_, fun r hr => ?_⟩
      · refine Ev.step (f := fun _ => _) (fun k => by simp only [impl_parts.l2]; rfl) (ev_pos (by omega) ?_)
        rw [rd_get, hq]
        refine ev_pos ⟨⟨by omega, by omega⟩, by omega⟩ (ev_some rfl ?_)
        exact h5 r (g4 r hr)
      · have hd : list.drop t = list.getD t 0 :: list.drop (t + 1) := drop_cons list 0 t ht'
        rw [hd, hq]
        have hr0 : rd ((q : Int) :: list.drop (t + 1)) 0 = (q : Int) := rfl
        refine Ev.step (f := fun _ => _) (fun k => by simp only [spec_l02Parts.l2]; rfl) (ev_pos (by simp only [List.length_cons]; omega) (ev_pos (by simp only [List.length_cons]; omega) ?_))
        rw [hr0]
        refine ev_pos (by omega) (ev_pos (by omega) (ev_some rfl (ev_pos (by simp only [List.length_cons]; omega) ?_)))
        exact h6 r (g5 r hr)
theorem parts1 (l : List S78) (hs : Shape l) (d : Nat) : ∀ (i : Nat) (out : List Int), i + d = l.length → out.length = l.length → (i = 0 → out = List.replicate l.length (-1)) → (∀ q : Nat, q < i → 0 ≤ out.getD q 0) →
    ∃ out', out'.length = l.length ∧ (∀ q : Nat, q < l.length → 0 ≤ out'.getD q 0) ∧ Ev (fun k => impl_parts.l1 k l out i) out' ∧ Ev (fun k => spec_l02Parts.l1 k l out i) out' := by
  have hN := hs.le
  induction d with
  | zero =>
    intro i out hi ho hz hp
    refine ⟨out, ho, fun q hq => hp q (by omega), ?_, ?_⟩
    · exact Ev.step (f := fun _ => _) (fun k => by simp only [impl_parts.l1]; rfl) (ev_neg (by omega) (ev_const rfl))
    · exact Ev.step (f := fun _ => _) (fun k => by simp only [spec_l02Parts.l1]; rfl) (ev_neg (by omega) (ev_const rfl))
  | succ d ih =>
    intro i out hi ho hz hp
    by_cases h0 : rd out (i : Int) ≥ 0
    · obtain ⟨out', h1, h2, h3, h4⟩ := ih (i + 1) out (by omega) ho (fun h => by omega) (fun q hq => by
        by_cases e : q = i
        · subst e; exact h0
        · exact hp q (by omega))
      refine ⟨out', h1, h2, ?_, ?_⟩
      · refine Ev.step (f := fun _ => _) (fun k => by simp only [impl_parts.l1]; rfl) (ev_pos (by omega) (ev_pos (by omega) (ev_pos h0 ?_)))
        rw [wrap_succ i (by omega)]
        exact h3
      · refine Ev.step (f := fun _ => _) (fun k => by simp only [spec_l02Parts.l1]; rfl) (ev_pos (by omega) (ev_pos (by omega) (ev_pos (by omega) (ev_pos h0 ?_))))
        rw [wrap_succ i (by omega)]
        exact h4
    · have hneg : out.getD i 0 < 0 := by rw [rd_get] at h0; omega
      have hset := negs_set out i (i : Int) (by omega) hneg (by omega)
      have hcount : negs out ≤ out.length := List.countP_le_length
      obtain ⟨out1, _, g1, g2, g3, g4, g5⟩ := parts2 l hs i (by omega) (2 * negs (out.set i (i : Int)) + 1) (out.set i (i : Int)) [(i : Int)] 0 (by simp) (by simp) (fun h => by subst h; rw [hz rfl]; exact PW.start) ⟨by rw [List.length_set]; exact ho, fun q hq => by rw [List.mem_singleton.1 hq]; omega, by simp only [List.length_cons, List.length_nil]; omega⟩
      obtain ⟨out', h1, h2, h3, h4⟩ := ih (i + 1) out1 (by omega) g1 (fun h => by omega) (fun q hq => g2 q (by
        rw [getD_set _ _ _ _ (by omega)]
        split
        · omega
        · exact hp q (by omega)))
      refine ⟨out', h1, h2, ?_, ?_⟩
      · refine Ev.step (f := fun _ => _) (fun k => by simp only [impl_parts.l1]; rfl) (ev_pos (by omega) (ev_pos (by omega) (ev_neg h0 ?_)))
        rw [Int.toNat_natCast]
        exact g4 _ h3
      · refine Ev.step (f := fun _ => _) (fun k => by simp only [spec_l02Parts.l1]; rfl) (ev_pos (by omega) (ev_pos (by omega) (ev_pos (by omega) (ev_neg h0 ?_))))
        rw [Int.toNat_natCast]
        exact g5 _ h4
theorem parts0 (l : List S78) (hs : Shape l) (r : List Int) (h : Ev (fun k => spec_l02Parts.l1 k l (List.replicate l.length (-1)) 0) r) (d : Nat) : ∀ n : Nat, n + d = l.length → Ev (fun k => spec_l02Parts.l0 k l (List.replicate n (-1)) n) r := by
  have hN := hs.le
  induction d with
  | zero =>
    intro n hn
    obtain rfl : n = l.length := by omega
    exact Ev.step (f := fun _ => _) (fun k => by simp only [spec_l02Parts.l0]; rfl) (ev_neg (by omega) h)
  | succ d ih =>
    intro n hn
    refine Ev.step (f := fun _ => _) (fun k => by simp only [spec_l02Parts.l0]; rfl) (ev_pos (by omega) (ev_pos (by simp; omega) ?_))
    rw [wrap_succ n (by omega), show List.replicate n (-1 : Int) ++ [-1] = List.replicate (n + 1) (-1) from List.replicate_succ'.symm]
    exact ih (n + 1) (by omega)
theorem parts_both (l : List S78) (hs : Shape l) : ∃ out, out.length = l.length ∧ (∀ q : Nat, q < l.length → 0 ≤ out.getD q 0) ∧ Ev (fun k => impl_parts.f k l) out ∧ Ev (fun k => spec_l02Parts.f k l) out := by
  obtain ⟨out, h1, h2, h3, h4⟩ := parts1 l hs l.length 0 (List.replicate l.length (-1)) (by omega) (by simp) (fun _ => rfl) (fun q hq => by omega)
  refine ⟨out, h1, h2, ?_, parts0 l hs out h4 l.length 0 (by omega)⟩
  refine ev_pos ⟨⟨by have := hs.pos; omega, by have := hs.le; omega⟩, fun c hc => ?_⟩ h3
  obtain ⟨i, hi, rfl⟩ := List.getElem_of_mem hc
  have := hs.near i hi
  have e : l[i] = cellAt l i := by rw [show cellAt l i = l.getD i z78 from rfl, List.getD_eq_getElem?_getD, List.getElem?_eq_getElem hi]; rfl
  rw [e]
  exact ⟨⟨by omega, by omega⟩, by omega, by omega⟩
theorem max_loop (out : List Int) (hm : out.length ≤ 40) (hp : ∀ q : Nat, q < out.length → 0 ≤ out.getD q 0) (d : Nat) : ∀ (n : Nat) (x : Int), n + d = out.length → 0 ≤ x →
    ∃ m, Ev (fun k => slices_Max_int64_int64.l0 k out x n) m ∧ (m = 0 ↔ x = 0 ∧ ∀ q : Nat, n ≤ q → q < out.length → out.getD q 0 = 0) := by
  induction d with
  | zero =>
    intro n x hn hx
    exact ⟨x, Ev.step (f := fun _ => _) (fun k => by simp only [slices_Max_int64_int64.l0]; rfl) (ev_neg (by omega) (ev_const rfl)), ⟨fun h => ⟨h, fun q h1 h2 => by omega⟩, fun h => h.1⟩⟩
  | succ d ih =>
    intro n x hn hx
    have h0 := hp n (by omega)
    obtain ⟨m, h1, h2⟩ := ih (n + 1) (mx x (rd out (n : Int))) (by omega) (by rw [rd_get]; unfold mx; split <;> omega)
    refine ⟨m, Ev.step (f := fun _ => _) (fun k => by simp only [slices_Max_int64_int64.l0]; rfl) (ev_pos (by omega) (ev_pos (by omega) (by rw [wrap_succ n (by omega)]; exact h1))), h2.trans ⟨fun h => ?_, fun h => ?_⟩⟩
    · rw [rd_get] at h
      have h3 : x = 0 ∧ out.getD n 0 = 0 := by
        have := h.1
        unfold mx at this
        split at this <;> omega
      refine ⟨h3.1, fun q h4 h5 => ?_⟩
      by_cases e : q = n
      · subst e; exact h3.2
      · exact h.2 q (by omega) h5
    · have h3 := h.2 n (Nat.le_refl _) (by omega)
      refine ⟨?_, fun q h4 h5 => h.2 q (by omega) h5⟩
      rw [rd_get, h.1, h3]
      rfl
theorem one_loop (out : List Int) (hm : out.length ≤ 40) (d : Nat) : ∀ n : Nat, n + d = out.length → ∃ b, Ev (fun k => spec_l02One.l0 k out n) b ∧ (b = true ↔ ∀ q : Nat, n ≤ q → q < out.length → out.getD q 0 = 0) := by
  induction d with
  | zero =>
    intro n hn
    exact ⟨true, Ev.step (f := fun _ => _) (fun k => by simp only [spec_l02One.l0]; rfl) (ev_neg (by omega) (ev_const rfl)), ⟨fun _ q h1 h2 => by omega, fun _ => rfl⟩⟩
  | succ d ih =>
    intro n hn
    by_cases h : rd out (n : Int) = 0
    · obtain ⟨b, h1, h2⟩ := ih (n + 1) (by omega)
      refine ⟨b, Ev.step (f := fun _ => _) (fun k => by simp only [spec_l02One.l0]; rfl) (ev_pos (by omega) (ev_pos (by omega) (ev_pos h (by rw [wrap_succ n (by omega)]; exact h1)))), h2.trans ⟨fun h3 q h4 h5 => ?_, fun h3 q h4 h5 => h3 q (by omega) h5⟩⟩
      by_cases e : q = n
      · subst e; exact h
      · exact h3 q (by omega) h5
    · exact ⟨false, Ev.step (f := fun _ => _) (fun k => by simp only [spec_l02One.l0]; rfl) (ev_pos (by omega) (ev_pos (by omega) (ev_neg h (ev_const rfl)))), ⟨fun h1 => (by cases h1), fun h1 => absurd (h1 n (Nat.le_refl _) (by omega)) h⟩⟩
theorem connected_both (l : List S78) (hm : l.length ≤ maxLen) : ∃ b, Ev (fun k => impl_IsConnected.f k l) b ∧ Ev (fun k => spec_IsConnected.f k l) b ∧ (b = true → Shape l) := by
  cases h : isShapeB l with
  | false =>
    have h1 := impl_shape_val l hm
    have h2 := spec_shape_val l hm
    rw [h] at h1 h2
    exact ⟨false, Ev.bind h1 (ev_neg (by simp) (ev_const rfl)), Ev.bind h2 (ev_neg (by simp) (ev_const rfl)), fun h => by cases h⟩
  | true =>
    have hs := shape_of l h
    have hN := hs.le
    have h1 := impl_shape_val l hm
    have h2 := spec_shape_val l hm
    rw [h] at h1 h2
    obtain ⟨out, g1, g2, g3, g4⟩ := parts_both l hs
    have hpos := hs.pos
    obtain ⟨m, m1, m2⟩ := max_loop out (by omega) (fun q hq => g2 q (by omega)) (out.length - 1) 1 (rd out 0) (by omega) (g2 0 (by omega))
    obtain ⟨b, b1, b2⟩ := one_loop out (by omega) out.length 0 (by omega)
    have hmax : Ev (fun k => slices_Max_int64_int64.f k out) m := ev_neg (by omega) (ev_pos (by omega) m1)
    have heq : m = 0 ↔ b = true := m2.trans (Iff.trans ⟨fun h q h1 h2 => by
      by_cases e : q = 0
      · subst e; exact h.1
      · exact h.2 q (by omega) h2, fun h => ⟨h 0 (Nat.le_refl _) (by omega), fun q h1 h2 => h q (by omega) h2⟩⟩ b2.symm)
    refine ⟨b, Ev.bind h1 (ev_pos rfl (Ev.bind g3 (Ev.bind hmax ?_))), Ev.bind h2 (ev_pos rfl (Ev.bind g4 (Ev.bind b1 (ev_const rfl)))), fun _ => hs⟩
    cases b with
    | true => exact ev_pos (heq.2 rfl) (ev_const rfl)
    | false => exact ev_neg (fun e => by have := heq.1 e; cases this) (ev_const rfl)
/-! Faces: both sides roll the die alike. -/
theorem has_loop (ids : List Int) (v : Int) (hm : ids.length ≤ 1000) (d : Nat) : ∀ n : Nat, n + d = ids.length → (∀ i, i < n → ids.getD i 0 ≠ v) → Ev (fun k => spec_l01Has.l0 k ids v n) (decide (v ∈ ids)) := by
  induction d with
  | zero =>
    intro n hn h
    refine Ev.step (f := fun _ => _) (fun k => by simp only [spec_l01Has.l0]; rfl) (ev_neg (by omega) (ev_const ?_))
    rw [decide_eq_false]
    intro hv
    obtain ⟨i, hi, e⟩ := List.getElem_of_mem hv
    exact h i (by omega) (by rw [List.getD_eq_getElem?_getD, List.getElem?_eq_getElem hi]; exact e)
  | succ d ih =>
    intro n hn h
    refine Ev.step (f := fun _ => _) (fun k => by simp only [spec_l01Has.l0]; rfl) (ev_pos (by omega) (ev_pos (by omega) ?_))
    by_cases e : rd ids (n : Int) = v
    · refine ev_pos e (ev_const ?_)
      rw [decide_eq_true]
      rw [← e]
      exact getD_mem ids 0 n (by omega)
    · refine ev_neg e ?_
      rw [wrap_succ n (by omega)]
      refine ih (n + 1) (by omega) (fun i hi => ?_)
      by_cases e2 : i = n
      · subst e2; exact e
      · exact h i (by omega)
theorem has_val (ids : List Int) (v : Int) (hm : ids.length ≤ 1000) : Ev (fun k => spec_l01Has.f k ids v) (decide (v ∈ ids)) := has_loop ids v hm ids.length 0 (by omega) (fun i hi => by omega)
theorem sindex_loop (l : List S78) (hs : Shape l) (a b : Int) (d : Nat) : ∀ n : Nat, n + d = l.length → (∀ i, i < n → cellKey (cellAt l i) ≠ (a, b)) → Ev (fun k => slices_Index_impl_Cell_impl_Cell.l0 k l (l.length : Int) n a b) (idxI l (a, b)) := by
  have := hs.le
  induction d with
  | zero =>
    intro n hd hn
    refine Ev.step (f := fun _ => _) (fun k => by simp only [slices_Index_impl_Cell_impl_Cell.l0]; rfl) (ev_neg (by omega) (ev_const ?_))
    unfold idxI
    rw [atCell_none l (a, b) l.length (fun i hi => hn i (by omega))]
  | succ d ih =>
    intro n hd hn
    refine Ev.step (f := fun _ => _) (fun k => by simp only [slices_Index_impl_Cell_impl_Cell.l0]; rfl) (ev_pos (by omega) (ev_pos (by omega) (ev_pos (by omega) ?_)))
    rw [show rd_T78 l (n : Int) = cellAt l n from rfl]
    by_cases e : (a == (cellAt l n).f0 && b == (cellAt l n).f1) = true
    · refine ev_pos e (ev_const ?_)
      simp only [Bool.and_eq_true, beq_iff_eq] at e
      unfold idxI
      rw [show ((a, b) : Int × Int) = cellKey (cellAt l n) by unfold cellKey; rw [e.1, e.2], atCell_some l hs n (by omega)]
    · refine ev_neg e ?_
      rw [wrap_succ n (by omega)]
      refine ih (n + 1) (by omega) (fun i hi => ?_)
      by_cases e2 : i = n
      · subst e2
        intro h
        simp only [cellKey, Prod.mk.injEq] at h
        exact e (by rw [Bool.and_eq_true]; exact ⟨beq_iff_eq.2 h.1.symm, beq_iff_eq.2 h.2.symm⟩)
      · exact hn i (by omega)
theorem contains_val (l : List S78) (hs : Shape l) (a b : Int) : Ev (fun k => slices_Contains_impl_Cell_impl_Cell.f k l a b) (decide (idxI l (a, b) ≥ 0)) :=
  Ev.bind (sindex_loop l hs a b l.length 0 (by omega) (fun i hi => by omega)) (ev_const rfl)
theorem step_val (e : Nat) (he : e < 4) : spec_l23Step.f (bt (⟨#[114, 100, 108, 117]⟩ : ByteArray) e) = some (edgeSX e, edgeSY e) := by
  rcases (by omega : e = 0 ∨ e = 1 ∨ e = 2 ∨ e = 3) with rfl | rfl | rfl | rfl <;> rfl
theorem roll_some (a b c x : Int) : ∃ y, impl_die_roll.f a b c x = some y := by
  unfold impl_die_roll.f
  split
  · exact ⟨_, rfl⟩
  · split
    · exact ⟨_, rfl⟩
    · split <;> exact ⟨_, rfl⟩
theorem roll_same (a b c x : Int) : spec_l32Roll.f a b c x = impl_die_roll.f a b c x := rfl
theorem countP_lt {α : Type} (p q : α → Bool) (a : α) : ∀ xs : List α, (∀ x ∈ xs, q x = true → p x = true) → a ∈ xs → p a = true → q a = false → xs.countP q < xs.countP p
  | [], _, h, _, _ => by cases h
  | x :: xs, hpq, h, ha, hb => by
    have hmono : xs.countP q ≤ xs.countP p := List.countP_mono_left (fun y hy => hpq y (List.mem_cons_of_mem _ hy))
    rw [List.countP_cons, List.countP_cons]
    rcases List.mem_cons.1 h with rfl | h
    · simp only [ha, hb, if_true, Bool.false_eq_true, if_false]; omega
    · have ih := countP_lt p q a xs (fun y hy => hpq y (List.mem_cons_of_mem _ hy)) h ha hb
      have := hpq x List.mem_cons_self
      cases hq : q x with
      | false => simp only [Bool.false_eq_true, if_false]; omega
      | true => rw [this hq]; simp only [if_true]; omega
def left (n : Nat) (ids : List Int) : Nat := (List.range n).countP (fun i : Nat => !decide ((i : Int) ∈ ids))
theorem left_app (n : Nat) (ids : List Int) (p : Nat) (hp : p < n) (h : (p : Int) ∉ ids) : left n (ids ++ [(p : Int)]) + 1 ≤ left n ids := by
  unfold left
  refine countP_lt _ _ p _ (fun x _ hx => ?_) (List.mem_range.2 hp) (by simp [h]) (by simp)
  simp only [Bool.not_eq_true', decide_eq_false_iff_not, List.mem_append, not_or] at hx ⊢
  exact hx.1
def trip (s : S71) : Int × Int × Int := (s.f0, s.f1, s.f2)
structure Sim (l : List S78) (ids : List Int) (dice : List S71) (m : List ((Int × Int) × (Int × Int × Int))) : Prop where
  len : dice.length = l.length
  mem : ∀ q, q ∈ ids → 0 ≤ q ∧ q < (l.length : Int)
  inn : ∀ q : Nat, q < l.length → (q : Int) ∈ ids → dget m (cellKey (cellAt l q)) = some (trip (dice.getD q z71))
  out : ∀ q : Nat, q < l.length → (q : Int) ∉ ids → dget m (cellKey (cellAt l q)) = none ∧ dice.getD q z71 = z71
  far : ∀ p, (∀ q : Nat, q < l.length → cellKey (cellAt l q) ≠ p) → dget m p = none
  few : ids.length + left l.length ids ≤ 100
def cellsOf (l : List S78) (ids : List Int) : List S78 := ids.map (fun q => cellAt l q.toNat)
theorem getD_cells (l : List S78) (ids : List Int) (t : Nat) (ht : t < ids.length) : rd_T78 (cellsOf l ids) (t : Int) = cellAt l (ids.getD t 0).toNat := by
  show (cellsOf l ids).getD t z78 = _
  unfold cellsOf
  rw [List.getD_eq_getElem?_getD, List.getElem?_map, List.getElem?_eq_getElem ht, List.getD_eq_getElem?_getD, List.getElem?_eq_getElem ht]
  rfl
theorem getD_app (ids : List Int) (x : Int) (t : Nat) (ht : t < ids.length) : (ids ++ [x]).getD t 0 = ids.getD t 0 := by
  rw [List.getD_eq_getElem?_getD, List.getD_eq_getElem?_getD, List.getElem?_append_left ht]
theorem getD_setD (dice : List S71) (q j : Nat) (v : S71) (hq : q < dice.length) : (dice.set q v).getD j z71 = if j = q then v else dice.getD j z71 := by
  rw [List.getD_eq_getElem?_getD, List.getD_eq_getElem?_getD, List.getElem?_set]
  by_cases e : q = j
  · subst e; simp [hq]
  · rw [if_neg e, if_neg (Ne.symm e)]
theorem sim_add (l : List S78) (hs : Shape l) (ids : List Int) (dice : List S71) (m : List ((Int × Int) × (Int × Int × Int))) (hS : Sim l ids dice m) (p : Nat) (hp : p < l.length) (hn : (p : Int) ∉ ids) (y : Int × Int × Int) :
    Sim l (ids ++ [(p : Int)]) (dice.set p ⟨y.1, y.2.1, y.2.2⟩) ((cellKey (cellAt l p), y) :: m) := by
  have hlen := hS.len
  refine ⟨by rw [List.length_set]; exact hlen, fun q hq => ?_, fun q hq hm => ?_, fun q hq hm => ?_, fun k hk => ?_, ?_⟩
  · rcases List.mem_append.1 hq with h | h
    · exact hS.mem q h
    · rw [List.mem_singleton.1 h]; omega
  · rw [dget, getD_setD _ _ _ _ (by omega)]
    by_cases e : q = p
    · subst e
      rw [if_pos rfl, if_pos rfl]
      rfl
    · rw [if_neg (fun h => e (hs.apart q p hq hp h)), if_neg e]
      rcases List.mem_append.1 hm with h | h
      · exact hS.inn q hq h
      · have := List.mem_singleton.1 h
        omega
  · rw [List.mem_append, not_or, List.mem_singleton] at hm
    have e : q ≠ p := fun h => hm.2 (by rw [h])
    rw [dget, getD_setD _ _ _ _ (by omega), if_neg (fun h => e (hs.apart q p hq hp h)), if_neg e]
    exact hS.out q hq hm.1
  · rw [dget, if_neg (fun h => hk p hp h.symm)]
    exact hS.far k hk
  · have := left_app l.length ids p hp hn
    have := hS.few
    simp only [List.length_append, List.length_cons, List.length_nil]
    omega
/-! The walk of the list of faces, as a relation. -/
inductive BW (l : List S78) : List Int → List S71 → Nat → Nat → Prop
  | start : BW l [0] ((List.replicate l.length z71).set 0 ⟨0, 1, 2⟩) 0 0
  | pass (ids : List Int) (dice : List S71) (t e q0 : Nat) : BW l ids dice t e → e < 4 → t < ids.length → ids.getD t 0 = (q0 : Int) → q0 < l.length → (∀ q : Nat, q < l.length → cellKey (cellAt l q) = cellKey (stepTo (cellAt l q0) e) → (q : Int) ∈ ids) → BW l ids dice t (e + 1)
  | new (ids : List Int) (dice : List S71) (t e q0 p : Nat) (y : Int × Int × Int) : BW l ids dice t e → e < 4 → t < ids.length → ids.getD t 0 = (q0 : Int) → q0 < l.length → p < l.length → cellKey (cellAt l p) = cellKey (stepTo (cellAt l q0) e) → (p : Int) ∉ ids → impl_die_roll.f (dice.getD q0 z71).f0 (dice.getD q0 z71).f1 (dice.getD q0 z71).f2 (bt (⟨#[114, 100, 108, 117]⟩ : ByteArray) e) = some y → BW l (ids ++ [(p : Int)]) (dice.set p ⟨y.1, y.2.1, y.2.2⟩) t (e + 1)
  | turn (ids : List Int) (dice : List S71) (t : Nat) : BW l ids dice t 4 → BW l ids dice (t + 1) 0
theorem faces1 (l : List S78) (hs : Shape l) (t q0 : Nat) (hq0 : q0 < l.length) (d : Nat) : ∀ (e : Nat) (ids : List Int) (dice : List S71) (m : List ((Int × Int) × (Int × Int × Int))), e + d = 4 → t < ids.length → ids.getD t 0 = (q0 : Int) → BW l ids dice t e → Sim l ids dice m →
    ∃ ids' dice' m', BW l ids' dice' t 4 ∧ Sim l ids' dice' m' ∧ ids.length ≤ ids'.length ∧ ids'.length + left l.length ids' ≤ ids.length + left l.length ids ∧ left l.length ids' ≤ left l.length ids ∧
      (∀ r, Ev (fun k => impl_faces.l0 k l m' (cellsOf l ids') (t + 1 : Nat)) r → Ev (fun k => impl_faces.l1 k l m (cellsOf l ids) t e) r) ∧
      (∀ r, Ev (fun k => spec_l32Faces.l0 k l ids' dice' (t + 1 : Nat)) r → Ev (fun k => spec_l32Faces.l1 k l ids dice t e (cellAt l q0).f0 (cellAt l q0).f1) r) := by
  have hN := hs.le
  induction d with
  | zero =>
    intro e ids dice m he ht hq hW hS
    have := hS.few
    obtain rfl : e = 4 := by omega
    refine ⟨ids, dice, m, hW, hS, Nat.le_refl _, Nat.le_refl _, Nat.le_refl _, fun r hr => ?_, fun r hr => ?_⟩
    · refine Ev.step (f := fun _ => _) (fun k => by simp only [impl_faces.l1]; rfl) (ev_neg (by omega) ?_)
      rw [wrap_succ t (by omega)]
      exact hr
    · refine Ev.step (f := fun _ => _) (fun k => by simp only [spec_l32Faces.l1]; rfl) (ev_neg (by omega) ?_)
      rw [wrap_succ t (by omega)]
      exact hr
  | succ d ih =>
    intro e ids dice m he ht hq hW hS
    have hfew := hS.few
    have hlen := hS.len
    have hc : rd_T78 (cellsOf l ids) (t : Int) = cellAt l q0 := by rw [getD_cells l ids t ht, hq]; rfl
    have hcl : (cellsOf l ids).length = ids.length := List.length_map _
    have hnear := hs.near q0 hq0
    have hokc : okcF (cellAt l q0) := ⟨⟨by omega, by omega⟩, by omega, by omega⟩
    have hmem0 : (q0 : Int) ∈ ids := by rw [← hq]; exact getD_mem ids 0 t ht
    have hidx := index_val l hs (wrap64 ((cellAt l q0).f0 + edgeSX e)) (wrap64 ((cellAt l q0).f1 + edgeSY e))
    have hcon := contains_val l hs (stepTo (cellAt l q0) e).f0 (stepTo (cellAt l q0) e).f1
    have hkey : cellKey (stepTo (cellAt l q0) e) = (wrap64 ((cellAt l q0).f0 + edgeSX e), wrap64 ((cellAt l q0).f1 + edgeSY e)) := rfl
    have hI : ∀ r : List Int, Ev (fun k => match dget m (cellKey (stepTo (cellAt l q0) e)) with
        | some _ => impl_faces.l1 k l m (cellsOf l ids) t (wrap64 ((e : Int) + 1))
        | none => (slices_Contains_impl_Cell_impl_Cell.f k l (stepTo (cellAt l q0) e).f0 (stepTo (cellAt l q0) e).f1).bind fun b => if b = true then (impl_die_roll.f ((dget m (cellKey (cellAt l q0))).getD (0, 0, 0)).1 ((dget m (cellKey (cellAt l q0))).getD (0, 0, 0)).2.1 ((dget m (cellKey (cellAt l q0))).getD (0, 0, 0)).2.2 (bt (⟨#[114, 100, 108, 117]⟩ : ByteArray) e)).bind fun y => (if (cellsOf l ids).length < 8796093022208 then impl_faces.l1 k l ((cellKey (stepTo (cellAt l q0) e), y) :: m) (cellsOf l ids ++ [stepTo (cellAt l q0) e]) t (wrap64 ((e : Int) + 1)) else none) else impl_faces.l1 k l m (cellsOf l ids) t (wrap64 ((e : Int) + 1))) r → Ev (fun k => impl_faces.l1 k l m (cellsOf l ids) t e) r := by
      intro r hg
      refine Ev.step (f := fun k => if (e : Int) < 4 then (if ((0 ≤ (e : Int) ∧ 0 ≤ (t : Int)) ∧ (t : Int) < ((cellsOf l ids).length : Int)) ∧ okcF (cellAt l q0) then _ else none) else impl_faces.l0 k l m (cellsOf l ids) (wrap64 ((t : Int) + 1))) (fun k => ?_) (ev_pos (by omega) (ev_pos ⟨⟨⟨by omega, by omega⟩, by omega⟩, hokc⟩ hg))
      simp only [impl_faces.l1, hc]
      rfl
    cases hat : atCell l l.length (cellKey (stepTo (cellAt l q0) e)) with
    | none =>
      have hno : ∀ q : Nat, q < l.length → cellKey (cellAt l q) ≠ cellKey (stepTo (cellAt l q0) e) := fun q hq' h => by
        rw [← h, atCell_some l hs q hq'] at hat
        cases hat
      have hd := hS.far _ hno
      have hix : idxI l (cellKey (stepTo (cellAt l q0) e)) = -1 := by unfold idxI; rw [hat]
      obtain ⟨ids', dice', m', h0, h1, h2, h3, h3', h4, h5⟩ := ih (e + 1) ids dice m (by omega) ht hq (BW.pass ids dice t e q0 hW (by omega) ht hq hq0 (fun q hq' h => absurd h (hno q hq'))) hS
      refine ⟨ids', dice', m', h0, h1, h2, h3, h3', fun r hr => ?_, fun r hr => ?_⟩
      · have hcon' : Ev (fun k => slices_Contains_impl_Cell_impl_Cell.f k l (stepTo (cellAt l q0) e).f0 (stepTo (cellAt l q0) e).f1) false := by
          refine ev_eq hcon ?_
          rw [show ((stepTo (cellAt l q0) e).f0, (stepTo (cellAt l q0) e).f1) = cellKey (stepTo (cellAt l q0) e) from rfl, hix]
          rfl
        refine hI r ?_
        simp only [hd]
        refine Ev.bind hcon' (ev_neg (by simp) ?_)
        rw [wrap_succ e (by omega)]
        exact h4 r hr
      · refine Ev.step (f := fun _ => _) (fun k => by simp only [spec_l32Faces.l1]; rfl) (ev_pos (by omega) (ev_pos (by omega) (ev_some (step_val e (by omega)) (Ev.bind hidx ?_))))
        rw [show ((wrap64 ((cellAt l q0).f0 + edgeSX e), wrap64 ((cellAt l q0).f1 + edgeSY e)) : Int × Int) = cellKey (stepTo (cellAt l q0) e) from rfl, hix]
        refine ev_neg (by omega) ?_
        rw [wrap_succ e (by omega)]
        exact h5 r hr
    | some p' =>
      obtain ⟨p, hp, rfl, hpk⟩ := atCell_inv l _ _ _ hat
      have hix : idxI l (cellKey (stepTo (cellAt l q0) e)) = (p : Int) := by unfold idxI; rw [hat]
      have hcell : stepTo (cellAt l q0) e = cellAt l p := by
        have h1 : (cellAt l p).f0 = (stepTo (cellAt l q0) e).f0 := congrArg Prod.fst hpk
        have h2 : (cellAt l p).f1 = (stepTo (cellAt l q0) e).f1 := congrArg Prod.snd hpk
        cases h3 : stepTo (cellAt l q0) e with
        | mk a b =>
          cases h4 : cellAt l p with
          | mk c d =>
            rw [h3, h4] at h1 h2
            simp only at h1 h2
            rw [h1, h2]
      by_cases hin : (p : Int) ∈ ids
      · have hd := hS.inn p hp hin
        rw [hpk] at hd
        obtain ⟨ids', dice', m', h0, h1, h2, h3, h3', h4, h5⟩ := ih (e + 1) ids dice m (by omega) ht hq (BW.pass ids dice t e q0 hW (by omega) ht hq hq0 (fun q hq' h => by rw [hs.apart q p hq' hp (h.trans hpk.symm)]; exact hin)) hS
        refine ⟨ids', dice', m', h0, h1, h2, h3, h3', fun r hr => ?_, fun r hr => ?_⟩
        · refine hI r ?_
          simp only [hd]
          rw [wrap_succ e (by omega)]
          exact h4 r hr
        · refine Ev.step (f := fun _ => _) (fun k => by simp only [spec_l32Faces.l1]; rfl) (ev_pos (by omega) (ev_pos (by omega) (ev_some (step_val e (by omega)) (Ev.bind hidx ?_))))
          rw [show ((wrap64 ((cellAt l q0).f0 + edgeSX e), wrap64 ((cellAt l q0).f1 + edgeSY e)) : Int × Int) = cellKey (stepTo (cellAt l q0) e) from rfl, hix]
          refine ev_pos (by omega) (Ev.bind (has_val ids p (by omega)) (ev_pos (decide_eq_true hin) ?_))
          rw [wrap_succ e (by omega)]
          exact h5 r hr
      · have hd := (hS.out p hp hin).1
        rw [hpk] at hd
        have hq0d := hS.inn q0 hq0 hmem0
        obtain ⟨y, hy⟩ := roll_some (dice.getD q0 z71).f0 (dice.getD q0 z71).f1 (dice.getD q0 z71).f2 (bt (⟨#[114, 100, 108, 117]⟩ : ByteArray) e)
        obtain ⟨ids', dice', m', h0, h1, h2, h3, h3', h4, h5⟩ := ih (e + 1) _ _ _ (by omega) (by simp only [List.length_append, List.length_cons, List.length_nil]; omega) ((getD_app ids _ t ht).trans hq) (BW.new ids dice t e q0 p y hW (by omega) ht hq hq0 hp hpk hin hy) (sim_add l hs ids dice m hS p hp hin y)
        have hla := left_app l.length ids p hp hin
        simp only [List.length_append, List.length_cons, List.length_nil] at h2 h3
        refine ⟨ids', dice', m', h0, h1, by omega, by omega, by omega, fun r hr => ?_, fun r hr => ?_⟩
        · have hcon' : Ev (fun k => slices_Contains_impl_Cell_impl_Cell.f k l (stepTo (cellAt l q0) e).f0 (stepTo (cellAt l q0) e).f1) true := by
            refine ev_eq hcon ?_
            rw [show ((stepTo (cellAt l q0) e).f0, (stepTo (cellAt l q0) e).f1) = cellKey (stepTo (cellAt l q0) e) from rfl, hix]
            exact decide_eq_true (by omega)
          refine hI r ?_
          simp only [hd, hq0d, Option.getD_some]
          refine Ev.bind hcon' (ev_pos rfl (ev_some hy (ev_pos (by omega) ?_)))
          rw [wrap_succ e (by omega), hcell]
          have e1 : cellsOf l ids ++ [cellAt l p] = cellsOf l (ids ++ [(p : Int)]) := by unfold cellsOf; rw [List.map_append]; rfl
          rw [e1]
          exact h4 r hr
        · refine Ev.step (f := fun _ => _) (fun k => by simp only [spec_l32Faces.l1]; rfl) (ev_pos (by omega) (ev_pos (by omega) (ev_some (step_val e (by omega)) (Ev.bind hidx ?_))))
          rw [show ((wrap64 ((cellAt l q0).f0 + edgeSX e), wrap64 ((cellAt l q0).f1 + edgeSY e)) : Int × Int) = cellKey (stepTo (cellAt l q0) e) from rfl, hix]
          refine ev_pos (by omega) (Ev.bind (has_val ids p (by omega)) (ev_neg (by simp [hin]) (ev_pos (by omega) (ev_pos (by omega) ?_))))
          rw [show rd ids (t : Int) = ids.getD t 0 from rfl, hq]
          refine ev_pos (by omega) (ev_pos (by omega) (ev_some ((roll_same _ _ _ _).trans hy) (ev_pos (by omega) (ev_pos (by omega) (ev_pos (by omega) ?_)))))
          rw [wrap_succ e (by omega), Int.toNat_natCast]
          exact h5 r hr
theorem out_impl (l : List S78) (hs : Shape l) (ids : List Int) (dice : List S71) (m : List ((Int × Int) × (Int × Int × Int))) (hS : Sim l ids dice m) (d : Nat) : ∀ (n : Nat) (out : List Int), n + d = l.length → out.length = n →
    Ev (fun k => impl_faces.l2 k l m out n) (out ++ (dice.drop n).map (fun s => s.f0)) ∧ Ev (fun k => spec_l32Faces.l2 k dice out n) (out ++ (dice.drop n).map (fun s => s.f0)) := by
  have hN := hs.le
  have hlen := hS.len
  induction d with
  | zero =>
    intro n out hn ho
    rw [List.drop_of_length_le (by omega), List.map_nil, List.append_nil]
    exact ⟨Ev.step (f := fun _ => _) (fun k => by simp only [impl_faces.l2]; rfl) (ev_neg (by omega) (ev_const rfl)), Ev.step (f := fun _ => _) (fun k => by simp only [spec_l32Faces.l2]; rfl) (ev_neg (by omega) (ev_const rfl))⟩
  | succ d ih =>
    intro n out hn ho
    have hv : ((dget m (cellKey (cellAt l n))).getD (0, 0, 0)).1 = (dice.getD n z71).f0 := by
      by_cases h : (n : Int) ∈ ids
      · rw [hS.inn n (by omega) h]
        rfl
      · rw [(hS.out n (by omega) h).1, (hS.out n (by omega) h).2]
        rfl
    obtain ⟨h1, h2⟩ := ih (n + 1) (out ++ [(dice.getD n z71).f0]) (by omega) (by simp only [List.length_append, List.length_cons, List.length_nil]; omega)
    rw [drop_cons dice z71 n (by omega), List.map_cons, show out ++ (dice.getD n z71).f0 :: (dice.drop (n + 1)).map (fun s => s.f0) = (out ++ [(dice.getD n z71).f0]) ++ (dice.drop (n + 1)).map (fun s => s.f0) by simp]
    constructor
    · refine Ev.step (f := fun _ => _) (fun k => by simp only [impl_faces.l2]; rfl) (ev_pos (by omega) (ev_pos (by omega) (ev_pos (by omega) ?_)))
      rw [wrap_succ n (by omega), show (dget m (cellKeyF (rd_T78 l (n : Int)))) = dget m (cellKey (cellAt l n)) from rfl, hv]
      exact h1
    · refine Ev.step (f := fun _ => _) (fun k => by simp only [spec_l32Faces.l2]; rfl) (ev_pos (by omega) (ev_pos (by omega) (ev_pos (by omega) ?_)))
      rw [wrap_succ n (by omega)]
      exact h2
theorem faces0 (l : List S78) (hs : Shape l) (M : Nat) : ∀ (t : Nat) (ids : List Int) (dice : List S71) (m : List ((Int × Int) × (Int × Int × Int))), 2 * left l.length ids + (ids.length - t) ≤ M → t ≤ ids.length → BW l ids dice t 0 → Sim l ids dice m →
    ∃ F, (∃ ids' dice', BW l ids' dice' ids'.length 0 ∧ dice'.length = l.length ∧ F = dice'.map (fun s => s.f0)) ∧ F.length = l.length ∧ Ev (fun k => impl_faces.l0 k l m (cellsOf l ids) t) F ∧ Ev (fun k => spec_l32Faces.l0 k l ids dice t) F := by
  have hN := hs.le
  induction M with
  | zero =>
    intro t ids dice m hM ht hW hS
    have hfew := hS.few
    obtain ⟨h1, h2⟩ := out_impl l hs ids dice m hS l.length 0 [] (by omega) rfl
    have hcl : (cellsOf l ids).length = ids.length := List.length_map _
    obtain rfl : t = ids.length := by omega
    refine ⟨_, ⟨ids, dice, hW, hS.len, by simp⟩, ?_, Ev.step (f := fun _ => _) (fun k => by simp only [impl_faces.l0]; rfl) (ev_neg (by omega) h1), Ev.step (f := fun _ => _) (fun k => by simp only [spec_l32Faces.l0]; rfl) (ev_neg (by omega) h2)⟩
    simp [hS.len]
  | succ M ih =>
    intro t ids dice m hM ht hW hS
    have hfew := hS.few
    have hcl : (cellsOf l ids).length = ids.length := List.length_map _
    by_cases e : t = ids.length
    · obtain ⟨h1, h2⟩ := out_impl l hs ids dice m hS l.length 0 [] (by omega) rfl
      subst e
      refine ⟨_, ⟨ids, dice, hW, hS.len, by simp⟩, ?_, Ev.step (f := fun _ => _) (fun k => by simp only [impl_faces.l0]; rfl) (ev_neg (by omega) h1), Ev.step (f := fun _ => _) (fun k => by simp only [spec_l32Faces.l0]; rfl) (ev_neg (by omega) h2)⟩
      simp [hS.len]
    · have hmem := hS.mem _ (getD_mem ids 0 t (by omega))
      obtain ⟨q0, hq0⟩ := Int.eq_ofNat_of_zero_le hmem.1
      obtain ⟨ids', dice', m', h0, h1, h2, h3, h3', h4, h5⟩ := faces1 l hs t q0 (by omega) 4 0 ids dice m rfl (by omega) hq0 hW hS
      obtain ⟨F, g0, g1, g2, g3⟩ := ih (t + 1) ids' dice' m' (by omega) (by omega) (BW.turn _ _ _ h0) h1
      refine ⟨F, g0, g1, ?_, ?_⟩
      · exact Ev.step (f := fun _ => _) (fun k => by simp only [impl_faces.l0]; rfl) (ev_pos (by omega) (h4 F g2))
      · refine Ev.step (f := fun _ => _) (fun k => by simp only [spec_l32Faces.l0]; rfl) (ev_pos (by omega) (ev_pos (by omega) ?_))
        rw [show rd ids (t : Int) = ids.getD t 0 from rfl, hq0]
        exact ev_pos (by omega) (ev_pos (by omega) (h5 F g3))
theorem range_left (n : Nat) (ids : List Int) : left n ids ≤ n := by
  have : left n ids ≤ (List.range n).length := List.countP_le_length
  simpa using this
theorem faces_bothW (l : List S78) (hs : Shape l) : ∃ F, (∃ ids dice, BW l ids dice ids.length 0 ∧ dice.length = l.length ∧ F = dice.map (fun s => s.f0)) ∧ F.length = l.length ∧ Ev (fun k => impl_faces.f k l) F ∧ Ev (fun k => spec_l32Faces.f k l) F := by
  have hN := hs.le
  have hpos := hs.pos
  have hz : ∀ q : Nat, (List.replicate l.length z71).getD q z71 = z71 := fun q => by
    rw [List.getD_eq_getElem?_getD]
    cases h : (List.replicate l.length z71)[q]? with
    | none => rfl
    | some v => exact (List.eq_of_mem_replicate (List.mem_of_getElem? h))
  have hS : Sim l [0] ((List.replicate l.length z71).set 0 ⟨0, 1, 2⟩) [(cellKey (cellAt l 0), (0, 1, 2))] := by
    refine ⟨by simp, fun q hq => ?_, fun q hq hm => ?_, fun q hq hm => ?_, fun p hp => ?_, ?_⟩
    · rw [List.mem_singleton.1 hq]; omega
    · have : q = 0 := by have := List.mem_singleton.1 hm; omega
      subst this
      rw [dget, if_pos rfl, getD_setD _ _ _ _ (by simp; omega), if_pos rfl]
      rfl
    · have e : q ≠ 0 := fun h => hm (by rw [h]; simp)
      rw [dget, if_neg (fun h => e (hs.apart q 0 hq (by omega) h)), dget, getD_setD _ _ _ _ (by simp; omega), if_neg e]
      exact ⟨rfl, hz q⟩
    · rw [dget, if_neg (fun h => hp 0 (by omega) h.symm)]
      rfl
    · have := range_left l.length [0]
      simp only [List.length_cons, List.length_nil]
      omega
  obtain ⟨F, h0, h1, h2, h3⟩ := faces0 l hs _ 0 [0] _ _ (Nat.le_refl _) (by simp) BW.start hS
  refine ⟨F, h0, h1, ev_pos ⟨⟨by omega, by omega⟩, fun c hc => ?_⟩ h2, ?_⟩
  · obtain ⟨i, hi, rfl⟩ := List.getElem_of_mem hc
    have := hs.near i hi
    have e : l[i] = cellAt l i := by rw [show cellAt l i = l.getD i z78 from rfl, List.getD_eq_getElem?_getD, List.getElem?_eq_getElem hi]; rfl
    rw [e]
    exact ⟨⟨by omega, by omega⟩, by omega, by omega⟩
  · refine ev_pos (by omega) (ev_pos (by simp only [Int.toNat_natCast]; omega) (ev_some rfl (ev_pos (by simp only [Int.toNat_natCast, List.length_replicate]; omega) ?_)))
    rw [Int.toNat_natCast]
    exact h3
/-! Permutations: both sides agree on every list of at most 64 numbers. -/
def PermB (F : List Int) : Prop := ∀ i : Nat, i < F.length → (0 ≤ F.getD i 0 ∧ F.getD i 0 < (F.length : Int)) ∧ ∀ j : Nat, j < F.length → i ≠ j → F.getD i 0 ≠ F.getD j 0
theorem perm_loop (F : List Int) (hF : F.length ≤ 64) (d : Nat) : ∀ (n : Nat) (s1 s2 : List Bool), n + d = F.length → s1.length = 64 → s2.length = F.length → (∀ q : Nat, q < F.length → s1.getD q false = s2.getD q false) →
    ∃ b, Ev (fun k => impl_IsPermutation.l0 k F s1 n) b ∧ Ev (fun k => spec_IsPermutation.l0 k F s2 n) b ∧ (b = true → ∀ i : Nat, n ≤ i → i < F.length → (0 ≤ F.getD i 0 ∧ F.getD i 0 < (F.length : Int) ∧ s1.getD (F.getD i 0).toNat false = false) ∧ ∀ j : Nat, i < j → j < F.length → F.getD i 0 ≠ F.getD j 0) := by
  induction d with
  | zero =>
    intro n s1 s2 hn h1 h2 h3
    refine ⟨true, Ev.step (f := fun _ => _) (fun k => by simp only [impl_IsPermutation.l0]; rfl) (ev_neg (by omega) (ev_const rfl)), Ev.step (f := fun _ => _) (fun k => by simp only [spec_IsPermutation.l0]; rfl) (ev_neg (by omega) (ev_const ?_)), fun _ i h1 h2 => by omega⟩
    rw [decide_eq_true (by omega)]
  | succ d ih =>
    intro n s1 s2 hn h1 h2 h3
    have hw : wrap64 ((F.length : Int) - 1) = (F.length : Int) - 1 := wrap_id _ (by omega) (by omega)
    by_cases hr : 0 ≤ rd F (n : Int) ∧ rd F (n : Int) ≤ (F.length : Int) - 1
    · obtain ⟨v, hv⟩ := Int.eq_ofNat_of_zero_le hr.1
      have hin : (decide ((0 : Int) ≤ rd F (n : Int)) && decide (rd F (n : Int) ≤ wrap64 ((F.length : Int) - 1))) = true := by rw [hw, decide_eq_true hr.1, decide_eq_true hr.2]; rfl
      have hv' : v < F.length := by omega
      cases hs : s1.getD v false with
      | true =>
        refine ⟨false, ?_, ?_, fun h => by cases h⟩
        · refine Ev.step (f := fun _ => _) (fun k => by simp only [impl_IsPermutation.l0]; rfl) ?_
          exact ev_pos (by omega) (ev_pos (by omega) (ev_some ((within_valC _ _ _).trans (congrArg some hin)) (ev_pos rfl (ev_pos ⟨hr.1, by omega⟩ (ev_pos (by rw [hv, Int.toNat_natCast]; exact hs) (ev_const rfl))))))
        · refine Ev.step (f := fun _ => _) (fun k => by simp only [spec_IsPermutation.l0]; rfl) ?_
          exact ev_pos (by omega) (ev_pos (by omega) (ev_some ((in_valC _ _ _).trans (congrArg some hin)) (ev_pos rfl (ev_pos hr.1 (ev_pos (by omega) (ev_pos (by rw [hv]; exact (h3 v hv').symm.trans hs) (ev_const rfl)))))))
      | false =>
        obtain ⟨b, g1, g2, g3⟩ := ih (n + 1) (s1.set v true) (s2.set v true) (by omega) (by simpa using h1) (by simpa using h2) (fun q hq => by
          rw [List.getD_eq_getElem?_getD, List.getD_eq_getElem?_getD, List.getElem?_set, List.getElem?_set]
          by_cases e : v = q
          · subst e; simp [h1, h2, hv', show v < 64 by omega]
          · rw [if_neg e, if_neg e]
            have := h3 q hq
            rw [List.getD_eq_getElem?_getD, List.getD_eq_getElem?_getD] at this
            exact this)
        have hF : F.getD n 0 = (v : Int) := hv
        refine ⟨b, ?_, ?_, fun hb i hi hi2 => ?_⟩
        · refine Ev.step (f := fun _ => _) (fun k => by simp only [impl_IsPermutation.l0]; rfl) ?_
          refine ev_pos (by omega) (ev_pos (by omega) (ev_some ((within_valC _ _ _).trans (congrArg some hin)) (ev_pos rfl (ev_pos ⟨hr.1, by omega⟩ (ev_neg (by rw [hv, Int.toNat_natCast, hs]; simp) ?_)))))
          rw [hv, Int.toNat_natCast, wrap_succ n (by omega)]
          exact g1
        · refine Ev.step (f := fun _ => _) (fun k => by simp only [spec_IsPermutation.l0]; rfl) ?_
          refine ev_pos (by omega) (ev_pos (by omega) (ev_some ((in_valC _ _ _).trans (congrArg some hin)) (ev_pos rfl (ev_pos hr.1 (ev_pos (by omega) (ev_neg (by rw [hv, show rdOf false s2 (v : Int) = s2.getD v false from rfl, ← h3 v hv', hs]; simp) ?_))))))
          rw [hv, Int.toNat_natCast, wrap_succ n (by omega)]
          exact g2
        · have hset : ∀ q : Nat, (s1.set v true).getD q false = false → q ≠ v ∧ s1.getD q false = false := fun q hq => by
            rw [List.getD_eq_getElem?_getD, List.getElem?_set] at hq
            by_cases e : v = q
            · subst e; simp [h1, show v < 64 by omega] at hq
            · rw [if_neg e] at hq
              exact ⟨fun x => e x.symm, by rw [List.getD_eq_getElem?_getD]; exact hq⟩
          by_cases e : i = n
          · subst e
            refine ⟨⟨by omega, by omega, by rw [hF, Int.toNat_natCast]; exact hs⟩, fun j hj hj2 hc => ?_⟩
            obtain ⟨⟨a1, a2, a3⟩, _⟩ := g3 hb j (by omega) hj2
            exact (hset _ a3).1 (by rw [← hc, hF, Int.toNat_natCast])
          · obtain ⟨⟨a1, a2, a3⟩, a4⟩ := g3 hb i (by omega) hi2
            exact ⟨⟨a1, a2, (hset _ a3).2⟩, a4⟩
    · have hin : (decide ((0 : Int) ≤ rd F (n : Int)) && decide (rd F (n : Int) ≤ wrap64 ((F.length : Int) - 1))) = false := by
        rw [hw]
        cases h : (decide ((0 : Int) ≤ rd F (n : Int)) && decide (rd F (n : Int) ≤ (F.length : Int) - 1)) with
        | false => rfl
        | true =>
          simp only [Bool.and_eq_true, decide_eq_true_eq] at h
          exact absurd h hr
      refine ⟨false, ?_, ?_, fun h => by cases h⟩
      · refine Ev.step (f := fun _ => _) (fun k => by simp only [impl_IsPermutation.l0]; rfl) ?_
        exact ev_pos (by omega) (ev_pos (by omega) (ev_some ((within_valC _ _ _).trans (congrArg some hin)) (ev_neg (by simp) (ev_const rfl))))
      · refine Ev.step (f := fun _ => _) (fun k => by simp only [spec_IsPermutation.l0]; rfl) ?_
        exact ev_pos (by omega) (ev_pos (by omega) (ev_some ((in_valC _ _ _).trans (congrArg some hin)) (ev_neg (by simp) (ev_const rfl))))
theorem perm_both (F : List Int) (hF : F.length ≤ 64) : ∃ b, Ev (fun k => impl_IsPermutation.f k F) b ∧ Ev (fun k => spec_IsPermutation.f k F) b ∧ (b = true → PermB F) := by
  obtain ⟨b, h1, h2, h3⟩ := perm_loop F hF F.length 0 (List.replicate 64 false) (List.replicate F.length false) (by omega) (by simp) (by simp) (fun q hq => by
    rw [List.getD_eq_getElem?_getD, List.getD_eq_getElem?_getD, List.getElem?_replicate, List.getElem?_replicate, if_pos (by omega), if_pos hq])
  refine ⟨b, ev_neg (by omega) h1, ev_pos (by omega) (ev_pos (by simp only [Int.toNat_natCast]; omega) (by rw [Int.toNat_natCast]; exact h2)), fun hb i hi => ⟨⟨(h3 hb i (by omega) hi).1.1, (h3 hb i (by omega) hi).1.2.1⟩, fun j hj hij hc => ?_⟩⟩
  rcases Nat.lt_or_gt_of_ne hij with h | h
  · exact (h3 hb i (by omega) hi).2 j h hj hc
  · exact (h3 hb j (by omega) hj).2 i h hi hc.symm
/-! Least and greatest coordinates, the moved cells, sizes: both sides. -/
def minF (f : S78 → Int) : List S78 → Int → Int
  | [], x => x
  | c :: r, x => minF f r (mn x (f c))
def minX (l : List S78) : Int := minF (·.f0) l (cellAt l 0).f0
def minY (l : List S78) : Int := minF (·.f1) l (cellAt l 0).f1
def movL (a b : Int) (l : List S78) : List S78 := l.map fun c => ⟨wrap64 (c.f0 + a), wrap64 (c.f1 + b)⟩
def normL (l : List S78) : List S78 := movL (wrap64 (-minX l)) (wrap64 (-minY l)) l
theorem minF_le (f : S78 → Int) : ∀ (l : List S78) (x : Int), minF f l x ≤ x ∧ ∀ c ∈ l, minF f l x ≤ f c
  | [], x => ⟨Int.le_refl _, by simp⟩
  | c :: r, x => by
    have h := minF_le f r (mn x (f c))
    have h1 : mn x (f c) ≤ x ∧ mn x (f c) ≤ f c := by unfold mn; split <;> omega
    rw [minF]
    refine ⟨by omega, fun d hd => ?_⟩
    rcases List.mem_cons.1 hd with rfl | hd
    · omega
    · exact h.2 d hd
theorem minF_in (f : S78 → Int) (lo hi : Int) : ∀ (l : List S78) (x : Int), (lo ≤ x ∧ x ≤ hi) → (∀ c ∈ l, lo ≤ f c ∧ f c ≤ hi) → lo ≤ minF f l x ∧ minF f l x ≤ hi
  | [], x, h, _ => h
  | c :: r, x, h, hc => by
    have h1 := hc c (by simp)
    exact minF_in f lo hi r _ (by unfold mn; split <;> omega) (fun d hd => hc d (by simp [hd]))
theorem mn_self (x : Int) : mn x x = x := by unfold mn; split <;> omega
theorem cell_mem (l : List S78) (i : Nat) (h : i < l.length) : cellAt l i ∈ l := getD_mem l _ i h
theorem least_loop (l : List S78) (hm : l.length ≤ maxLen) (d : Nat) : ∀ (n : Nat) (x y : Int), n + d = l.length → Ev (fun k => spec_l02Least.l0 k l x y n) (minF (·.f0) (l.drop n) x, minF (·.f1) (l.drop n) y) := by
  unfold maxLen at hm
  induction d with
  | zero =>
    intro n x y hd
    refine Ev.step (f := fun _ => _) (fun k => by simp only [spec_l02Least.l0]; rfl) (ev_neg (by omega) (ev_const ?_))
    rw [List.drop_of_length_le (by omega)]; rfl
  | succ d ih =>
    intro n x y hd
    refine Ev.step (f := fun _ => _) (fun k => by simp only [spec_l02Least.l0]; rfl) (ev_pos (by omega) (ev_pos (by omega) ?_))
    rw [wrap_succ n (by omega), drop_cons l z78 n (by omega), minF, minF]
    exact ih (n + 1) _ _ (by omega)
theorem least_val (l : List S78) (hm : l.length ≤ maxLen) (h1 : 1 ≤ l.length) : Ev (fun k => spec_l02Least.f k l) (minX l, minY l) := by
  refine ev_pos (by omega) ?_
  have h := least_loop l hm (l.length - 1) 1 (cellAt l 0).f0 (cellAt l 0).f1 (by omega)
  unfold minX minY
  have e : l = cellAt l 0 :: l.drop 1 := by
    have := drop_cons l z78 0 (by omega)
    simpa using this
  have key : ∀ f : S78 → Int, minF f l (f (cellAt l 0)) = minF f (l.drop 1) (f (cellAt l 0)) := fun f => by
    conv => lhs; rw [e, minF]
    rw [show cellAt (cellAt l 0 :: l.drop 1) 0 = cellAt l 0 from rfl, mn_self]
  rw [key (·.f0), key (·.f1)]
  exact h
theorem corner_loop (l : List S78) (hm : l.length ≤ maxLen) (d : Nat) : ∀ (n : Nat) (x y : Int), n + d = l.length → Ev (fun k => impl_corner.l0 k l (l.length : Int) n x y) (minF (·.f0) (l.drop n) x, minF (·.f1) (l.drop n) y) := by
  unfold maxLen at hm
  induction d with
  | zero =>
    intro n x y hd
    refine Ev.step (f := fun _ => _) (fun k => by simp only [impl_corner.l0]; rfl) (ev_neg (by omega) (ev_const ?_))
    rw [List.drop_of_length_le (by omega)]; rfl
  | succ d ih =>
    intro n x y hd
    refine Ev.step (f := fun _ => _) (fun k => by simp only [impl_corner.l0]; rfl) (ev_pos (by omega) (ev_pos (by omega) (ev_pos (by omega) ?_)))
    rw [wrap_succ n (by omega), drop_cons l z78 n (by omega), minF, minF]
    exact ih (n + 1) _ _ (by omega)
theorem corner_val (l : List S78) (hm : l.length ≤ maxLen) (h1 : 1 ≤ l.length) : Ev (fun k => impl_corner.f k l) (minX l, minY l) :=
  ev_pos (by omega) (corner_loop l hm l.length 0 _ _ (by omega))
theorem smove_loop (l : List S78) (a b : Int) (hm : l.length ≤ maxLen) (h8 : l.length ≤ 1000000) (d : Nat) : ∀ (n : Nat) (out : List S78), n + d = l.length → out.length = n → Ev (fun k => spec_l02Move.l0 k l a b out n) (out ++ movL a b (l.drop n)) := by
  unfold maxLen at hm
  induction d with
  | zero =>
    intro n out hd ho
    refine Ev.step (f := fun _ => _) (fun k => by simp only [spec_l02Move.l0]; rfl) (ev_neg (by omega) (ev_const ?_))
    rw [List.drop_of_length_le (by omega)]; simp [movL]
  | succ d ih =>
    intro n out hd ho
    refine Ev.step (f := fun _ => _) (fun k => by simp only [spec_l02Move.l0]; rfl) (ev_pos (by omega) (ev_pos (by omega) (ev_pos (by omega) ?_)))
    rw [wrap_succ n (by omega)]
    refine ev_eq (ih (n + 1) _ (by omega) (by simp [ho])) ?_
    rw [drop_cons l z78 n (by omega)]
    simp [movL]; exact ⟨rfl, rfl⟩
theorem imove_loop (l : List S78) (a b : Int) (hm : l.length ≤ maxLen) (h8 : l.length ≤ 1000000) (d : Nat) : ∀ (n : Nat) (out : List S78), n + d = l.length → out.length = n → Ev (fun k => impl_moved.l0 k a b out l (l.length : Int) n) (out ++ movL a b (l.drop n)) := by
  unfold maxLen at hm
  induction d with
  | zero =>
    intro n out hd ho
    refine Ev.step (f := fun _ => _) (fun k => by simp only [impl_moved.l0]; rfl) (ev_neg (by omega) (ev_const ?_))
    rw [List.drop_of_length_le (by omega)]; simp [movL]
  | succ d ih =>
    intro n out hd ho
    refine Ev.step (f := fun _ => _) (fun k => by simp only [impl_moved.l0]; rfl) (ev_pos (by omega) (ev_pos (by omega) (ev_pos (by omega) (ev_pos (by omega) ?_))))
    rw [wrap_succ n (by omega)]
    refine ev_eq (ih (n + 1) _ (by omega) (by simp [ho])) ?_
    rw [drop_cons l z78 n (by omega)]
    simp [movL]; exact ⟨rfl, rfl⟩
theorem snormal_val (l : List S78) (hm : l.length ≤ 1000000) (h1 : 1 ≤ l.length) : Ev (fun k => spec_l02Normal.f k l) (normL l) := by
  have hm' : l.length ≤ maxLen := by unfold maxLen; omega
  refine Ev.bind (least_val l hm' h1) (Ev.bind (a := normL l) ?_ (ev_const rfl))
  exact ev_eq (smove_loop l _ _ hm' hm l.length 0 [] (by omega) rfl) (by simp [normL])
theorem inormal_val (l : List S78) (hm : l.length ≤ 1000000) (h1 : 1 ≤ l.length) : Ev (fun k => impl_normal.f k l) (normL l) := by
  have hm' : l.length ≤ maxLen := by unfold maxLen; omega
  refine Ev.bind (corner_val l hm' h1) (Ev.bind (a := normL l) ?_ (ev_const rfl))
  refine ev_pos (by omega) (ev_pos (by omega) ?_)
  exact ev_eq (imove_loop l _ _ hm' hm l.length 0 [] (by omega) rfl) (by simp [normL])
theorem normL_len (l : List S78) : (normL l).length = l.length := by simp [normL, movL]
/-! What a shape is: at most 40 cells, near the origin, in order. -/
structure Shp (l : List S78) : Prop where
  pos : 1 ≤ l.length
  le : l.length ≤ 40
  near : ∀ c ∈ l, (-100 ≤ c.f0 ∧ c.f0 ≤ 100) ∧ (-100 ≤ c.f1 ∧ c.f1 ≤ 100)
  rise : ∀ i j, i < j → j < l.length → lessB (cellAt l i) (cellAt l j) = true
theorem shapeFrom_iff (l : List S78) : ∀ d n : Nat, shapeFrom l d n = true ↔ ((∀ i, n ≤ i → i < n + d → okAtB l i = true) ∧ 1 ≤ l.length ∧ l.length ≤ 40)
  | 0, n => by
    simp only [shapeFrom, Bool.and_eq_true, decide_eq_true_eq]
    exact ⟨fun h => ⟨fun i h1 h2 => by omega, h.1, h.2⟩, fun h => h.2⟩
  | d + 1, n => by
    simp only [shapeFrom, Bool.and_eq_true]
    rw [shapeFrom_iff l d (n + 1)]
    constructor
    · intro h
      refine ⟨fun i h3 h4 => ?_, h.2.2⟩
      by_cases e : i = n
      · subst e; exact h.1
      · exact h.2.1 i (by omega) (by omega)
    · intro h
      exact ⟨h.1 n (Nat.le_refl _) (by omega), fun i h3 h4 => h.1 i (by omega) (by omega), h.2⟩
theorem shp_iff (l : List S78) : isShapeB l = true ↔ Shp l := by
  unfold isShapeB
  rw [shapeFrom_iff]
  constructor
  · rintro ⟨h1, h2, h3⟩
    have hok : ∀ i, i < l.length → okAtB l i = true := fun i hi => h1 i (by omega) (by omega)
    have hless : ∀ j i, i < j → j < l.length → lessB (cellAt l i) (cellAt l j) = true := by
      intro j
      induction j with
      | zero => intro i hi; omega
      | succ j ih =>
        intro i hi hj
        have h4 := hok (j + 1) hj
        simp only [okAtB, Bool.and_eq_true, Bool.or_eq_true, decide_eq_true_eq, Nat.add_sub_cancel] at h4
        have h5 : lessB (cellAt l j) (cellAt l (j + 1)) = true := by
          rcases h4.2 with h6 | h6
          · omega
          · exact h6
        by_cases e : i = j
        · subst e; exact h5
        · have h6 := ih i (by omega) (by omega)
          rw [less_iff] at *
          omega
    refine ⟨h2, h3, fun c hc => ?_, fun i j => hless j i⟩
    obtain ⟨i, hi, rfl⟩ := List.getElem_of_mem hc
    have h4 := hok i hi
    have e : cellAt l i = l[i] := by show l.getD i _ = _; rw [List.getD_eq_getElem?_getD, List.getElem?_eq_getElem hi, Option.getD_some]
    rw [okAtB, e] at h4
    simp only [inR, Bool.and_eq_true, decide_eq_true_eq] at h4
    exact ⟨⟨h4.1.1.1, h4.1.1.2⟩, h4.1.2.1, h4.1.2.2⟩
  · intro h
    refine ⟨fun i _ hi => ?_, h.pos, h.le⟩
    have hn := h.near _ (cell_mem l i (by omega))
    unfold okAtB inR
    rw [decide_eq_true hn.1.1, decide_eq_true hn.1.2, decide_eq_true hn.2.1, decide_eq_true hn.2.2]
    by_cases h0 : i = 0
    · simp [h0]
    · rw [h.rise (i - 1) i (by omega) (by omega)]; simp
theorem Shp.apart {l : List S78} (h : Shp l) (i j : Nat) (hi : i < l.length) (hj : j < l.length) (e0 : (cellAt l i).f0 = (cellAt l j).f0) (e1 : (cellAt l i).f1 = (cellAt l j).f1) : i = j := by
  rcases Nat.lt_trichotomy i j with h4 | h4 | h4
  · have := (less_iff _ _).1 (h.rise i j h4 hj)
    omega
  · exact h4
  · have := (less_iff _ _).1 (h.rise j i h4 hi)
    omega
/-! Sorted cells: one row only, the library's and the reference's. -/
def leC (x y : S78) : Prop := ltC y x = false
theorem leC_iff (x y : S78) : leC x y ↔ x.f1 < y.f1 ∨ (x.f1 = y.f1 ∧ x.f0 ≤ y.f0) := by
  unfold leC
  rw [Bool.eq_false_iff, Ne, ltC_iff]
  omega
theorem leC_anti (x y : S78) (h1 : leC x y) (h2 : leC y x) : x = y := ltC_total x y (by rw [cfC_lt]; exact h2) (by rw [cfC_lt]; exact h1)
theorem sortC_perm (l : List S78) : (sortC l).Perm l := List.mergeSort_perm l _
theorem sortC_sorted (l : List S78) : (sortC l).Pairwise leC := by
  refine (List.pairwise_mergeSort (le := fun x y => !(ltOf cfC) y x) (fun a b c h1 h2 => ?_) (fun a b => ?_) l).imp (fun {a b} h => ?_)
  · simp only [cfC_lt, Bool.not_eq_true'] at h1 h2 ⊢
    have h1' := (leC_iff a b).1 h1
    have h2' := (leC_iff b c).1 h2
    exact (leC_iff a c).2 (by omega)
  · simp only [cfC_lt, Bool.or_eq_true, Bool.not_eq_true']
    have e1 := leC_iff a b
    have e2 := leC_iff b a
    unfold leC at e1 e2
    rw [e1, e2]
    omega
  · have h2 : ltC b a = false := by simpa [cfC_lt] using h
    exact h2
theorem sort_unique {l l' : List S78} (hp : l.Perm l') (h : l.Pairwise leC) (h' : l'.Pairwise leC) : l = l' := List.Perm.eq_of_pairwise (fun a b _ _ => leC_anti a b) h h' hp
theorem sortC_len (l : List S78) : (sortC l).length = l.length := (sortC_perm l).length_eq
def insC (c : S78) : List S78 → List S78
  | [] => [c]
  | x :: r => if ltC c x = true then c :: x :: r else x :: insC c r
theorem insC_perm (c : S78) : ∀ l : List S78, (insC c l).Perm (c :: l)
  | [] => List.Perm.refl _
  | x :: r => by
    rw [insC]
    split
    · exact List.Perm.refl _
    · exact ((insC_perm c r).cons x).trans (List.Perm.swap c x r)
theorem insC_sorted (c : S78) : ∀ l : List S78, l.Pairwise leC → (insC c l).Pairwise leC
  | [], _ => by simp [insC]
  | x :: r, h => by
    rw [List.pairwise_cons] at h
    rw [insC]
    split
    · rename_i hc
      have hcx := (ltC_iff c x).1 hc
      refine List.pairwise_cons.2 ⟨fun y hy => ?_, List.pairwise_cons.2 h⟩
      rcases List.mem_cons.1 hy with rfl | hy
      · exact (leC_iff _ _).2 (by omega)
      · have := (leC_iff x y).1 (h.1 y hy)
        exact (leC_iff _ _).2 (by omega)
    · rename_i hc
      refine List.pairwise_cons.2 ⟨fun y hy => ?_, insC_sorted c r h.2⟩
      rcases List.mem_cons.1 ((insC_perm c r).mem_iff.1 hy) with rfl | hy
      · simpa [leC] using hc
      · exact h.1 y hy
def insAll : List S78 → List S78 → List S78
  | out, [] => out
  | out, x :: r => insAll (insC x out) r
theorem insAll_perm : ∀ (l out : List S78), (insAll out l).Perm (out ++ l)
  | [], out => by simp [insAll]
  | x :: r, out => by
    rw [insAll]
    refine (insAll_perm r _).trans ?_
    refine ((insC_perm x out).append_right r).trans ?_
    exact List.perm_middle.symm
theorem insAll_sorted : ∀ (l out : List S78), out.Pairwise leC → (insAll out l).Pairwise leC
  | [], _, h => h
  | x :: r, out, h => insAll_sorted r _ (insC_sorted x out h)
theorem insAll_eq (l : List S78) : insAll [] l = sortC l := sort_unique (((insAll_perm l []).trans (by simp)).trans (sortC_perm l).symm) (insAll_sorted l [] List.Pairwise.nil) (sortC_sorted l)
/-! Two arms. -/
theorem ev_iteR {α : Type} {c : Prop} [Decidable c] {A B : Nat → Option α} {a b : α} (hA : c → Ev A a) (hB : ¬ c → Ev B b) : Ev (fun k => if c then A k else B k) (if c then a else b) := by
  by_cases h : c
  · rw [if_pos h]; exact ev_pos h (hA h)
  · rw [if_neg h]; exact ev_neg h (hB h)
/-! Turns of cells, and forms of shapes: both sides. -/
def rot1 (c : S78) : S78 := ⟨wrap64 (-c.f1), c.f0⟩
def rotN : Nat → S78 → S78
  | 0, c => c
  | n + 1, c => rotN n (rot1 c)
def flipC (t : Int) (c : S78) : S78 := if t ≥ 4 then ⟨wrap64 (-c.f0), c.f1⟩ else c
def turnC (t : Int) (c : S78) : S78 := rotN (Int.tmod t 4).toNat (flipC t c)
def isT (t : Int) : Prop := 0 ≤ t ∧ t ≤ 7
instance (t : Int) : Decidable (isT t) := inferInstanceAs (Decidable (_ ∧ _))
theorem tmod4 (t : Int) (h : isT t) : ∃ n : Nat, n ≤ 3 ∧ Int.tmod t 4 = (n : Int) := by
  obtain ⟨h0, h7⟩ := h
  refine ⟨(t % 4).toNat, ?_, ?_⟩
  · omega
  · rw [Int.tmod_eq_emod_of_nonneg h0]; omega
theorem irot_loop (m : Nat) (hm : m ≤ 3) (d : Nat) : ∀ (n : Nat) (c : S78), n + d = m → Ev (fun k => impl_turnCell.l0 k m n c.f0 c.f1) ((rotN d c).f0, (rotN d c).f1) := by
  induction d with
  | zero =>
    intro n c hd
    exact Ev.step (f := fun _ => _) (fun k => by simp only [impl_turnCell.l0]; rfl) (ev_neg (by omega) (ev_const rfl))
  | succ d ih =>
    intro n c hd
    refine Ev.step (f := fun _ => _) (fun k => by simp only [impl_turnCell.l0]; rfl) (ev_pos (by omega) ?_)
    rw [wrap_succ n (by omega)]
    exact ih (n + 1) (rot1 c) (by omega)
theorem srot_loop (d : Nat) (hd : d ≤ 3) : ∀ c : S78, Ev (fun k => spec_l03Turn.l0 k (d : Int) c.f0 c.f1) ((rotN d c).f0, (rotN d c).f1) := by
  induction d with
  | zero =>
    intro c
    exact Ev.step (f := fun _ => _) (fun k => by simp only [spec_l03Turn.l0]; rfl) (ev_neg (by omega) (ev_const rfl))
  | succ d ih =>
    intro c
    refine Ev.step (f := fun _ => _) (fun k => by simp only [spec_l03Turn.l0]; rfl) (ev_pos (by omega) ?_)
    rw [show wrap64 (((d + 1 : Nat) : Int) - 1) = (d : Int) from by rw [wrap_id _ (by omega) (by omega)]; omega]
    exact ih (by omega) (rot1 c)
theorem iturn_val (t : Int) (h : isT t) (c : S78) : Ev (fun k => impl_turnCell.f k c.f0 c.f1 t) ((turnC t c).f0, (turnC t c).f1) := by
  obtain ⟨n, hn, e⟩ := tmod4 t h
  have J : ∀ c : S78, Ev (fun k => impl_turnCell.j0 k t c.f0 c.f1) ((rotN (Int.tmod t 4).toNat c).f0, (rotN (Int.tmod t 4).toNat c).f1) := fun c => by
    refine Ev.step (f := fun _ => _) (fun k => by simp only [impl_turnCell.j0]; rfl) ?_
    rw [e, Int.toNat_natCast]
    exact irot_loop n hn n 0 c (by omega)
  unfold turnC flipC
  by_cases h4 : t ≥ 4
  · rw [if_pos h4]; exact ev_pos h4 (J ⟨wrap64 (-c.f0), c.f1⟩)
  · rw [if_neg h4]; exact ev_neg h4 (J c)
theorem sturn_val (t : Int) (h : isT t) (c : S78) : Ev (fun k => spec_l03Turn.f k c.f0 c.f1 t) ((turnC t c).f0, (turnC t c).f1) := by
  obtain ⟨n, hn, e⟩ := tmod4 t h
  have J : ∀ c : S78, Ev (fun k => spec_l03Turn.j0 k t c.f0 c.f1) ((rotN (Int.tmod t 4).toNat c).f0, (rotN (Int.tmod t 4).toNat c).f1) := fun c => by
    refine Ev.step (f := fun _ => _) (fun k => by simp only [spec_l03Turn.j0]; rfl) ?_
    rw [e, Int.toNat_natCast]
    exact srot_loop n hn c
  unfold turnC flipC
  by_cases h4 : t ≥ 4
  · rw [if_pos h4]; exact ev_pos h4 (J ⟨wrap64 (-c.f0), c.f1⟩)
  · rw [if_neg h4]; exact ev_neg h4 (J c)
/-! The reference's insertion. -/
theorem less_ltC (a b : S78) : lessB a b = ltC a b := by
  rw [Bool.eq_iff_iff, ltC_iff]
  unfold lessB
  simp only [Bool.or_eq_true, Bool.and_eq_true, decide_eq_true_eq]
theorem insert_done (l : List S78) (c : S78) (hl : l.length ≤ 1000) (d : Nat) : ∀ (n : Nat) (out : List S78), n + d = l.length → out.length = n + 1 → Ev (fun k => spec_l02Insert.l0 k l out true n c.f0 c.f1) (out ++ l.drop n) := by
  induction d with
  | zero =>
    intro n out hd ho
    refine Ev.step (f := fun _ => _) (fun k => by simp only [spec_l02Insert.l0]; rfl) (ev_neg (by omega) (ev_pos trivial (ev_const ?_)))
    rw [List.drop_of_length_le (by omega), List.append_nil]
  | succ d ih =>
    intro n out hd ho
    refine Ev.step (f := fun _ => _) (fun k => by simp only [spec_l02Insert.l0]; rfl) (ev_pos (by omega) (ev_pos trivial (ev_pos (by omega) (ev_pos (show out.length < 8796093022208 by omega) ?_))))
    rw [wrap_succ n (by omega)]
    refine ev_eq (ih (n + 1) _ (by omega) (by simp [ho])) ?_
    rw [drop_cons l z78 n (by omega), show rd_T78 l (n : Int) = l.getD n z78 from rfl]
    simp
theorem insert_loop (l : List S78) (c : S78) (hl : l.length ≤ 1000) (d : Nat) : ∀ (n : Nat) (out : List S78), n + d = l.length → out.length = n → Ev (fun k => spec_l02Insert.l0 k l out false n c.f0 c.f1) (out ++ insC c (l.drop n)) := by
  induction d with
  | zero =>
    intro n out hd ho
    refine Ev.step (f := fun _ => _) (fun k => by simp only [spec_l02Insert.l0]; rfl) (ev_neg (by omega) (ev_neg (by decide) (ev_pos (show out.length < 8796093022208 by omega) (ev_const ?_))))
    rw [List.drop_of_length_le (by omega)]; rfl
  | succ d ih =>
    intro n out hd ho
    rw [drop_cons l z78 n (by omega), insC]
    refine Ev.step (f := fun _ => _) (fun k => by simp only [spec_l02Insert.l0]; rfl) (ev_pos (by omega) (ev_neg (by decide) (ev_pos (by omega) (ev_some (less_val _ _ _ _) ?_))))
    rw [show rd_T78 l (n : Int) = l.getD n z78 from rfl, less_ltC]
    by_cases h : ltC c (l.getD n z78) = true
    · rw [if_pos h]
      refine ev_pos h (ev_pos (show out.length < 8796093022208 by omega) (ev_some rfl (ev_pos (by simp; omega) ?_)))
      rw [wrap_succ n (by omega)]
      refine ev_eq (insert_done l c hl d (n + 1) _ (by omega) (by simp [ho])) ?_
      simp
    · rw [if_neg h]
      refine ev_neg h (ev_pos (show out.length < 8796093022208 by omega) ?_)
      rw [wrap_succ n (by omega)]
      refine ev_eq (ih (n + 1) _ (by omega) (by simp [ho])) ?_
      simp
theorem insert_val (l : List S78) (c : S78) (hl : l.length ≤ 1000) : Ev (fun k => spec_l02Insert.f k l c.f0 c.f1) (insC c l) := insert_loop l c hl l.length 0 [] (by omega) rfl
theorem insC_len (c : S78) (l : List S78) : (insC c l).length = l.length + 1 := (insC_perm c l).length_eq
theorem ssort_loop (l : List S78) (hl : l.length ≤ 500) (d : Nat) : ∀ (n : Nat) (out : List S78), n + d = l.length → out.length = n → Ev (fun k => spec_l02Sort.l0 k l out n) (insAll out (l.drop n)) := by
  induction d with
  | zero =>
    intro n out hd ho
    refine Ev.step (f := fun _ => _) (fun k => by simp only [spec_l02Sort.l0]; rfl) (ev_neg (by omega) (ev_const ?_))
    rw [List.drop_of_length_le (by omega)]; rfl
  | succ d ih =>
    intro n out hd ho
    rw [drop_cons l z78 n (by omega), insAll]
    refine Ev.step (f := fun _ => _) (fun k => by simp only [spec_l02Sort.l0]; rfl) (ev_pos (by omega) (ev_pos (by omega) (Ev.bind (insert_val out _ (by omega)) ?_)))
    rw [wrap_succ n (by omega)]
    exact ih (n + 1) _ (by omega) (by rw [insC_len, ho])
theorem ssort_val (l : List S78) (hl : l.length ≤ 500) : Ev (fun k => spec_l02Sort.f k l) (sortC l) := by
  rw [← insAll_eq]
  exact ssort_loop l hl l.length 0 [] (by omega) rfl
def formL (t : Int) (l : List S78) : List S78 := normL (sortC (l.map (turnC t)))
theorem iform_loop (l : List S78) (t : Int) (h : isT t) (h1 : 1 ≤ l.length) (hl : l.length ≤ 500) (d : Nat) : ∀ (n : Nat) (out : List S78), n + d = l.length → out.length = n → Ev (fun k => impl_form.l0 k t out l (l.length : Int) n) (normL (sortC (out ++ (l.drop n).map (turnC t)))) := by
  induction d with
  | zero =>
    intro n out hd ho
    rw [List.drop_of_length_le (by omega), List.map_nil, List.append_nil]
    refine Ev.step (f := fun _ => _) (fun k => by simp only [impl_form.l0]; rfl) (ev_neg (by omega) (ev_some (a := sortC out) ?_ (Ev.bind (inormal_val (sortC out) (by rw [sortC_len]; omega) (by rw [sortC_len]; omega)) (ev_const rfl))))
    unfold impl_sorted.f
    rw [if_pos ⟨by omega, by omega⟩]
  | succ d ih =>
    intro n out hd ho
    refine Ev.step (f := fun _ => _) (fun k => by simp only [impl_form.l0]; rfl) (ev_pos (by omega) (ev_pos (by omega) (ev_pos (by omega) (Ev.bind (iturn_val t h _) (ev_pos (show out.length < 8796093022208 by omega) ?_)))))
    rw [wrap_succ n (by omega)]
    refine ev_eq (ih (n + 1) _ (by omega) (by simp [ho])) ?_
    rw [drop_cons l z78 n (by omega), show rd_T78 l (n : Int) = l.getD n z78 from rfl]
    simp
theorem iform_val (l : List S78) (t : Int) (h : isT t) (h1 : 1 ≤ l.length) (hl : l.length ≤ 500) : Ev (fun k => impl_form.f k l t) (formL t l) :=
  ev_pos (by omega) (ev_pos (by omega) (ev_eq (iform_loop l t h h1 hl l.length 0 [] (by omega) rfl) (by simp [formL])))
theorem sform_loop (l : List S78) (t : Int) (h : isT t) (h1 : 1 ≤ l.length) (hl : l.length ≤ 500) (d : Nat) : ∀ (n : Nat) (out : List S78), n + d = l.length → out.length = n → Ev (fun k => spec_l03Form.l0 k l t out n) (normL (sortC (out ++ (l.drop n).map (turnC t)))) := by
  induction d with
  | zero =>
    intro n out hd ho
    rw [List.drop_of_length_le (by omega), List.map_nil, List.append_nil]
    exact Ev.step (f := fun _ => _) (fun k => by simp only [spec_l03Form.l0]; rfl) (ev_neg (by omega) (Ev.bind (ssort_val out (by omega)) (Ev.bind (snormal_val (sortC out) (by rw [sortC_len]; omega) (by rw [sortC_len]; omega)) (ev_const rfl))))
  | succ d ih =>
    intro n out hd ho
    refine Ev.step (f := fun _ => _) (fun k => by simp only [spec_l03Form.l0]; rfl) (ev_pos (by omega) (ev_pos (by omega) (Ev.bind (sturn_val t h _) (ev_pos (show out.length < 8796093022208 by omega) ?_))))
    rw [wrap_succ n (by omega)]
    refine ev_eq (ih (n + 1) _ (by omega) (by simp [ho])) ?_
    rw [drop_cons l z78 n (by omega), show rd_T78 l (n : Int) = l.getD n z78 from rfl]
    simp
theorem sform_val (l : List S78) (t : Int) (h : isT t) (h1 : 1 ≤ l.length) (hl : l.length ≤ 500) : Ev (fun k => spec_l03Form.f k l t) (formL t l) :=
  ev_eq (sform_loop l t h h1 hl l.length 0 [] (by omega) rfl) (by simp [formL])
def codeS (l : List S78) : Int := if isShapeB l = true then (if isShapeB (normL l) = true then 0 else 3) else 1
theorem icodeS_val (l : List S78) (hm : l.length ≤ maxLen) : Ev (fun k => impl_shapeCode.f k l) (codeS l) := by
  unfold codeS
  refine Ev.bind (impl_shape_val l hm) (ev_iteR (fun h => ?_) (fun _ => ev_const rfl))
  have hs := (shp_iff l).1 h
  exact Ev.bind (inormal_val l (by have := hs.le; omega) hs.pos) (Ev.bind (impl_shape_val (normL l) (by rw [normL_len]; exact hm)) (ev_iteR (fun _ => ev_const rfl) (fun _ => ev_const rfl)))
theorem isTurn_val (t : Int) : impl_isTurn.f t = some (decide (isT t)) := by
  unfold impl_isTurn.f
  rw [within_valC]
  simp only [Option.bind_some]
  congr 1
  rw [Bool.eq_iff_iff, decide_eq_true_iff (p := isT t), Bool.and_eq_true, decide_eq_true_iff, decide_eq_true_iff]
  exact Iff.rfl
def turnR (l : List S78) (t : Int) : List S78 × Int := if isShapeB l = true then (if isT t then (if codeS l = 0 then (formL t l, 0) else ([], codeS l)) else ([], 2)) else ([], 1)
theorem iturnS_val (l : List S78) (hm : l.length ≤ maxLen) (t : Int) : Ev (fun k => impl_TurnShape.f k l t) (turnR l t) := by
  unfold turnR
  refine Ev.bind (impl_shape_val l hm) (ev_iteR (fun h => ?_) (fun _ => ev_const rfl))
  have hs := (shp_iff l).1 h
  refine ev_some (isTurn_val t) ?_
  by_cases ht : isT t
  · rw [if_pos ht]
    refine ev_pos (decide_eq_true ht) (Ev.bind (icodeS_val l hm) (ev_iteR (fun _ => ?_) (fun _ => ev_const rfl)))
    exact Ev.bind (iform_val l t ht hs.pos (by have := hs.le; omega)) (ev_const rfl)
  · rw [if_neg ht]
    exact ev_neg (by simpa using ht) (ev_const rfl)
/-! Turning, without overflow: eight matrices; they compose; sorting and norming do not mind. -/
def nearC (b : Int) (l : List S78) : Prop := ∀ c ∈ l, (-b ≤ c.f0 ∧ c.f0 ≤ b) ∧ (-b ≤ c.f1 ∧ c.f1 ≤ b)
def tI (t : Int) (c : S78) : S78 := if t = 0 then c else if t = 1 then ⟨-c.f1, c.f0⟩ else if t = 2 then ⟨-c.f0, -c.f1⟩ else if t = 3 then ⟨c.f1, -c.f0⟩ else if t = 4 then ⟨-c.f0, c.f1⟩ else if t = 5 then ⟨-c.f1, -c.f0⟩ else if t = 6 then ⟨c.f0, -c.f1⟩ else ⟨c.f1, c.f0⟩
theorem isT_cases {t : Int} (h : isT t) : t = 0 ∨ t = 1 ∨ t = 2 ∨ t = 3 ∨ t = 4 ∨ t = 5 ∨ t = 6 ∨ t = 7 := by
  obtain ⟨h0, h7⟩ := h
  omega
theorem neg_wrap (x : Int) (h : -1000000 ≤ x ∧ x ≤ 1000000) : wrap64 (-x) = -x := wrap_id _ (by omega) (by omega)
theorem turnC_tI (t : Int) (h : isT t) (c : S78) (h0 : -1000000 ≤ c.f0 ∧ c.f0 ≤ 1000000) (h1 : -1000000 ≤ c.f1 ∧ c.f1 ≤ 1000000) : turnC t c = tI t c := by
  obtain ⟨x, y⟩ := c
  simp only at h0 h1
  have e0 := neg_wrap x h0
  have e1 := neg_wrap y h1
  have e2 := neg_wrap (-x) (by omega)
  have e3 := neg_wrap (-y) (by omega)
  rw [Int.neg_neg] at e2 e3
  rcases isT_cases h with rfl | rfl | rfl | rfl | rfl | rfl | rfl | rfl
  · rfl
  · show (⟨wrap64 (-y), x⟩ : S78) = ⟨-y, x⟩; rw [e1]
  · show (⟨wrap64 (-x), wrap64 (-y)⟩ : S78) = ⟨-x, -y⟩; rw [e0, e1]
  · show (⟨wrap64 (-wrap64 (-y)), wrap64 (-x)⟩ : S78) = ⟨y, -x⟩; rw [e0, e1, Int.neg_neg, wrap_id y (by omega) (by omega)]
  · show (⟨wrap64 (-x), y⟩ : S78) = ⟨-x, y⟩; rw [e0]
  · show (⟨wrap64 (-y), wrap64 (-x)⟩ : S78) = ⟨-y, -x⟩; rw [e0, e1]
  · show (⟨wrap64 (-wrap64 (-x)), wrap64 (-y)⟩ : S78) = ⟨x, -y⟩; rw [e0, e1, Int.neg_neg, wrap_id x (by omega) (by omega)]
  · show (⟨wrap64 (-wrap64 (-y)), wrap64 (-wrap64 (-x))⟩ : S78) = ⟨y, x⟩; rw [e0, e1, Int.neg_neg, Int.neg_neg, wrap_id x (by omega) (by omega), wrap_id y (by omega) (by omega)]
theorem tI_inj (t : Int) (h : isT t) (c d : S78) (e : tI t c = tI t d) : c = d := by
  obtain ⟨x, y⟩ := c
  obtain ⟨v, w⟩ := d
  rcases isT_cases h with rfl | rfl | rfl | rfl | rfl | rfl | rfl | rfl <;> simp [tI] at e ⊢ <;> omega
theorem tI_near (t : Int) (h : isT t) (b : Int) (l : List S78) (hl : nearC b l) : nearC b (l.map (tI t)) := by
  intro d hd
  obtain ⟨c, hc, rfl⟩ := List.mem_map.1 hd
  have := hl c hc
  rcases isT_cases h with rfl | rfl | rfl | rfl | rfl | rfl | rfl | rfl <;> simp [tI] <;> omega
def subC (u c : S78) : S78 := ⟨c.f0 - u.f0, c.f1 - u.f1⟩
def cornC (l : List S78) : S78 := ⟨minX l, minY l⟩
theorem near_corn (b : Int) (l : List S78) (h1 : 1 ≤ l.length) (h : nearC b l) : (-b ≤ minX l ∧ minX l ≤ b) ∧ (-b ≤ minY l ∧ minY l ≤ b) := by
  have h0 := h _ (cell_mem l 0 h1)
  exact ⟨minF_in _ _ _ l _ h0.1 (fun c hc => (h c hc).1), minF_in _ _ _ l _ h0.2 (fun c hc => (h c hc).2)⟩
theorem normL_sub (l : List S78) (h1 : 1 ≤ l.length) (h : nearC 1000000 l) : normL l = l.map (subC (cornC l)) := by
  have hl := near_corn _ l h1 h
  unfold normL movL
  refine List.map_congr_left (fun c hc => ?_)
  have hn := h c hc
  rw [wrap_id (-minX l) (by omega) (by omega), wrap_id (-minY l) (by omega) (by omega), wrap_id _ (by omega) (by omega), wrap_id _ (by omega) (by omega)]
  unfold subC cornC
  congr 1 <;> (simp only; omega)
theorem minF_sub (f g : S78 → Int) (m : Int) (u : S78) (hf : ∀ c, f (subC u c) = f c - m) : ∀ (l : List S78) (x : Int), minF f (l.map (subC u)) (x - m) = minF f l x - m
  | [], x => rfl
  | c :: r, x => by
    rw [List.map_cons, minF, minF, hf, ← minF_sub f g m u hf r]
    congr 1
    unfold mn
    split <;> split <;> omega
theorem corn_sub (u : S78) (l : List S78) (h1 : 1 ≤ l.length) : cornC (l.map (subC u)) = subC u (cornC l) := by
  have e : cellAt (l.map (subC u)) 0 = subC u (cellAt l 0) := by
    cases l with
    | nil => simp at h1
    | cons c r => rfl
  unfold cornC minX minY
  rw [e]
  show _ = (⟨minF (·.f0) l (cellAt l 0).f0 - u.f0, minF (·.f1) l (cellAt l 0).f1 - u.f1⟩ : S78)
  rw [← minF_sub (·.f0) (·.f0) u.f0 u (fun _ => rfl), ← minF_sub (·.f1) (·.f1) u.f1 u (fun _ => rfl)]
  rfl
theorem sub_sub (u c d : S78) : subC (subC u c) (subC u d) = subC c d := by
  unfold subC
  congr 1 <;> (simp only; omega)
theorem norm_moved (u : S78) (l : List S78) (h1 : 1 ≤ l.length) : (l.map (subC u)).map (subC (cornC (l.map (subC u)))) = l.map (subC (cornC l)) := by
  rw [corn_sub u l h1, List.map_map]
  exact List.map_congr_left (fun c _ => sub_sub u (cornC l) c)
theorem near_perm {b : Int} {l l' : List S78} (h : l.Perm l') (hl : nearC b l') : nearC b l := fun c hc => hl c (h.mem_iff.1 hc)
theorem map_turn (t : Int) (h : isT t) (l : List S78) (hl : nearC 1000000 l) : l.map (turnC t) = l.map (tI t) := List.map_congr_left (fun c hc => turnC_tI t h c (hl c hc).1 (hl c hc).2)
theorem formL_eq (t : Int) (h : isT t) (l : List S78) (h1 : 1 ≤ l.length) (hl : nearC 1000000 l) : formL t l = (sortC (l.map (tI t))).map (subC (cornC (sortC (l.map (tI t))))) := by
  unfold formL
  rw [map_turn t h l hl]
  exact normL_sub _ (by rw [sortC_len]; simpa using h1) (near_perm (sortC_perm _) (tI_near t h _ l hl))
/-! Forms are shapes in normal form. -/
theorem Shp.nodup {l : List S78} (h : Shp l) : l.Nodup := by
  rw [List.nodup_iff_pairwise_ne, List.pairwise_iff_getElem]
  intro i j hi hj hij e
  have := (less_iff _ _).1 (h.rise i j hij hj)
  have e1 : cellAt l i = l[i] := by show l.getD i _ = _; rw [List.getD_eq_getElem?_getD, List.getElem?_eq_getElem hi, Option.getD_some]
  have e2 : cellAt l j = l[j] := by show l.getD j _ = _; rw [List.getD_eq_getElem?_getD, List.getElem?_eq_getElem hj, Option.getD_some]
  rw [e1, e2, e] at this
  omega
theorem shp_of {l : List S78} (h1 : 1 ≤ l.length) (h40 : l.length ≤ 40) (hn : nearC 100 l) (hs : l.Pairwise leC) (hd : l.Nodup) : Shp l := by
  refine ⟨h1, h40, hn, fun i j hij hj => ?_⟩
  have hi : i < l.length := by omega
  have e1 : cellAt l i = l[i] := by show l.getD i _ = _; rw [List.getD_eq_getElem?_getD, List.getElem?_eq_getElem hi, Option.getD_some]
  have e2 : cellAt l j = l[j] := by show l.getD j _ = _; rw [List.getD_eq_getElem?_getD, List.getElem?_eq_getElem hj, Option.getD_some]
  rw [e1, e2, less_iff]
  have h3 := (leC_iff _ _).1 (List.pairwise_iff_getElem.1 hs i j hi hj hij)
  have h4 : l[i] ≠ l[j] := by
    rw [List.nodup_iff_pairwise_ne] at hd
    exact List.pairwise_iff_getElem.1 hd i j hi hj hij
  have h5 : ¬ ((l[i]).f0 = (l[j]).f0 ∧ (l[i]).f1 = (l[j]).f1) := fun e => h4 (by
    generalize l[i] = a at e
    generalize l[j] = b at e
    obtain ⟨a, b⟩ := a
    simp only at e
    rw [e.1, e.2])
  omega
def wide100 (l : List S78) : Prop := ∀ c ∈ l, ∀ d ∈ l, c.f0 - d.f0 ≤ 100 ∧ c.f1 - d.f1 ≤ 100
theorem minF_mem (f : S78 → Int) : ∀ (l : List S78) (x : Int), minF f l x = x ∨ ∃ c ∈ l, minF f l x = f c
  | [], x => .inl rfl
  | c :: r, x => by
    rw [minF]
    rcases minF_mem f r (mn x (f c)) with h | ⟨d, hd, h⟩
    · rw [h]
      unfold mn
      split
      · exact .inr ⟨c, by simp, rfl⟩
      · exact .inl rfl
    · exact .inr ⟨d, by simp [hd], h⟩
theorem corn_mem (l : List S78) (h1 : 1 ≤ l.length) : (∃ c ∈ l, minX l = c.f0) ∧ ∃ c ∈ l, minY l = c.f1 := by
  have h0 := cell_mem l 0 h1
  constructor
  · rcases minF_mem (·.f0) l (cellAt l 0).f0 with h | h
    · exact ⟨_, h0, h⟩
    · exact h
  · rcases minF_mem (·.f1) l (cellAt l 0).f1 with h | h
    · exact ⟨_, h0, h⟩
    · exact h
theorem code_wide (l : List S78) (h : codeS l = 0) : Shp l ∧ wide100 l := by
  unfold codeS at h
  by_cases h1 : isShapeB l = true
  · rw [if_pos h1] at h
    by_cases h2 : isShapeB (normL l) = true
    · have hs := (shp_iff l).1 h1
      have hn := (shp_iff _).1 h2
      refine ⟨hs, fun c hc d hd => ?_⟩
      have hm : subC (cornC l) c ∈ normL l := by
        rw [normL_sub l hs.pos (fun c hc => by have := hs.near c hc; omega)]
        exact List.mem_map.2 ⟨c, hc, rfl⟩
      have h3 := hn.near _ hm
      have h4 := (minF_le (·.f0) l (cellAt l 0).f0).2 d hd
      have h5 := (minF_le (·.f1) l (cellAt l 0).f1).2 d hd
      simp only [subC, cornC, minX, minY] at h3
      omega
    · rw [if_neg h2] at h; omega
  · rw [if_neg h1] at h; omega
theorem form_shape (t : Int) (ht : isT t) (l : List S78) (hs : Shp l) (hw : wide100 l) : Shp (formL t l) ∧ normL (formL t l) = formL t l := by
  have hl : nearC 1000000 l := fun c hc => by have := hs.near c hc; omega
  have hM : nearC 1000000 (sortC (l.map (tI t))) := near_perm (sortC_perm _) (tI_near t ht _ l hl)
  rw [formL_eq t ht l hs.pos hl]
  have hlen : (sortC (l.map (tI t))).length = l.length := by rw [sortC_len, List.length_map]
  have hnd : (sortC (l.map (tI t))).Nodup := (sortC_perm _).nodup_iff.2 (by
    rw [List.nodup_iff_pairwise_ne, List.pairwise_map]
    have := hs.nodup
    rw [List.nodup_iff_pairwise_ne] at this
    exact this.imp (fun {a b} hab e => hab (tI_inj t ht a b e)))
  have hsrt := sortC_sorted (l.map (tI t))
  have hwd : wide100 (sortC (l.map (tI t))) := by
    intro c hc d hd
    obtain ⟨c', hc', rfl⟩ := List.mem_map.1 ((sortC_perm _).mem_iff.1 hc)
    obtain ⟨d', hd', rfl⟩ := List.mem_map.1 ((sortC_perm _).mem_iff.1 hd)
    have h1 := hw c' hc' d' hd'
    have h2 := hw d' hd' c' hc'
    rcases isT_cases ht with rfl | rfl | rfl | rfl | rfl | rfl | rfl | rfl <;> simp [tI] <;> omega
  generalize sortC (l.map (tI t)) = M at hM hlen hnd hsrt hwd
  have hM1 : 1 ≤ M.length := by rw [hlen]; exact hs.pos
  obtain ⟨⟨a, ha, ea⟩, b, hb, eb⟩ := corn_mem M hM1
  have hmin : ∀ c ∈ M, minX M ≤ c.f0 ∧ minY M ≤ c.f1 := fun c hc => ⟨(minF_le (·.f0) M (cellAt M 0).f0).2 c hc, (minF_le (·.f1) M (cellAt M 0).f1).2 c hc⟩
  have hnear : nearC 100 (M.map (subC (cornC M))) := by
    intro d hd
    obtain ⟨c, hc, rfl⟩ := List.mem_map.1 hd
    have h1 := hmin c hc
    have h2 := (hwd c hc a ha).1
    have h3 := (hwd c hc b hb).2
    simp only [subC, cornC]
    omega
  constructor
  · refine shp_of (by simpa using hM1) (by simp [hlen]; exact hs.le) hnear ?_ ?_
    · rw [List.pairwise_map]
      refine hsrt.imp (fun {a b} h => ?_)
      have := (leC_iff a b).1 h
      exact (leC_iff _ _).2 (by simp only [subC]; omega)
    · rw [List.nodup_iff_pairwise_ne, List.pairwise_map]
      rw [List.nodup_iff_pairwise_ne] at hnd
      refine hnd.imp (fun {a b} hab e => hab ?_)
      obtain ⟨x, y⟩ := a
      obtain ⟨v, w⟩ := b
      simp only [subC, S78.mk.injEq] at e ⊢
      omega
  · rw [normL_sub _ (by simpa using hM1) (fun c hc => by have := hnear c hc; omega), norm_moved _ _ hM1]
/-! Nets in plain: dice that lie on cells. -/
abbrev Pt := Int × Int
abbrev D3 := Int × Int × Int
def sx : Nat → Int | 0 => 1 | 2 => -1 | _ => 0
def sy : Nat → Int | 1 => 1 | 3 => -1 | _ => 0
def stp (p : Pt) (e : Nat) : Pt := (p.1 + sx e, p.2 + sy e)
def rollE (e : Nat) (d : D3) : D3 := match e with | 0 => (d.2.1, 5 - d.1, d.2.2) | 1 => (d.2.2, d.2.1, 5 - d.1) | 2 => (5 - d.2.1, d.1, d.2.2) | _ => (5 - d.2.2, d.2.1, d.1)
def oppE (e : Nat) : Nat := match e with | 0 => 2 | 1 => 3 | 2 => 0 | _ => 1
theorem four {e : Nat} (h : e < 4) : e = 0 ∨ e = 1 ∨ e = 2 ∨ e = 3 := by omega
theorem oppE_lt (e : Nat) : oppE e < 4 := by unfold oppE; split <;> omega
theorem stp_opp (p : Pt) (e : Nat) (h : e < 4) : stp (stp p e) (oppE e) = p := by
  obtain ⟨x, y⟩ := p
  rcases four h with rfl | rfl | rfl | rfl <;> simp [stp, oppE, sx, sy] <;> omega
theorem roll_opp (d : D3) (e : Nat) (h : e < 4) : rollE (oppE e) (rollE e d) = d := by
  obtain ⟨x, y, z⟩ := d
  rcases four h with rfl | rfl | rfl | rfl <;> simp [rollE, oppE] <;> omega
theorem opp_opp (e : Nat) (h : e < 4) : oppE (oppE e) = e := by
  rcases four h with rfl | rfl | rfl | rfl <;> rfl
theorem block (d : D3) (e f : Nat) (h : e < 4) (hf : f < 4) (hp : f % 2 ≠ e % 2) : (rollE (oppE e) (rollE f (rollE e d))).1 = d.1 := by
  obtain ⟨x, y, z⟩ := d
  rcases four h with rfl | rfl | rfl | rfl <;> rcases four hf with rfl | rfl | rfl | rfl <;> first | (exfalso; omega) | (simp [rollE, oppE] <;> omega)
theorem stp_comm (p : Pt) (e f : Nat) : stp (stp p e) f = stp (stp p f) e := by
  obtain ⟨x, y⟩ := p
  simp only [stp, Prod.mk.injEq]
  omega
theorem stp_ne (p : Pt) (e : Nat) (h : e < 4) : stp p e ≠ p := by
  obtain ⟨x, y⟩ := p
  rcases four h with rfl | rfl | rfl | rfl <;> simp [stp, sx, sy] <;> omega
inductive Tr : List (Pt × D3) → Prop
  | one (p : Pt) (d : D3) : Tr [(p, d)]
  | add (S : List (Pt × D3)) (u : Pt) (d : D3) (e : Nat) : Tr S → (u, d) ∈ S → e < 4 → stp u e ∉ S.map (·.1) → Tr ((stp u e, rollE e d) :: S)
theorem in_cells {S : List (Pt × D3)} {p : Pt} {d : D3} (h : (p, d) ∈ S) : p ∈ S.map (·.1) := List.mem_map.2 ⟨_, h, rfl⟩
theorem tr_one_die {S : List (Pt × D3)} (h : Tr S) : ∀ p d d', (p, d) ∈ S → (p, d') ∈ S → d = d' := by
  induction h with
  | one p d =>
    intro q a b h1 h2
    simp only [List.mem_singleton, Prod.mk.injEq] at h1 h2
    rw [h1.2, h2.2]
  | add S u d e _ hu he hn ih =>
    intro q a b h1 h2
    rcases List.mem_cons.1 h1 with h1 | h1 <;> rcases List.mem_cons.1 h2 with h2 | h2
    · simp only [Prod.mk.injEq] at h1 h2
      rw [h1.2, h2.2]
    · simp only [Prod.mk.injEq] at h1
      rw [h1.1] at h2
      exact absurd (in_cells h2) hn
    · simp only [Prod.mk.injEq] at h2
      rw [h2.1] at h1
      exact absurd (in_cells h1) hn
    · exact ih q a b h1 h2
def Wk (S : List (Pt × D3)) : Nat → Pt → Pt → Prop
  | 0, p, q => p ∈ S.map (·.1) ∧ p = q
  | n + 1, p, q => p ∈ S.map (·.1) ∧ (p = q ∨ ∃ e, e < 4 ∧ Wk S n (stp p e) q)
theorem wk_self (S : List (Pt × D3)) (n : Nat) (p : Pt) (h : p ∈ S.map (·.1)) : Wk S n p p := by
  cases n with
  | zero => exact ⟨h, rfl⟩
  | succ n => exact ⟨h, Or.inl rfl⟩
theorem wk_mono (S : List (Pt × D3)) (x : Pt × D3) : ∀ (n : Nat) (p q : Pt), Wk S n p q → Wk (x :: S) (n + 1) p q
  | 0, p, q, h => ⟨List.mem_cons_of_mem _ h.1, Or.inl h.2⟩
  | n + 1, p, q, h => ⟨List.mem_cons_of_mem _ h.1, h.2.imp id (fun ⟨e, he, h'⟩ => ⟨e, he, wk_mono S x n _ _ h'⟩)⟩
theorem wk_more (S : List (Pt × D3)) (x : Pt × D3) : ∀ (n : Nat) (p q : Pt), Wk S n p q → Wk (x :: S) n p q
  | 0, p, q, h => ⟨List.mem_cons_of_mem _ h.1, h.2⟩
  | n + 1, p, q, h => ⟨List.mem_cons_of_mem _ h.1, h.2.imp id (fun ⟨e, he, h'⟩ => ⟨e, he, wk_more S x n _ _ h'⟩)⟩
theorem wk_snoc (S : List (Pt × D3)) (e : Nat) (he : e < 4) : ∀ (n : Nat) (p q : Pt), Wk S n p q → stp q e ∈ S.map (·.1) → Wk S (n + 1) p (stp q e)
  | 0, p, q, h, hq => by
    obtain ⟨h1, rfl⟩ := h
    exact ⟨h1, Or.inr ⟨e, he, hq, rfl⟩⟩
  | n + 1, p, q, h, hq => by
    obtain ⟨h1, h2 | ⟨f, hf, h2⟩⟩ := h
    · subst h2
      exact ⟨h1, Or.inr ⟨e, he, wk_self S (n + 1) _ hq⟩⟩
    · exact ⟨h1, Or.inr ⟨f, hf, wk_snoc S e he n _ _ h2 hq⟩⟩
theorem tr_len {S : List (Pt × D3)} (h : Tr S) : 1 ≤ S.length := by cases h <;> simp
theorem tr_conn {S : List (Pt × D3)} (h : Tr S) : ∀ (n : Nat) (p q : Pt), S.length ≤ n + 1 → p ∈ S.map (·.1) → q ∈ S.map (·.1) → Wk S n p q := by
  induction h with
  | one c d =>
    intro n p q _ hp hq
    simp only [List.map_cons, List.map_nil, List.mem_singleton] at hp hq
    subst hp; subst hq
    exact wk_self _ n _ (by simp)
  | add S u d e hS hu he hn ih =>
    intro n p q hl hp hq
    have h1 := tr_len hS
    simp only [List.length_cons] at hl
    obtain ⟨m, rfl⟩ : ∃ m, n = m + 1 := ⟨n - 1, by omega⟩
    have hnew : stp u e ∈ ((stp u e, rollE e d) :: S).map (·.1) := by simp
    rcases List.mem_cons.1 hp with rfl | hp' <;> rcases List.mem_cons.1 hq with hq' | hq'
    · rw [hq']
      exact wk_self _ _ _ hnew
    · refine ⟨hp, Or.inr ⟨oppE e, oppE_lt e, ?_⟩⟩
      show Wk _ m (stp (stp u e) (oppE e)) q
      rw [stp_opp u e he]
      exact wk_more _ _ _ _ _ (ih m u q (by omega) (in_cells hu) hq')
    · rw [hq']
      exact wk_snoc _ e he m p u (wk_more _ _ _ _ _ (ih m p u (by omega) hp' (in_cells hu))) hnew
    · exact wk_mono _ _ _ _ _ (ih m p q (by omega) hp' hq')
def goodB (e1 e2 : Nat) (vis : List Pt) : Bool := e1 == e2 || (List.range 4).any (fun f => (f % 2 != e1 % 2) && (decide (stp (0, 0) f ∈ vis) && decide (stp (stp (0, 0) e1) f ∈ vis)))
def srch (e1 e2 : Nat) : Nat → Pt → List Pt → Bool
  | 0, p, vis => !decide (p = stp (0, 0) e2) || goodB e1 e2 (p :: vis)
  | n + 1, p, vis => (!decide (p = stp (0, 0) e2) || goodB e1 e2 (p :: vis)) && (List.range 4).all (fun e => decide (stp p e = (0, 0)) || srch e1 e2 n (stp p e) (p :: vis))
theorem srch_all : (List.range 4).all (fun e1 => (List.range 4).all (fun e2 => srch e1 e2 4 (stp (0, 0) e1) [])) = true := by decide +kernel
def trn (c p : Pt) : Pt := (c.1 + p.1, c.2 + p.2)
theorem trn_stp (c p : Pt) (e : Nat) : stp (trn c p) e = trn c (stp p e) := by
  simp only [stp, trn, Int.add_assoc]
theorem trn_zero (c : Pt) : trn c (0, 0) = c := by simp [trn]
theorem trn_inj (c p q : Pt) (h : trn c p = trn c q) : p = q := by
  obtain ⟨x, y⟩ := p
  obtain ⟨v, w⟩ := q
  simp only [trn, Prod.mk.injEq] at h ⊢
  omega
theorem good_ok (S : List (Pt × D3)) (c : Pt) (e1 e2 : Nat) (vis : List Pt) (hv : ∀ q ∈ vis, trn c q ∈ S.map (·.1)) (h : goodB e1 e2 vis = true) : e1 = e2 ∨ ∃ f, f < 4 ∧ f % 2 ≠ e1 % 2 ∧ stp c f ∈ S.map (·.1) ∧ stp (stp c e1) f ∈ S.map (·.1) := by
  simp only [goodB, Bool.or_eq_true, beq_iff_eq, List.any_eq_true, List.mem_range, Bool.and_eq_true, bne_iff_ne, decide_eq_true_eq] at h
  refine h.imp id (fun ⟨f, hf, h1, h2, h3⟩ => ⟨f, hf, h1, ?_, ?_⟩)
  · have := hv _ h2
    rw [← trn_stp, trn_zero] at this
    exact this
  · have := hv _ h3
    rw [← trn_stp, ← trn_stp, trn_zero] at this
    exact this
theorem srch_ok (S : List (Pt × D3)) (c : Pt) (hc : c ∉ S.map (·.1)) (e1 e2 : Nat) : ∀ (n : Nat) (p : Pt) (vis : List Pt), srch e1 e2 n p vis = true → (∀ q ∈ vis, trn c q ∈ S.map (·.1)) → Wk S n (trn c p) (stp c e2) → e1 = e2 ∨ ∃ f, f < 4 ∧ f % 2 ≠ e1 % 2 ∧ stp c f ∈ S.map (·.1) ∧ stp (stp c e1) f ∈ S.map (·.1) := by
  have key : ∀ (p : Pt) (vis : List Pt), (!decide (p = stp (0, 0) e2) || goodB e1 e2 (p :: vis)) = true → (∀ q ∈ vis, trn c q ∈ S.map (·.1)) → trn c p ∈ S.map (·.1) → trn c p = stp c e2 → e1 = e2 ∨ ∃ f, f < 4 ∧ f % 2 ≠ e1 % 2 ∧ stp c f ∈ S.map (·.1) ∧ stp (stp c e1) f ∈ S.map (·.1) := by
    intro p vis h hv hp e
    have e' : p = stp (0, 0) e2 := trn_inj c _ _ (by rw [e, ← trn_stp, trn_zero])
    rw [decide_eq_true e', Bool.not_true, Bool.false_or] at h
    refine good_ok S c e1 e2 _ (fun q hq => ?_) h
    rcases List.mem_cons.1 hq with rfl | hq
    · exact hp
    · exact hv q hq
  intro n
  induction n with
  | zero =>
    intro p vis h hv hw
    exact key p vis h hv hw.1 hw.2
  | succ n ih =>
    intro p vis h hv hw
    rw [srch, Bool.and_eq_true] at h
    rcases hw.2 with h2 | ⟨e, he, h2⟩
    · exact key p vis h.1 hv hw.1 h2
    · have h3 := List.all_eq_true.1 h.2 e (List.mem_range.2 he)
      rw [trn_stp] at h2
      have hin : trn c (stp p e) ∈ S.map (·.1) := by cases n <;> exact h2.1
      have hne : ¬ stp p e = (0, 0) := fun e0 => by rw [e0, trn_zero] at hin; exact hc hin
      rw [decide_eq_false hne, Bool.false_or] at h3
      refine ih (stp p e) (p :: vis) h3 (fun q hq => ?_) h2
      rcases List.mem_cons.1 hq with rfl | hq
      · exact hw.1
      · exact hv q hq
def ConsS (S : List (Pt × D3)) : Prop := ∀ p d q d' e, (p, d) ∈ S → (q, d') ∈ S → e < 4 → q = stp p e → d' = rollE e d
theorem tr_cons {S : List (Pt × D3)} (h : Tr S) : S.length ≤ 6 → (S.map (fun x => x.2.1)).Nodup → ConsS S := by
  induction h with
  | one c d =>
    intro _ _ p a q b e h1 h2 he hq
    simp only [List.mem_singleton, Prod.mk.injEq] at h1 h2
    rw [h1.1, h2.1] at hq
    exact absurd hq.symm (stp_ne c e he)
  | add S u d e hS hu he hn ih =>
    intro hl hnd
    rw [List.map_cons, List.nodup_cons] at hnd
    simp only [List.length_cons] at hl
    have hC := ih (by omega) hnd.2
    have key : ∀ (q : Pt) (b : D3) (f : Nat), (q, b) ∈ S → f < 4 → q = stp (stp u e) f → b = rollE f (rollE e d) := by
      intro q b f hq hf hqe
      have hu' : u = stp (stp u e) (oppE e) := (stp_opp u e he).symm
      have hw := tr_conn hS 4 u q (by omega) (in_cells hu) (in_cells hq)
      have hs := List.all_eq_true.1 (List.all_eq_true.1 srch_all (oppE e) (List.mem_range.2 (oppE_lt e))) f (List.mem_range.2 hf)
      have h1 := srch_ok S (stp u e) hn (oppE e) f 4 _ [] hs (by simp) (by rw [← trn_stp, trn_zero, ← hu', ← hqe]; exact hw)
      rcases h1 with h1 | ⟨g, hg, h1, h2, h3⟩
      · subst h1
        rw [← hu'] at hqe
        rw [hqe] at hq
        rw [roll_opp d e he]
        exact tr_one_die hS _ _ _ hq hu
      · exfalso
        rw [← hu'] at h3
        obtain ⟨⟨m, dm⟩, hm, rfl⟩ := List.mem_map.1 h3
        obtain ⟨⟨a, da⟩, ha, hae⟩ := List.mem_map.1 h2
        simp only at hm hae
        have e1 : dm = rollE g d := hC u d _ dm g hu hm hg rfl
        have e2 : da = rollE e dm := hC _ dm _ da e hm (by rw [hae, stp_comm] at ha; exact ha) he rfl
        refine hnd.1 (List.mem_map.2 ⟨_, ha, ?_⟩)
        show da.1 = (rollE e d).1
        have := block (rollE e d) (oppE e) g (oppE_lt e) hg h1
        rw [opp_opp e he, roll_opp d e he, ← e1, ← e2] at this
        exact this
    intro p a q b f h1 h2 hf hq
    rcases List.mem_cons.1 h1 with h1 | h1 <;> rcases List.mem_cons.1 h2 with h2 | h2
    · simp only [Prod.mk.injEq] at h1 h2
      rw [h1.1, h2.1] at hq
      exact absurd hq.symm (stp_ne _ f hf)
    · simp only [Prod.mk.injEq] at h1
      rw [h1.1] at hq
      rw [h1.2]
      exact key q b f h2 hf hq
    · simp only [Prod.mk.injEq] at h2
      rw [h2.1] at hq
      rw [h2.2]
      have h3 := key p a (oppE f) h1 (oppE_lt f) (by rw [hq, stp_opp p f hf])
      rw [h3, show rollE f (rollE (oppE f) (rollE e d)) = rollE (oppE (oppE f)) (rollE (oppE f) (rollE e d)) by rw [opp_opp f hf], roll_opp _ _ (oppE_lt f)]
    · exact hC p a q b f h1 h2 hf hq
/-! Nets and connected sets of points; turning them. -/
def NetP (M : Pt → Prop) : Prop := ∃ D : Pt → D3, (∀ p e, M p → e < 4 → M (stp p e) → D (stp p e) = rollE e (D p)) ∧ ∀ p q, M p → M q → (D p).1 = (D q).1 → p = q
def ConP (M : Pt → Prop) : Prop := ∀ Q : Pt → Prop, (∃ p, M p ∧ Q p) → (∀ p e, M p → e < 4 → M (stp p e) → Q p → Q (stp p e)) → ∀ p, M p → Q p
def rotP (p : Pt) : Pt := (p.2, -p.1)
def flipP (p : Pt) : Pt := (-p.1, p.2)
def movP (a b : Int) (p : Pt) : Pt := (p.1 + a, p.2 + b)
theorem net_by (g : Pt → Pt) (π : Nat → Nat) (cj : D3 → D3) (hg : ∀ p e, e < 4 → g (stp p e) = stp (g p) (π e)) (hπ : ∀ e, e < 4 → π e < 4) (hc : ∀ d, (cj d).1 = d.1) (hr : ∀ e d, e < 4 → cj (rollE (π e) d) = rollE e (cj d)) (hi : ∀ p q, g p = g q → p = q) (M : Pt → Prop) (h : NetP M) : NetP (fun p => M (g p)) := by
  obtain ⟨D, h1, h2⟩ := h
  refine ⟨fun p => cj (D (g p)), fun p e hp he hq => ?_, fun p q hp hq e => ?_⟩
  · have hq' : M (g (stp p e)) := hq
    show cj (D (g (stp p e))) = rollE e (cj (D (g p)))
    rw [hg p e he] at hq' ⊢
    rw [h1 _ _ hp (hπ e he) hq', hr e _ he]
  · exact hi _ _ (h2 _ _ hp hq (by rw [← hc, ← hc (D (g q))]; exact e))
theorem con_by (g gi : Pt → Pt) (π : Nat → Nat) (hgi : ∀ p e, e < 4 → gi (stp p e) = stp (gi p) (π e)) (hπ : ∀ e, e < 4 → π e < 4) (h1 : ∀ p, g (gi p) = p) (h2 : ∀ p, gi (g p) = p) (M : Pt → Prop) (h : ConP M) : ConP (fun p => M (g p)) := by
  intro Q ⟨p0, hp0, hq0⟩ hQ p hp
  have := h (fun p => Q (gi p)) ⟨g p0, hp0, by rw [h2]; exact hq0⟩ (fun p e hp he hpe hq => by
    rw [hgi p e he]
    exact hQ (gi p) (π e) (by show M (g (gi p)); rw [h1]; exact hp) (hπ e he) (by show M (g (stp (gi p) (π e))); rw [← hgi p e he, h1]; exact hpe) hq) (g p) hp
  rw [h2] at this
  exact this
theorem net_rot (M : Pt → Prop) (h : NetP M) : NetP (fun p => M (rotP p)) := by
  refine net_by rotP (fun e => match e with | 0 => 3 | 1 => 0 | 2 => 1 | _ => 2) (fun d => (d.1, 5 - d.2.2, d.2.1)) (fun p e he => ?_) (fun e he => by rcases four he with rfl | rfl | rfl | rfl <;> decide) (fun d => rfl) (fun e d he => ?_) (fun p q e => ?_) M h
  · obtain ⟨x, y⟩ := p
    rcases four he with rfl | rfl | rfl | rfl <;> simp [stp, rotP, sx, sy] <;> omega
  · obtain ⟨x, y, z⟩ := d
    rcases four he with rfl | rfl | rfl | rfl <;> simp [rollE] <;> omega
  · obtain ⟨x, y⟩ := p
    obtain ⟨v, w⟩ := q
    simp only [rotP, Prod.mk.injEq] at e ⊢
    omega
theorem net_flip (M : Pt → Prop) (h : NetP M) : NetP (fun p => M (flipP p)) := by
  refine net_by flipP (fun e => match e with | 0 => 2 | 1 => 1 | 2 => 0 | _ => 3) (fun d => (d.1, 5 - d.2.1, d.2.2)) (fun p e he => ?_) (fun e he => by rcases four he with rfl | rfl | rfl | rfl <;> decide) (fun d => rfl) (fun e d he => ?_) (fun p q e => ?_) M h
  · obtain ⟨x, y⟩ := p
    rcases four he with rfl | rfl | rfl | rfl <;> simp [stp, flipP, sx, sy] <;> omega
  · obtain ⟨x, y, z⟩ := d
    rcases four he with rfl | rfl | rfl | rfl <;> simp [rollE] <;> omega
  · obtain ⟨x, y⟩ := p
    obtain ⟨v, w⟩ := q
    simp only [flipP, Prod.mk.injEq] at e ⊢
    omega
theorem net_mov (a b : Int) (M : Pt → Prop) (h : NetP M) : NetP (fun p => M (movP a b p)) := by
  refine net_by (movP a b) id id (fun p e he => ?_) (fun e he => he) (fun d => rfl) (fun e d he => rfl) (fun p q e => ?_) M h
  · obtain ⟨x, y⟩ := p
    simp only [stp, movP, id, Prod.mk.injEq]
    omega
  · obtain ⟨x, y⟩ := p
    obtain ⟨v, w⟩ := q
    simp only [movP, Prod.mk.injEq] at e ⊢
    omega
theorem con_rot (M : Pt → Prop) (h : ConP M) : ConP (fun p => M (rotP p)) := by
  refine con_by rotP (fun p => (-p.2, p.1)) (fun e => match e with | 0 => 1 | 1 => 2 | 2 => 3 | _ => 0) (fun p e he => ?_) (fun e he => by rcases four he with rfl | rfl | rfl | rfl <;> decide) (fun p => by simp [rotP]) (fun p => by simp [rotP]) M h
  obtain ⟨x, y⟩ := p
  rcases four he with rfl | rfl | rfl | rfl <;> simp [stp, sx, sy] <;> omega
theorem con_flip (M : Pt → Prop) (h : ConP M) : ConP (fun p => M (flipP p)) := by
  refine con_by flipP flipP (fun e => match e with | 0 => 2 | 1 => 1 | 2 => 0 | _ => 3) (fun p e he => ?_) (fun e he => by rcases four he with rfl | rfl | rfl | rfl <;> decide) (fun p => by simp [flipP]) (fun p => by simp [flipP]) M h
  obtain ⟨x, y⟩ := p
  rcases four he with rfl | rfl | rfl | rfl <;> simp [stp, flipP, sx, sy] <;> omega
theorem con_mov (a b : Int) (M : Pt → Prop) (h : ConP M) : ConP (fun p => M (movP a b p)) := by
  refine con_by (movP a b) (movP (-a) (-b)) id (fun p e he => ?_) (fun e he => he) (fun p => ?_) (fun p => ?_) M h
  · obtain ⟨x, y⟩ := p
    simp only [stp, movP, id, Prod.mk.injEq]
    omega
  · obtain ⟨x, y⟩ := p
    simp only [movP, Prod.mk.injEq]
    omega
  · obtain ⟨x, y⟩ := p
    simp only [movP, Prod.mk.injEq]
    omega
theorem tr_con {S : List (Pt × D3)} (h : Tr S) : ConP (fun p => p ∈ S.map (·.1)) := by
  induction h with
  | one c d =>
    intro Q ⟨p, hp, hq⟩ _ q hq'
    simp only [List.map_cons, List.map_nil, List.mem_singleton] at hp hq'
    rw [hq', ← hp]
    exact hq
  | add S u d e hS hu he hn ih =>
    intro Q ⟨p, hp, hq⟩ hQ
    have hnew : stp u e ∈ ((stp u e, rollE e d) :: S).map (·.1) := by simp
    have hold : ∀ p, p ∈ S.map (·.1) → p ∈ ((stp u e, rollE e d) :: S).map (·.1) := fun p hp => List.mem_cons_of_mem _ hp
    have h0 : ∃ p, p ∈ S.map (·.1) ∧ Q p := by
      rcases List.mem_cons.1 hp with rfl | hp'
      · have := hQ _ (oppE e) hnew (oppE_lt e) (by show stp (stp u e) (oppE e) ∈ _; rw [stp_opp u e he]; exact hold _ (in_cells hu)) hq
        refine ⟨u, in_cells hu, ?_⟩
        have e2 : stp (stp u e) (oppE e) = u := stp_opp u e he
        rw [← e2]
        exact this
      · exact ⟨p, hp', hq⟩
    have h1 := ih Q h0 (fun p f hp hf hpf hq => hQ p f (hold p hp) hf (hold _ hpf) hq)
    intro q hq'
    rcases List.mem_cons.1 hq' with rfl | hq''
    · exact hQ u e (hold _ (in_cells hu)) he hnew (h1 u (in_cells hu))
    · exact h1 q hq''
/-! What the walks leave behind: a consistent laying of dice, and connected cells. -/
abbrev keyAt (l : List S78) (q : Nat) : Pt := cellKey (cellAt l q)
def ptsOf (l : List S78) (p : Pt) : Prop := ∃ q : Nat, q < l.length ∧ keyAt l q = p
theorem sx_in (e : Nat) : (-1 ≤ sx e ∧ sx e ≤ 1) ∧ (-1 ≤ sy e ∧ sy e ≤ 1) := by
  unfold sx sy
  refine ⟨⟨?_, ?_⟩, ?_, ?_⟩ <;> split <;> omega
theorem key_step (l : List S78) (hs : Shape l) (q : Nat) (hq : q < l.length) (e : Nat) (he : e < 4) : cellKey (stepTo (cellAt l q) e) = stp (keyAt l q) e := by
  have h := hs.near q hq
  have e1 : edgeSX (e : Int) = sx e := by rcases four he with rfl | rfl | rfl | rfl <;> rfl
  have e2 : edgeSY (e : Int) = sy e := by rcases four he with rfl | rfl | rfl | rfl <;> rfl
  have h2 := sx_in e
  show (wrap64 ((cellAt l q).f0 + edgeSX e), wrap64 ((cellAt l q).f1 + edgeSY e)) = ((cellAt l q).f0 + sx e, (cellAt l q).f1 + sy e)
  rw [e1, e2, wrap_id _ (by omega) (by omega), wrap_id _ (by omega) (by omega)]
def okD (d : D3) : Prop := (0 ≤ d.1 ∧ d.1 ≤ 5) ∧ (0 ≤ d.2.1 ∧ d.2.1 ≤ 5) ∧ (0 ≤ d.2.2 ∧ d.2.2 ≤ 5)
theorem roll_ok (d : D3) (h : okD d) (e : Nat) : okD (rollE e d) := by
  obtain ⟨x, y, z⟩ := d
  unfold okD at *
  unfold rollE
  simp only at h
  split <;> (simp only; omega)
theorem roll_E (a b c : Int) (h : okD (a, b, c)) (e : Nat) (he : e < 4) (y : Int × Int × Int) (hy : impl_die_roll.f a b c (bt (⟨#[114, 100, 108, 117]⟩ : ByteArray) e) = some y) : y = rollE e (a, b, c) := by
  unfold okD at h
  simp only at h
  have w1 : wrap64 (5 - a) = 5 - a := wrap_id _ (by omega) (by omega)
  have w2 : wrap64 (5 - b) = 5 - b := wrap_id _ (by omega) (by omega)
  have w3 : wrap64 (5 - c) = 5 - c := wrap_id _ (by omega) (by omega)
  have h0 : impl_die_roll.f a b c (bt (⟨#[114, 100, 108, 117]⟩ : ByteArray) e) = some (rollE e (a, b, c)) := by
    rcases four he with rfl | rfl | rfl | rfl
    · show impl_die_roll.f a b c 114 = _
      unfold impl_die_roll.f
      simp [rollE, w1]
    · show impl_die_roll.f a b c 100 = _
      unfold impl_die_roll.f
      simp [rollE, w1]
    · show impl_die_roll.f a b c 108 = _
      unfold impl_die_roll.f
      simp [rollE, w2]
    · show impl_die_roll.f a b c 117 = _
      unfold impl_die_roll.f
      simp [rollE, w3]
  rw [hy] at h0
  exact Option.some.inj h0
def pairOf (l : List S78) (dice : List S71) (q : Int) : Pt × D3 := (keyAt l q.toNat, trip (dice.getD q.toNat z71))
structure BI (l : List S78) (ids : List Int) (dice : List S71) (t e : Nat) : Prop where
  dl : dice.length = l.length
  one : (0 : Int) ∈ ids ∧ dice.getD 0 z71 = ⟨0, 1, 2⟩
  rng : ∀ q, q ∈ ids → 0 ≤ q ∧ q < (l.length : Int)
  nd : ids.Nodup
  ok : ∀ q : Nat, (q : Int) ∈ ids → okD (trip (dice.getD q z71))
  out : ∀ q : Nat, q < l.length → (q : Int) ∉ ids → dice.getD q z71 = z71
  tr : Tr ((ids.map (pairOf l dice)).reverse)
  clo : ∀ s q0 : Nat, s < ids.length → ids.getD s 0 = (q0 : Int) → ∀ f, f < 4 → (s < t ∨ s = t ∧ f < e) → ∀ q : Nat, q < l.length → keyAt l q = stp (keyAt l q0) f → (q : Int) ∈ ids
theorem bw_inv (l : List S78) (hs : Shape l) {ids : List Int} {dice : List S71} {t e : Nat} (h : BW l ids dice t e) : BI l ids dice t e := by
  have hpos := hs.pos
  induction h with
  | start =>
    have hz : ∀ q : Nat, (List.replicate l.length z71).getD q z71 = z71 := fun q => by
      rw [List.getD_eq_getElem?_getD]
      cases h : (List.replicate l.length z71)[q]? with
      | none => rfl
      | some v => exact (List.eq_of_mem_replicate (List.mem_of_getElem? h))
    have h0 : ((List.replicate l.length z71).set 0 (⟨0, 1, 2⟩ : S71)).getD 0 z71 = ⟨0, 1, 2⟩ := by
      rw [getD_setD _ _ _ _ (by simp; omega), if_pos rfl]
    refine ⟨by simp, ⟨by simp, h0⟩, fun q hq => ?_, by simp, fun q hq => ?_, fun q hq hm => ?_, ?_, fun s q0 hs' hq0 f hf hc => ?_⟩
    · rw [List.mem_singleton.1 hq]; omega
    · have : q = 0 := by have := List.mem_singleton.1 hq; omega
      subst this
      rw [h0]
      exact ⟨⟨by decide, by decide⟩, ⟨by decide, by decide⟩, by decide, by decide⟩
    · have e : q ≠ 0 := fun h => hm (by rw [h]; simp)
      rw [getD_setD _ _ _ _ (by simp; omega), if_neg e]
      exact hz q
    · exact Tr.one _ _
    · rcases hc with hc | hc <;> omega
  | pass ids dice t e q0 hW he ht hq hq0 hall ih =>
    refine ⟨ih.dl, ih.one, ih.rng, ih.nd, ih.ok, ih.out, ih.tr, fun s q1 hs' hq1 f hf hc q hql hk => ?_⟩
    by_cases hh : s = t ∧ f = e
    · obtain ⟨rfl, rfl⟩ := hh
      have : q1 = q0 := by rw [hq] at hq1; omega
      subst this
      exact hall q hql (hk.trans (key_step l hs q1 hq0 f hf).symm)
    · exact ih.clo s q1 hs' hq1 f hf (by omega) q hql hk
  | new ids dice t e q0 p y hW he ht hq hq0 hp hpk hin hy ih =>
    have hmem0 : (q0 : Int) ∈ ids := by rw [← hq]; exact getD_mem ids 0 t ht
    have hdl := ih.dl
    have hy' := roll_E _ _ _ (ih.ok q0 hmem0) e he y hy
    have hpy : ∀ (x : Int × Int × Int), trip (⟨x.1, x.2.1, x.2.2⟩ : S71) = x := fun x => rfl
    have hne : ∀ q : Nat, (q : Int) ∈ ids → q ≠ p := fun q hq' e => hin (e ▸ hq')
    refine ⟨by rw [List.length_set]; exact hdl, ⟨List.mem_append_left _ ih.one.1, ?_⟩, fun q hq' => ?_, ?_, fun q hq' => ?_, fun q hq' hm => ?_, ?_, fun s q1 hs' hq1 f hf hc q hql hk => ?_⟩
    · rw [getD_setD _ _ _ _ (by omega), if_neg (hne 0 ih.one.1)]
      exact ih.one.2
    · rcases List.mem_append.1 hq' with h | h
      · exact ih.rng q h
      · rw [List.mem_singleton.1 h]; omega
    · rw [List.nodup_append]
      exact ⟨ih.nd, by simp, fun a ha b hb => by rw [List.mem_singleton.1 hb]; exact fun e => hin (e ▸ ha)⟩
    · rw [getD_setD _ _ _ _ (by omega)]
      by_cases e1 : q = p
      · rw [if_pos e1, hpy, hy']
        exact roll_ok _ (ih.ok q0 hmem0) e
      · rw [if_neg e1]
        rcases List.mem_append.1 hq' with h | h
        · exact ih.ok q h
        · have := List.mem_singleton.1 h
          omega
    · rw [List.mem_append, not_or, List.mem_singleton] at hm
      have e1 : q ≠ p := fun h => hm.2 (by rw [h])
      rw [getD_setD _ _ _ _ (by omega), if_neg e1]
      exact ih.out q hq' hm.1
    · have h1 : ids.map (pairOf l (dice.set p ⟨y.1, y.2.1, y.2.2⟩)) = ids.map (pairOf l dice) := List.map_congr_left (fun a ha => by
        have h2 := ih.rng a ha
        unfold pairOf
        rw [getD_setD _ _ _ _ (by omega), if_neg (hne a.toNat (by rw [Int.toNat_of_nonneg h2.1]; exact ha))])
      rw [List.map_append, h1, List.reverse_append]
      have h2 : pairOf l (dice.set p ⟨y.1, y.2.1, y.2.2⟩) (p : Int) = (stp (keyAt l q0) e, rollE e (trip (dice.getD q0 z71))) := by
        unfold pairOf
        rw [Int.toNat_natCast, getD_setD _ _ _ _ (by omega), if_pos rfl, hpy, hy', ← key_step l hs q0 hq0 e he, ← hpk]
        rfl
      show Tr (pairOf l (dice.set p ⟨y.1, y.2.1, y.2.2⟩) (p : Int) :: (ids.map (pairOf l dice)).reverse)
      rw [h2]
      refine Tr.add _ _ _ e ih.tr ?_ he ?_
      · rw [List.mem_reverse, List.mem_map]
        exact ⟨(q0 : Int), hmem0, by unfold pairOf; rw [Int.toNat_natCast]⟩
      · rw [← key_step l hs q0 hq0 e he, ← hpk]
        intro hm
        obtain ⟨x, hx, ex⟩ := List.mem_map.1 hm
        rw [List.mem_reverse] at hx
        obtain ⟨a, ha, rfl⟩ := List.mem_map.1 hx
        have h3 := ih.rng a ha
        have h4 := hs.apart a.toNat p (by omega) hp ex
        exact hne a.toNat (by rw [Int.toNat_of_nonneg h3.1]; exact ha) h4
    · by_cases hsl : s < ids.length
      · rw [getD_app ids _ s hsl] at hq1
        by_cases hh : s = t ∧ f = e
        · obtain ⟨rfl, rfl⟩ := hh
          have : q1 = q0 := by rw [hq] at hq1; omega
          subst this
          have : q = p := hs.apart q p hql hp (hk.trans ((key_step l hs q1 hq0 f hf).symm.trans hpk.symm))
          subst this
          simp
        · exact List.mem_append_left _ (ih.clo s q1 hsl hq1 f hf (by omega) q hql hk)
      · omega
  | turn ids dice t hW ih =>
    refine ⟨ih.dl, ih.one, ih.rng, ih.nd, ih.ok, ih.out, ih.tr, fun s q1 hs' hq1 f hf hc q hql hk => ih.clo s q1 hs' hq1 f hf (by omega) q hql hk⟩
def tauI (d : D3) (x : Int) : Int := if x = 0 then d.1 else if x = 1 then d.2.1 else if x = 2 then d.2.2 else if x = 3 then 5 - d.2.2 else if x = 4 then 5 - d.2.1 else 5 - d.1
def tau3 (d x : D3) : D3 := (tauI d x.1, tauI d x.2.1, tauI d x.2.2)
theorem tau_opp (d : D3) (x : Int) (h0 : 0 ≤ x) (h5 : x ≤ 5) : tauI d (5 - x) = 5 - tauI d x := by
  rcases (by omega : x = 0 ∨ x = 1 ∨ x = 2 ∨ x = 3 ∨ x = 4 ∨ x = 5) with rfl | rfl | rfl | rfl | rfl | rfl <;> simp [tauI] <;> omega
theorem tau_roll (d x : D3) (h : okD x) (e : Nat) (he : e < 4) : tau3 d (rollE e x) = rollE e (tau3 d x) := by
  obtain ⟨a, b, c⟩ := x
  obtain ⟨h1, h2, h3⟩ := h
  have e1 := tau_opp d a h1.1 h1.2
  have e2 := tau_opp d b h2.1 h2.2
  have e3 := tau_opp d c h3.1 h3.2
  rcases four he with rfl | rfl | rfl | rfl <;> simp [tau3, rollE, e1, e2, e3]
theorem bw_tau (l : List S78) (hs : Shape l) (D : Pt → D3) (hD : ∀ p e, ptsOf l p → e < 4 → ptsOf l (stp p e) → D (stp p e) = rollE e (D p)) {ids : List Int} {dice : List S71} {t e : Nat} (h : BW l ids dice t e) : ∀ q : Nat, (q : Int) ∈ ids → D (keyAt l q) = tau3 (D (keyAt l 0)) (trip (dice.getD q z71)) := by
  have hpos := hs.pos
  induction h with
  | start =>
    intro q hq
    have : q = 0 := by have := List.mem_singleton.1 hq; omega
    subst this
    rw [getD_setD _ _ _ _ (by simp; omega), if_pos rfl]
    rfl
  | pass ids dice t e q0 hW he ht hq hq0 hall ih => exact ih
  | new ids dice t e q0 p y hW he ht hq hq0 hp hpk hin hy ih =>
    have hI := bw_inv l hs hW
    have hdl := hI.dl
    have hmem0 : (q0 : Int) ∈ ids := by rw [← hq]; exact getD_mem ids 0 t ht
    have hy' := roll_E _ _ _ (hI.ok q0 hmem0) e he y hy
    intro q hqm
    rw [getD_setD _ _ _ _ (by omega)]
    by_cases e1 : q = p
    · subst e1
      rw [if_pos rfl]
      have hk : keyAt l q = stp (keyAt l q0) e := hpk.trans (key_step l hs q0 hq0 e he)
      show D (keyAt l q) = tau3 (D (keyAt l 0)) y
      rw [hy', hk, hD _ e ⟨q0, hq0, rfl⟩ he ⟨q, hp, hk⟩, ih q0 hmem0]
      exact (tau_roll _ _ (hI.ok q0 hmem0) e he).symm
    · rw [if_neg e1]
      rcases List.mem_append.1 hqm with h | h
      · exact ih q h
      · have := List.mem_singleton.1 h
        omega
  | turn ids dice t hW ih => exact ih
theorem getD_f0 (dice : List S71) (q : Nat) : (dice.map (fun s => s.f0)).getD q 0 = (dice.getD q z71).f0 := by
  rw [List.getD_eq_getElem?_getD, List.getElem?_map, List.getD_eq_getElem?_getD]
  cases dice[q]? <;> rfl
theorem pigN : ∀ (n : Nat) (xs : List Int), xs.Nodup → (∀ x ∈ xs, 0 ≤ x ∧ x < (n : Int)) → xs.length ≤ n
  | 0, xs, _, h => by
    cases xs with
    | nil => simp
    | cons x xs => have := h x (by simp); omega
  | n + 1, xs, hn, h => by
    have h1 := pigN n (xs.erase (n : Int)) (hn.erase _) (fun x hx => by
      have h2 := (hn.mem_erase_iff).1 hx
      have h3 := h x h2.2
      have h4 := h2.1
      omega)
    rw [List.length_erase] at h1
    split at h1 <;> omega
theorem net_out (l : List S78) (hs : Shape l) (h6 : l.length = 6) (ids : List Int) (dice : List S71) (hW : BW l ids dice ids.length 0) (hP : PermB (dice.map (fun s => s.f0))) : NetP (ptsOf l) ∧ ConP (ptsOf l) := by
  have hI := bw_inv l hs hW
  have hdl := hI.dl
  have hP' : ∀ i j : Nat, i < 6 → j < 6 → (dice.getD i z71).f0 = (dice.getD j z71).f0 → i = j := fun i j hi hj e => by
    by_cases h : i = j
    · exact h
    · have := (hP i (by simp; omega)).2 j (by simp; omega) h
      rw [getD_f0, getD_f0] at this
      exact absurd e this
  have hall : ∀ q : Nat, q < l.length → (q : Int) ∈ ids := fun q hq => by
    by_cases h : (q : Int) ∈ ids
    · exact h
    · have h1 := hI.out q hq h
      have h2 := hP' q 0 (by omega) (by omega) (by rw [h1, hI.one.2]; rfl)
      subst h2
      exact hI.one.1
  have hpts : ∀ p, ptsOf l p ↔ p ∈ ((ids.map (pairOf l dice)).reverse).map (·.1) := fun p => by
    constructor
    · rintro ⟨q, hq, rfl⟩
      exact List.mem_map.2 ⟨_, List.mem_reverse.2 (List.mem_map.2 ⟨_, hall q hq, rfl⟩), by unfold pairOf; rw [Int.toNat_natCast]⟩
    · intro h
      obtain ⟨x, hx, rfl⟩ := List.mem_map.1 h
      obtain ⟨a, ha, rfl⟩ := List.mem_map.1 (List.mem_reverse.1 hx)
      have := hI.rng a ha
      exact ⟨a.toNat, by omega, rfl⟩
  have hfun : ptsOf l = fun p => p ∈ ((ids.map (pairOf l dice)).reverse).map (·.1) := funext (fun p => propext (hpts p))
  have hlen : ids.length ≤ 6 := pigN 6 ids hI.nd (fun x hx => by have := hI.rng x hx; omega)
  have hnd : (((ids.map (pairOf l dice)).reverse).map (fun x => x.2.1)).Nodup := by
    rw [List.nodup_iff_pairwise_ne, List.pairwise_map, List.pairwise_reverse, List.pairwise_map]
    have h1 := hI.nd
    rw [List.nodup_iff_pairwise_ne] at h1
    refine List.Pairwise.imp_of_mem (fun {a b} ha hb hab e => ?_) h1
    have h2 := hI.rng a ha
    have h3 := hI.rng b hb
    have := hP' b.toNat a.toNat (by omega) (by omega) e
    omega
  have hC := tr_cons hI.tr (by simpa using hlen) hnd
  refine ⟨⟨fun p => trip (dice.getD (idxI l p).toNat z71), ?_, ?_⟩, by rw [hfun]; exact tr_con hI.tr⟩
  · rintro p e ⟨q, hq, rfl⟩ he ⟨q', hq', hk⟩
    have i1 : idxI l (keyAt l q) = (q : Int) := by unfold idxI; rw [atCell_some l hs q hq]
    have i2 : idxI l (keyAt l q') = (q' : Int) := by unfold idxI; rw [atCell_some l hs q' hq']
    rw [← hk]
    show trip (dice.getD (idxI l (keyAt l q')).toNat _) = rollE e (trip (dice.getD (idxI l (keyAt l q)).toNat _))
    rw [i1, i2, Int.toNat_natCast, Int.toNat_natCast]
    exact hC (keyAt l q) _ (keyAt l q') _ e (List.mem_reverse.2 (List.mem_map.2 ⟨_, hall q hq, by unfold pairOf; rw [Int.toNat_natCast]⟩)) (List.mem_reverse.2 (List.mem_map.2 ⟨_, hall q' hq', by unfold pairOf; rw [Int.toNat_natCast]⟩)) he hk
  · rintro p p' ⟨q, hq, rfl⟩ ⟨q', hq', rfl⟩ e
    have i1 : idxI l (keyAt l q) = (q : Int) := by unfold idxI; rw [atCell_some l hs q hq]
    have i2 : idxI l (keyAt l q') = (q' : Int) := by unfold idxI; rw [atCell_some l hs q' hq']
    simp only [i1, i2, Int.toNat_natCast] at e
    rw [hP' q q' (by omega) (by omega) e]
theorem bw_all (l : List S78) (hs : Shape l) (hC : ConP (ptsOf l)) (ids : List Int) (dice : List S71) (hW : BW l ids dice ids.length 0) : ∀ q : Nat, q < l.length → (q : Int) ∈ ids := by
  have hI := bw_inv l hs hW
  have hpos := hs.pos
  intro q hq
  have h1 := hC (fun p => ∃ a : Nat, a < l.length ∧ (a : Int) ∈ ids ∧ keyAt l a = p) ⟨keyAt l 0, ⟨0, by omega, rfl⟩, 0, by omega, hI.one.1, rfl⟩ (fun p e hp he hpe hQ => by
    obtain ⟨a, ha, hai, rfl⟩ := hQ
    obtain ⟨b, hb, hbk⟩ := hpe
    obtain ⟨s, hs1, hs2⟩ := List.getElem_of_mem hai
    refine ⟨b, hb, hI.clo s a hs1 (by rw [List.getD_eq_getElem?_getD, List.getElem?_eq_getElem hs1, hs2]; rfl) e he (by omega) b hb hbk, hbk⟩) (keyAt l q) ⟨q, hq, rfl⟩
  obtain ⟨a, ha, hai, hak⟩ := h1
  rw [← hs.apart a q ha hq hak]
  exact hai
theorem net_in (l : List S78) (hs : Shape l) (h6 : l.length = 6) (ids : List Int) (dice : List S71) (hW : BW l ids dice ids.length 0) (hN : NetP (ptsOf l)) (hC : ConP (ptsOf l)) : PermB (dice.map (fun s => s.f0)) := by
  have hI := bw_inv l hs hW
  have hdl := hI.dl
  have hall := bw_all l hs hC ids dice hW
  obtain ⟨D, h1, h2⟩ := hN
  have hT := bw_tau l hs D h1 hW
  intro i hi
  simp only [List.length_map] at hi ⊢
  rw [getD_f0]
  have hok := hI.ok i (hall i (by omega))
  refine ⟨⟨hok.1.1, by have : (trip (dice.getD i z71)).1 ≤ 5 := hok.1.2; have e : (trip (dice.getD i z71)).1 = (dice.getD i z71).f0 := rfl; omega⟩, fun j hj hij e => ?_⟩
  rw [getD_f0] at e
  have a1 := hT i (hall i (by omega))
  have a2 := hT j (hall j (by omega))
  have : (D (keyAt l i)).1 = (D (keyAt l j)).1 := by
    rw [a1, a2]
    show tauI _ (dice.getD i z71).f0 = tauI _ (dice.getD j z71).f0
    rw [e]
  exact hij (hs.apart i j (by omega) (by omega) (h2 _ _ ⟨i, by omega, rfl⟩ ⟨j, by omega, rfl⟩ this))
/-! The flood of the first part. -/
def nbE (j : Nat) : Nat := match j with | 0 => 3 | 1 => 2 | 2 => 0 | _ => 1
theorem nb_key (l : List S78) (hs : Shape l) (q : Nat) (hq : q < l.length) (j : Nat) (hj : j < 4) : cellKey (cellAt (dsOf (cellAt l q)) j) = stp (keyAt l q) (nbE j) := by
  have h := hs.near q hq
  rcases four hj with rfl | rfl | rfl | rfl
  · show ((cellAt l q).f0, wrap64 ((cellAt l q).f1 - 1)) = ((cellAt l q).f0 + 0, (cellAt l q).f1 + -1)
    rw [wrap_id _ (by omega) (by omega), Prod.mk.injEq]; omega
  · show (wrap64 ((cellAt l q).f0 - 1), (cellAt l q).f1) = ((cellAt l q).f0 + -1, (cellAt l q).f1 + 0)
    rw [wrap_id _ (by omega) (by omega), Prod.mk.injEq]; omega
  · show (wrap64 ((cellAt l q).f0 + 1), (cellAt l q).f1) = ((cellAt l q).f0 + 1, (cellAt l q).f1 + 0)
    rw [wrap_id _ (by omega) (by omega), Prod.mk.injEq]; omega
  · show ((cellAt l q).f0, wrap64 ((cellAt l q).f1 + 1)) = ((cellAt l q).f0 + 0, (cellAt l q).f1 + 1)
    rw [wrap_id _ (by omega) (by omega), Prod.mk.injEq]; omega
structure PI (l : List S78) (out list : List Int) (t j : Nat) : Prop where
  dl : out.length = l.length
  one : 0 ≤ out.getD 0 0
  mem : ∀ q : Nat, q < l.length → 0 ≤ out.getD q 0 → out.getD q 0 = 0 ∧ (q : Int) ∈ list
  clo : ∀ s q0 : Nat, s < list.length → list.getD s 0 = (q0 : Int) → ∀ f, f < 4 → (s < t ∨ s = t ∧ f < j) → ∀ q : Nat, q < l.length → keyAt l q = stp (keyAt l q0) (nbE f) → 0 ≤ out.getD q 0
theorem pw_inv (l : List S78) (hs : Shape l) {out list : List Int} {t j : Nat} (h : PW l out list t j) : PI l out list t j := by
  have hpos := hs.pos
  induction h with
  | start =>
    refine ⟨by simp, by rw [getD_set _ _ _ _ (by simp; omega), if_pos rfl]; omega, fun q hq h0 => ?_, fun s q0 hs' hq0 f hf hc => ?_⟩
    · rw [getD_set _ _ _ _ (by simp; omega)] at h0 ⊢
      by_cases e : q = 0
      · subst e
        rw [if_pos rfl]
        exact ⟨rfl, by simp⟩
      · rw [if_neg e] at h0
        rw [List.getD_eq_getElem?_getD, List.getElem?_replicate, if_pos hq] at h0
        simp at h0
    · rcases hc with hc | hc <;> omega
  | pass out list t j q0 hW hj ht hq hq0 hall ih =>
    refine ⟨ih.dl, ih.one, ih.mem, fun s q1 hs' hq1 f hf hc q hql hk => ?_⟩
    by_cases hh : s = t ∧ f = j
    · obtain ⟨rfl, rfl⟩ := hh
      have : q1 = q0 := by rw [hq] at hq1; omega
      subst this
      exact hall q hql (hk.trans (nb_key l hs q1 hq0 f hf).symm)
    · exact ih.clo s q1 hs' hq1 f hf (by omega) q hql hk
  | new out list t j q0 p hW hj ht hq hq0 hp hpk hneg ih =>
    have hdl := ih.dl
    refine ⟨by rw [List.length_set]; exact hdl, ?_, fun q hql h0 => ?_, fun s q1 hs' hq1 f hf hc q hql hk => ?_⟩
    · rw [getD_set _ _ _ _ (by omega)]
      split
      · omega
      · exact ih.one
    · rw [getD_set _ _ _ _ (by omega)] at h0 ⊢
      by_cases e : q = p
      · subst e
        rw [if_pos rfl]
        exact ⟨rfl, by simp⟩
      · rw [if_neg e] at h0 ⊢
        exact ⟨(ih.mem q hql h0).1, List.mem_append_left _ (ih.mem q hql h0).2⟩
    · rw [getD_set _ _ _ _ (by omega)]
      by_cases e : q = p
      · rw [if_pos e]; omega
      · rw [if_neg e]
        by_cases hsl : s < list.length
        · rw [List.getD_eq_getElem?_getD, List.getElem?_append_left hsl, ← List.getD_eq_getElem?_getD] at hq1
          by_cases hh : s = t ∧ f = j
          · obtain ⟨rfl, rfl⟩ := hh
            have : q1 = q0 := by rw [hq] at hq1; omega
            subst this
            exact absurd (hs.apart q p hql hp (hk.trans ((nb_key l hs q1 hq0 f hf).symm.trans hpk.symm))) e
          · exact ih.clo s q1 hsl hq1 f hf (by omega) q hql hk
        · omega
  | turn out list t hW ih =>
    exact ⟨ih.dl, ih.one, ih.mem, fun s q1 hs' hq1 f hf hc q hql hk => ih.clo s q1 hs' hq1 f hf (by omega) q hql hk⟩
theorem parts_still (l : List S78) (hs : Shape l) (out : List Int) (ho : out.length = l.length) (h : ∀ q : Nat, q < l.length → 0 ≤ out.getD q 0) (d : Nat) : ∀ i : Nat, i + d = l.length → Ev (fun k => impl_parts.l1 k l out i) out := by
  have hN := hs.le
  induction d with
  | zero =>
    intro i hi
    exact Ev.step (f := fun _ => _) (fun k => by simp only [impl_parts.l1]; rfl) (ev_neg (by omega) (ev_const rfl))
  | succ d ih =>
    intro i hi
    refine Ev.step (f := fun _ => _) (fun k => by simp only [impl_parts.l1]; rfl) (ev_pos (by omega) (ev_pos (by omega) (ev_pos (show rd out (i : Int) ≥ 0 from h i (by omega)) ?_)))
    rw [wrap_succ i (by omega)]
    exact ih (i + 1) (by omega)
theorem conn_true (l : List S78) (hm : l.length ≤ maxLen) (hb : isShapeB l = true) (hC : ConP (ptsOf l)) : Ev (fun k => impl_IsConnected.f k l) true := by
  have hs := shape_of l hb
  have hpos := hs.pos
  have hN := hs.le
  have hneg : (List.replicate l.length (-1 : Int)).getD 0 0 < 0 := by
    rw [List.getD_eq_getElem?_getD, List.getElem?_replicate, if_pos (by omega)]; decide
  have hcount : negs ((List.replicate l.length (-1 : Int)).set 0 0) ≤ ((List.replicate l.length (-1 : Int)).set 0 0).length := List.countP_le_length
  simp only [List.length_set, List.length_replicate] at hcount
  have hF : Fine l ((List.replicate l.length (-1 : Int)).set 0 0) [0] := ⟨by simp, fun q hq => by rw [List.mem_singleton.1 hq]; omega, by simp only [List.length_cons, List.length_nil]; have := negs_set (List.replicate l.length (-1 : Int)) 0 0 (by simp; omega) hneg (by omega); have h2 : negs (List.replicate l.length (-1 : Int)) ≤ (List.replicate l.length (-1 : Int)).length := List.countP_le_length; simp only [List.length_replicate] at h2; omega⟩
  obtain ⟨out, g0, g1, _, _, g4, _⟩ := parts2 l hs 0 (by omega) (2 * negs ((List.replicate l.length (-1 : Int)).set 0 0) + 1) _ [0] 0 (by simp) (by simp) (fun _ => PW.start) hF
  obtain ⟨list, hW⟩ := g0 rfl
  have hI := pw_inv l hs hW
  have hall : ∀ q : Nat, q < l.length → 0 ≤ out.getD q 0 := fun q hq => by
    obtain ⟨a, ha, h0, hk⟩ := hC (fun p => ∃ a : Nat, a < l.length ∧ 0 ≤ out.getD a 0 ∧ keyAt l a = p) ⟨keyAt l 0, ⟨0, by omega, rfl⟩, 0, by omega, hI.one, rfl⟩ (fun p e hp he hpe hQ => by
      obtain ⟨a, ha, h0, rfl⟩ := hQ
      obtain ⟨b, hb, hbk⟩ := hpe
      obtain ⟨s, hs1, hs2⟩ := List.getElem_of_mem (hI.mem a ha h0).2
      obtain ⟨f, hf, hfe⟩ : ∃ f, f < 4 ∧ nbE f = e := by
        rcases four he with rfl | rfl | rfl | rfl
        · exact ⟨2, by decide, rfl⟩
        · exact ⟨3, by decide, rfl⟩
        · exact ⟨1, by decide, rfl⟩
        · exact ⟨0, by decide, rfl⟩
      exact ⟨b, hb, hI.clo s a hs1 (by rw [List.getD_eq_getElem?_getD, List.getElem?_eq_getElem hs1, hs2]; rfl) f hf (by omega) b hb (by rw [hfe]; exact hbk), hbk⟩) (keyAt l q) ⟨q, hq, rfl⟩
    rw [← hs.apart a q ha hq hk]
    exact h0
  have h1 := impl_shape_val l hm
  rw [hb] at h1
  have hp : Ev (fun k => impl_parts.f k l) out := by
    refine ev_pos ⟨⟨by omega, by omega⟩, fun c hc => ?_⟩ (Ev.step (f := fun _ => _) (fun k => by simp only [impl_parts.l1]; rfl) (ev_pos (by omega) (ev_pos (by first | omega | (simp; done) | (simp; omega)) (ev_neg (by show ¬ (List.replicate l.length (-1 : Int)).getD 0 0 ≥ 0; omega) ?_))))
    · obtain ⟨i, hi, rfl⟩ := List.getElem_of_mem hc
      have := hs.near i hi
      have e : l[i] = cellAt l i := by rw [show cellAt l i = l.getD i z78 from rfl, List.getD_eq_getElem?_getD, List.getElem?_eq_getElem hi]; rfl
      rw [e]
      exact ⟨⟨by omega, by omega⟩, by omega, by omega⟩
    · exact g4 out (parts_still l hs out g1 hall (l.length - 1) 1 (by omega))
  obtain ⟨m, m1, m2⟩ := max_loop out (by omega) (fun q hq => hall q (by omega)) (out.length - 1) 1 (rd out 0) (by omega) (hall 0 (by omega))
  have hmax : Ev (fun k => slices_Max_int64_int64.f k out) m := ev_neg (by omega) (ev_pos (by omega) m1)
  have hm0 : m = 0 := m2.2 ⟨(hI.mem 0 (by omega) hI.one).1, fun q _ hq => (hI.mem q (by omega) (hall q (by omega))).1⟩
  exact Ev.bind h1 (ev_pos rfl (Ev.bind hp (Ev.bind hmax (ev_pos hm0 (ev_const rfl)))))
/-! Permutations pass. -/
theorem perm_pass (F : List Int) (hF : F.length ≤ 64) (hp : PermB F) (d : Nat) : ∀ (n : Nat) (s : List Bool), n + d = F.length → s.length = 64 → (∀ i : Nat, n ≤ i → i < F.length → s.getD (F.getD i 0).toNat false = false) → Ev (fun k => impl_IsPermutation.l0 k F s n) true := by
  induction d with
  | zero =>
    intro n s hn hs h
    exact Ev.step (f := fun _ => _) (fun k => by simp only [impl_IsPermutation.l0]; rfl) (ev_neg (by omega) (ev_const rfl))
  | succ d ih =>
    intro n s hn hs h
    have hw : wrap64 ((F.length : Int) - 1) = (F.length : Int) - 1 := wrap_id _ (by omega) (by omega)
    have hb := (hp n (by omega)).1
    obtain ⟨v, hv⟩ := Int.eq_ofNat_of_zero_le hb.1
    have hrd : rd F (n : Int) = (v : Int) := hv
    have hin : (decide ((0 : Int) ≤ rd F (n : Int)) && decide (rd F (n : Int) ≤ wrap64 ((F.length : Int) - 1))) = true := by rw [hw, hrd, decide_eq_true (by omega), decide_eq_true (by omega)]; rfl
    have h0 := h n (Nat.le_refl _) (by omega)
    rw [hv, Int.toNat_natCast] at h0
    refine Ev.step (f := fun _ => _) (fun k => by simp only [impl_IsPermutation.l0]; rfl) ?_
    refine ev_pos (by omega) (ev_pos (by omega) (ev_some ((within_valC _ _ _).trans (congrArg some hin)) (ev_pos rfl (ev_pos ⟨by omega, by omega⟩ (ev_neg (by rw [hrd, Int.toNat_natCast, h0]; simp) ?_)))))
    rw [hrd, Int.toNat_natCast, wrap_succ n (by omega)]
    refine ih (n + 1) (s.set v true) (by omega) (by simpa using hs) (fun i hi hi2 => ?_)
    have hbi := (hp i hi2).1
    have hne := (hp i hi2).2 n (by omega) (by omega)
    rw [List.getD_eq_getElem?_getD, List.getElem?_set, if_neg (by omega), ← List.getD_eq_getElem?_getD]
    exact h i (by omega) hi2
theorem perm_true (F : List Int) (hF : F.length ≤ 64) (hp : PermB F) : Ev (fun k => impl_IsPermutation.f k F) true :=
  ev_neg (by omega) (perm_pass F hF hp F.length 0 (List.replicate 64 false) (by omega) (by simp) (fun i _ _ => by
    rw [List.getD_eq_getElem?_getD, List.getElem?_replicate]
    split <;> rfl))
/-! Nets in all forms. -/
def invT (t : Int) (p : Pt) : Pt := if t = 0 then p else if t = 1 then rotP p else if t = 2 then rotP (rotP p) else if t = 3 then rotP (rotP (rotP p)) else if t = 4 then flipP p else if t = 5 then flipP (rotP p) else if t = 6 then flipP (rotP (rotP p)) else flipP (rotP (rotP (rotP p)))
theorem tI_inv (t : Int) (ht : isT t) (c : S78) (p : Pt) : cellKey (tI t c) = p ↔ cellKey c = invT t p := by
  obtain ⟨x, y⟩ := c
  obtain ⟨v, w⟩ := p
  rcases isT_cases ht with rfl | rfl | rfl | rfl | rfl | rfl | rfl | rfl <;> simp [tI, cellKey, invT, rotP, flipP] <;> omega
theorem pts_mem (l : List S78) (p : Pt) : ptsOf l p ↔ ∃ c ∈ l, cellKey c = p := by
  constructor
  · rintro ⟨q, hq, rfl⟩
    exact ⟨_, cell_mem l q hq, rfl⟩
  · rintro ⟨c, hc, rfl⟩
    obtain ⟨i, hi, rfl⟩ := List.getElem_of_mem hc
    exact ⟨i, hi, by show cellKey (l.getD i _) = _; rw [List.getD_eq_getElem?_getD, List.getElem?_eq_getElem hi]; rfl⟩
theorem net_inv (t : Int) (ht : isT t) (M : Pt → Prop) (h : NetP M) : NetP (fun p => M (invT t p)) := by
  rcases isT_cases ht with rfl | rfl | rfl | rfl | rfl | rfl | rfl | rfl
  · exact h
  · exact net_rot _ h
  · exact net_rot _ (net_rot _ h)
  · exact net_rot _ (net_rot _ (net_rot _ h))
  · exact net_flip _ h
  · exact net_rot _ (net_flip _ h)
  · exact net_rot _ (net_rot _ (net_flip _ h))
  · exact net_rot _ (net_rot _ (net_rot _ (net_flip _ h)))
theorem con_inv (t : Int) (ht : isT t) (M : Pt → Prop) (h : ConP M) : ConP (fun p => M (invT t p)) := by
  rcases isT_cases ht with rfl | rfl | rfl | rfl | rfl | rfl | rfl | rfl
  · exact h
  · exact con_rot _ h
  · exact con_rot _ (con_rot _ h)
  · exact con_rot _ (con_rot _ (con_rot _ h))
  · exact con_flip _ h
  · exact con_rot _ (con_flip _ h)
  · exact con_rot _ (con_rot _ (con_flip _ h))
  · exact con_rot _ (con_rot _ (con_rot _ (con_flip _ h)))
theorem pts_form (t : Int) (ht : isT t) (l : List S78) (h1 : 1 ≤ l.length) (hl : nearC 1000000 l) : ∃ a b : Int, ptsOf (formL t l) = fun p => ptsOf l (invT t (movP a b p)) := by
  rw [formL_eq t ht l h1 hl]
  have hM : nearC 1000000 (sortC (l.map (tI t))) := near_perm (sortC_perm _) (tI_near t ht _ l hl)
  have hM1 : 1 ≤ (sortC (l.map (tI t))).length := by rw [sortC_len, List.length_map]; exact h1
  refine ⟨(cornC (sortC (l.map (tI t)))).f0, (cornC (sortC (l.map (tI t)))).f1, funext (fun p => propext ?_)⟩
  generalize cornC (sortC (l.map (tI t))) = u
  rw [pts_mem, pts_mem]
  constructor
  · rintro ⟨c, hc, rfl⟩
    obtain ⟨d, hd, rfl⟩ := List.mem_map.1 hc
    obtain ⟨c', hc', rfl⟩ := List.mem_map.1 ((sortC_perm _).mem_iff.1 hd)
    refine ⟨c', hc', (tI_inv t ht c' _).1 ?_⟩
    generalize tI t c' = d
    obtain ⟨x, y⟩ := d
    simp only [cellKey, subC, movP, Prod.mk.injEq]
    omega
  · rintro ⟨c', hc', hk⟩
    have hk' := (tI_inv t ht c' _).2 hk
    refine ⟨subC u (tI t c'), List.mem_map.2 ⟨_, (sortC_perm _).mem_iff.2 (List.mem_map.2 ⟨c', hc', rfl⟩), rfl⟩, ?_⟩
    generalize tI t c' = d at hk'
    obtain ⟨x, y⟩ := d
    obtain ⟨v, w⟩ := p
    simp only [cellKey, subC, movP, Prod.mk.injEq] at hk' ⊢
    omega
/-! A permutation of six numbers takes every value once. -/
theorem pig : ∀ (n : Nat) (xs : List Int), xs.Nodup → (∀ x ∈ xs, 0 ≤ x ∧ x < (n : Int)) → xs.length ≤ n
  | 0, xs, _, h => by
    cases xs with
    | nil => simp
    | cons x xs => have := h x (by simp); omega
  | n + 1, xs, hn, h => by
    have h1 := pig n (xs.erase (n : Int)) (hn.erase _) (fun x hx => by
      have h2 := (hn.mem_erase_iff).1 hx
      have h3 := h x h2.2
      have h4 := h2.1
      omega)
    rw [List.length_erase] at h1
    split at h1 <;> omega
theorem perm_hits (F : List Int) (hp : PermB F) (v : Int) (h0 : 0 ≤ v) (h1 : v < (F.length : Int)) : ∃ q : Nat, q < F.length ∧ F.getD q 0 = v := by
  have get : ∀ (i : Nat) (hi : i < F.length), F[i] = F.getD i 0 := fun i hi => by rw [List.getD_eq_getElem?_getD, List.getElem?_eq_getElem hi]; rfl
  by_cases hv : v ∈ F
  · obtain ⟨q, hq, e⟩ := List.getElem_of_mem hv
    exact ⟨q, hq, by rw [← get q hq]; exact e⟩
  · have hn : F.Nodup := by
      rw [List.nodup_iff_pairwise_ne, List.pairwise_iff_getElem]
      intro i j hi hj hij
      rw [get i hi, get j hj]
      exact (hp i hi).2 j hj (by omega)
    have h2 := pig F.length (v :: F) (List.nodup_cons.2 ⟨hv, hn⟩) (fun x hx => by
      rcases List.mem_cons.1 hx with rfl | hx
      · exact ⟨h0, h1⟩
      · obtain ⟨i, hi, rfl⟩ := List.getElem_of_mem hx
        rw [get i hi]
        exact (hp i hi).1)
    simp only [List.length_cons] at h2
    omega
theorem opp_index (F : List Int) (hF : F.length = 6) (v : Int) (q : Nat) (hq : q < 6) (hv : F.getD q 0 = v) (d : Nat) : ∀ n : Nat, n + d = q → (∀ i : Nat, n ≤ i → i < q → F.getD i 0 ≠ v) → Ev (fun k => slices_Index_int64_int64.l0 k F v (F.length : Int) n) (q : Int) := by
  induction d with
  | zero =>
    intro n hn _
    obtain rfl : n = q := by omega
    exact Ev.step (f := fun _ => _) (fun k => by simp only [slices_Index_int64_int64.l0]; rfl) (ev_pos (by omega) (ev_pos (by omega) (ev_pos (by omega) (ev_pos hv.symm (ev_const rfl)))))
  | succ d ih =>
    intro n hn hx
    refine Ev.step (f := fun _ => _) (fun k => by simp only [slices_Index_int64_int64.l0]; rfl) (ev_pos (by omega) (ev_pos (by omega) (ev_pos (by omega) ?_)))
    refine ev_neg (fun e => hx n (by omega) (by omega) (Eq.symm e)) ?_
    rw [wrap_succ n (by omega)]
    exact ih (n + 1) (by omega) (fun i h1 h2 => hx i (by omega) h2)
theorem opp_in (F : List Int) (hF : F.length = 6) (i q : Nat) (hi : i < 6) (hq : q < 6) (hv : ∀ n : Nat, n < 6 → (F.getD n 0 = wrap64 (5 - F.getD i 0) ↔ n = q)) (out : List Int) (ho : out.length ≤ 6) (r : List Int × Int) (h : Ev (fun k => spec_OppositeCells.l0 k F (out ++ [(q : Int)]) ((i : Int) + 1)) r) (d : Nat) :
    ∀ (n : Nat), n + d = 6 → (n ≤ q → Ev (fun k => spec_OppositeCells.l1 k F out i n) r) ∧ (q < n → Ev (fun k => spec_OppositeCells.l1 k F (out ++ [(q : Int)]) i n) r) := by
  have hw : wrap64 ((i : Int) + 1) = (i : Int) + 1 := wrap_id _ (by omega) (by omega)
  induction d with
  | zero =>
    intro n hn
    refine ⟨fun _ => by omega, fun _ => Ev.step (f := fun _ => _) (fun k => by simp only [spec_OppositeCells.l1]; rfl) (ev_neg (by omega) ?_)⟩
    rw [hw]
    exact h
  | succ d ih =>
    intro n hn
    obtain ⟨g1, g2⟩ := ih (n + 1) (by omega)
    refine ⟨fun hq1 => ?_, fun hq1 => ?_⟩
    · refine Ev.step (f := fun _ => _) (fun k => by simp only [spec_OppositeCells.l1]; rfl) (ev_pos (by omega) (ev_pos (by omega) (ev_pos (by omega) (ev_pos (by omega) (ev_pos (by omega) ?_)))))
      by_cases e : n = q
      · subst e
        refine ev_pos ((hv n hq).2 rfl) (ev_pos (by omega) ?_)
        rw [wrap_succ n (by omega)]
        exact g2 (by omega)
      · refine ev_neg (fun x => e ((hv n (by omega)).1 x)) ?_
        rw [wrap_succ n (by omega)]
        exact g1 (by omega)
    · refine Ev.step (f := fun _ => _) (fun k => by simp only [spec_OppositeCells.l1]; rfl) (ev_pos (by omega) (ev_pos (by omega) (ev_pos (by omega) (ev_pos (by omega) (ev_pos (by omega) ?_)))))
      refine ev_neg (fun x => absurd ((hv n (by omega)).1 x) (by omega)) ?_
      rw [wrap_succ n (by omega)]
      exact g2 (by omega)
theorem opp_out (F : List Int) (hF : F.length = 6) (hp : PermB F) (d : Nat) : ∀ (i : Nat) (out : List Int), i + d = 6 → out.length = i → (∀ j : Nat, j < i → ∃ q : Nat, q < 6 ∧ out.getD j 0 = (q : Int) ∧ F.getD q 0 = 5 - F.getD j 0) → ∃ o : List Int, o.length = 6 ∧ (∀ j : Nat, j < 6 → ∃ q : Nat, q < 6 ∧ o.getD j 0 = (q : Int) ∧ F.getD q 0 = 5 - F.getD j 0) ∧ Ev (fun k => impl_OppositeCells.l0 k F out F (F.length : Int) i) (o, 0) ∧ Ev (fun k => spec_OppositeCells.l0 k F out i) (o, 0) := by
  induction d with
  | zero =>
    intro i out hi ho hh
    obtain rfl : i = 6 := by omega
    exact ⟨out, ho, hh, Ev.step (f := fun _ => _) (fun k => by simp only [impl_OppositeCells.l0]; rfl) (ev_neg (by omega) (ev_const rfl)), Ev.step (f := fun _ => _) (fun k => by simp only [spec_OppositeCells.l0]; rfl) (ev_neg (by omega) (ev_const rfl))⟩
  | succ d ih =>
    intro i out hi ho hh
    have hb := (hp i (by omega)).1
    have hw : wrap64 (5 - F.getD i 0) = 5 - F.getD i 0 := wrap_id _ (by omega) (by omega)
    obtain ⟨q, q1, q2⟩ := perm_hits F hp (5 - F.getD i 0) (by omega) (by omega)
    obtain ⟨o, r0, r1, r2, r3⟩ := ih (i + 1) (out ++ [(q : Int)]) (by omega) (by simp [ho]) (fun j hj => by
      by_cases e : j = i
      · subst e
        exact ⟨q, by omega, by rw [List.getD_eq_getElem?_getD, List.getElem?_append_right (by omega), ho]; simp, q2⟩
      · obtain ⟨a, a1, a2, a3⟩ := hh j (by omega)
        exact ⟨a, a1, by rw [List.getD_eq_getElem?_getD, List.getElem?_append_left (by omega), ← List.getD_eq_getElem?_getD]; exact a2, a3⟩)
    refine ⟨o, r0, r1, ?_, ?_⟩
    · refine Ev.step (f := fun _ => _) (fun k => by simp only [impl_OppositeCells.l0]; rfl) (ev_pos (by omega) (ev_pos (by omega) (ev_pos (by omega) ?_)))
      rw [show rd F (i : Int) = F.getD i 0 from rfl, hw]
      refine Ev.bind (opp_index F hF _ q (by omega) q2 q 0 (by omega) (fun j _ hj he => (hp j (by omega)).2 q q1 (by omega) (he.trans q2.symm))) (ev_pos (by omega) ?_)
      rw [wrap_succ i (by omega)]
      exact r2
    · refine Ev.step (f := fun _ => _) (fun k => by simp only [spec_OppositeCells.l0]; rfl) (ev_pos (by omega) ?_)
      refine (opp_in F hF i q (by omega) (by omega) (fun n hn => ⟨fun e => ?_, fun e => ?_⟩) out (by omega) (o, 0) (by rw [show (i : Int) + 1 = ((i + 1 : Nat) : Int) by omega]; exact r3) 6 0 (by omega)).1 (by omega)
      · by_cases he : n = q
        · exact he
        · exact absurd ((e.trans hw).trans q2.symm) ((hp n (by omega)).2 q q1 he)
      · subst e
        rw [hw]
        exact q2
/-! The drawing of numbers: whatever the code, a number below the bound comes, and the source stays sound. -/
structure St (code : List Int) (p seed : Int) : Prop where
  byte : ∀ x ∈ code, 0 ≤ x ∧ x ≤ 255
  len : code.length ≤ 4096
  at0 : 0 ≤ p
  at1 : p ≤ (code.length : Int)
  s0 : 0 ≤ seed
  s1 : seed < 2147483647
theorem tmod_in (x n : Int) (hx : 0 ≤ x) (hn : 0 < n) : 0 ≤ Int.tmod x n ∧ Int.tmod x n < n := by
  rw [Int.tmod_eq_emod_of_nonneg hx]
  exact ⟨Int.emod_nonneg _ (by omega), Int.emod_lt_of_pos _ hn⟩
theorem rd_byte (code : List Int) (h : ∀ x ∈ code, 0 ≤ x ∧ x ≤ 255) (i : Int) : 0 ≤ rd code i ∧ rd code i ≤ 255 := by
  unfold rd
  rw [List.getD_eq_getElem?_getD]
  cases hx : code[i.toNat]? with
  | none => simp
  | some v => exact h v (List.mem_of_getElem? hx)
theorem seed_step (seed : Int) (h0 : 0 ≤ seed) (h1 : seed < 2147483647) : 0 ≤ Int.tmod (wrap64 (wrap64 (seed * 48271) + 29)) 2147483647 ∧ Int.tmod (wrap64 (wrap64 (seed * 48271) + 29)) 2147483647 < 2147483647 := by
  rw [wrap_id (seed * 48271) (by omega) (by omega), wrap_id _ (by omega) (by omega)]
  exact tmod_in _ _ (by omega) (by omega)
theorem next_some (code : List Int) (p seed n : Int) (h : St code p seed) : ∃ x a s, spec_l01Next.f code p seed n = some (x, a, s) ∧ St code a s ∧ 0 ≤ x ∧ (1 < n → x < n) ∧ (n ≤ 1 → x = 0) := by
  unfold spec_l01Next.f
  by_cases c1 : n ≤ 1
  · exact ⟨0, p, seed, if_pos c1, h, Int.le_refl _, fun h => by omega, fun _ => rfl⟩
  · rw [if_neg c1]
    have hs := seed_step seed h.s0 h.s1
    generalize Int.tmod (wrap64 (wrap64 (seed * 48271) + 29)) 2147483647 = z at hs
    have hlen := h.len
    have ha0 := h.at0
    have ha1 := h.at1
    have hn0 : ¬ n = 0 := by omega
    by_cases c2 : p < (code.length : Int)
    · rw [if_pos c2, if_pos ha0]
      have e1 : wrap64 (p + 1) = p + 1 := wrap_id _ (by omega) (by omega)
      have e2 : wrap64 (p + 1 - 1) = p := by rw [wrap_id _ (by omega) (by omega)]; omega
      have hst : St code (p + 1) z := ⟨h.byte, hlen, by omega, by omega, hs.1, hs.2⟩
      have hb := rd_byte code h.byte p
      rw [e1, e2]
      have big : ∀ y : Int, 0 ≤ y ∧ y ≤ 255 → ∃ x a s, (if n = 0 then (none : Option (Int × Int × Int)) else some (Int.tmod (wrap64 (wrap64 (Int.tdiv z 31) + wrap64 y)) n, p + 1, z)) = some (x, a, s) ∧ St code a s ∧ 0 ≤ x ∧ (1 < n → x < n) ∧ (n ≤ 1 → x = 0) := by
        intro y hy
        rw [if_neg hn0]
        have hz : Int.tdiv z 31 = z / 31 := Int.tdiv_eq_ediv_of_nonneg hs.1
        rw [hz, wrap_id (z / 31) (by omega) (by omega), wrap_id y (by omega) (by omega), wrap_id _ (by omega) (by omega)]
        have := tmod_in (z / 31 + y) n (by omega) (by omega)
        exact ⟨_, _, _, rfl, hst, this.1, fun _ => this.2, fun h => by omega⟩
      by_cases c3 : n ≤ 256
      · rw [if_pos c3]
        by_cases c4 : Int.tmod (p + 1) 2 = 0
        · rw [if_pos c4, if_pos ha0, if_pos c2, if_neg hn0, wrap_id (rd code p) (by omega) (by omega)]
          have := tmod_in (rd code p) n hb.1 (by omega)
          exact ⟨_, _, _, rfl, hst, this.1, fun _ => this.2, fun h => by omega⟩
        · rw [if_neg c4]
          exact big _ hb
      · rw [if_neg c3]
        exact big _ hb
    · rw [if_neg c2, if_neg hn0]
      have hz : Int.tdiv z 31 = z / 31 := Int.tdiv_eq_ediv_of_nonneg hs.1
      rw [hz, wrap_id _ (by omega) (by omega)]
      have := tmod_in (z / 31) n (by omega) (by omega)
      exact ⟨_, _, _, rfl, ⟨h.byte, hlen, ha0, ha1, hs.1, hs.2⟩, this.1, fun _ => this.2, fun h => by omega⟩
theorem from_loop (code : List Int) (hb : ∀ x ∈ code, 0 ≤ x ∧ x ≤ 255) (hl : code.length ≤ 4096) (d : Nat) : ∀ (i : Nat) (seed : Int), i + d = 64 → 0 ≤ seed → seed < 2147483647 →
    ∃ s, Ev (fun k => spec_l01From.l0 k code i code 0 seed) (code, 0, s) ∧ 0 ≤ s ∧ s < 2147483647 := by
  induction d with
  | zero =>
    intro i seed hi h0 h1
    refine ⟨seed, Ev.step (f := fun _ => _) (fun k => by simp only [spec_l01From.l0]; rfl) ?_, h0, h1⟩
    by_cases c : (i : Int) < (code.length : Int)
    · exact ev_pos c (ev_neg (by omega) (ev_const rfl))
    · exact ev_neg c (ev_const rfl)
  | succ d ih =>
    intro i seed hi h0 h1
    by_cases c : (i : Int) < (code.length : Int)
    · have hr := rd_byte code hb i
      have hw : 0 ≤ Int.tmod (wrap64 (wrap64 (seed * 47) + wrap64 (rd code i))) 2147483647 ∧ Int.tmod (wrap64 (wrap64 (seed * 47) + wrap64 (rd code i))) 2147483647 < 2147483647 := by
        rw [wrap_id (seed * 47) (by omega) (by omega), wrap_id (rd code i) (by omega) (by omega), wrap_id _ (by omega) (by omega)]
        exact tmod_in _ _ (by omega) (by omega)
      obtain ⟨s, g1, g2, g3⟩ := ih (i + 1) _ (by omega) hw.1 hw.2
      refine ⟨s, Ev.step (f := fun _ => _) (fun k => by simp only [spec_l01From.l0]; rfl) (ev_pos c (ev_pos (by omega) (ev_pos (by omega) ?_))), g2, g3⟩
      rw [wrap_succ i (by omega)]
      exact g1
    · exact ⟨seed, Ev.step (f := fun _ => _) (fun k => by simp only [spec_l01From.l0]; rfl) (ev_neg c (ev_const rfl)), h0, h1⟩
theorem from_some (code : List Int) (hb : ∀ x ∈ code, 0 ≤ x ∧ x ≤ 255) (hl : code.length ≤ 4096) : ∃ s, Ev (fun k => spec_l01From.f k code) (code, 0, s) ∧ St code 0 s := by
  obtain ⟨s, h1, h2, h3⟩ := from_loop code hb hl 64 0 61003 (by omega) (by omega) (by omega)
  exact ⟨s, h1, ⟨hb, hl, Int.le_refl _, by omega, h2, h3⟩⟩
/-! The drawn shapes: whatever the code, some list of at most 50 cells comes out. -/
theorem index_any (l : List S78) (hl : l.length ≤ 1000) (c : S78) (d : Nat) : ∀ n : Nat, n + d = l.length → ∃ v : Int, Ev (fun k => spec_l02Index.l0 k l n c.f0 c.f1) v ∧ (v < 0 → ∀ i, n ≤ i → i < l.length → l.getD i z78 ≠ c) ∧ -1 ≤ v ∧ v < (l.length : Int) := by
  induction d with
  | zero =>
    intro n hd
    exact ⟨-1, Ev.step (f := fun _ => _) (fun k => by simp only [spec_l02Index.l0]; rfl) (ev_neg (by omega) (ev_const rfl)), fun _ i h1 h2 => by omega, by omega, by omega⟩
  | succ d ih =>
    intro n hd
    obtain ⟨v, hv, h1, h2, h3⟩ := ih (n + 1) (by omega)
    by_cases e : l.getD n z78 = c
    · refine ⟨(n : Int), Ev.step (f := fun _ => _) (fun k => by simp only [spec_l02Index.l0]; rfl) (ev_pos (by omega) (ev_pos (by omega) (ev_pos ?_ (ev_const rfl)))), fun h => by omega, by omega, by omega⟩
      rw [show rd_T78 l (n : Int) = l.getD n z78 from rfl, e]; simp
    · refine ⟨v, Ev.step (f := fun _ => _) (fun k => by simp only [spec_l02Index.l0]; rfl) (ev_pos (by omega) (ev_pos (by omega) (ev_neg ?_ ?_))), fun h i hi hil => ?_, h2, h3⟩
      · rw [show rd_T78 l (n : Int) = l.getD n z78 from rfl]
        intro h
        simp only [Bool.and_eq_true, beq_iff_eq] at h
        apply e
        generalize l.getD n z78 = a at h
        obtain ⟨x, y⟩ := a
        obtain ⟨z, w⟩ := c
        simp only at h
        rw [h.1, h.2]
      · rw [wrap_succ n (by omega)]; exact hv
      · by_cases e2 : i = n
        · subst e2; exact e
        · exact h1 h i (by omega) hil
theorem index_any' (l : List S78) (hl : l.length ≤ 1000) (c : S78) : ∃ v : Int, Ev (fun k => spec_l02Index.f k l c.f0 c.f1) v ∧ (c ∉ l → v < 0) := by
  obtain ⟨v, h1, h2, h3, h4⟩ := index_any l hl c l.length 0 (by omega)
  by_cases h : c ∈ l
  · exact ⟨v, h1, fun q => absurd h q⟩
  · by_cases hv : v < 0
    · exact ⟨v, h1, fun _ => hv⟩
    · exfalso
      -- the loop answers an index only where the cell stands
      have key : ∀ d n : Nat, n + d = l.length → ∃ u : Int, u < 0 ∧ Ev (fun k => spec_l02Index.l0 k l n c.f0 c.f1) u := by
        intro d
        induction d with
        | zero =>
          intro n hd
          exact ⟨-1, by omega, Ev.step (f := fun _ => _) (fun k => by simp only [spec_l02Index.l0]; rfl) (ev_neg (by omega) (ev_const rfl))⟩
        | succ d ih =>
          intro n hd
          obtain ⟨u, hu, he⟩ := ih (n + 1) (by omega)
          refine ⟨u, hu, Ev.step (f := fun _ => _) (fun k => by simp only [spec_l02Index.l0]; rfl) (ev_pos (by omega) (ev_pos (by omega) (ev_neg ?_ ?_)))⟩
          · rw [show rd_T78 l (n : Int) = l.getD n z78 from rfl]
            intro hq
            simp only [Bool.and_eq_true, beq_iff_eq] at hq
            have hm := getD_mem l z78 n (by omega)
            apply h
            have : l.getD n z78 = c := by
              generalize l.getD n z78 = a at hq
              obtain ⟨x, y⟩ := a
              obtain ⟨z, w⟩ := c
              simp only at hq
              rw [hq.1, hq.2]
            rw [← this]; exact hm
          · rw [wrap_succ n (by omega)]; exact he
      obtain ⟨u, hu, he⟩ := key l.length 0 (by omega)
      have := ev_uniq h1 he
      omega
theorem insC_ne (c : S78) (l : List S78) : insC c l ≠ [] := fun h => by
  have := insC_len c l
  rw [h] at this
  simp at this
theorem insC_near (b : Int) (c : S78) (l : List S78) (hc : (-b ≤ c.f0 ∧ c.f0 ≤ b) ∧ (-b ≤ c.f1 ∧ c.f1 ≤ b)) (hl : nearC b l) : nearC b (insC c l) := by
  intro d hd
  rcases List.mem_cons.1 ((insC_perm c l).mem_iff.1 hd) with rfl | hd
  · exact hc
  · exact hl d hd
theorem neigh1 (b : Int) (x0 : List S78) (h0 : x0.length ≤ 100) (i : Nat) (ar : List S78) (ha : ar.length = 4) (hn : nearC b ar) (P : List S78 → Prop) (d : Nat) : ∀ (j : Nat) (out : List S78), j + d = 4 → nearC b out → out.length + d ≤ 900 →
    (∀ out' : List S78, nearC b out' → out'.length ≤ out.length + d → (out ≠ [] ∨ (∃ q, j ≤ q ∧ q < 4 ∧ ar.getD q z78 ∉ x0) → out' ≠ []) → ∃ r, Ev (fun k => spec_l02Neighbours.l0 k x0 out' (wrap64 ((i : Int) + 1))) r ∧ P r) → ∃ r, Ev (fun k => spec_l02Neighbours.l1 k x0 out i ar j) r ∧ P r := by
  induction d with
  | zero =>
    intro j out hd hno hl hk
    obtain ⟨r, h1, h2⟩ := hk out hno (by omega) (fun h => by
      rcases h with h | ⟨q, h3, h4, _⟩
      · exact h
      · omega)
    exact ⟨r, Ev.step (f := fun _ => _) (fun k => by simp only [spec_l02Neighbours.l1]; rfl) (ev_neg (by omega) h1), h2⟩
  | succ d ih =>
    intro j out hd hno hl hk
    have hm := getD_mem ar z78 j (by omega)
    have hnj := hn _ hm
    obtain ⟨v, hv, hv2⟩ := index_any' x0 (by omega) (ar.getD j z78)
    obtain ⟨u, hu, hu2⟩ := index_any' out (by omega) (ar.getD j z78)
    have J : ∀ out' : List S78, nearC b out' → out'.length ≤ out.length + 1 → (out ≠ [] ∨ (ar.getD j z78 ∉ x0) → out' ≠ []) → ∃ r, Ev (fun k => spec_l02Neighbours.l1 k x0 out' i ar ((j + 1 : Nat) : Int)) r ∧ P r := fun out' h1 h2 h3 => by
      refine ih (j + 1) out' (by omega) h1 (by omega) (fun o2 g1 g2 g3 => hk o2 g1 (by omega) (fun h => ?_))
      rcases h with h | ⟨q, h4, h5, h6⟩
      · exact g3 (.inl (h3 (.inl h)))
      · by_cases e : q = j
        · subst e; exact g3 (.inl (h3 (.inr h6)))
        · exact g3 (.inr ⟨q, by omega, h5, h6⟩)
    by_cases c1 : v < 0
    · by_cases c2 : u < 0
      · obtain ⟨r, h1, h2⟩ := J (insC (ar.getD j z78) out) (insC_near b _ _ hnj hno) (by rw [insC_len]; omega) (fun _ => insC_ne _ _)
        refine ⟨r, Ev.step (f := fun _ => _) (fun k => by simp only [spec_l02Neighbours.l1]; rfl) (ev_pos (by omega) (ev_pos (by omega) (ev_pos (by omega) (Ev.bind hv (ev_pos c1 (Ev.bind hu (ev_pos c2 (Ev.bind (insert_val out _ (by omega)) ?_)))))))), h2⟩
        rw [wrap_succ j (by omega)]; exact h1
      · obtain ⟨r, h1, h2⟩ := J out hno (by omega) (fun h => by
          rcases h with h | h
          · exact h
          · intro e
            subst e
            exact c2 (hu2 (by simp)))
        refine ⟨r, Ev.step (f := fun _ => _) (fun k => by simp only [spec_l02Neighbours.l1]; rfl) (ev_pos (by omega) (ev_pos (by omega) (ev_pos (by omega) (Ev.bind hv (ev_pos c1 (Ev.bind hu (ev_neg c2 ?_))))))), h2⟩
        rw [wrap_succ j (by omega)]; exact h1
    · obtain ⟨r, h1, h2⟩ := J out hno (by omega) (fun h => by
        rcases h with h | h
        · exact h
        · exact absurd (hv2 h) c1)
      refine ⟨r, Ev.step (f := fun _ => _) (fun k => by simp only [spec_l02Neighbours.l1]; rfl) (ev_pos (by omega) (ev_pos (by omega) (ev_pos (by omega) (Ev.bind hv (ev_neg c1 ?_))))), h2⟩
      rw [wrap_succ j (by omega)]; exact h1
theorem neigh0 (b : Int) (hb : 0 ≤ b ∧ b ≤ 1000) (x0 : List S78) (h0 : x0.length ≤ 100) (hx : nearC b x0) (d : Nat) : ∀ (n : Nat) (out : List S78), n + d = x0.length → nearC (b + 1) out → out.length + 4 * d ≤ 800 →
    ∃ r, Ev (fun k => spec_l02Neighbours.l0 k x0 out n) r ∧ nearC (b + 1) r ∧ r.length ≤ out.length + 4 * d ∧ (out ≠ [] ∨ (∃ i, n ≤ i ∧ i < x0.length ∧ (⟨(x0.getD i z78).f0, (x0.getD i z78).f1 - 1⟩ : S78) ∉ x0) → r ≠ []) := by
  induction d with
  | zero =>
    intro n out hd hno hl
    exact ⟨out, Ev.step (f := fun _ => _) (fun k => by simp only [spec_l02Neighbours.l0]; rfl) (ev_neg (by omega) (ev_const rfl)), hno, by omega, fun h => by
      rcases h with h | ⟨i, h1, h2, _⟩
      · exact h
      · omega⟩
  | succ d ih =>
    intro n out hd hno hl
    have hc := hx _ (getD_mem x0 z78 n (by omega))
    have hA : spec_l02Around.f (x0.getD n z78).f0 (x0.getD n z78).f1 = some [⟨(x0.getD n z78).f0, (x0.getD n z78).f1 - 1⟩, ⟨(x0.getD n z78).f0 - 1, (x0.getD n z78).f1⟩, ⟨(x0.getD n z78).f0 + 1, (x0.getD n z78).f1⟩, ⟨(x0.getD n z78).f0, (x0.getD n z78).f1 + 1⟩] := by
      unfold spec_l02Around.f
      rw [wrap_id _ (by omega) (by omega), wrap_id _ (by omega) (by omega), wrap_id _ (by omega) (by omega), wrap_id _ (by omega) (by omega)]
    obtain ⟨r, h1, h2⟩ := neigh1 (b + 1) x0 h0 n [⟨(x0.getD n z78).f0, (x0.getD n z78).f1 - 1⟩, ⟨(x0.getD n z78).f0 - 1, (x0.getD n z78).f1⟩, ⟨(x0.getD n z78).f0 + 1, (x0.getD n z78).f1⟩, ⟨(x0.getD n z78).f0, (x0.getD n z78).f1 + 1⟩] rfl (fun e he => by
        simp only [List.mem_cons, List.not_mem_nil, or_false] at he
        rcases he with rfl | rfl | rfl | rfl <;> (simp only; omega))
      (fun r => nearC (b + 1) r ∧ r.length ≤ out.length + 4 * (d + 1) ∧ (out ≠ [] ∨ (∃ i, n ≤ i ∧ i < x0.length ∧ (⟨(x0.getD i z78).f0, (x0.getD i z78).f1 - 1⟩ : S78) ∉ x0) → r ≠ []))
      4 0 out (by omega) hno (by omega) (fun o2 g1 g2 g3 => by
        obtain ⟨r, r1, r2, r3, r4⟩ := ih (n + 1) o2 (by omega) g1 (by omega)
        rw [wrap_succ n (by omega)]
        refine ⟨r, r1, r2, by omega, fun h => ?_⟩
        rcases h with h | ⟨i, h4, h5, h6⟩
        · exact r4 (.inl (g3 (.inl h)))
        · by_cases e : i = n
          · subst e
            exact r4 (.inl (g3 (.inr ⟨0, by omega, by omega, h6⟩)))
          · exact r4 (.inr ⟨i, by omega, h5, h6⟩))
    exact ⟨r, Ev.step (f := fun _ => _) (fun k => by simp only [spec_l02Neighbours.l0]; rfl) (ev_pos (by omega) (ev_pos (by omega) (ev_some hA h1))), h2⟩
theorem neigh_val (b : Int) (hb : 0 ≤ b ∧ b ≤ 1000) (x0 : List S78) (h0 : x0.length ≤ 100) (h1 : 1 ≤ x0.length) (hx : nearC b x0) : ∃ r, Ev (fun k => spec_l02Neighbours.f k x0) r ∧ nearC (b + 1) r ∧ r.length ≤ 4 * x0.length ∧ 1 ≤ r.length := by
  obtain ⟨r, r1, r2, r3, r4⟩ := neigh0 b hb x0 h0 hx x0.length 0 [] (by omega) (fun c hc => by simp at hc) (by simp; omega)
  refine ⟨r, r1, r2, by simpa using r3, ?_⟩
  obtain ⟨c, hc, ec⟩ := (corn_mem x0 h1).2
  obtain ⟨i, hi, e⟩ := List.getElem_of_mem hc
  have e1 : x0.getD i z78 = c := by rw [List.getD_eq_getElem?_getD, List.getElem?_eq_getElem hi, Option.getD_some, e]
  have := r4 (.inr ⟨i, by omega, hi, fun hm => by
    have h2 := (minF_le (·.f1) x0 (cellAt x0 0).f1).2 _ hm
    rw [e1] at h2
    unfold minY at ec
    simp only at h2
    omega⟩)
  cases r with
  | nil => exact absurd rfl this
  | cons c r => simp
theorem poly_loop (code : List Int) (d : Nat) : ∀ (n : Int) (out : List S78) (p seed : Int), n = (d : Int) → d ≤ 20 → out.length + d ≤ 30 → 1 ≤ out.length → nearC (30 - d) out → St code p seed →
    ∃ l p' s', Ev (fun k => spec_l02DrawPoly.l0 k out n code p seed) (l, p', s') ∧ St code p' s' ∧ 1 ≤ l.length ∧ l.length ≤ 30 ∧ nearC 60 l := by
  induction d with
  | zero =>
    intro n out p seed hn hd hl h1 hnr hS
    have hnr' : nearC 30 out := fun c hc => by have := hnr c hc; omega
    refine ⟨normL out, p, seed, Ev.step (f := fun _ => _) (fun k => by simp only [spec_l02DrawPoly.l0]; rfl) (ev_neg (by omega) (Ev.bind (snormal_val out (by omega) h1) (ev_const rfl))), hS, by rw [normL_len]; exact h1, by rw [normL_len]; omega, ?_⟩
    have hcn := near_corn 30 out h1 hnr'
    rw [normL_sub out h1 (fun c hc => by have := hnr' c hc; omega)]
    intro e he
    obtain ⟨c, hc, rfl⟩ := List.mem_map.1 he
    have := hnr' c hc
    simp only [subC, cornC]
    omega
  | succ d ih =>
    intro n out p seed hn hd hl h1 hnr hS
    obtain ⟨ar, a1, a2, a3, a4⟩ := neigh_val (30 - ((d + 1 : Nat) : Int)) (by omega) out (by omega) h1 hnr
    obtain ⟨x, p', s', hx, hS', hx0, hx1, hx2⟩ := next_some code p seed (ar.length : Int) hS
    have hxl : x < (ar.length : Int) := by
      by_cases e : (ar.length : Int) ≤ 1
      · have := hx2 e; omega
      · exact hx1 (by omega)
    obtain ⟨j, rfl⟩ := Int.eq_ofNat_of_zero_le hx0
    have hm := a2 _ (getD_mem ar z78 j (by omega))
    obtain ⟨l, p2, s2, h3, h4⟩ := ih (n - 1) (insC (ar.getD j z78) out) p' s' (by omega) (by omega) (by rw [insC_len]; omega) (by rw [insC_len]; omega) (insC_near _ _ _ (by omega) (fun c hc => by have := hnr c hc; omega)) hS'
    refine ⟨l, p2, s2, Ev.step (f := fun _ => _) (fun k => by simp only [spec_l02DrawPoly.l0]; rfl) (ev_pos (by omega) (Ev.bind a1 (ev_some hx (ev_pos (show (0 : Int) ≤ (j : Int) by omega) (ev_pos hxl (Ev.bind (insert_val out (ar.getD j z78) (by omega)) ?_)))))), h4⟩
    rw [wrap_id (n - 1) (by omega) (by omega)]
    exact h3
theorem poly_val (code : List Int) (p seed : Int) (hS : St code p seed) (m : Int) (hm : 1 ≤ m ∧ m ≤ 20) : ∃ l p' s', Ev (fun k => spec_l02DrawPoly.f k code p seed m) (l, p', s') ∧ St code p' s' ∧ 1 ≤ l.length ∧ l.length ≤ 30 ∧ nearC 60 l := by
  obtain ⟨x, p', s', hx, hS', hx0, hx1, hx2⟩ := next_some code p seed m hS
  have hxl : x < 20 := by
    by_cases e : m ≤ 1
    · have := hx2 e; omega
    · have := hx1 (by omega); omega
  obtain ⟨d, rfl⟩ := Int.eq_ofNat_of_zero_le hx0
  obtain ⟨l, p2, s2, h3, h4⟩ := poly_loop code d d [⟨0, 0⟩] p' s' rfl (by omega) (by simp; omega) (by simp) (fun c hc => by
    simp only [List.mem_singleton] at hc
    subst hc
    simp only; omega) hS'
  exact ⟨l, p2, s2, ev_some hx h3, h4⟩
theorem line_loop (code : List Int) (d : Nat) : ∀ (i : Nat) (out : List S78) (p seed : Int), i + d = 42 → out.length = i → St code p seed →
    ∃ l p' s', Ev (fun k => spec_l02Draw.l0 k out i code p seed) (l, p', s') ∧ St code p' s' ∧ l.length ≤ 42 := by
  induction d with
  | zero =>
    intro i out p seed hi ho hS
    obtain ⟨x, p', s', hx, hS', hx0, hx1, _⟩ := next_some code p seed 2 hS
    have := hx1 (by omega)
    exact ⟨out, p', s', Ev.step (f := fun _ => _) (fun k => by simp only [spec_l02Draw.l0]; rfl) (ev_some hx (ev_neg (show ¬ ((i : Int) < wrap64 (40 + x)) by rw [wrap_id _ (by omega) (by omega)]; omega) (ev_const rfl))), hS', by omega⟩
  | succ d ih =>
    intro i out p seed hi ho hS
    obtain ⟨x, p', s', hx, hS', hx0, hx1, _⟩ := next_some code p seed 2 hS
    have := hx1 (by omega)
    by_cases c : (i : Int) < 40 + x
    · obtain ⟨l, p2, s2, h3, h4⟩ := ih (i + 1) (out ++ [⟨(i : Int), 0⟩]) p' s' (by omega) (by simp [ho]) hS'
      refine ⟨l, p2, s2, Ev.step (f := fun _ => _) (fun k => by simp only [spec_l02Draw.l0]; rfl) (ev_some hx (ev_pos (show (i : Int) < wrap64 (40 + x) by rw [wrap_id _ (by omega) (by omega)]; exact c) (ev_pos (show out.length < 8796093022208 by omega) ?_))), h4⟩
      rw [wrap_succ i (by omega)]
      exact h3
    · exact ⟨out, p', s', Ev.step (f := fun _ => _) (fun k => by simp only [spec_l02Draw.l0]; rfl) (ev_some hx (ev_neg (show ¬ ((i : Int) < wrap64 (40 + x)) by rw [wrap_id _ (by omega) (by omega)]; exact c) (ev_const rfl))), hS', by omega⟩
theorem smove_val (l : List S78) (a b : Int) (hl : l.length ≤ 1000) : Ev (fun k => spec_l02Move.f k l a b) (movL a b l) :=
  ev_eq (smove_loop l a b (by unfold maxLen; omega) (by omega) l.length 0 [] (by omega) rfl) (by simp)
theorem movL_len (a b : Int) (l : List S78) : (movL a b l).length = l.length := by simp [movL]
theorem draw_shape (code : List Int) (p seed : Int) (hS : St code p seed) : ∃ l p' s', Ev (fun k => spec_l02Draw.f k code p seed) (l, p', s') ∧ St code p' s' ∧ l.length ≤ 50 := by
  obtain ⟨l0, p0, s0, e0, S0, n1, n2, _⟩ := poly_val code p seed hS 8 (by omega)
  obtain ⟨x1, p1, s1, e1, S1, a1, b1, _⟩ := next_some code p0 s0 9 S0
  obtain ⟨x2, p2, s2, e2, S2, a2, b2, _⟩ := next_some code p1 s1 9 S1
  have hM := smove_val l0 (wrap64 (x1 - 4)) (wrap64 (x2 - 4)) (by omega)
  have hml := movL_len (wrap64 (x1 - 4)) (wrap64 (x2 - 4)) l0
  generalize movL (wrap64 (x1 - 4)) (wrap64 (x2 - 4)) l0 = m at hM hml
  obtain ⟨x3, p3, s3, e3, S3, a3, b3, c3⟩ := next_some code p2 s2 (m.length : Int) S2
  have hx3 : x3 < (m.length : Int) := by
    by_cases e : (m.length : Int) ≤ 1
    · have := c3 e; omega
    · exact b3 (by omega)
  obtain ⟨x4, p4, s4, e4, S4, a4, b4, _⟩ := next_some code p3 s3 24 S3
  have J : ∀ r : List S78 × Int × Int, Ev (fun k => if x4 = 0 then ((some (([(-100), 100, 101] : List Int) : List Int)).bind fun y215 => ((spec_l01Next.f code p4 s4 3).bind fun bt218 => (if 0 ≤ bt218.1 then (if bt218.1 < (y215.length : Int) then (if 0 ≤ x3 then (if x3 < (m.length : Int) then ((spec_l02Sort.f k (m.set (x3 : Int).toNat (⟨rd y215 bt218.1, (rd_T78 m x3).f1⟩ : S78))).bind fun t223 => (some (t223, bt218.2.1, bt218.2.2))) else (none)) else (none)) else (none)) else (none)))) else (if x4 = 1 then (if 0 ≤ x3 then (if x3 < (m.length : Int) then (if m.length < 8796093022208 then (some ((m ++ [(⟨(rd_T78 m x3).f0, (rd_T78 m x3).f1⟩ : S78)]), p4, s4)) else (none)) else (none)) else (none)) else (if x4 = 2 then (some (([] : List (S78)), p4, s4)) else (if x4 = 3 then (spec_l02Draw.l0 k (([] : List (S78))) 0 code p4 s4) else (if x4 = 4 then (if 0 < (m.length : Int) then (if 0 ≤ (wrap64 ((m.length : Int) - 1)) then (if (wrap64 ((m.length : Int) - 1)) < (m.length : Int) then (if m.length < 8796093022208 then (some ((m ++ [(⟨wrap64 (((rd_T78 m 0).f0) + 3), wrap64 (((rd_T78 m (wrap64 ((m.length : Int) - 1))).f1) + 2)⟩ : S78)]), p4, s4)) else (none)) else (none)) else (none)) else (none)) else (if x4 = 5 then (if 0 < (m.length : Int) then (if 0 ≤ (wrap64 ((m.length : Int) - 1)) then (if (wrap64 ((m.length : Int) - 1)) < (m.length : Int) then (if m.length < 8796093022208 then (some ((m ++ [(⟨wrap64 (((rd_T78 m 0).f0) + 3), wrap64 (((rd_T78 m (wrap64 ((m.length : Int) - 1))).f1) + 2)⟩ : S78)]), p4, s4)) else (none)) else (none)) else (none)) else (none)) else (some (m, p4, s4)))))))) r → Ev (fun k => spec_l02Draw.f k code p seed) r := fun r h =>
    Ev.bind e0 (ev_some e1 (ev_some e2 (Ev.bind hM (ev_some e3 (ev_some e4 h)))))
  have w1 : wrap64 ((m.length : Int) - 1) = (m.length : Int) - 1 := wrap_id _ (by omega) (by omega)
  by_cases q0 : x4 = 0
  · obtain ⟨x5, p5, s5, e5, S5, a5, b5, _⟩ := next_some code p4 s4 3 S4
    have := b5 (by omega)
    exact ⟨_, p5, s5, J _ (ev_pos q0 (ev_some rfl (ev_some e5 (ev_pos a5 (ev_pos (by simpa using b5 (by omega)) (ev_pos a3 (ev_pos hx3 (Ev.bind (ssort_val _ (by simp; omega)) (ev_const rfl))))))))), S5, by rw [sortC_len, List.length_set]; omega⟩
  · by_cases q1 : x4 = 1
    · exact ⟨_, p4, s4, J _ (ev_neg q0 (ev_pos q1 (ev_pos a3 (ev_pos hx3 (ev_pos (by omega) (ev_const rfl)))))), S4, by simp; omega⟩
    · by_cases q2 : x4 = 2
      · exact ⟨_, p4, s4, J _ (ev_neg q0 (ev_neg q1 (ev_pos q2 (ev_const rfl)))), S4, by simp⟩
      · by_cases q3 : x4 = 3
        · obtain ⟨l, p5, s5, h5, h6, h7⟩ := line_loop code 42 0 [] p4 s4 (by omega) rfl S4
          exact ⟨l, p5, s5, J _ (ev_neg q0 (ev_neg q1 (ev_neg q2 (ev_pos q3 h5)))), h6, by omega⟩
        · by_cases q4 : x4 = 4
          · exact ⟨_, p4, s4, J _ (ev_neg q0 (ev_neg q1 (ev_neg q2 (ev_neg q3 (ev_pos q4 (ev_pos (by omega) (ev_pos (by omega) (ev_pos (by omega) (ev_pos (by omega) (ev_const rfl)))))))))), S4, by simp; omega⟩
          · by_cases q5 : x4 = 5
            · exact ⟨_, p4, s4, J _ (ev_neg q0 (ev_neg q1 (ev_neg q2 (ev_neg q3 (ev_neg q4 (ev_pos q5 (ev_pos (by omega) (ev_pos (by omega) (ev_pos (by omega) (ev_pos (by omega) (ev_const rfl))))))))))), S4, by simp; omega⟩
            · exact ⟨_, p4, s4, J _ (ev_neg q0 (ev_neg q1 (ev_neg q2 (ev_neg q3 (ev_neg q4 (ev_neg q5 (ev_const rfl))))))), S4, by omega⟩
/-! The laws' own dice: whatever the code, a number below the bound. -/
theorem mask_in (x : Int) : 0 ≤ Go.bits .and .u64 x 16777215 ∧ Go.bits .and .u64 x 16777215 ≤ 16777215 := by
  have h : (BitVec.ofInt 64 x &&& BitVec.ofInt 64 16777215).toNat ≤ 16777215 := by
    rw [BitVec.toNat_and]
    exact Nat.le_trans Nat.and_le_right (by decide)
  have e : Go.bits .and .u64 x 16777215 = IntKind.u64.wrap (((BitVec.ofInt 64 x &&& BitVec.ofInt 64 16777215).toNat : Nat) : Int) := rfl
  rw [e]
  generalize (BitVec.ofInt 64 x &&& BitVec.ofInt 64 16777215).toNat = n at h
  simp [IntKind.wrap, IntKind.bits, IntKind.signed]
  omega
theorem roll_loop (code : List Int) (hl : code.length ≤ 4096) (d : Nat) : ∀ (n : Nat) (h : Int), n + d = code.length → ∃ h', Ev (fun k => laws_roll.l0 k code n code 0 h) (code, 0, h') := by
  induction d with
  | zero =>
    intro n h hd
    exact ⟨h, Ev.step (f := fun _ => _) (fun k => by simp only [laws_roll.l0]; rfl) (ev_neg (by omega) (ev_const rfl))⟩
  | succ d ih =>
    intro n h hd
    obtain ⟨h', he⟩ := ih (n + 1) (IntKind.u64.wrap ((IntKind.u64.wrap ((IntKind.u64.wrap (h * 1099511628211)) + (IntKind.u64.wrap (rd code n)))) + 3)) (by omega)
    refine ⟨h', Ev.step (f := fun _ => _) (fun k => by simp only [laws_roll.l0]; rfl) (ev_pos (by omega) (ev_pos (by omega) ?_))⟩
    rw [wrap_succ n (by omega)]
    exact he
theorem roll_val (code : List Int) (hl : code.length ≤ 4096) (a : Int) : ∃ h, Ev (fun k => laws_roll.f k code a) (code, 0, h) := roll_loop code hl code.length 0 _ (by omega)
theorem below_val (code : List Int) (hb : ∀ x ∈ code, 0 ≤ x ∧ x ≤ 255) (hl : code.length ≤ 4096) (h m : Int) (hm : 0 < m) : ∃ x i h', laws_dice_below.f code 0 h m = some (x, i, h') ∧ 0 ≤ x ∧ x < m := by
  have hk := mask_in (IntKind.u64.wrap ((IntKind.u64.wrap (h * 6364136223846793005)) + 1442695040888963407) / 8589934592)
  have hr := rd_byte code hb 0
  unfold laws_dice_below.f
  by_cases c : (0 : Int) < (code.length : Int)
  · rw [if_pos c, if_pos (by omega), if_neg (by omega)]
    refine ⟨_, _, _, rfl, ?_⟩
    generalize Go.bits .and .u64 (IntKind.u64.wrap ((IntKind.u64.wrap (h * 6364136223846793005)) + 1442695040888963407) / 8589934592) 16777215 = z at hk
    rw [wrap_id z (by omega) (by omega), wrap_id (rd code 0) (by omega) (by omega), wrap_id _ (by omega) (by omega)]
    exact tmod_in _ _ (by omega) hm
  · rw [if_neg c, if_neg (by omega)]
    refine ⟨_, _, _, rfl, ?_⟩
    generalize Go.bits .and .u64 (IntKind.u64.wrap ((IntKind.u64.wrap (h * 6364136223846793005)) + 1442695040888963407) / 8589934592) 16777215 = z at hk
    rw [wrap_id z (by omega) (by omega)]
    exact tmod_in _ _ (by omega) hm
theorem likeInts_loop (xs : List Int) (hm : xs.length ≤ 1000000) (d : Nat) : ∀ (n : Nat), n + d = xs.length → Ev (fun k => laws_likeInts.l0 k xs xs n) true := by
  induction d with
  | zero =>
    intro n hd
    exact Ev.step (f := fun _ => _) (fun k => by simp only [laws_likeInts.l0]; rfl) (ev_neg (by omega) (ev_const rfl))
  | succ d ih =>
    intro n hd
    refine Ev.step (f := fun _ => _) (fun k => by simp only [laws_likeInts.l0]; rfl) (ev_pos (by omega) (ev_pos (by omega) (ev_pos (by omega) (ev_pos (show rd xs (n : Int) = rd xs (n : Int) from rfl) ?_))))
    rw [wrap_succ n (by omega)]
    exact ih (n + 1) (by omega)
theorem likeInts_val (xs : List Int) (hm : xs.length ≤ 1000000) : Ev (fun k => laws_likeInts.f k xs xs) true := ev_pos rfl (likeInts_loop xs hm xs.length 0 (by omega))
theorem net_bothW (l : List S78) (hm : l.length ≤ maxLen) : (Ev (fun k => impl_IsNet.f k l) false ∧ Ev (fun k => spec_IsNet.f k l) false) ∨ (isShapeB l = true ∧ l.length = 6 ∧ ∃ F ids dice, BW l ids dice ids.length 0 ∧ F = dice.map (fun s => s.f0) ∧ F.length = l.length ∧ PermB F ∧ Ev (fun k => impl_IsNet.f k l) true ∧ Ev (fun k => spec_IsNet.f k l) true ∧ Ev (fun k => impl_faces.f k l) F ∧ Ev (fun k => spec_l32Faces.f k l) F) := by
  have jT : Ev (fun k => impl_IsNet.j0 k l true) false := by
    refine Ev.step (f := fun _ => _) (fun k => by simp only [impl_IsNet.j0]; rfl) ?_
    first | exact ev_const rfl | exact ev_pos trivial (ev_const rfl) | exact ev_pos rfl (ev_const rfl)
  cases hsb : isShapeB l with
  | false =>
    have h1 := impl_shape_val l hm
    have h2 := spec_shape_val l hm
    rw [hsb] at h1 h2
    exact .inl ⟨Ev.bind (Ev.bind h1 (ev_neg (by simp) (ev_const rfl))) (ev_neg (by simp) jT), Ev.bind (Ev.bind h2 (ev_neg (by simp) (ev_const rfl))) (ev_neg (by simp) (ev_const rfl))⟩
  | true =>
    obtain ⟨c, c1, c2, c3⟩ := connected_both l hm
    cases c with
    | false => exact .inl ⟨Ev.bind c1 (ev_neg (by simp) jT), Ev.bind c2 (ev_neg (by simp) (ev_const rfl))⟩
    | true =>
      have hs := c3 rfl
      by_cases h6 : (l.length : Int) = 6
      · obtain ⟨F, ⟨ids, dice, w1, w2, w3⟩, f1, f2, f3⟩ := faces_bothW l hs
        obtain ⟨b, b1, b2, b3⟩ := perm_both F (by have := hs.le; omega)
        have jF : Ev (fun k => impl_IsNet.j0 k l false) b := by
          refine Ev.step (f := fun _ => _) (fun k => by simp only [impl_IsNet.j0]; rfl) ?_
          first | refine Ev.bind f2 (Ev.bind b1 ?_) | refine ev_neg (by simp) (Ev.bind f2 (Ev.bind b1 ?_))
          exact ev_const rfl
        have h1 : Ev (fun k => impl_IsNet.f k l) b := by
          refine Ev.bind c1 (ev_pos rfl ?_)
          rw [show ((l.length : Int) != 6) = false by simp [h6]]
          exact jF
        have h2 : Ev (fun k => spec_IsNet.f k l) b := Ev.bind c2 (ev_pos rfl (ev_pos h6 (Ev.bind f3 (Ev.bind b2 (ev_const rfl)))))
        cases b with
        | false => exact .inl ⟨h1, h2⟩
        | true => exact .inr ⟨rfl, by omega, F, ids, dice, w1, w3, f1, b3 rfl, h1, h2, f2, f3⟩
      · refine .inl ⟨Ev.bind c1 (ev_pos rfl ?_), Ev.bind c2 (ev_pos rfl (ev_neg h6 (ev_const rfl)))⟩
        rw [show ((l.length : Int) != 6) = true by simp [h6]]
        exact jT
theorem net_again (l : List S78) (hm : l.length ≤ maxLen) (hb : isShapeB l = true) (h6 : l.length = 6) (hN : NetP (ptsOf l)) (hC : ConP (ptsOf l)) : Ev (fun k => impl_IsNet.f k l) true := by
  have hs := shape_of l hb
  obtain ⟨F, ⟨ids, dice, w1, w2, w3⟩, f1, f2, _⟩ := faces_bothW l hs
  have hP : PermB F := by rw [w3]; exact net_in l hs h6 ids dice w1 hN hC
  have jF : Ev (fun k => impl_IsNet.j0 k l false) true := by
    refine Ev.step (f := fun _ => _) (fun k => by simp only [impl_IsNet.j0]; rfl) ?_
    first | refine Ev.bind f2 (Ev.bind (perm_true F (by omega) hP) ?_) | refine ev_neg (by simp) (Ev.bind f2 (Ev.bind (perm_true F (by omega) hP) ?_))
    exact ev_const rfl
  refine Ev.bind (conn_true l hm hb hC) (ev_pos rfl ?_)
  rw [show ((l.length : Int) != 6) = false by simp [h6]]
  exact jF
theorem six_loop (code : List Int) (d : Nat) : ∀ (out : List S78) (p seed : Int), out.length + d = 6 → 1 ≤ out.length → nearC (30 - d) out → St code p seed →
    ∃ l p' s', Ev (fun k => spec_l32Draw.l0 k out code p seed) (l, p', s') ∧ l.length ≤ 50 := by
  induction d with
  | zero =>
    intro out p seed hl h1 hnr hS
    exact ⟨out, p, seed, Ev.step (f := fun _ => _) (fun k => by simp only [spec_l32Draw.l0]; rfl) (ev_neg (by omega) (ev_const rfl)), by omega⟩
  | succ d ih =>
    intro out p seed hl h1 hnr hS
    obtain ⟨ar, a1, a2, a3, a4⟩ := neigh_val (30 - ((d + 1 : Nat) : Int)) (by omega) out (by omega) h1 hnr
    obtain ⟨x, p', s', hx, hS', hx0, hx1, hx2⟩ := next_some code p seed (ar.length : Int) hS
    have hxl : x < (ar.length : Int) := by
      by_cases e : (ar.length : Int) ≤ 1
      · have := hx2 e; omega
      · exact hx1 (by omega)
    obtain ⟨j, rfl⟩ := Int.eq_ofNat_of_zero_le hx0
    have hm := a2 _ (getD_mem ar z78 j (by omega))
    obtain ⟨l, p2, s2, h3, h4⟩ := ih (insC (ar.getD j z78) out) p' s' (by rw [insC_len]; omega) (by rw [insC_len]; omega) (insC_near _ _ _ (by omega) (fun c hc => by have := hnr c hc; omega)) hS'
    exact ⟨l, p2, s2, Ev.step (f := fun _ => _) (fun k => by simp only [spec_l32Draw.l0]; rfl) (ev_pos (by omega) (Ev.bind a1 (ev_some hx (ev_pos (show (0 : Int) ≤ (j : Int) by omega) (ev_pos hxl (Ev.bind (insert_val out (ar.getD j z78) (by omega)) h3)))))), h4⟩
theorem draw32 (code : List Int) (p seed : Int) (hS : St code p seed) : ∃ l p' s', Ev (fun k => spec_l32Draw.f k code p seed) (l, p', s') ∧ l.length ≤ 50 := by
  obtain ⟨x1, p1, s1, e1, S1, _⟩ := next_some code p seed 3 hS
  by_cases c1 : x1 = 0
  · obtain ⟨l, p2, s2, h1, S2, h2⟩ := draw_shape code p1 s1 S1
    exact ⟨l, p2, s2, ev_some e1 (ev_pos c1 (Ev.bind h1 (ev_const rfl))), h2⟩
  · obtain ⟨x2, p2, s2, e2, S2, _⟩ := next_some code p1 s1 2 S1
    by_cases c2 : x2 = 0
    · obtain ⟨x3, p3, s3, e3, S3, _⟩ := next_some code p2 s2 4 S2
      obtain ⟨x4, p4, s4, e4, S4, _⟩ := next_some code p3 s3 4 S3
      obtain ⟨x5, p5, s5, e5, S5, b1, b2, _⟩ := next_some code p4 s4 8 S4
      have ht : isT x5 := ⟨b1, by have := b2 (by omega); omega⟩
      exact ⟨_, p5, s5, ev_some e1 (ev_neg c1 (ev_some e2 (ev_pos c2 (ev_some e3 (ev_some e4 (Ev.bind (ssort_val _ (by simp)) (ev_some e5 (Ev.bind (sform_val _ x5 ht (by rw [sortC_len]; simp) (by rw [sortC_len]; simp)) (ev_const rfl))))))))), by unfold formL; rw [normL_len, sortC_len, List.length_map, sortC_len]; simp⟩
    · obtain ⟨l, p3, s3, h1, h2⟩ := six_loop code 5 [⟨0, 0⟩] p2 s2 rfl (by simp) (fun c hc => by
        simp only [List.mem_singleton] at hc
        subst hc
        simp only; omega) S2
      exact ⟨l, p3, s3, ev_some e1 (ev_neg c1 (ev_some e2 (ev_neg c2 h1))), h2⟩
theorem FnNets (l : List Int) (hm : l.length ≤ maxLen) (_ : l.length * 1 ≤ 140737488351232) (hg : ∀ x ∈ l, (Lit.int .u8 x).wf = true) : ∃ k, laws_FnNets.f k l = some true := by
  refine Ev.rounds (g := fun k => laws_FnNets.f k l) ?_
  have hbyte : ∀ x ∈ l, 0 ≤ x ∧ x ≤ 255 := fun x hx => by
    have := hg x hx
    simp [Lit.wf, IntKind.has, IntKind.min, IntKind.max, IntKind.bits, IntKind.signed] at this
    omega
  refine ev_some (a := decide ((l.length : Int) > 4096)) rfl ?_
  by_cases hbig : (l.length : Int) > 4096
  · exact ev_pos (decide_eq_true hbig) (ev_const rfl)
  · refine ev_neg (by simpa using hbig) ?_
    have hl : l.length ≤ 4096 := by omega
    obtain ⟨s0, f0, S0⟩ := from_some l hbyte hl
    obtain ⟨sh, p1, s1, f1, n1⟩ := draw32 l 0 s0 S0
    have hsm : sh.length ≤ maxLen := by unfold maxLen; omega
    refine Ev.bind (a := sh) (Ev.bind f0 (Ev.bind f1 (ev_const rfl))) ?_
    rcases net_bothW sh hsm with ⟨h1, h2⟩ | ⟨hb, h6, F, ids, dice, w1, w3, f6, hP, h1, h2, h3, h4⟩
    · refine Ev.bind (a := ([], 1)) (Ev.bind h1 (ev_neg (by simp) (ev_const rfl))) (Ev.bind (a := ([], 1)) (Ev.bind h2 (ev_neg (by simp) (ev_const rfl))) (ev_pos rfl (Ev.bind (likeInts_val [] (by simp)) (ev_pos rfl (Ev.bind h1 (Ev.bind h2 ?_))))))
      exact Ev.step (f := fun _ => _) (fun k => by simp only [laws_FnNets.j0]; rfl) (ev_neg (by decide) (ev_neg (by decide) (Ev.bind h1 (ev_const rfl))))
    · obtain ⟨o, o6, ho, r2, r3⟩ := opp_out F (by omega) hP 6 0 [] (by omega) rfl (fun j hj => by omega)
      have hdist : ∀ i j : Nat, i < 6 → j < 6 → F.getD i 0 = F.getD j 0 → i = j := fun i j hi hj e => by
        by_cases h : i = j
        · exact h
        · exact absurd e ((hP i (by omega)).2 j (by omega) h)
      refine Ev.bind (a := (o, 0)) (Ev.bind h1 (ev_pos rfl (Ev.bind h3 r2))) (Ev.bind (a := (o, 0)) (Ev.bind h2 (ev_pos rfl (Ev.bind h4 r3))) (ev_pos rfl (Ev.bind (likeInts_val o (by omega)) (ev_pos rfl (Ev.bind h1 (Ev.bind h2 ?_))))))
      refine Ev.step (f := fun _ => _) (fun k => by simp only [laws_FnNets.j0]; rfl) (ev_neg (by decide) (ev_pos (show (0 : Int) = 0 from rfl) ?_))
      have hpo : PermB o := fun i hi => by
        obtain ⟨q, q1, q2, q3⟩ := ho i (by omega)
        refine ⟨by omega, fun j hj hij e => ?_⟩
        obtain ⟨a, a1, a2, a3⟩ := ho j (by omega)
        have : q = a := by omega
        subst this
        exact hij (hdist i j (by omega) (by omega) (by omega))
      have hend : Ev (fun k => laws_FnNets.l0 k l sh o o 6) true := by
        refine Ev.step (f := fun _ => _) (fun k => by simp only [laws_FnNets.l0]; rfl) (ev_neg (by omega) ?_)
        obtain ⟨h, hr⟩ := roll_val l hl 3201
        obtain ⟨x, i, h', hx, x0, x8⟩ := below_val l hbyte hl h 8 (by omega)
        have ht : isT x := ⟨x0, by omega⟩
        refine Ev.bind hr (ev_some hx (Ev.bind (iturnS_val sh hsm x) ?_))
        by_cases h0 : codeS sh = 0
        · obtain ⟨hs, hw⟩ := code_wide sh h0
          obtain ⟨g1, g2⟩ := form_shape x ht sh hs hw
          have hT : turnR sh x = (formL x sh, 0) := by unfold turnR; rw [if_pos hb, if_pos ht, if_pos h0]
          rw [hT]
          have hfl : (formL x sh).length = sh.length := by unfold formL; rw [normL_len, sortC_len, List.length_map]
          obtain ⟨n1, n2⟩ := net_out sh (shape_of sh hb) h6 ids dice w1 (by rw [← w3]; exact hP)
          obtain ⟨a, b, hpf⟩ := pts_form x ht sh hs.pos (fun c hc => by have := hs.near c hc; omega)
          have hN : NetP (ptsOf (formL x sh)) := by rw [hpf]; exact net_mov a b _ (net_inv x ht _ n1)
          have hC : ConP (ptsOf (formL x sh)) := by rw [hpf]; exact con_mov a b _ (con_inv x ht _ n2)
          refine ev_neg (show ¬ ((0 : Int) = 3) by decide) (ev_pos (show (0 : Int) = 0 from rfl) (Ev.bind (net_again (formL x sh) (by rw [hfl]; exact hsm) ((shp_iff _).2 g1) (by omega) hN hC) (ev_pos rfl (Ev.bind (perm_true o (by omega) hpo) (ev_const rfl)))))
        · have h3 : codeS sh = 3 := by
            unfold codeS at h0 ⊢
            rw [if_pos hb] at h0 ⊢
            split at h0
            · exact absurd rfl h0
            · rename_i hh
              rw [if_neg hh]
          have hT : (turnR sh x).2 = 3 := by unfold turnR; rw [if_pos hb, if_pos ht, if_neg h0]; exact h3
          exact ev_pos hT (ev_const rfl)
      have hloop : ∀ (d n : Nat), n + d = 6 → Ev (fun k => laws_FnNets.l0 k l sh o o n) true := by
        intro d
        induction d with
        | zero =>
          intro n hn
          obtain rfl : n = 6 := by omega
          exact hend
        | succ d ih =>
          intro n hn
          obtain ⟨q, q1, q2, q3⟩ := ho n (by omega)
          obtain ⟨a, a1, a2, a3⟩ := ho q q1
          have ea : a = n := hdist a n a1 (by omega) (by omega)
          have hrn : rd o (n : Int) = (q : Int) := q2
          refine Ev.step (f := fun _ => _) (fun k => by simp only [laws_FnNets.l0]; rfl) (ev_pos (by omega) (ev_pos (by omega) (ev_pos (by omega) ?_)))
          rw [hrn]
          refine ev_pos (by omega) (ev_pos (by omega) (ev_pos (show rd o (q : Int) = (n : Int) from by rw [← ea]; exact a2) (ev_neg (fun e => ?_) ?_)))
          · have : q = n := by omega
            subst this
            omega
          · rw [wrap_succ n (by omega)]
            exact ih (n + 1) (by omega)
      exact hloop 6 0 rfl
end Go.Proofs.YtopceddgiddhlaaDoor.Pure
