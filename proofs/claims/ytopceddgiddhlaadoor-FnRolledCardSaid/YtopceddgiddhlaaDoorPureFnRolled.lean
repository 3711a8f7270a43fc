/- What is proved: for every code the law FnRolled answers true: a die that is rolled along a word and back lies as at first, and comes back after its order, which is at most four; and the program agrees with the reference. No condition beyond the kinds of the numbers and the reach. -/
import Derived.Test.YtopceddgiddhlaaDoorPFnRolledx0
import Derived.Test.YtopceddgiddhlaaDoorPFnRolledx1
import Derived.Test.YtopceddgiddhlaaDoorPFnRolledx2
import Derived.Test.YtopceddgiddhlaaDoorPFnRolledx3
import Derived.Test.YtopceddgiddhlaaDoorPFnRolledx4
import Derived.Test.YtopceddgiddhlaaDoorPFnRolledx5
import Derived.Test.YtopceddgiddhlaaDoorPFnRolledx6
import Derived.Test.YtopceddgiddhlaaDoorPFnRolledx7
import Derived.Test.YtopceddgiddhlaaDoorPFnRolledx8
import Derived.Test.YtopceddgiddhlaaDoorPFnRolledx9
import Derived.Test.YtopceddgiddhlaaDoorPFnRolledx10
import Derived.Test.YtopceddgiddhlaaDoorPFnRolledx11
import Derived.Test.YtopceddgiddhlaaDoorPFnRolledx12
import Derived.Test.YtopceddgiddhlaaDoorPFnRolledx13
import Derived.Test.YtopceddgiddhlaaDoorPFnRolledx14
import Derived.Test.YtopceddgiddhlaaDoorPFnRolledx15
import Derived.Test.YtopceddgiddhlaaDoorPFnRolledx16
import Derived.Test.YtopceddgiddhlaaDoorPFnRolledx17
import Derived.Test.YtopceddgiddhlaaDoorPFnRolledx18
import Derived.Test.YtopceddgiddhlaaDoorPFnRolledx19
import Derived.Test.YtopceddgiddhlaaDoorPFnRolledx20
import Derived.Test.YtopceddgiddhlaaDoorPFnRolledx21
import Derived.Test.YtopceddgiddhlaaDoorPFnRolledx22
import Derived.Test.YtopceddgiddhlaaDoorWWords
namespace Go.Proofs.YtopceddgiddhlaaDoor.Kit
open Go.RowKit Go.Proofs.YtopceddgiddhlaaDoorW.PrintWords

section
variable {α β γ : Type}
theorem ev_pos {c : Prop} [Decidable c] {f g : Nat → Option α} {r : α} (h : c) (k : Ev f r) : Ev (fun n => if c then f n else g n) r := k.congr fun _ => if_pos h
theorem ev_neg {c : Prop} [Decidable c] {f g : Nat → Option α} {r : α} (h : ¬ c) (k : Ev g r) : Ev (fun n => if c then f n else g n) r := k.congr fun _ => if_neg h
theorem ev_some {f : Nat → α → Option β} {o : Option α} {a : α} {r : β} (h : o = some a) (k : Ev (fun n => f n a) r) : Ev (fun n => o.bind (f n)) r := k.congr fun n => by rw [h]; rfl
theorem ev_const {o : Option α} {r : α} (h : o = some r) : Ev (fun _ => o) r := ⟨0, fun _ _ => h⟩
theorem ev_eq {f : Nat → Option α} {r r' : α} (h : Ev f r) (e : r = r') : Ev f r' := e ▸ h
theorem ev_uniq {f : Nat → Option α} {r r' : α} (h : Ev f r) (h' : Ev f r') : r = r' := by
  obtain ⟨K, h⟩ := h
  obtain ⟨K', h'⟩ := h'
  have h1 := h (max K K') (Nat.le_max_left _ _)
  rw [h' (max K K') (Nat.le_max_right _ _)] at h1
  exact (Option.some.inj h1).symm
end

theorem wrap_id (n : Int) (h1 : -9223372036854775808 ≤ n) (h2 : n ≤ 9223372036854775807) : wrap64 n = n := by unfold wrap64; omega
theorem wrap_succ (n : Nat) (h : n < 9223372036854775807) : wrap64 ((n : Int) + 1) = ((n + 1 : Nat) : Int) := by rw [wrap_id _ (by omega) (by omega)]; omega

section
variable {α : Type}
theorem drop_cons (xs : List α) (d : α) (n : Nat) (h : n < xs.length) : xs.drop n = xs.getD n d :: xs.drop (n + 1) := by
  rw [List.getD_eq_getElem?_getD, List.getElem?_eq_getElem h, Option.getD_some]
  exact (List.getElem_cons_drop h).symm
theorem getD_mem (xs : List α) (d : α) (n : Nat) (h : n < xs.length) : xs.getD n d ∈ xs := by
  rw [List.getD_eq_getElem?_getD, List.getElem?_eq_getElem h, Option.getD_some]
  exact List.getElem_mem h
theorem take_succ_getD (xs : List α) (d : α) (n : Nat) (h : n < xs.length) : xs.take (n + 1) = xs.take n ++ [xs.getD n d] := by
  rw [List.take_succ_eq_append_getElem h, List.getD_eq_getElem?_getD, List.getElem?_eq_getElem h, Option.getD_some]
theorem take_set_succ (ys : List α) (n : Nat) (v : α) (h : n < ys.length) : (ys.set n v).take (n + 1) = ys.take n ++ [v] := by
  rw [List.take_set, List.take_succ_eq_append_getElem h, List.set_append_right _ _ (by simp only [List.length_take]; omega), List.length_take, Nat.min_eq_left (by omega), Nat.sub_self]
  rfl
end
end Go.Proofs.YtopceddgiddhlaaDoor.Kit
set_option linter.unusedVariables false
set_option linter.unusedSimpArgs false
namespace Go.Proofs.YtopceddgiddhlaaDoor.Pure
open Go.RowKit Go.Proofs.YtopceddgiddhlaaDoor.PFnRolled Go.Proofs.YtopceddgiddhlaaDoorW.PrintWords Go.Proofs.YtopceddgiddhlaaDoorW.PrintLast Go.Proofs.YtopceddgiddhlaaDoor.Kit
/-! Shapes: both sides' IsShape come to one Bool. -/
abbrev cellAt (l : List S78) (i : Nat) : S78 := l.getD i z78
def inR (n : Int) : Bool := decide (-100 ≤ n) && decide (n ≤ 100)
def lessB (a b : S78) : Bool := decide (a.f1 < b.f1) || (decide (a.f1 = b.f1) && decide (a.f0 < b.f0))
def okAtB (l : List S78) (i : Nat) : Bool := (inR (cellAt l i).f0 && inR (cellAt l i).f1) && (decide (i = 0) || lessB (cellAt l (i - 1)) (cellAt l i))
def shapeFrom (l : List S78) : Nat → Nat → Bool
  | 0, _ => decide (1 ≤ l.length) && decide (l.length ≤ 40)
  | d + 1, i => okAtB l i && shapeFrom l d (i + 1)
def isShapeB (l : List S78) : Bool := shapeFrom l l.length 0
theorem in_valC (a : Int) (lo hi : Int) : spec_l01In.f a lo hi = some (decide (lo ≤ a) && decide (a ≤ hi)) := by
  unfold spec_l01In.f
  by_cases h : a ≥ lo
  · rw [if_pos h, decide_eq_true (show lo ≤ a from h), Bool.true_and]
  · rw [if_neg h, decide_eq_false (show ¬ lo ≤ a from h), Bool.false_and]
theorem within_valC (a : Int) (lo hi : Int) : impl_within.f a lo hi = some (decide (lo ≤ a) && decide (a ≤ hi)) := by
  unfold impl_within.f
  by_cases h : a ≥ lo
  · rw [if_pos h, decide_eq_true (show lo ≤ a from h), Bool.true_and]
  · rw [if_neg h, decide_eq_false (show ¬ lo ≤ a from h), Bool.false_and]
theorem cell_val (a b : Int) : spec_l02Cell.f a b = some (inR a && inR b) := by
  unfold spec_l02Cell.f
  rw [in_valC, in_valC]
  show (if inR a = true then some (inR b) else some false) = _
  cases inR a <;> rfl
theorem coord_val (a : Int) : impl_isCoordinate.f a = some (inR a) := by
  unfold impl_isCoordinate.f
  rw [within_valC]
  rfl
theorem less_val (a b c d : Int) : spec_l02Less.f a b c d = some (lessB ⟨a, b⟩ ⟨c, d⟩) := by
  unfold spec_l02Less.f lessB
  by_cases h : b < d
  · simp [h]
  · by_cases e : b = d
    · simp [e]
    · simp [h, e]
def cmp3 (a b : Int) : Int := if a < b then -1 else if a > b then 1 else 0
theorem cmp_val (a b : Int) : cmp_Compare_int64.f a b = some (cmp3 a b) := by
  have h : ∀ x : Int, cmp_isNaN_int64.f x = some false := fun x => by simp [cmp_isNaN_int64.f]
  unfold cmp_Compare_int64.f cmp3
  rw [h, h]
  simp only [Option.bind_some, Bool.false_eq_true, if_false]
  split
  · rfl
  · split <;> rfl
def cmpC (p q : S78) : Int := if cmp3 p.f1 q.f1 = 0 then cmp3 p.f0 q.f0 else cmp3 p.f1 q.f1
theorem compare_val (a b c d : Int) : impl_compareCells.f a b c d = some (cmpC ⟨a, b⟩ ⟨c, d⟩) := by
  unfold impl_compareCells.f cmpC
  rw [cmp_val, cmp_val]
  simp only [Option.bind_some]
  split <;> rfl
theorem cmpC_less (p q : S78) : (cmpC p q ≥ 0) ↔ lessB p q = false := by
  unfold cmpC cmp3 lessB
  simp only [Bool.or_eq_false_iff, Bool.and_eq_false_iff, decide_eq_false_iff_not]
  split <;> split <;> (try split) <;> (try split) <;> omega
theorem spec_shape_loop (l : List S78) (hm : l.length ≤ maxLen) (d : Nat) : ∀ n : Nat, n + d = l.length → Ev (fun k => spec_IsShape.l0 k l n) (shapeFrom l d n) := by
  unfold maxLen at hm
  induction d with
  | zero =>
    intro n hd
    refine Ev.step (f := fun _ => _) (fun k => by simp only [spec_IsShape.l0]; rfl) (ev_neg (by omega) (ev_some (in_valC _ _ _) (ev_const ?_)))
    rw [shapeFrom]
    congr 2 <;> exact decide_eq_decide.2 (by omega)
  | succ d ih =>
    intro n hd
    refine Ev.step (f := fun _ => _) (fun k => by simp only [spec_IsShape.l0]; rfl) (ev_pos (by omega) (ev_pos (by omega) (ev_some (cell_val _ _) ?_)))
    rw [show rd_T78 l (n : Int) = cellAt l n from rfl, shapeFrom, okAtB]
    cases h1 : (inR (cellAt l n).f0 && inR (cellAt l n).f1) with
    | false => exact ev_neg (by simp) (ev_const rfl)
    | true =>
      refine ev_pos rfl ?_
      by_cases h0 : n = 0
      · subst h0
        refine ev_neg (by omega) ?_
        rw [wrap_succ 0 (by omega)]
        simpa using ih 1 (by omega)
      · have hw : wrap64 ((n : Int) - 1) = ((n - 1 : Nat) : Int) := by rw [wrap_id _ (by omega) (by omega)]; omega
        rw [hw]
        refine ev_pos (by omega) (ev_pos (by omega) (ev_pos (by omega) (ev_some (less_val _ _ _ _) ?_)))
        rw [decide_eq_false h0, Bool.false_or, Bool.true_and, show rd_T78 l ((n - 1 : Nat) : Int) = cellAt l (n - 1) from rfl]
        cases h2 : lessB (cellAt l (n - 1)) (cellAt l n) with
        | false => exact ev_neg (by simp) (ev_const rfl)
        | true =>
          refine ev_pos rfl ?_
          rw [wrap_succ n (by omega), Bool.true_and]
          exact ih (n + 1) (by omega)
theorem spec_shape_val (l : List S78) (hm : l.length ≤ maxLen) : Ev (fun k => spec_IsShape.f k l) (isShapeB l) := spec_shape_loop l hm l.length 0 (by omega)
theorem impl_shape_loop (l : List S78) (hm : l.length ≤ maxLen) (d : Nat) : ∀ n : Nat, n + d = l.length → Ev (fun k => impl_IsShape.l0 k l l (l.length : Int) n) (shapeFrom l d n) := by
  unfold maxLen at hm
  induction d with
  | zero =>
    intro n hd
    refine Ev.step (f := fun _ => _) (fun k => by simp only [impl_IsShape.l0]; rfl) (ev_neg (by omega) ?_)
    rw [shapeFrom]
    by_cases h : (l.length : Int) ≥ 1
    · refine ev_pos h (ev_const ?_)
      rw [decide_eq_true (show 1 ≤ l.length by omega), Bool.true_and]
      congr 1
      exact decide_eq_decide.2 (by omega)
    · refine ev_neg h (ev_const ?_)
      rw [decide_eq_false (show ¬ 1 ≤ l.length by omega), Bool.false_and]
  | succ d ih =>
    intro n hd
    refine Ev.step (f := fun _ => _) (fun k => by simp only [impl_IsShape.l0]; rfl) (ev_pos (by omega) (ev_pos (by omega) (ev_pos (by omega) (ev_some (coord_val _) ?_))))
    rw [show rd_T78 l (n : Int) = cellAt l n from rfl, shapeFrom, okAtB]
    cases h1 : inR (cellAt l n).f0 with
    | false => exact ev_neg (by simp) (ev_const (by simp))
    | true =>
      refine ev_pos rfl (ev_some (coord_val _) ?_)
      cases h1' : inR (cellAt l n).f1 with
      | false => exact ev_neg (by simp) (ev_const (by simp))
      | true =>
        refine ev_pos rfl ?_
        by_cases h0 : n = 0
        · subst h0
          refine ev_neg (by omega) ?_
          rw [wrap_succ 0 (by omega)]
          simpa using ih 1 (by omega)
        · have hw : wrap64 ((n : Int) - 1) = ((n - 1 : Nat) : Int) := by rw [wrap_id _ (by omega) (by omega)]; omega
          rw [hw]
          refine ev_pos (by omega) (ev_pos (by omega) (ev_pos (by omega) (ev_some (compare_val _ _ _ _) ?_)))
          rw [decide_eq_false h0, Bool.false_or, Bool.true_and, show rd_T78 l ((n - 1 : Nat) : Int) = cellAt l (n - 1) from rfl]
          cases h2 : lessB (cellAt l (n - 1)) (cellAt l n) with
          | false => exact ev_pos ((cmpC_less _ _).2 h2) (ev_const rfl)
          | true =>
            refine ev_neg (fun h => by have := (cmpC_less _ _).1 h; rw [h2] at this; cases this) ?_
            rw [wrap_succ n (by omega), Bool.true_and]
            exact ih (n + 1) (by omega)
theorem impl_shape_val (l : List S78) (hm : l.length ≤ maxLen) : Ev (fun k => impl_IsShape.f k l) (isShapeB l) := impl_shape_loop l hm l.length 0 (by omega)
theorem less_iff (a b : S78) : lessB a b = true ↔ a.f1 < b.f1 ∨ (a.f1 = b.f1 ∧ a.f0 < b.f0) := by
  unfold lessB
  simp only [Bool.or_eq_true, Bool.and_eq_true, decide_eq_true_eq]
/-! What a shape is: at most 40 cells, near the origin, no two alike. -/
theorem shapeFrom_true (l : List S78) : ∀ d n : Nat, shapeFrom l d n = true → (∀ i, n ≤ i → i < n + d → okAtB l i = true) ∧ 1 ≤ l.length ∧ l.length ≤ 40
  | 0, n, h => by
    simp only [shapeFrom, Bool.and_eq_true, decide_eq_true_eq] at h
    exact ⟨fun i h1 h2 => by omega, h.1, h.2⟩
  | d + 1, n, h => by
    simp only [shapeFrom, Bool.and_eq_true] at h
    obtain ⟨h1, h2⟩ := shapeFrom_true l d (n + 1) h.2
    refine ⟨fun i h3 h4 => ?_, h2⟩
    by_cases e : i = n
    · subst e; exact h.1
    · exact h1 i (by omega) (by omega)
structure Shape (l : List S78) : Prop where
  pos : 1 ≤ l.length
  le : l.length ≤ 40
  near : ∀ i, i < l.length → (-100 ≤ (cellAt l i).f0 ∧ (cellAt l i).f0 ≤ 100) ∧ (-100 ≤ (cellAt l i).f1 ∧ (cellAt l i).f1 ≤ 100)
  apart : ∀ i j, i < l.length → j < l.length → cellKey (cellAt l i) = cellKey (cellAt l j) → i = j
theorem shape_of (l : List S78) (h : isShapeB l = true) : Shape l := by
  obtain ⟨h1, h2, h3⟩ := shapeFrom_true l _ _ h
  have hok : ∀ i, i < l.length → okAtB l i = true := fun i hi => h1 i (by omega) (by omega)
  have hless : ∀ j i, i < j → j < l.length → lessB (cellAt l i) (cellAt l j) = true := by
    intro j
    induction j with
    | zero => intro i hi; omega
    | succ j ih =>
      intro i hi hj
      have h4 := hok (j + 1) hj
      simp only [okAtB, Bool.and_eq_true, Bool.or_eq_true, decide_eq_true_eq, Nat.add_sub_cancel] at h4
      have h5 : lessB (cellAt l j) (cellAt l (j + 1)) = true := by
        rcases h4.2 with h6 | h6
        · omega
        · exact h6
      by_cases e : i = j
      · subst e; exact h5
      · have h6 := ih i (by omega) (by omega)
        rw [less_iff] at *
        omega
  refine ⟨h2, h3, fun i hi => ?_, fun i j hi hj he => ?_⟩
  · have h4 := hok i hi
    simp only [okAtB, inR, Bool.and_eq_true, decide_eq_true_eq] at h4
    exact ⟨⟨h4.1.1.1, h4.1.1.2⟩, h4.1.2.1, h4.1.2.2⟩
  · simp only [cellKey, Prod.mk.injEq] at he
    rcases Nat.lt_trichotomy i j with h4 | h4 | h4
    · have := (less_iff _ _).1 (hless j i h4 hj)
      omega
    · exact h4
    · have := (less_iff _ _).1 (hless i j h4 hi)
      omega
/-! Where a cell stands. -/
theorem atCell_none (l : List S78) (p : Int × Int) : ∀ n : Nat, (∀ i, i < n → cellKey (cellAt l i) ≠ p) → atCell l n p = none
  | 0, _ => rfl
  | n + 1, h => by
    rw [atCell, if_neg (fun e => h n (by omega) e.symm)]
    exact atCell_none l p n (fun i hi => h i (by omega))
theorem atCell_inv (l : List S78) (p : Int × Int) (q : Int) : ∀ n : Nat, atCell l n p = some q → ∃ i : Nat, i < n ∧ q = (i : Int) ∧ cellKey (cellAt l i) = p
  | 0, h => by simp [atCell] at h
  | n + 1, h => by
    rw [atCell] at h
    by_cases e : p = cellKey (rd_T78 l (n : Int))
    · rw [if_pos e] at h
      exact ⟨n, by omega, (Option.some.inj h).symm, e.symm⟩
    · rw [if_neg e] at h
      obtain ⟨i, h1, h2, h3⟩ := atCell_inv l p q n h
      exact ⟨i, by omega, h2, h3⟩
theorem atCell_some (l : List S78) (hs : Shape l) (i : Nat) (hi : i < l.length) : atCell l l.length (cellKey (cellAt l i)) = some (i : Int) := by
  cases h : atCell l l.length (cellKey (cellAt l i)) with
  | some q =>
    obtain ⟨j, h1, h2, h3⟩ := atCell_inv l _ q _ h
    rw [hs.apart j i h1 hi h3] at h2
    rw [h2]
  | none =>
    have : ∀ n : Nat, i < n → atCell l n (cellKey (cellAt l i)) ≠ none := by
      intro n
      induction n with
      | zero => intro h0; omega
      | succ n ih =>
        intro h0
        rw [atCell]
        by_cases e : cellKey (cellAt l i) = cellKey (rd_T78 l (n : Int))
        · rw [if_pos e]; simp
        · rw [if_neg e]
          exact ih (by
            have : i ≠ n := fun e2 => e (by rw [e2]; rfl)
            omega)
    exact absurd h (this _ hi)
def idxI (l : List S78) (p : Int × Int) : Int := match atCell l l.length p with | some q => q | none => -1
theorem index_loop (l : List S78) (hs : Shape l) (a b : Int) (d : Nat) : ∀ n : Nat, n + d = l.length → (∀ i, i < n → cellKey (cellAt l i) ≠ (a, b)) → Ev (fun k => spec_l02Index.l0 k l n a b) (idxI l (a, b)) := by
  have := hs.le
  induction d with
  | zero =>
    intro n hd hn
    refine Ev.step (f := fun _ => _) (fun k => by simp only [spec_l02Index.l0]; rfl) (ev_neg (by omega) (ev_const ?_))
    unfold idxI
    rw [atCell_none l (a, b) l.length (fun i hi => hn i (by omega))]
  | succ d ih =>
    intro n hd hn
    refine Ev.step (f := fun _ => _) (fun k => by simp only [spec_l02Index.l0]; rfl) (ev_pos (by omega) (ev_pos (by omega) ?_))
    rw [show rd_T78 l (n : Int) = cellAt l n from rfl]
    by_cases e : ((cellAt l n).f0 == a && (cellAt l n).f1 == b) = true
    · refine ev_pos e (ev_const ?_)
      simp only [Bool.and_eq_true, beq_iff_eq] at e
      unfold idxI
      rw [show ((a, b) : Int × Int) = cellKey (cellAt l n) by unfold cellKey; rw [e.1, e.2], atCell_some l hs n (by omega)]
    · refine ev_neg e ?_
      rw [wrap_succ n (by omega)]
      refine ih (n + 1) (by omega) (fun i hi => ?_)
      by_cases e2 : i = n
      · subst e2
        intro h
        simp only [cellKey, Prod.mk.injEq] at h
        exact e (by rw [Bool.and_eq_true]; exact ⟨beq_iff_eq.2 h.1, beq_iff_eq.2 h.2⟩)
      · exact hn i (by omega)
theorem index_val (l : List S78) (hs : Shape l) (a b : Int) : Ev (fun k => spec_l02Index.f k l a b) (idxI l (a, b)) := index_loop l hs a b l.length 0 (by omega) (fun i hi => by omega)
/-! Parts: both sides come to the same list. -/
def negs (out : List Int) : Nat := out.countP (fun x => decide (x < 0))
theorem negs_set (out : List Int) (q : Nat) (v : Int) (hq : q < out.length) (h0 : out.getD q 0 < 0) (hv : 0 ≤ v) : negs (out.set q v) + 1 = negs out := by
  unfold negs
  rw [List.countP_set hq]
  have h1 : out[q] = out.getD q 0 := by rw [List.getD_eq_getElem?_getD, List.getElem?_eq_getElem hq]; rfl
  have h2 : decide (out[q] < 0) = true := by rw [h1]; exact decide_eq_true h0
  have h3 : decide (v < 0) = false := decide_eq_false (by omega)
  have h4 : 0 < out.countP (fun x => decide (x < 0)) := List.countP_pos_iff.2 ⟨out[q], List.getElem_mem hq, h2⟩
  simp only [h2, h3, if_true, Bool.false_eq_true, if_false]
  omega
theorem rd_get (out : List Int) (q : Nat) : rd out (q : Int) = out.getD q 0 := rfl
theorem getD_set (out : List Int) (q j : Nat) (v : Int) (hq : q < out.length) : (out.set q v).getD j 0 = if j = q then v else out.getD j 0 := by
  rw [List.getD_eq_getElem?_getD, List.getD_eq_getElem?_getD, List.getElem?_set]
  by_cases e : q = j
  · subst e; simp [hq]
  · rw [if_neg e, if_neg (Ne.symm e)]
structure Fine (l : List S78) (out list : List Int) : Prop where
  len : out.length = l.length
  mem : ∀ q, q ∈ list → 0 ≤ q ∧ q < (l.length : Int)
  few : list.length + 2 * negs out ≤ 100
theorem okc_wrap (x y : Int) (hx : -100 ≤ x ∧ x ≤ 100) (hy : -100 ≤ y ∧ y ≤ 100) : ∀ d ∈ [(⟨x, wrap64 (y - 1)⟩ : S78), ⟨wrap64 (x - 1), y⟩, ⟨wrap64 (x + 1), y⟩, ⟨x, wrap64 (y + 1)⟩], okc d := by
  intro d hd
  have w : ∀ n : Int, -9223372036854775808 ≤ wrap64 n ∧ wrap64 n ≤ 9223372036854775807 := fun n => by unfold wrap64; omega
  simp only [List.mem_cons, List.not_mem_nil, or_false] at hd
  rcases hd with rfl | rfl | rfl | rfl
  · exact ⟨⟨by show _ ≤ x; omega, by show x ≤ _; omega⟩, w _⟩
  · exact ⟨w _, ⟨by show _ ≤ y; omega, by show y ≤ _; omega⟩⟩
  · exact ⟨w _, ⟨by show _ ≤ y; omega, by show y ≤ _; omega⟩⟩
  · exact ⟨⟨by show _ ≤ x; omega, by show x ≤ _; omega⟩, w _⟩
theorem rd_cell (l : List S78) (n : Nat) : rd_T78 l (n : Int) = cellAt l n := rfl
/-! The walk of the first part, as a relation. -/
def dsOf (c : S78) : List S78 := [(⟨c.f0, wrap64 (c.f1 - 1)⟩ : S78), ⟨wrap64 (c.f0 - 1), c.f1⟩, ⟨wrap64 (c.f0 + 1), c.f1⟩, ⟨c.f0, wrap64 (c.f1 + 1)⟩]
inductive PW (l : List S78) : List Int → List Int → Nat → Nat → Prop
  | start : PW l ((List.replicate l.length (-1)).set 0 0) [0] 0 0
  | pass (out list : List Int) (t j q0 : Nat) : PW l out list t j → j < 4 → t < list.length → list.getD t 0 = (q0 : Int) → q0 < l.length → (∀ p : Nat, p < l.length → cellKey (cellAt l p) = cellKey (cellAt (dsOf (cellAt l q0)) j) → 0 ≤ out.getD p 0) → PW l out list t (j + 1)
  | new (out list : List Int) (t j q0 p : Nat) : PW l out list t j → j < 4 → t < list.length → list.getD t 0 = (q0 : Int) → q0 < l.length → p < l.length → cellKey (cellAt l p) = cellKey (cellAt (dsOf (cellAt l q0)) j) → out.getD p 0 < 0 → PW l (out.set p 0) (list ++ [(p : Int)]) t (j + 1)
  | turn (out list : List Int) (t : Nat) : PW l out list t 4 → PW l out list (t + 1) 0
theorem parts3 (l : List S78) (hs : Shape l) (i t : Nat) (hi : i < l.length) (ds : List S78) (hds : ds.length = 4) (hok : ∀ d ∈ ds, okc d) (q0 : Nat) (hq0 : q0 < l.length) (hdq : ds = dsOf (cellAt l q0)) (d : Nat) : ∀ (j : Nat) (out list : List Int), j + d = 4 → t < list.length → list.getD t 0 = (q0 : Int) → (i = 0 → PW l out list t j) → Fine l out list →
    ∃ out' list', (i = 0 → PW l out' list' t 4) ∧ Fine l out' list' ∧ list.length ≤ list'.length ∧ list'.length + 2 * negs out' ≤ list.length + 2 * negs out ∧ ((∀ q : Nat, 0 ≤ out.getD q 0 → out'.getD q 0 = out.getD q 0) ∧ ∀ q : Nat, out.getD q 0 < 0 → out'.getD q 0 < 0 ∨ out'.getD q 0 = (i : Int)) ∧
      (∀ r, Ev (fun k => impl_parts.l2 k l out' i list' (t + 1 : Nat)) r → Ev (fun k => impl_parts.l3 k l out i list t ds j) r) ∧
      (∀ r, Ev (fun k => spec_l02Parts.l2 k l out' i (list'.drop (t + 1))) r → Ev (fun k => spec_l02Parts.l3 k l out i (list.drop (t + 1)) ds j) r) := by
  have hN := hs.le
  induction d with
  | zero =>
    intro j out list hj ht htq hW hF
    have := hF.few
    obtain rfl : j = 4 := by omega
    refine ⟨out, list, hW, hF, Nat.le_refl _, Nat.le_refl _, ⟨fun _ _ => rfl, fun _ h => .inl h⟩, fun r hr => ?_, fun r hr => ?_⟩
    · refine Ev.step (f := fun _ => _) (fun k => by simp only [impl_parts.l3]; rfl) (ev_neg (by omega) ?_)
      rw [wrap_succ t (by omega)]
      exact hr
    · exact Ev.step (f := fun _ => _) (fun k => by simp only [spec_l02Parts.l3]; rfl) (ev_neg (by omega) hr)
  | succ d ih =>
    intro j out list hj ht htq hW hF
    have hfew := hF.few
    have hmem : cellAt ds j ∈ ds := getD_mem ds z78 j (by omega)
    cases hq : atCell l l.length (cellKey (cellAt ds j)) with
    | none =>
      obtain ⟨out', list', h0, h1, h2, h3, h4, h5, h6⟩ := ih (j + 1) out list (by omega) ht htq (fun h => PW.pass out list t j q0 (hW h) (by omega) ht htq hq0 (fun p hp hk => by rw [← hdq] at hk; rw [← hk, atCell_some l hs p hp] at hq; cases hq)) hF
      refine ⟨out', list', h0, h1, h2, h3, h4, fun r hr => ?_, fun r hr => ?_⟩
      · refine Ev.step (f := fun k => if (j : Int) < (ds.length : Int) then (if 0 ≤ (j : Int) ∧ okc (cellAt ds j) then impl_parts.l3 k l out i list t ds (wrap64 ((j : Int) + 1)) else none) else impl_parts.l2 k l out i list (wrap64 ((t : Int) + 1))) (fun k => by simp only [impl_parts.l3, rd_cell, hq]) (ev_pos (by omega) (ev_pos ⟨by omega, hok _ hmem⟩ ?_))
        rw [wrap_succ j (by omega)]
        exact h5 r hr
      · refine Ev.step (f := fun _ => _) (fun k => by simp only [spec_l02Parts.l3]; rfl) (ev_pos (by omega) (ev_pos (by omega) (ev_pos (by omega) (Ev.bind (index_val l hs _ _) ?_))))
        have he : idxI l ((rd_T78 ds (j : Int)).f0, (rd_T78 ds (j : Int)).f1) = -1 := by
          unfold idxI
          rw [show ((rd_T78 ds (j : Int)).f0, (rd_T78 ds (j : Int)).f1) = cellKey (cellAt ds j) from rfl, hq]
        rw [he]
        refine ev_neg (by omega) ?_
        rw [wrap_succ j (by omega)]
        exact h6 r hr
    | some q =>
      obtain ⟨p, hp, rfl, hpk⟩ := atCell_inv l _ _ _ hq
      have he : idxI l ((rd_T78 ds (j : Int)).f0, (rd_T78 ds (j : Int)).f1) = (p : Int) := by
        unfold idxI
        rw [show ((rd_T78 ds (j : Int)).f0, (rd_T78 ds (j : Int)).f1) = cellKey (cellAt ds j) from rfl, hq]
      have hI : ∀ (r : List Int) (g : Nat → Option (List Int)), Ev g r → (∀ k, g k = (if rd out (p : Int) < 0 then (if list.length < 17592186044416 then impl_parts.l3 k l (out.set (p : Int).toNat i) i (list ++ [(p : Int)]) t ds (wrap64 ((j : Int) + 1)) else none) else impl_parts.l3 k l out i list t ds (wrap64 ((j : Int) + 1)))) → Ev (fun k => impl_parts.l3 k l out i list t ds j) r := by
        intro r g hg hgk
        refine Ev.step (f := fun k => if (j : Int) < (ds.length : Int) then (if 0 ≤ (j : Int) ∧ okc (cellAt ds j) then (if 0 ≤ (p : Int) ∧ (p : Int) < (l.length : Int) then g k else none) else none) else impl_parts.l2 k l out i list (wrap64 ((t : Int) + 1))) (fun k => by simp only [impl_parts.l3, rd_cell, hq, hgk]) (ev_pos (by omega) (ev_pos ⟨by omega, hok _ hmem⟩ (ev_pos ⟨by omega, by omega⟩ hg)))
      by_cases hneg : rd out (p : Int) < 0
      · have hset := negs_set out p (i : Int) (by rw [hF.len]; exact hp) hneg (by omega)
        have hF2 : Fine l (out.set p (i : Int)) (list ++ [(p : Int)]) := ⟨by rw [List.length_set]; exact hF.len, fun q hq => by
          rcases List.mem_append.1 hq with h | h
          · exact hF.mem q h
          · rw [List.mem_singleton.1 h]; omega, by simp only [List.length_append, List.length_cons, List.length_nil]; omega⟩
        obtain ⟨out', list', h0, h1, h2, h3, h4, h5, h6⟩ := ih (j + 1) _ _ (by omega) (by simp; omega) (by rw [List.getD_eq_getElem?_getD, List.getElem?_append_left ht, ← List.getD_eq_getElem?_getD]; exact htq) (fun h => by have h' := PW.new out list t j q0 p (hW h) (by omega) ht htq hq0 hp (by rw [← hdq]; exact hpk) hneg; subst h; exact h') hF2
        simp only [List.length_append, List.length_cons, List.length_nil] at h2 h3
        refine ⟨out', list', h0, h1, by omega, by omega, ⟨fun q h => ?_, fun q h => ?_⟩, fun r hr => ?_, fun r hr => ?_⟩
        · have hne : q ≠ p := fun e => by subst e; rw [rd_get] at hneg; omega
          have h7 := h4.1 q (by rw [getD_set _ _ _ _ (by rw [hF.len]; exact hp), if_neg hne]; exact h)
          rw [getD_set _ _ _ _ (by rw [hF.len]; exact hp), if_neg hne] at h7
          exact h7
        · by_cases e : q = p
          · subst e
            have h7 := h4.1 q (by rw [getD_set _ _ _ _ (by rw [hF.len]; exact hp), if_pos rfl]; omega)
            rw [getD_set _ _ _ _ (by rw [hF.len]; exact hp), if_pos rfl] at h7
            exact .inr h7
          · exact h4.2 q (by rw [getD_set _ _ _ _ (by rw [hF.len]; exact hp), if_neg e]; exact h)
        · refine hI r (fun k => impl_parts.l3 k l (out.set p i) i (list ++ [(p : Int)]) t ds ((j + 1 : Nat) : Int)) (h5 r hr) (fun k => ?_)
          rw [if_pos hneg, if_pos (by omega), wrap_succ j (by omega), Int.toNat_natCast]
        · refine Ev.step (f := fun _ => _) (fun k => by simp only [spec_l02Parts.l3]; rfl) (ev_pos (by omega) (ev_pos (by omega) (ev_pos (by omega) (Ev.bind (index_val l hs _ _) ?_))))
          rw [he]
          refine ev_pos (by omega) (ev_pos (by omega) (ev_pos (by rw [hF.len]; omega) (ev_pos hneg (ev_pos (by rw [List.length_drop]; omega) ?_))))
          rw [wrap_succ j (by omega), Int.toNat_natCast]
          have e : list.drop (t + 1) ++ [(p : Int)] = (list ++ [(p : Int)]).drop (t + 1) := by rw [List.drop_append_of_le_length (by omega)]
          rw [e]
          exact h6 r hr
      · obtain ⟨out', list', h0, h1, h2, h3, h4, h5, h6⟩ := ih (j + 1) out list (by omega) ht htq (fun h => PW.pass out list t j q0 (hW h) (by omega) ht htq hq0 (fun p' hp' hk => by rw [← hdq] at hk; rw [hs.apart p' p hp' hp (hk.trans hpk.symm)]; rw [rd_get] at hneg; omega)) hF
        refine ⟨out', list', h0, h1, h2, h3, h4, fun r hr => ?_, fun r hr => ?_⟩
        · refine hI r (fun k => impl_parts.l3 k l out i list t ds ((j + 1 : Nat) : Int)) (h5 r hr) (fun k => ?_)
          rw [if_neg hneg, wrap_succ j (by omega)]
        · refine Ev.step (f := fun _ => _) (fun k => by simp only [spec_l02Parts.l3]; rfl) (ev_pos (by omega) (ev_pos (by omega) (ev_pos (by omega) (Ev.bind (index_val l hs _ _) ?_))))
          rw [he]
          refine ev_pos (by omega) (ev_pos (by omega) (ev_pos (by rw [hF.len]; omega) (ev_neg hneg ?_)))
          rw [wrap_succ j (by omega)]
          exact h6 r hr
theorem parts2 (l : List S78) (hs : Shape l) (i : Nat) (hi : i < l.length) (M : Nat) : ∀ (out list : List Int) (t : Nat), 2 * negs out + (list.length - t) ≤ M → t ≤ list.length → (i = 0 → PW l out list t 0) → Fine l out list →
    ∃ out', (i = 0 → ∃ list', PW l out' list' list'.length 0) ∧ out'.length = l.length ∧ ((∀ q : Nat, 0 ≤ out.getD q 0 → out'.getD q 0 = out.getD q 0) ∧ ∀ q : Nat, out.getD q 0 < 0 → out'.getD q 0 < 0 ∨ out'.getD q 0 = (i : Int)) ∧ negs out' ≤ negs out + 50 ∧
      (∀ r, Ev (fun k => impl_parts.l1 k l out' (i + 1 : Nat)) r → Ev (fun k => impl_parts.l2 k l out i list t) r) ∧
      (∀ r, Ev (fun k => spec_l02Parts.l1 k l out' (i + 1 : Nat)) r → Ev (fun k => spec_l02Parts.l2 k l out i (list.drop t)) r) := by
  have hN := hs.le
  induction M with
  | zero =>
    intro out list t hM ht hW hF
    have hfew := hF.few
    obtain rfl : t = list.length := by omega
    refine ⟨out, fun h => ⟨list, hW h⟩, hF.len, ⟨fun _ _ => rfl, fun _ h => .inl h⟩, by omega, fun r hr => ?_, fun r hr => ?_⟩
    · refine Ev.step (f := fun _ => _) (fun k => by simp only [impl_parts.l2]; rfl) (ev_neg (by omega) ?_)
      rw [wrap_succ i (by omega)]
      exact hr
    · refine Ev.step (f := fun _ => _) (fun k => by simp only [spec_l02Parts.l2]; rfl) (ev_neg (by rw [List.length_drop]; omega) ?_)
      rw [wrap_succ i (by omega)]
      exact hr
  | succ M ih =>
    intro out list t hM ht hW hF
    have hfew := hF.few
    by_cases e : t = list.length
    · subst e
      refine ⟨out, fun h => ⟨list, hW h⟩, hF.len, ⟨fun _ _ => rfl, fun _ h => .inl h⟩, by omega, fun r hr => ?_, fun r hr => ?_⟩
      · refine Ev.step (f := fun _ => _) (fun k => by simp only [impl_parts.l2]; rfl) (ev_neg (by omega) ?_)
        rw [wrap_succ i (by omega)]
        exact hr
      · refine Ev.step (f := fun _ => _) (fun k => by simp only [spec_l02Parts.l2]; rfl) (ev_neg (by rw [List.length_drop]; omega) ?_)
        rw [wrap_succ i (by omega)]
        exact hr
    · have ht' : t < list.length := by omega
      have hm := hF.mem (list.getD t 0) (getD_mem list 0 t ht')
      obtain ⟨q, hq⟩ := Int.eq_ofNat_of_zero_le hm.1
      have hn := hs.near q (by omega)
      obtain ⟨out1, list1, h0, h1, h2, h3, h4, h5, h6⟩ := parts3 l hs i t hi [(⟨(cellAt l q).f0, wrap64 ((cellAt l q).f1 - 1)⟩ : S78), ⟨wrap64 ((cellAt l q).f0 - 1), (cellAt l q).f1⟩, ⟨wrap64 ((cellAt l q).f0 + 1), (cellAt l q).f1⟩, ⟨(cellAt l q).f0, wrap64 ((cellAt l q).f1 + 1)⟩] rfl (okc_wrap _ _ hn.1 hn.2) q (by omega) rfl 4 0 out list rfl ht' hq hW hF
      obtain ⟨out', g0, g1, g2, g3, g4, g5⟩ := ih out1 list1 (t + 1) (by omega) (by omega) (fun h => PW.turn _ _ _ (h0 h)) h1
      refine ⟨out', g0, g1, ⟨fun q h => (g2.1 q (by rw [h4.1 q h]; exact h)).trans (h4.1 q h), fun q h => (h4.2 q h).elim (fun h' => g2.2 q h') (fun h' => .inr ((g2.1 q (by rw [h']; omega)).trans h'))⟩, by have := h1.few; omega, fun r hr => ?_, fun r hr => ?_⟩
      · refine Ev.step (f := fun _ => _) (fun k => by simp only [impl_parts.l2]; rfl) (ev_pos (by omega) ?_)
        rw [rd_get, hq]
        refine ev_pos ⟨⟨by omega, by omega⟩, by omega⟩ (ev_some rfl ?_)
        exact h5 r (g4 r hr)
      · have hd : list.drop t = list.getD t 0 :: list.drop (t + 1) := drop_cons list 0 t ht'
        rw [hd, hq]
        have hr0 : rd ((q : Int) :: list.drop (t + 1)) 0 = (q : Int) := rfl
        refine Ev.step (f := fun _ => _) (fun k => by simp only [spec_l02Parts.l2]; rfl) (ev_pos (by simp only [List.length_cons]; omega) (ev_pos (by simp only [List.length_cons]; omega) ?_))
        rw [hr0]
        refine ev_pos (by omega) (ev_pos (by omega) (ev_some rfl (ev_pos (by simp only [List.length_cons]; omega) ?_)))
        exact h6 r (g5 r hr)
theorem parts1 (l : List S78) (hs : Shape l) (d : Nat) : ∀ (i : Nat) (out : List Int), i + d = l.length → out.length = l.length → (i = 0 → out = List.replicate l.length (-1)) → (∀ q : Nat, q < i → 0 ≤ out.getD q 0) →
    ∃ out', out'.length = l.length ∧ (∀ q : Nat, q < l.length → 0 ≤ out'.getD q 0) ∧ Ev (fun k => impl_parts.l1 k l out i) out' ∧ Ev (fun k => spec_l02Parts.l1 k l out i) out' ∧
      (1 ≤ i → (∀ q : Nat, 0 ≤ out.getD q 0 → out'.getD q 0 = out.getD q 0) ∧ ∀ q : Nat, q < l.length → out.getD q 0 < 0 → 1 ≤ out'.getD q 0) ∧
      (i = 0 → ∃ out1 list, PW l out1 list list.length 0 ∧ (∀ q : Nat, 0 ≤ out1.getD q 0 → out'.getD q 0 = out1.getD q 0) ∧ ∀ q : Nat, q < l.length → out1.getD q 0 < 0 → 1 ≤ out'.getD q 0) := by
  have hN := hs.le
  have hL := hs.pos
  induction d with
  | zero =>
    intro i out hi ho hz hp
    refine ⟨out, ho, fun q hq => hp q (by omega), ?_, ?_, fun _ => ⟨fun _ _ => rfl, fun q hq h => by have := hp q (by omega); omega⟩, fun h => by omega⟩
    · exact Ev.step (f := fun _ => _) (fun k => by simp only [impl_parts.l1]; rfl) (ev_neg (by omega) (ev_const rfl))
    · exact Ev.step (f := fun _ => _) (fun k => by simp only [spec_l02Parts.l1]; rfl) (ev_neg (by omega) (ev_const rfl))
  | succ d ih =>
    intro i out hi ho hz hp
    by_cases h0 : rd out (i : Int) ≥ 0
    · obtain ⟨out', h1, h2, h3, h4, h5, _⟩ := ih (i + 1) out (by omega) ho (fun h => by omega) (fun q hq => by
        by_cases e : q = i
        · subst e; exact h0
        · exact hp q (by omega))
      refine ⟨out', h1, h2, ?_, ?_, fun _ => h5 (by omega), fun h => ?_⟩
      · refine Ev.step (f := fun _ => _) (fun k => by simp only [impl_parts.l1]; rfl) (ev_pos (by omega) (ev_pos (by omega) (ev_pos h0 ?_)))
        rw [wrap_succ i (by omega)]
        exact h3
      · refine Ev.step (f := fun _ => _) (fun k => by simp only [spec_l02Parts.l1]; rfl) (ev_pos (by omega) (ev_pos (by omega) (ev_pos (by omega) (ev_pos h0 ?_))))
        rw [wrap_succ i (by omega)]
        exact h4
      · exfalso
        rw [hz h, h, rd_get, List.getD_eq_getElem?_getD, List.getElem?_replicate, if_pos (by omega)] at h0
        simp at h0
    · have hneg : out.getD i 0 < 0 := by rw [rd_get] at h0; omega
      have hset := negs_set out i (i : Int) (by omega) hneg (by omega)
      have hcount : negs out ≤ out.length := List.countP_le_length
      obtain ⟨out1, g0, g1, g2, g3, g4, g5⟩ := parts2 l hs i (by omega) (2 * negs (out.set i (i : Int)) + 1) (out.set i (i : Int)) [(i : Int)] 0 (by simp) (by simp) (fun h => by subst h; rw [hz rfl]; exact PW.start) ⟨by rw [List.length_set]; exact ho, fun q hq => by rw [List.mem_singleton.1 hq]; omega, by simp only [List.length_cons, List.length_nil]; omega⟩
      have hkeep : ∀ q : Nat, 0 ≤ out.getD q 0 → out1.getD q 0 = out.getD q 0 := fun q h => by
        have hne : q ≠ i := fun e => by subst e; omega
        have h7 := g2.1 q (by rw [getD_set _ _ _ _ (by omega), if_neg hne]; exact h)
        rw [getD_set _ _ _ _ (by omega), if_neg hne] at h7
        exact h7
      have hset2 : ∀ q : Nat, out.getD q 0 < 0 → out1.getD q 0 < 0 ∨ out1.getD q 0 = (i : Int) := fun q h => by
        by_cases e : q = i
        · subst e
          have h7 := g2.1 q (by rw [getD_set _ _ _ _ (by omega), if_pos rfl]; omega)
          rw [getD_set _ _ _ _ (by omega), if_pos rfl] at h7
          exact .inr h7
        · exact g2.2 q (by rw [getD_set _ _ _ _ (by omega), if_neg e]; exact h)
      obtain ⟨out', h1, h2, h3, h4, h5, _⟩ := ih (i + 1) out1 (by omega) g1 (fun h => by omega) (fun q hq => by
        by_cases e : q = i
        · subst e
          have h7 := g2.1 q (by rw [getD_set _ _ _ _ (by omega), if_pos rfl]; omega)
          rw [getD_set _ _ _ _ (by omega), if_pos rfl] at h7
          omega
        · rw [hkeep q (hp q (by omega))]
          exact hp q (by omega))
      obtain ⟨h6, h7⟩ := h5 (by omega)
      refine ⟨out', h1, h2, ?_, ?_, fun h8 => ⟨fun q h => by rw [h6 q (by rw [hkeep q h]; exact h), hkeep q h], fun q hq h => ?_⟩, fun h => ?_⟩
      · refine Ev.step (f := fun _ => _) (fun k => by simp only [impl_parts.l1]; rfl) (ev_pos (by omega) (ev_pos (by omega) (ev_neg h0 ?_)))
        rw [Int.toNat_natCast]
        exact g4 _ h3
      · refine Ev.step (f := fun _ => _) (fun k => by simp only [spec_l02Parts.l1]; rfl) (ev_pos (by omega) (ev_pos (by omega) (ev_pos (by omega) (ev_neg h0 ?_))))
        rw [Int.toNat_natCast]
        exact g5 _ h4
      · rcases hset2 q h with h9 | h9
        · exact h7 q hq h9
        · rw [h6 q (by omega)]
          omega
      · obtain ⟨list, hW⟩ := g0 h
        exact ⟨out1, list, hW, h6, h7⟩
theorem parts0 (l : List S78) (hs : Shape l) (r : List Int) (h : Ev (fun k => spec_l02Parts.l1 k l (List.replicate l.length (-1)) 0) r) (d : Nat) : ∀ n : Nat, n + d = l.length → Ev (fun k => spec_l02Parts.l0 k l (List.replicate n (-1)) n) r := by
  have hN := hs.le
  induction d with
  | zero =>
    intro n hn
    obtain rfl : n = l.length := by omega
    exact Ev.step (f := fun _ => _) (fun k => by simp only [spec_l02Parts.l0]; rfl) (ev_neg (by omega) h)
  | succ d ih =>
    intro n hn
    refine Ev.step (f := fun _ => _) (fun k => by simp only [spec_l02Parts.l0]; rfl) (ev_pos (by omega) (ev_pos (by simp; omega) ?_))
    rw [wrap_succ n (by omega), show List.replicate n (-1 : Int) ++ [-1] = List.replicate (n + 1) (-1) from List.replicate_succ'.symm]
    exact ih (n + 1) (by omega)
theorem parts_bothW (l : List S78) (hs : Shape l) : ∃ out, out.length = l.length ∧ (∀ q : Nat, q < l.length → 0 ≤ out.getD q 0) ∧ Ev (fun k => impl_parts.f k l) out ∧ Ev (fun k => spec_l02Parts.f k l) out ∧ ∃ out1 list, PW l out1 list list.length 0 ∧ (∀ q : Nat, 0 ≤ out1.getD q 0 → out.getD q 0 = out1.getD q 0) ∧ ∀ q : Nat, q < l.length → out1.getD q 0 < 0 → 1 ≤ out.getD q 0 := by
  obtain ⟨out, h1, h2, h3, h4, _, h6⟩ := parts1 l hs l.length 0 (List.replicate l.length (-1)) (by omega) (by simp) (fun _ => rfl) (fun q hq => by omega)
  refine ⟨out, h1, h2, ?_, parts0 l hs out h4 l.length 0 (by omega), h6 rfl⟩
  refine ev_pos ⟨⟨by have := hs.pos; omega, by have := hs.le; omega⟩, fun c hc => ?_⟩ h3
  obtain ⟨i, hi, rfl⟩ := List.getElem_of_mem hc
  have := hs.near i hi
  have e : l[i] = cellAt l i := by rw [show cellAt l i = l.getD i z78 from rfl, List.getD_eq_getElem?_getD, List.getElem?_eq_getElem hi]; rfl
  rw [e]
  exact ⟨⟨by omega, by omega⟩, by omega, by omega⟩
theorem parts_both (l : List S78) (hs : Shape l) : ∃ out, out.length = l.length ∧ (∀ q : Nat, q < l.length → 0 ≤ out.getD q 0) ∧ Ev (fun k => impl_parts.f k l) out ∧ Ev (fun k => spec_l02Parts.f k l) out := by
  obtain ⟨out, h1, h2, h3, h4, _⟩ := parts_bothW l hs
  exact ⟨out, h1, h2, h3, h4⟩
theorem max_loop (out : List Int) (hm : out.length ≤ 40) (hp : ∀ q : Nat, q < out.length → 0 ≤ out.getD q 0) (d : Nat) : ∀ (n : Nat) (x : Int), n + d = out.length → 0 ≤ x →
    ∃ m, Ev (fun k => slices_Max_int64_int64.l0 k out x n) m ∧ (m = 0 ↔ x = 0 ∧ ∀ q : Nat, n ≤ q → q < out.length → out.getD q 0 = 0) := by
  induction d with
  | zero =>
    intro n x hn hx
    exact ⟨x, Ev.step (f := fun _ => _) (fun k => by simp only [slices_Max_int64_int64.l0]; rfl) (ev_neg (by omega) (ev_const rfl)), ⟨fun h => ⟨h, fun q h1 h2 => by omega⟩, fun h => h.1⟩⟩
  | succ d ih =>
    intro n x hn hx
    have h0 := hp n (by omega)
    obtain ⟨m, h1, h2⟩ := ih (n + 1) (mx x (rd out (n : Int))) (by omega) (by rw [rd_get]; unfold mx; split <;> omega)
    refine ⟨m, Ev.step (f := fun _ => _) (fun k => by simp only [slices_Max_int64_int64.l0]; rfl) (ev_pos (by omega) (ev_pos (by omega) (by rw [wrap_succ n (by omega)]; exact h1))), h2.trans ⟨fun h => ?_, fun h => ?_⟩⟩
    · rw [rd_get] at h
      have h3 : x = 0 ∧ out.getD n 0 = 0 := by
        have := h.1
        unfold mx at this
        split at this <;> omega
      refine ⟨h3.1, fun q h4 h5 => ?_⟩
      by_cases e : q = n
      · subst e; exact h3.2
      · exact h.2 q (by omega) h5
    · have h3 := h.2 n (Nat.le_refl _) (by omega)
      refine ⟨?_, fun q h4 h5 => h.2 q (by omega) h5⟩
      rw [rd_get, h.1, h3]
      rfl
theorem one_loop (out : List Int) (hm : out.length ≤ 40) (d : Nat) : ∀ n : Nat, n + d = out.length → ∃ b, Ev (fun k => spec_l02One.l0 k out n) b ∧ (b = true ↔ ∀ q : Nat, n ≤ q → q < out.length → out.getD q 0 = 0) := by
  induction d with
  | zero =>
    intro n hn
    exact ⟨true, Ev.step (f := fun _ => _) (fun k => by simp only [spec_l02One.l0]; rfl) (ev_neg (by omega) (ev_const rfl)), ⟨fun _ q h1 h2 => by omega, fun _ => rfl⟩⟩
  | succ d ih =>
    intro n hn
    by_cases h : rd out (n : Int) = 0
    · obtain ⟨b, h1, h2⟩ := ih (n + 1) (by omega)
      refine ⟨b, Ev.step (f := fun _ => _) (fun k => by simp only [spec_l02One.l0]; rfl) (ev_pos (by omega) (ev_pos (by omega) (ev_pos h (by rw [wrap_succ n (by omega)]; exact h1)))), h2.trans ⟨fun h3 q h4 h5 => ?_, fun h3 q h4 h5 => h3 q (by omega) h5⟩⟩
      by_cases e : q = n
      · subst e; exact h
      · exact h3 q (by omega) h5
    · exact ⟨false, Ev.step (f := fun _ => _) (fun k => by simp only [spec_l02One.l0]; rfl) (ev_pos (by omega) (ev_pos (by omega) (ev_neg h (ev_const rfl)))), ⟨fun h1 => (by cases h1), fun h1 => absurd (h1 n (Nat.le_refl _) (by omega)) h⟩⟩
theorem connected_both (l : List S78) (hm : l.length ≤ maxLen) : ∃ b, Ev (fun k => impl_IsConnected.f k l) b ∧ Ev (fun k => spec_IsConnected.f k l) b ∧ (b = true → Shape l) := by
  cases h : isShapeB l with
  | false =>
    have h1 := impl_shape_val l hm
    have h2 := spec_shape_val l hm
    rw [h] at h1 h2
    exact ⟨false, Ev.bind h1 (ev_neg (by simp) (ev_const rfl)), Ev.bind h2 (ev_neg (by simp) (ev_const rfl)), fun h => by cases h⟩
  | true =>
    have hs := shape_of l h
    have hN := hs.le
    have h1 := impl_shape_val l hm
    have h2 := spec_shape_val l hm
    rw [h] at h1 h2
    obtain ⟨out, g1, g2, g3, g4⟩ := parts_both l hs
    have hpos := hs.pos
    obtain ⟨m, m1, m2⟩ := max_loop out (by omega) (fun q hq => g2 q (by omega)) (out.length - 1) 1 (rd out 0) (by omega) (g2 0 (by omega))
    obtain ⟨b, b1, b2⟩ := one_loop out (by omega) out.length 0 (by omega)
    have hmax : Ev (fun k => slices_Max_int64_int64.f k out) m := ev_neg (by omega) (ev_pos (by omega) m1)
    have heq : m = 0 ↔ b = true := m2.trans (Iff.trans ⟨fun h q h1 h2 => by
      by_cases e : q = 0
      · subst e; exact h.1
      · exact h.2 q (by omega) h2, fun h => ⟨h 0 (Nat.le_refl _) (by omega), fun q h1 h2 => h q (by omega) h2⟩⟩ b2.symm)
    refine ⟨b, Ev.bind h1 (ev_pos rfl (Ev.bind g3 (Ev.bind hmax ?_))), Ev.bind h2 (ev_pos rfl (Ev.bind g4 (Ev.bind b1 (ev_const rfl)))), fun _ => hs⟩
    cases b with
    | true => exact ev_pos (heq.2 rfl) (ev_const rfl)
    | false => exact ev_neg (fun e => by have := heq.1 e; cases this) (ev_const rfl)
/-! Faces: both sides roll the die alike. -/
theorem has_loop (ids : List Int) (v : Int) (hm : ids.length ≤ 1000) (d : Nat) : ∀ n : Nat, n + d = ids.length → (∀ i, i < n → ids.getD i 0 ≠ v) → Ev (fun k => spec_l01Has.l0 k ids v n) (decide (v ∈ ids)) := by
  induction d with
  | zero =>
    intro n hn h
    refine Ev.step (f := fun _ => _) (fun k => by simp only [spec_l01Has.l0]; rfl) (ev_neg (by omega) (ev_const ?_))
    rw [decide_eq_false]
    intro hv
    obtain ⟨i, hi, e⟩ := List.getElem_of_mem hv
    exact h i (by omega) (by rw [List.getD_eq_getElem?_getD, List.getElem?_eq_getElem hi]; exact e)
  | succ d ih =>
    intro n hn h
    refine Ev.step (f := fun _ => _) (fun k => by simp only [spec_l01Has.l0]; rfl) (ev_pos (by omega) (ev_pos (by omega) ?_))
    by_cases e : rd ids (n : Int) = v
    · refine ev_pos e (ev_const ?_)
      rw [decide_eq_true]
      rw [← e]
      exact getD_mem ids 0 n (by omega)
    · refine ev_neg e ?_
      rw [wrap_succ n (by omega)]
      refine ih (n + 1) (by omega) (fun i hi => ?_)
      by_cases e2 : i = n
      · subst e2; exact e
      · exact h i (by omega)
theorem has_val (ids : List Int) (v : Int) (hm : ids.length ≤ 1000) : Ev (fun k => spec_l01Has.f k ids v) (decide (v ∈ ids)) := has_loop ids v hm ids.length 0 (by omega) (fun i hi => by omega)
theorem sindex_loop (l : List S78) (hs : Shape l) (a b : Int) (d : Nat) : ∀ n : Nat, n + d = l.length → (∀ i, i < n → cellKey (cellAt l i) ≠ (a, b)) → Ev (fun k => slices_Index_impl_Cell_impl_Cell.l0 k l (l.length : Int) n a b) (idxI l (a, b)) := by
  have := hs.le
  induction d with
  | zero =>
    intro n hd hn
    refine Ev.step (f := fun _ => _) (fun k => by simp only [slices_Index_impl_Cell_impl_Cell.l0]; rfl) (ev_neg (by omega) (ev_const ?_))
    unfold idxI
    rw [atCell_none l (a, b) l.length (fun i hi => hn i (by omega))]
  | succ d ih =>
    intro n hd hn
    refine Ev.step (f := fun _ => _) (fun k => by simp only [slices_Index_impl_Cell_impl_Cell.l0]; rfl) (ev_pos (by omega) (ev_pos (by omega) (ev_pos (by omega) ?_)))
    rw [show rd_T78 l (n : Int) = cellAt l n from rfl]
    by_cases e : (a == (cellAt l n).f0 && b == (cellAt l n).f1) = true
    · refine ev_pos e (ev_const ?_)
      simp only [Bool.and_eq_true, beq_iff_eq] at e
      unfold idxI
      rw [show ((a, b) : Int × Int) = cellKey (cellAt l n) by unfold cellKey; rw [e.1, e.2], atCell_some l hs n (by omega)]
    · refine ev_neg e ?_
      rw [wrap_succ n (by omega)]
      refine ih (n + 1) (by omega) (fun i hi => ?_)
      by_cases e2 : i = n
      · subst e2
        intro h
        simp only [cellKey, Prod.mk.injEq] at h
        exact e (by rw [Bool.and_eq_true]; exact ⟨beq_iff_eq.2 h.1.symm, beq_iff_eq.2 h.2.symm⟩)
      · exact hn i (by omega)
theorem contains_val (l : List S78) (hs : Shape l) (a b : Int) : Ev (fun k => slices_Contains_impl_Cell_impl_Cell.f k l a b) (decide (idxI l (a, b) ≥ 0)) :=
  Ev.bind (sindex_loop l hs a b l.length 0 (by omega) (fun i hi => by omega)) (ev_const rfl)
theorem step_val (e : Nat) (he : e < 4) : spec_l23Step.f (bt (⟨#[114, 100, 108, 117]⟩ : ByteArray) e) = some (edgeSX e, edgeSY e) := by
  rcases (by omega : e = 0 ∨ e = 1 ∨ e = 2 ∨ e = 3) with rfl | rfl | rfl | rfl <;> rfl
theorem froll_some (a b c x : Int) : ∃ y, impl_die_roll.f a b c x = some y := by
  unfold impl_die_roll.f
  split
  · exact ⟨_, rfl⟩
  · split
    · exact ⟨_, rfl⟩
    · split <;> exact ⟨_, rfl⟩
theorem froll_same (a b c x : Int) : spec_l32Roll.f a b c x = impl_die_roll.f a b c x := rfl
theorem countP_lt {α : Type} (p q : α → Bool) (a : α) : ∀ xs : List α, (∀ x ∈ xs, q x = true → p x = true) → a ∈ xs → p a = true → q a = false → xs.countP q < xs.countP p
  | [], _, h, _, _ => by cases h
  | x :: xs, hpq, h, ha, hb => by
    have hmono : xs.countP q ≤ xs.countP p := List.countP_mono_left (fun y hy => hpq y (List.mem_cons_of_mem _ hy))
    rw [List.countP_cons, List.countP_cons]
    rcases List.mem_cons.1 h with rfl | h
    · simp only [ha, hb, if_true, Bool.false_eq_true, if_false]; omega
    · have ih := countP_lt p q a xs (fun y hy => hpq y (List.mem_cons_of_mem _ hy)) h ha hb
      have := hpq x List.mem_cons_self
      cases hq : q x with
      | false => simp only [Bool.false_eq_true, if_false]; omega
      | true => rw [this hq]; simp only [if_true]; omega
def left (n : Nat) (ids : List Int) : Nat := (List.range n).countP (fun i : Nat => !decide ((i : Int) ∈ ids))
theorem left_app (n : Nat) (ids : List Int) (p : Nat) (hp : p < n) (h : (p : Int) ∉ ids) : left n (ids ++ [(p : Int)]) + 1 ≤ left n ids := by
  unfold left
  refine countP_lt _ _ p _ (fun x _ hx => ?_) (List.mem_range.2 hp) (by simp [h]) (by simp)
  simp only [Bool.not_eq_true', decide_eq_false_iff_not, List.mem_append, not_or] at hx ⊢
  exact hx.1
def trip (s : S71) : Int × Int × Int := (s.f0, s.f1, s.f2)
structure Sim (l : List S78) (ids : List Int) (dice : List S71) (m : List ((Int × Int) × (Int × Int × Int))) : Prop where
  len : dice.length = l.length
  mem : ∀ q, q ∈ ids → 0 ≤ q ∧ q < (l.length : Int)
  inn : ∀ q : Nat, q < l.length → (q : Int) ∈ ids → dget m (cellKey (cellAt l q)) = some (trip (dice.getD q z71))
  out : ∀ q : Nat, q < l.length → (q : Int) ∉ ids → dget m (cellKey (cellAt l q)) = none ∧ dice.getD q z71 = z71
  far : ∀ p, (∀ q : Nat, q < l.length → cellKey (cellAt l q) ≠ p) → dget m p = none
  few : ids.length + left l.length ids ≤ 100
def cellsOf (l : List S78) (ids : List Int) : List S78 := ids.map (fun q => cellAt l q.toNat)
theorem getD_cells (l : List S78) (ids : List Int) (t : Nat) (ht : t < ids.length) : rd_T78 (cellsOf l ids) (t : Int) = cellAt l (ids.getD t 0).toNat := by
  show (cellsOf l ids).getD t z78 = _
  unfold cellsOf
  rw [List.getD_eq_getElem?_getD, List.getElem?_map, List.getElem?_eq_getElem ht, List.getD_eq_getElem?_getD, List.getElem?_eq_getElem ht]
  rfl
theorem getD_app (ids : List Int) (x : Int) (t : Nat) (ht : t < ids.length) : (ids ++ [x]).getD t 0 = ids.getD t 0 := by
  rw [List.getD_eq_getElem?_getD, List.getD_eq_getElem?_getD, List.getElem?_append_left ht]
theorem getD_setD (dice : List S71) (q j : Nat) (v : S71) (hq : q < dice.length) : (dice.set q v).getD j z71 = if j = q then v else dice.getD j z71 := by
  rw [List.getD_eq_getElem?_getD, List.getD_eq_getElem?_getD, List.getElem?_set]
  by_cases e : q = j
  · subst e; simp [hq]
  · rw [if_neg e, if_neg (Ne.symm e)]
theorem sim_add (l : List S78) (hs : Shape l) (ids : List Int) (dice : List S71) (m : List ((Int × Int) × (Int × Int × Int))) (hS : Sim l ids dice m) (p : Nat) (hp : p < l.length) (hn : (p : Int) ∉ ids) (y : Int × Int × Int) :
    Sim l (ids ++ [(p : Int)]) (dice.set p ⟨y.1, y.2.1, y.2.2⟩) ((cellKey (cellAt l p), y) :: m) := by
  have hlen := hS.len
  refine ⟨by rw [List.length_set]; exact hlen, fun q hq => ?_, fun q hq hm => ?_, fun q hq hm => ?_, fun k hk => ?_, ?_⟩
  · rcases List.mem_append.1 hq with h | h
    · exact hS.mem q h
    · rw [List.mem_singleton.1 h]; omega
  · rw [dget, getD_setD _ _ _ _ (by omega)]
    by_cases e : q = p
    · subst e
      rw [if_pos rfl, if_pos rfl]
      rfl
    · rw [if_neg (fun h => e (hs.apart q p hq hp h)), if_neg e]
      rcases List.mem_append.1 hm with h | h
      · exact hS.inn q hq h
      · have := List.mem_singleton.1 h
        omega
  · rw [List.mem_append, not_or, List.mem_singleton] at hm
    have e : q ≠ p := fun h => hm.2 (by rw [h])
    rw [dget, getD_setD _ _ _ _ (by omega), if_neg (fun h => e (hs.apart q p hq hp h)), if_neg e]
    exact hS.out q hq hm.1
  · rw [dget, if_neg (fun h => hk p hp h.symm)]
    exact hS.far k hk
  · have := left_app l.length ids p hp hn
    have := hS.few
    simp only [List.length_append, List.length_cons, List.length_nil]
    omega
/-! The walk of the list of faces, as a relation. -/
inductive BW (l : List S78) : List Int → List S71 → Nat → Nat → Prop
  | start : BW l [0] ((List.replicate l.length z71).set 0 ⟨0, 1, 2⟩) 0 0
  | pass (ids : List Int) (dice : List S71) (t e q0 : Nat) : BW l ids dice t e → e < 4 → t < ids.length → ids.getD t 0 = (q0 : Int) → q0 < l.length → (∀ q : Nat, q < l.length → cellKey (cellAt l q) = cellKey (stepTo (cellAt l q0) e) → (q : Int) ∈ ids) → BW l ids dice t (e + 1)
  | new (ids : List Int) (dice : List S71) (t e q0 p : Nat) (y : Int × Int × Int) : BW l ids dice t e → e < 4 → t < ids.length → ids.getD t 0 = (q0 : Int) → q0 < l.length → p < l.length → cellKey (cellAt l p) = cellKey (stepTo (cellAt l q0) e) → (p : Int) ∉ ids → impl_die_roll.f (dice.getD q0 z71).f0 (dice.getD q0 z71).f1 (dice.getD q0 z71).f2 (bt (⟨#[114, 100, 108, 117]⟩ : ByteArray) e) = some y → BW l (ids ++ [(p : Int)]) (dice.set p ⟨y.1, y.2.1, y.2.2⟩) t (e + 1)
  | turn (ids : List Int) (dice : List S71) (t : Nat) : BW l ids dice t 4 → BW l ids dice (t + 1) 0
theorem faces1 (l : List S78) (hs : Shape l) (t q0 : Nat) (hq0 : q0 < l.length) (d : Nat) : ∀ (e : Nat) (ids : List Int) (dice : List S71) (m : List ((Int × Int) × (Int × Int × Int))), e + d = 4 → t < ids.length → ids.getD t 0 = (q0 : Int) → BW l ids dice t e → Sim l ids dice m →
    ∃ ids' dice' m', BW l ids' dice' t 4 ∧ Sim l ids' dice' m' ∧ ids.length ≤ ids'.length ∧ ids'.length + left l.length ids' ≤ ids.length + left l.length ids ∧ left l.length ids' ≤ left l.length ids ∧
      (∀ r, Ev (fun k => impl_faces.l0 k l m' (cellsOf l ids') (t + 1 : Nat)) r → Ev (fun k => impl_faces.l1 k l m (cellsOf l ids) t e) r) ∧
      (∀ r, Ev (fun k => spec_l32Faces.l0 k l ids' dice' (t + 1 : Nat)) r → Ev (fun k => spec_l32Faces.l1 k l ids dice t e (cellAt l q0).f0 (cellAt l q0).f1) r) := by
  have hN := hs.le
  induction d with
  | zero =>
    intro e ids dice m he ht hq hW hS
    have := hS.few
    obtain rfl : e = 4 := by omega
    refine ⟨ids, dice, m, hW, hS, Nat.le_refl _, Nat.le_refl _, Nat.le_refl _, fun r hr => ?_, fun r hr => ?_⟩
    · refine Ev.step (f := fun _ => _) (fun k => by simp only [impl_faces.l1]; rfl) (ev_neg (by omega) ?_)
      rw [wrap_succ t (by omega)]
      exact hr
    · refine Ev.step (f := fun _ => _) (fun k => by simp only [spec_l32Faces.l1]; rfl) (ev_neg (by omega) ?_)
      rw [wrap_succ t (by omega)]
      exact hr
  | succ d ih =>
    intro e ids dice m he ht hq hW hS
    have hfew := hS.few
    have hlen := hS.len
    have hc : rd_T78 (cellsOf l ids) (t : Int) = cellAt l q0 := by rw [getD_cells l ids t ht, hq]; rfl
    have hcl : (cellsOf l ids).length = ids.length := List.length_map _
    have hnear := hs.near q0 hq0
    have hokc : okcF (cellAt l q0) := ⟨⟨by omega, by omega⟩, by omega, by omega⟩
    have hmem0 : (q0 : Int) ∈ ids := by rw [← hq]; exact getD_mem ids 0 t ht
    have hidx := index_val l hs (wrap64 ((cellAt l q0).f0 + edgeSX e)) (wrap64 ((cellAt l q0).f1 + edgeSY e))
    have hcon := contains_val l hs (stepTo (cellAt l q0) e).f0 (stepTo (cellAt l q0) e).f1
    have hkey : cellKey (stepTo (cellAt l q0) e) = (wrap64 ((cellAt l q0).f0 + edgeSX e), wrap64 ((cellAt l q0).f1 + edgeSY e)) := rfl
    have hI : ∀ r : List Int, Ev (fun k => match dget m (cellKey (stepTo (cellAt l q0) e)) with
        | some _ => impl_faces.l1 k l m (cellsOf l ids) t (wrap64 ((e : Int) + 1))
        | none => (slices_Contains_impl_Cell_impl_Cell.f k l (stepTo (cellAt l q0) e).f0 (stepTo (cellAt l q0) e).f1).bind fun b => if b = true then (impl_die_roll.f ((dget m (cellKey (cellAt l q0))).getD (0, 0, 0)).1 ((dget m (cellKey (cellAt l q0))).getD (0, 0, 0)).2.1 ((dget m (cellKey (cellAt l q0))).getD (0, 0, 0)).2.2 (bt (⟨#[114, 100, 108, 117]⟩ : ByteArray) e)).bind fun y => (if (cellsOf l ids).length < 8796093022208 then impl_faces.l1 k l ((cellKey (stepTo (cellAt l q0) e), y) :: m) (cellsOf l ids ++ [stepTo (cellAt l q0) e]) t (wrap64 ((e : Int) + 1)) else none) else impl_faces.l1 k l m (cellsOf l ids) t (wrap64 ((e : Int) + 1))) r → Ev (fun k => impl_faces.l1 k l m (cellsOf l ids) t e) r := by
      intro r hg
      refine Ev.step (f := fun k => if (e : Int) < 4 then (if ((0 ≤ (e : Int) ∧ 0 ≤ (t : Int)) ∧ (t : Int) < ((cellsOf l ids).length : Int)) ∧ okcF (cellAt l q0) then _ else none) else impl_faces.l0 k l m (cellsOf l ids) (wrap64 ((t : Int) + 1))) (fun k => ?_) (ev_pos (by omega) (ev_pos ⟨⟨⟨by omega, by omega⟩, by omega⟩, hokc⟩ hg))
      simp only [impl_faces.l1, hc]
      rfl
    cases hat : atCell l l.length (cellKey (stepTo (cellAt l q0) e)) with
    | none =>
      have hno : ∀ q : Nat, q < l.length → cellKey (cellAt l q) ≠ cellKey (stepTo (cellAt l q0) e) := fun q hq' h => by
        rw [← h, atCell_some l hs q hq'] at hat
        cases hat
      have hd := hS.far _ hno
      have hix : idxI l (cellKey (stepTo (cellAt l q0) e)) = -1 := by unfold idxI; rw [hat]
      obtain ⟨ids', dice', m', h0, h1, h2, h3, h3', h4, h5⟩ := ih (e + 1) ids dice m (by omega) ht hq (BW.pass ids dice t e q0 hW (by omega) ht hq hq0 (fun q hq' h => absurd h (hno q hq'))) hS
      refine ⟨ids', dice', m', h0, h1, h2, h3, h3', fun r hr => ?_, fun r hr => ?_⟩
      · have hcon' : Ev (fun k => slices_Contains_impl_Cell_impl_Cell.f k l (stepTo (cellAt l q0) e).f0 (stepTo (cellAt l q0) e).f1) false := by
          refine ev_eq hcon ?_
          rw [show ((stepTo (cellAt l q0) e).f0, (stepTo (cellAt l q0) e).f1) = cellKey (stepTo (cellAt l q0) e) from rfl, hix]
          rfl
        refine hI r ?_
        simp only [hd]
        refine Ev.bind hcon' (ev_neg (by simp) ?_)
        rw [wrap_succ e (by omega)]
        exact h4 r hr
      · refine Ev.step (f := fun _ => _) (fun k => by simp only [spec_l32Faces.l1]; rfl) (ev_pos (by omega) (ev_pos (by omega) (ev_some (step_val e (by omega)) (Ev.bind hidx ?_))))
        rw [show ((wrap64 ((cellAt l q0).f0 + edgeSX e), wrap64 ((cellAt l q0).f1 + edgeSY e)) : Int × Int) = cellKey (stepTo (cellAt l q0) e) from rfl, hix]
        refine ev_neg (by omega) ?_
        rw [wrap_succ e (by omega)]
        exact h5 r hr
    | some p' =>
      obtain ⟨p, hp, rfl, hpk⟩ := atCell_inv l _ _ _ hat
      have hix : idxI l (cellKey (stepTo (cellAt l q0) e)) = (p : Int) := by unfold idxI; rw [hat]
      have hcell : stepTo (cellAt l q0) e = cellAt l p := by
        have h1 : (cellAt l p).f0 = (stepTo (cellAt l q0) e).f0 := congrArg Prod.fst hpk
        have h2 : (cellAt l p).f1 = (stepTo (cellAt l q0) e).f1 := congrArg Prod.snd hpk
        cases h3 : stepTo (cellAt l q0) e with
        | mk a b =>
          cases h4 : cellAt l p with
          | mk c d =>
            rw [h3, h4] at h1 h2
            simp only at h1 h2
            rw [h1, h2]
      by_cases hin : (p : Int) ∈ ids
      · have hd := hS.inn p hp hin
        rw [hpk] at hd
        obtain ⟨ids', dice', m', h0, h1, h2, h3, h3', h4, h5⟩ := ih (e + 1) ids dice m (by omega) ht hq (BW.pass ids dice t e q0 hW (by omega) ht hq hq0 (fun q hq' h => by rw [hs.apart q p hq' hp (h.trans hpk.symm)]; exact hin)) hS
        refine ⟨ids', dice', m', h0, h1, h2, h3, h3', fun r hr => ?_, fun r hr => ?_⟩
        · refine hI r ?_
          simp only [hd]
          rw [wrap_succ e (by omega)]
          exact h4 r hr
        · refine Ev.step (f := fun _ => _) (fun k => by simp only [spec_l32Faces.l1]; rfl) (ev_pos (by omega) (ev_pos (by omega) (ev_some (step_val e (by omega)) (Ev.bind hidx ?_))))
          rw [show ((wrap64 ((cellAt l q0).f0 + edgeSX e), wrap64 ((cellAt l q0).f1 + edgeSY e)) : Int × Int) = cellKey (stepTo (cellAt l q0) e) from rfl, hix]
          refine ev_pos (by omega) (Ev.bind (has_val ids p (by omega)) (ev_pos (decide_eq_true hin) ?_))
          rw [wrap_succ e (by omega)]
          exact h5 r hr
      · have hd := (hS.out p hp hin).1
        rw [hpk] at hd
        have hq0d := hS.inn q0 hq0 hmem0
        obtain ⟨y, hy⟩ := froll_some (dice.getD q0 z71).f0 (dice.getD q0 z71).f1 (dice.getD q0 z71).f2 (bt (⟨#[114, 100, 108, 117]⟩ : ByteArray) e)
        obtain ⟨ids', dice', m', h0, h1, h2, h3, h3', h4, h5⟩ := ih (e + 1) _ _ _ (by omega) (by simp only [List.length_append, List.length_cons, List.length_nil]; omega) ((getD_app ids _ t ht).trans hq) (BW.new ids dice t e q0 p y hW (by omega) ht hq hq0 hp hpk hin hy) (sim_add l hs ids dice m hS p hp hin y)
        have hla := left_app l.length ids p hp hin
        simp only [List.length_append, List.length_cons, List.length_nil] at h2 h3
        refine ⟨ids', dice', m', h0, h1, by omega, by omega, by omega, fun r hr => ?_, fun r hr => ?_⟩
        · have hcon' : Ev (fun k => slices_Contains_impl_Cell_impl_Cell.f k l (stepTo (cellAt l q0) e).f0 (stepTo (cellAt l q0) e).f1) true := by
            refine ev_eq hcon ?_
            rw [show ((stepTo (cellAt l q0) e).f0, (stepTo (cellAt l q0) e).f1) = cellKey (stepTo (cellAt l q0) e) from rfl, hix]
            exact decide_eq_true (by omega)
          refine hI r ?_
          simp only [hd, hq0d, Option.getD_some]
          refine Ev.bind hcon' (ev_pos rfl (ev_some hy (ev_pos (by omega) ?_)))
          rw [wrap_succ e (by omega), hcell]
          have e1 : cellsOf l ids ++ [cellAt l p] = cellsOf l (ids ++ [(p : Int)]) := by unfold cellsOf; rw [List.map_append]; rfl
          rw [e1]
          exact h4 r hr
        · refine Ev.step (f := fun _ => _) (fun k => by simp only [spec_l32Faces.l1]; rfl) (ev_pos (by omega) (ev_pos (by omega) (ev_some (step_val e (by omega)) (Ev.bind hidx ?_))))
          rw [show ((wrap64 ((cellAt l q0).f0 + edgeSX e), wrap64 ((cellAt l q0).f1 + edgeSY e)) : Int × Int) = cellKey (stepTo (cellAt l q0) e) from rfl, hix]
          refine ev_pos (by omega) (Ev.bind (has_val ids p (by omega)) (ev_neg (by simp [hin]) (ev_pos (by omega) (ev_pos (by omega) ?_))))
          rw [show rd ids (t : Int) = ids.getD t 0 from rfl, hq]
          refine ev_pos (by omega) (ev_pos (by omega) (ev_some ((froll_same _ _ _ _).trans hy) (ev_pos (by omega) (ev_pos (by omega) (ev_pos (by omega) ?_)))))
          rw [wrap_succ e (by omega), Int.toNat_natCast]
          exact h5 r hr
theorem out_impl (l : List S78) (hs : Shape l) (ids : List Int) (dice : List S71) (m : List ((Int × Int) × (Int × Int × Int))) (hS : Sim l ids dice m) (d : Nat) : ∀ (n : Nat) (out : List Int), n + d = l.length → out.length = n →
    Ev (fun k => impl_faces.l2 k l m out n) (out ++ (dice.drop n).map (fun s => s.f0)) ∧ Ev (fun k => spec_l32Faces.l2 k dice out n) (out ++ (dice.drop n).map (fun s => s.f0)) := by
  have hN := hs.le
  have hlen := hS.len
  induction d with
  | zero =>
    intro n out hn ho
    rw [List.drop_of_length_le (by omega), List.map_nil, List.append_nil]
    exact ⟨Ev.step (f := fun _ => _) (fun k => by simp only [impl_faces.l2]; rfl) (ev_neg (by omega) (ev_const rfl)), Ev.step (f := fun _ => _) (fun k => by simp only [spec_l32Faces.l2]; rfl) (ev_neg (by omega) (ev_const rfl))⟩
  | succ d ih =>
    intro n out hn ho
    have hv : ((dget m (cellKey (cellAt l n))).getD (0, 0, 0)).1 = (dice.getD n z71).f0 := by
      by_cases h : (n : Int) ∈ ids
      · rw [hS.inn n (by omega) h]
        rfl
      · rw [(hS.out n (by omega) h).1, (hS.out n (by omega) h).2]
        rfl
    obtain ⟨h1, h2⟩ := ih (n + 1) (out ++ [(dice.getD n z71).f0]) (by omega) (by simp only [List.length_append, List.length_cons, List.length_nil]; omega)
    rw [drop_cons dice z71 n (by omega), List.map_cons, show out ++ (dice.getD n z71).f0 :: (dice.drop (n + 1)).map (fun s => s.f0) = (out ++ [(dice.getD n z71).f0]) ++ (dice.drop (n + 1)).map (fun s => s.f0) by simp]
    constructor
    · refine Ev.step (f := fun _ => _) (fun k => by simp only [impl_faces.l2]; rfl) (ev_pos (by omega) (ev_pos (by omega) (ev_pos (by omega) ?_)))
      rw [wrap_succ n (by omega), show (dget m (cellKeyF (rd_T78 l (n : Int)))) = dget m (cellKey (cellAt l n)) from rfl, hv]
      exact h1
    · refine Ev.step (f := fun _ => _) (fun k => by simp only [spec_l32Faces.l2]; rfl) (ev_pos (by omega) (ev_pos (by omega) (ev_pos (by omega) ?_)))
      rw [wrap_succ n (by omega)]
      exact h2
theorem faces0 (l : List S78) (hs : Shape l) (M : Nat) : ∀ (t : Nat) (ids : List Int) (dice : List S71) (m : List ((Int × Int) × (Int × Int × Int))), 2 * left l.length ids + (ids.length - t) ≤ M → t ≤ ids.length → BW l ids dice t 0 → Sim l ids dice m →
    ∃ F, (∃ ids' dice', BW l ids' dice' ids'.length 0 ∧ dice'.length = l.length ∧ F = dice'.map (fun s => s.f0)) ∧ F.length = l.length ∧ Ev (fun k => impl_faces.l0 k l m (cellsOf l ids) t) F ∧ Ev (fun k => spec_l32Faces.l0 k l ids dice t) F := by
  have hN := hs.le
  induction M with
  | zero =>
    intro t ids dice m hM ht hW hS
    have hfew := hS.few
    obtain ⟨h1, h2⟩ := out_impl l hs ids dice m hS l.length 0 [] (by omega) rfl
    have hcl : (cellsOf l ids).length = ids.length := List.length_map _
    obtain rfl : t = ids.length := by omega
    refine ⟨_, ⟨ids, dice, hW, hS.len, by simp⟩, ?_, Ev.step (f := fun _ => _) (fun k => by simp only [impl_faces.l0]; rfl) (ev_neg (by omega) h1), Ev.step (f := fun _ => _) (fun k => by simp only [spec_l32Faces.l0]; rfl) (ev_neg (by omega) h2)⟩
    simp [hS.len]
  | succ M ih =>
    intro t ids dice m hM ht hW hS
    have hfew := hS.few
    have hcl : (cellsOf l ids).length = ids.length := List.length_map _
    by_cases e : t = ids.length
    · obtain ⟨h1, h2⟩ := out_impl l hs ids dice m hS l.length 0 [] (by omega) rfl
      subst e
      refine ⟨_, ⟨ids, dice, hW, hS.len, by simp⟩, ?_, Ev.step (f := fun _ => _) (fun k => by simp only [impl_faces.l0]; rfl) (ev_neg (by omega) h1), Ev.step (f := fun _ => _) (fun k => by simp only [spec_l32Faces.l0]; rfl) (ev_neg (by omega) h2)⟩
      simp [hS.len]
    · have hmem := hS.mem _ (getD_mem ids 0 t (by omega))
      obtain ⟨q0, hq0⟩ := Int.eq_ofNat_of_zero_le hmem.1
      obtain ⟨ids', dice', m', h0, h1, h2, h3, h3', h4, h5⟩ := faces1 l hs t q0 (by omega) 4 0 ids dice m rfl (by omega) hq0 hW hS
      obtain ⟨F, g0, g1, g2, g3⟩ := ih (t + 1) ids' dice' m' (by omega) (by omega) (BW.turn _ _ _ h0) h1
      refine ⟨F, g0, g1, ?_, ?_⟩
      · exact Ev.step (f := fun _ => _) (fun k => by simp only [impl_faces.l0]; rfl) (ev_pos (by omega) (h4 F g2))
      · refine Ev.step (f := fun _ => _) (fun k => by simp only [spec_l32Faces.l0]; rfl) (ev_pos (by omega) (ev_pos (by omega) ?_))
        rw [show rd ids (t : Int) = ids.getD t 0 from rfl, hq0]
        exact ev_pos (by omega) (ev_pos (by omega) (h5 F g3))
theorem range_left (n : Nat) (ids : List Int) : left n ids ≤ n := by
  have : left n ids ≤ (List.range n).length := List.countP_le_length
  simpa using this
theorem faces_bothW (l : List S78) (hs : Shape l) : ∃ F, (∃ ids dice, BW l ids dice ids.length 0 ∧ dice.length = l.length ∧ F = dice.map (fun s => s.f0)) ∧ F.length = l.length ∧ Ev (fun k => impl_faces.f k l) F ∧ Ev (fun k => spec_l32Faces.f k l) F := by
  have hN := hs.le
  have hpos := hs.pos
  have hz : ∀ q : Nat, (List.replicate l.length z71).getD q z71 = z71 := fun q => by
    rw [List.getD_eq_getElem?_getD]
    cases h : (List.replicate l.length z71)[q]? with
    | none => rfl
    | some v => exact (List.eq_of_mem_replicate (List.mem_of_getElem? h))
  have hS : Sim l [0] ((List.replicate l.length z71).set 0 ⟨0, 1, 2⟩) [(cellKey (cellAt l 0), (0, 1, 2))] := by
    refine ⟨by simp, fun q hq => ?_, fun q hq hm => ?_, fun q hq hm => ?_, fun p hp => ?_, ?_⟩
    · rw [List.mem_singleton.1 hq]; omega
    · have : q = 0 := by have := List.mem_singleton.1 hm; omega
      subst this
      rw [dget, if_pos rfl, getD_setD _ _ _ _ (by simp; omega), if_pos rfl]
      rfl
    · have e : q ≠ 0 := fun h => hm (by rw [h]; simp)
      rw [dget, if_neg (fun h => e (hs.apart q 0 hq (by omega) h)), dget, getD_setD _ _ _ _ (by simp; omega), if_neg e]
      exact ⟨rfl, hz q⟩
    · rw [dget, if_neg (fun h => hp 0 (by omega) h.symm)]
      rfl
    · have := range_left l.length [0]
      simp only [List.length_cons, List.length_nil]
      omega
  obtain ⟨F, h0, h1, h2, h3⟩ := faces0 l hs _ 0 [0] _ _ (Nat.le_refl _) (by simp) BW.start hS
  refine ⟨F, h0, h1, ev_pos ⟨⟨by omega, by omega⟩, fun c hc => ?_⟩ h2, ?_⟩
  · obtain ⟨i, hi, rfl⟩ := List.getElem_of_mem hc
    have := hs.near i hi
    have e : l[i] = cellAt l i := by rw [show cellAt l i = l.getD i z78 from rfl, List.getD_eq_getElem?_getD, List.getElem?_eq_getElem hi]; rfl
    rw [e]
    exact ⟨⟨by omega, by omega⟩, by omega, by omega⟩
  · refine ev_pos (by omega) (ev_pos (by simp only [Int.toNat_natCast]; omega) (ev_some rfl (ev_pos (by simp only [Int.toNat_natCast, List.length_replicate]; omega) ?_)))
    rw [Int.toNat_natCast]
    exact h3
theorem faces_both (l : List S78) (hs : Shape l) : ∃ F, F.length = l.length ∧ Ev (fun k => impl_faces.f k l) F ∧ Ev (fun k => spec_l32Faces.f k l) F := by
  obtain ⟨F, _, h⟩ := faces_bothW l hs
  exact ⟨F, h⟩
/-! Least and greatest coordinates, the moved cells, sizes: both sides. -/
def minF (f : S78 → Int) : List S78 → Int → Int
  | [], x => x
  | c :: r, x => minF f r (mn x (f c))
def maxF (f : S78 → Int) : List S78 → Int → Int
  | [], x => x
  | c :: r, x => maxF f r (mx x (f c))
def minX (l : List S78) : Int := minF (·.f0) l (cellAt l 0).f0
def minY (l : List S78) : Int := minF (·.f1) l (cellAt l 0).f1
def maxX (l : List S78) : Int := maxF (·.f0) l (cellAt l 0).f0
def maxY (l : List S78) : Int := maxF (·.f1) l (cellAt l 0).f1
def movL (a b : Int) (l : List S78) : List S78 := l.map fun c => ⟨wrap64 (c.f0 + a), wrap64 (c.f1 + b)⟩
def normL (l : List S78) : List S78 := movL (wrap64 (-minX l)) (wrap64 (-minY l)) l
theorem minF_le (f : S78 → Int) : ∀ (l : List S78) (x : Int), minF f l x ≤ x ∧ ∀ c ∈ l, minF f l x ≤ f c
  | [], x => ⟨Int.le_refl _, by simp⟩
  | c :: r, x => by
    have h := minF_le f r (mn x (f c))
    have h1 : mn x (f c) ≤ x ∧ mn x (f c) ≤ f c := by unfold mn; split <;> omega
    rw [minF]
    refine ⟨by omega, fun d hd => ?_⟩
    rcases List.mem_cons.1 hd with rfl | hd
    · omega
    · exact h.2 d hd
theorem maxF_ge (f : S78 → Int) : ∀ (l : List S78) (x : Int), x ≤ maxF f l x ∧ ∀ c ∈ l, f c ≤ maxF f l x
  | [], x => ⟨Int.le_refl _, by simp⟩
  | c :: r, x => by
    have h := maxF_ge f r (mx x (f c))
    have h1 : x ≤ mx x (f c) ∧ f c ≤ mx x (f c) := by unfold mx; split <;> omega
    rw [maxF]
    refine ⟨by omega, fun d hd => ?_⟩
    rcases List.mem_cons.1 hd with rfl | hd
    · omega
    · exact h.2 d hd
theorem minF_in (f : S78 → Int) (lo hi : Int) : ∀ (l : List S78) (x : Int), (lo ≤ x ∧ x ≤ hi) → (∀ c ∈ l, lo ≤ f c ∧ f c ≤ hi) → lo ≤ minF f l x ∧ minF f l x ≤ hi
  | [], x, h, _ => h
  | c :: r, x, h, hc => by
    have h1 := hc c (by simp)
    exact minF_in f lo hi r _ (by unfold mn; split <;> omega) (fun d hd => hc d (by simp [hd]))
theorem maxF_in (f : S78 → Int) (lo hi : Int) : ∀ (l : List S78) (x : Int), (lo ≤ x ∧ x ≤ hi) → (∀ c ∈ l, lo ≤ f c ∧ f c ≤ hi) → lo ≤ maxF f l x ∧ maxF f l x ≤ hi
  | [], x, h, _ => h
  | c :: r, x, h, hc => by
    have h1 := hc c (by simp)
    exact maxF_in f lo hi r _ (by unfold mx; split <;> omega) (fun d hd => hc d (by simp [hd]))
theorem mn_self (x : Int) : mn x x = x := by unfold mn; split <;> omega
theorem cell_mem (l : List S78) (i : Nat) (h : i < l.length) : cellAt l i ∈ l := getD_mem l _ i h
theorem least_loop (l : List S78) (hm : l.length ≤ maxLen) (d : Nat) : ∀ (n : Nat) (x y : Int), n + d = l.length → Ev (fun k => spec_l02Least.l0 k l x y n) (minF (·.f0) (l.drop n) x, minF (·.f1) (l.drop n) y) := by
  unfold maxLen at hm
  induction d with
  | zero =>
    intro n x y hd
    refine Ev.step (f := fun _ => _) (fun k => by simp only [spec_l02Least.l0]; rfl) (ev_neg (by omega) (ev_const ?_))
    rw [List.drop_of_length_le (by omega)]; rfl
  | succ d ih =>
    intro n x y hd
    refine Ev.step (f := fun _ => _) (fun k => by simp only [spec_l02Least.l0]; rfl) (ev_pos (by omega) (ev_pos (by omega) ?_))
    rw [wrap_succ n (by omega), drop_cons l z78 n (by omega), minF, minF]
    exact ih (n + 1) _ _ (by omega)
theorem least_val (l : List S78) (hm : l.length ≤ maxLen) (h1 : 1 ≤ l.length) : Ev (fun k => spec_l02Least.f k l) (minX l, minY l) := by
  refine ev_pos (by omega) ?_
  have h := least_loop l hm (l.length - 1) 1 (cellAt l 0).f0 (cellAt l 0).f1 (by omega)
  unfold minX minY
  have e : l = cellAt l 0 :: l.drop 1 := by
    have := drop_cons l z78 0 (by omega)
    simpa using this
  have key : ∀ f : S78 → Int, minF f l (f (cellAt l 0)) = minF f (l.drop 1) (f (cellAt l 0)) := fun f => by
    conv => lhs; rw [e, minF]
    rw [show cellAt (cellAt l 0 :: l.drop 1) 0 = cellAt l 0 from rfl, mn_self]
  rw [key (·.f0), key (·.f1)]
  exact h
theorem smove_loop (l : List S78) (a b : Int) (hm : l.length ≤ maxLen) (h8 : l.length ≤ 1000000) (d : Nat) : ∀ (n : Nat) (out : List S78), n + d = l.length → out.length = n → Ev (fun k => spec_l02Move.l0 k l a b out n) (out ++ movL a b (l.drop n)) := by
  unfold maxLen at hm
  induction d with
  | zero =>
    intro n out hd ho
    refine Ev.step (f := fun _ => _) (fun k => by simp only [spec_l02Move.l0]; rfl) (ev_neg (by omega) (ev_const ?_))
    rw [List.drop_of_length_le (by omega)]; simp [movL]
  | succ d ih =>
    intro n out hd ho
    refine Ev.step (f := fun _ => _) (fun k => by simp only [spec_l02Move.l0]; rfl) (ev_pos (by omega) (ev_pos (by omega) (ev_pos (by omega) ?_)))
    rw [wrap_succ n (by omega)]
    refine ev_eq (ih (n + 1) _ (by omega) (by simp [ho])) ?_
    rw [drop_cons l z78 n (by omega)]
    simp [movL]; exact ⟨rfl, rfl⟩
theorem snormal_val (l : List S78) (hm : l.length ≤ 1000000) (h1 : 1 ≤ l.length) : Ev (fun k => spec_l02Normal.f k l) (normL l) := by
  have hm' : l.length ≤ maxLen := by unfold maxLen; omega
  refine Ev.bind (least_val l hm' h1) (Ev.bind (a := normL l) ?_ (ev_const rfl))
  exact ev_eq (smove_loop l _ _ hm' hm l.length 0 [] (by omega) rfl) (by simp [normL])
theorem normL_len (l : List S78) : (normL l).length = l.length := by simp [normL, movL]
/-! What a shape is: at most 40 cells, near the origin, in order. -/
structure Shp (l : List S78) : Prop where
  pos : 1 ≤ l.length
  le : l.length ≤ 40
  near : ∀ c ∈ l, (-100 ≤ c.f0 ∧ c.f0 ≤ 100) ∧ (-100 ≤ c.f1 ∧ c.f1 ≤ 100)
  rise : ∀ i j, i < j → j < l.length → lessB (cellAt l i) (cellAt l j) = true
theorem shapeFrom_iff (l : List S78) : ∀ d n : Nat, shapeFrom l d n = true ↔ ((∀ i, n ≤ i → i < n + d → okAtB l i = true) ∧ 1 ≤ l.length ∧ l.length ≤ 40)
  | 0, n => by
    simp only [shapeFrom, Bool.and_eq_true, decide_eq_true_eq]
    exact ⟨fun h => ⟨fun i h1 h2 => by omega, h.1, h.2⟩, fun h => h.2⟩
  | d + 1, n => by
    simp only [shapeFrom, Bool.and_eq_true]
    rw [shapeFrom_iff l d (n + 1)]
    constructor
    · intro h
      refine ⟨fun i h3 h4 => ?_, h.2.2⟩
      by_cases e : i = n
      · subst e; exact h.1
      · exact h.2.1 i (by omega) (by omega)
    · intro h
      exact ⟨h.1 n (Nat.le_refl _) (by omega), fun i h3 h4 => h.1 i (by omega) (by omega), h.2⟩
theorem shp_iff (l : List S78) : isShapeB l = true ↔ Shp l := by
  unfold isShapeB
  rw [shapeFrom_iff]
  constructor
  · rintro ⟨h1, h2, h3⟩
    have hok : ∀ i, i < l.length → okAtB l i = true := fun i hi => h1 i (by omega) (by omega)
    have hless : ∀ j i, i < j → j < l.length → lessB (cellAt l i) (cellAt l j) = true := by
      intro j
      induction j with
      | zero => intro i hi; omega
      | succ j ih =>
        intro i hi hj
        have h4 := hok (j + 1) hj
        simp only [okAtB, Bool.and_eq_true, Bool.or_eq_true, decide_eq_true_eq, Nat.add_sub_cancel] at h4
        have h5 : lessB (cellAt l j) (cellAt l (j + 1)) = true := by
          rcases h4.2 with h6 | h6
          · omega
          · exact h6
        by_cases e : i = j
        · subst e; exact h5
        · have h6 := ih i (by omega) (by omega)
          rw [less_iff] at *
          omega
    refine ⟨h2, h3, fun c hc => ?_, fun i j => hless j i⟩
    obtain ⟨i, hi, rfl⟩ := List.getElem_of_mem hc
    have h4 := hok i hi
    have e : cellAt l i = l[i] := by show l.getD i _ = _; rw [List.getD_eq_getElem?_getD, List.getElem?_eq_getElem hi, Option.getD_some]
    rw [okAtB, e] at h4
    simp only [inR, Bool.and_eq_true, decide_eq_true_eq] at h4
    exact ⟨⟨h4.1.1.1, h4.1.1.2⟩, h4.1.2.1, h4.1.2.2⟩
  · intro h
    refine ⟨fun i _ hi => ?_, h.pos, h.le⟩
    have hn := h.near _ (cell_mem l i (by omega))
    unfold okAtB inR
    rw [decide_eq_true hn.1.1, decide_eq_true hn.1.2, decide_eq_true hn.2.1, decide_eq_true hn.2.2]
    by_cases h0 : i = 0
    · simp [h0]
    · rw [h.rise (i - 1) i (by omega) (by omega)]; simp
theorem Shp.apart {l : List S78} (h : Shp l) (i j : Nat) (hi : i < l.length) (hj : j < l.length) (e0 : (cellAt l i).f0 = (cellAt l j).f0) (e1 : (cellAt l i).f1 = (cellAt l j).f1) : i = j := by
  rcases Nat.lt_trichotomy i j with h4 | h4 | h4
  · have := (less_iff _ _).1 (h.rise i j h4 hj)
    omega
  · exact h4
  · have := (less_iff _ _).1 (h.rise j i h4 hi)
    omega
theorem Shp.least {l : List S78} (h : Shp l) : (-100 ≤ minX l ∧ minX l ≤ 100) ∧ (-100 ≤ minY l ∧ minY l ≤ 100) := by
  have h0 := h.near _ (cell_mem l 0 h.pos)
  exact ⟨minF_in _ _ _ l _ h0.1 (fun c hc => (h.near c hc).1), minF_in _ _ _ l _ h0.2 (fun c hc => (h.near c hc).2)⟩
theorem Shp.most {l : List S78} (h : Shp l) : (-100 ≤ maxX l ∧ maxX l ≤ 100) ∧ (-100 ≤ maxY l ∧ maxY l ≤ 100) := by
  have h0 := h.near _ (cell_mem l 0 h.pos)
  exact ⟨maxF_in _ _ _ l _ h0.1 (fun c hc => (h.near c hc).1), maxF_in _ _ _ l _ h0.2 (fun c hc => (h.near c hc).2)⟩
/-! Sizes, on both sides. -/
def sizeL (l : List S78) : Int × Int := (maxX l - minX l + 1, maxY l - minY l + 1)
theorem maxF_shift (f : S78 → Int) (m : Int) : ∀ (l : List S78) (x : Int), maxF (fun c => f c - m + 1) l (x - m + 1) = maxF f l x - m + 1
  | [], x => rfl
  | c :: r, x => by
    rw [maxF, maxF, ← maxF_shift f m r]
    congr 1
    unfold mx
    split <;> split <;> omega
theorem ssize_loop (l : List S78) (h : Shp l) (d : Nat) : ∀ (n : Nat) (x y : Int), n + d = l.length → Ev (fun k => spec_l04Size.l0 k l (minX l) (minY l) x y n) (maxF (fun c => c.f0 - minX l + 1) (l.drop n) x, maxF (fun c => c.f1 - minY l + 1) (l.drop n) y) := by
  have hle := h.le
  have h1 := h.least
  induction d with
  | zero =>
    intro n x y hd
    refine Ev.step (f := fun _ => _) (fun k => by simp only [spec_l04Size.l0]; rfl) (ev_neg (by omega) (ev_const ?_))
    rw [List.drop_of_length_le (by omega)]; rfl
  | succ d ih =>
    intro n x y hd
    have hn := h.near _ (cell_mem l n (by omega))
    refine Ev.step (f := fun _ => _) (fun k => by simp only [spec_l04Size.l0]; rfl) (ev_pos (by omega) (ev_pos (by omega) ?_))
    rw [show rd_T78 l (n : Int) = cellAt l n from rfl, wrap_succ n (by omega), drop_cons l z78 n (by omega), maxF, maxF, wrap_id ((cellAt l n).f0 - minX l) (by omega) (by omega), wrap_id ((cellAt l n).f1 - minY l) (by omega) (by omega), wrap_id _ (by omega) (by omega), wrap_id _ (by omega) (by omega)]
    exact ih (n + 1) _ _ (by omega)
theorem ssize_val (l : List S78) (h : Shp l) : Ev (fun k => spec_l04Size.f k l) (sizeL l) := by
  have hm : l.length ≤ maxLen := by have := h.le; unfold maxLen; omega
  refine Ev.bind (least_val l hm h.pos) ?_
  refine ev_eq (ssize_loop l h l.length 0 0 0 (by omega)) ?_
  have e : l = cellAt l 0 :: l.drop 1 := by
    have := drop_cons l z78 0 h.pos
    simpa using this
  have hx := (minF_le (·.f0) l (cellAt l 0).f0).2 _ (cell_mem l 0 h.pos)
  have hy := (minF_le (·.f1) l (cellAt l 0).f1).2 _ (cell_mem l 0 h.pos)
  have key : ∀ (f : S78 → Int) (m : Int), m ≤ f (cellAt l 0) → maxF (fun c => f c - m + 1) l 0 = maxF f l (f (cellAt l 0)) - m + 1 := by
    intro f m hm
    rw [← maxF_shift]
    rw [e, maxF, maxF]
    congr 1
    rw [show (cellAt (cellAt l 0 :: l.drop 1) 0) = cellAt l 0 from rfl]
    unfold mx
    split <;> split <;> omega
  unfold sizeL
  rw [List.drop_zero, key (·.f0) (minX l) hx, key (·.f1) (minY l) hy]
  rfl
/-! The order of cells, for laws that do not reach the program's sort. -/
def cfC (x y : S78) : Int := (impl_compareCells.f x.f0 x.f1 y.f0 y.f1).getD 0
def ltC (x y : S78) : Bool := decide (x.f1 < y.f1) || (decide (x.f1 = y.f1) && decide (x.f0 < y.f0))
theorem cmpI_some (a b : Int) : cmp_Compare_int64.f a b = some (if a < b then -1 else if a > b then 1 else 0) := by
  have h : ∀ x : Int, cmp_isNaN_int64.f x = some false := fun x => by simp [cmp_isNaN_int64.f]
  unfold cmp_Compare_int64.f
  rw [h, h]
  simp only [Option.bind_some, Bool.false_eq_true, if_false]
  split
  · rfl
  · split <;> rfl
theorem cfC_lt (x y : S78) : ltOf cfC x y = ltC x y := by
  unfold ltOf ltC cfC impl_compareCells.f
  rw [cmpI_some, cmpI_some]
  simp only [Option.bind_some]
  by_cases a : x.f1 < y.f1
  · simp [a]
  · by_cases b : x.f1 = y.f1
    · by_cases c : x.f0 < y.f0
      · simp [b, c]
      · by_cases d : y.f0 < x.f0 <;> simp [b, c, d]
    · have d : x.f1 > y.f1 := by omega
      simp [a, b, d]
theorem ltC_iff (x y : S78) : ltC x y = true ↔ x.f1 < y.f1 ∨ (x.f1 = y.f1 ∧ x.f0 < y.f0) := by
  unfold ltC
  simp only [Bool.or_eq_true, Bool.and_eq_true, decide_eq_true_eq]
theorem ltC_total (x y : S78) (h1 : ltOf cfC x y = false) (h2 : ltOf cfC y x = false) : x = y := by
  rw [cfC_lt, Bool.eq_false_iff, Ne, ltC_iff] at *
  obtain ⟨a, b⟩ := x
  obtain ⟨c, d⟩ := y
  simp only at h1 h2
  have e1 : a = c := by omega
  have e2 : b = d := by omega
  rw [e1, e2]
def sortC (l : List S78) : List S78 := l.mergeSort fun x y => !(ltOf cfC) y x
/-! Sorted cells: one row only, the library's and the reference's. -/
def leC (x y : S78) : Prop := ltC y x = false
theorem leC_iff (x y : S78) : leC x y ↔ x.f1 < y.f1 ∨ (x.f1 = y.f1 ∧ x.f0 ≤ y.f0) := by
  unfold leC
  rw [Bool.eq_false_iff, Ne, ltC_iff]
  omega
theorem leC_anti (x y : S78) (h1 : leC x y) (h2 : leC y x) : x = y := ltC_total x y (by rw [cfC_lt]; exact h2) (by rw [cfC_lt]; exact h1)
theorem sortC_perm (l : List S78) : (sortC l).Perm l := List.mergeSort_perm l _
theorem sortC_sorted (l : List S78) : (sortC l).Pairwise leC := by
  refine (List.pairwise_mergeSort (le := fun x y => !(ltOf cfC) y x) (fun a b c h1 h2 => ?_) (fun a b => ?_) l).imp (fun {a b} h => ?_)
  · simp only [cfC_lt, Bool.not_eq_true'] at h1 h2 ⊢
    have h1' := (leC_iff a b).1 h1
    have h2' := (leC_iff b c).1 h2
    exact (leC_iff a c).2 (by omega)
  · simp only [cfC_lt, Bool.or_eq_true, Bool.not_eq_true']
    have e1 := leC_iff a b
    have e2 := leC_iff b a
    unfold leC at e1 e2
    rw [e1, e2]
    omega
  · have h2 : ltC b a = false := by simpa [cfC_lt] using h
    exact h2
theorem sort_unique {l l' : List S78} (hp : l.Perm l') (h : l.Pairwise leC) (h' : l'.Pairwise leC) : l = l' := List.Perm.eq_of_pairwise (fun a b _ _ => leC_anti a b) h h' hp
theorem sortC_len (l : List S78) : (sortC l).length = l.length := (sortC_perm l).length_eq
def insC (c : S78) : List S78 → List S78
  | [] => [c]
  | x :: r => if ltC c x = true then c :: x :: r else x :: insC c r
theorem insC_perm (c : S78) : ∀ l : List S78, (insC c l).Perm (c :: l)
  | [] => List.Perm.refl _
  | x :: r => by
    rw [insC]
    split
    · exact List.Perm.refl _
    · exact ((insC_perm c r).cons x).trans (List.Perm.swap c x r)
theorem insC_sorted (c : S78) : ∀ l : List S78, l.Pairwise leC → (insC c l).Pairwise leC
  | [], _ => by simp [insC]
  | x :: r, h => by
    rw [List.pairwise_cons] at h
    rw [insC]
    split
    · rename_i hc
      have hcx := (ltC_iff c x).1 hc
      refine List.pairwise_cons.2 ⟨fun y hy => ?_, List.pairwise_cons.2 h⟩
      rcases List.mem_cons.1 hy with rfl | hy
      · exact (leC_iff _ _).2 (by omega)
      · have := (leC_iff x y).1 (h.1 y hy)
        exact (leC_iff _ _).2 (by omega)
    · rename_i hc
      refine List.pairwise_cons.2 ⟨fun y hy => ?_, insC_sorted c r h.2⟩
      rcases List.mem_cons.1 ((insC_perm c r).mem_iff.1 hy) with rfl | hy
      · simpa [leC] using hc
      · exact h.1 y hy
def insAll : List S78 → List S78 → List S78
  | out, [] => out
  | out, x :: r => insAll (insC x out) r
theorem insAll_perm : ∀ (l out : List S78), (insAll out l).Perm (out ++ l)
  | [], out => by simp [insAll]
  | x :: r, out => by
    rw [insAll]
    refine (insAll_perm r _).trans ?_
    refine ((insC_perm x out).append_right r).trans ?_
    exact List.perm_middle.symm
theorem insAll_sorted : ∀ (l out : List S78), out.Pairwise leC → (insAll out l).Pairwise leC
  | [], _, h => h
  | x :: r, out, h => insAll_sorted r _ (insC_sorted x out h)
theorem insAll_eq (l : List S78) : insAll [] l = sortC l := sort_unique (((insAll_perm l []).trans (by simp)).trans (sortC_perm l).symm) (insAll_sorted l [] List.Pairwise.nil) (sortC_sorted l)
/-! Two arms. -/
theorem ev_iteR {α : Type} {c : Prop} [Decidable c] {A B : Nat → Option α} {a b : α} (hA : c → Ev A a) (hB : ¬ c → Ev B b) : Ev (fun k => if c then A k else B k) (if c then a else b) := by
  by_cases h : c
  · rw [if_pos h]; exact ev_pos h (hA h)
  · rw [if_neg h]; exact ev_neg h (hB h)
/-! Turns of cells, and forms of shapes: both sides. -/
def isT (t : Int) : Prop := 0 ≤ t ∧ t ≤ 7
instance (t : Int) : Decidable (isT t) := inferInstanceAs (Decidable (_ ∧ _))
/-! The reference's insertion. -/
theorem less_ltC (a b : S78) : lessB a b = ltC a b := by
  rw [Bool.eq_iff_iff, ltC_iff]
  unfold lessB
  simp only [Bool.or_eq_true, Bool.and_eq_true, decide_eq_true_eq]
theorem insert_done (l : List S78) (c : S78) (hl : l.length ≤ 1000) (d : Nat) : ∀ (n : Nat) (out : List S78), n + d = l.length → out.length = n + 1 → Ev (fun k => spec_l02Insert.l0 k l out true n c.f0 c.f1) (out ++ l.drop n) := by
  induction d with
  | zero =>
    intro n out hd ho
    refine Ev.step (f := fun _ => _) (fun k => by simp only [spec_l02Insert.l0]; rfl) (ev_neg (by omega) (ev_pos trivial (ev_const ?_)))
    rw [List.drop_of_length_le (by omega), List.append_nil]
  | succ d ih =>
    intro n out hd ho
    refine Ev.step (f := fun _ => _) (fun k => by simp only [spec_l02Insert.l0]; rfl) (ev_pos (by omega) (ev_pos trivial (ev_pos (by omega) (ev_pos (show out.length < 8796093022208 by omega) ?_))))
    rw [wrap_succ n (by omega)]
    refine ev_eq (ih (n + 1) _ (by omega) (by simp [ho])) ?_
    rw [drop_cons l z78 n (by omega), show rd_T78 l (n : Int) = l.getD n z78 from rfl]
    simp
theorem insert_loop (l : List S78) (c : S78) (hl : l.length ≤ 1000) (d : Nat) : ∀ (n : Nat) (out : List S78), n + d = l.length → out.length = n → Ev (fun k => spec_l02Insert.l0 k l out false n c.f0 c.f1) (out ++ insC c (l.drop n)) := by
  induction d with
  | zero =>
    intro n out hd ho
    refine Ev.step (f := fun _ => _) (fun k => by simp only [spec_l02Insert.l0]; rfl) (ev_neg (by omega) (ev_neg (by decide) (ev_pos (show out.length < 8796093022208 by omega) (ev_const ?_))))
    rw [List.drop_of_length_le (by omega)]; rfl
  | succ d ih =>
    intro n out hd ho
    rw [drop_cons l z78 n (by omega), insC]
    refine Ev.step (f := fun _ => _) (fun k => by simp only [spec_l02Insert.l0]; rfl) (ev_pos (by omega) (ev_neg (by decide) (ev_pos (by omega) (ev_some (less_val _ _ _ _) ?_))))
    rw [show rd_T78 l (n : Int) = l.getD n z78 from rfl, less_ltC]
    by_cases h : ltC c (l.getD n z78) = true
    · rw [if_pos h]
      refine ev_pos h (ev_pos (show out.length < 8796093022208 by omega) (ev_some rfl (ev_pos (by simp; omega) ?_)))
      rw [wrap_succ n (by omega)]
      refine ev_eq (insert_done l c hl d (n + 1) _ (by omega) (by simp [ho])) ?_
      simp
    · rw [if_neg h]
      refine ev_neg h (ev_pos (show out.length < 8796093022208 by omega) ?_)
      rw [wrap_succ n (by omega)]
      refine ev_eq (ih (n + 1) _ (by omega) (by simp [ho])) ?_
      simp
theorem insert_val (l : List S78) (c : S78) (hl : l.length ≤ 1000) : Ev (fun k => spec_l02Insert.f k l c.f0 c.f1) (insC c l) := insert_loop l c hl l.length 0 [] (by omega) rfl
theorem insC_len (c : S78) (l : List S78) : (insC c l).length = l.length + 1 := (insC_perm c l).length_eq
theorem ssort_loop (l : List S78) (hl : l.length ≤ 500) (d : Nat) : ∀ (n : Nat) (out : List S78), n + d = l.length → out.length = n → Ev (fun k => spec_l02Sort.l0 k l out n) (insAll out (l.drop n)) := by
  induction d with
  | zero =>
    intro n out hd ho
    refine Ev.step (f := fun _ => _) (fun k => by simp only [spec_l02Sort.l0]; rfl) (ev_neg (by omega) (ev_const ?_))
    rw [List.drop_of_length_le (by omega)]; rfl
  | succ d ih =>
    intro n out hd ho
    rw [drop_cons l z78 n (by omega), insAll]
    refine Ev.step (f := fun _ => _) (fun k => by simp only [spec_l02Sort.l0]; rfl) (ev_pos (by omega) (ev_pos (by omega) (Ev.bind (insert_val out _ (by omega)) ?_)))
    rw [wrap_succ n (by omega)]
    exact ih (n + 1) _ (by omega) (by rw [insC_len, ho])
theorem ssort_val (l : List S78) (hl : l.length ≤ 500) : Ev (fun k => spec_l02Sort.f k l) (sortC l) := by
  rw [← insAll_eq]
  exact ssort_loop l hl l.length 0 [] (by omega) rfl
def codeS (l : List S78) : Int := if isShapeB l = true then (if isShapeB (normL l) = true then 0 else 3) else 1
theorem scodeS_val (l : List S78) (hm : l.length ≤ maxLen) : Ev (fun k => spec_l03Code.f k l) (codeS l) := by
  unfold codeS
  refine Ev.bind (spec_shape_val l hm) (ev_iteR (fun h => ?_) (fun _ => ev_const rfl))
  have hs := (shp_iff l).1 h
  exact Ev.bind (snormal_val l (by have := hs.le; omega) hs.pos) (Ev.bind (spec_shape_val (normL l) (by rw [normL_len]; exact hm)) (ev_iteR (fun _ => ev_const rfl) (fun _ => ev_const rfl)))
/-! Turning, without overflow: eight matrices; they compose; sorting and norming do not mind. -/
def nearC (b : Int) (l : List S78) : Prop := ∀ c ∈ l, (-b ≤ c.f0 ∧ c.f0 ≤ b) ∧ (-b ≤ c.f1 ∧ c.f1 ≤ b)
def subC (u c : S78) : S78 := ⟨c.f0 - u.f0, c.f1 - u.f1⟩
def cornC (l : List S78) : S78 := ⟨minX l, minY l⟩
theorem near_corn (b : Int) (l : List S78) (h1 : 1 ≤ l.length) (h : nearC b l) : (-b ≤ minX l ∧ minX l ≤ b) ∧ (-b ≤ minY l ∧ minY l ≤ b) := by
  have h0 := h _ (cell_mem l 0 h1)
  exact ⟨minF_in _ _ _ l _ h0.1 (fun c hc => (h c hc).1), minF_in _ _ _ l _ h0.2 (fun c hc => (h c hc).2)⟩
theorem normL_sub (l : List S78) (h1 : 1 ≤ l.length) (h : nearC 1000000 l) : normL l = l.map (subC (cornC l)) := by
  have hl := near_corn _ l h1 h
  unfold normL movL
  refine List.map_congr_left (fun c hc => ?_)
  have hn := h c hc
  rw [wrap_id (-minX l) (by omega) (by omega), wrap_id (-minY l) (by omega) (by omega), wrap_id _ (by omega) (by omega), wrap_id _ (by omega) (by omega)]
  unfold subC cornC
  congr 1 <;> (simp only; omega)
/-! Forms are shapes in normal form. -/
theorem minF_mem (f : S78 → Int) : ∀ (l : List S78) (x : Int), minF f l x = x ∨ ∃ c ∈ l, minF f l x = f c
  | [], x => .inl rfl
  | c :: r, x => by
    rw [minF]
    rcases minF_mem f r (mn x (f c)) with h | ⟨d, hd, h⟩
    · rw [h]
      unfold mn
      split
      · exact .inr ⟨c, by simp, rfl⟩
      · exact .inl rfl
    · exact .inr ⟨d, by simp [hd], h⟩
theorem corn_mem (l : List S78) (h1 : 1 ≤ l.length) : (∃ c ∈ l, minX l = c.f0) ∧ ∃ c ∈ l, minY l = c.f1 := by
  have h0 := cell_mem l 0 h1
  constructor
  · rcases minF_mem (·.f0) l (cellAt l 0).f0 with h | h
    · exact ⟨_, h0, h⟩
    · exact h
  · rcases minF_mem (·.f1) l (cellAt l 0).f1 with h | h
    · exact ⟨_, h0, h⟩
    · exact h
/-! Nets in plain: dice that lie on cells. -/
abbrev Pt := Int × Int
def sx : Nat → Int | 0 => 1 | 2 => -1 | _ => 0
def sy : Nat → Int | 1 => 1 | 3 => -1 | _ => 0
def stp (p : Pt) (e : Nat) : Pt := (p.1 + sx e, p.2 + sy e)
def oppE (e : Nat) : Nat := match e with | 0 => 2 | 1 => 3 | 2 => 0 | _ => 1
theorem four {e : Nat} (h : e < 4) : e = 0 ∨ e = 1 ∨ e = 2 ∨ e = 3 := by omega
theorem stp_opp (p : Pt) (e : Nat) (h : e < 4) : stp (stp p e) (oppE e) = p := by
  obtain ⟨x, y⟩ := p
  rcases four h with rfl | rfl | rfl | rfl <;> simp [stp, oppE, sx, sy] <;> omega
/-! The drawing of numbers: whatever the code, a number below the bound comes, and the source stays sound. -/
structure St (code : List Int) (p seed : Int) : Prop where
  byte : ∀ x ∈ code, 0 ≤ x ∧ x ≤ 255
  len : code.length ≤ 4096
  at0 : 0 ≤ p
  at1 : p ≤ (code.length : Int)
  s0 : 0 ≤ seed
  s1 : seed < 2147483647
theorem tmod_in (x n : Int) (hx : 0 ≤ x) (hn : 0 < n) : 0 ≤ Int.tmod x n ∧ Int.tmod x n < n := by
  rw [Int.tmod_eq_emod_of_nonneg hx]
  exact ⟨Int.emod_nonneg _ (by omega), Int.emod_lt_of_pos _ hn⟩
theorem rd_byte (code : List Int) (h : ∀ x ∈ code, 0 ≤ x ∧ x ≤ 255) (i : Int) : 0 ≤ rd code i ∧ rd code i ≤ 255 := by
  unfold rd
  rw [List.getD_eq_getElem?_getD]
  cases hx : code[i.toNat]? with
  | none => simp
  | some v => exact h v (List.mem_of_getElem? hx)
theorem seed_step (seed : Int) (h0 : 0 ≤ seed) (h1 : seed < 2147483647) : 0 ≤ Int.tmod (wrap64 (wrap64 (seed * 48271) + 29)) 2147483647 ∧ Int.tmod (wrap64 (wrap64 (seed * 48271) + 29)) 2147483647 < 2147483647 := by
  rw [wrap_id (seed * 48271) (by omega) (by omega), wrap_id _ (by omega) (by omega)]
  exact tmod_in _ _ (by omega) (by omega)
theorem next_some (code : List Int) (p seed n : Int) (h : St code p seed) : ∃ x a s, spec_l01Next.f code p seed n = some (x, a, s) ∧ St code a s ∧ 0 ≤ x ∧ (1 < n → x < n) ∧ (n ≤ 1 → x = 0) := by
  unfold spec_l01Next.f
  by_cases c1 : n ≤ 1
  · exact ⟨0, p, seed, if_pos c1, h, Int.le_refl _, fun h => by omega, fun _ => rfl⟩
  · rw [if_neg c1]
    have hs := seed_step seed h.s0 h.s1
    generalize Int.tmod (wrap64 (wrap64 (seed * 48271) + 29)) 2147483647 = z at hs
    have hlen := h.len
    have ha0 := h.at0
    have ha1 := h.at1
    have hn0 : ¬ n = 0 := by omega
    by_cases c2 : p < (code.length : Int)
    · rw [if_pos c2, if_pos ha0]
      have e1 : wrap64 (p + 1) = p + 1 := wrap_id _ (by omega) (by omega)
      have e2 : wrap64 (p + 1 - 1) = p := by rw [wrap_id _ (by omega) (by omega)]; omega
      have hst : St code (p + 1) z := ⟨h.byte, hlen, by omega, by omega, hs.1, hs.2⟩
      have hb := rd_byte code h.byte p
      rw [e1, e2]
      have big : ∀ y : Int, 0 ≤ y ∧ y ≤ 255 → ∃ x a s, (if n = 0 then (none : Option (Int × Int × Int)) else some (Int.tmod (wrap64 (wrap64 (Int.tdiv z 31) + wrap64 y)) n, p + 1, z)) = some (x, a, s) ∧ St code a s ∧ 0 ≤ x ∧ (1 < n → x < n) ∧ (n ≤ 1 → x = 0) := by
        intro y hy
        rw [if_neg hn0]
        have hz : Int.tdiv z 31 = z / 31 := Int.tdiv_eq_ediv_of_nonneg hs.1
        rw [hz, wrap_id (z / 31) (by omega) (by omega), wrap_id y (by omega) (by omega), wrap_id _ (by omega) (by omega)]
        have := tmod_in (z / 31 + y) n (by omega) (by omega)
        exact ⟨_, _, _, rfl, hst, this.1, fun _ => this.2, fun h => by omega⟩
      by_cases c3 : n ≤ 256
      · rw [if_pos c3]
        by_cases c4 : Int.tmod (p + 1) 2 = 0
        · rw [if_pos c4, if_pos ha0, if_pos c2, if_neg hn0, wrap_id (rd code p) (by omega) (by omega)]
          have := tmod_in (rd code p) n hb.1 (by omega)
          exact ⟨_, _, _, rfl, hst, this.1, fun _ => this.2, fun h => by omega⟩
        · rw [if_neg c4]
          exact big _ hb
      · rw [if_neg c3]
        exact big _ hb
    · rw [if_neg c2, if_neg hn0]
      have hz : Int.tdiv z 31 = z / 31 := Int.tdiv_eq_ediv_of_nonneg hs.1
      rw [hz, wrap_id _ (by omega) (by omega)]
      have := tmod_in (z / 31) n (by omega) (by omega)
      exact ⟨_, _, _, rfl, ⟨h.byte, hlen, ha0, ha1, hs.1, hs.2⟩, this.1, fun _ => this.2, fun h => by omega⟩
theorem from_loop (code : List Int) (hb : ∀ x ∈ code, 0 ≤ x ∧ x ≤ 255) (hl : code.length ≤ 4096) (d : Nat) : ∀ (i : Nat) (seed : Int), i + d = 64 → 0 ≤ seed → seed < 2147483647 →
    ∃ s, Ev (fun k => spec_l01From.l0 k code i code 0 seed) (code, 0, s) ∧ 0 ≤ s ∧ s < 2147483647 := by
  induction d with
  | zero =>
    intro i seed hi h0 h1
    refine ⟨seed, Ev.step (f := fun _ => _) (fun k => by simp only [spec_l01From.l0]; rfl) ?_, h0, h1⟩
    by_cases c : (i : Int) < (code.length : Int)
    · exact ev_pos c (ev_neg (by omega) (ev_const rfl))
    · exact ev_neg c (ev_const rfl)
  | succ d ih =>
    intro i seed hi h0 h1
    by_cases c : (i : Int) < (code.length : Int)
    · have hr := rd_byte code hb i
      have hw : 0 ≤ Int.tmod (wrap64 (wrap64 (seed * 47) + wrap64 (rd code i))) 2147483647 ∧ Int.tmod (wrap64 (wrap64 (seed * 47) + wrap64 (rd code i))) 2147483647 < 2147483647 := by
        rw [wrap_id (seed * 47) (by omega) (by omega), wrap_id (rd code i) (by omega) (by omega), wrap_id _ (by omega) (by omega)]
        exact tmod_in _ _ (by omega) (by omega)
      obtain ⟨s, g1, g2, g3⟩ := ih (i + 1) _ (by omega) hw.1 hw.2
      refine ⟨s, Ev.step (f := fun _ => _) (fun k => by simp only [spec_l01From.l0]; rfl) (ev_pos c (ev_pos (by omega) (ev_pos (by omega) ?_))), g2, g3⟩
      rw [wrap_succ i (by omega)]
      exact g1
    · exact ⟨seed, Ev.step (f := fun _ => _) (fun k => by simp only [spec_l01From.l0]; rfl) (ev_neg c (ev_const rfl)), h0, h1⟩
theorem from_some (code : List Int) (hb : ∀ x ∈ code, 0 ≤ x ∧ x ≤ 255) (hl : code.length ≤ 4096) : ∃ s, Ev (fun k => spec_l01From.f k code) (code, 0, s) ∧ St code 0 s := by
  obtain ⟨s, h1, h2, h3⟩ := from_loop code hb hl 64 0 61003 (by omega) (by omega) (by omega)
  exact ⟨s, h1, ⟨hb, hl, Int.le_refl _, by omega, h2, h3⟩⟩
/-! The drawn shapes: whatever the code, some list of at most 50 cells comes out. -/
theorem index_any (l : List S78) (hl : l.length ≤ 1000000) (c : S78) (d : Nat) : ∀ n : Nat, n + d = l.length → ∃ v : Int, Ev (fun k => spec_l02Index.l0 k l n c.f0 c.f1) v ∧ (v < 0 → ∀ i, n ≤ i → i < l.length → l.getD i z78 ≠ c) ∧ -1 ≤ v ∧ v < (l.length : Int) := by
  induction d with
  | zero =>
    intro n hd
    exact ⟨-1, Ev.step (f := fun _ => _) (fun k => by simp only [spec_l02Index.l0]; rfl) (ev_neg (by omega) (ev_const rfl)), fun _ i h1 h2 => by omega, by omega, by omega⟩
  | succ d ih =>
    intro n hd
    obtain ⟨v, hv, h1, h2, h3⟩ := ih (n + 1) (by omega)
    by_cases e : l.getD n z78 = c
    · refine ⟨(n : Int), Ev.step (f := fun _ => _) (fun k => by simp only [spec_l02Index.l0]; rfl) (ev_pos (by omega) (ev_pos (by omega) (ev_pos ?_ (ev_const rfl)))), fun h => by omega, by omega, by omega⟩
      rw [show rd_T78 l (n : Int) = l.getD n z78 from rfl, e]; simp
    · refine ⟨v, Ev.step (f := fun _ => _) (fun k => by simp only [spec_l02Index.l0]; rfl) (ev_pos (by omega) (ev_pos (by omega) (ev_neg ?_ ?_))), fun h i hi hil => ?_, h2, h3⟩
      · rw [show rd_T78 l (n : Int) = l.getD n z78 from rfl]
        intro h
        simp only [Bool.and_eq_true, beq_iff_eq] at h
        apply e
        generalize l.getD n z78 = a at h
        obtain ⟨x, y⟩ := a
        obtain ⟨z, w⟩ := c
        simp only at h
        rw [h.1, h.2]
      · rw [wrap_succ n (by omega)]; exact hv
      · by_cases e2 : i = n
        · subst e2; exact e
        · exact h1 h i (by omega) hil
theorem index_any' (l : List S78) (hl : l.length ≤ 1000000) (c : S78) : ∃ v : Int, Ev (fun k => spec_l02Index.f k l c.f0 c.f1) v ∧ (c ∉ l → v < 0) := by
  obtain ⟨v, h1, h2, h3, h4⟩ := index_any l hl c l.length 0 (by omega)
  by_cases h : c ∈ l
  · exact ⟨v, h1, fun q => absurd h q⟩
  · by_cases hv : v < 0
    · exact ⟨v, h1, fun _ => hv⟩
    · exfalso
      -- the loop answers an index only where the cell stands
      have key : ∀ d n : Nat, n + d = l.length → ∃ u : Int, u < 0 ∧ Ev (fun k => spec_l02Index.l0 k l n c.f0 c.f1) u := by
        intro d
        induction d with
        | zero =>
          intro n hd
          exact ⟨-1, by omega, Ev.step (f := fun _ => _) (fun k => by simp only [spec_l02Index.l0]; rfl) (ev_neg (by omega) (ev_const rfl))⟩
        | succ d ih =>
          intro n hd
          obtain ⟨u, hu, he⟩ := ih (n + 1) (by omega)
          refine ⟨u, hu, Ev.step (f := fun _ => _) (fun k => by simp only [spec_l02Index.l0]; rfl) (ev_pos (by omega) (ev_pos (by omega) (ev_neg ?_ ?_)))⟩
          · rw [show rd_T78 l (n : Int) = l.getD n z78 from rfl]
            intro hq
            simp only [Bool.and_eq_true, beq_iff_eq] at hq
            have hm := getD_mem l z78 n (by omega)
            apply h
            have : l.getD n z78 = c := by
              generalize l.getD n z78 = a at hq
              obtain ⟨x, y⟩ := a
              obtain ⟨z, w⟩ := c
              simp only at hq
              rw [hq.1, hq.2]
            rw [← this]; exact hm
          · rw [wrap_succ n (by omega)]; exact he
      obtain ⟨u, hu, he⟩ := key l.length 0 (by omega)
      have := ev_uniq h1 he
      omega
theorem insC_ne (c : S78) (l : List S78) : insC c l ≠ [] := fun h => by
  have := insC_len c l
  rw [h] at this
  simp at this
theorem insC_near (b : Int) (c : S78) (l : List S78) (hc : (-b ≤ c.f0 ∧ c.f0 ≤ b) ∧ (-b ≤ c.f1 ∧ c.f1 ≤ b)) (hl : nearC b l) : nearC b (insC c l) := by
  intro d hd
  rcases List.mem_cons.1 ((insC_perm c l).mem_iff.1 hd) with rfl | hd
  · exact hc
  · exact hl d hd
theorem neigh1 (b : Int) (x0 : List S78) (h0 : x0.length ≤ 100) (i : Nat) (ar : List S78) (ha : ar.length = 4) (hn : nearC b ar) (P : List S78 → Prop) (d : Nat) : ∀ (j : Nat) (out : List S78), j + d = 4 → nearC b out → out.length + d ≤ 900 →
    (∀ out' : List S78, nearC b out' → out'.length ≤ out.length + d → (out ≠ [] ∨ (∃ q, j ≤ q ∧ q < 4 ∧ ar.getD q z78 ∉ x0) → out' ≠ []) → ∃ r, Ev (fun k => spec_l02Neighbours.l0 k x0 out' (wrap64 ((i : Int) + 1))) r ∧ P r) → ∃ r, Ev (fun k => spec_l02Neighbours.l1 k x0 out i ar j) r ∧ P r := by
  induction d with
  | zero =>
    intro j out hd hno hl hk
    obtain ⟨r, h1, h2⟩ := hk out hno (by omega) (fun h => by
      rcases h with h | ⟨q, h3, h4, _⟩
      · exact h
      · omega)
    exact ⟨r, Ev.step (f := fun _ => _) (fun k => by simp only [spec_l02Neighbours.l1]; rfl) (ev_neg (by omega) h1), h2⟩
  | succ d ih =>
    intro j out hd hno hl hk
    have hm := getD_mem ar z78 j (by omega)
    have hnj := hn _ hm
    obtain ⟨v, hv, hv2⟩ := index_any' x0 (by omega) (ar.getD j z78)
    obtain ⟨u, hu, hu2⟩ := index_any' out (by omega) (ar.getD j z78)
    have J : ∀ out' : List S78, nearC b out' → out'.length ≤ out.length + 1 → (out ≠ [] ∨ (ar.getD j z78 ∉ x0) → out' ≠ []) → ∃ r, Ev (fun k => spec_l02Neighbours.l1 k x0 out' i ar ((j + 1 : Nat) : Int)) r ∧ P r := fun out' h1 h2 h3 => by
      refine ih (j + 1) out' (by omega) h1 (by omega) (fun o2 g1 g2 g3 => hk o2 g1 (by omega) (fun h => ?_))
      rcases h with h | ⟨q, h4, h5, h6⟩
      · exact g3 (.inl (h3 (.inl h)))
      · by_cases e : q = j
        · subst e; exact g3 (.inl (h3 (.inr h6)))
        · exact g3 (.inr ⟨q, by omega, h5, h6⟩)
    by_cases c1 : v < 0
    · by_cases c2 : u < 0
      · obtain ⟨r, h1, h2⟩ := J (insC (ar.getD j z78) out) (insC_near b _ _ hnj hno) (by rw [insC_len]; omega) (fun _ => insC_ne _ _)
        refine ⟨r, Ev.step (f := fun _ => _) (fun k => by simp only [spec_l02Neighbours.l1]; rfl) (ev_pos (by omega) (ev_pos (by omega) (ev_pos (by omega) (Ev.bind hv (ev_pos c1 (Ev.bind hu (ev_pos c2 (Ev.bind (insert_val out _ (by omega)) ?_)))))))), h2⟩
        rw [wrap_succ j (by omega)]; exact h1
      · obtain ⟨r, h1, h2⟩ := J out hno (by omega) (fun h => by
          rcases h with h | h
          · exact h
          · intro e
            subst e
            exact c2 (hu2 (by simp)))
        refine ⟨r, Ev.step (f := fun _ => _) (fun k => by simp only [spec_l02Neighbours.l1]; rfl) (ev_pos (by omega) (ev_pos (by omega) (ev_pos (by omega) (Ev.bind hv (ev_pos c1 (Ev.bind hu (ev_neg c2 ?_))))))), h2⟩
        rw [wrap_succ j (by omega)]; exact h1
    · obtain ⟨r, h1, h2⟩ := J out hno (by omega) (fun h => by
        rcases h with h | h
        · exact h
        · exact absurd (hv2 h) c1)
      refine ⟨r, Ev.step (f := fun _ => _) (fun k => by simp only [spec_l02Neighbours.l1]; rfl) (ev_pos (by omega) (ev_pos (by omega) (ev_pos (by omega) (Ev.bind hv (ev_neg c1 ?_))))), h2⟩
      rw [wrap_succ j (by omega)]; exact h1
theorem neigh0 (b : Int) (hb : 0 ≤ b ∧ b ≤ 1000) (x0 : List S78) (h0 : x0.length ≤ 100) (hx : nearC b x0) (d : Nat) : ∀ (n : Nat) (out : List S78), n + d = x0.length → nearC (b + 1) out → out.length + 4 * d ≤ 800 →
    ∃ r, Ev (fun k => spec_l02Neighbours.l0 k x0 out n) r ∧ nearC (b + 1) r ∧ r.length ≤ out.length + 4 * d ∧ (out ≠ [] ∨ (∃ i, n ≤ i ∧ i < x0.length ∧ (⟨(x0.getD i z78).f0, (x0.getD i z78).f1 - 1⟩ : S78) ∉ x0) → r ≠ []) := by
  induction d with
  | zero =>
    intro n out hd hno hl
    exact ⟨out, Ev.step (f := fun _ => _) (fun k => by simp only [spec_l02Neighbours.l0]; rfl) (ev_neg (by omega) (ev_const rfl)), hno, by omega, fun h => by
      rcases h with h | ⟨i, h1, h2, _⟩
      · exact h
      · omega⟩
  | succ d ih =>
    intro n out hd hno hl
    have hc := hx _ (getD_mem x0 z78 n (by omega))
    have hA : spec_l02Around.f (x0.getD n z78).f0 (x0.getD n z78).f1 = some [⟨(x0.getD n z78).f0, (x0.getD n z78).f1 - 1⟩, ⟨(x0.getD n z78).f0 - 1, (x0.getD n z78).f1⟩, ⟨(x0.getD n z78).f0 + 1, (x0.getD n z78).f1⟩, ⟨(x0.getD n z78).f0, (x0.getD n z78).f1 + 1⟩] := by
      unfold spec_l02Around.f
      rw [wrap_id _ (by omega) (by omega), wrap_id _ (by omega) (by omega), wrap_id _ (by omega) (by omega), wrap_id _ (by omega) (by omega)]
    obtain ⟨r, h1, h2⟩ := neigh1 (b + 1) x0 h0 n [⟨(x0.getD n z78).f0, (x0.getD n z78).f1 - 1⟩, ⟨(x0.getD n z78).f0 - 1, (x0.getD n z78).f1⟩, ⟨(x0.getD n z78).f0 + 1, (x0.getD n z78).f1⟩, ⟨(x0.getD n z78).f0, (x0.getD n z78).f1 + 1⟩] rfl (fun e he => by
        simp only [List.mem_cons, List.not_mem_nil, or_false] at he
        rcases he with rfl | rfl | rfl | rfl <;> (simp only; omega))
      (fun r => nearC (b + 1) r ∧ r.length ≤ out.length + 4 * (d + 1) ∧ (out ≠ [] ∨ (∃ i, n ≤ i ∧ i < x0.length ∧ (⟨(x0.getD i z78).f0, (x0.getD i z78).f1 - 1⟩ : S78) ∉ x0) → r ≠ []))
      4 0 out (by omega) hno (by omega) (fun o2 g1 g2 g3 => by
        obtain ⟨r, r1, r2, r3, r4⟩ := ih (n + 1) o2 (by omega) g1 (by omega)
        rw [wrap_succ n (by omega)]
        refine ⟨r, r1, r2, by omega, fun h => ?_⟩
        rcases h with h | ⟨i, h4, h5, h6⟩
        · exact r4 (.inl (g3 (.inl h)))
        · by_cases e : i = n
          · subst e
            exact r4 (.inl (g3 (.inr ⟨0, by omega, by omega, h6⟩)))
          · exact r4 (.inr ⟨i, by omega, h5, h6⟩))
    exact ⟨r, Ev.step (f := fun _ => _) (fun k => by simp only [spec_l02Neighbours.l0]; rfl) (ev_pos (by omega) (ev_pos (by omega) (ev_some hA h1))), h2⟩
theorem neigh_val (b : Int) (hb : 0 ≤ b ∧ b ≤ 1000) (x0 : List S78) (h0 : x0.length ≤ 100) (h1 : 1 ≤ x0.length) (hx : nearC b x0) : ∃ r, Ev (fun k => spec_l02Neighbours.f k x0) r ∧ nearC (b + 1) r ∧ r.length ≤ 4 * x0.length ∧ 1 ≤ r.length := by
  obtain ⟨r, r1, r2, r3, r4⟩ := neigh0 b hb x0 h0 hx x0.length 0 [] (by omega) (fun c hc => by simp at hc) (by simp; omega)
  refine ⟨r, r1, r2, by simpa using r3, ?_⟩
  obtain ⟨c, hc, ec⟩ := (corn_mem x0 h1).2
  obtain ⟨i, hi, e⟩ := List.getElem_of_mem hc
  have e1 : x0.getD i z78 = c := by rw [List.getD_eq_getElem?_getD, List.getElem?_eq_getElem hi, Option.getD_some, e]
  have := r4 (.inr ⟨i, by omega, hi, fun hm => by
    have h2 := (minF_le (·.f1) x0 (cellAt x0 0).f1).2 _ hm
    rw [e1] at h2
    unfold minY at ec
    simp only at h2
    omega⟩)
  cases r with
  | nil => exact absurd rfl this
  | cons c r => simp
theorem poly_loop (code : List Int) (d : Nat) : ∀ (n : Int) (out : List S78) (p seed : Int), n = (d : Int) → d ≤ 20 → out.length + d ≤ 30 → 1 ≤ out.length → nearC (30 - d) out → St code p seed →
    ∃ l p' s', Ev (fun k => spec_l02DrawPoly.l0 k out n code p seed) (l, p', s') ∧ St code p' s' ∧ 1 ≤ l.length ∧ l.length ≤ 30 ∧ nearC 60 l := by
  induction d with
  | zero =>
    intro n out p seed hn hd hl h1 hnr hS
    have hnr' : nearC 30 out := fun c hc => by have := hnr c hc; omega
    refine ⟨normL out, p, seed, Ev.step (f := fun _ => _) (fun k => by simp only [spec_l02DrawPoly.l0]; rfl) (ev_neg (by omega) (Ev.bind (snormal_val out (by omega) h1) (ev_const rfl))), hS, by rw [normL_len]; exact h1, by rw [normL_len]; omega, ?_⟩
    have hcn := near_corn 30 out h1 hnr'
    rw [normL_sub out h1 (fun c hc => by have := hnr' c hc; omega)]
    intro e he
    obtain ⟨c, hc, rfl⟩ := List.mem_map.1 he
    have := hnr' c hc
    simp only [subC, cornC]
    omega
  | succ d ih =>
    intro n out p seed hn hd hl h1 hnr hS
    obtain ⟨ar, a1, a2, a3, a4⟩ := neigh_val (30 - ((d + 1 : Nat) : Int)) (by omega) out (by omega) h1 hnr
    obtain ⟨x, p', s', hx, hS', hx0, hx1, hx2⟩ := next_some code p seed (ar.length : Int) hS
    have hxl : x < (ar.length : Int) := by
      by_cases e : (ar.length : Int) ≤ 1
      · have := hx2 e; omega
      · exact hx1 (by omega)
    obtain ⟨j, rfl⟩ := Int.eq_ofNat_of_zero_le hx0
    have hm := a2 _ (getD_mem ar z78 j (by omega))
    obtain ⟨l, p2, s2, h3, h4⟩ := ih (n - 1) (insC (ar.getD j z78) out) p' s' (by omega) (by omega) (by rw [insC_len]; omega) (by rw [insC_len]; omega) (insC_near _ _ _ (by omega) (fun c hc => by have := hnr c hc; omega)) hS'
    refine ⟨l, p2, s2, Ev.step (f := fun _ => _) (fun k => by simp only [spec_l02DrawPoly.l0]; rfl) (ev_pos (by omega) (Ev.bind a1 (ev_some hx (ev_pos (show (0 : Int) ≤ (j : Int) by omega) (ev_pos hxl (Ev.bind (insert_val out (ar.getD j z78) (by omega)) ?_)))))), h4⟩
    rw [wrap_id (n - 1) (by omega) (by omega)]
    exact h3
theorem poly_val (code : List Int) (p seed : Int) (hS : St code p seed) (m : Int) (hm : 1 ≤ m ∧ m ≤ 20) : ∃ l p' s', Ev (fun k => spec_l02DrawPoly.f k code p seed m) (l, p', s') ∧ St code p' s' ∧ 1 ≤ l.length ∧ l.length ≤ 30 ∧ nearC 60 l := by
  obtain ⟨x, p', s', hx, hS', hx0, hx1, hx2⟩ := next_some code p seed m hS
  have hxl : x < 20 := by
    by_cases e : m ≤ 1
    · have := hx2 e; omega
    · have := hx1 (by omega); omega
  obtain ⟨d, rfl⟩ := Int.eq_ofNat_of_zero_le hx0
  obtain ⟨l, p2, s2, h3, h4⟩ := poly_loop code d d [⟨0, 0⟩] p' s' rfl (by omega) (by simp; omega) (by simp) (fun c hc => by
    simp only [List.mem_singleton] at hc
    subst hc
    simp only; omega) hS'
  exact ⟨l, p2, s2, ev_some hx h3, h4⟩
theorem line_loop (code : List Int) (d : Nat) : ∀ (i : Nat) (out : List S78) (p seed : Int), i + d = 42 → out.length = i → St code p seed →
    ∃ l p' s', Ev (fun k => spec_l02Draw.l0 k out i code p seed) (l, p', s') ∧ St code p' s' ∧ l.length ≤ 42 := by
  induction d with
  | zero =>
    intro i out p seed hi ho hS
    obtain ⟨x, p', s', hx, hS', hx0, hx1, _⟩ := next_some code p seed 2 hS
    have := hx1 (by omega)
    exact ⟨out, p', s', Ev.step (f := fun _ => _) (fun k => by simp only [spec_l02Draw.l0]; rfl) (ev_some hx (ev_neg (show ¬ ((i : Int) < wrap64 (40 + x)) by rw [wrap_id _ (by omega) (by omega)]; omega) (ev_const rfl))), hS', by omega⟩
  | succ d ih =>
    intro i out p seed hi ho hS
    obtain ⟨x, p', s', hx, hS', hx0, hx1, _⟩ := next_some code p seed 2 hS
    have := hx1 (by omega)
    by_cases c : (i : Int) < 40 + x
    · obtain ⟨l, p2, s2, h3, h4⟩ := ih (i + 1) (out ++ [⟨(i : Int), 0⟩]) p' s' (by omega) (by simp [ho]) hS'
      refine ⟨l, p2, s2, Ev.step (f := fun _ => _) (fun k => by simp only [spec_l02Draw.l0]; rfl) (ev_some hx (ev_pos (show (i : Int) < wrap64 (40 + x) by rw [wrap_id _ (by omega) (by omega)]; exact c) (ev_pos (show out.length < 8796093022208 by omega) ?_))), h4⟩
      rw [wrap_succ i (by omega)]
      exact h3
    · exact ⟨out, p', s', Ev.step (f := fun _ => _) (fun k => by simp only [spec_l02Draw.l0]; rfl) (ev_some hx (ev_neg (show ¬ ((i : Int) < wrap64 (40 + x)) by rw [wrap_id _ (by omega) (by omega)]; exact c) (ev_const rfl))), hS', by omega⟩
theorem smove_val (l : List S78) (a b : Int) (hl : l.length ≤ 1000) : Ev (fun k => spec_l02Move.f k l a b) (movL a b l) :=
  ev_eq (smove_loop l a b (by unfold maxLen; omega) (by omega) l.length 0 [] (by omega) rfl) (by simp)
theorem movL_len (a b : Int) (l : List S78) : (movL a b l).length = l.length := by simp [movL]
theorem draw_shape (code : List Int) (p seed : Int) (hS : St code p seed) : ∃ l p' s', Ev (fun k => spec_l02Draw.f k code p seed) (l, p', s') ∧ St code p' s' ∧ l.length ≤ 50 := by
  obtain ⟨l0, p0, s0, e0, S0, n1, n2, _⟩ := poly_val code p seed hS 8 (by omega)
  obtain ⟨x1, p1, s1, e1, S1, a1, b1, _⟩ := next_some code p0 s0 9 S0
  obtain ⟨x2, p2, s2, e2, S2, a2, b2, _⟩ := next_some code p1 s1 9 S1
  have hM := smove_val l0 (wrap64 (x1 - 4)) (wrap64 (x2 - 4)) (by omega)
  have hml := movL_len (wrap64 (x1 - 4)) (wrap64 (x2 - 4)) l0
  generalize movL (wrap64 (x1 - 4)) (wrap64 (x2 - 4)) l0 = m at hM hml
  obtain ⟨x3, p3, s3, e3, S3, a3, b3, c3⟩ := next_some code p2 s2 (m.length : Int) S2
  have hx3 : x3 < (m.length : Int) := by
    by_cases e : (m.length : Int) ≤ 1
    · have := c3 e; omega
    · exact b3 (by omega)
  obtain ⟨x4, p4, s4, e4, S4, a4, b4, _⟩ := next_some code p3 s3 24 S3
  have J : ∀ r : List S78 × Int × Int, Ev (fun k => if x4 = 0 then ((some (([(-100), 100, 101] : List Int) : List Int)).bind fun y215 => ((spec_l01Next.f code p4 s4 3).bind fun bt218 => (if 0 ≤ bt218.1 then (if bt218.1 < (y215.length : Int) then (if 0 ≤ x3 then (if x3 < (m.length : Int) then ((spec_l02Sort.f k (m.set (x3 : Int).toNat (⟨rd y215 bt218.1, (rd_T78 m x3).f1⟩ : S78))).bind fun t223 => (some (t223, bt218.2.1, bt218.2.2))) else (none)) else (none)) else (none)) else (none)))) else (if x4 = 1 then (if 0 ≤ x3 then (if x3 < (m.length : Int) then (if m.length < 8796093022208 then (some ((m ++ [(⟨(rd_T78 m x3).f0, (rd_T78 m x3).f1⟩ : S78)]), p4, s4)) else (none)) else (none)) else (none)) else (if x4 = 2 then (some (([] : List (S78)), p4, s4)) else (if x4 = 3 then (spec_l02Draw.l0 k (([] : List (S78))) 0 code p4 s4) else (if x4 = 4 then (if 0 < (m.length : Int) then (if 0 ≤ (wrap64 ((m.length : Int) - 1)) then (if (wrap64 ((m.length : Int) - 1)) < (m.length : Int) then (if m.length < 8796093022208 then (some ((m ++ [(⟨wrap64 (((rd_T78 m 0).f0) + 3), wrap64 (((rd_T78 m (wrap64 ((m.length : Int) - 1))).f1) + 2)⟩ : S78)]), p4, s4)) else (none)) else (none)) else (none)) else (none)) else (if x4 = 5 then (if 0 < (m.length : Int) then (if 0 ≤ (wrap64 ((m.length : Int) - 1)) then (if (wrap64 ((m.length : Int) - 1)) < (m.length : Int) then (if m.length < 8796093022208 then (some ((m ++ [(⟨wrap64 (((rd_T78 m 0).f0) + 3), wrap64 (((rd_T78 m (wrap64 ((m.length : Int) - 1))).f1) + 2)⟩ : S78)]), p4, s4)) else (none)) else (none)) else (none)) else (none)) else (some (m, p4, s4)))))))) r → Ev (fun k => spec_l02Draw.f k code p seed) r := fun r h =>
    Ev.bind e0 (ev_some e1 (ev_some e2 (Ev.bind hM (ev_some e3 (ev_some e4 h)))))
  have w1 : wrap64 ((m.length : Int) - 1) = (m.length : Int) - 1 := wrap_id _ (by omega) (by omega)
  by_cases q0 : x4 = 0
  · obtain ⟨x5, p5, s5, e5, S5, a5, b5, _⟩ := next_some code p4 s4 3 S4
    have := b5 (by omega)
    exact ⟨_, p5, s5, J _ (ev_pos q0 (ev_some rfl (ev_some e5 (ev_pos a5 (ev_pos (by simpa using b5 (by omega)) (ev_pos a3 (ev_pos hx3 (Ev.bind (ssort_val _ (by simp; omega)) (ev_const rfl))))))))), S5, by rw [sortC_len, List.length_set]; omega⟩
  · by_cases q1 : x4 = 1
    · exact ⟨_, p4, s4, J _ (ev_neg q0 (ev_pos q1 (ev_pos a3 (ev_pos hx3 (ev_pos (by omega) (ev_const rfl)))))), S4, by simp; omega⟩
    · by_cases q2 : x4 = 2
      · exact ⟨_, p4, s4, J _ (ev_neg q0 (ev_neg q1 (ev_pos q2 (ev_const rfl)))), S4, by simp⟩
      · by_cases q3 : x4 = 3
        · obtain ⟨l, p5, s5, h5, h6, h7⟩ := line_loop code 42 0 [] p4 s4 (by omega) rfl S4
          exact ⟨l, p5, s5, J _ (ev_neg q0 (ev_neg q1 (ev_neg q2 (ev_pos q3 h5)))), h6, by omega⟩
        · by_cases q4 : x4 = 4
          · exact ⟨_, p4, s4, J _ (ev_neg q0 (ev_neg q1 (ev_neg q2 (ev_neg q3 (ev_pos q4 (ev_pos (by omega) (ev_pos (by omega) (ev_pos (by omega) (ev_pos (by omega) (ev_const rfl)))))))))), S4, by simp; omega⟩
          · by_cases q5 : x4 = 5
            · exact ⟨_, p4, s4, J _ (ev_neg q0 (ev_neg q1 (ev_neg q2 (ev_neg q3 (ev_neg q4 (ev_pos q5 (ev_pos (by omega) (ev_pos (by omega) (ev_pos (by omega) (ev_pos (by omega) (ev_const rfl))))))))))), S4, by simp; omega⟩
            · exact ⟨_, p4, s4, J _ (ev_neg q0 (ev_neg q1 (ev_neg q2 (ev_neg q3 (ev_neg q4 (ev_neg q5 (ev_const rfl))))))), S4, by omega⟩
def letter (c : UInt8) : Bool := ([114, 100, 108, 117] : List UInt8).contains c
theorem letter_int (c : UInt8) : letter c = (decide ((c.toNat : Int) = 114) || (decide ((c.toNat : Int) = 100) || (decide ((c.toNat : Int) = 108) || decide ((c.toNat : Int) = 117)))) := by
  have h : ∀ n : UInt8, (c == n) = decide ((c.toNat : Int) = (n.toNat : Int)) := by
    intro n
    rw [Bool.eq_iff_iff, beq_iff_eq, decide_eq_true_iff]
    exact ⟨fun e => by rw [e], fun e => UInt8.toNat_inj.1 (by omega)⟩
  simp only [letter, List.contains_cons, List.contains_nil, h]
  simp
theorem size_list (a : ByteArray) : a.data.toList.length = a.size := rfl
theorem bt_get (a : ByteArray) (n : Nat) (h : n < a.size) : bt a (n : Int) = ((a.data.toList.getD n 0).toNat : Int) := by
  unfold bt
  rw [dif_pos (by simpa using h), List.getD_eq_getElem?_getD, List.getElem?_eq_getElem (by simpa using h)]
  rfl
theorem word_loop (a : ByteArray) (hm : a.size ≤ 140737488351232) (d : Nat) : ∀ (n : Nat), n + d = a.size → Ev (fun k => spec_l23Is.l0 k a n) ((a.data.toList.drop n).all letter && decide ((a.size : Int) ≤ 200)) := by
  induction d with
  | zero =>
    intro n hd
    refine Ev.step (f := fun _ => _) (fun k => by simp only [spec_l23Is.l0]; rfl) (ev_neg (by omega) (ev_const ?_))
    rw [List.drop_of_length_le (by rw [size_list]; omega)]
    simp
  | succ d ih =>
    intro n hd
    refine Ev.step (f := fun _ => _) (fun k => by simp only [spec_l23Is.l0]; rfl) (ev_pos (by omega) (ev_pos (by omega) ?_))
    have hn := ih (n + 1) (by omega)
    rw [drop_cons a.data.toList 0 n (by rw [size_list]; omega), List.all_cons, letter_int, wrap_succ n (by omega), bt_get a n (by omega)]
    generalize ((a.data.toList.getD n 0).toNat : Int) = c
    by_cases h1 : c = 114
    · exact ev_pos h1 (by simpa [h1] using hn)
    · refine ev_neg h1 ?_
      by_cases h2 : c = 100
      · exact ev_pos h2 (by simpa [h2] using hn)
      · refine ev_neg h2 ?_
        by_cases h3 : c = 108
        · exact ev_pos h3 (by simpa [h3] using hn)
        · refine ev_neg h3 ?_
          by_cases h4 : c = 117
          · exact ev_pos h4 (by simpa [h4] using hn)
          · exact ev_neg h4 (ev_const (by simp [h1, h2, h3, h4]))
theorem word_val (a : ByteArray) (hm : a.size ≤ 140737488351232) : Ev (fun k => spec_l23Is.f k a) (a.data.toList.all letter && decide ((a.size : Int) ≤ 200)) := word_loop a hm a.size 0 (by omega)

theorem trim_empty (l cs : List UInt8) : (Lib.trimS l cs).isEmpty = l.all (fun c => cs.contains c) := by
  have hd : ∀ l : List UInt8, (l.dropWhile (cs.contains ·)).isEmpty = l.all (fun c => cs.contains c) := by
    intro l
    induction l with
    | nil => rfl
    | cons c l ih =>
      rw [List.dropWhile_cons, List.all_cons]
      cases cs.contains c with
      | true => simpa using ih
      | false => simp
  unfold Lib.trimS Lib.trimLeftS
  rw [hd]
  unfold Lib.trimRightS
  rw [List.all_reverse]
  have h2 : ∀ l : List UInt8, (l.dropWhile (cs.contains ·)).all (fun c => cs.contains c) = l.all (fun c => cs.contains c) := by
    intro l
    induction l with
    | nil => rfl
    | cons c l ih =>
      rw [List.dropWhile_cons, List.all_cons]
      cases h : cs.contains c with
      | true => simpa only [if_true, Bool.true_and] using ih
      | false => rw [if_neg (by simp), List.all_cons, h]
  rw [h2, List.all_reverse]
theorem isWord_val (a : ByteArray) : impl_isWord.f a = some (a.data.toList.all letter && decide ((a.size : Int) ≤ 200)) := by
  unfold impl_isWord.f
  by_cases h : (a.size : Int) ≤ 200
  · rw [if_pos h]
    rw [ByteArray.toList_eq]
    show some (Lib.trimS a.data.toList [114, 100, 108, 117]).isEmpty = _
    rw [trim_empty, show decide ((a.size : Int) ≤ 200) = true from decide_eq_true h, Bool.and_true]
    rfl
  · rw [if_neg h]
    simp [h]
theorem roll_same (k : Nat) : ∀ (a : ByteArray) (i x y z : Int), impl_rollWord.l0 k a i x y z = spec_l32Word.l0 k a i x y z := by
  induction k with
  | zero => intros; rfl
  | succ k ih =>
    intro a i x y z
    simp only [impl_rollWord.l0, spec_l32Word.l0, ih]
    rfl
/-! A die and what a word does to it: numbers from 0 to 5, three in line; a turn of the three, some of them counted from the other end. -/
abbrev Die := Int × Int × Int
def ok (d : Die) : Prop := (0 ≤ d.1 ∧ d.1 ≤ 5) ∧ (0 ≤ d.2.1 ∧ d.2.1 ≤ 5) ∧ (0 ≤ d.2.2 ∧ d.2.2 ≤ 5)
/-- One place of a turn: which number it takes, and whether from the other end. -/
abbrev Pl := Fin 3 × Bool
abbrev Turn := Pl × Pl × Pl
def at3 (d : Die) (i : Fin 3) : Int := if i = 0 then d.1 else if i = 1 then d.2.1 else d.2.2
def pl (p : Pl) (d : Die) : Int := if p.2 then 5 - at3 d p.1 else at3 d p.1
def act (t : Turn) (d : Die) : Die := (pl t.1 d, pl t.2.1 d, pl t.2.2 d)
def at3t (t : Turn) (i : Fin 3) : Pl := if i = 0 then t.1 else if i = 1 then t.2.1 else t.2.2
def plt (p : Pl) (t : Turn) : Pl := ((at3t t p.1).1, Bool.xor p.2 (at3t t p.1).2)
def comp (s t : Turn) : Turn := (plt s.1 t, plt s.2.1 t, plt s.2.2 t)
theorem at3_ok {d : Die} (h : ok d) (i : Fin 3) : 0 ≤ at3 d i ∧ at3 d i ≤ 5 := by
  unfold at3
  split
  · exact h.1
  · split
    · exact h.2.1
    · exact h.2.2
theorem act_ok {d : Die} (h : ok d) (t : Turn) : ok (act t d) := by
  have hp : ∀ p : Pl, 0 ≤ pl p d ∧ pl p d ≤ 5 := by
    intro p
    have := at3_ok h p.1
    unfold pl
    split <;> omega
  exact ⟨hp _, hp _, hp _⟩
theorem at3_act (t : Turn) (d : Die) (i : Fin 3) : at3 (act t d) i = pl (at3t t i) d := by
  unfold at3 at3t
  split
  · rfl
  · split <;> rfl
theorem pl_act (p : Pl) (t : Turn) (d : Die) : pl p (act t d) = pl (plt p t) d := by
  obtain ⟨i, b⟩ := p
  show (if b then 5 - at3 (act t d) i else at3 (act t d) i) = (if Bool.xor b (at3t t i).2 then 5 - at3 d (at3t t i).1 else at3 d (at3t t i).1)
  rw [at3_act]
  unfold pl
  cases b <;> cases (at3t t i).2 <;> simp
  omega
theorem act_comp (s t : Turn) (d : Die) : act s (act t d) = act (comp s t) d := by
  exact Prod.ext (pl_act _ _ _) (Prod.ext (pl_act _ _ _) (pl_act _ _ _))
def one : Turn := ((0, false), (1, false), (2, false))
theorem act_one (d : Die) : act one d = d := rfl
/-- No two places take the same number. -/
def good (t : Turn) : Bool := t.1.1 != t.2.1.1 && (t.1.1 != t.2.2.1 && t.2.1.1 != t.2.2.1)
def idx (t : Turn) (i : Fin 3) : Fin 3 := if i = 0 then t.1.1 else if i = 1 then t.2.1.1 else t.2.2.1
theorem idx_eq (t : Turn) (i : Fin 3) : (at3t t i).1 = idx t i := by
  unfold at3t idx
  split
  · rfl
  · split <;> rfl
theorem good_idx : ∀ (a b c p q r : Fin 3), (a != b && (a != c && b != c)) = true → (p != q && (p != r && q != r)) = true →
    ((if a = 0 then p else if a = 1 then q else r) != (if b = 0 then p else if b = 1 then q else r) && ((if a = 0 then p else if a = 1 then q else r) != (if c = 0 then p else if c = 1 then q else r) && (if b = 0 then p else if b = 1 then q else r) != (if c = 0 then p else if c = 1 then q else r))) = true := by decide +kernel
theorem good_comp (s t : Turn) (hs : good s = true) (ht : good t = true) : good (comp s t) = true := by
  show ((at3t t s.1.1).1 != (at3t t s.2.1.1).1 && ((at3t t s.1.1).1 != (at3t t s.2.2.1).1 && (at3t t s.2.1.1).1 != (at3t t s.2.2.1).1)) = true
  rw [idx_eq, idx_eq, idx_eq]
  exact good_idx _ _ _ _ _ _ hs ht
/-- What a letter does. -/
def rollT (c : Int) : Turn := if c = 114 then ((1, false), (0, true), (2, false)) else if c = 100 then ((2, false), (1, false), (0, true)) else if c = 108 then ((1, true), (0, false), (2, false)) else ((2, true), (1, false), (0, false))
theorem rollT_good (c : Int) : good (rollT c) = true := by
  unfold rollT
  repeat' (first | rfl | split)
theorem roll_act (d : Die) (h : ok d) (c : Int) : spec_l32Roll.f d.1 d.2.1 d.2.2 c = some (act (rollT c) d) := by
  obtain ⟨x, y, z⟩ := d
  obtain ⟨⟨h1, h2⟩, ⟨h3, h4⟩, h5, h6⟩ := h
  have w1 : wrap64 (5 - x) = 5 - x := wrap_id _ (by simp only at *; omega) (by simp only at *; omega)
  have w2 : wrap64 (5 - y) = 5 - y := wrap_id _ (by simp only at *; omega) (by simp only at *; omega)
  have w3 : wrap64 (5 - z) = 5 - z := wrap_id _ (by simp only at *; omega) (by simp only at *; omega)
  unfold spec_l32Roll.f rollT
  simp only [w1, w2, w3]
  split
  · rfl
  · split
    · rfl
    · split <;> rfl
def wordT : List UInt8 → Turn
  | [] => one
  | c :: l => comp (wordT l) (rollT (c.toNat : Int))
theorem wordT_good : ∀ l, good (wordT l) = true
  | [] => rfl
  | c :: l => good_comp _ _ (wordT_good l) (rollT_good _)
theorem wordT_loop (a : ByteArray) (hm : a.size ≤ 140737488351232) (d : Nat) : ∀ (n : Nat) (x : Die), ok x → n + d = a.size → Ev (fun k => spec_l32Word.l0 k a n x.1 x.2.1 x.2.2) (act (wordT (a.data.toList.drop n)) x) := by
  induction d with
  | zero =>
    intro n x hx hd
    refine Ev.step (f := fun _ => _) (fun k => by simp only [spec_l32Word.l0]; rfl) (ev_neg (by omega) (ev_const ?_))
    rw [List.drop_of_length_le (by rw [size_list]; omega)]
    rfl
  | succ d ih =>
    intro n x hx hd
    have hr := ih (n + 1) (act (rollT (bt a n)) x) (act_ok hx _) (by omega)
    refine Ev.step (f := fun _ => _) (fun k => by simp only [spec_l32Word.l0]; rfl) (ev_pos (by omega) (ev_pos (by omega) (ev_some (roll_act x hx _) ?_)))
    rw [wrap_succ n (by omega), drop_cons a.data.toList 0 n (by rw [size_list]; omega), wordT, ← act_comp, ← bt_get a n (by omega)]
    exact hr
theorem wordT_val (a : ByteArray) (hm : a.size ≤ 140737488351232) (x : Die) (hx : ok x) : Ev (fun k => spec_l32Word.f k x.1 x.2.1 x.2.2 a) (act (wordT a.data.toList) x) := wordT_loop a hm a.size 0 x hx (by omega)
theorem wordT_val' (a : ByteArray) (hm : a.size ≤ 140737488351232) (x : Die) (hx : ok x) : Ev (fun k => impl_rollWord.f k x.1 x.2.1 x.2.2 a) (act (wordT a.data.toList) x) :=
  (wordT_val a hm x hx).congr (fun k => by unfold impl_rollWord.f; exact roll_same k a 0 _ _ _)
/-! The walk along a boundary comes back to its first point. -/
theorem sxW_in (e : Nat) : (-1 ≤ sx e ∧ sx e ≤ 1) ∧ (-1 ≤ sy e ∧ sy e ≤ 1) := by
  unfold sx sy
  refine ⟨⟨?_, ?_⟩, ?_, ?_⟩ <;> split <;> omega
def ahead (q : Pt) (k : Nat) : Pt := match k with | 0 => (q.1, q.2 - 1) | 1 => q | 2 => (q.1 - 1, q.2) | _ => (q.1 - 1, q.2 - 1)
def inL (l : List S78) (p : Pt) : Bool := decide (0 ≤ idxI l p)
def pick4 (a0 a1 a2 a3 : Bool) (k : Nat) : Bool := match k with | 0 => a0 | 1 => a1 | 2 => a2 | _ => a3
def nxtD (a0 a1 a2 a3 : Bool) (d : Nat) : Nat := if pick4 a0 a1 a2 a3 d = true then (d + 3) % 4 else if pick4 a0 a1 a2 a3 ((d + 1) % 4) = false then (d + 1) % 4 else d
theorem nxt_ok : ∀ (a0 a1 a2 a3 : Bool) (d : Fin 4), pick4 a0 a1 a2 a3 ((d.val + 2) % 4) = true → pick4 a0 a1 a2 a3 ((d.val + 3) % 4) = false → nxtD a0 a1 a2 a3 d.val < 4 ∧ pick4 a0 a1 a2 a3 ((nxtD a0 a1 a2 a3 d.val + 1) % 4) = true ∧ pick4 a0 a1 a2 a3 (nxtD a0 a1 a2 a3 d.val) = false := by decide +kernel
theorem nxt_inj : ∀ (a0 a1 a2 a3 : Bool) (d e : Fin 4), pick4 a0 a1 a2 a3 ((d.val + 2) % 4) = true → pick4 a0 a1 a2 a3 ((d.val + 3) % 4) = false → pick4 a0 a1 a2 a3 ((e.val + 2) % 4) = true → pick4 a0 a1 a2 a3 ((e.val + 3) % 4) = false → nxtD a0 a1 a2 a3 d.val = nxtD a0 a1 a2 a3 e.val → d.val = e.val := by decide +kernel
def nxtL (l : List S78) (q : Pt) (d : Nat) : Nat := nxtD (inL l (ahead q 0)) (inL l (ahead q 1)) (inL l (ahead q 2)) (inL l (ahead q 3)) d
theorem pick_in (l : List S78) (q : Pt) (k : Nat) (hk : k < 4) : pick4 (inL l (ahead q 0)) (inL l (ahead q 1)) (inL l (ahead q 2)) (inL l (ahead q 3)) k = inL l (ahead q k) := by
  rcases four hk with rfl | rfl | rfl | rfl <;> rfl
abbrev Edge := Pt × Nat
def validE (l : List S78) (s : Edge) : Prop := s.2 < 4 ∧ inL l (ahead s.1 ((s.2 + 1) % 4)) = true ∧ inL l (ahead s.1 s.2) = false
def nextE (l : List S78) (s : Edge) : Edge := (stp s.1 s.2, nxtL l (stp s.1 s.2) s.2)
theorem ahead_step (p : Pt) (d : Nat) (hd : d < 4) : ahead (stp p d) ((d + 2) % 4) = ahead p ((d + 1) % 4) ∧ ahead (stp p d) ((d + 3) % 4) = ahead p d := by
  obtain ⟨x, y⟩ := p
  rcases four hd with rfl | rfl | rfl | rfl <;> simp [ahead, stp, sx, sy] <;> omega
theorem arrive (l : List S78) (s : Edge) (h : validE l s) : pick4 (inL l (ahead (stp s.1 s.2) 0)) (inL l (ahead (stp s.1 s.2) 1)) (inL l (ahead (stp s.1 s.2) 2)) (inL l (ahead (stp s.1 s.2) 3)) ((s.2 + 2) % 4) = true ∧ pick4 (inL l (ahead (stp s.1 s.2) 0)) (inL l (ahead (stp s.1 s.2) 1)) (inL l (ahead (stp s.1 s.2) 2)) (inL l (ahead (stp s.1 s.2) 3)) ((s.2 + 3) % 4) = false := by
  obtain ⟨h1, h2, h3⟩ := h
  obtain ⟨e1, e2⟩ := ahead_step s.1 s.2 h1
  rw [pick_in l _ _ (by omega), pick_in l _ _ (by omega), e1, e2]
  exact ⟨h2, h3⟩
theorem next_valid (l : List S78) (s : Edge) (h : validE l s) : validE l (nextE l s) := by
  obtain ⟨a1, a2⟩ := arrive l s h
  obtain ⟨b1, b2, b3⟩ := nxt_ok _ _ _ _ ⟨s.2, h.1⟩ a1 a2
  have c1 := pick_in l (stp s.1 s.2) ((nxtL l (stp s.1 s.2) s.2 + 1) % 4) (by omega)
  have c2 := pick_in l (stp s.1 s.2) (nxtL l (stp s.1 s.2) s.2) b1
  exact ⟨b1, c1.symm.trans b2, c2.symm.trans b3⟩
theorem next_inj (l : List S78) (s t : Edge) (hs : validE l s) (ht : validE l t) (e : nextE l s = nextE l t) : s = t := by
  obtain ⟨a1, a2⟩ := arrive l s hs
  obtain ⟨c1, c2⟩ := arrive l t ht
  have e1 : stp s.1 s.2 = stp t.1 t.2 := congrArg Prod.fst e
  have e2 : nxtL l (stp s.1 s.2) s.2 = nxtL l (stp t.1 t.2) t.2 := congrArg Prod.snd e
  rw [← e1] at c1 c2 e2
  have ed : s.2 = t.2 := nxt_inj _ _ _ _ ⟨s.2, hs.1⟩ ⟨t.2, ht.1⟩ a1 a2 c1 c2 e2
  have ep : s.1 = t.1 := by
    have h1 : stp (stp s.1 s.2) (oppE s.2) = stp (stp t.1 t.2) (oppE s.2) := congrArg (fun p => stp p (oppE s.2)) e1
    rw [stp_opp _ _ hs.1, ed, stp_opp _ _ ht.1] at h1
    exact h1
  exact Prod.ext ep ed
def itE (l : List S78) (s : Edge) : Nat → Edge
  | 0 => s
  | n + 1 => nextE l (itE l s n)
theorem it_valid (l : List S78) (s : Edge) (h : validE l s) : ∀ n, validE l (itE l s n)
  | 0 => h
  | n + 1 => next_valid l _ (it_valid l s h n)
theorem it_back (l : List S78) (s : Edge) (h : validE l s) : ∀ i j : Nat, itE l s i = itE l s (i + j) → itE l s j = s
  | 0, j, e => by
    rw [Nat.zero_add] at e
    exact e.symm
  | i + 1, j, e => it_back l s h i j (next_inj l _ _ (it_valid l s h i) (it_valid l s h (i + j)) (by rw [show i + 1 + j = (i + j) + 1 by omega] at e; exact e))
theorem idx_in (l : List S78) (p : Pt) (h : 0 ≤ idxI l p) : ∃ q : Nat, q < l.length ∧ idxI l p = (q : Int) ∧ cellKey (cellAt l q) = p := by
  unfold idxI at h ⊢
  cases e : atCell l l.length p with
  | none => rw [e] at h; simp at h
  | some v =>
    obtain ⟨i, h1, h2, h3⟩ := atCell_inv l p v _ e
    exact ⟨i, h1, h2, h3⟩
def codeE (l : List S78) (s : Edge) : Int := 4 * idxI l (ahead s.1 ((s.2 + 1) % 4)) + s.2
theorem code_in (l : List S78) (s : Edge) (h : validE l s) : 0 ≤ codeE l s ∧ codeE l s < ((4 * l.length : Nat) : Int) := by
  obtain ⟨h1, h2, _⟩ := h
  obtain ⟨q, hq, e, _⟩ := idx_in l _ (of_decide_eq_true h2)
  unfold codeE
  rw [e]
  omega
theorem code_inj (l : List S78) (s t : Edge) (hs : validE l s) (ht : validE l t) (e : codeE l s = codeE l t) : s = t := by
  obtain ⟨p, d⟩ := s
  obtain ⟨p', d'⟩ := t
  obtain ⟨h1, h2, _⟩ := hs
  obtain ⟨g1, g2, _⟩ := ht
  obtain ⟨q, hq, e1, k1⟩ := idx_in l _ (of_decide_eq_true h2)
  obtain ⟨q', hq', e2, k2⟩ := idx_in l _ (of_decide_eq_true g2)
  unfold codeE at e
  rw [e1, e2] at e
  simp only at h1 g1 e k1 k2
  have hd : d = d' := by omega
  subst hd
  have : q = q' := by omega
  subst this
  rw [k1] at k2
  have : p = p' := by
    obtain ⟨x, y⟩ := p
    obtain ⟨v, w⟩ := p'
    rcases four h1 with rfl | rfl | rfl | rfl <;> simp [ahead] at k2 ⊢ <;> omega
  rw [this]
theorem pigW : ∀ (n : Nat) (xs : List Int), xs.Nodup → (∀ x ∈ xs, 0 ≤ x ∧ x < (n : Int)) → xs.length ≤ n
  | 0, xs, _, h => by
    cases xs with
    | nil => simp
    | cons x xs => have := h x (by simp); omega
  | n + 1, xs, hn, h => by
    have h1 := pigW n (xs.erase (n : Int)) (hn.erase _) (fun x hx => by
      have h2 := (hn.mem_erase_iff).1 hx
      have h3 := h x h2.2
      have h4 := h2.1
      omega)
    rw [List.length_erase] at h1
    split at h1 <;> omega
theorem it_returns (l : List S78) (s : Edge) (h : validE l s) : ∃ m, 1 ≤ m ∧ m ≤ 4 * l.length ∧ itE l s m = s := by
  by_cases hh : ∃ i j, i < j ∧ j ≤ 4 * l.length ∧ codeE l (itE l s i) = codeE l (itE l s j)
  · obtain ⟨i, j, h1, h2, h3⟩ := hh
    have h4 := code_inj l _ _ (it_valid l s h i) (it_valid l s h j) h3
    refine ⟨j - i, by omega, by omega, it_back l s h i (j - i) ?_⟩
    rw [show i + (j - i) = j by omega]
    exact h4
  · exfalso
    have hn : ((List.range (4 * l.length + 1)).map (fun i => codeE l (itE l s i))).Nodup := by
      rw [List.nodup_iff_pairwise_ne, List.pairwise_map]
      refine List.Pairwise.imp_of_mem (fun {a b} ha hb hab e => hh ⟨a, b, hab, ?_, e⟩) List.pairwise_lt_range
      have := List.mem_range.1 hb
      omega
    have := pigW (4 * l.length) _ hn (fun x hx => by
      obtain ⟨i, _, rfl⟩ := List.mem_map.1 hx
      exact code_in l _ (it_valid l s h i))
    simp at this
    omega
theorem edge_near (l : List S78) (hs : Shape l) (s : Edge) (h : validE l s) : (-101 ≤ s.1.1 ∧ s.1.1 ≤ 101) ∧ (-101 ≤ s.1.2 ∧ s.1.2 ≤ 101) := by
  obtain ⟨p, d⟩ := s
  obtain ⟨h1, h2, _⟩ := h
  obtain ⟨q, hq, _, k1⟩ := idx_in l _ (of_decide_eq_true h2)
  have hn := hs.near q hq
  unfold cellKey at k1
  generalize cellAt l q = c at hn k1
  obtain ⟨x, y⟩ := c
  obtain ⟨v, w⟩ := p
  simp only at h1 hn k1 ⊢
  rcases four h1 with rfl | rfl | rfl | rfl <;> simp [ahead] at k1 <;> omega
def circW : ByteArray := ⟨#[114, 100, 108, 117]⟩
theorem tmod1 (d : Nat) (hd : d < 4) : Int.tmod (wrap64 ((d : Int) + 1)) 4 = (((d + 1) % 4 : Nat) : Int) := by
  rw [wrap_id ((d : Int) + 1) (by omega) (by omega), Int.tmod_eq_emod_of_nonneg (by omega)]
  omega
theorem tmod3 (d : Nat) (hd : d < 4) : Int.tmod (wrap64 ((d : Int) + 3)) 4 = (((d + 3) % 4 : Nat) : Int) := by
  rw [wrap_id ((d : Int) + 3) (by omega) (by omega), Int.tmod_eq_emod_of_nonneg (by omega)]
  omega
theorem look4 (a b : Int) (k : Nat) (hk : k < 4) : ((rd_T78 [(⟨a, b - 1⟩ : S78), (⟨a, b⟩ : S78), (⟨a - 1, b⟩ : S78), (⟨a - 1, b - 1⟩ : S78)] (k : Int)).f0, (rd_T78 [(⟨a, b - 1⟩ : S78), (⟨a, b⟩ : S78), (⟨a - 1, b⟩ : S78), (⟨a - 1, b - 1⟩ : S78)] (k : Int)).f1) = ahead (a, b) k := by
  rcases four hk with rfl | rfl | rfl | rfl <;> rfl
set_option maxHeartbeats 4000000 in
theorem word_step (l : List S78) (hs : Shape l) (x y : Int) (hx : -101 ≤ x ∧ x ≤ 101) (hy : -101 ≤ y ∧ y ≤ 101) (d : Nat) (hd : d < 4) (out : List Int) (ho : out.length ≤ 100000) (u v : Int) (r : ByteArray) :
    (stp (x, y) d = (u, v) → r = strOfNums (out ++ [bt circW d]) → Ev (fun k => spec_l23Word.l0 k l out d u v x y) r) ∧
    (stp (x, y) d ≠ (u, v) → Ev (fun k => spec_l23Word.l0 k l (out ++ [bt circW d]) (nxtL l (stp (x, y) d) d : Nat) u v (stp (x, y) d).1 (stp (x, y) d).2) r → Ev (fun k => spec_l23Word.l0 k l out d u v x y) r) := by
  have hsx := sxW_in d
  have e1 : wrap64 (x + (rd_T78 [(⟨1, 0⟩ : S78), (⟨0, 1⟩ : S78), (⟨(-1), 0⟩ : S78), (⟨0, (-1)⟩ : S78)] (d : Int)).f0) = (stp (x, y) d).1 := by
    rw [show (rd_T78 [(⟨1, 0⟩ : S78), (⟨0, 1⟩ : S78), (⟨(-1), 0⟩ : S78), (⟨0, (-1)⟩ : S78)] (d : Int)).f0 = sx d by rcases four hd with rfl | rfl | rfl | rfl <;> rfl]
    exact wrap_id _ (by omega) (by omega)
  have e2 : wrap64 (y + (rd_T78 [(⟨1, 0⟩ : S78), (⟨0, 1⟩ : S78), (⟨(-1), 0⟩ : S78), (⟨0, (-1)⟩ : S78)] (d : Int)).f1) = (stp (x, y) d).2 := by
    rw [show (rd_T78 [(⟨1, 0⟩ : S78), (⟨0, 1⟩ : S78), (⟨(-1), 0⟩ : S78), (⟨0, (-1)⟩ : S78)] (d : Int)).f1 = sy d by rcases four hd with rfl | rfl | rfl | rfl <;> rfl]
    exact wrap_id _ (by omega) (by omega)
  have hq : (-102 ≤ (stp (x, y) d).1 ∧ (stp (x, y) d).1 ≤ 102) ∧ (-102 ≤ (stp (x, y) d).2 ∧ (stp (x, y) d).2 ≤ 102) := by
    show (-102 ≤ x + sx d ∧ x + sx d ≤ 102) ∧ (-102 ≤ y + sy d ∧ y + sy d ≤ 102)
    omega
  have w1 : wrap64 ((stp (x, y) d).1 - 1) = (stp (x, y) d).1 - 1 := wrap_id _ (by omega) (by omega)
  have w2 : wrap64 ((stp (x, y) d).2 - 1) = (stp (x, y) d).2 - 1 := wrap_id _ (by omega) (by omega)
  constructor
  · intro hq1 hr
    refine Ev.step (f := fun _ => _) (fun k => by simp only [spec_l23Word.l0]; rfl) ?_
    refine ev_pos (by omega) (ev_pos (by omega) (ev_pos (by omega) (ev_some rfl (ev_some rfl (ev_pos (by show (d : Int) < 4; omega) (ev_pos ?_ (ev_const ?_)))))))
    · rw [e1, e2, hq1]
      simp
    · rw [hr]
      rfl
  · intro hq1 hr
    refine Ev.step (f := fun _ => _) (fun k => by simp only [spec_l23Word.l0]; rfl) ?_
    refine ev_pos (by omega) (ev_pos (by omega) (ev_pos (by omega) (ev_some rfl (ev_some rfl (ev_pos (by show (d : Int) < 4; omega) (ev_neg ?_ (ev_some rfl ?_)))))))
    · rw [e1, e2]
      intro h
      simp only [Bool.and_eq_true, beq_iff_eq] at h
      exact hq1 (Prod.ext h.1 h.2)
    · rw [e1, e2, w1, w2]
      clear e1 e2 w1 w2 hq hsx hx hy hq1
      generalize stp (x, y) d = q at hr ⊢
      obtain ⟨q0, q1⟩ := q
      simp only at hr ⊢
      rw [tmod1 d hd, tmod3 d hd]
      refine ev_pos (by show (d : Int) < 4; omega) (ev_pos (by omega) (ev_pos (by show (((d + 1) % 4 : Nat) : Int) < 4; omega) (Ev.bind (index_val l hs _ _) ?_)))
      rw [look4 q0 q1 d hd]
      unfold nxtL nxtD at hr
      rw [pick_in l (q0, q1) d hd, pick_in l (q0, q1) ((d + 1) % 4) (by omega)] at hr
      by_cases c : 0 ≤ idxI l (ahead (q0, q1) d)
      · rw [show inL l (ahead (q0, q1) d) = true from decide_eq_true c, if_pos rfl] at hr
        exact ev_pos c hr
      · rw [show inL l (ahead (q0, q1) d) = false from decide_eq_false c, if_neg (show ¬ ((false : Bool) = true) by decide)] at hr
        refine ev_neg c (Ev.bind (index_val l hs _ _) ?_)
        rw [look4 q0 q1 ((d + 1) % 4) (by omega)]
        by_cases c2 : 0 ≤ idxI l (ahead (q0, q1) ((d + 1) % 4))
        · rw [show inL l (ahead (q0, q1) ((d + 1) % 4)) = true from decide_eq_true c2, if_neg (show ¬ ((true : Bool) = false) by decide)] at hr
          have hz : ¬ (idxI l (ahead (q0, q1) ((d + 1) % 4)) < 0) := Int.not_lt.2 c2
          exact ev_neg hz hr
        · rw [show inL l (ahead (q0, q1) ((d + 1) % 4)) = false from decide_eq_false c2, if_pos rfl] at hr
          have hz : idxI l (ahead (q0, q1) ((d + 1) % 4)) < 0 := Int.not_le.1 c2
          exact ev_pos hz hr
theorem nums_size (l : List Int) : (strOfNums l).size = l.length := by
  unfold strOfNums
  show ((l.map _).toArray).size = l.length
  simp
theorem word_run (l : List S78) (hs : Shape l) (s : Edge) (h : validE l s) (m : Nat) (hm : m ≤ 1000) (e : itE l s m = s) (d : Nat) : ∀ (i : Nat) (out : List Int), i + (d + 1) = m → out.length = i → ∃ r : ByteArray, r.size ≤ m ∧ Ev (fun k => spec_l23Word.l0 k l out ((itE l s i).2 : Nat) s.1.1 s.1.2 (itE l s i).1.1 (itE l s i).1.2) r := by
  induction d with
  | zero =>
    intro i out hi ho
    have hv := it_valid l s h i
    obtain ⟨n1, n2⟩ := edge_near l hs _ hv
    have hq : stp (itE l s i).1 (itE l s i).2 = s.1 := by
      have : (itE l s (i + 1)).1 = s.1 := by rw [show i + 1 = m by omega, e]
      exact this
    refine ⟨strOfNums (out ++ [bt circW ((itE l s i).2 : Nat)]), by rw [nums_size]; simp; omega, ?_⟩
    exact (word_step l hs _ _ n1 n2 _ hv.1 out (by omega) s.1.1 s.1.2 _).1 hq rfl
  | succ d ih =>
    intro i out hi ho
    have hv := it_valid l s h i
    obtain ⟨n1, n2⟩ := edge_near l hs _ hv
    by_cases hq : stp (itE l s i).1 (itE l s i).2 = s.1
    · refine ⟨strOfNums (out ++ [bt circW ((itE l s i).2 : Nat)]), by rw [nums_size]; simp; omega, ?_⟩
      exact (word_step l hs _ _ n1 n2 _ hv.1 out (by omega) s.1.1 s.1.2 _).1 hq rfl
    · obtain ⟨r, r1, r2⟩ := ih (i + 1) (out ++ [bt circW ((itE l s i).2 : Nat)]) (by omega) (by simp [ho])
      exact ⟨r, r1, (word_step l hs _ _ n1 n2 _ hv.1 out (by omega) s.1.1 s.1.2 r).2 hq r2⟩
theorem word_some (l : List S78) (hs : Shape l) (hp : Shp l) : ∃ r : ByteArray, r.size ≤ 1000 ∧ Ev (fun k => spec_l23Word.f k l) r := by
  have hpos := hs.pos
  have hle := hs.le
  have h0 : validE l ((cellKey (cellAt l 0)), 0) := by
    refine ⟨by omega, ?_, ?_⟩
    · show inL l (cellKey (cellAt l 0)) = true
      unfold inL idxI
      rw [atCell_some l hs 0 hpos]
      rfl
    · show inL l ((cellKey (cellAt l 0)).1, (cellKey (cellAt l 0)).2 - 1) = false
      unfold inL
      rw [decide_eq_false_iff_not]
      intro hh
      obtain ⟨q, hq, _, k1⟩ := idx_in l _ hh
      unfold cellKey at k1
      simp only [Prod.mk.injEq] at k1
      by_cases e : q = 0
      · subst e; omega
      · have := (less_iff _ _).1 (hp.rise 0 q (by omega) hq)
        omega
  obtain ⟨m, m1, m2, m3⟩ := it_returns l _ h0
  obtain ⟨r, r1, r2⟩ := word_run l hs _ h0 m (by omega) m3 (m - 1) 0 [] (by omega) rfl
  exact ⟨r, by omega, ev_pos (by omega) r2⟩
/-! Whatever is drawn, a word comes out: the reference's test for a plain shape ends. -/
theorem touch_some (l : List S78) (hs : Shape l) (d : Nat) : ∀ n : Nat, n + d = l.length → ∃ b, Ev (fun k => spec_l23Touch.l0 k l n) b := by
  have hle := hs.le
  induction d with
  | zero =>
    intro n hn
    exact ⟨false, Ev.step (f := fun _ => _) (fun k => by simp only [spec_l23Touch.l0]; rfl) (by exact ev_neg (by omega) (ev_const rfl))⟩
  | succ d ih =>
    intro n hn
    obtain ⟨b, hb⟩ := ih (n + 1) (by omega)
    have hJ : ∀ (x6 x7 x62 : Bool) (u v : Int), ∃ r, Ev (fun k => spec_l23Touch.j1 k l n x6 x7 x62 u v) r := fun x6 x7 x62 u v => by
      cases x62 with
      | true => exact ⟨true, Ev.step (f := fun _ => _) (fun k => by simp only [spec_l23Touch.j1]; rfl) (by exact ev_pos trivial (ev_const rfl))⟩
      | false =>
        cases x6 with
        | true => exact ⟨b, Ev.step (f := fun _ => _) (fun k => by simp only [spec_l23Touch.j1]; rfl) (by exact ev_neg (by simp) (ev_pos trivial (by rw [wrap_succ n (by omega)]; exact hb)))⟩
        | false =>
          cases x7 with
          | true => exact ⟨b, Ev.step (f := fun _ => _) (fun k => by simp only [spec_l23Touch.j1]; rfl) (by exact ev_neg (by simp) (ev_neg (by simp) (ev_pos trivial (by rw [wrap_succ n (by omega)]; exact hb))))⟩
          | false =>
            by_cases c : idxI l (wrap64 (u - 1), wrap64 (v + 1)) ≥ 0
            · exact ⟨true, Ev.step (f := fun _ => _) (fun k => by simp only [spec_l23Touch.j1]; rfl) (by exact ev_neg (by simp) (ev_neg (by simp) (ev_neg (by simp) (Ev.bind (index_val l hs _ _) (ev_pos c (ev_const rfl))))))⟩
            · exact ⟨b, Ev.step (f := fun _ => _) (fun k => by simp only [spec_l23Touch.j1]; rfl) (by exact ev_neg (by simp) (ev_neg (by simp) (ev_neg (by simp) (Ev.bind (index_val l hs _ _) (ev_neg c (by rw [wrap_succ n (by omega)]; exact hb))))))⟩
    have hT : ∀ r, (∀ (t1 t2 t3 : Int), Ev (fun k => if t1 ≥ 0 then spec_l23Touch.j1 k l n (decide (t2 ≥ 0)) (decide (t3 ≥ 0)) false (rd_T78 l (n : Int)).f0 (rd_T78 l (n : Int)).f1 else none) r → True) → True := fun _ _ => trivial
    by_cases c1 : idxI l (wrap64 ((rd_T78 l (n : Int)).f0 + 1), (rd_T78 l (n : Int)).f1) ≥ 0
    · obtain ⟨r, hr⟩ := hJ (decide (idxI l (wrap64 ((rd_T78 l (n : Int)).f0 - 1), (rd_T78 l (n : Int)).f1) ≥ 0)) (decide (idxI l ((rd_T78 l (n : Int)).f0, wrap64 ((rd_T78 l (n : Int)).f1 + 1)) ≥ 0)) false (rd_T78 l (n : Int)).f0 (rd_T78 l (n : Int)).f1
      exact ⟨r, Ev.step (f := fun _ => _) (fun k => by simp only [spec_l23Touch.l0]; rfl) (by exact ev_pos (by omega) (ev_pos (by omega) (Ev.bind (index_val l hs _ _) (Ev.bind (index_val l hs _ _) (Ev.bind (index_val l hs _ _) (ev_pos c1 hr))))))⟩
    · by_cases c2 : idxI l ((rd_T78 l (n : Int)).f0, wrap64 ((rd_T78 l (n : Int)).f1 + 1)) ≥ 0
      · obtain ⟨r, hr⟩ := hJ (decide (idxI l (wrap64 ((rd_T78 l (n : Int)).f0 - 1), (rd_T78 l (n : Int)).f1) ≥ 0)) (decide (idxI l ((rd_T78 l (n : Int)).f0, wrap64 ((rd_T78 l (n : Int)).f1 + 1)) ≥ 0)) false (rd_T78 l (n : Int)).f0 (rd_T78 l (n : Int)).f1
        exact ⟨r, Ev.step (f := fun _ => _) (fun k => by simp only [spec_l23Touch.l0]; rfl) (by exact ev_pos (by omega) (ev_pos (by omega) (Ev.bind (index_val l hs _ _) (Ev.bind (index_val l hs _ _) (Ev.bind (index_val l hs _ _) (ev_neg c1 (ev_pos c2 hr)))))))⟩
      · obtain ⟨r, hr⟩ := hJ (decide (idxI l (wrap64 ((rd_T78 l (n : Int)).f0 - 1), (rd_T78 l (n : Int)).f1) ≥ 0)) (decide (idxI l ((rd_T78 l (n : Int)).f0, wrap64 ((rd_T78 l (n : Int)).f1 + 1)) ≥ 0)) (decide (idxI l (wrap64 ((rd_T78 l (n : Int)).f0 + 1), wrap64 ((rd_T78 l (n : Int)).f1 + 1)) ≥ 0)) (rd_T78 l (n : Int)).f0 (rd_T78 l (n : Int)).f1
        exact ⟨r, Ev.step (f := fun _ => _) (fun k => by simp only [spec_l23Touch.l0]; rfl) (by exact ev_pos (by omega) (ev_pos (by omega) (Ev.bind (index_val l hs _ _) (Ev.bind (index_val l hs _ _) (Ev.bind (index_val l hs _ _) (ev_neg c1 (ev_neg c2 (Ev.bind (index_val l hs _ _) hr))))))))⟩
theorem index_gen (l : List S78) (hl : l.length ≤ 1000000) (a b : Int) : ∃ v : Int, Ev (fun k => spec_l02Index.f k l a b) v ∧ -1 ≤ v ∧ v < (l.length : Int) := by
  obtain ⟨v, h1, _, h3, h4⟩ := index_any l hl ⟨a, b⟩ l.length 0 (by omega)
  exact ⟨v, h1, h3, h4⟩
/-! The parts of any list of cells. -/
set_option maxHeartbeats 4000000 in
theorem pt3 (l : List S78) (hl : l.length ≤ 300000) (i : Nat) (hi : i < l.length) (ds : List S78) (hds : ds.length = 4) (M : Nat) (hM : M ≤ 900000)
    (hk : ∀ (out op : List Int), out.length = l.length → (∀ q ∈ op, 0 ≤ q ∧ q < (l.length : Int)) → op.length + 2 * negs out ≤ M → ∃ r, r.length = l.length ∧ Ev (fun k => spec_l02Parts.l2 k l out i op) r) (d : Nat) :
    ∀ (j : Nat) (out op : List Int), j + d = 4 → out.length = l.length → (∀ q ∈ op, 0 ≤ q ∧ q < (l.length : Int)) → op.length + 2 * negs out ≤ M → ∃ r, r.length = l.length ∧ Ev (fun k => spec_l02Parts.l3 k l out i op ds j) r := by
  induction d with
  | zero =>
    intro j out op hj ho hop hm
    obtain ⟨r, r1, r2⟩ := hk out op ho hop hm
    exact ⟨r, r1, Ev.step (f := fun _ => _) (fun k => by simp only [spec_l02Parts.l3]; rfl) (by exact ev_neg (by omega) r2)⟩
  | succ d ih =>
    intro j out op hj ho hop hm
    obtain ⟨v, v1, v2, v3⟩ := index_gen l (by omega) (rd_T78 ds (j : Int)).f0 (rd_T78 ds (j : Int)).f1
    by_cases c : v ≥ 0
    · obtain ⟨p, rfl⟩ := Int.eq_ofNat_of_zero_le c
      by_cases c2 : rd out (p : Int) < 0
      · have hset := negs_set out p (i : Int) (by omega) c2 (by omega)
        obtain ⟨r, r1, r2⟩ := ih (j + 1) (out.set p (i : Int)) (op ++ [(p : Int)]) (by omega) (by simpa using ho) (fun q hq => by
          rcases List.mem_append.1 hq with h | h
          · exact hop q h
          · rw [List.mem_singleton.1 h]; omega) (by simp only [List.length_append, List.length_cons, List.length_nil]; omega)
        refine ⟨r, r1, Ev.step (f := fun _ => _) (fun k => by simp only [spec_l02Parts.l3]; rfl) ?_⟩
        refine ev_pos (by omega) (ev_pos (by omega) (ev_pos (by omega) (Ev.bind v1 (ev_pos c (ev_pos (by omega) (ev_pos (by omega) (ev_pos c2 (ev_pos (by omega) ?_))))))))
        rw [wrap_succ j (by omega), Int.toNat_natCast]
        exact r2
      · obtain ⟨r, r1, r2⟩ := ih (j + 1) out op (by omega) ho hop hm
        refine ⟨r, r1, Ev.step (f := fun _ => _) (fun k => by simp only [spec_l02Parts.l3]; rfl) ?_⟩
        refine ev_pos (by omega) (ev_pos (by omega) (ev_pos (by omega) (Ev.bind v1 (ev_pos c (ev_pos (by omega) (ev_pos (by omega) (ev_neg c2 ?_)))))))
        rw [wrap_succ j (by omega)]
        exact r2
    · obtain ⟨r, r1, r2⟩ := ih (j + 1) out op (by omega) ho hop hm
      refine ⟨r, r1, Ev.step (f := fun _ => _) (fun k => by simp only [spec_l02Parts.l3]; rfl) ?_⟩
      refine ev_pos (by omega) (ev_pos (by omega) (ev_pos (by omega) (Ev.bind v1 (ev_neg c ?_))))
      rw [wrap_succ j (by omega)]
      exact r2
theorem pt2 (l : List S78) (hl : l.length ≤ 300000) (i : Nat) (hi : i < l.length) (hk : ∀ out : List Int, out.length = l.length → ∃ r, r.length = l.length ∧ Ev (fun k => spec_l02Parts.l1 k l out ((i + 1 : Nat) : Int)) r) (M : Nat) (hM : M ≤ 900000) :
    ∀ (out op : List Int), out.length = l.length → (∀ q ∈ op, 0 ≤ q ∧ q < (l.length : Int)) → op.length + 2 * negs out ≤ M → ∃ r, r.length = l.length ∧ Ev (fun k => spec_l02Parts.l2 k l out i op) r := by
  induction M with
  | zero =>
    intro out op ho hop hm
    obtain ⟨r, r1, r2⟩ := hk out ho
    have : op = [] := List.length_eq_zero_iff.1 (by omega)
    subst this
    refine ⟨r, r1, Ev.step (f := fun _ => _) (fun k => by simp only [spec_l02Parts.l2]; rfl) ?_⟩
    refine ev_neg (by simp) ?_
    rw [wrap_succ i (by omega)]
    exact r2
  | succ M ih =>
    intro out op ho hop hm
    cases op with
    | nil =>
      obtain ⟨r, r1, r2⟩ := hk out ho
      refine ⟨r, r1, Ev.step (f := fun _ => _) (fun k => by simp only [spec_l02Parts.l2]; rfl) ?_⟩
      refine ev_neg (by simp) ?_
      rw [wrap_succ i (by omega)]
      exact r2
    | cons q0 op =>
      have h0 := hop q0 (by simp)
      obtain ⟨q, rfl⟩ := Int.eq_ofNat_of_zero_le h0.1
      simp only [List.length_cons] at hm
      obtain ⟨r, r1, r2⟩ := pt3 l hl i hi [(⟨(cellAt l q).f0, wrap64 ((cellAt l q).f1 - 1)⟩ : S78), ⟨wrap64 ((cellAt l q).f0 - 1), (cellAt l q).f1⟩, ⟨wrap64 ((cellAt l q).f0 + 1), (cellAt l q).f1⟩, ⟨(cellAt l q).f0, wrap64 ((cellAt l q).f1 + 1)⟩] rfl M (by omega) (ih (by omega)) 4 0 out op rfl ho (fun x hx => hop x (List.mem_cons_of_mem _ hx)) (by omega)
      refine ⟨r, r1, Ev.step (f := fun _ => _) (fun k => by simp only [spec_l02Parts.l2]; rfl) ?_⟩
      refine ev_pos (by simp only [List.length_cons]; omega) (ev_pos (by simp only [List.length_cons]; omega) ?_)
      rw [show rd ((q : Int) :: op) 0 = (q : Int) from rfl]
      exact ev_pos (by omega) (ev_pos (by omega) (ev_some rfl (ev_pos (by simp only [List.length_cons]; omega) r2)))
theorem pt1 (l : List S78) (hl : l.length ≤ 300000) (d : Nat) : ∀ (i : Nat) (out : List Int), i + d = l.length → out.length = l.length → ∃ r, r.length = l.length ∧ Ev (fun k => spec_l02Parts.l1 k l out i) r := by
  induction d with
  | zero =>
    intro i out hi ho
    exact ⟨out, ho, Ev.step (f := fun _ => _) (fun k => by simp only [spec_l02Parts.l1]; rfl) (by exact ev_neg (by omega) (ev_const rfl))⟩
  | succ d ih =>
    intro i out hi ho
    by_cases h0 : rd out (i : Int) ≥ 0
    · obtain ⟨r, r1, r2⟩ := ih (i + 1) out (by omega) ho
      refine ⟨r, r1, Ev.step (f := fun _ => _) (fun k => by simp only [spec_l02Parts.l1]; rfl) ?_⟩
      refine ev_pos (by omega) (ev_pos (by omega) (ev_pos (by omega) (ev_pos h0 ?_)))
      rw [wrap_succ i (by omega)]
      exact r2
    · have hcount : negs (out.set i (i : Int)) ≤ (out.set i (i : Int)).length := List.countP_le_length
      rw [List.length_set] at hcount
      obtain ⟨r, r1, r2⟩ := pt2 l hl i (by omega) (fun o ho' => ih (i + 1) o (by omega) ho') (1 + 2 * l.length) (by omega) (out.set i (i : Int)) [(i : Int)] (by simpa using ho) (fun q hq => by rw [List.mem_singleton.1 hq]; omega) (by simp only [List.length_cons, List.length_nil]; omega)
      refine ⟨r, r1, Ev.step (f := fun _ => _) (fun k => by simp only [spec_l02Parts.l1]; rfl) ?_⟩
      refine ev_pos (by omega) (ev_pos (by omega) (ev_pos (by omega) (ev_neg h0 ?_)))
      rw [Int.toNat_natCast]
      exact r2
theorem pt0 (l : List S78) (hl : l.length ≤ 300000) (r : List Int) (h : Ev (fun k => spec_l02Parts.l1 k l (List.replicate l.length (-1)) 0) r) (d : Nat) : ∀ n : Nat, n + d = l.length → Ev (fun k => spec_l02Parts.l0 k l (List.replicate n (-1)) n) r := by
  induction d with
  | zero =>
    intro n hn
    obtain rfl : n = l.length := by omega
    exact Ev.step (f := fun _ => _) (fun k => by simp only [spec_l02Parts.l0]; rfl) (by exact ev_neg (by omega) h)
  | succ d ih =>
    intro n hn
    refine Ev.step (f := fun _ => _) (fun k => by simp only [spec_l02Parts.l0]; rfl) ?_
    refine ev_pos (by omega) (ev_pos (by simp; omega) ?_)
    rw [wrap_succ n (by omega), show List.replicate n (-1 : Int) ++ [-1] = List.replicate (n + 1) (-1) from List.replicate_succ'.symm]
    exact ih (n + 1) (by omega)
theorem parts_any (l : List S78) (hl : l.length ≤ 300000) : ∃ r, r.length = l.length ∧ Ev (fun k => spec_l02Parts.f k l) r := by
  obtain ⟨r, r1, r2⟩ := pt1 l hl l.length 0 (List.replicate l.length (-1)) (by omega) (by simp)
  exact ⟨r, r1, pt0 l hl r r2 l.length 0 (by omega)⟩
/-! Holes. -/
theorem hole3 (l : List S78) (hl : l.length ≤ 300000) (ps : List Int) (hps : ps.length = l.length) (acc : List (List S78)) (hacc : acc.length ≤ 400000) (i : Nat)
    (hk : ∀ o : List (List S78), o.length ≤ acc.length + 1 → ∃ r, Ev (fun k => spec_l06Holes.l2 k l ps o (wrap64 ((i : Int) + 1))) r) (d : Nat) : ∀ (n : Nat) (cs : List S78), n + d = l.length → cs.length ≤ n → ∃ r, Ev (fun k => spec_l06Holes.l3 k l ps acc i cs n) r := by
  induction d with
  | zero =>
    intro n cs hn hc
    obtain ⟨r, hr⟩ := hk (acc ++ [cs]) (by simp)
    exact ⟨r, Ev.step (f := fun _ => _) (fun k => by simp only [spec_l06Holes.l3]; rfl) (by exact ev_neg (by omega) (ev_pos (by omega) hr))⟩
  | succ d ih =>
    intro n cs hn hc
    by_cases c : rd ps (n : Int) = (i : Int)
    · obtain ⟨r, hr⟩ := ih (n + 1) (cs ++ [(⟨(rd_T78 l (n : Int)).f0, (rd_T78 l (n : Int)).f1⟩ : S78)]) (by omega) (by simp; omega)
      refine ⟨r, Ev.step (f := fun _ => _) (fun k => by simp only [spec_l06Holes.l3]; rfl) ?_⟩
      refine ev_pos (by omega) (ev_pos (by omega) (ev_pos (by omega) (ev_pos c (ev_pos (by omega) ?_))))
      rw [wrap_succ n (by omega)]
      exact hr
    · obtain ⟨r, hr⟩ := ih (n + 1) cs (by omega) (by omega)
      refine ⟨r, Ev.step (f := fun _ => _) (fun k => by simp only [spec_l06Holes.l3]; rfl) ?_⟩
      refine ev_pos (by omega) (ev_pos (by omega) (ev_pos (by omega) (ev_neg c ?_)))
      rw [wrap_succ n (by omega)]
      exact hr
theorem hole2 (l : List S78) (hl : l.length ≤ 300000) (ps : List Int) (hps : ps.length = l.length) (d : Nat) : ∀ (n : Nat) (acc : List (List S78)), l.length ≤ n + d → 1 ≤ n → n ≤ 400000 → acc.length ≤ n → ∃ r, Ev (fun k => spec_l06Holes.l2 k l ps acc n) r := by
  induction d with
  | zero =>
    intro n acc hn h1 h2 hc
    exact ⟨acc, Ev.step (f := fun _ => _) (fun k => by simp only [spec_l06Holes.l2]; rfl) (by exact ev_neg (by omega) (ev_const rfl))⟩
  | succ d ih =>
    intro n acc hn h1 h2 hc
    by_cases e : n < l.length
    · by_cases c : rd ps (n : Int) = (n : Int)
      · obtain ⟨r, hr⟩ := hole3 l hl ps hps acc (by omega) n (fun o ho => by
          rw [wrap_succ n (by omega)]
          exact ih (n + 1) o (by omega) (by omega) (by omega) (by omega)) (l.length - n) n [] (by omega) (by simp)
        exact ⟨r, Ev.step (f := fun _ => _) (fun k => by simp only [spec_l06Holes.l2]; rfl) (by exact ev_pos (by omega) (ev_pos (by omega) (ev_pos (by omega) (ev_pos c hr))))⟩
      · obtain ⟨r, hr⟩ := ih (n + 1) acc (by omega) (by omega) (by omega) (by omega)
        refine ⟨r, Ev.step (f := fun _ => _) (fun k => by simp only [spec_l06Holes.l2]; rfl) ?_⟩
        refine ev_pos (by omega) (ev_pos (by omega) (ev_pos (by omega) (ev_neg c ?_)))
        rw [wrap_succ n (by omega)]
        exact hr
    · exact ⟨acc, Ev.step (f := fun _ => _) (fun k => by simp only [spec_l06Holes.l2]; rfl) (by exact ev_neg (by omega) (ev_const rfl))⟩
theorem hole1 (l : List S78) (hl : l.length ≤ 1000) (x0 y0 w h : Int) (hx : -300 ≤ x0 ∧ x0 ≤ 300) (hw : 0 ≤ w ∧ w ≤ 300) (B : Nat) (hB : B ≤ 300000) (y : Int)
    (hk : ∀ o : List S78, o.length ≤ B + 700 → ∃ r, Ev (fun k => spec_l06Holes.l0 k l x0 y0 w h o (wrap64 (y + 1))) r) (d : Nat) : ∀ (x : Int) (o : List S78), x + d = x0 + w + 1 → -400 ≤ x → d ≤ 700 → o.length + d ≤ B + 700 → ∃ r, Ev (fun k => spec_l06Holes.l1 k l x0 y0 w h o y x) r := by
  have e1 : wrap64 (x0 + w) = x0 + w := wrap_id _ (by omega) (by omega)
  induction d with
  | zero =>
    intro x o hxd h1 h2 ho
    obtain ⟨r, hr⟩ := hk o (by omega)
    exact ⟨r, Ev.step (f := fun _ => _) (fun k => by simp only [spec_l06Holes.l1]; rfl) (by exact ev_neg (by omega) hr)⟩
  | succ d ih =>
    intro x o hxd h1 h2 ho
    obtain ⟨v, v1, v2, v3⟩ := index_gen l (by omega) x y
    have e2 : wrap64 (x + 1) = x + 1 := wrap_id _ (by omega) (by omega)
    by_cases c : v < 0
    · obtain ⟨r, hr⟩ := ih (x + 1) (o ++ [(⟨x, y⟩ : S78)]) (by omega) (by omega) (by omega) (by simp; omega)
      refine ⟨r, Ev.step (f := fun _ => _) (fun k => by simp only [spec_l06Holes.l1]; rfl) ?_⟩
      refine ev_pos (by omega) (Ev.bind v1 (ev_pos c (ev_pos (by omega) ?_)))
      rw [e2]
      exact hr
    · obtain ⟨r, hr⟩ := ih (x + 1) o (by omega) (by omega) (by omega) (by omega)
      refine ⟨r, Ev.step (f := fun _ => _) (fun k => by simp only [spec_l06Holes.l1]; rfl) ?_⟩
      refine ev_pos (by omega) (Ev.bind v1 (ev_neg c ?_))
      rw [e2]
      exact hr
theorem hole0 (l : List S78) (hl : l.length ≤ 1000) (x0 y0 w h : Int) (hx : -300 ≤ x0 ∧ x0 ≤ 300) (hy : -300 ≤ y0 ∧ y0 ≤ 300) (hw : 0 ≤ w ∧ w ≤ 300) (hh : 0 ≤ h ∧ h ≤ 300) (d : Nat) : ∀ (y : Int) (o : List S78), y + d = y0 + h + 1 → -400 ≤ y → d ≤ 350 → o.length + 700 * d ≤ 300000 → ∃ r, Ev (fun k => spec_l06Holes.l0 k l x0 y0 w h o y) r := by
  have e1 : wrap64 (y0 + h) = y0 + h := wrap_id _ (by omega) (by omega)
  have e3 : wrap64 (x0 - 1) = x0 - 1 := wrap_id _ (by omega) (by omega)
  induction d with
  | zero =>
    intro y o hyd h1 h2 ho
    obtain ⟨ps, p1, p2⟩ := parts_any o (by omega)
    obtain ⟨r, hr⟩ := hole2 o (by omega) ps p1 o.length 1 [] (by omega) (by omega) (by omega) (by simp)
    exact ⟨r, Ev.step (f := fun _ => _) (fun k => by simp only [spec_l06Holes.l0]; rfl) (by exact ev_neg (by omega) (Ev.bind p2 hr))⟩
  | succ d ih =>
    intro y o hyd h1 h2 ho
    have e2 : wrap64 (y + 1) = y + 1 := wrap_id _ (by omega) (by omega)
    obtain ⟨r, hr⟩ := hole1 l hl x0 y0 w h hx hw o.length (by omega) y (fun o' ho' => by
      rw [e2]
      exact ih (y + 1) o' (by omega) (by omega) (by omega) (by omega)) (w + 2).toNat (x0 - 1) o (by omega) (by omega) (by omega) (by omega)
    refine ⟨r, Ev.step (f := fun _ => _) (fun k => by simp only [spec_l06Holes.l0]; rfl) ?_⟩
    refine ev_pos (by omega) ?_
    rw [e3]
    exact hr
theorem holes_some (l : List S78) (hp : Shp l) : ∃ r, Ev (fun k => spec_l06Holes.f k l) r := by
  have hle := hp.le
  have hmin := hp.least
  have hmax := hp.most
  have h0 := cell_mem l 0 hp.pos
  have g1 := (minF_le (·.f0) l (cellAt l 0).f0).2 _ h0
  have g2 := (minF_le (·.f1) l (cellAt l 0).f1).2 _ h0
  have g3 := (maxF_ge (·.f0) l (cellAt l 0).f0).2 _ h0
  have g4 := (maxF_ge (·.f1) l (cellAt l 0).f1).2 _ h0
  have w0 := hp.near _ h0
  have w1 : 0 ≤ maxX l - minX l + 1 ∧ maxX l - minX l + 1 ≤ 300 := by unfold maxX minX at *; omega
  have w2 : 0 ≤ maxY l - minY l + 1 ∧ maxY l - minY l + 1 ≤ 300 := by unfold maxY minY at *; omega
  have e1 : wrap64 (minY l - 1) = minY l - 1 := wrap_id _ (by omega) (by omega)
  obtain ⟨r, hr⟩ := hole0 l (by omega) (minX l) (minY l) (maxX l - minX l + 1) (maxY l - minY l + 1) (by omega) (by omega) w1 w2 (maxY l - minY l + 3).toNat (minY l - 1) [] (by omega) (by omega) (by omega) (by simp; omega)
  refine ⟨r, Ev.bind (least_val l (by unfold maxLen; omega) hp.pos) (Ev.bind (ssize_val l hp) ?_)⟩
  rw [e1]
  exact hr
theorem plain_some (l : List S78) (hl : l.length ≤ 1000) : ∃ b, Ev (fun k => spec_IsPlain.f k l) b ∧ (b = true → Shape l ∧ Shp l) := by
  have hm : l.length ≤ maxLen := by unfold maxLen; omega
  have h2 := spec_shape_val l hm
  cases hsb : isShapeB l with
  | false =>
    rw [hsb] at h2
    exact ⟨false, Ev.bind (Ev.bind h2 (ev_neg (by simp) (ev_const rfl))) (ev_neg (by simp) (ev_const rfl)), fun h => by cases h⟩
  | true =>
    have hs := shape_of l hsb
    have hp := (shp_iff l).1 hsb
    obtain ⟨c, _, c2, _⟩ := connected_both l hm
    cases c with
    | false => exact ⟨false, Ev.bind c2 (ev_neg (by simp) (ev_const rfl)), fun h => by cases h⟩
    | true =>
      by_cases h0 : codeS l = 0
      · obtain ⟨t, ht⟩ := touch_some l hs l.length 0 (by omega)
        cases t with
        | true => exact ⟨false, Ev.bind c2 (ev_pos rfl (Ev.bind (scodeS_val l hm) (ev_pos h0 (Ev.bind ht (ev_pos rfl (ev_const rfl)))))), fun h => by cases h⟩
        | false =>
          obtain ⟨r, hr⟩ := holes_some l hp
          exact ⟨(r.length : Int) == 0, Ev.bind c2 (ev_pos rfl (Ev.bind (scodeS_val l hm) (ev_pos h0 (Ev.bind ht (ev_neg (by simp) (Ev.bind hr (ev_const rfl))))))), fun _ => ⟨hs, hp⟩⟩
      · exact ⟨false, Ev.bind c2 (ev_pos rfl (Ev.bind (scodeS_val l hm) (ev_neg h0 (ev_const rfl)))), fun h => by cases h⟩
/-! The drawn word. -/
theorem fill_some (code : List Int) (d : Nat) : ∀ (t : ByteArray) (p seed : Int), 202 ≤ t.size + d → t.size ≤ 300 → St code p seed → ∃ t' p' s', Ev (fun k => spec_l23Draw.l1 k t code p seed) (t', p', s') ∧ t'.size ≤ 1000 := by
  induction d with
  | zero =>
    intro t p seed hd ht hS
    obtain ⟨x, p1, s1, e1, S1, a1, b1, _⟩ := next_some code p seed 2 hS
    have hb := b1 (by omega)
    exact ⟨t, p1, s1, Ev.step (f := fun _ => _) (fun k => by simp only [spec_l23Draw.l1]; rfl) (by exact ev_some e1 (ev_neg (by show ¬ ((t.size : Int) < wrap64 (200 + x)); rw [wrap_id (200 + x) (by omega) (by omega)]; omega) (ev_const rfl))), by omega⟩
  | succ d ih =>
    intro t p seed hd ht hS
    obtain ⟨x, p1, s1, e1, S1, a1, b1, _⟩ := next_some code p seed 2 hS
    have hb := b1 (by omega)
    by_cases c : (t.size : Int) < 200 + x
    · obtain ⟨t', p', s', h1, h2⟩ := ih (t ++ (⟨#[114]⟩ : ByteArray)) p1 s1 (by rw [ByteArray.size_append]; show 202 ≤ t.size + 1 + d; omega) (by rw [ByteArray.size_append]; show t.size + 1 ≤ 300; omega) S1
      exact ⟨t', p', s', Ev.step (f := fun _ => _) (fun k => by simp only [spec_l23Draw.l1]; rfl) (by exact ev_some e1 (ev_pos (by show (t.size : Int) < wrap64 (200 + x); rw [wrap_id (200 + x) (by omega) (by omega)]; exact c) (ev_pos (by omega) h1))), h2⟩
    · exact ⟨t, p1, s1, Ev.step (f := fun _ => _) (fun k => by simp only [spec_l23Draw.l1]; rfl) (by exact ev_some e1 (ev_neg (by show ¬ ((t.size : Int) < wrap64 (200 + x)); rw [wrap_id (200 + x) (by omega) (by omega)]; exact c) (ev_const rfl))), by omega⟩
theorem letters_some (code : List Int) (d : Nat) : ∀ (t : ByteArray) (p seed : Int), t.size + d ≤ 100 → St code p seed → ∃ t' p' s', Ev (fun k => spec_l23Draw.l0 k t d code p seed) (t', p', s') ∧ t'.size ≤ 1000 := by
  induction d with
  | zero =>
    intro t p seed ht hS
    obtain ⟨x, p1, s1, e1, S1, _⟩ := next_some code p seed 12 hS
    by_cases c0 : x = 0
    · exact ⟨t ++ (⟨#[120]⟩ : ByteArray), p1, s1, Ev.step (f := fun _ => _) (fun k => by simp only [spec_l23Draw.l0]; rfl) (by exact ev_neg (by omega) (ev_some e1 (ev_pos c0 (ev_pos (by omega) (ev_const rfl))))), by rw [ByteArray.size_append]; show t.size + 1 ≤ 1000; omega⟩
    · by_cases c1 : x = 1
      · obtain ⟨t', p', s', h1, h2⟩ := fill_some code 202 t p1 s1 (by omega) (by omega) S1
        exact ⟨t', p', s', Ev.step (f := fun _ => _) (fun k => by simp only [spec_l23Draw.l0]; rfl) (by exact ev_neg (by omega) (ev_some e1 (ev_neg c0 (ev_pos c1 h1)))), h2⟩
      · exact ⟨t, p1, s1, Ev.step (f := fun _ => _) (fun k => by simp only [spec_l23Draw.l0]; rfl) (by exact ev_neg (by omega) (ev_some e1 (ev_neg c0 (ev_neg c1 (ev_const rfl))))), by omega⟩
  | succ d ih =>
    intro t p seed ht hS
    obtain ⟨x, p1, s1, e1, S1, a1, b1, _⟩ := next_some code p seed 4 hS
    have hb := b1 (by omega)
    have hz : (rdOf ByteArray.empty [(⟨#[114]⟩ : ByteArray), (⟨#[100]⟩ : ByteArray), (⟨#[108]⟩ : ByteArray), (⟨#[117]⟩ : ByteArray)] x).size = 1 := by
      rcases (by omega : x = 0 ∨ x = 1 ∨ x = 2 ∨ x = 3) with rfl | rfl | rfl | rfl <;> rfl
    obtain ⟨t', p', s', h1, h2⟩ := ih (t ++ rdOf ByteArray.empty [(⟨#[114]⟩ : ByteArray), (⟨#[100]⟩ : ByteArray), (⟨#[108]⟩ : ByteArray), (⟨#[117]⟩ : ByteArray)] x) p1 s1 (by rw [ByteArray.size_append, hz]; omega) S1
    refine ⟨t', p', s', Ev.step (f := fun _ => _) (fun k => by simp only [spec_l23Draw.l0]; rfl) ?_, h2⟩
    refine ev_pos (by omega) (ev_some rfl (ev_some e1 (ev_pos a1 (ev_pos (by show x < 4; exact hb) (ev_pos (by rw [hz]; omega) ?_)))))
    rw [show wrap64 (((d + 1 : Nat) : Int) - 1) = (d : Int) from by rw [wrap_id _ (by omega) (by omega)]; omega]
    exact h1
theorem draw_word (code : List Int) (p seed : Int) (hS : St code p seed) : ∃ t p' s', Ev (fun k => spec_l23Draw.f k code p seed) (t, p', s') ∧ t.size ≤ 1000 := by
  obtain ⟨x, p1, s1, e1, S1, a1, b1, _⟩ := next_some code p seed 3 hS
  have J : ∀ p s, St code p s → ∃ t p' s', Ev (fun k => spec_l23Draw.j0 k code p s) (t, p', s') ∧ t.size ≤ 1000 := fun p s hS => by
    obtain ⟨y, p2, s2, e2, S2, a2, b2, _⟩ := next_some code p s 12 hS
    have := b2 (by omega)
    obtain ⟨n, rfl⟩ := Int.eq_ofNat_of_zero_le a2
    obtain ⟨t, p', s', h1, h2⟩ := letters_some code n (⟨#[]⟩ : ByteArray) p2 s2 (by show 0 + n ≤ 100; omega) S2
    exact ⟨t, p', s', Ev.step (f := fun _ => _) (fun k => by simp only [spec_l23Draw.j0]; rfl) (by exact ev_some e2 h1), h2⟩
  by_cases c : x > 0
  · obtain ⟨l, p2, s2, h1, S2, n1, n2, _⟩ := poly_val code p1 s1 S1 8 (by omega)
    obtain ⟨b, b1, b2⟩ := plain_some l (by omega)
    cases b with
    | true =>
      obtain ⟨r, r1, r2⟩ := word_some l (b2 rfl).1 (b2 rfl).2
      exact ⟨r, p2, s2, ev_some e1 (ev_pos c (Ev.bind h1 (Ev.bind b1 (ev_pos rfl (Ev.bind r2 (ev_const rfl)))))), r1⟩
    | false =>
      obtain ⟨t, p', s', j1, j2⟩ := J p2 s2 S2
      exact ⟨t, p', s', ev_some e1 (ev_pos c (Ev.bind h1 (Ev.bind b1 (ev_neg (by simp) j1)))), j2⟩
  · obtain ⟨t, p', s', j1, j2⟩ := J p1 s1 S1
    exact ⟨t, p', s', ev_some e1 (ev_neg c j1), j2⟩
theorem likeInts_loop (xs : List Int) (hm : xs.length ≤ 1000000) (d : Nat) : ∀ (n : Nat), n + d = xs.length → Ev (fun k => laws_likeInts.l0 k xs xs n) true := by
  induction d with
  | zero =>
    intro n hd
    exact Ev.step (f := fun _ => _) (fun k => by simp only [laws_likeInts.l0]; rfl) (ev_neg (by omega) (ev_const rfl))
  | succ d ih =>
    intro n hd
    refine Ev.step (f := fun _ => _) (fun k => by simp only [laws_likeInts.l0]; rfl) (ev_pos (by omega) (ev_pos (by omega) (ev_pos (by omega) (ev_pos (show rd xs (n : Int) = rd xs (n : Int) from rfl) ?_))))
    rw [wrap_succ n (by omega)]
    exact ih (n + 1) (by omega)
theorem likeInts_val (xs : List Int) (hm : xs.length ≤ 1000000) : Ev (fun k => laws_likeInts.f k xs xs) true := ev_pos rfl (likeInts_loop xs hm xs.length 0 (by omega))
/-! The order of a word: one to four. -/
def firstD : Die := (0, 1, 2)
theorem firstD_ok : ok firstD := ⟨⟨by decide, by decide⟩, ⟨by decide, by decide⟩, by decide, by decide⟩
def L24 : List Die := [(0, 1, 2), (1, 5, 2), (2, 1, 5), (4, 0, 2), (3, 1, 0), (5, 4, 2), (2, 5, 4), (3, 5, 1), (1, 3, 5), (5, 1, 3), (4, 2, 5), (2, 0, 1), (3, 0, 4), (1, 2, 0), (4, 3, 0), (2, 4, 0), (3, 4, 5), (5, 3, 4), (4, 5, 3), (0, 2, 4), (5, 2, 1), (0, 3, 1), (1, 0, 3), (0, 4, 3)]
theorem L24_closed : L24.all (fun d => ([114, 100, 108, 117] : List Int).all (fun c => decide (act (rollT c) d ∈ L24))) = true := by decide +kernel
theorem rollT_four (c : Int) : rollT c = rollT 114 ∨ rollT c = rollT 100 ∨ rollT c = rollT 108 ∨ rollT c = rollT 117 := by
  by_cases h1 : c = 114
  · exact .inl (by rw [h1])
  · by_cases h2 : c = 100
    · exact .inr (.inl (by rw [h2]))
    · by_cases h3 : c = 108
      · exact .inr (.inr (.inl (by rw [h3])))
      · refine .inr (.inr (.inr ?_))
        unfold rollT
        rw [if_neg h1, if_neg h2, if_neg h3]
        rfl
theorem roll_24 (c : Int) (d : Die) (hd : d ∈ L24) : act (rollT c) d ∈ L24 := by
  have h := List.all_eq_true.1 L24_closed d hd
  have h2 : ∀ e ∈ ([114, 100, 108, 117] : List Int), act (rollT e) d ∈ L24 := fun e he => of_decide_eq_true (List.all_eq_true.1 h e he)
  rcases rollT_four c with e | e | e | e <;> rw [e]
  · exact h2 114 (by simp)
  · exact h2 100 (by simp)
  · exact h2 108 (by simp)
  · exact h2 117 (by simp)
theorem wordT_cons (c : UInt8) (l : List UInt8) (d : Die) : act (wordT (c :: l)) d = act (wordT l) (act (rollT (c.toNat : Int)) d) := (act_comp _ _ _).symm
theorem wordT_24 : ∀ (l : List UInt8) (d : Die), d ∈ L24 → act (wordT l) d ∈ L24
  | [], d, h => h
  | c :: l, d, h => by
    rw [wordT_cons]
    exact wordT_24 l _ (roll_24 _ d h)
def itD (t : Turn) : Nat → Die
  | 0 => firstD
  | n + 1 => act t (itD t n)
theorem order4 : ∀ (a b c : Fin 3) (x y z : Bool), good ((a, x), (b, y), (c, z)) = true → decide (act ((a, x), (b, y), (c, z)) firstD ∈ L24) = true → (decide (itD ((a, x), (b, y), (c, z)) 1 = firstD) || (decide (itD ((a, x), (b, y), (c, z)) 2 = firstD) || (decide (itD ((a, x), (b, y), (c, z)) 3 = firstD) || decide (itD ((a, x), (b, y), (c, z)) 4 = firstD)))) = true := by decide +kernel
theorem order_of (l : List UInt8) : ∃ j, j ≤ 3 ∧ itD (wordT l) (1 + j) = firstD := by
  have h := order4 _ _ _ _ _ _ (wordT_good l) (decide_eq_true (wordT_24 l firstD (by decide)))
  simp only [Bool.or_eq_true, decide_eq_true_eq] at h
  rcases h with h | h | h | h
  · exact ⟨0, by omega, h⟩
  · exact ⟨1, by omega, h⟩
  · exact ⟨2, by omega, h⟩
  · exact ⟨3, by omega, h⟩
theorem itD_ok (t : Turn) : ∀ n, ok (itD t n)
  | 0 => firstD_ok
  | n + 1 => act_ok (itD_ok t n) t
theorem order_loop (a : ByteArray) (hm : a.size ≤ 140737488351232) (j : Nat) : ∀ (c : Nat), c + j ≤ 4 → itD (wordT a.data.toList) (c + j) = firstD →
    ∃ m : Nat, c ≤ m ∧ m ≤ c + j ∧ itD (wordT a.data.toList) m = firstD ∧ Ev (fun k => spec_RollOrder.l0 k a c 0 1 2 (itD (wordT a.data.toList) c).1 (itD (wordT a.data.toList) c).2.1 (itD (wordT a.data.toList) c).2.2) ((m : Int), 0) ∧ Ev (fun k => impl_RollOrder.l0 k a c (itD (wordT a.data.toList) c).1 (itD (wordT a.data.toList) c).2.1 (itD (wordT a.data.toList) c).2.2) ((m : Int), 0) := by
  induction j with
  | zero =>
    intro c hc hp
    rw [Nat.add_zero] at hp
    rw [hp]
    exact ⟨c, by omega, by omega, hp, Ev.step (f := fun _ => _) (fun k => by simp only [spec_RollOrder.l0]; rfl) (ev_neg (by decide) (ev_const rfl)), Ev.step (f := fun _ => _) (fun k => by simp only [impl_RollOrder.l0]; rfl) (ev_neg (by decide) (ev_const rfl))⟩
  | succ j ih =>
    intro c hc hp
    have hx := itD_ok (wordT a.data.toList) c
    by_cases q : (!((itD (wordT a.data.toList) c).1 == 0) || (!((itD (wordT a.data.toList) c).2.1 == 1) || (!((itD (wordT a.data.toList) c).2.2 == 2)))) = true
    · obtain ⟨m, m1, m2, m3, h1, h2⟩ := ih (c + 1) (by omega) (by rw [show c + 1 + j = c + (j + 1) by omega]; exact hp)
      have hw : wrap64 ((c : Int) + 1) = ((c + 1 : Nat) : Int) := wrap_succ c (by omega)
      refine ⟨m, by omega, by omega, m3, Ev.step (f := fun _ => _) (fun k => by simp only [spec_RollOrder.l0]; rfl) (ev_pos q (Ev.bind (wordT_val a hm _ hx) ?_)), Ev.step (f := fun _ => _) (fun k => by simp only [impl_RollOrder.l0]; rfl) (ev_pos q (Ev.bind (wordT_val' a hm _ hx) ?_))⟩
      · rw [hw]; exact h1
      · rw [hw]; exact h2
    · have he : itD (wordT a.data.toList) c = firstD := by
        simp only [Bool.or_eq_true, Bool.not_eq_true', not_or, Bool.not_eq_false, beq_iff_eq] at q
        exact Prod.ext q.1 (Prod.ext q.2.1 q.2.2)
      exact ⟨c, by omega, by omega, he, Ev.step (f := fun _ => _) (fun k => by simp only [spec_RollOrder.l0]; rfl) (ev_neg q (ev_const rfl)), Ev.step (f := fun _ => _) (fun k => by simp only [impl_RollOrder.l0]; rfl) (ev_neg q (ev_const rfl))⟩
/-! There and back. -/
theorem app_list (a b : ByteArray) : (a ++ b).data.toList = a.data.toList ++ b.data.toList := by
  rw [ByteArray.data_append, Array.toList_append]
theorem wordT_app : ∀ (l m : List UInt8) (d : Die), act (wordT (l ++ m)) d = act (wordT m) (act (wordT l) d)
  | [], m, d => rfl
  | c :: l, m, d => by
    rw [List.cons_append, wordT_cons, wordT_cons, wordT_app l m]
def oppU (b : UInt8) : UInt8 := UInt8.ofNat (turnI (b.toNat : Int)).toNat
theorem opp_letter (b : UInt8) (h : letter b = true) : letter (oppU b) = true ∧ comp (rollT ((oppU b).toNat : Int)) (rollT (b.toNat : Int)) = one := by
  have h4 : b = 114 ∨ b = 100 ∨ b = 108 ∨ b = 117 := by
    unfold letter at h
    simpa using h
  rcases h4 with rfl | rfl | rfl | rfl <;> exact ⟨by decide, by decide⟩
theorem act_back : ∀ (l : List UInt8) (d : Die), l.all letter = true → act (wordT ((l.map oppU).reverse)) (act (wordT l) d) = d
  | [], d, _ => rfl
  | c :: l, d, h => by
    rw [List.all_cons, Bool.and_eq_true] at h
    rw [List.map_cons, List.reverse_cons, wordT_app, wordT_cons c, act_back l _ h.2]
    show act (comp one (rollT ((oppU c).toNat : Int))) (act (rollT (c.toNat : Int)) d) = d
    rw [← act_comp, act_one]
    rw [act_comp, (opp_letter c h.1).2]
    rfl
theorem back_list (a : ByteArray) : (backB a).data.toList = (a.data.toList.map oppU).reverse := by
  show ((turnB a).data.reverse).toList = _
  rw [Array.toList_reverse]
  congr 1
  show ((((bytesI a).map turnI).map fun n => UInt8.ofNat n.toNat).toArray).toList = _
  unfold bytesI
  rw [List.map_map, List.map_map]
  rfl
theorem all_back (l : List UInt8) (h : l.all letter = true) : ((l.map oppU).reverse).all letter = true := by
  rw [List.all_eq_true] at h ⊢
  intro x hx
  obtain ⟨y, hy, rfl⟩ := List.mem_map.1 (List.mem_reverse.1 hx)
  exact (opp_letter y (h y hy)).1
theorem rollw_val (a : ByteArray) (hm : a.size ≤ 200) (h : a.data.toList.all letter = true) : Ev (fun k => impl_RollWord.f k a) ((act (wordT a.data.toList) firstD).1, 0) := by
  have hi := isWord_val a
  rw [h, decide_eq_true (show (a.size : Int) ≤ 200 by omega)] at hi
  exact ev_some hi (ev_pos rfl (Ev.bind (wordT_val' a (by omega) firstD firstD_ok) (ev_const rfl)))
theorem whole_loop (a : ByteArray) (hs : a.size ≤ 50) (h : a.data.toList.all letter = true) (m : Nat) (hm : 1 ≤ m) (hm4 : m ≤ 4) (he : itD (wordT a.data.toList) m = firstD) (d : Nat) : ∀ (i : Nat) (t : ByteArray), i + d = m → t.size = i * a.size → t.data.toList.all letter = true → act (wordT t.data.toList) firstD = itD (wordT a.data.toList) i → Ev (fun k => laws_FnRolled.l0 k a m m 1 0 t i) true := by
  induction d with
  | zero =>
    intro i t hi ht hl hd
    obtain rfl : i = m := by omega
    have hsz : t.size ≤ 200 := by
      rw [ht]
      have := Nat.mul_le_mul hm4 hs
      omega
    have hr := rollw_val t hsz hl
    rw [hd, he] at hr
    exact Ev.step (f := fun _ => _) (fun k => by simp only [laws_FnRolled.l0]; rfl) (by exact ev_neg (by omega) (Ev.bind hr (ev_pos (by first | rfl | trivial) (ev_pos (by first | rfl | trivial) (ev_pos (by first | rfl | trivial) (ev_pos (by omega) (ev_pos (by omega) (ev_const rfl))))))))
  | succ d ih =>
    intro i t hi ht hl hd
    have hsz : t.size ≤ 200 := by
      rw [ht]
      have := Nat.mul_le_mul (show i ≤ 4 by omega) hs
      omega
    refine Ev.step (f := fun _ => _) (fun k => by simp only [laws_FnRolled.l0]; rfl) ?_
    refine ev_pos (by omega) (ev_pos (by omega) (ev_pos (by omega) ?_))
    rw [wrap_succ i (by omega)]
    refine ih (i + 1) (t ++ a) (by omega) (by rw [ByteArray.size_append, ht, Nat.succ_mul]) (by rw [app_list, List.all_append, hl, h]; rfl) ?_
    rw [app_list, wordT_app, hd]
    rfl
theorem touch_both (a b : Int) : ∃ r, impl_TouchingFaces.f a b = some r ∧ spec_TouchingFaces.f a b = some r := by
  unfold impl_TouchingFaces.f spec_TouchingFaces.f
  rw [within_valC, within_valC, in_valC, in_valC]
  simp only [Option.bind_some]
  split
  · split
    · split
      · exact ⟨_, rfl, rfl⟩
      · exact ⟨_, rfl, rfl⟩
    · exact ⟨_, rfl, rfl⟩
  · exact ⟨_, rfl, rfl⟩
theorem facesof_both (l : List S78) (hl : l.length ≤ maxLen) : ∃ p : List Int × Int, p.1.length ≤ 1000 ∧ Ev (fun k => impl_FacesOf.f k l) p ∧ Ev (fun k => spec_FacesOf.f k l) p := by
  obtain ⟨c, c1, c2, c3⟩ := connected_both l hl
  cases c with
  | false => exact ⟨([], 1), by simp, Ev.bind c1 (ev_neg (by simp) (ev_const rfl)), Ev.bind c2 (ev_neg (by simp) (ev_const rfl))⟩
  | true =>
    obtain ⟨F, f1, f2, f3⟩ := faces_both l (c3 rfl)
    exact ⟨(F, 0), by have := (c3 rfl).le; simp only []; omega, Ev.bind c1 (ev_pos rfl (Ev.bind f2 (ev_const rfl))), Ev.bind c2 (ev_pos rfl (Ev.bind f3 (ev_const rfl)))⟩
theorem FnRolled (l : List Int) (hm : l.length ≤ maxLen) (_ : l.length * 1 ≤ 140737488351232) (hg : ∀ x ∈ l, (Lit.int .u8 x).wf = true) : ∃ k, laws_FnRolled.f k l = some true := by
  refine Ev.rounds (g := fun k => laws_FnRolled.f k l) ?_
  have hbyte : ∀ x ∈ l, 0 ≤ x ∧ x ≤ 255 := fun x hx => by
    have := hg x hx
    simp [Lit.wf, IntKind.has, IntKind.min, IntKind.max, IntKind.bits, IntKind.signed] at this
    omega
  refine ev_some (a := decide ((l.length : Int) > 4096)) rfl ?_
  by_cases hbig : (l.length : Int) > 4096
  · exact ev_pos (decide_eq_true hbig) (ev_const rfl)
  · refine ev_neg (by simpa using hbig) ?_
    have hl : l.length ≤ 4096 := by omega
    obtain ⟨s0, f0, S0⟩ := from_some l hbyte hl
    obtain ⟨w, p1, s1, f1, n1⟩ := draw_word l 0 s0 S0
    obtain ⟨x1, p2, s2, e1, S2, _⟩ := next_some l 0 s0 7 S0
    obtain ⟨x2, p3, s3, e2, S3, _⟩ := next_some l p2 s2 12 S2
    obtain ⟨x3, p4, s4, e3, S4, _⟩ := next_some l p3 s3 7 S3
    obtain ⟨x4, p5, s5, e4, S5, _⟩ := next_some l p4 s4 12 S4
    obtain ⟨t, t1, t2⟩ := touch_both (wrap64 (x1 - (wrap64 (Int.tdiv x2 11)))) (wrap64 (x3 - (wrap64 (Int.tdiv x4 11))))
    obtain ⟨sh, p6, s6, f6, S6, n6⟩ := draw_shape l 0 s0 S0
    obtain ⟨F, g1, g2, g3⟩ := facesof_both sh (by unfold maxLen; omega)
    have hm' : w.size ≤ 140737488351232 := by omega
    have hsp := word_val w hm'
    have him := isWord_val w
    have hD : Ev (fun k => spec_DrawRollOrder.f k l) w := Ev.bind f0 (Ev.bind f1 (ev_const rfl))
    have hT : Ev (fun k => spec_DrawTouchingFaces.f k l) (wrap64 (x1 - (wrap64 (Int.tdiv x2 11))), wrap64 (x3 - (wrap64 (Int.tdiv x4 11)))) := Ev.bind f0 (ev_some e1 (ev_some e2 (ev_some e3 (ev_some e4 (ev_const rfl)))))
    have hF : Ev (fun k => spec_DrawFacesOf.f k l) sh := Ev.bind f0 (Ev.bind f6 (ev_const rfl))
    have hbb : ¬ ((t.1 != t.1) = true) := by simp
    cases hb : (w.data.toList.all letter && decide ((w.size : Int) ≤ 200)) with
    | false =>
      rw [hb] at hsp him
      refine Ev.bind hD (Ev.bind (a := (0, 6)) (ev_some him (ev_neg (by simp) (ev_const rfl))) (Ev.bind (a := (0, 6)) (Ev.bind hsp (ev_neg (by simp) (ev_const rfl))) (Ev.bind (a := (0, 6)) (ev_some him (ev_neg (by simp) (ev_const rfl))) (Ev.bind (a := (0, 6)) (Ev.bind hsp (ev_neg (by simp) (ev_const rfl))) (Ev.bind hT (ev_some t1 (ev_some t2 (Ev.bind hF (Ev.bind g2 (Ev.bind g3 (ev_pos rfl (ev_pos rfl (ev_pos rfl (ev_pos rfl (ev_pos rfl (ev_neg hbb (ev_pos rfl (Ev.bind (likeInts_val F.1 (by omega)) ?_))))))))))))))))))
      exact Ev.step (f := fun _ => _) (fun k => by simp only [laws_FnRolled.j0]; rfl) (ev_neg (by simp) (ev_neg (show ¬ ((6 : Int) = 0) by decide) (ev_const rfl)))
    | true =>
      rw [hb] at hsp him
      rw [Bool.and_eq_true, decide_eq_true_eq] at hb
      obtain ⟨j, j1, j2⟩ := order_of w.data.toList
      obtain ⟨m, m1, m2, m3, o1, o2⟩ := order_loop w hm' j 1 (by omega) j2
      have hv := wordT_val w hm' firstD firstD_ok
      have hv' := wordT_val' w hm' firstD firstD_ok
      have hO : Ev (fun k => impl_RollOrder.f k w) ((m : Int), 0) := ev_some him (ev_pos rfl (Ev.bind hv' o2))
      have hO2 : Ev (fun k => spec_RollOrder.f k w) ((m : Int), 0) := Ev.bind hsp (ev_pos rfl (Ev.bind hv o1))
      have hR : Ev (fun k => impl_RollWord.f k w) ((act (wordT w.data.toList) firstD).1, 0) := ev_some him (ev_pos rfl (Ev.bind hv' (ev_const rfl)))
      have hR2 : Ev (fun k => spec_RollWord.f k w) ((act (wordT w.data.toList) firstD).1, 0) := Ev.bind hsp (ev_pos rfl (Ev.bind hv (ev_const rfl)))
      have hback : impl_BackWord.f w = some (backB w, 0) := by
        unfold impl_BackWord.f
        rw [him]
        simp only [Option.bind_some, if_true]
        unfold impl_backWord.f
        rw [if_pos (by omega)]
        rfl
      refine Ev.bind hD (Ev.bind hO (Ev.bind hO2 (Ev.bind hR (Ev.bind hR2 (Ev.bind hT (ev_some t1 (ev_some t2 (Ev.bind hF (Ev.bind g2 (Ev.bind g3 (ev_pos rfl (ev_pos rfl (ev_pos rfl (ev_pos rfl (ev_pos rfl (ev_neg hbb (ev_pos rfl (Ev.bind (likeInts_val F.1 (by omega)) ?_))))))))))))))))))
      refine Ev.step (f := fun _ => _) (fun k => by simp only [laws_FnRolled.j0]; rfl) (ev_neg (by simp) (ev_pos (show (0 : Int) = 0 from rfl) (ev_some hback (ev_pos (show (0 : Int) = 0 from rfl) ?_))))
      by_cases h50 : (w.size : Int) > 50
      · rw [decide_eq_true h50]
        exact Ev.step (f := fun _ => _) (fun k => by simp only [laws_FnRolled.j1]; rfl) (ev_pos trivial (ev_const rfl))
      · rw [decide_eq_false h50]
        have hbs : (backB w).size = w.size := by
          have h1 : (backB w).data.toList.length = (backB w).size := rfl
          have h2 : w.data.toList.length = w.size := rfl
          rw [← h1, back_list, List.length_reverse, List.length_map, h2]
        have hwb : (w ++ backB w).data.toList = w.data.toList ++ (w.data.toList.map oppU).reverse := by rw [app_list, back_list]
        have hall : (w ++ backB w).data.toList.all letter = true := by rw [hwb, List.all_append, hb.1, all_back _ hb.1]; rfl
        have hsz : (w ++ backB w).size ≤ 100 := by rw [ByteArray.size_append, hbs]; omega
        have hi2 := isWord_val (w ++ backB w)
        rw [hall, decide_eq_true (show ((w ++ backB w).size : Int) ≤ 200 by omega)] at hi2
        have hv2 := wordT_val' (w ++ backB w) (by omega) firstD firstD_ok
        rw [hwb, wordT_app, act_back _ _ hb.1] at hv2
        have hO3 : Ev (fun k => impl_RollOrder.f k (w ++ backB w)) (1, 0) := ev_some hi2 (ev_pos rfl (Ev.bind hv2 (Ev.step (f := fun _ => _) (fun k => by simp only [impl_RollOrder.l0]; rfl) (ev_neg (by decide) (ev_const rfl)))))
        refine Ev.step (f := fun _ => _) (fun k => by simp only [laws_FnRolled.j1]; rfl) (ev_neg (by simp) (ev_pos (by rw [hbs]; omega) (Ev.bind hO3 ?_)))
        exact whole_loop w (by omega) hb.1 m (by omega) (by omega) m3 m 0 (⟨#[]⟩ : ByteArray) (by omega) (by rw [Nat.zero_mul]; rfl) rfl rfl
end Go.Proofs.YtopceddgiddhlaaDoor.Pure
