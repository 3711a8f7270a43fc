/- What is proved: for every code the law FnTriangleShapes answers true: both sides list the same triangle shapes; there are as many as counted; a listed shape is its own least form, is one of triangles and hangs together. No condition beyond the kinds of the numbers and the reach. -/
import Derived.Test.YtmdjkmfocgelnaaGreatPFnTriangleShapesx0
import Derived.Test.YtmdjkmfocgelnaaGreatPFnTriangleShapesx1
import Derived.Test.YtmdjkmfocgelnaaGreatPFnTriangleShapesx2
import Derived.Test.YtmdjkmfocgelnaaGreatPFnTriangleShapesx3
import Derived.Test.YtmdjkmfocgelnaaGreatPFnTriangleShapesx4
import Derived.Test.YtmdjkmfocgelnaaGreatPFnTriangleShapesx5
import Derived.Test.YtmdjkmfocgelnaaGreatPFnTriangleShapesx6
import Derived.Test.YtmdjkmfocgelnaaGreatPFnTriangleShapesx7
import Derived.Test.YtmdjkmfocgelnaaGreatPFnTriangleShapesx8
import Derived.Test.YtmdjkmfocgelnaaGreatPFnTriangleShapesx9
import Derived.Test.YtmdjkmfocgelnaaGreatPFnTriangleShapesx10
import Derived.Test.YtmdjkmfocgelnaaGreatPFnTriangleShapesx11
import Derived.Test.YtmdjkmfocgelnaaGreatPFnTriangleShapesx12
import Derived.Test.YtmdjkmfocgelnaaGreatPFnTriangleShapesx13
import Derived.Test.YtmdjkmfocgelnaaGreatPFnTriangleShapesx14
import Derived.Test.YtmdjkmfocgelnaaGreatPFnTriangleShapesx15
import Derived.Test.YtmdjkmfocgelnaaGreatPFnTriangleShapesx16
import Derived.Test.YtmdjkmfocgelnaaGreatPFnTriangleShapesx17
import Derived.Test.YtmdjkmfocgelnaaGreatPFnTriangleShapesx18
import Derived.Test.YtmdjkmfocgelnaaGreatPFnTriangleShapesx19
import Derived.Test.YtmdjkmfocgelnaaGreatPFnTriangleShapesx20
import Derived.Test.YtmdjkmfocgelnaaGreatPFnTriangleShapesx21
import Derived.Test.YtmdjkmfocgelnaaGreatKit
set_option linter.unusedVariables false
set_option linter.unusedSimpArgs false
namespace Go.Proofs.YtmdjkmfocgelnaaGreat.Pure
open Go.RowKit Go.Proofs.YtmdjkmfocgelnaaGreat.PFnTriangleShapes Go.Proofs.YtmdjkmfocgelnaaGreatW.PrintWords Go.Proofs.YtmdjkmfocgelnaaGreatW.PrintLast Go.Proofs.YtmdjkmfocgelnaaGreat.Kit
/-! Shapes: both sides' IsShape come to one Bool. -/
abbrev cellAt (l : List S46) (i : Nat) : S46 := l.getD i z46
def inR (n : Int) : Bool := decide (-100 ≤ n) && decide (n ≤ 100)
def lessB (a b : S46) : Bool := decide (a.f1 < b.f1) || (decide (a.f1 = b.f1) && decide (a.f0 < b.f0))
def okAtB (l : List S46) (i : Nat) : Bool := (inR (cellAt l i).f0 && inR (cellAt l i).f1) && (decide (i = 0) || lessB (cellAt l (i - 1)) (cellAt l i))
def shapeFrom (l : List S46) : Nat → Nat → Bool
  | 0, _ => decide (1 ≤ l.length) && decide (l.length ≤ 40)
  | d + 1, i => okAtB l i && shapeFrom l d (i + 1)
def isShapeB (l : List S46) : Bool := shapeFrom l l.length 0
theorem in_valC (a : Int) (lo hi : Int) : spec_l01In.f a lo hi = some (decide (lo ≤ a) && decide (a ≤ hi)) := by
  unfold spec_l01In.f
  by_cases h : a ≥ lo
  · rw [if_pos h, decide_eq_true (show lo ≤ a from h), Bool.true_and]
  · rw [if_neg h, decide_eq_false (show ¬ lo ≤ a from h), Bool.false_and]
theorem within_valC (a : Int) (lo hi : Int) : impl_within.f a lo hi = some (decide (lo ≤ a) && decide (a ≤ hi)) := by
  unfold impl_within.f
  by_cases h : a ≥ lo
  · rw [if_pos h, decide_eq_true (show lo ≤ a from h), Bool.true_and]
  · rw [if_neg h, decide_eq_false (show ¬ lo ≤ a from h), Bool.false_and]
theorem cell_val (a b : Int) : spec_l02Cell.f a b = some (inR a && inR b) := by
  unfold spec_l02Cell.f
  rw [in_valC, in_valC]
  show (if inR a = true then some (inR b) else some false) = _
  cases inR a <;> rfl
theorem coord_val (a : Int) : impl_isCoordinate.f a = some (inR a) := by
  unfold impl_isCoordinate.f
  rw [within_valC]
  rfl
theorem less_val (a b c d : Int) : spec_l02Less.f a b c d = some (lessB ⟨a, b⟩ ⟨c, d⟩) := by
  unfold spec_l02Less.f lessB
  by_cases h : b < d
  · simp [h]
  · by_cases e : b = d
    · simp [e]
    · simp [h, e]
def cmp3 (a b : Int) : Int := if a < b then -1 else if a > b then 1 else 0
theorem cmp_val (a b : Int) : cmp_Compare_int64.f a b = some (cmp3 a b) := by
  have h : ∀ x : Int, cmp_isNaN_int64.f x = some false := fun x => by simp [cmp_isNaN_int64.f]
  unfold cmp_Compare_int64.f cmp3
  rw [h, h]
  simp only [Option.bind_some, Bool.false_eq_true, if_false]
  split
  · rfl
  · split <;> rfl
def cmpC (p q : S46) : Int := if cmp3 p.f1 q.f1 = 0 then cmp3 p.f0 q.f0 else cmp3 p.f1 q.f1
theorem compare_val (a b c d : Int) : impl_compareCells.f a b c d = some (cmpC ⟨a, b⟩ ⟨c, d⟩) := by
  unfold impl_compareCells.f cmpC
  rw [cmp_val, cmp_val]
  simp only [Option.bind_some]
  split <;> rfl
theorem cmpC_less (p q : S46) : (cmpC p q ≥ 0) ↔ lessB p q = false := by
  unfold cmpC cmp3 lessB
  simp only [Bool.or_eq_false_iff, Bool.and_eq_false_iff, decide_eq_false_iff_not]
  split <;> split <;> (try split) <;> (try split) <;> omega
theorem spec_shape_loop (l : List S46) (hm : l.length ≤ maxLen) (d : Nat) : ∀ n : Nat, n + d = l.length → Ev (fun k => spec_IsShape.l0 k l n) (shapeFrom l d n) := by
  unfold maxLen at hm
  induction d with
  | zero =>
    intro n hd
    refine Ev.step (f := fun _ => _) (fun k => by simp only [spec_IsShape.l0]; rfl) (ev_neg (by omega) (ev_some (in_valC _ _ _) (ev_const ?_)))
    rw [shapeFrom]
    congr 2 <;> exact decide_eq_decide.2 (by omega)
  | succ d ih =>
    intro n hd
    refine Ev.step (f := fun _ => _) (fun k => by simp only [spec_IsShape.l0]; rfl) (ev_pos (by omega) (ev_pos (by omega) (ev_some (cell_val _ _) ?_)))
    rw [show rd_T46 l (n : Int) = cellAt l n from rfl, shapeFrom, okAtB]
    cases h1 : (inR (cellAt l n).f0 && inR (cellAt l n).f1) with
    | false => exact ev_neg (by simp) (ev_const rfl)
    | true =>
      refine ev_pos rfl ?_
      by_cases h0 : n = 0
      · subst h0
        refine ev_neg (by omega) ?_
        rw [wrap_succ 0 (by omega)]
        simpa using ih 1 (by omega)
      · have hw : wrap64 ((n : Int) - 1) = ((n - 1 : Nat) : Int) := by rw [wrap_id _ (by omega) (by omega)]; omega
        rw [hw]
        refine ev_pos (by omega) (ev_pos (by omega) (ev_pos (by omega) (ev_some (less_val _ _ _ _) ?_)))
        rw [decide_eq_false h0, Bool.false_or, Bool.true_and, show rd_T46 l ((n - 1 : Nat) : Int) = cellAt l (n - 1) from rfl]
        cases h2 : lessB (cellAt l (n - 1)) (cellAt l n) with
        | false => exact ev_neg (by simp) (ev_const rfl)
        | true =>
          refine ev_pos rfl ?_
          rw [wrap_succ n (by omega), Bool.true_and]
          exact ih (n + 1) (by omega)
theorem spec_shape_val (l : List S46) (hm : l.length ≤ maxLen) : Ev (fun k => spec_IsShape.f k l) (isShapeB l) := spec_shape_loop l hm l.length 0 (by omega)
theorem impl_shape_loop (l : List S46) (hm : l.length ≤ maxLen) (d : Nat) : ∀ n : Nat, n + d = l.length → Ev (fun k => impl_IsShape.l0 k l l (l.length : Int) n) (shapeFrom l d n) := by
  unfold maxLen at hm
  induction d with
  | zero =>
    intro n hd
    refine Ev.step (f := fun _ => _) (fun k => by simp only [impl_IsShape.l0]; rfl) (ev_neg (by omega) ?_)
    rw [shapeFrom]
    by_cases h : (l.length : Int) ≥ 1
    · refine ev_pos h (ev_const ?_)
      rw [decide_eq_true (show 1 ≤ l.length by omega), Bool.true_and]
      congr 1
      exact decide_eq_decide.2 (by omega)
    · refine ev_neg h (ev_const ?_)
      rw [decide_eq_false (show ¬ 1 ≤ l.length by omega), Bool.false_and]
  | succ d ih =>
    intro n hd
    refine Ev.step (f := fun _ => _) (fun k => by simp only [impl_IsShape.l0]; rfl) (ev_pos (by omega) (ev_pos (by omega) (ev_pos (by omega) (ev_some (coord_val _) ?_))))
    rw [show rd_T46 l (n : Int) = cellAt l n from rfl, shapeFrom, okAtB]
    cases h1 : inR (cellAt l n).f0 with
    | false => exact ev_neg (by simp) (ev_const (by simp))
    | true =>
      refine ev_pos rfl (ev_some (coord_val _) ?_)
      cases h1' : inR (cellAt l n).f1 with
      | false => exact ev_neg (by simp) (ev_const (by simp))
      | true =>
        refine ev_pos rfl ?_
        by_cases h0 : n = 0
        · subst h0
          refine ev_neg (by omega) ?_
          rw [wrap_succ 0 (by omega)]
          simpa using ih 1 (by omega)
        · have hw : wrap64 ((n : Int) - 1) = ((n - 1 : Nat) : Int) := by rw [wrap_id _ (by omega) (by omega)]; omega
          rw [hw]
          refine ev_pos (by omega) (ev_pos (by omega) (ev_pos (by omega) (ev_some (compare_val _ _ _ _) ?_)))
          rw [decide_eq_false h0, Bool.false_or, Bool.true_and, show rd_T46 l ((n - 1 : Nat) : Int) = cellAt l (n - 1) from rfl]
          cases h2 : lessB (cellAt l (n - 1)) (cellAt l n) with
          | false => exact ev_pos ((cmpC_less _ _).2 h2) (ev_const rfl)
          | true =>
            refine ev_neg (fun h => by have := (cmpC_less _ _).1 h; rw [h2] at this; cases this) ?_
            rw [wrap_succ n (by omega), Bool.true_and]
            exact ih (n + 1) (by omega)
theorem impl_shape_val (l : List S46) (hm : l.length ≤ maxLen) : Ev (fun k => impl_IsShape.f k l) (isShapeB l) := impl_shape_loop l hm l.length 0 (by omega)
theorem less_iff (a b : S46) : lessB a b = true ↔ a.f1 < b.f1 ∨ (a.f1 = b.f1 ∧ a.f0 < b.f0) := by
  unfold lessB
  simp only [Bool.or_eq_true, Bool.and_eq_true, decide_eq_true_eq]
/-! What a shape is: at most 40 cells, near the origin, no two alike. -/
theorem shapeFrom_true (l : List S46) : ∀ d n : Nat, shapeFrom l d n = true → (∀ i, n ≤ i → i < n + d → okAtB l i = true) ∧ 1 ≤ l.length ∧ l.length ≤ 40
  | 0, n, h => by
    simp only [shapeFrom, Bool.and_eq_true, decide_eq_true_eq] at h
    exact ⟨fun i h1 h2 => by omega, h.1, h.2⟩
  | d + 1, n, h => by
    simp only [shapeFrom, Bool.and_eq_true] at h
    obtain ⟨h1, h2⟩ := shapeFrom_true l d (n + 1) h.2
    refine ⟨fun i h3 h4 => ?_, h2⟩
    by_cases e : i = n
    · subst e; exact h.1
    · exact h1 i (by omega) (by omega)
structure Shape (l : List S46) : Prop where
  pos : 1 ≤ l.length
  le : l.length ≤ 40
  near : ∀ i, i < l.length → (-100 ≤ (cellAt l i).f0 ∧ (cellAt l i).f0 ≤ 100) ∧ (-100 ≤ (cellAt l i).f1 ∧ (cellAt l i).f1 ≤ 100)
  apart : ∀ i j, i < l.length → j < l.length → cellKey (cellAt l i) = cellKey (cellAt l j) → i = j
theorem shape_of (l : List S46) (h : isShapeB l = true) : Shape l := by
  obtain ⟨h1, h2, h3⟩ := shapeFrom_true l _ _ h
  have hok : ∀ i, i < l.length → okAtB l i = true := fun i hi => h1 i (by omega) (by omega)
  have hless : ∀ j i, i < j → j < l.length → lessB (cellAt l i) (cellAt l j) = true := by
    intro j
    induction j with
    | zero => intro i hi; omega
    | succ j ih =>
      intro i hi hj
      have h4 := hok (j + 1) hj
      simp only [okAtB, Bool.and_eq_true, Bool.or_eq_true, decide_eq_true_eq, Nat.add_sub_cancel] at h4
      have h5 : lessB (cellAt l j) (cellAt l (j + 1)) = true := by
        rcases h4.2 with h6 | h6
        · omega
        · exact h6
      by_cases e : i = j
      · subst e; exact h5
      · have h6 := ih i (by omega) (by omega)
        rw [less_iff] at *
        omega
  refine ⟨h2, h3, fun i hi => ?_, fun i j hi hj he => ?_⟩
  · have h4 := hok i hi
    simp only [okAtB, inR, Bool.and_eq_true, decide_eq_true_eq] at h4
    exact ⟨⟨h4.1.1.1, h4.1.1.2⟩, h4.1.2.1, h4.1.2.2⟩
  · simp only [cellKey, Prod.mk.injEq] at he
    rcases Nat.lt_trichotomy i j with h4 | h4 | h4
    · have := (less_iff _ _).1 (hless j i h4 hj)
      omega
    · exact h4
    · have := (less_iff _ _).1 (hless i j h4 hi)
      omega
/-! Where a cell stands. -/
theorem atCell_inv (l : List S46) (p : Int × Int) (q : Int) : ∀ n : Nat, atCell l n p = some q → ∃ i : Nat, i < n ∧ q = (i : Int) ∧ cellKey (cellAt l i) = p
  | 0, h => by simp [atCell] at h
  | n + 1, h => by
    rw [atCell] at h
    by_cases e : p = cellKey (rd_T46 l (n : Int))
    · rw [if_pos e] at h
      exact ⟨n, by omega, (Option.some.inj h).symm, e.symm⟩
    · rw [if_neg e] at h
      obtain ⟨i, h1, h2, h3⟩ := atCell_inv l p q n h
      exact ⟨i, by omega, h2, h3⟩
theorem atCell_some (l : List S46) (hs : Shape l) (i : Nat) (hi : i < l.length) : atCell l l.length (cellKey (cellAt l i)) = some (i : Int) := by
  cases h : atCell l l.length (cellKey (cellAt l i)) with
  | some q =>
    obtain ⟨j, h1, h2, h3⟩ := atCell_inv l _ q _ h
    rw [hs.apart j i h1 hi h3] at h2
    rw [h2]
  | none =>
    have : ∀ n : Nat, i < n → atCell l n (cellKey (cellAt l i)) ≠ none := by
      intro n
      induction n with
      | zero => intro h0; omega
      | succ n ih =>
        intro h0
        rw [atCell]
        by_cases e : cellKey (cellAt l i) = cellKey (rd_T46 l (n : Int))
        · rw [if_pos e]; simp
        · rw [if_neg e]
          exact ih (by
            have : i ≠ n := fun e2 => e (by rw [e2]; rfl)
            omega)
    exact absurd h (this _ hi)
/-! Parts: both sides come to the same list. -/
def negs (out : List Int) : Nat := out.countP (fun x => decide (x < 0))
theorem negs_set (out : List Int) (q : Nat) (v : Int) (hq : q < out.length) (h0 : out.getD q 0 < 0) (hv : 0 ≤ v) : negs (out.set q v) + 1 = negs out := by
  unfold negs
  rw [List.countP_set hq]
  have h1 : out[q] = out.getD q 0 := by rw [List.getD_eq_getElem?_getD, List.getElem?_eq_getElem hq]; rfl
  have h2 : decide (out[q] < 0) = true := by rw [h1]; exact decide_eq_true h0
  have h3 : decide (v < 0) = false := decide_eq_false (by omega)
  have h4 : 0 < out.countP (fun x => decide (x < 0)) := List.countP_pos_iff.2 ⟨out[q], List.getElem_mem hq, h2⟩
  simp only [h2, h3, if_true, Bool.false_eq_true, if_false]
  omega
theorem rd_get (out : List Int) (q : Nat) : rd out (q : Int) = out.getD q 0 := rfl
theorem getD_set (out : List Int) (q j : Nat) (v : Int) (hq : q < out.length) : (out.set q v).getD j 0 = if j = q then v else out.getD j 0 := by
  rw [List.getD_eq_getElem?_getD, List.getD_eq_getElem?_getD, List.getElem?_set]
  by_cases e : q = j
  · subst e; simp [hq]
  · rw [if_neg e, if_neg (Ne.symm e)]
theorem rd_cell (l : List S46) (n : Nat) : rd_T46 l (n : Int) = cellAt l n := rfl
/-! The walk of the first part, as a relation. -/
theorem max_loop (out : List Int) (hm : out.length ≤ 40) (hp : ∀ q : Nat, q < out.length → 0 ≤ out.getD q 0) (d : Nat) : ∀ (n : Nat) (x : Int), n + d = out.length → 0 ≤ x →
    ∃ m, Ev (fun k => slices_Max_int64_int64.l0 k out x n) m ∧ (m = 0 ↔ x = 0 ∧ ∀ q : Nat, n ≤ q → q < out.length → out.getD q 0 = 0) := by
  induction d with
  | zero =>
    intro n x hn hx
    exact ⟨x, Ev.step (f := fun _ => _) (fun k => by simp only [slices_Max_int64_int64.l0]; rfl) (ev_neg (by omega) (ev_const rfl)), ⟨fun h => ⟨h, fun q h1 h2 => by omega⟩, fun h => h.1⟩⟩
  | succ d ih =>
    intro n x hn hx
    have h0 := hp n (by omega)
    obtain ⟨m, h1, h2⟩ := ih (n + 1) (mx x (rd out (n : Int))) (by omega) (by rw [rd_get]; unfold mx; split <;> omega)
    refine ⟨m, Ev.step (f := fun _ => _) (fun k => by simp only [slices_Max_int64_int64.l0]; rfl) (ev_pos (by omega) (ev_pos (by omega) (by rw [wrap_succ n (by omega)]; exact h1))), h2.trans ⟨fun h => ?_, fun h => ?_⟩⟩
    · rw [rd_get] at h
      have h3 : x = 0 ∧ out.getD n 0 = 0 := by
        have := h.1
        unfold mx at this
        split at this <;> omega
      refine ⟨h3.1, fun q h4 h5 => ?_⟩
      by_cases e : q = n
      · subst e; exact h3.2
      · exact h.2 q (by omega) h5
    · have h3 := h.2 n (Nat.le_refl _) (by omega)
      refine ⟨?_, fun q h4 h5 => h.2 q (by omega) h5⟩
      rw [rd_get, h.1, h3]
      rfl
/-! Least and greatest coordinates, the moved cells, sizes: both sides. -/
def minF (f : S46 → Int) : List S46 → Int → Int
  | [], x => x
  | c :: r, x => minF f r (mn x (f c))
def minX (l : List S46) : Int := minF (·.f0) l (cellAt l 0).f0
def minY (l : List S46) : Int := minF (·.f1) l (cellAt l 0).f1
def movL (a b : Int) (l : List S46) : List S46 := l.map fun c => ⟨wrap64 (c.f0 + a), wrap64 (c.f1 + b)⟩
theorem minF_le (f : S46 → Int) : ∀ (l : List S46) (x : Int), minF f l x ≤ x ∧ ∀ c ∈ l, minF f l x ≤ f c
  | [], x => ⟨Int.le_refl _, by simp⟩
  | c :: r, x => by
    have h := minF_le f r (mn x (f c))
    have h1 : mn x (f c) ≤ x ∧ mn x (f c) ≤ f c := by unfold mn; split <;> omega
    rw [minF]
    refine ⟨by omega, fun d hd => ?_⟩
    rcases List.mem_cons.1 hd with rfl | hd
    · omega
    · exact h.2 d hd
theorem minF_in (f : S46 → Int) (lo hi : Int) : ∀ (l : List S46) (x : Int), (lo ≤ x ∧ x ≤ hi) → (∀ c ∈ l, lo ≤ f c ∧ f c ≤ hi) → lo ≤ minF f l x ∧ minF f l x ≤ hi
  | [], x, h, _ => h
  | c :: r, x, h, hc => by
    have h1 := hc c (by simp)
    exact minF_in f lo hi r _ (by unfold mn; split <;> omega) (fun d hd => hc d (by simp [hd]))
theorem mn_self (x : Int) : mn x x = x := by unfold mn; split <;> omega
theorem cell_mem (l : List S46) (i : Nat) (h : i < l.length) : cellAt l i ∈ l := getD_mem l _ i h
theorem least_loop (l : List S46) (hm : l.length ≤ maxLen) (d : Nat) : ∀ (n : Nat) (x y : Int), n + d = l.length → Ev (fun k => spec_l02Least.l0 k l x y n) (minF (·.f0) (l.drop n) x, minF (·.f1) (l.drop n) y) := by
  unfold maxLen at hm
  induction d with
  | zero =>
    intro n x y hd
    refine Ev.step (f := fun _ => _) (fun k => by simp only [spec_l02Least.l0]; rfl) (ev_neg (by omega) (ev_const ?_))
    rw [List.drop_of_length_le (by omega)]; rfl
  | succ d ih =>
    intro n x y hd
    refine Ev.step (f := fun _ => _) (fun k => by simp only [spec_l02Least.l0]; rfl) (ev_pos (by omega) (ev_pos (by omega) ?_))
    rw [wrap_succ n (by omega), drop_cons l z46 n (by omega), minF, minF]
    exact ih (n + 1) _ _ (by omega)
theorem least_val (l : List S46) (hm : l.length ≤ maxLen) (h1 : 1 ≤ l.length) : Ev (fun k => spec_l02Least.f k l) (minX l, minY l) := by
  refine ev_pos (by omega) ?_
  have h := least_loop l hm (l.length - 1) 1 (cellAt l 0).f0 (cellAt l 0).f1 (by omega)
  unfold minX minY
  have e : l = cellAt l 0 :: l.drop 1 := by
    have := drop_cons l z46 0 (by omega)
    simpa using this
  have key : ∀ f : S46 → Int, minF f l (f (cellAt l 0)) = minF f (l.drop 1) (f (cellAt l 0)) := fun f => by
    conv => lhs; rw [e, minF]
    rw [show cellAt (cellAt l 0 :: l.drop 1) 0 = cellAt l 0 from rfl, mn_self]
  rw [key (·.f0), key (·.f1)]
  exact h
theorem corner_loop (l : List S46) (hm : l.length ≤ maxLen) (d : Nat) : ∀ (n : Nat) (x y : Int), n + d = l.length → Ev (fun k => impl_corner.l0 k l (l.length : Int) n x y) (minF (·.f0) (l.drop n) x, minF (·.f1) (l.drop n) y) := by
  unfold maxLen at hm
  induction d with
  | zero =>
    intro n x y hd
    refine Ev.step (f := fun _ => _) (fun k => by simp only [impl_corner.l0]; rfl) (ev_neg (by omega) (ev_const ?_))
    rw [List.drop_of_length_le (by omega)]; rfl
  | succ d ih =>
    intro n x y hd
    refine Ev.step (f := fun _ => _) (fun k => by simp only [impl_corner.l0]; rfl) (ev_pos (by omega) (ev_pos (by omega) (ev_pos (by omega) ?_)))
    rw [wrap_succ n (by omega), drop_cons l z46 n (by omega), minF, minF]
    exact ih (n + 1) _ _ (by omega)
theorem corner_val (l : List S46) (hm : l.length ≤ maxLen) (h1 : 1 ≤ l.length) : Ev (fun k => impl_corner.f k l) (minX l, minY l) :=
  ev_pos (by omega) (corner_loop l hm l.length 0 _ _ (by omega))
theorem smove_loop (l : List S46) (a b : Int) (hm : l.length ≤ maxLen) (h8 : l.length ≤ 1000000) (d : Nat) : ∀ (n : Nat) (out : List S46), n + d = l.length → out.length = n → Ev (fun k => spec_l02Move.l0 k l a b out n) (out ++ movL a b (l.drop n)) := by
  unfold maxLen at hm
  induction d with
  | zero =>
    intro n out hd ho
    refine Ev.step (f := fun _ => _) (fun k => by simp only [spec_l02Move.l0]; rfl) (ev_neg (by omega) (ev_const ?_))
    rw [List.drop_of_length_le (by omega)]; simp [movL]
  | succ d ih =>
    intro n out hd ho
    refine Ev.step (f := fun _ => _) (fun k => by simp only [spec_l02Move.l0]; rfl) (ev_pos (by omega) (ev_pos (by omega) (ev_pos (by omega) ?_)))
    rw [wrap_succ n (by omega)]
    refine ev_eq (ih (n + 1) _ (by omega) (by simp [ho])) ?_
    rw [drop_cons l z46 n (by omega)]
    simp [movL]; exact ⟨rfl, rfl⟩
theorem imove_loop (l : List S46) (a b : Int) (hm : l.length ≤ maxLen) (h8 : l.length ≤ 1000000) (d : Nat) : ∀ (n : Nat) (out : List S46), n + d = l.length → out.length = n → Ev (fun k => impl_moved.l0 k a b out l (l.length : Int) n) (out ++ movL a b (l.drop n)) := by
  unfold maxLen at hm
  induction d with
  | zero =>
    intro n out hd ho
    refine Ev.step (f := fun _ => _) (fun k => by simp only [impl_moved.l0]; rfl) (ev_neg (by omega) (ev_const ?_))
    rw [List.drop_of_length_le (by omega)]; simp [movL]
  | succ d ih =>
    intro n out hd ho
    refine Ev.step (f := fun _ => _) (fun k => by simp only [impl_moved.l0]; rfl) (ev_pos (by omega) (ev_pos (by omega) (ev_pos (by omega) (ev_pos (by omega) ?_))))
    rw [wrap_succ n (by omega)]
    refine ev_eq (ih (n + 1) _ (by omega) (by simp [ho])) ?_
    rw [drop_cons l z46 n (by omega)]
    simp [movL]; exact ⟨rfl, rfl⟩
/-! What a shape is: at most 40 cells, near the origin, in order. -/
structure Shp (l : List S46) : Prop where
  pos : 1 ≤ l.length
  le : l.length ≤ 40
  near : ∀ c ∈ l, (-100 ≤ c.f0 ∧ c.f0 ≤ 100) ∧ (-100 ≤ c.f1 ∧ c.f1 ≤ 100)
  rise : ∀ i j, i < j → j < l.length → lessB (cellAt l i) (cellAt l j) = true
theorem shapeFrom_iff (l : List S46) : ∀ d n : Nat, shapeFrom l d n = true ↔ ((∀ i, n ≤ i → i < n + d → okAtB l i = true) ∧ 1 ≤ l.length ∧ l.length ≤ 40)
  | 0, n => by
    simp only [shapeFrom, Bool.and_eq_true, decide_eq_true_eq]
    exact ⟨fun h => ⟨fun i h1 h2 => by omega, h.1, h.2⟩, fun h => h.2⟩
  | d + 1, n => by
    simp only [shapeFrom, Bool.and_eq_true]
    rw [shapeFrom_iff l d (n + 1)]
    constructor
    · intro h
      refine ⟨fun i h3 h4 => ?_, h.2.2⟩
      by_cases e : i = n
      · subst e; exact h.1
      · exact h.2.1 i (by omega) (by omega)
    · intro h
      exact ⟨h.1 n (Nat.le_refl _) (by omega), fun i h3 h4 => h.1 i (by omega) (by omega), h.2⟩
theorem shp_iff (l : List S46) : isShapeB l = true ↔ Shp l := by
  unfold isShapeB
  rw [shapeFrom_iff]
  constructor
  · rintro ⟨h1, h2, h3⟩
    have hok : ∀ i, i < l.length → okAtB l i = true := fun i hi => h1 i (by omega) (by omega)
    have hless : ∀ j i, i < j → j < l.length → lessB (cellAt l i) (cellAt l j) = true := by
      intro j
      induction j with
      | zero => intro i hi; omega
      | succ j ih =>
        intro i hi hj
        have h4 := hok (j + 1) hj
        simp only [okAtB, Bool.and_eq_true, Bool.or_eq_true, decide_eq_true_eq, Nat.add_sub_cancel] at h4
        have h5 : lessB (cellAt l j) (cellAt l (j + 1)) = true := by
          rcases h4.2 with h6 | h6
          · omega
          · exact h6
        by_cases e : i = j
        · subst e; exact h5
        · have h6 := ih i (by omega) (by omega)
          rw [less_iff] at *
          omega
    refine ⟨h2, h3, fun c hc => ?_, fun i j => hless j i⟩
    obtain ⟨i, hi, rfl⟩ := List.getElem_of_mem hc
    have h4 := hok i hi
    have e : cellAt l i = l[i] := by show l.getD i _ = _; rw [List.getD_eq_getElem?_getD, List.getElem?_eq_getElem hi, Option.getD_some]
    rw [okAtB, e] at h4
    simp only [inR, Bool.and_eq_true, decide_eq_true_eq] at h4
    exact ⟨⟨h4.1.1.1, h4.1.1.2⟩, h4.1.2.1, h4.1.2.2⟩
  · intro h
    refine ⟨fun i _ hi => ?_, h.pos, h.le⟩
    have hn := h.near _ (cell_mem l i (by omega))
    unfold okAtB inR
    rw [decide_eq_true hn.1.1, decide_eq_true hn.1.2, decide_eq_true hn.2.1, decide_eq_true hn.2.2]
    by_cases h0 : i = 0
    · simp [h0]
    · rw [h.rise (i - 1) i (by omega) (by omega)]; simp
theorem Shp.apart {l : List S46} (h : Shp l) (i j : Nat) (hi : i < l.length) (hj : j < l.length) (e0 : (cellAt l i).f0 = (cellAt l j).f0) (e1 : (cellAt l i).f1 = (cellAt l j).f1) : i = j := by
  rcases Nat.lt_trichotomy i j with h4 | h4 | h4
  · have := (less_iff _ _).1 (h.rise i j h4 hj)
    omega
  · exact h4
  · have := (less_iff _ _).1 (h.rise j i h4 hi)
    omega
/-! Sorted cells: one row only, the library's and the reference's. -/
def leC (x y : S46) : Prop := ltC y x = false
theorem leC_iff (x y : S46) : leC x y ↔ x.f1 < y.f1 ∨ (x.f1 = y.f1 ∧ x.f0 ≤ y.f0) := by
  unfold leC
  rw [Bool.eq_false_iff, Ne, ltC_iff]
  omega
theorem leC_anti (x y : S46) (h1 : leC x y) (h2 : leC y x) : x = y := ltC_total x y (by rw [cfC_lt]; exact h2) (by rw [cfC_lt]; exact h1)
theorem sortC_perm (l : List S46) : (sortC l).Perm l := List.mergeSort_perm l _
theorem sortC_sorted (l : List S46) : (sortC l).Pairwise leC := by
  refine (List.pairwise_mergeSort (le := fun x y => !(ltOf cfC) y x) (fun a b c h1 h2 => ?_) (fun a b => ?_) l).imp (fun {a b} h => ?_)
  · simp only [cfC_lt, Bool.not_eq_true'] at h1 h2 ⊢
    have h1' := (leC_iff a b).1 h1
    have h2' := (leC_iff b c).1 h2
    exact (leC_iff a c).2 (by omega)
  · simp only [cfC_lt, Bool.or_eq_true, Bool.not_eq_true']
    have e1 := leC_iff a b
    have e2 := leC_iff b a
    unfold leC at e1 e2
    rw [e1, e2]
    omega
  · have h2 : ltC b a = false := by simpa [cfC_lt] using h
    exact h2
theorem sort_unique {l l' : List S46} (hp : l.Perm l') (h : l.Pairwise leC) (h' : l'.Pairwise leC) : l = l' := List.Perm.eq_of_pairwise (fun a b _ _ => leC_anti a b) h h' hp
theorem sortC_len (l : List S46) : (sortC l).length = l.length := (sortC_perm l).length_eq
def insC (c : S46) : List S46 → List S46
  | [] => [c]
  | x :: r => if ltC c x = true then c :: x :: r else x :: insC c r
theorem insC_perm (c : S46) : ∀ l : List S46, (insC c l).Perm (c :: l)
  | [] => List.Perm.refl _
  | x :: r => by
    rw [insC]
    split
    · exact List.Perm.refl _
    · exact ((insC_perm c r).cons x).trans (List.Perm.swap c x r)
theorem insC_sorted (c : S46) : ∀ l : List S46, l.Pairwise leC → (insC c l).Pairwise leC
  | [], _ => by simp [insC]
  | x :: r, h => by
    rw [List.pairwise_cons] at h
    rw [insC]
    split
    · rename_i hc
      have hcx := (ltC_iff c x).1 hc
      refine List.pairwise_cons.2 ⟨fun y hy => ?_, List.pairwise_cons.2 h⟩
      rcases List.mem_cons.1 hy with rfl | hy
      · exact (leC_iff _ _).2 (by omega)
      · have := (leC_iff x y).1 (h.1 y hy)
        exact (leC_iff _ _).2 (by omega)
    · rename_i hc
      refine List.pairwise_cons.2 ⟨fun y hy => ?_, insC_sorted c r h.2⟩
      rcases List.mem_cons.1 ((insC_perm c r).mem_iff.1 hy) with rfl | hy
      · simpa [leC] using hc
      · exact h.1 y hy
def insAll : List S46 → List S46 → List S46
  | out, [] => out
  | out, x :: r => insAll (insC x out) r
theorem insAll_perm : ∀ (l out : List S46), (insAll out l).Perm (out ++ l)
  | [], out => by simp [insAll]
  | x :: r, out => by
    rw [insAll]
    refine (insAll_perm r _).trans ?_
    refine ((insC_perm x out).append_right r).trans ?_
    exact List.perm_middle.symm
theorem insAll_sorted : ∀ (l out : List S46), out.Pairwise leC → (insAll out l).Pairwise leC
  | [], _, h => h
  | x :: r, out, h => insAll_sorted r _ (insC_sorted x out h)
theorem insAll_eq (l : List S46) : insAll [] l = sortC l := sort_unique (((insAll_perm l []).trans (by simp)).trans (sortC_perm l).symm) (insAll_sorted l [] List.Pairwise.nil) (sortC_sorted l)
/-! Turns of cells, and forms of shapes: both sides. -/
def isT (t : Int) : Prop := 0 ≤ t ∧ t ≤ 7
instance (t : Int) : Decidable (isT t) := inferInstanceAs (Decidable (_ ∧ _))
/-! The reference's insertion. -/
theorem less_ltC (a b : S46) : lessB a b = ltC a b := by
  rw [Bool.eq_iff_iff, ltC_iff]
  unfold lessB
  simp only [Bool.or_eq_true, Bool.and_eq_true, decide_eq_true_eq]
theorem insert_done (l : List S46) (c : S46) (hl : l.length ≤ 1000) (d : Nat) : ∀ (n : Nat) (out : List S46), n + d = l.length → out.length = n + 1 → Ev (fun k => spec_l02Insert.l0 k l out true n c.f0 c.f1) (out ++ l.drop n) := by
  induction d with
  | zero =>
    intro n out hd ho
    refine Ev.step (f := fun _ => _) (fun k => by simp only [spec_l02Insert.l0]; rfl) (ev_neg (by omega) (ev_pos trivial (ev_const ?_)))
    rw [List.drop_of_length_le (by omega), List.append_nil]
  | succ d ih =>
    intro n out hd ho
    refine Ev.step (f := fun _ => _) (fun k => by simp only [spec_l02Insert.l0]; rfl) (ev_pos (by omega) (ev_pos trivial (ev_pos (by omega) (ev_pos (show out.length < 8796093022208 by omega) ?_))))
    rw [wrap_succ n (by omega)]
    refine ev_eq (ih (n + 1) _ (by omega) (by simp [ho])) ?_
    rw [drop_cons l z46 n (by omega), show rd_T46 l (n : Int) = l.getD n z46 from rfl]
    simp
theorem insert_loop (l : List S46) (c : S46) (hl : l.length ≤ 1000) (d : Nat) : ∀ (n : Nat) (out : List S46), n + d = l.length → out.length = n → Ev (fun k => spec_l02Insert.l0 k l out false n c.f0 c.f1) (out ++ insC c (l.drop n)) := by
  induction d with
  | zero =>
    intro n out hd ho
    refine Ev.step (f := fun _ => _) (fun k => by simp only [spec_l02Insert.l0]; rfl) (ev_neg (by omega) (ev_neg (by decide) (ev_pos (show out.length < 8796093022208 by omega) (ev_const ?_))))
    rw [List.drop_of_length_le (by omega)]; rfl
  | succ d ih =>
    intro n out hd ho
    rw [drop_cons l z46 n (by omega), insC]
    refine Ev.step (f := fun _ => _) (fun k => by simp only [spec_l02Insert.l0]; rfl) (ev_pos (by omega) (ev_neg (by decide) (ev_pos (by omega) (ev_some (less_val _ _ _ _) ?_))))
    rw [show rd_T46 l (n : Int) = l.getD n z46 from rfl, less_ltC]
    by_cases h : ltC c (l.getD n z46) = true
    · rw [if_pos h]
      refine ev_pos h (ev_pos (show out.length < 8796093022208 by omega) (ev_some rfl (ev_pos (by simp; omega) ?_)))
      rw [wrap_succ n (by omega)]
      refine ev_eq (insert_done l c hl d (n + 1) _ (by omega) (by simp [ho])) ?_
      simp
    · rw [if_neg h]
      refine ev_neg h (ev_pos (show out.length < 8796093022208 by omega) ?_)
      rw [wrap_succ n (by omega)]
      refine ev_eq (ih (n + 1) _ (by omega) (by simp [ho])) ?_
      simp
theorem insert_val (l : List S46) (c : S46) (hl : l.length ≤ 1000) : Ev (fun k => spec_l02Insert.f k l c.f0 c.f1) (insC c l) := insert_loop l c hl l.length 0 [] (by omega) rfl
theorem insC_len (c : S46) (l : List S46) : (insC c l).length = l.length + 1 := (insC_perm c l).length_eq
theorem ssort_loop (l : List S46) (hl : l.length ≤ 500) (d : Nat) : ∀ (n : Nat) (out : List S46), n + d = l.length → out.length = n → Ev (fun k => spec_l02Sort.l0 k l out n) (insAll out (l.drop n)) := by
  induction d with
  | zero =>
    intro n out hd ho
    refine Ev.step (f := fun _ => _) (fun k => by simp only [spec_l02Sort.l0]; rfl) (ev_neg (by omega) (ev_const ?_))
    rw [List.drop_of_length_le (by omega)]; rfl
  | succ d ih =>
    intro n out hd ho
    rw [drop_cons l z46 n (by omega), insAll]
    refine Ev.step (f := fun _ => _) (fun k => by simp only [spec_l02Sort.l0]; rfl) (ev_pos (by omega) (ev_pos (by omega) (Ev.bind (insert_val out _ (by omega)) ?_)))
    rw [wrap_succ n (by omega)]
    exact ih (n + 1) _ (by omega) (by rw [insC_len, ho])
theorem ssort_val (l : List S46) (hl : l.length ≤ 500) : Ev (fun k => spec_l02Sort.f k l) (sortC l) := by
  rw [← insAll_eq]
  exact ssort_loop l hl l.length 0 [] (by omega) rfl
/-! Turning, without overflow: eight matrices; they compose; sorting and norming do not mind. -/
def nearC (b : Int) (l : List S46) : Prop := ∀ c ∈ l, (-b ≤ c.f0 ∧ c.f0 ≤ b) ∧ (-b ≤ c.f1 ∧ c.f1 ≤ b)
/-! Forms are shapes in normal form. -/
theorem shp_of {l : List S46} (h1 : 1 ≤ l.length) (h40 : l.length ≤ 40) (hn : nearC 100 l) (hs : l.Pairwise leC) (hd : l.Nodup) : Shp l := by
  refine ⟨h1, h40, hn, fun i j hij hj => ?_⟩
  have hi : i < l.length := by omega
  have e1 : cellAt l i = l[i] := by show l.getD i _ = _; rw [List.getD_eq_getElem?_getD, List.getElem?_eq_getElem hi, Option.getD_some]
  have e2 : cellAt l j = l[j] := by show l.getD j _ = _; rw [List.getD_eq_getElem?_getD, List.getElem?_eq_getElem hj, Option.getD_some]
  rw [e1, e2, less_iff]
  have h3 := (leC_iff _ _).1 (List.pairwise_iff_getElem.1 hs i j hi hj hij)
  have h4 : l[i] ≠ l[j] := by
    rw [List.nodup_iff_pairwise_ne] at hd
    exact List.pairwise_iff_getElem.1 hd i j hi hj hij
  have h5 : ¬ ((l[i]).f0 = (l[j]).f0 ∧ (l[i]).f1 = (l[j]).f1) := fun e => h4 (by
    generalize l[i] = a at e
    generalize l[j] = b at e
    obtain ⟨a, b⟩ := a
    simp only at e
    rw [e.1, e.2])
  omega
theorem minF_mem (f : S46 → Int) : ∀ (l : List S46) (x : Int), minF f l x = x ∨ ∃ c ∈ l, minF f l x = f c
  | [], x => .inl rfl
  | c :: r, x => by
    rw [minF]
    rcases minF_mem f r (mn x (f c)) with h | ⟨d, hd, h⟩
    · rw [h]
      unfold mn
      split
      · exact .inr ⟨c, by simp, rfl⟩
      · exact .inl rfl
    · exact .inr ⟨d, by simp [hd], h⟩
theorem corn_mem (l : List S46) (h1 : 1 ≤ l.length) : (∃ c ∈ l, minX l = c.f0) ∧ ∃ c ∈ l, minY l = c.f1 := by
  have h0 := cell_mem l 0 h1
  constructor
  · rcases minF_mem (·.f0) l (cellAt l 0).f0 with h | h
    · exact ⟨_, h0, h⟩
    · exact h
  · rcases minF_mem (·.f1) l (cellAt l 0).f1 with h | h
    · exact ⟨_, h0, h⟩
    · exact h
/-! The order of shapes (its laws stand beside the walk of compareShapes). -/
theorem scmp_loop (a b : List S46) (h : a.length = b.length) (hl : a.length ≤ 1000) (d : Nat) : ∀ n : Nat, n + d = a.length → Ev (fun k => spec_CompareShapes.l0 k a b n) (cmpGo (a.drop n) (b.drop n)) := by
  induction d with
  | zero =>
    intro n hd
    refine Ev.step (f := fun _ => _) (fun k => by simp only [spec_CompareShapes.l0]; rfl) (ev_neg (by omega) (ev_const ?_))
    rw [List.drop_of_length_le (by omega)]; rfl
  | succ d ih =>
    intro n hd
    rw [drop_cons a z46 n (by omega), drop_cons b z46 n (by omega), cmpGo, cfC_val]
    refine Ev.step (f := fun _ => _) (fun k => by simp only [spec_CompareShapes.l0]; rfl) (ev_pos (by omega) (ev_pos (by omega) (ev_pos (by omega) (ev_some (less_val _ _ _ _) ?_))))
    rw [show rd_T46 a (n : Int) = a.getD n z46 from rfl, show rd_T46 b (n : Int) = b.getD n z46 from rfl, less_ltC]
    by_cases p : ltC (a.getD n z46) (b.getD n z46) = true
    · rw [if_pos p, if_neg (by decide)]
      exact ev_pos p (ev_const rfl)
    · rw [if_neg p]
      refine ev_neg p (ev_some (less_val _ _ _ _) ?_)
      rw [less_ltC]
      by_cases q : ltC (b.getD n z46) (a.getD n z46) = true
      · rw [if_pos q, if_neg (by decide)]
        exact ev_pos q (ev_const rfl)
      · rw [if_neg q, if_pos rfl]
        refine ev_neg q ?_
        rw [wrap_succ n (by omega)]
        exact ih (n + 1) (by omega)
theorem scmp_val (a b : List S46) (hl : a.length ≤ 1000) : Ev (fun k => spec_CompareShapes.f k a b) (cmpS a b) := by
  unfold cmpS
  by_cases h : a.length = b.length
  · rw [if_pos h]
    exact ev_pos (by omega) (scmp_loop a b h hl a.length 0 (by omega))
  · rw [if_neg h]
    refine ev_neg (by omega) ?_
    by_cases q : a.length < b.length
    · rw [if_pos q]; exact ev_pos (by omega) (ev_const rfl)
    · rw [if_neg q]; exact ev_neg (by omega) (ev_const rfl)
/-! The least of a list of shapes. -/
def IsLeast (m : List S46) (L : List (List S46)) : Prop := m ∈ L ∧ ∀ x ∈ L, cmpS m x ≤ 0
theorem fold_least : ∀ (r : List (List S46)) (m : List S46), (r.foldl lessL m = m ∨ r.foldl lessL m ∈ r) ∧ cmpS (r.foldl lessL m) m ≤ 0 ∧ ∀ x ∈ r, cmpS (r.foldl lessL m) x ≤ 0
  | [], m => ⟨.inl rfl, by rw [List.foldl_nil, cmpS_self]; omega, by simp⟩
  | y :: r, m => by
    obtain ⟨h1, h2, h3⟩ := fold_least r (lessL m y)
    rw [List.foldl_cons]
    have hm : cmpS (lessL m y) m ≤ 0 ∧ cmpS (lessL m y) y ≤ 0 := by
      unfold lessL
      by_cases z : cmpS y m < 0
      · rw [if_pos z]; exact ⟨by omega, by rw [cmpS_self]; omega⟩
      · rw [if_neg z]
        refine ⟨by rw [cmpS_self]; omega, ?_⟩
        have := cmpS_neg m y
        omega
    refine ⟨?_, cmpS_le_trans _ _ _ h2 hm.1, fun x hx => ?_⟩
    · rcases h1 with h1 | h1
      · rw [h1]
        unfold lessL
        split
        · exact .inr (by simp)
        · exact .inl rfl
      · exact .inr (by simp [h1])
    · rcases List.mem_cons.1 hx with rfl | hx
      · exact cmpS_le_trans _ _ _ h2 hm.2
      · exact h3 x hx
theorem leastL_is (L : List (List S46)) (h : 1 ≤ L.length) : IsLeast (leastL L) L := by
  cases L with
  | nil => simp at h
  | cons x r =>
    obtain ⟨h1, h2, h3⟩ := fold_least r x
    refine ⟨?_, fun y hy => ?_⟩
    · show r.foldl lessL x ∈ x :: r
      rcases h1 with h1 | h1
      · rw [h1]; simp
      · simp [h1]
    · rcases List.mem_cons.1 hy with rfl | hy
      · exact h2
      · exact h3 y hy
/-! The reference's list of forms: ascending, each form once. -/
def Asc (L : List (List S46)) : Prop := L.Pairwise (fun a b => cmpS a b < 0)
theorem add_done (L : List (List S46)) (s : List S46) (hs : s.length ≤ 1000) (hL : L.length ≤ 100000000) (d : Nat) : ∀ (n : Nat) (out : List (List S46)), n + d = L.length → out.length = n + 1 → (∀ j, n ≤ j → j < L.length → cmpS s (L.getD j []) < 0) → Ev (fun k => spec_l03Add.l0 k L s out true n) (out ++ L.drop n) := by
  induction d with
  | zero =>
    intro n out hd ho hlt
    refine Ev.step (f := fun _ => _) (fun k => by simp only [spec_l03Add.l0]; rfl) (ev_neg (by omega) (ev_pos trivial (ev_const ?_)))
    rw [List.drop_of_length_le (by omega), List.append_nil]
  | succ d ih =>
    intro n out hd ho hlt
    have hn := hlt n (Nat.le_refl _) (by omega)
    refine Ev.step (f := fun _ => _) (fun k => by simp only [spec_l03Add.l0]; rfl) (ev_pos (by omega) (ev_pos (by omega) (Ev.bind (scmp_val s _ hs) (ev_neg (show ¬ cmpS s (L.getD n []) = 0 by omega) (ev_pos hn (ev_pos trivial (ev_pos (show out.length < 5864062014805 by omega) ?_)))))))
    rw [wrap_succ n (by omega)]
    refine ev_eq (ih (n + 1) _ (by omega) (by simp [ho]) (fun j h1 h2 => hlt j (by omega) h2)) ?_
    rw [drop_cons L [] n (by omega)]
    (first | (simp [rd_L3]; done) | (simp [rd_L4]; done) | (simp [rd_L2]; done) | (simp [rd_L5]; done))
theorem add_loop (L : List (List S46)) (hA : Asc L) (s : List S46) (hs : s.length ≤ 1000) (hL : L.length ≤ 100000000) (d : Nat) : ∀ (n : Nat), n + d = L.length → (∀ j, j < n → cmpS (L.getD j []) s < 0) →
    ∃ R, Ev (fun k => spec_l03Add.l0 k L s (L.take n) false n) R ∧ Asc R ∧ (∀ z, z ∈ R ↔ z = s ∨ z ∈ L) ∧ R.length ≤ L.length + 1 := by
  have hasc : ∀ i j, i < j → j < L.length → cmpS (L.getD i []) (L.getD j []) < 0 := fun i j hij hj => by
    have := List.pairwise_iff_getElem.1 hA i j (by omega) hj hij
    rw [List.getD_eq_getElem?_getD, List.getElem?_eq_getElem (show i < L.length by omega), List.getD_eq_getElem?_getD, List.getElem?_eq_getElem hj]
    exact this
  have hget : ∀ z, z ∈ L ↔ ∃ i, i < L.length ∧ L.getD i [] = z := fun z => by
    rw [List.mem_iff_getElem]
    constructor
    · rintro ⟨i, hi, e⟩
      exact ⟨i, hi, by rw [List.getD_eq_getElem?_getD, List.getElem?_eq_getElem hi]; exact e⟩
    · rintro ⟨i, hi, e⟩
      exact ⟨i, hi, by rw [List.getD_eq_getElem?_getD, List.getElem?_eq_getElem hi] at e; exact e⟩
  induction d with
  | zero =>
    intro n hd hlt
    refine ⟨L ++ [s], Ev.step (f := fun _ => _) (fun k => by simp only [spec_l03Add.l0]; rfl) (ev_neg (by omega) (ev_neg (by decide) (ev_pos (show (L.take n).length < 5864062014805 by simp; omega) (ev_const ?_)))), ?_, fun z => by simp [or_comm], by simp⟩
    · rw [List.take_of_length_le (by omega)]
    · refine List.pairwise_append.2 ⟨hA, by simp, fun a ha b hb => ?_⟩
      obtain ⟨i, hi, rfl⟩ := (hget a).1 ha
      rw [List.mem_singleton.1 hb]
      exact hlt i (by omega)
  | succ d ih =>
    intro n hd hlt
    have htl : (L.take n).length = n := by simp; omega
    by_cases c0 : cmpS s (L.getD n []) = 0
    · refine ⟨L, Ev.step (f := fun _ => _) (fun k => by simp only [spec_l03Add.l0]; rfl) (ev_pos (by omega) (ev_pos (by omega) (Ev.bind (scmp_val s _ hs) (ev_pos c0 (ev_const rfl))))), hA, fun z => ?_, by omega⟩
      have e := (cmpS_zero _ _).1 c0
      constructor
      · exact .inr
      · rintro (rfl | h)
        · exact (hget _).2 ⟨n, by omega, e.symm⟩
        · exact h
    · by_cases c1 : cmpS s (L.getD n []) < 0
      · have hall : ∀ j, n ≤ j → j < L.length → cmpS s (L.getD j []) < 0 := fun j h1 h2 => by
          by_cases e : j = n
          · subst e; exact c1
          · exact cmpS_trans _ _ _ c1 (hasc n j (by omega) h2)
        refine ⟨(L.take n ++ [s]) ++ L.drop n, Ev.step (f := fun _ => _) (fun k => by simp only [spec_l03Add.l0]; rfl) (ev_pos (by omega) (ev_pos (by omega) (Ev.bind (scmp_val s _ hs) (ev_neg c0 (ev_pos c1 (ev_neg (show ¬ (false = true) by decide) (ev_pos (show (L.take n).length < 5864062014805 by omega) (ev_some rfl (ev_pos (show (L.take n ++ [s]).length < 5864062014805 by simp; omega) ?_))))))))), ?_, fun z => ?_, by simp; omega⟩
        · rw [wrap_succ n (by omega)]
          refine ev_eq (add_done L s hs hL d (n + 1) _ (by omega) (by simp; omega) (fun j h1 h2 => hall j (by omega) h2)) ?_
          rw [drop_cons L [] n (by omega)]
          (first | (simp [rd_L3]; done) | (simp [rd_L4]; done) | (simp [rd_L2]; done) | (simp [rd_L5]; done))
        · have hA' : (L.take n ++ L.drop n).Pairwise (fun a b => cmpS a b < 0) := by rw [List.take_append_drop]; exact hA
          obtain ⟨g1, g2, g3⟩ := List.pairwise_append.1 hA'
          rw [List.append_assoc, List.singleton_append]
          have hpre : ∀ a ∈ L.take n, cmpS a s < 0 := fun a ha => by
            obtain ⟨i, hi, rfl⟩ := List.getElem_of_mem ha
            rw [htl] at hi
            have := hlt i hi
            rw [List.getD_eq_getElem?_getD, List.getElem?_eq_getElem (show i < L.length by omega)] at this
            rw [List.getElem_take]
            exact this
          have hsuf : ∀ b ∈ L.drop n, cmpS s b < 0 := fun b hb => by
            obtain ⟨i, hi, rfl⟩ := List.getElem_of_mem hb
            rw [List.length_drop] at hi
            have := hall (n + i) (by omega) (by omega)
            rw [List.getD_eq_getElem?_getD, List.getElem?_eq_getElem (show n + i < L.length by omega)] at this
            rw [List.getElem_drop]
            exact this
          refine List.pairwise_append.2 ⟨g1, List.pairwise_cons.2 ⟨hsuf, g2⟩, fun a ha b hb => ?_⟩
          rcases List.mem_cons.1 hb with rfl | hb
          · exact hpre a ha
          · exact g3 a ha b hb
        · have e : z ∈ L ↔ z ∈ L.take n ∨ z ∈ L.drop n := by rw [← List.mem_append, List.take_append_drop]
          simp only [List.mem_append, List.mem_singleton, e]
          constructor
          · rintro ((h | h) | h)
            · exact .inr (.inl h)
            · exact .inl h
            · exact .inr (.inr h)
          · rintro (h | h | h)
            · exact .inl (.inr h)
            · exact .inl (.inl h)
            · exact .inr h
      · obtain ⟨R, r1, r2⟩ := ih (n + 1) (by omega) (fun j hj => by
          by_cases e : j = n
          · subst e
            have := cmpS_neg s (L.getD j [])
            omega
          · exact hlt j (by omega))
        refine ⟨R, Ev.step (f := fun _ => _) (fun k => by simp only [spec_l03Add.l0]; rfl) (ev_pos (by omega) (ev_pos (by omega) (Ev.bind (scmp_val s _ hs) (ev_neg c0 (ev_neg c1 (ev_pos (show (L.take n).length < 5864062014805 by omega) ?_)))))), r2⟩
        rw [wrap_succ n (by omega)]
        rw [take_succ_getD L [] n (by omega)] at r1
        exact r1
theorem add_val (L : List (List S46)) (hA : Asc L) (s : List S46) (hs : s.length ≤ 1000) (hL : L.length ≤ 100000000) : ∃ R, Ev (fun k => spec_l03Add.f k L s) R ∧ Asc R ∧ (∀ z, z ∈ R ↔ z = s ∨ z ∈ L) ∧ R.length ≤ L.length + 1 := by
  obtain ⟨R, h⟩ := add_loop L hA s hs hL L.length 0 (by omega) (fun j hj => by omega)
  exact ⟨R, h⟩
theorem dedFrom_laws (r : List (List S46)) : ∀ p : List S46, r.Pairwise (fun a b => cmpS a b ≤ 0) → (∀ y ∈ r, cmpS p y ≤ 0) → (∀ y ∈ dedFrom p r, cmpS p y < 0) ∧ (dedFrom p r).Pairwise (fun a b => cmpS a b < 0) ∧ ∀ z, z ∈ dedFrom p r ↔ z ∈ r ∧ z ≠ p := by
  induction r with
  | nil =>
    intro p _ _
    simp [dedFrom]
  | cons y r ih =>
    intro p hp hy
    obtain ⟨hp1, hp2⟩ := List.pairwise_cons.mp hp
    obtain ⟨i1, i2, i3⟩ := ih y hp2 hp1
    by_cases c : cmpS y p = 0
    · have e := (cmpS_zero y p).1 c
      subst e
      have ed : dedFrom y (y :: r) = dedFrom y r := by simp only [dedFrom]; rw [if_pos c]
      rw [ed]
      refine ⟨i1, i2, fun z => ?_⟩
      rw [i3 z, List.mem_cons]
      constructor
      · rintro ⟨a, b⟩
        exact ⟨Or.inr a, b⟩
      · rintro ⟨a | a, b⟩
        · exact absurd a b
        · exact ⟨a, b⟩
    · have ed : dedFrom p (y :: r) = y :: dedFrom y r := by simp only [dedFrom]; rw [if_neg c]
      rw [ed]
      have hlt : cmpS p y < 0 := by
        have h1 := hy y (List.mem_cons_self ..)
        have h2 := cmpS_neg p y
        omega
      have hne : y ≠ p := fun e => c ((cmpS_zero y p).2 e)
      refine ⟨fun z hz => ?_, List.pairwise_cons.mpr ⟨i1, i2⟩, fun z => ?_⟩
      · rcases List.mem_cons.mp hz with e | hz
        · subst e
          exact hlt
        · exact cmpS_trans p y z hlt (i1 z hz)
      · rw [List.mem_cons, i3 z, List.mem_cons]
        constructor
        · rintro (e | ⟨a, b⟩)
          · subst e
            exact ⟨Or.inl rfl, hne⟩
          · refine ⟨Or.inr a, fun e => ?_⟩
            subst e
            have h1 := hp1 z a
            have h2 := cmpS_neg z y
            omega
        · rintro ⟨e | a, b⟩
          · exact Or.inl e
          · by_cases e : z = y
            · exact Or.inl e
            · exact Or.inr ⟨a, e⟩
theorem dedS_laws (L : List (List S46)) (h : L.Pairwise (fun a b => cmpS a b ≤ 0)) : (dedS L).Pairwise (fun a b => cmpS a b < 0) ∧ ∀ z, z ∈ dedS L ↔ z ∈ L := by
  cases L with
  | nil => simp [dedS]
  | cons x r =>
    obtain ⟨hp1, hp2⟩ := List.pairwise_cons.mp h
    obtain ⟨i1, i2, i3⟩ := dedFrom_laws r x hp2 hp1
    have ed : dedS (x :: r) = x :: dedFrom x r := rfl
    rw [ed]
    refine ⟨List.pairwise_cons.mpr ⟨i1, i2⟩, fun z => ?_⟩
    rw [List.mem_cons, i3 z, List.mem_cons]
    constructor
    · rintro (e | ⟨a, _⟩)
      · exact Or.inl e
      · exact Or.inr a
    · rintro (e | a)
      · exact Or.inl e
      · by_cases e : z = x
        · exact Or.inl e
        · exact Or.inr ⟨a, e⟩
theorem leS_iff (a b : List S46) : leS a b = true ↔ cmpS a b ≤ 0 := by
  unfold leS
  have h := cmpS_neg a b
  simp only [Bool.not_eq_true', decide_eq_false_iff_not]
  omega
theorem sortS_pair (L : List (List S46)) : (sortS L).Pairwise (fun a b => cmpS a b ≤ 0) := by
  have h : (sortS L).Pairwise (fun a b => leS a b = true) := by
    unfold sortS
    first
      | exact List.pairwise_mergeSort (fun a b c h1 h2 => (leS_iff a c).2 (cmpS_le_trans a b c ((leS_iff a b).1 h1) ((leS_iff b c).1 h2))) (fun a b => by
          have h := cmpS_neg a b
          by_cases c : cmpS a b ≤ 0
          · simp [(leS_iff a b).2 c]
          · simp [(leS_iff b a).2 (by omega)]) L
      | exact List.sorted_mergeSort (fun a b c h1 h2 => (leS_iff a c).2 (cmpS_le_trans a b c ((leS_iff a b).1 h1) ((leS_iff b c).1 h2))) (fun a b => by
          have h := cmpS_neg a b
          by_cases c : cmpS a b ≤ 0
          · simp [(leS_iff a b).2 c]
          · simp [(leS_iff b a).2 (by omega)]) L
  exact h.imp (fun {a b} h => (leS_iff a b).1 h)
theorem tidyL_laws (L : List (List S46)) : (tidyL L).Pairwise (fun a b => cmpS a b < 0) ∧ ∀ z, z ∈ tidyL L ↔ z ∈ L := by
  obtain ⟨h1, h2⟩ := dedS_laws (sortS L) (sortS_pair L)
  refine ⟨h1, fun z => ?_⟩
  show z ∈ dedS (sortS L) ↔ z ∈ L
  rw [h2 z]
  exact (List.mergeSort_perm L leS).mem_iff
/-! The drawing of numbers: whatever the code, a number below the bound comes, and the source stays sound. -/
structure St (code : List Int) (p seed : Int) : Prop where
  byte : ∀ x ∈ code, 0 ≤ x ∧ x ≤ 255
  len : code.length ≤ 4096
  at0 : 0 ≤ p
  at1 : p ≤ (code.length : Int)
  s0 : 0 ≤ seed
  s1 : seed < 2147483647
theorem tmod_in (x n : Int) (hx : 0 ≤ x) (hn : 0 < n) : 0 ≤ Int.tmod x n ∧ Int.tmod x n < n := by
  rw [Int.tmod_eq_emod_of_nonneg hx]
  exact ⟨Int.emod_nonneg _ (by omega), Int.emod_lt_of_pos _ hn⟩
theorem rd_byte (code : List Int) (h : ∀ x ∈ code, 0 ≤ x ∧ x ≤ 255) (i : Int) : 0 ≤ rd code i ∧ rd code i ≤ 255 := by
  unfold rd
  rw [List.getD_eq_getElem?_getD]
  cases hx : code[i.toNat]? with
  | none => simp
  | some v => exact h v (List.mem_of_getElem? hx)
theorem seed_step (seed : Int) (h0 : 0 ≤ seed) (h1 : seed < 2147483647) : 0 ≤ Int.tmod (wrap64 (wrap64 (seed * 48271) + 29)) 2147483647 ∧ Int.tmod (wrap64 (wrap64 (seed * 48271) + 29)) 2147483647 < 2147483647 := by
  rw [wrap_id (seed * 48271) (by omega) (by omega), wrap_id _ (by omega) (by omega)]
  exact tmod_in _ _ (by omega) (by omega)
theorem next_some (code : List Int) (p seed n : Int) (h : St code p seed) : ∃ x a s, spec_l01Next.f code p seed n = some (x, a, s) ∧ St code a s ∧ 0 ≤ x ∧ (1 < n → x < n) ∧ (n ≤ 1 → x = 0) := by
  unfold spec_l01Next.f
  by_cases c1 : n ≤ 1
  · exact ⟨0, p, seed, if_pos c1, h, Int.le_refl _, fun h => by omega, fun _ => rfl⟩
  · rw [if_neg c1]
    have hs := seed_step seed h.s0 h.s1
    generalize Int.tmod (wrap64 (wrap64 (seed * 48271) + 29)) 2147483647 = z at hs
    have hlen := h.len
    have ha0 := h.at0
    have ha1 := h.at1
    have hn0 : ¬ n = 0 := by omega
    by_cases c2 : p < (code.length : Int)
    · rw [if_pos c2, if_pos ha0]
      have e1 : wrap64 (p + 1) = p + 1 := wrap_id _ (by omega) (by omega)
      have e2 : wrap64 (p + 1 - 1) = p := by rw [wrap_id _ (by omega) (by omega)]; omega
      have hst : St code (p + 1) z := ⟨h.byte, hlen, by omega, by omega, hs.1, hs.2⟩
      have hb := rd_byte code h.byte p
      rw [e1, e2]
      have big : ∀ y : Int, 0 ≤ y ∧ y ≤ 255 → ∃ x a s, (if n = 0 then (none : Option (Int × Int × Int)) else some (Int.tmod (wrap64 (wrap64 (Int.tdiv z 31) + wrap64 y)) n, p + 1, z)) = some (x, a, s) ∧ St code a s ∧ 0 ≤ x ∧ (1 < n → x < n) ∧ (n ≤ 1 → x = 0) := by
        intro y hy
        rw [if_neg hn0]
        have hz : Int.tdiv z 31 = z / 31 := Int.tdiv_eq_ediv_of_nonneg hs.1
        rw [hz, wrap_id (z / 31) (by omega) (by omega), wrap_id y (by omega) (by omega), wrap_id _ (by omega) (by omega)]
        have := tmod_in (z / 31 + y) n (by omega) (by omega)
        exact ⟨_, _, _, rfl, hst, this.1, fun _ => this.2, fun h => by omega⟩
      by_cases c3 : n ≤ 256
      · rw [if_pos c3]
        by_cases c4 : Int.tmod (p + 1) 2 = 0
        · rw [if_pos c4, if_pos ha0, if_pos c2, if_neg hn0, wrap_id (rd code p) (by omega) (by omega)]
          have := tmod_in (rd code p) n hb.1 (by omega)
          exact ⟨_, _, _, rfl, hst, this.1, fun _ => this.2, fun h => by omega⟩
        · rw [if_neg c4]
          exact big _ hb
      · rw [if_neg c3]
        exact big _ hb
    · rw [if_neg c2, if_neg hn0]
      have hz : Int.tdiv z 31 = z / 31 := Int.tdiv_eq_ediv_of_nonneg hs.1
      rw [hz, wrap_id _ (by omega) (by omega)]
      have := tmod_in (z / 31) n (by omega) (by omega)
      exact ⟨_, _, _, rfl, ⟨h.byte, hlen, ha0, ha1, hs.1, hs.2⟩, this.1, fun _ => this.2, fun h => by omega⟩
theorem from_loop (code : List Int) (hb : ∀ x ∈ code, 0 ≤ x ∧ x ≤ 255) (hl : code.length ≤ 4096) (d : Nat) : ∀ (i : Nat) (seed : Int), i + d = 64 → 0 ≤ seed → seed < 2147483647 →
    ∃ s, Ev (fun k => spec_l01From.l0 k code i code 0 seed) (code, 0, s) ∧ 0 ≤ s ∧ s < 2147483647 := by
  induction d with
  | zero =>
    intro i seed hi h0 h1
    refine ⟨seed, Ev.step (f := fun _ => _) (fun k => by simp only [spec_l01From.l0]; rfl) ?_, h0, h1⟩
    by_cases c : (i : Int) < (code.length : Int)
    · exact ev_pos c (ev_neg (by omega) (ev_const rfl))
    · exact ev_neg c (ev_const rfl)
  | succ d ih =>
    intro i seed hi h0 h1
    by_cases c : (i : Int) < (code.length : Int)
    · have hr := rd_byte code hb i
      have hw : 0 ≤ Int.tmod (wrap64 (wrap64 (seed * 47) + wrap64 (rd code i))) 2147483647 ∧ Int.tmod (wrap64 (wrap64 (seed * 47) + wrap64 (rd code i))) 2147483647 < 2147483647 := by
        rw [wrap_id (seed * 47) (by omega) (by omega), wrap_id (rd code i) (by omega) (by omega), wrap_id _ (by omega) (by omega)]
        exact tmod_in _ _ (by omega) (by omega)
      obtain ⟨s, g1, g2, g3⟩ := ih (i + 1) _ (by omega) hw.1 hw.2
      refine ⟨s, Ev.step (f := fun _ => _) (fun k => by simp only [spec_l01From.l0]; rfl) (ev_pos c (ev_pos (by omega) (ev_pos (by omega) ?_))), g2, g3⟩
      rw [wrap_succ i (by omega)]
      exact g1
    · exact ⟨seed, Ev.step (f := fun _ => _) (fun k => by simp only [spec_l01From.l0]; rfl) (ev_neg c (ev_const rfl)), h0, h1⟩
theorem from_some (code : List Int) (hb : ∀ x ∈ code, 0 ≤ x ∧ x ≤ 255) (hl : code.length ≤ 4096) : ∃ s, Ev (fun k => spec_l01From.f k code) (code, 0, s) ∧ St code 0 s := by
  obtain ⟨s, h1, h2, h3⟩ := from_loop code hb hl 64 0 61003 (by omega) (by omega) (by omega)
  exact ⟨s, h1, ⟨hb, hl, Int.le_refl _, by omega, h2, h3⟩⟩
/-! The drawn shapes: whatever the code, some list of at most 50 cells comes out. -/
theorem index_any (l : List S46) (hl : l.length ≤ 1000000) (c : S46) (d : Nat) : ∀ n : Nat, n + d = l.length → ∃ v : Int, Ev (fun k => spec_l02Index.l0 k l n c.f0 c.f1) v ∧ (v < 0 → ∀ i, n ≤ i → i < l.length → l.getD i z46 ≠ c) ∧ -1 ≤ v ∧ v < (l.length : Int) := by
  induction d with
  | zero =>
    intro n hd
    exact ⟨-1, Ev.step (f := fun _ => _) (fun k => by simp only [spec_l02Index.l0]; rfl) (ev_neg (by omega) (ev_const rfl)), fun _ i h1 h2 => by omega, by omega, by omega⟩
  | succ d ih =>
    intro n hd
    obtain ⟨v, hv, h1, h2, h3⟩ := ih (n + 1) (by omega)
    by_cases e : l.getD n z46 = c
    · refine ⟨(n : Int), Ev.step (f := fun _ => _) (fun k => by simp only [spec_l02Index.l0]; rfl) (ev_pos (by omega) (ev_pos (by omega) (ev_pos ?_ (ev_const rfl)))), fun h => by omega, by omega, by omega⟩
      rw [show rd_T46 l (n : Int) = l.getD n z46 from rfl, e]; simp
    · refine ⟨v, Ev.step (f := fun _ => _) (fun k => by simp only [spec_l02Index.l0]; rfl) (ev_pos (by omega) (ev_pos (by omega) (ev_neg ?_ ?_))), fun h i hi hil => ?_, h2, h3⟩
      · rw [show rd_T46 l (n : Int) = l.getD n z46 from rfl]
        intro h
        simp only [Bool.and_eq_true, beq_iff_eq] at h
        apply e
        generalize l.getD n z46 = a at h
        obtain ⟨x, y⟩ := a
        obtain ⟨z, w⟩ := c
        simp only at h
        rw [h.1, h.2]
      · rw [wrap_succ n (by omega)]; exact hv
      · by_cases e2 : i = n
        · subst e2; exact e
        · exact h1 h i (by omega) hil
theorem index_any' (l : List S46) (hl : l.length ≤ 1000000) (c : S46) : ∃ v : Int, Ev (fun k => spec_l02Index.f k l c.f0 c.f1) v ∧ (c ∉ l → v < 0) := by
  obtain ⟨v, h1, h2, h3, h4⟩ := index_any l hl c l.length 0 (by omega)
  by_cases h : c ∈ l
  · exact ⟨v, h1, fun q => absurd h q⟩
  · by_cases hv : v < 0
    · exact ⟨v, h1, fun _ => hv⟩
    · exfalso
      -- the loop answers an index only where the cell stands
      have key : ∀ d n : Nat, n + d = l.length → ∃ u : Int, u < 0 ∧ Ev (fun k => spec_l02Index.l0 k l n c.f0 c.f1) u := by
        intro d
        induction d with
        | zero =>
          intro n hd
          exact ⟨-1, by omega, Ev.step (f := fun _ => _) (fun k => by simp only [spec_l02Index.l0]; rfl) (ev_neg (by omega) (ev_const rfl))⟩
        | succ d ih =>
          intro n hd
          obtain ⟨u, hu, he⟩ := ih (n + 1) (by omega)
          refine ⟨u, hu, Ev.step (f := fun _ => _) (fun k => by simp only [spec_l02Index.l0]; rfl) (ev_pos (by omega) (ev_pos (by omega) (ev_neg ?_ ?_)))⟩
          · rw [show rd_T46 l (n : Int) = l.getD n z46 from rfl]
            intro hq
            simp only [Bool.and_eq_true, beq_iff_eq] at hq
            have hm := getD_mem l z46 n (by omega)
            apply h
            have : l.getD n z46 = c := by
              generalize l.getD n z46 = a at hq
              obtain ⟨x, y⟩ := a
              obtain ⟨z, w⟩ := c
              simp only at hq
              rw [hq.1, hq.2]
            rw [← this]; exact hm
          · rw [wrap_succ n (by omega)]; exact he
      obtain ⟨u, hu, he⟩ := key l.length 0 (by omega)
      have := ev_uniq h1 he
      omega
theorem smove_val (l : List S46) (a b : Int) (hl : l.length ≤ 1000) : Ev (fun k => spec_l02Move.f k l a b) (movL a b l) :=
  ev_eq (smove_loop l a b (by unfold maxLen; omega) (by omega) l.length 0 [] (by omega) rfl) (by simp)
/-! The laws' own dice: whatever the code, a number below the bound. -/
theorem mask_in (x : Int) : 0 ≤ Go.bits .and .u64 x 16777215 ∧ Go.bits .and .u64 x 16777215 ≤ 16777215 := by
  have h : (BitVec.ofInt 64 x &&& BitVec.ofInt 64 16777215).toNat ≤ 16777215 := by
    rw [BitVec.toNat_and]
    exact Nat.le_trans Nat.and_le_right (by decide)
  have e : Go.bits .and .u64 x 16777215 = IntKind.u64.wrap (((BitVec.ofInt 64 x &&& BitVec.ofInt 64 16777215).toNat : Nat) : Int) := rfl
  rw [e]
  generalize (BitVec.ofInt 64 x &&& BitVec.ofInt 64 16777215).toNat = n at h
  simp [IntKind.wrap, IntKind.bits, IntKind.signed]
  omega
theorem roll_loop (code : List Int) (hl : code.length ≤ 4096) (d : Nat) : ∀ (n : Nat) (h : Int), n + d = code.length → ∃ h', Ev (fun k => laws_roll.l0 k code n code 0 h) (code, 0, h') := by
  induction d with
  | zero =>
    intro n h hd
    exact ⟨h, Ev.step (f := fun _ => _) (fun k => by simp only [laws_roll.l0]; rfl) (ev_neg (by omega) (ev_const rfl))⟩
  | succ d ih =>
    intro n h hd
    obtain ⟨h', he⟩ := ih (n + 1) (IntKind.u64.wrap ((IntKind.u64.wrap ((IntKind.u64.wrap (h * 1099511628211)) + (IntKind.u64.wrap (rd code n)))) + 3)) (by omega)
    refine ⟨h', Ev.step (f := fun _ => _) (fun k => by simp only [laws_roll.l0]; rfl) (ev_pos (by omega) (ev_pos (by omega) ?_))⟩
    rw [wrap_succ n (by omega)]
    exact he
theorem roll_val (code : List Int) (hl : code.length ≤ 4096) (a : Int) : ∃ h, Ev (fun k => laws_roll.f k code a) (code, 0, h) := roll_loop code hl code.length 0 _ (by omega)
theorem below_val (code : List Int) (hb : ∀ x ∈ code, 0 ≤ x ∧ x ≤ 255) (hl : code.length ≤ 4096) (h m : Int) (hm : 0 < m) : ∃ x i h', laws_dice_below.f code 0 h m = some (x, i, h') ∧ 0 ≤ x ∧ x < m := by
  have hk := mask_in (IntKind.u64.wrap ((IntKind.u64.wrap (h * 6364136223846793005)) + 1442695040888963407) / 8589934592)
  have hr := rd_byte code hb 0
  unfold laws_dice_below.f
  by_cases c : (0 : Int) < (code.length : Int)
  · rw [if_pos c, if_pos (by omega), if_neg (by omega)]
    refine ⟨_, _, _, rfl, ?_⟩
    generalize Go.bits .and .u64 (IntKind.u64.wrap ((IntKind.u64.wrap (h * 6364136223846793005)) + 1442695040888963407) / 8589934592) 16777215 = z at hk
    rw [wrap_id z (by omega) (by omega), wrap_id (rd code 0) (by omega) (by omega), wrap_id _ (by omega) (by omega)]
    exact tmod_in _ _ (by omega) hm
  · rw [if_neg c, if_neg (by omega)]
    refine ⟨_, _, _, rfl, ?_⟩
    generalize Go.bits .and .u64 (IntKind.u64.wrap ((IntKind.u64.wrap (h * 6364136223846793005)) + 1442695040888963407) / 8589934592) 16777215 = z at hk
    rw [wrap_id z (by omega) (by omega)]
    exact tmod_in _ _ (by omega) hm
/-! Lists of cells, like themselves. -/
theorem likeCells_loop (xs : List S46) (hm : xs.length ≤ 1000000) (d : Nat) : ∀ (n : Nat), n + d = xs.length → Ev (fun k => laws_likeCells.l0 k xs xs n) true := by
  induction d with
  | zero =>
    intro n hd
    exact Ev.step (f := fun _ => _) (fun k => by simp only [laws_likeCells.l0]; rfl) (ev_neg (by omega) (ev_const rfl))
  | succ d ih =>
    intro n hd
    refine Ev.step (f := fun _ => _) (fun k => by simp only [laws_likeCells.l0]; rfl) (ev_pos (by omega) (ev_pos (by omega) (ev_pos (by omega) (ev_neg (by simp) ?_))))
    rw [wrap_succ n (by omega)]
    exact ih (n + 1) (by omega)
theorem likeCells_val (xs : List S46) (hm : xs.length ≤ 1000000) : Ev (fun k => laws_likeCells.f k xs xs) true := ev_pos rfl (likeCells_loop xs hm xs.length 0 (by omega))
/-! The forms of a piece, on both sides; pieces that are alike. -/
theorem asc_uniq (L L' : List (List S46)) (h : L.Pairwise (fun a b => cmpS a b < 0)) (h' : L'.Pairwise (fun a b => cmpS a b < 0)) (e : ∀ z, z ∈ L ↔ z ∈ L') : L = L' := by
  have hn : ∀ M : List (List S46), M.Pairwise (fun a b => cmpS a b < 0) → M.Nodup := fun M hM => by
    rw [List.nodup_iff_pairwise_ne]
    exact hM.imp (fun {a b} hab e => by rw [e, cmpS_self] at hab; omega)
  have hp : L.Perm L' := (List.perm_ext_iff_of_nodup (hn L h) (hn L' h')).2 e
  exact List.Perm.eq_of_pairwise (fun a b _ _ h1 h2 => by have := cmpS_neg a b; omega) h h' hp
theorem likeShapes_loop (L : List (List S46)) (hl : L.length ≤ 1000000) (h : ∀ a ∈ L, a.length ≤ 1000) (d : Nat) : ∀ n : Nat, n + d = L.length → Ev (fun k => laws_likeShapes.l0 k L L n) true := by
  induction d with
  | zero =>
    intro n hn
    exact Ev.step (f := fun _ => _) (fun k => by simp only [laws_likeShapes.l0]; rfl) (ev_neg (by omega) (ev_const rfl))
  | succ d ih =>
    intro n hn
    refine Ev.step (f := fun _ => _) (fun k => by simp only [laws_likeShapes.l0]; rfl) (ev_pos (by omega) (ev_pos (by omega) (ev_pos (by omega) (Ev.bind (likeCells_val (L.getD n []) (by have := h _ (getD_mem L [] n (by omega)); omega)) (ev_pos rfl ?_)))))
    rw [wrap_succ n (by omega)]
    exact ih (n + 1) (by omega)
theorem likeShapes_val (L : List (List S46)) (hl : L.length ≤ 1000000) (h : ∀ a ∈ L, a.length ≤ 1000) : Ev (fun k => laws_likeShapes.f k L L) true := ev_pos rfl (likeShapes_loop L hl h L.length 0 (by omega))
/-! Growing: what both sides list. -/
theorem hasC_iff (l : List S46) (d : S46) : hasC l d = true ↔ d ∈ l := by
  unfold hasC
  rw [List.any_eq_true]
  constructor
  · rintro ⟨x, h1, h2⟩
    rw [(eqC_iff d x).1 h2]
    exact h1
  · intro h
    exact ⟨d, h, (eqC_iff d d).2 rfl⟩
theorem dedCF_mem : ∀ (r : List S46) (p z : S46), (z ∈ dedCF p r ∨ z = p) ↔ (z ∈ r ∨ z = p)
  | [], p, z => by simp [dedCF]
  | y :: r, p, z => by
    rw [dedCF]
    have ih := dedCF_mem r y z
    by_cases c : eqC y p = true
    · rw [if_pos c]
      have e := (eqC_iff y p).1 c
      subst e
      rw [ih, List.mem_cons]
      constructor
      · rintro (h | h)
        · exact .inl (.inr h)
        · exact .inr h
      · rintro ((h | h) | h)
        · exact .inr h
        · exact .inl h
        · exact .inr h
    · rw [if_neg c, List.mem_cons, List.mem_cons]
      constructor
      · rintro ((h | h) | h)
        · exact .inl (.inl h)
        · rcases ih.1 (.inl h) with h | h
          · exact .inl (.inr h)
          · exact .inl (.inl h)
        · exact .inr h
      · rintro ((h | h) | h)
        · exact .inl (.inl h)
        · rcases ih.2 (.inl h) with h | h
          · exact .inl (.inr h)
          · exact .inl (.inl h)
        · exact .inr h
theorem dedC_mem (L : List S46) (z : S46) : z ∈ dedC L ↔ z ∈ L := by
  cases L with
  | nil => simp [dedC]
  | cons x r =>
    rw [dedC, List.mem_cons, List.mem_cons]
    have h := dedCF_mem r x z
    constructor
    · rintro (h1 | h1)
      · exact .inl h1
      · rcases h.1 (.inl h1) with h2 | h2
        · exact .inr h2
        · exact .inl h2
    · rintro (h1 | h1)
      · exact .inl h1
      · rcases h.2 (.inl h1) with h2 | h2
        · exact .inr h2
        · exact .inl h2
theorem dedC_len (L : List S46) : (dedC L).length ≤ L.length := by
  have h : ∀ (r : List S46) (p : S46), (dedCF p r).length ≤ r.length := by
    intro r
    induction r with
    | nil => intro p; exact Nat.le_refl _
    | cons y r ih =>
      intro p
      rw [dedCF]
      have := ih y
      split
      · simp; omega
      · simp; omega
  cases L with
  | nil => exact Nat.le_refl _
  | cons x r => have := h r x; simp [dedC]; omega
theorem nears_mem (N : S46 → List S46) (s : List S46) (z : S46) : z ∈ nearsL N s ↔ ∃ c ∈ s, z ∈ N c ∧ z ∉ s := by
  unfold nearsL nearF
  rw [List.mem_flatMap]
  constructor
  · rintro ⟨c, h1, h2⟩
    rw [List.mem_filter] at h2
    exact ⟨c, h1, h2.1, fun h => by have := (hasC_iff s z).2 h; rw [this] at h2; simp at h2⟩
  · rintro ⟨c, h1, h2, h3⟩
    refine ⟨c, h1, List.mem_filter.2 ⟨h2, ?_⟩⟩
    cases hh : hasC s z with
    | true => exact absurd ((hasC_iff s z).1 hh) h3
    | false => rfl
theorem beside_mem (N : S46 → List S46) (s : List S46) (z : S46) : z ∈ besideL N s ↔ ∃ c ∈ s, z ∈ N c ∧ z ∉ s := by
  unfold besideL
  rw [dedC_mem, (sortC_perm _).mem_iff, nears_mem]
theorem nears_len (N : S46 → List S46) (b : Nat) (hN : ∀ c, (N c).length ≤ b) (t : List S46) : ∀ s : List S46, (s.flatMap (nearF N t)).length ≤ s.length * b
  | [] => by simp
  | c :: s => by
    have ih := nears_len N b hN t s
    have h : (nearF N t c).length ≤ b := Nat.le_trans (List.length_filter_le _ _) (hN c)
    rw [List.flatMap_cons, List.length_append, List.length_cons, Nat.succ_mul]
    omega
theorem beside_len (N : S46 → List S46) (b : Nat) (hN : ∀ c, (N c).length ≤ b) (s : List S46) : (besideL N s).length ≤ s.length * b := by
  unfold besideL
  have h1 := dedC_len (sortC (nearsL N s))
  rw [sortC_len] at h1
  exact Nat.le_trans h1 (nears_len N b hN s s)
theorem index_iff (l : List S46) (hl : l.length ≤ 1000000) (c : S46) : ∃ v : Int, Ev (fun k => spec_l02Index.f k l c.f0 c.f1) v ∧ (v < 0 ↔ c ∉ l) := by
  obtain ⟨v, h1, h2⟩ := index_any' l hl c
  obtain ⟨u, g1, g2, _, _⟩ := index_any l hl c l.length 0 (by omega)
  have e : v = u := ev_uniq h1 g1
  subst e
  refine ⟨v, h1, fun h hm => ?_, h2⟩
  obtain ⟨i, hi, e⟩ := List.getElem_of_mem hm
  exact g2 h i (Nat.zero_le _) hi (by rw [List.getD_eq_getElem?_getD, List.getElem?_eq_getElem hi, Option.getD_some, e])
/-! What is listed: shapes in normal form, connected; every connected shape is listed. -/
theorem ins_sort (d : S46) (s : List S46) (h : s.Pairwise leC) : insC d s = sortC (s ++ [d]) :=
  sort_unique ((insC_perm d s).trans ((List.perm_append_comm (l₁ := [d]) (l₂ := s)).trans (sortC_perm _).symm)) (insC_sorted d s h) (sortC_sorted _)
theorem Shp.srt {l : List S46} (h : Shp l) : l.Pairwise leC := by
  rw [List.pairwise_iff_getElem]
  intro i j hi hj hij
  have := (less_iff _ _).1 (h.rise i j hij hj)
  have e1 : cellAt l i = l[i] := by show l.getD i _ = _; rw [List.getD_eq_getElem?_getD, List.getElem?_eq_getElem hi, Option.getD_some]
  have e2 : cellAt l j = l[j] := by show l.getD j _ = _; rw [List.getD_eq_getElem?_getD, List.getElem?_eq_getElem hj, Option.getD_some]
  rw [e1, e2] at this
  exact (leC_iff _ _).2 (by omega)
/-! A lattice: neighbours of cells, and a normal form that only moves. -/
def nrC (b : Int) (c : S46) : Prop := (-b ≤ c.f0 ∧ c.f0 ≤ b) ∧ (-b ≤ c.f1 ∧ c.f1 ≤ b)
def shf (p q : Int) (c : S46) : S46 := ⟨c.f0 + p, c.f1 + q⟩
structure LatOk (N : S46 → List S46) (T : List S46 → List S46) (V : Int → Int → Prop) (K : S46 → Prop) (b : Nat) : Prop where
  near : ∀ c d, nrC 1000 c → K c → d ∈ N c → (-2 ≤ d.f0 - c.f0 ∧ d.f0 - c.f0 ≤ 2) ∧ (-2 ≤ d.f1 - c.f1 ∧ d.f1 - c.f1 ≤ 2)
  sym : ∀ c d, nrC 1000 c → K c → d ∈ N c → c ∈ N d ∧ K d
  mov : ∀ p q c d, V p q → nrC 1000 c → nrC 1000 (shf p q c) → K c → d ∈ N c → shf p q d ∈ N (shf p q c)
  cls : ∀ p q c, V p q → K c → K (shf p q c)
  few : ∀ c, (N c).length ≤ b
  free : ∀ c, nrC 1000 c → K c → ∃ d ∈ N c, d.f0 < c.f0
  tid : ∀ s, 1 ≤ s.length → s.length ≤ 100 → (∀ c ∈ s, nrC 100 c) → ∃ p q, V p q ∧ T s = s.map (shf p q) ∧ (∀ c ∈ s, 0 ≤ c.f0 + p ∧ 0 ≤ c.f1 + q) ∧ (∃ c ∈ s, c.f0 + p ≤ 2) ∧ ∃ c ∈ s, c.f1 + q ≤ 2
def ConN (N : S46 → List S46) (s : List S46) : Prop := ∀ Q : S46 → Prop, (∃ c ∈ s, Q c) → (∀ c ∈ s, ∀ d ∈ s, d ∈ N c → Q c → Q d) → ∀ c ∈ s, Q c
structure GdN (N : S46 → List S46) (K : S46 → Prop) (k : Nat) (s : List S46) : Prop where
  len : s.length = k + 1
  srt : s.Pairwise leC
  nd : s.Nodup
  spr : ∀ c ∈ s, ∀ d ∈ s, c.f0 - d.f0 ≤ 2 * (k : Int) ∧ c.f1 - d.f1 ≤ 2 * (k : Int)
  lo : ∀ c ∈ s, 0 ≤ c.f0 ∧ 0 ≤ c.f1
  hi : (∃ c ∈ s, c.f0 ≤ 2) ∧ ∃ c ∈ s, c.f1 ≤ 2
  cls : ∀ c ∈ s, K c
  con : ConN N s
theorem GdN.rng {N : S46 → List S46} {K : S46 → Prop} {k : Nat} {s : List S46} (h : GdN N K k s) : ∀ c ∈ s, (0 ≤ c.f0 ∧ c.f0 ≤ 2 * (k : Int) + 2) ∧ (0 ≤ c.f1 ∧ c.f1 ≤ 2 * (k : Int) + 2) := by
  intro c hc
  obtain ⟨⟨a, ha, ha2⟩, b, hb, hb2⟩ := h.hi
  have h1 := h.lo c hc
  have h2 := h.spr c hc a ha
  have h3 := h.spr c hc b hb
  omega
theorem shf_inj {p q : Int} {c d : S46} (h : shf p q c = shf p q d) : c = d := by
  obtain ⟨a, b⟩ := c
  obtain ⟨x, y⟩ := d
  simp only [shf, S46.mk.injEq] at h ⊢
  omega
theorem con_shf (N : S46 → List S46) (p q : Int) (s : List S46) (hm : ∀ c ∈ s, ∀ d ∈ s, d ∈ N c → shf p q d ∈ N (shf p q c)) (h : ConN N s) : ConN N (s.map (shf p q)) := by
  intro Q hex hQ
  obtain ⟨x, hx, hqx⟩ := hex
  obtain ⟨x0, hx0, rfl⟩ := List.mem_map.1 hx
  have h1 := h (fun c => Q (shf p q c)) ⟨x0, hx0, hqx⟩ (fun c hc d hd hn hq => hQ _ (List.mem_map.2 ⟨c, hc, rfl⟩) _ (List.mem_map.2 ⟨d, hd, rfl⟩) (hm c hc d hd hn) hq)
  intro c hc
  obtain ⟨c0, hc0, rfl⟩ := List.mem_map.1 hc
  exact h1 c0 hc0
theorem lat_step {N : S46 → List S46} {T : List S46 → List S46} {V : Int → Int → Prop} {K : S46 → Prop} {b : Nat} (HL : LatOk N T V K b) (k : Nat) (hk : k ≤ 10) (s : List S46) (h : GdN N K k s) (d : S46) (hd : ∃ c ∈ s, d ∈ N c ∧ d ∉ s) : GdN N K (k + 1) (T (sortC (s ++ [d]))) := by
  obtain ⟨c, hc, hdc, hds⟩ := hd
  have hcr := h.rng c hc
  have hnc : nrC 1000 c := by unfold nrC; omega
  have hst := HL.near c d hnc (h.cls c hc) hdc
  obtain ⟨hcd, hKd⟩ := HL.sym c d hnc (h.cls c hc) hdc
  obtain ⟨S, hS⟩ : ∃ S, S = sortC (s ++ [d]) := ⟨_, rfl⟩
  rw [← hS]
  have hperm : S.Perm (s ++ [d]) := by rw [hS]; exact sortC_perm _
  have hsrt : S.Pairwise leC := by rw [hS]; exact sortC_sorted _
  have hlen : S.length = k + 2 := by rw [hperm.length_eq, List.length_append, h.len]; rfl
  have hmem : ∀ x, x ∈ S ↔ x ∈ s ∨ x = d := fun x => by rw [hperm.mem_iff]; simp
  have hnd : S.Nodup := hperm.nodup_iff.2 (List.nodup_append.2 ⟨h.nd, by simp, fun a ha b hb e => by
    rw [List.mem_singleton.1 hb] at e
    rw [e] at ha
    exact hds ha⟩)
  have hrng : ∀ x ∈ S, (-2 ≤ x.f0 ∧ x.f0 ≤ 2 * (k : Int) + 4) ∧ (-2 ≤ x.f1 ∧ x.f1 ≤ 2 * (k : Int) + 4) := fun x hx => by
    rcases (hmem x).1 hx with hx | hx
    · have := h.rng x hx; omega
    · rw [hx]; omega
  have hspr : ∀ x ∈ S, ∀ y ∈ S, x.f0 - y.f0 ≤ 2 * (k : Int) + 2 ∧ x.f1 - y.f1 ≤ 2 * (k : Int) + 2 := fun x hx y hy => by
    rcases (hmem x).1 hx with hx | hx
    · rcases (hmem y).1 hy with hy | hy
      · have := h.spr x hx y hy; omega
      · have := h.spr x hx c hc; rw [hy]; omega
    · rcases (hmem y).1 hy with hy | hy
      · have := h.spr c hc y hy; rw [hx]; omega
      · rw [hx, hy]; omega
  have hcls : ∀ x ∈ S, K x := fun x hx => by
    rcases (hmem x).1 hx with hx | hx
    · exact h.cls x hx
    · rw [hx]; exact hKd
  have hcon : ConN N S := by
    intro Q hex hQ
    obtain ⟨x, hx, hqx⟩ := hex
    have h1 : ∃ y ∈ s, Q y := by
      rcases (hmem x).1 hx with hx1 | hx1
      · exact ⟨x, hx1, hqx⟩
      · exact ⟨c, hc, hQ x hx c ((hmem c).2 (.inl hc)) (by rw [hx1]; exact hcd) hqx⟩
    have h2 := h.con Q h1 (fun y hy z hz hn hq => hQ y ((hmem y).2 (.inl hy)) z ((hmem z).2 (.inl hz)) hn hq)
    intro y hy
    rcases (hmem y).1 hy with hy1 | hy1
    · exact h2 y hy1
    · exact hQ c ((hmem c).2 (.inl hc)) y hy (by rw [hy1]; exact hdc) (h2 c hc)
  obtain ⟨p, q, hV, hT, hlo, hh0, hh1⟩ := HL.tid S (by omega) (by omega) (fun x hx => by have := hrng x hx; unfold nrC; omega)
  obtain ⟨u0, hu0, hu0'⟩ := hh0
  obtain ⟨u1, hu1, hu1'⟩ := hh1
  have hu2 := hrng u0 hu0
  have hu3 := hrng u1 hu1
  have hlo0 := hlo u0 hu0
  have hlo1 := hlo u1 hu1
  rw [hT]
  refine ⟨by rw [List.length_map, hlen], ?_, ?_, ?_, ?_, ⟨⟨_, List.mem_map.2 ⟨u0, hu0, rfl⟩, hu0'⟩, _, List.mem_map.2 ⟨u1, hu1, rfl⟩, hu1'⟩, ?_, ?_⟩
  · rw [List.pairwise_map]
    refine hsrt.imp (fun {x y} hxy => ?_)
    have := (leC_iff x y).1 hxy
    exact (leC_iff _ _).2 (by simp only [shf]; omega)
  · unfold List.Nodup
    rw [List.pairwise_map]
    exact hnd.imp (fun {x y} hxy e => hxy (shf_inj e))
  · intro x hx y hy
    obtain ⟨x0, hx0, rfl⟩ := List.mem_map.1 hx
    obtain ⟨y0, hy0, rfl⟩ := List.mem_map.1 hy
    have := hspr x0 hx0 y0 hy0
    simp only [shf]
    omega
  · intro x hx
    obtain ⟨x0, hx0, rfl⟩ := List.mem_map.1 hx
    exact hlo x0 hx0
  · intro x hx
    obtain ⟨x0, hx0, rfl⟩ := List.mem_map.1 hx
    exact HL.cls p q x0 hV (hcls x0 hx0)
  · refine con_shf N p q S (fun x hx y hy hn => ?_) hcon
    have h1 := hrng x hx
    exact HL.mov p q x y hV (by unfold nrC; omega) (by unfold nrC shf; simp only; omega) (hcls x hx) hn
theorem lat_grown (N : S46 → List S46) (T : List S46 → List S46) (s z : List S46) : z ∈ grownL N T s ↔ ∃ d, (∃ c ∈ s, d ∈ N c ∧ d ∉ s) ∧ z = T (sortC (s ++ [d])) := by
  unfold grownL
  rw [(tidyL_laws _).2, List.mem_map]
  constructor
  · rintro ⟨d, h1, h2⟩
    exact ⟨d, (beside_mem N s d).1 h1, h2.symm⟩
  · rintro ⟨d, h1, h2⟩
    exact ⟨d, (beside_mem N s d).2 h1, h2.symm⟩
theorem lat_mem (N : S46 → List S46) (T : List S46 → List S46) (F : List (List S46)) (k : Nat) (z : List S46) : z ∈ allGrownL N T F (k + 1) ↔ ∃ s ∈ allGrownL N T F k, ∃ d, (∃ c ∈ s, d ∈ N c ∧ d ∉ s) ∧ z = T (sortC (s ++ [d])) := by
  show z ∈ tidyL (nextL N T (allGrownL N T F k)) ↔ _
  rw [(tidyL_laws _).2]
  unfold nextL
  rw [List.mem_flatMap]
  constructor
  · rintro ⟨s, h1, h2⟩
    exact ⟨s, h1, (lat_grown N T s z).1 h2⟩
  · rintro ⟨s, h1, h2⟩
    exact ⟨s, h1, (lat_grown N T s z).2 h2⟩
theorem lat_good {N : S46 → List S46} {T : List S46 → List S46} {V : Int → Int → Prop} {K : S46 → Prop} {b : Nat} (HL : LatOk N T V K b) (F : List (List S46)) (hF : ∀ s ∈ F, GdN N K 0 s) : ∀ k, k ≤ 10 → ∀ s ∈ allGrownL N T F k, GdN N K k s
  | 0, _ => fun s hs => hF s hs
  | k + 1, hk => fun s hs => by
    obtain ⟨t, ht, d, hd, rfl⟩ := (lat_mem N T F k s).1 hs
    exact lat_step HL k (by omega) t (lat_good HL F hF k (by omega) t ht) d hd
theorem lat_asc (N : S46 → List S46) (T : List S46 → List S46) (F : List (List S46)) (hF : Asc F) : ∀ k, Asc (allGrownL N T F k)
  | 0 => hF
  | k + 1 => (tidyL_laws _).1
theorem dedS_len' (L : List (List S46)) : (dedS L).length ≤ L.length := by
  have h : ∀ (r : List (List S46)) (p : List S46), (dedFrom p r).length ≤ r.length := by
    intro r
    induction r with
    | nil => intro p; exact Nat.le_refl _
    | cons y r ih =>
      intro p
      rw [dedFrom]
      have := ih y
      split
      · simp; omega
      · simp; omega
  cases L with
  | nil => exact Nat.le_refl _
  | cons x r => have := h r x; simp [dedS]; omega
theorem tidyL_len' (L : List (List S46)) : (tidyL L).length ≤ L.length := by
  have := dedS_len' (sortS L)
  unfold tidyL
  rw [show (sortS L).length = L.length from List.length_mergeSort _] at this
  exact this
theorem lat_grown_len (N : S46 → List S46) (T : List S46 → List S46) (b : Nat) (hb : ∀ c, (N c).length ≤ b) (s : List S46) : (grownL N T s).length ≤ s.length * b := by
  unfold grownL
  have h := tidyL_len' ((besideL N s).map (growOne T s))
  rw [List.length_map] at h
  exact Nat.le_trans h (beside_len N b hb s)
theorem lat_next_len (N : S46 → List S46) (T : List S46 → List S46) (b : Nat) (hb : ∀ c, (N c).length ≤ b) (k : Nat) : ∀ L : List (List S46), (∀ s ∈ L, s.length = k + 1) → (nextL N T L).length ≤ L.length * ((k + 1) * b)
  | [], _ => by simp [nextL]
  | s :: L, h => by
    have ih := lat_next_len N T b hb k L (fun t ht => h t (List.mem_cons_of_mem _ ht))
    have h1 := lat_grown_len N T b hb s
    rw [h s (List.mem_cons_self ..)] at h1
    unfold nextL at *
    rw [List.flatMap_cons, List.length_append, List.length_cons, Nat.succ_mul]
    omega
def bdN (b : Nat) : Nat → Nat
  | 0 => 2
  | k + 1 => bdN b k * ((k + 1) * b)
theorem lat_len {N : S46 → List S46} {T : List S46 → List S46} {V : Int → Int → Prop} {K : S46 → Prop} {b : Nat} (HL : LatOk N T V K b) (F : List (List S46)) (hF : ∀ s ∈ F, GdN N K 0 s) (h2 : F.length ≤ 2) : ∀ k, k ≤ 10 → (allGrownL N T F k).length ≤ bdN b k
  | 0, _ => h2
  | k + 1, hk => by
    have h1 := lat_len HL F hF h2 k (by omega)
    have h2 := lat_next_len N T b HL.few k (allGrownL N T F k) (fun s hs => (lat_good HL F hF k (by omega) s hs).len)
    have h3 := tidyL_len' (nextL N T (allGrownL N T F k))
    exact Nat.le_trans h3 (Nat.le_trans h2 (Nat.mul_le_mul_right _ h1))
theorem lat_near_pos {N : S46 → List S46} {T : List S46 → List S46} {V : Int → Int → Prop} {K : S46 → Prop} {b : Nat} (HL : LatOk N T V K b) (k : Nat) (hk : k ≤ 10) (s : List S46) (h : GdN N K k s) : 0 < (nearsL N s).length := by
  obtain ⟨⟨c, hc, ec⟩, _⟩ := corn_mem s (by have := h.len; omega)
  have hr := h.rng c hc
  obtain ⟨d, hd, hlt⟩ := HL.free c (by unfold nrC; omega) (h.cls c hc)
  refine List.length_pos_of_mem ((nears_mem N s d).2 ⟨c, hc, hd, fun hq => ?_⟩)
  have := (minF_le (·.f0) s (cellAt s 0).f0).2 _ hq
  unfold minX at ec
  omega
theorem lat_ok {N : S46 → List S46} {T : List S46 → List S46} {V : Int → Int → Prop} {K : S46 → Prop} {b : Nat} (HL : LatOk N T V K b) (F : List (List S46)) (hF : ∀ s ∈ F, GdN N K 0 s) (h2 : F.length ≤ 2) (n : Nat) (h : n ≤ 6) (hb : b ≤ 6) (hbd : ∀ k, k < n - 1 → bdN b k ≤ 1000000) : GrownOk N T F n := by
  intro k hk
  refine ⟨fun s hs => ?_, ?_⟩
  · have hg := lat_good HL F hF k (by omega) s hs
    have hl := hg.len
    have hbl := beside_len N b HL.few s
    have : s.length * b ≤ 7 * 6 := Nat.mul_le_mul (by omega) hb
    exact ⟨by omega, by omega, lat_near_pos HL k (by omega) s hg, Nat.le_trans hbl (by omega)⟩
  · have h3 := lat_next_len N T b HL.few k (allGrownL N T F k) (fun s hs => (lat_good HL F hF k (by omega) s hs).len)
    have h4 := lat_len HL F hF h2 k (by omega)
    have h5 := hbd k hk
    have h6 : (allGrownL N T F k).length * ((k + 1) * b) ≤ 1000000 * (6 * 6) := Nat.mul_le_mul (by omega) (Nat.mul_le_mul (by omega) hb)
    exact Nat.le_trans h3 (Nat.le_trans h6 (by omega))
/-! The flood over any neighbours: connected cells are all reached. -/
structure FldI (l : List S46) (out list : List Int) : Prop where
  len : out.length = l.length
  mem : ∀ i, i < list.length → ∃ p : Nat, list.getD i 0 = (p : Int) ∧ p < l.length
  few : list.length + negs out ≤ 41
  val : ∀ p, p < l.length → out.getD p 0 < 0 ∨ (out.getD p 0 = 0 ∧ ∃ i, i < list.length ∧ list.getD i 0 = (p : Int))
  inn : ∀ i p : Nat, i < list.length → list.getD i 0 = (p : Int) → 0 ≤ out.getD p 0
theorem getD_app {α : Type} (xs ys : List α) (d : α) (i : Nat) (h : i < xs.length) : (xs ++ ys).getD i d = xs.getD i d := by
  rw [List.getD_eq_getElem?_getD, List.getD_eq_getElem?_getD, List.getElem?_append_left h]
theorem getD_end {α : Type} (xs : List α) (y d : α) : (xs ++ [y]).getD xs.length d = y := by
  rw [List.getD_eq_getElem?_getD, List.getElem?_append_right (Nat.le_refl _), Nat.sub_self]
  rfl
theorem fld3 (NF : S46 → List S46) (l : List S46) (hs : Shape l) (t : Nat) (ds : List S46) (hds : ds.length ≤ 1000) (hok : ∀ d ∈ ds, okc d) (d : Nat) : ∀ (j : Nat) (out list : List Int), j + d = ds.length → t < list.length → FldI l out list →
    ∃ out' list', FldI l out' list' ∧ list.length ≤ list'.length ∧ (∀ i, i < list.length → list'.getD i 0 = list.getD i 0) ∧ (∀ p : Nat, 0 ≤ out.getD p 0 → 0 ≤ out'.getD p 0) ∧ list'.length + 2 * negs out' ≤ list.length + 2 * negs out ∧ (∀ m, j ≤ m → m < ds.length → ∀ p : Nat, p < l.length → cellKey (cellAt l p) = cellKey (cellAt ds m) → 0 ≤ out'.getD p 0) ∧
      (∀ r, Ev (fun k => impl_parts.l2 NF k l out' 0 list' (t + 1 : Nat)) r → Ev (fun k => impl_parts.l3 NF k l out 0 list t ds j) r) := by
  have hN := hs.le
  induction d with
  | zero =>
    intro j out list hj ht hF
    refine ⟨out, list, hF, Nat.le_refl _, fun _ _ => rfl, fun _ h => h, Nat.le_refl _, fun m h1 h2 => by omega, fun r hr => ?_⟩
    refine Ev.step (f := fun _ => _) (fun k => by simp only [impl_parts.l3]; rfl) (ev_neg (by omega) ?_)
    have := hF.few
    rw [wrap_succ t (by omega)]
    exact hr
  | succ d ih =>
    intro j out list hj ht hF
    have hfew := hF.few
    have hmem : cellAt ds j ∈ ds := getD_mem ds z46 j (by omega)
    cases hq : atCell l l.length (cellKey (cellAt ds j)) with
    | none =>
      obtain ⟨out', list', h1, h2, h2', h3, h4, h5, h6⟩ := ih (j + 1) out list (by omega) ht hF
      refine ⟨out', list', h1, h2, h2', h3, h4, fun m hm1 hm2 p hp hk => ?_, fun r hr => ?_⟩
      · by_cases e : m = j
        · subst e
          rw [← hk, atCell_some l hs p hp] at hq
          cases hq
        · exact h5 m (by omega) hm2 p hp hk
      · refine Ev.step (f := fun k => if (j : Int) < (ds.length : Int) then (if 0 ≤ (j : Int) ∧ okc (cellAt ds j) then impl_parts.l3 NF k l out 0 list t ds (wrap64 ((j : Int) + 1)) else none) else impl_parts.l2 NF k l out 0 list (wrap64 ((t : Int) + 1))) (fun k => by simp only [impl_parts.l3, rd_cell, hq]) (ev_pos (by omega) (ev_pos ⟨by omega, hok _ hmem⟩ ?_))
        rw [wrap_succ j (by omega)]
        exact h6 r hr
    | some q =>
      obtain ⟨p, hp, rfl, hpk⟩ := atCell_inv l _ _ _ hq
      have hI : ∀ (r : List Int) (g : Nat → Option (List Int)), Ev g r → (∀ k, g k = (if rd out (p : Int) < 0 then (if list.length < 17592186044416 then impl_parts.l3 NF k l (out.set (p : Int).toNat 0) 0 (list ++ [(p : Int)]) t ds (wrap64 ((j : Int) + 1)) else none) else impl_parts.l3 NF k l out 0 list t ds (wrap64 ((j : Int) + 1)))) → Ev (fun k => impl_parts.l3 NF k l out 0 list t ds j) r := by
        intro r g hg hgk
        refine Ev.step (f := fun k => if (j : Int) < (ds.length : Int) then (if 0 ≤ (j : Int) ∧ okc (cellAt ds j) then (if 0 ≤ (p : Int) ∧ (p : Int) < (l.length : Int) then g k else none) else none) else impl_parts.l2 NF k l out 0 list (wrap64 ((t : Int) + 1))) (fun k => by simp only [impl_parts.l3, rd_cell, hq, hgk]) (ev_pos (by omega) (ev_pos ⟨by omega, hok _ hmem⟩ (ev_pos ⟨by omega, by omega⟩ hg)))
      have hsame : ∀ p2 : Nat, p2 < l.length → cellKey (cellAt l p2) = cellKey (cellAt ds j) → p2 = p := fun p2 hp2 hk => hs.apart p2 p hp2 hp (hk.trans hpk.symm)
      by_cases hneg : rd out (p : Int) < 0
      · have hset := negs_set out p (0 : Int) (by rw [hF.len]; exact hp) hneg (by omega)
        have hpo : p < out.length := by rw [hF.len]; exact hp
        have hF2 : FldI l (out.set p 0) (list ++ [(p : Int)]) := by
          refine ⟨by rw [List.length_set]; exact hF.len, fun i hi => ?_, by simp only [List.length_append, List.length_cons, List.length_nil]; omega, fun p2 hp2 => ?_, fun i p2 hi he => ?_⟩
          · by_cases e : i < list.length
            · rw [getD_app _ _ _ _ e]; exact hF.mem i e
            · have e2 : i = list.length := by simp at hi; omega
              rw [e2, getD_end]
              exact ⟨p, rfl, hp⟩
          · rw [getD_set _ _ _ _ hpo]
            by_cases e : p2 = p
            · rw [if_pos e, e]
              exact .inr ⟨rfl, list.length, by simp, getD_end _ _ _⟩
            · rw [if_neg e]
              rcases hF.val p2 hp2 with h | ⟨h, i, hi, he⟩
              · exact .inl h
              · exact .inr ⟨h, i, by simp; omega, by rw [getD_app _ _ _ _ hi]; exact he⟩
          · rw [getD_set _ _ _ _ hpo]
            by_cases e : i < list.length
            · rw [getD_app _ _ _ _ e] at he
              have := hF.inn i p2 e he
              split <;> omega
            · have e2 : i = list.length := by simp at hi; omega
              rw [e2, getD_end] at he
              rw [if_pos (by omega)]
              omega
        obtain ⟨out', list', h1, h2, h2', h3, h4, h5, h6⟩ := ih (j + 1) _ _ (by omega) (by simp; omega) hF2
        simp only [List.length_append, List.length_cons, List.length_nil] at h2 h2' h4
        refine ⟨out', list', h1, by omega, fun i hi => by rw [h2' i (by omega), getD_app _ _ _ _ hi], fun q2 h => ?_, by omega, fun m hm1 hm2 p2 hp2 hk => ?_, fun r hr => ?_⟩
        · refine h3 q2 ?_
          rw [getD_set _ _ _ _ hpo]
          split
          · omega
          · exact h
        · by_cases e : m = j
          · subst e
            rw [hsame p2 hp2 hk]
            refine h3 p ?_
            rw [getD_set _ _ _ _ hpo, if_pos rfl]
            omega
          · exact h5 m (by omega) hm2 p2 hp2 hk
        · refine hI r (fun k => impl_parts.l3 NF k l (out.set p 0) 0 (list ++ [(p : Int)]) t ds ((j + 1 : Nat) : Int)) (h6 r hr) (fun k => ?_)
          rw [if_pos hneg, if_pos (by omega), wrap_succ j (by omega), Int.toNat_natCast]
      · obtain ⟨out', list', h1, h2, h2', h3, h4, h5, h6⟩ := ih (j + 1) out list (by omega) ht hF
        refine ⟨out', list', h1, h2, h2', h3, h4, fun m hm1 hm2 p2 hp2 hk => ?_, fun r hr => ?_⟩
        · by_cases e : m = j
          · subst e
            rw [hsame p2 hp2 hk]
            rw [rd_get] at hneg
            exact h3 p (by omega)
          · exact h5 m (by omega) hm2 p2 hp2 hk
        · refine hI r (fun k => impl_parts.l3 NF k l out 0 list t ds ((j + 1 : Nat) : Int)) (h6 r hr) (fun k => ?_)
          rw [if_neg hneg, wrap_succ j (by omega)]
/-- Closed up to a place on the list. -/
def FldC (NF : S46 → List S46) (l : List S46) (out list : List Int) (t : Nat) : Prop := ∀ i, i < t → ∀ p0 : Nat, list.getD i 0 = (p0 : Int) → ∀ p : Nat, p < l.length → cellAt l p ∈ NF (cellAt l p0) → 0 ≤ out.getD p 0
theorem fld2 (NF : S46 → List S46) (hNF : ∀ c, (NF c).length ≤ 1000) (l : List S46) (hs : Shape l) (hok : ∀ c ∈ l, ∀ d ∈ NF c, okc d) (n : Nat) : ∀ (t : Nat) (out list : List Int), 1 ≤ list.length → t ≤ list.length → list.length + 2 * negs out ≤ n + t → FldI l out list → FldC NF l out list t →
    ∃ out' list', FldI l out' list' ∧ 1 ≤ list'.length ∧ FldC NF l out' list' list'.length ∧ ∀ r, Ev (fun k => impl_parts.l1 NF k l out' (1 : Nat)) r → Ev (fun k => impl_parts.l2 NF k l out 0 list t) r := by
  have hN := hs.le
  have hone : wrap64 ((0 : Int) + 1) = ((1 : Nat) : Int) := by rw [wrap_id _ (by omega) (by omega)]; rfl
  induction n with
  | zero =>
    intro t out list h0 h1 h2 hF hC
    have ht : t = list.length := by omega
    subst ht
    exact ⟨out, list, hF, h0, hC, fun r hr => Ev.step (f := fun _ => _) (fun k => by simp only [impl_parts.l2]; rfl) (ev_neg (by omega) (by rw [hone]; exact hr))⟩
  | succ n ih =>
    intro t out list h0 h1 h2 hF hC
    by_cases ht : t < list.length
    · obtain ⟨p0, hp0, hp0l⟩ := hF.mem t ht
      have hrd : rd list (t : Int) = (p0 : Int) := hp0
      obtain ⟨out', list', g1, g2, g2', g3, g4, g5, g6⟩ := fld3 NF l hs t (NF (cellAt l p0)) (hNF _) (hok _ (cell_mem l p0 hp0l)) (NF (cellAt l p0)).length 0 out list (by omega) ht hF
      have hC' : FldC NF l out' list' (t + 1) := by
        intro i hi p1 hp1 p hp hm
        by_cases e : i = t
        · subst e
          rw [g2' i ht, hp0] at hp1
          have e1 : p1 = p0 := by omega
          subst e1
          obtain ⟨m, hm1, hm2⟩ := List.getElem_of_mem hm
          refine g5 m (Nat.zero_le _) hm1 p hp ?_
          rw [show cellAt (NF (cellAt l p1)) m = cellAt l p by rw [← hm2]; show List.getD _ _ _ = _; rw [List.getD_eq_getElem?_getD, List.getElem?_eq_getElem hm1, Option.getD_some]]
        · rw [g2' i (by omega)] at hp1
          exact g3 p (hC i (by omega) p1 hp1 p hp hm)
      obtain ⟨o, L, k1, k2, k3, k5⟩ := ih (t + 1) out' list' (by omega) (by omega) (by omega) g1 hC'
      refine ⟨o, L, k1, k2, k3, fun r hr => ?_⟩
      refine Ev.step (f := fun _ => _) (fun k => by simp only [impl_parts.l2]; rfl) (ev_pos (by omega) ?_)
      refine ev_pos ⟨⟨by omega, by rw [hrd]; omega⟩, by rw [hrd]; omega⟩ ?_
      refine ev_some rfl ?_
      rw [hrd]
      exact g6 r (k5 r hr)
    · have ht' : t = list.length := by omega
      exact ⟨out, list, hF, h0, by rw [← ht']; exact hC, fun r hr => Ev.step (f := fun _ => _) (fun k => by simp only [impl_parts.l2]; rfl) (ev_neg (by omega) (by rw [hone]; exact hr))⟩
theorem fld1 (NF : S46 → List S46) (l : List S46) (hl : l.length ≤ 40) (out : List Int) (h : ∀ p, p < l.length → 0 ≤ out.getD p 0) (d : Nat) : ∀ n : Nat, n + d = l.length → Ev (fun k => impl_parts.l1 NF k l out n) out := by
  induction d with
  | zero =>
    intro n hn
    exact Ev.step (f := fun _ => _) (fun k => by simp only [impl_parts.l1]; rfl) (ev_neg (by omega) (ev_const rfl))
  | succ d ih =>
    intro n hn
    refine Ev.step (f := fun _ => _) (fun k => by simp only [impl_parts.l1]; rfl) (ev_pos (by omega) (ev_pos (by omega) (ev_pos (h n (by omega)) ?_)))
    rw [wrap_succ n (by omega)]
    exact ih (n + 1) (by omega)
theorem negs_rep : ∀ n : Nat, negs (List.replicate n (-1)) = n
  | 0 => rfl
  | n + 1 => by
    have := negs_rep n
    unfold negs at *
    rw [List.replicate_succ, List.countP_cons, this]
    rfl
theorem parts_con (NF : S46 → List S46) (hNF : ∀ c, (NF c).length ≤ 1000) (l : List S46) (hs : Shape l) (hokl : ∀ c ∈ l, okc c) (hok : ∀ c ∈ l, ∀ d ∈ NF c, okc d) (hC : ConN NF l) : ∃ out, Ev (fun k => impl_parts.f NF k l) out ∧ out.length = l.length ∧ ∀ p, p < l.length → out.getD p 0 = 0 := by
  have hN := hs.le
  have hl0 := hs.pos
  obtain ⟨out, hout⟩ : ∃ out, out = (List.replicate l.length (-1 : Int)).set 0 0 := ⟨_, rfl⟩
  have hlen : out.length = l.length := by rw [hout]; simp
  have hget : ∀ p : Nat, p < l.length → out.getD p 0 = if p = 0 then 0 else -1 := fun p hp => by
    rw [hout, getD_set _ _ _ _ (by simp; omega)]
    split
    · rfl
    · rw [List.getD_eq_getElem?_getD, List.getElem?_replicate, if_pos hp]
      rfl
  have hneg : negs out + 1 = l.length := by
    have := negs_set (List.replicate l.length (-1 : Int)) 0 0 (by simp; omega) (by rw [List.getD_eq_getElem?_getD, List.getElem?_replicate, if_pos (by omega)]; decide) (by omega)
    rw [negs_rep] at this
    rw [hout]
    exact this
  have hF : FldI l out [0] := by
    refine ⟨hlen, fun i hi => ⟨0, ?_, by omega⟩, by simp only [List.length_cons, List.length_nil]; omega, fun p hp => ?_, fun i p hi he => ?_⟩
    · have : i = 0 := by simp at hi; omega
      rw [this]
      rfl
    · rw [hget p hp]
      by_cases e : p = 0
      · rw [if_pos e, e]
        exact .inr ⟨rfl, 0, by simp, rfl⟩
      · rw [if_neg e]
        exact .inl (by omega)
    · have : i = 0 := by simp at hi; omega
      subst this
      have e : (0 : Int) = (p : Int) := he
      have e1 : p = 0 := by omega
      rw [e1, hget 0 (by omega)]
      decide
  obtain ⟨o, L, k1, k2, k3, k5⟩ := fld2 NF hNF l hs hok (1 + 2 * negs out) 0 out [0] (by simp) (by simp) (by simp) hF (fun i hi => by omega)
  have hall : ∀ c ∈ l, ∃ p : Nat, p < l.length ∧ cellAt l p = c ∧ 0 ≤ o.getD p 0 := by
    refine hC (fun c => ∃ p : Nat, p < l.length ∧ cellAt l p = c ∧ 0 ≤ o.getD p 0) ?_ (fun c hc d hd hn hq => ?_)
    · obtain ⟨p, hp, hpl⟩ := k1.mem 0 (by omega)
      exact ⟨cellAt l p, cell_mem l p hpl, p, hpl, rfl, k1.inn 0 p (by omega) hp⟩
    · obtain ⟨p, hp, rfl, hpo⟩ := hq
      obtain ⟨p2, hp2, hd2⟩ := List.getElem_of_mem hd
      have hd3 : cellAt l p2 = d := by
        show List.getD _ _ _ = _
        rw [List.getD_eq_getElem?_getD, List.getElem?_eq_getElem hp2, Option.getD_some, hd2]
      refine ⟨p2, hp2, hd3, ?_⟩
      rcases k1.val p hp with h | ⟨_, i, hi, he⟩
      · omega
      · exact k3 i hi p he p2 hp2 (by rw [hd3]; exact hn)
  have hz : ∀ p, p < l.length → o.getD p 0 = 0 := fun p hp => by
    obtain ⟨p2, hp2, e, ho⟩ := hall _ (cell_mem l p hp)
    have : p2 = p := hs.apart p2 p hp2 hp (by rw [e])
    subst this
    rcases k1.val p2 hp2 with h | ⟨h, _⟩
    · omega
    · exact h
  refine ⟨o, ?_, k1.len, hz⟩
  unfold impl_parts.f
  refine ev_pos ⟨⟨by omega, by omega⟩, hokl⟩ ?_
  refine Ev.step (f := fun _ => _) (fun k => by simp only [impl_parts.l1]; rfl) (ev_pos (by omega) (ev_pos (by omega) (ev_neg ?_ ?_)))
  · show ¬ (List.replicate l.length (-1 : Int)).getD 0 0 ≥ 0
    rw [List.getD_eq_getElem?_getD, List.getElem?_replicate, if_pos (by omega)]
    decide
  · rw [show ((0 : Int)).toNat = 0 from rfl, ← hout]
    exact k5 o (fld1 NF l hN o (fun p hp => by have := hz p hp; omega) (l.length - 1) 1 (by omega))
theorem connected_con (NF : S46 → List S46) (hNF : ∀ c, (NF c).length ≤ 1000) (l : List S46) (hs : Shape l) (hokl : ∀ c ∈ l, okc c) (hok : ∀ c ∈ l, ∀ d ∈ NF c, okc d) (hC : ConN NF l) : Ev (fun k => impl_connected.f NF k l) true := by
  have hN := hs.le
  have hl0 := hs.pos
  obtain ⟨out, h1, h2, h3⟩ := parts_con NF hNF l hs hokl hok hC
  obtain ⟨m, m1, m2⟩ := max_loop out (by omega) (fun q hq => by have := h3 q (by omega); omega) (out.length - 1) 1 (rd out 0) (by omega) (by show 0 ≤ out.getD 0 0; have := h3 0 (by omega); omega)
  have hmax : Ev (fun k => slices_Max_int64_int64.f k out) m := ev_neg (by omega) (ev_pos (by omega) m1)
  have hm0 : m = 0 := m2.2 ⟨h3 0 (by omega), fun q _ hq => h3 q (by omega)⟩
  exact Ev.bind h1 (Ev.bind hmax (ev_pos hm0 (ev_const rfl)))
/-! The reference's list on a lattice: the same shapes. -/
structure LatSp (kd : Int) (N : S46 → List S46) (T : List S46 → List S46) (K : S46 → Prop) : Prop where
  around : ∀ c, nrC 1000 c → K c → ∃ ar, spec_l07Around.f kd c.f0 c.f1 = some ar ∧ ar.length ≤ 6 ∧ ∀ d, d ∈ ar ↔ d ∈ N c
  normal : ∀ s, 1 ≤ s.length → s.length ≤ 1000 → Ev (fun k => spec_l07Normal.f k kd s) (T s)
  tlen : ∀ s, (T s).length = s.length
theorem sall3 {kd : Int} {N : S46 → List S46} {T : List S46 → List S46} {K : S46 → Prop} (HS : LatSp kd N T K) (n : Int) (L : List (List S46)) (t : Int) (i : Nat) (hi : i < L.length) (hL : L.length ≤ 1000000) (hs : (L.getD i []).length ≤ 30) (j : Nat) (hj : j < 30) (ar : List S46) (har : ar.length ≤ 6) (d : Nat) : ∀ (m : Nat) (out : List (List S46)), m + d = ar.length → Asc out → out.length + d ≤ 10000000 →
    ∃ R, (∀ r, Ev (fun k => spec_l07All.l2 k kd n L t R i ((j + 1 : Nat) : Int)) r → Ev (fun k => spec_l07All.l3 k kd n L t out i j ar m) r) ∧ Asc R ∧ (∀ z, z ∈ R ↔ z ∈ out ∨ ∃ c ∈ ar.drop m, c ∉ L.getD i [] ∧ z = T (insC c (L.getD i []))) ∧ R.length ≤ out.length + d := by
  induction d with
  | zero =>
    intro m out hd hA hl
    refine ⟨out, fun r h => ?_, hA, fun z => ?_, by omega⟩
    · refine Ev.step (f := fun _ => _) (fun k => by simp only [spec_l07All.l3]; rfl) (ev_neg (by omega) ?_)
      rw [wrap_succ j (by omega)]
      exact h
    · rw [List.drop_of_length_le (by omega)]
      simp
  | succ d ih =>
    intro m out hd hA hl
    obtain ⟨v, hv, hv2⟩ := index_iff (L.getD i []) (by omega) (ar.getD m z46)
    by_cases c1 : v < 0
    · obtain ⟨R1, a1, a2, a3, a4⟩ := add_val out hA (T (insC (ar.getD m z46) (L.getD i []))) (by rw [HS.tlen, insC_len]; omega) (by omega)
      obtain ⟨R, g1, g2, g3, g4⟩ := ih (m + 1) R1 (by omega) a2 (by omega)
      refine ⟨R, fun r h => ?_, g2, fun z => ?_, by omega⟩
      · refine Ev.step (f := fun _ => _) (fun k => by simp only [spec_l07All.l3]; rfl) (ev_pos (by omega) (ev_pos (by omega) (ev_pos (by omega) (ev_pos (by omega) (Ev.bind hv (ev_pos c1 (Ev.bind (insert_val (L.getD i []) _ (by omega)) (Ev.bind (HS.normal (insC (ar.getD m z46) (L.getD i [])) (by rw [insC_len]; omega) (by rw [insC_len]; omega)) (Ev.bind a1 ?_)))))))))
        rw [wrap_succ m (by omega)]
        exact g1 r h
      · rw [g3, a3, drop_cons ar z46 m (by omega)]
        constructor
        · rintro ((h | h) | ⟨c, h1, h2⟩)
          · exact .inr ⟨_, List.mem_cons_self .., hv2.1 c1, h⟩
          · exact .inl h
          · exact .inr ⟨c, List.mem_cons_of_mem _ h1, h2⟩
        · rintro (h | ⟨c, h1, h2⟩)
          · exact .inl (.inr h)
          · rcases List.mem_cons.1 h1 with rfl | h1
            · exact .inl (.inl h2.2)
            · exact .inr ⟨c, h1, h2⟩
    · obtain ⟨R, g1, g2, g3, g4⟩ := ih (m + 1) out (by omega) hA (by omega)
      refine ⟨R, fun r h => ?_, g2, fun z => ?_, by omega⟩
      · refine Ev.step (f := fun _ => _) (fun k => by simp only [spec_l07All.l3]; rfl) (ev_pos (by omega) (ev_pos (by omega) (ev_pos (by omega) (ev_pos (by omega) (Ev.bind hv (ev_neg c1 ?_))))))
        rw [wrap_succ m (by omega)]
        exact g1 r h
      · rw [g3, drop_cons ar z46 m (by omega)]
        have hn : ar.getD m z46 ∈ L.getD i [] := Classical.byContradiction fun q => c1 (hv2.2 q)
        constructor
        · rintro (h | ⟨c, h1, h2⟩)
          · exact .inl h
          · exact .inr ⟨c, List.mem_cons_of_mem _ h1, h2⟩
        · rintro (h | ⟨c, h1, h2⟩)
          · exact .inl h
          · rcases List.mem_cons.1 h1 with rfl | h1
            · exact absurd hn h2.1
            · exact .inr ⟨c, h1, h2⟩
theorem sall2 {kd : Int} {N : S46 → List S46} {T : List S46 → List S46} {K : S46 → Prop} (HS : LatSp kd N T K) (n : Int) (L : List (List S46)) (t : Int) (i : Nat) (hi : i < L.length) (hL : L.length ≤ 1000000) (hs : (L.getD i []).length ≤ 30) (hc : ∀ c ∈ L.getD i [], nrC 1000 c ∧ K c) (d : Nat) : ∀ (j : Nat) (out : List (List S46)), j + d = (L.getD i []).length → Asc out → out.length + 6 * d ≤ 10000000 →
    ∃ R, (∀ r, Ev (fun k => spec_l07All.l1 k kd n L t R ((i + 1 : Nat) : Int)) r → Ev (fun k => spec_l07All.l2 k kd n L t out i j) r) ∧ Asc R ∧ (∀ z, z ∈ R ↔ z ∈ out ∨ ∃ c ∈ (L.getD i []).drop j, ∃ d ∈ N c, d ∉ L.getD i [] ∧ z = T (insC d (L.getD i []))) ∧ R.length ≤ out.length + 6 * d := by
  induction d with
  | zero =>
    intro j out hd hA hl
    refine ⟨out, fun r h => ?_, hA, fun z => ?_, by omega⟩
    · refine Ev.step (f := fun _ => _) (fun k => by simp only [spec_l07All.l2]; rfl) (ev_pos (by omega) (ev_pos (by omega) (ev_neg ?_ ?_)))
      · show ¬ ((j : Int) < ((L.getD i []).length : Int))
        omega
      · rw [wrap_succ i (by omega)]
        exact h
    · rw [List.drop_of_length_le (by omega)]
      simp
  | succ d ih =>
    intro j out hd hA hl
    have hcj := hc _ (getD_mem (L.getD i []) z46 j (by omega))
    obtain ⟨ar, r1, r2, r3⟩ := HS.around _ hcj.1 hcj.2
    obtain ⟨R1, a1, a2, a3, a4⟩ := sall3 HS n L t i hi hL hs j (by omega) ar r2 ar.length 0 out (by omega) hA (by omega)
    obtain ⟨R, g1, g2, g3, g4⟩ := ih (j + 1) R1 (by omega) a2 (by omega)
    refine ⟨R, fun r h => ?_, g2, fun z => ?_, by omega⟩
    · refine Ev.step (f := fun _ => _) (fun k => by simp only [spec_l07All.l2]; rfl) (ev_pos (by omega) (ev_pos (by omega) (ev_pos ?_ (ev_pos (by omega) (ev_some r1 (a1 r (g1 r h)))))))
      show (j : Int) < ((L.getD i []).length : Int)
      omega
    · rw [g3, a3, drop_cons (L.getD i []) z46 j (by omega), List.drop_zero]
      constructor
      · rintro ((h | ⟨c, h1, h2⟩) | ⟨c, h1, h2⟩)
        · exact .inl h
        · exact .inr ⟨_, List.mem_cons_self .., c, (r3 c).1 h1, h2⟩
        · exact .inr ⟨c, List.mem_cons_of_mem _ h1, h2⟩
      · rintro (h | ⟨c, h1, h2⟩)
        · exact .inl (.inl h)
        · rcases List.mem_cons.1 h1 with rfl | h1
          · obtain ⟨e, h3, h4⟩ := h2
            exact .inl (.inr ⟨e, (r3 e).2 h3, h4⟩)
          · exact .inr ⟨c, h1, h2⟩
theorem sall1 {kd : Int} {N : S46 → List S46} {T : List S46 → List S46} {K : S46 → Prop} (HS : LatSp kd N T K) (n : Int) (L : List (List S46)) (t : Int) (hL : L.length ≤ 1000000) (b : Nat) (hs : ∀ s ∈ L, s.length ≤ b ∧ b ≤ 30 ∧ ∀ c ∈ s, nrC 1000 c ∧ K c) (d : Nat) : ∀ (i : Nat) (out : List (List S46)), i + d = L.length → Asc out → out.length + 6 * b * d ≤ 10000000 →
    ∃ R, (∀ r, Ev (fun k => spec_l07All.l0 k kd n R (wrap64 (t + 1))) r → Ev (fun k => spec_l07All.l1 k kd n L t out i) r) ∧ Asc R ∧ (∀ z, z ∈ R ↔ z ∈ out ∨ ∃ s ∈ L.drop i, ∃ c ∈ s, ∃ d ∈ N c, d ∉ s ∧ z = T (insC d s)) := by
  induction d with
  | zero =>
    intro i out hd hA hl
    refine ⟨out, fun r h => Ev.step (f := fun _ => _) (fun k => by simp only [spec_l07All.l1]; rfl) (ev_neg (by omega) h), hA, fun z => ?_⟩
    rw [List.drop_of_length_le (by omega)]
    simp
  | succ d ih =>
    intro i out hd hA hl
    have hm := hs _ (getD_mem L [] i (by omega))
    have hb1 : 6 * (L.getD i []).length ≤ 6 * b := by omega
    have hb2 : 6 * b * (d + 1) = 6 * b * d + 6 * b := Nat.mul_succ _ _
    obtain ⟨R1, a1, a2, a3, a4⟩ := sall2 HS n L t i (by omega) hL (by omega) hm.2.2 (L.getD i []).length 0 out (by omega) hA (by omega)
    obtain ⟨R, g1, g2, g3⟩ := ih (i + 1) R1 (by omega) a2 (by omega)
    refine ⟨R, fun r h => ?_, g2, fun z => ?_⟩
    · exact Ev.step (f := fun _ => _) (fun k => by simp only [spec_l07All.l1]; rfl) (ev_pos (by omega) (a1 r (g1 r h)))
    · rw [g3, a3, drop_cons L [] i (by omega), List.drop_zero]
      constructor
      · rintro ((h | h) | ⟨c, h1, h2⟩)
        · exact .inl h
        · exact .inr ⟨_, List.mem_cons_self .., h⟩
        · exact .inr ⟨c, List.mem_cons_of_mem _ h1, h2⟩
      · rintro (h | ⟨c, h1, h2⟩)
        · exact .inl (.inl h)
        · rcases List.mem_cons.1 h1 with rfl | h1
          · exact .inl (.inr h2)
          · exact .inr ⟨c, h1, h2⟩
theorem sall_loop {kd : Int} {N : S46 → List S46} {T : List S46 → List S46} {V : Int → Int → Prop} {K : S46 → Prop} {b : Nat} (HL : LatOk N T V K b) (HS : LatSp kd N T K) (F : List (List S46)) (hF : ∀ s ∈ F, GdN N K 0 s) (hF2 : F.length ≤ 2) (hA : Asc F) (n : Nat) (hn : n ≤ 6) (hbd : ∀ k, k < n - 1 → bdN b k ≤ 20000) (d : Nat) : ∀ k : Nat, k + 1 + d = n → Ev (fun j => spec_l07All.l0 j kd (n : Int) (allGrownL N T F k) ((k + 1 : Nat) : Int)) (allGrownL N T F (n - 1)) := by
  induction d with
  | zero =>
    intro k hk
    have e : n - 1 = k := by omega
    rw [e]
    exact Ev.step (f := fun _ => _) (fun k => by simp only [spec_l07All.l0]; rfl) (ev_neg (by omega) (ev_const rfl))
  | succ d ih =>
    intro k hk
    have hgd := lat_good HL F hF k (by omega)
    have hlen := Nat.le_trans (lat_len HL F hF hF2 k (by omega)) (hbd k (by omega))
    obtain ⟨R, g1, g2, g3⟩ := sall1 HS (n : Int) (allGrownL N T F k) ((k + 1 : Nat) : Int) (by omega) 6 (fun s hs => ⟨by have := (hgd s hs).len; omega, by omega, fun c hc => ⟨by have := (hgd s hs).rng c hc; unfold nrC; omega, (hgd s hs).cls c hc⟩⟩) (allGrownL N T F k).length 0 [] (by omega) (by simp [Asc]) (by simp; omega)
    have e : R = allGrownL N T F (k + 1) := by
      refine asc_uniq R _ g2 (lat_asc N T F hA (k + 1)) (fun z => ?_)
      rw [g3, lat_mem, List.drop_zero]
      constructor
      · rintro (h | ⟨s, h1, c, h2, e, h3, h4, h5⟩)
        · cases h
        · exact ⟨s, h1, e, ⟨c, h2, h3, h4⟩, by rw [h5, ins_sort e s (hgd s h1).srt]⟩
      · rintro ⟨s, h1, e, ⟨c, h2, h3, h4⟩, h5⟩
        exact .inr ⟨s, h1, c, h2, e, h3, h4, by rw [h5, ins_sort e s (hgd s h1).srt]⟩
    refine Ev.step (f := fun _ => _) (fun k => by simp only [spec_l07All.l0]; rfl) (ev_pos (by omega) (g1 _ ?_))
    rw [wrap_succ (k + 1) (by omega), e]
    exact ih (k + 1) (by omega)
/-! Turns of a lattice: both sides come to the same forms. -/
def rot6 : Nat → S46 → S46
  | 0, c => c
  | n + 1, c => rot6 n ⟨wrap64 (-c.f1), wrap64 (c.f0 + c.f1)⟩
def latT (t : Int) (c : S46) : S46 := rot6 (Int.tmod t 6).toNat (if t ≥ 6 then ⟨c.f1, c.f0⟩ else c)
def isT6 (t : Int) : Prop := 0 ≤ t ∧ t ≤ 11
theorem tmod6 (t : Int) (h : isT6 t) : ∃ n : Nat, n ≤ 5 ∧ Int.tmod t 6 = (n : Int) := by
  obtain ⟨h0, h7⟩ := h
  refine ⟨(t % 6).toNat, ?_, ?_⟩
  · omega
  · rw [Int.tmod_eq_emod_of_nonneg h0]; omega
theorem ilat_rot (t : Int) (l : List S46) (len i : Int) (out : List S46) (ho : out.length ≤ 1000) (m : Nat) (hm : m ≤ 5) (r : List S46) (d : Nat) : ∀ (n : Nat) (c : S46), n + d = m → Ev (fun k => impl_latticeCells.l0 k t (out ++ [rot6 d c]) l len (wrap64 (i + 1))) r → Ev (fun k => impl_latticeCells.l1 k t out l len i m n c.f0 c.f1) r := by
  induction d with
  | zero =>
    intro n c hd h
    exact Ev.step (f := fun _ => _) (fun k => by simp only [impl_latticeCells.l1]; rfl) (ev_neg (by omega) (ev_pos (by omega) h))
  | succ d ih =>
    intro n c hd h
    refine Ev.step (f := fun _ => _) (fun k => by simp only [impl_latticeCells.l1]; rfl) (ev_pos (by omega) ?_)
    rw [wrap_succ n (by omega)]
    exact ih (n + 1) ⟨wrap64 (-c.f1), wrap64 (c.f0 + c.f1)⟩ (by omega) h
theorem srot6_loop (d : Nat) (hd : d ≤ 5) : ∀ c : S46, Ev (fun k => spec_l07Turn.l0 k (d : Int) c.f0 c.f1) ((rot6 d c).f0, (rot6 d c).f1) := by
  induction d with
  | zero =>
    intro c
    exact Ev.step (f := fun _ => _) (fun k => by simp only [spec_l07Turn.l0]; rfl) (ev_neg (by omega) (ev_const rfl))
  | succ d ih =>
    intro c
    refine Ev.step (f := fun _ => _) (fun k => by simp only [spec_l07Turn.l0]; rfl) (ev_pos (by omega) ?_)
    rw [show wrap64 (((d + 1 : Nat) : Int) - 1) = (d : Int) from by rw [wrap_id _ (by omega) (by omega)]; omega]
    exact ih (by omega) ⟨wrap64 (-c.f1), wrap64 (c.f0 + c.f1)⟩
theorem slatT_val (t : Int) (h : isT6 t) (c : S46) : Ev (fun k => spec_l07Turn.f k c.f0 c.f1 t) ((latT t c).f0, (latT t c).f1) := by
  obtain ⟨n, hn, e⟩ := tmod6 t h
  have J : ∀ c : S46, Ev (fun k => spec_l07Turn.j0 k t c.f0 c.f1) ((rot6 (Int.tmod t 6).toNat c).f0, (rot6 (Int.tmod t 6).toNat c).f1) := fun c => by
    refine Ev.step (f := fun _ => _) (fun k => by simp only [spec_l07Turn.j0]; rfl) ?_
    rw [e, Int.toNat_natCast]
    exact srot6_loop n hn c
  unfold latT
  by_cases h4 : t ≥ 6
  · rw [if_pos h4]; exact ev_pos h4 (J ⟨c.f1, c.f0⟩)
  · rw [if_neg h4]; exact ev_neg h4 (J c)
theorem ilat_loop (l : List S46) (t : Int) (h : isT6 t) (h1 : 1 ≤ l.length) (hl : l.length ≤ 500) (d : Nat) : ∀ (n : Nat) (out : List S46), n + d = l.length → out.length = n → Ev (fun k => impl_latticeCells.l0 k t out l (l.length : Int) n) (sortC (out ++ (l.drop n).map (latT t))) := by
  obtain ⟨m, hm, e⟩ := tmod6 t h
  induction d with
  | zero =>
    intro n out hd ho
    rw [List.drop_of_length_le (by omega), List.map_nil, List.append_nil]
    refine Ev.step (f := fun _ => _) (fun k => by simp only [impl_latticeCells.l0]; rfl) (ev_neg (by omega) (ev_some (a := sortC out) ?_ (ev_const rfl)))
    unfold impl_sorted.f
    rw [if_pos ⟨by omega, by omega⟩]
  | succ d ih =>
    intro n out hd ho
    have hr := ih (n + 1) (out ++ [latT t (l.getD n z46)]) (by omega) (by simp [ho])
    have e2 : sortC ((out ++ [latT t (l.getD n z46)]) ++ (l.drop (n + 1)).map (latT t)) = sortC (out ++ (l.drop n).map (latT t)) := by
      rw [drop_cons l z46 n (by omega)]
      simp
    rw [e2, ← wrap_succ n (by omega)] at hr
    have J : ∀ c : S46, latT t (l.getD n z46) = rot6 m c → Ev (fun k => impl_latticeCells.j1 k t out l (l.length : Int) (n : Int) c.f0 c.f1) (sortC (out ++ (l.drop n).map (latT t))) := fun c hc => by
      refine Ev.step (f := fun _ => _) (fun k => by simp only [impl_latticeCells.j1]; rfl) ?_
      rw [e]
      rw [hc] at hr
      exact ilat_rot t l _ (n : Int) out (by omega) m hm _ m 0 c (by omega) hr
    have hrd : rd_T46 l (n : Int) = l.getD n z46 := rfl
    refine Ev.step (f := fun _ => _) (fun k => by simp only [impl_latticeCells.l0]; rfl) (ev_pos (by omega) (ev_pos (by omega) (ev_pos (by omega) ?_)))
    rw [hrd]
    by_cases h6 : t ≥ 6
    · refine ev_pos h6 (J ⟨(l.getD n z46).f1, (l.getD n z46).f0⟩ ?_)
      unfold latT
      rw [if_pos h6, e, Int.toNat_natCast]
    · refine ev_neg h6 (J (l.getD n z46) ?_)
      unfold latT
      rw [if_neg h6, e, Int.toNat_natCast]
theorem ilat_val (l : List S46) (t : Int) (h : isT6 t) (h1 : 1 ≤ l.length) (hl : l.length ≤ 500) : Ev (fun k => impl_latticeCells.f k l t) (sortC (l.map (latT t))) :=
  ev_pos (by omega) (ev_pos (by omega) (ev_eq (ilat_loop l t h h1 hl l.length 0 [] (by omega) rfl) (by simp)))
/-- The form of cells for a lattice turn. -/
def latF (T : List S46 → List S46) (t : Int) (l : List S46) : List S46 := T (sortC (l.map (latT t)))
theorem slat_loop {kd : Int} {N : S46 → List S46} {T : List S46 → List S46} {K : S46 → Prop} (HS : LatSp kd N T K) (l : List S46) (t : Int) (h : isT6 t) (h1 : 1 ≤ l.length) (hl : l.length ≤ 500) (d : Nat) : ∀ (n : Nat) (out : List S46), n + d = l.length → out.length = n → Ev (fun k => spec_l07Form.l0 k kd l t out n) (T (sortC (out ++ (l.drop n).map (latT t)))) := by
  induction d with
  | zero =>
    intro n out hd ho
    rw [List.drop_of_length_le (by omega), List.map_nil, List.append_nil]
    exact Ev.step (f := fun _ => _) (fun k => by simp only [spec_l07Form.l0]; rfl) (ev_neg (by omega) (Ev.bind (ssort_val out (by omega)) (Ev.bind (HS.normal (sortC out) (by rw [sortC_len]; omega) (by rw [sortC_len]; omega)) (ev_const rfl))))
  | succ d ih =>
    intro n out hd ho
    refine Ev.step (f := fun _ => _) (fun k => by simp only [spec_l07Form.l0]; rfl) (ev_pos (by omega) (ev_pos (by omega) (Ev.bind (slatT_val t h _) (ev_pos (show out.length < 8796093022208 by omega) ?_))))
    rw [wrap_succ n (by omega)]
    refine ev_eq (ih (n + 1) _ (by omega) (by simp [ho])) ?_
    rw [drop_cons l z46 n (by omega), show rd_T46 l (n : Int) = l.getD n z46 from rfl]
    simp
theorem slat_val {kd : Int} {N : S46 → List S46} {T : List S46 → List S46} {K : S46 → Prop} (HS : LatSp kd N T K) (l : List S46) (t : Int) (h : isT6 t) (h1 : 1 ≤ l.length) (hl : l.length ≤ 500) : Ev (fun k => spec_l07Form.f k kd l t) (latF T t l) :=
  ev_eq (slat_loop HS l t h h1 hl l.length 0 [] (by omega) rfl) (by simp [latF])
def latFs (T : List S46 → List S46) (l : List S46) (n : Nat) : List (List S46) := (List.range n).map (fun t : Nat => latF T (t : Int) l)
theorem latFs_succ (T : List S46 → List S46) (l : List S46) (n : Nat) : latFs T l (n + 1) = latFs T l n ++ [latF T (n : Int) l] := by
  unfold latFs
  rw [List.range_succ, List.map_append]
  rfl
theorem latFs_len (T : List S46 → List S46) (l : List S46) (n : Nat) : (latFs T l n).length = n := by simp [latFs]
theorem latF_len {T : List S46 → List S46} (hT : ∀ s, (T s).length = s.length) (t : Int) (l : List S46) : (latF T t l).length = l.length := by
  unfold latF
  rw [hT, sortC_len, List.length_map]
theorem sforms6_loop {kd : Int} {N : S46 → List S46} {T : List S46 → List S46} {K : S46 → Prop} (HS : LatSp kd N T K) (l : List S46) (h1 : 1 ≤ l.length) (hl : l.length ≤ 500) (hsh : ∀ t, isT6 t → isShapeB (latF T t l) = true) (d : Nat) : ∀ n : Nat, n + d = 12 → Ev (fun k => spec_l07Forms.l0 k kd l (latFs T l n) true n) (latFs T l 12, true) := by
  induction d with
  | zero =>
    intro n hd
    have e : n = 12 := by omega
    subst e
    exact Ev.step (f := fun _ => _) (fun k => by simp only [spec_l07Forms.l0]; rfl) (ev_neg (by omega) (ev_const rfl))
  | succ d ih =>
    intro n hd
    have ht : isT6 (n : Int) := ⟨by omega, by omega⟩
    have hs := spec_shape_val (latF T (n : Int) l) (by rw [latF_len HS.tlen]; unfold maxLen; omega)
    rw [hsh _ ht] at hs
    refine Ev.step (f := fun _ => _) (fun k => by simp only [spec_l07Forms.l0]; rfl) (ev_pos (by omega) (Ev.bind (slat_val HS l (n : Int) ht h1 hl) (ev_pos trivial (Ev.bind hs (ev_pos (show (latFs T l n).length < 5864062014805 by rw [latFs_len]; omega) ?_)))))
    rw [wrap_succ n (by omega), ← latFs_succ]
    exact ih (n + 1) (by omega)
theorem sleast6_loop (L : List (List S46)) (hL : L.length ≤ 1000) (hm : ∀ s ∈ L, s.length ≤ 1000) (d : Nat) : ∀ (n : Nat) (b : List S46), n + d = L.length → Ev (fun k => spec_l07Least.l0 k L b n) ((L.drop n).foldl lessL b) := by
  induction d with
  | zero =>
    intro n b hd
    rw [List.drop_of_length_le (by omega)]
    exact Ev.step (f := fun _ => _) (fun k => by simp only [spec_l07Least.l0]; rfl) (ev_neg (by omega) (ev_const rfl))
  | succ d ih =>
    intro n b hd
    have hmn := hm _ (getD_mem L [] n (by omega))
    rw [drop_cons L [] n (by omega), List.foldl_cons]
    refine Ev.step (f := fun _ => _) (fun k => by simp only [spec_l07Least.l0]; rfl) (ev_pos (by omega) (ev_pos (by omega) (Ev.bind (scmp_val (L.getD n []) b hmn) ?_)))
    rw [wrap_succ n (by omega)]
    by_cases c : cmpS (L.getD n []) b < 0
    · refine ev_pos c ?_
      rw [show lessL b (L.getD n []) = L.getD n [] from if_pos c]
      exact ih (n + 1) (L.getD n []) (by omega)
    · refine ev_neg c ?_
      rw [show lessL b (L.getD n []) = b from if_neg c]
      exact ih (n + 1) b (by omega)
theorem sleast6_val (L : List (List S46)) (h1 : 1 ≤ L.length) (hL : L.length ≤ 1000) (hm : ∀ s ∈ L, s.length ≤ 1000) : Ev (fun k => spec_l07Least.f k L) (leastL L) := by
  refine ev_pos (by omega) ?_
  have h := sleast6_loop L hL hm (L.length - 1) 1 (L.getD 0 []) (by omega)
  cases L with
  | nil => simp at h1
  | cons x r => exact h
/-- Those that are their own least form. -/
def ownF (T : List S46 → List S46) (L : List (List S46)) : List (List S46) := L.filter (fun s => decide (cmpS (leastL (latFs T s 12)) s = 0))
theorem least6_len {T : List S46 → List S46} (hT : ∀ s, (T s).length = s.length) (s : List S46) : (leastL (latFs T s 12)).length = s.length := by
  have h := (leastL_is (latFs T s 12) (by rw [latFs_len]; omega)).1
  unfold latFs at h
  obtain ⟨t, _, e⟩ := List.mem_map.1 h
  unfold latFs
  rw [← e, latF_len hT]
theorem sfree6_loop {kd : Int} {N : S46 → List S46} {T : List S46 → List S46} {K : S46 → Prop} (HS : LatSp kd N T K) (L : List (List S46)) (hL : L.length ≤ 1000000) (hs : ∀ s ∈ L, 1 ≤ s.length ∧ s.length ≤ 500 ∧ ∀ t, isT6 t → isShapeB (latF T t s) = true) (d : Nat) : ∀ (n : Nat) (out : List (List S46)), n + d = L.length → out.length ≤ n → Ev (fun k => spec_l07Free.l0 k kd L out n) (out ++ ownF T (L.drop n)) := by
  induction d with
  | zero =>
    intro n out hd ho
    rw [List.drop_of_length_le (by omega)]
    exact Ev.step (f := fun _ => _) (fun k => by simp only [spec_l07Free.l0]; rfl) (ev_neg (by omega) (ev_const (by simp [ownF])))
  | succ d ih =>
    intro n out hd ho
    obtain ⟨m1, m2, m3⟩ := hs _ (getD_mem L [] n (by omega))
    have hf := sforms6_loop HS (L.getD n []) m1 m2 m3 12 0 (by omega)
    have hle := sleast6_val (latFs T (L.getD n []) 12) (by rw [latFs_len]; omega) (by rw [latFs_len]; omega) (fun s hs => by
      unfold latFs at hs
      obtain ⟨t, _, rfl⟩ := List.mem_map.1 hs
      rw [latF_len HS.tlen]
      omega)
    have hc := scmp_val (leastL (latFs T (L.getD n []) 12)) (L.getD n []) (by rw [least6_len HS.tlen]; omega)
    refine Ev.step (f := fun _ => _) (fun k => by simp only [spec_l07Free.l0]; rfl) (ev_pos (by omega) (ev_pos (by omega) (Ev.bind hf (Ev.bind hle (Ev.bind hc ?_)))))
    rw [wrap_succ n (by omega), drop_cons L [] n (by omega)]
    unfold ownF
    rw [List.filter_cons]
    by_cases c : cmpS (leastL (latFs T (L.getD n []) 12)) (L.getD n []) = 0
    · refine ev_pos c (ev_pos (by omega) ?_)
      rw [if_pos (decide_eq_true c)]
      have := ih (n + 1) (out ++ [L.getD n []]) (by omega) (by simp; omega)
      rw [List.append_assoc] at this
      exact this
    · refine ev_neg c ?_
      rw [if_neg (by simpa using c)]
      exact ih (n + 1) out (by omega) (by omega)
theorem sfree6_val {kd : Int} {N : S46 → List S46} {T : List S46 → List S46} {K : S46 → Prop} (HS : LatSp kd N T K) (L : List (List S46)) (hL : L.length ≤ 1000000) (hs : ∀ s ∈ L, 1 ≤ s.length ∧ s.length ≤ 500 ∧ ∀ t, isT6 t → isShapeB (latF T t s) = true) : Ev (fun k => spec_l07Free.f k kd L) (ownF T L) :=
  ev_eq (sfree6_loop HS L hL hs L.length 0 [] (by omega) (by simp)) (by simp)
/-- The program's forms: the same. -/
theorem iforms6_val {T : List S46 → List S46} (hT : ∀ s, (T s).length = s.length) (F : Nat → List S46 → Int → Option (List S46)) (l : List S46) (hl : l.length ≤ 500) (hF : ∀ t, isT6 t → Ev (fun k => F k l t) (latF T t l)) (hsh : ∀ t, isT6 t → isShapeB (latF T t l) = true) : ∀ n : Nat, n ≤ 12 → Ev (fun k => formsG k (F k) l n) (latFs T l n)
  | 0, _ => ev_const rfl
  | n + 1, hn => by
    have ih := iforms6_val hT F l hl hF hsh n (by omega)
    have ht : isT6 (n : Int) := ⟨by omega, by omega⟩
    have hs := impl_shape_val (latF T (n : Int) l) (by rw [latF_len hT]; unfold maxLen; omega)
    rw [hsh _ ht] at hs
    obtain ⟨k1, e1⟩ := ih
    obtain ⟨k2, e2⟩ := hF (n : Int) ht
    obtain ⟨k3, e3⟩ := hs
    refine ⟨k1 + k2 + k3, fun k hk => ?_⟩
    show formsG k (F k) l (n + 1) = _
    have a1 : formsG k (F k) l n = _ := e1 k (by omega)
    have a2 : F k l (n : Int) = _ := e2 k (by omega)
    have a3 : impl_IsShape.f k _ = _ := e3 k (by omega)
    rw [formsG, a1, Option.bind_some, a2, Option.bind_some, if_pos a3, latFs_succ]
theorem iown6_val {T : List S46 → List S46} (hT : ∀ s, (T s).length = s.length) (F : Nat → List S46 → Int → Option (List S46)) : ∀ L : List (List S46), (∀ s ∈ L, s.length ≤ 500 ∧ ∀ t, isT6 t → Ev (fun k => F k s t) (latF T t s) ∧ isShapeB (latF T t s) = true) → Ev (fun k => ownG k (F k) L) (ownF T L)
  | [], _ => ev_const rfl
  | s :: r, h => by
    obtain ⟨h1, h2⟩ := h s (List.mem_cons_self ..)
    have ih := iown6_val hT F r (fun q hq => h q (List.mem_cons_of_mem _ hq))
    have hf := iforms6_val hT F s h1 (fun t ht => (h2 t ht).1) (fun t ht => (h2 t ht).2) 12 (by omega)
    obtain ⟨k1, e1⟩ := ih
    obtain ⟨k2, e2⟩ := hf
    refine ⟨k1 + k2, fun k hk => ?_⟩
    show ownG k (F k) (s :: r) = _
    have a1 : ownG k (F k) r = _ := e1 k (by omega)
    have a2 : formsG k (F k) s 12 = _ := e2 k (by omega)
    rw [ownG, a2, Option.bind_some, a1, Option.bind_some]
    unfold ownF
    rw [List.filter_cons]
    by_cases c : cmpS (leastL (latFs T s 12)) s = 0
    · rw [if_pos c, if_pos (decide_eq_true c)]
    · rw [if_neg c, if_neg (by simpa using c)]
/-! Turned listed shapes are shapes. -/
def rI6 (c : S46) : S46 := ⟨-c.f1, c.f0 + c.f1⟩
def rotI : Nat → S46 → S46
  | 0, c => c
  | n + 1, c => rotI n (rI6 c)
def bd6 : Nat → Int
  | 0 => 1000000000
  | n + 1 => bd6 n / 2
theorem bd6_le : ∀ n, 0 ≤ bd6 n ∧ bd6 n ≤ 1000000000
  | 0 => by decide
  | n + 1 => by
    have := bd6_le n
    unfold bd6
    omega
theorem rot6_I : ∀ (n : Nat) (c : S46), nrC (bd6 n) c → rot6 n c = rotI n c
  | 0, _, _ => rfl
  | n + 1, c, h => by
    have hb := bd6_le n
    have hb2 : bd6 (n + 1) = bd6 n / 2 := rfl
    unfold nrC at h
    rw [rot6, rotI, wrap_id _ (by omega) (by omega), wrap_id _ (by omega) (by omega)]
    exact rot6_I n (rI6 c) (by unfold nrC rI6; simp only; omega)
theorem bd6_five (n : Nat) (hn : n ≤ 5) : 1000000 ≤ bd6 n := by
  rcases (by omega : n = 0 ∨ n = 1 ∨ n = 2 ∨ n = 3 ∨ n = 4 ∨ n = 5) with rfl | rfl | rfl | rfl | rfl | rfl <;> decide
theorem rotI_all (n : Nat) (hn : n ≤ 5) (c : S46) : rotI n c = ⟨c.f0, c.f1⟩ ∧ n = 0 ∨ rotI n c = ⟨-c.f1, c.f0 + c.f1⟩ ∧ n = 1 ∨ rotI n c = ⟨-c.f0 - c.f1, c.f0⟩ ∧ n = 2 ∨ rotI n c = ⟨-c.f0, -c.f1⟩ ∧ n = 3 ∨ rotI n c = ⟨c.f1, -c.f0 - c.f1⟩ ∧ n = 4 ∨ rotI n c = ⟨c.f0 + c.f1, -c.f0⟩ ∧ n = 5 := by
  rcases (by omega : n = 0 ∨ n = 1 ∨ n = 2 ∨ n = 3 ∨ n = 4 ∨ n = 5) with rfl | rfl | rfl | rfl | rfl | rfl
  · exact .inl ⟨rfl, rfl⟩
  · exact .inr (.inl ⟨rfl, rfl⟩)
  · refine .inr (.inr (.inl ⟨?_, rfl⟩))
    simp only [rotI, rI6, S46.mk.injEq]
    omega
  · refine .inr (.inr (.inr (.inl ⟨?_, rfl⟩)))
    simp only [rotI, rI6, S46.mk.injEq]
    omega
  · refine .inr (.inr (.inr (.inr (.inl ⟨?_, rfl⟩))))
    simp only [rotI, rI6, S46.mk.injEq]
    omega
  · refine .inr (.inr (.inr (.inr (.inr ⟨?_, rfl⟩))))
    simp only [rotI, rI6, S46.mk.injEq]
    omega
theorem latT_I (t : Int) (h : isT6 t) : ∃ n : Nat, n ≤ 5 ∧ ∀ c, nrC 1000000 c → latT t c = rotI n (if t ≥ 6 then ⟨c.f1, c.f0⟩ else c) := by
  obtain ⟨n, hn, e⟩ := tmod6 t h
  refine ⟨n, hn, fun c hc => ?_⟩
  have hb := bd6_five n hn
  unfold latT
  rw [e, Int.toNat_natCast]
  unfold nrC at hc
  by_cases h6 : t ≥ 6
  · rw [if_pos h6]
    exact rot6_I n _ (by unfold nrC; simp only; omega)
  · rw [if_neg h6]
    exact rot6_I n _ (by unfold nrC; omega)
theorem rotI_inj (n : Nat) (hn : n ≤ 5) (c d : S46) (h : rotI n c = rotI n d) : c = d := by
  have h1 := rotI_all n hn c
  have h2 := rotI_all n hn d
  rw [h] at h1
  generalize rotI n d = e at h1 h2
  obtain ⟨a, b⟩ := c
  obtain ⟨x, y⟩ := d
  obtain ⟨u, v⟩ := e
  simp only [S46.mk.injEq] at h1 h2 ⊢
  omega
theorem rotI_spr (n : Nat) (hn : n ≤ 5) (c d : S46) (m : Int) (h0 : c.f0 - d.f0 ≤ m ∧ d.f0 - c.f0 ≤ m) (h1 : c.f1 - d.f1 ≤ m ∧ d.f1 - c.f1 ≤ m) : (rotI n c).f0 - (rotI n d).f0 ≤ 2 * m ∧ (rotI n c).f1 - (rotI n d).f1 ≤ 2 * m := by
  have k1 := rotI_all n hn c
  have k2 := rotI_all n hn d
  generalize rotI n d = e at k2
  generalize rotI n c = g at k1
  obtain ⟨a, b⟩ := c
  obtain ⟨x, y⟩ := d
  obtain ⟨u, v⟩ := e
  obtain ⟨p, q⟩ := g
  simp only [S46.mk.injEq] at *
  omega
theorem rotI_near (n : Nat) (hn : n ≤ 5) (c : S46) (m : Int) (h : nrC m c) : nrC (2 * m) (rotI n c) := by
  have k1 := rotI_all n hn c
  generalize rotI n c = g at k1
  obtain ⟨a, b⟩ := c
  obtain ⟨p, q⟩ := g
  unfold nrC at *
  simp only [S46.mk.injEq] at *
  omega
theorem lat_shape {N : S46 → List S46} {T : List S46 → List S46} {V : Int → Int → Prop} {K : S46 → Prop} {b : Nat} (HL : LatOk N T V K b) (k : Nat) (hk : k ≤ 6) (s : List S46) (h : GdN N K k s) (t : Int) (ht : isT6 t) : isShapeB (latF T t s) = true := by
  obtain ⟨n, hn, hT⟩ := latT_I t ht
  have hsw : ∀ c ∈ s, ∃ c', latT t c = rotI n c' ∧ (c' = c ∨ c' = ⟨c.f1, c.f0⟩) ∧ (c' = if t ≥ 6 then ⟨c.f1, c.f0⟩ else c) := fun c hc => by
    have hr := h.rng c hc
    refine ⟨if t ≥ 6 then ⟨c.f1, c.f0⟩ else c, hT c (by unfold nrC; omega), ?_, rfl⟩
    by_cases h6 : t ≥ 6
    · rw [if_pos h6]; exact .inr rfl
    · rw [if_neg h6]; exact .inl rfl
  obtain ⟨S, hS⟩ : ∃ S, S = sortC (s.map (latT t)) := ⟨_, rfl⟩
  have hperm : S.Perm (s.map (latT t)) := by rw [hS]; exact sortC_perm _
  have hsrt : S.Pairwise leC := by rw [hS]; exact sortC_sorted _
  have hlen : S.length = k + 1 := by rw [hperm.length_eq, List.length_map, h.len]
  have hmem : ∀ x ∈ S, ∃ c ∈ s, latT t c = x := fun x hx => List.mem_map.1 ((hperm.mem_iff).1 hx)
  have hnd : S.Nodup := by
    refine hperm.nodup_iff.2 ?_
    have h0 := h.nd
    unfold List.Nodup at *
    rw [List.pairwise_map]
    refine List.Pairwise.imp_of_mem (fun {x y} hx hy hxy e => hxy ?_) h0
    obtain ⟨x', ex, _, ex'⟩ := hsw x hx
    obtain ⟨y', ey, _, ey'⟩ := hsw y hy
    rw [ex, ey] at e
    have e2 := rotI_inj n hn x' y' e
    rw [ex', ey'] at e2
    by_cases h6 : t ≥ 6
    · rw [if_pos h6, if_pos h6] at e2
      obtain ⟨a, b⟩ := x
      obtain ⟨u, v⟩ := y
      simp only [S46.mk.injEq] at e2 ⊢
      omega
    · rw [if_neg h6, if_neg h6] at e2
      exact e2
  have hnear : ∀ x ∈ S, nrC 28 x := fun x hx => by
    obtain ⟨c, hc, rfl⟩ := hmem x hx
    obtain ⟨c', e, e2, _⟩ := hsw c hc
    have hr := h.rng c hc
    rw [e]
    have := rotI_near n hn c' 14 (by
      unfold nrC
      rcases e2 with rfl | rfl
      · omega
      · simp only; omega)
    exact this
  have hspr : ∀ x ∈ S, ∀ y ∈ S, x.f0 - y.f0 ≤ 24 ∧ x.f1 - y.f1 ≤ 24 := fun x hx y hy => by
    obtain ⟨c, hc, rfl⟩ := hmem x hx
    obtain ⟨d, hd, rfl⟩ := hmem y hy
    obtain ⟨c', e, _, e2⟩ := hsw c hc
    obtain ⟨d', g, _, g2⟩ := hsw d hd
    have h1 := h.spr c hc d hd
    have h2 := h.spr d hd c hc
    rw [e, g]
    have := rotI_spr n hn c' d' 12 (by
      rw [e2, g2]
      by_cases h6 : t ≥ 6
      · rw [if_pos h6, if_pos h6]; simp only; omega
      · rw [if_neg h6, if_neg h6]; omega) (by
      rw [e2, g2]
      by_cases h6 : t ≥ 6
      · rw [if_pos h6, if_pos h6]; simp only; omega
      · rw [if_neg h6, if_neg h6]; omega)
    omega
  obtain ⟨p, q, _, hTS, hlo, ⟨u0, hu0, hu0'⟩, u1, hu1, hu1'⟩ := HL.tid S (by omega) (by omega) (fun x hx => by have := hnear x hx; unfold nrC at *; omega)
  unfold latF
  rw [← hS, hTS]
  refine (shp_iff _).2 (shp_of (by rw [List.length_map]; omega) (by rw [List.length_map]; omega) (fun x hx => ?_) ?_ ?_)
  · obtain ⟨y, hy, rfl⟩ := List.mem_map.1 hx
    have h1 := hlo y hy
    have h2 := hspr y hy u0 hu0
    have h3 := hspr y hy u1 hu1
    simp only [shf]
    omega
  · rw [List.pairwise_map]
    refine hsrt.imp (fun {x y} hxy => ?_)
    have := (leC_iff x y).1 hxy
    exact (leC_iff _ _).2 (by simp only [shf]; omega)
  · unfold List.Nodup
    rw [List.pairwise_map]
    exact hnd.imp (fun {x y} hxy e => hxy (shf_inj e))
/-! A listed shape that is its own least form: by reckoning. -/
def latC (TI : List S46 → List S46) (t : Nat) (s : List S46) : List S46 := TI (insAll [] (s.map (fun c => rotI (t % 6) (if 6 ≤ t then ⟨c.f1, c.f0⟩ else c))))
theorem latC_eq {T TI : List S46 → List S46} (hTI : ∀ s, 1 ≤ s.length → s.length ≤ 100 → (∀ c ∈ s, nrC 100 c) → T s = TI s) (s : List S46) (h1 : 1 ≤ s.length) (h2 : s.length ≤ 100) (hs : ∀ c ∈ s, nrC 40 c) (t : Nat) (ht : t < 12) : latF T (t : Int) s = latC TI t s := by
  have hn : t % 6 ≤ 5 := by omega
  have hb := bd6_five (t % 6) hn
  have e : s.map (latT (t : Int)) = s.map (fun c => rotI (t % 6) (if 6 ≤ t then ⟨c.f1, c.f0⟩ else c)) := by
    refine List.map_congr_left (fun c hc => ?_)
    have hr := hs c hc
    unfold nrC at hr
    unfold latT
    rw [show (Int.tmod (t : Int) 6).toNat = t % 6 by rw [Int.tmod_eq_emod_of_nonneg (by omega)]; omega]
    by_cases h6 : 6 ≤ t
    · rw [if_pos (by omega), if_pos h6]
      exact rot6_I _ _ (by unfold nrC; simp only; omega)
    · rw [if_neg (by omega), if_neg h6]
      exact rot6_I _ _ (by unfold nrC; omega)
  unfold latF latC
  rw [e, insAll_eq]
  refine hTI _ (by rw [sortC_len, List.length_map]; exact h1) (by rw [sortC_len, List.length_map]; exact h2) (fun x hx => ?_)
  obtain ⟨c, hc, rfl⟩ := List.mem_map.1 ((sortC_perm _).mem_iff.1 hx)
  have hr := hs c hc
  unfold nrC at hr
  have := rotI_near (t % 6) hn (if 6 ≤ t then ⟨c.f1, c.f0⟩ else c) 40 (by
    unfold nrC
    by_cases h6 : 6 ≤ t
    · rw [if_pos h6]; simp only; omega
    · rw [if_neg h6]; omega)
  unfold nrC at *
  omega
theorem wit_own {T TI : List S46 → List S46} (hTI : ∀ s, 1 ≤ s.length → s.length ≤ 100 → (∀ c ∈ s, nrC 100 c) → T s = TI s) (s : List S46) (h1 : 1 ≤ s.length) (h2 : s.length ≤ 100) (hs : ∀ c ∈ s, nrC 40 c) (h0 : latC TI 0 s = s) (hle : ∀ t, t < 12 → cmpS s (latC TI t s) ≤ 0) : cmpS (leastL (latFs T s 12)) s = 0 := by
  have hl := leastL_is (latFs T s 12) (by rw [latFs_len]; omega)
  have hm : s ∈ latFs T s 12 := by
    unfold latFs
    refine List.mem_map.2 ⟨0, by simp, ?_⟩
    rw [latC_eq hTI s h1 h2 hs 0 (by omega)]
    exact h0
  have ha := hl.2 s hm
  obtain ⟨t, ht, e⟩ : ∃ t : Nat, t < 12 ∧ latF T (t : Int) s = leastL (latFs T s 12) := by
    have := hl.1
    unfold latFs at this
    obtain ⟨t, ht, e⟩ := List.mem_map.1 this
    exact ⟨t, by simpa using ht, by unfold latFs; exact e⟩
  have hb := hle t ht
  rw [← latC_eq hTI s h1 h2 hs t ht, e] at hb
  have := cmpS_neg s (leastL (latFs T s 12))
  omega
/-! Triangles: the lattice's laws hold. -/
theorem mod3_eq (x : Int) (h1 : -1000000 ≤ x) (h2 : x ≤ 1000000) : mod3 x = x % 3 := by
  unfold mod3
  have h3 : -2 ≤ Int.tmod x 3 ∧ Int.tmod x 3 ≤ 2 ∧ (Int.tmod x 3 + 3) % 3 = x % 3 := by
    by_cases c : 0 ≤ x
    · rw [Int.tmod_eq_emod_of_nonneg c]
      omega
    · have e : Int.tmod x 3 = -((-x) % 3) := by
        rw [← Int.neg_neg x, Int.neg_tmod, Int.tmod_eq_emod_of_nonneg (by omega)]
        simp
      rw [e]
      omega
  rw [wrap_id _ (by omega) (by omega), Int.tmod_eq_emod_of_nonneg (by omega)]
  exact h3.2.2
theorem nearT_iff (c z : S46) (h : nrC 900000 c) : z ∈ nearT c ↔ (c.f0 % 3 = 2 ∧ ((z.f0 = c.f0 - 1 ∧ z.f1 = c.f1 - 1) ∨ (z.f0 = c.f0 + 2 ∧ z.f1 = c.f1 - 1) ∨ (z.f0 = c.f0 - 1 ∧ z.f1 = c.f1 + 2))) ∨ (c.f0 % 3 ≠ 2 ∧ ((z.f0 = c.f0 + 1 ∧ z.f1 = c.f1 + 1) ∨ (z.f0 = c.f0 - 2 ∧ z.f1 = c.f1 + 1) ∨ (z.f0 = c.f0 + 1 ∧ z.f1 = c.f1 - 2))) := by
  unfold nrC at h
  unfold nearT impl_trianglesAround.f impl_sorted.f
  rw [mod3_some, Option.bind_some, mod3_eq c.f0 (by omega) (by omega)]
  by_cases e : c.f0 % 3 = 2
  · rw [if_pos e, if_pos (by simp), Option.bind_some, Option.getD_some, (sortC_perm _).mem_iff]
    rw [wrap_id (c.f0 + (-1)) (by omega) (by omega), wrap_id (c.f1 + (-1)) (by omega) (by omega), wrap_id (c.f0 - (2 * (-1))) (by omega) (by omega), wrap_id (c.f1 - (2 * (-1))) (by omega) (by omega)]
    obtain ⟨x, y⟩ := c
    obtain ⟨a, b⟩ := z
    simp only [List.mem_cons, List.not_mem_nil, or_false, S46.mk.injEq]
    simp only at e
    omega
  · rw [if_neg e, if_pos (by simp), Option.bind_some, Option.getD_some, (sortC_perm _).mem_iff]
    rw [wrap_id (c.f0 + 1) (by omega) (by omega), wrap_id (c.f1 + 1) (by omega) (by omega), wrap_id (c.f0 - (2 * 1)) (by omega) (by omega), wrap_id (c.f1 - (2 * 1)) (by omega) (by omega)]
    obtain ⟨x, y⟩ := c
    obtain ⟨a, b⟩ := z
    simp only [List.mem_cons, List.not_mem_nil, or_false, S46.mk.injEq]
    simp only at e
    omega
theorem inormT_val (l : List S46) (h1 : 1 ≤ l.length) (hm : l.length ≤ 1000000) : Ev (fun k => impl_normalTriangles.f k l) (movL (wrap64 (mod3 (minX l) - minX l)) (wrap64 (mod3 (minY l) - minY l)) l) :=
  Ev.bind (corner_val l (by unfold maxLen; omega) h1) (ev_some (mod3_some _) (ev_some (mod3_some _) (Ev.bind (ev_pos (by omega) (ev_pos (by omega) (imove_loop l _ _ (by unfold maxLen; omega) hm l.length 0 [] (by omega) rfl))) (ev_const (by simp)))))
theorem normT_eq (l : List S46) (h1 : 1 ≤ l.length) (hl : l.length ≤ 1000000) : normT l = movL (wrap64 (mod3 (minX l) - minX l)) (wrap64 (mod3 (minY l) - minY l)) l := by
  obtain ⟨k, hk⟩ := normT_some l h1 hl
  obtain ⟨K, hK⟩ := inormT_val l h1 hl
  have hup : ∀ j, impl_normalTriangles.f (k + j) l = some (normT l) := by
    intro j
    induction j with
    | zero => exact hk
    | succ j ih => exact impl_normalTriangles.mono l (k + j) _ ih
  have e1 := hup K
  have e2 := hK (k + K) (by omega)
  exact Option.some.inj (e1.symm.trans e2)
def normY (s : List S46) : List S46 := s.map (shf (minX s % 3 - minX s) (minY s % 3 - minY s))
theorem normT_shf (s : List S46) (h1 : 1 ≤ s.length) (h2 : s.length ≤ 1000) (h : ∀ c ∈ s, nrC 900000 c) : normT s = normY s := by
  have hx := minF_in (·.f0) (-900000) 900000 s (cellAt s 0).f0 (by have := h _ (cell_mem s 0 h1); unfold nrC at this; omega) (fun c hc => by have := h c hc; unfold nrC at this; omega)
  have hy := minF_in (·.f1) (-900000) 900000 s (cellAt s 0).f1 (by have := h _ (cell_mem s 0 h1); unfold nrC at this; omega) (fun c hc => by have := h c hc; unfold nrC at this; omega)
  rw [normT_eq s h1 (by omega)]
  unfold normY movL
  have ex : minX s = minF (·.f0) s (cellAt s 0).f0 := rfl
  have ey : minY s = minF (·.f1) s (cellAt s 0).f1 := rfl
  rw [← ex] at hx
  rw [← ey] at hy
  rw [mod3_eq (minX s) (by omega) (by omega), mod3_eq (minY s) (by omega) (by omega), wrap_id (minX s % 3 - minX s) (by omega) (by omega), wrap_id (minY s % 3 - minY s) (by omega) (by omega)]
  refine List.map_congr_left (fun c hc => ?_)
  have := h c hc
  unfold nrC at this
  rw [wrap_id (c.f0 + (minX s % 3 - minX s)) (by omega) (by omega), wrap_id (c.f1 + (minY s % 3 - minY s)) (by omega) (by omega)]
  rfl
theorem normY_eq (s : List S46) (h1 : 1 ≤ s.length) (h2 : s.length ≤ 100) (h : ∀ c ∈ s, nrC 100 c) : normT s = normY s := normT_shf s h1 (by omega) (fun c hc => by have := h c hc; unfold nrC at *; omega)
def KT (c : S46) : Prop := c.f0 % 3 = c.f1 % 3 ∧ c.f0 % 3 ≠ 0
def VT (p q : Int) : Prop := p % 3 = 0 ∧ q % 3 = 0
theorem triOk : LatOk nearT normT VT KT 3 where
  near := fun c d hc _ hd => by
    rcases (nearT_iff c d (by unfold nrC at *; omega)).1 hd with ⟨_, h | h | h⟩ | ⟨_, h | h | h⟩ <;> (clear hc; omega)
  sym := fun c d hc hk hd => by
    have hd2 := (nearT_iff c d (by unfold nrC at *; omega)).1 hd
    have hn : nrC 900000 d := by
      unfold nrC at *
      rcases hd2 with ⟨_, h | h | h⟩ | ⟨_, h | h | h⟩ <;> omega
    clear hc hd
    unfold KT at *
    refine ⟨(nearT_iff d c hn).2 ?_, ?_⟩
    · clear hn
      rcases hd2 with ⟨e, h | h | h⟩ | ⟨e, h | h | h⟩
      · exact .inr ⟨by omega, .inl ⟨by omega, by omega⟩⟩
      · exact .inr ⟨by omega, .inr (.inl ⟨by omega, by omega⟩)⟩
      · exact .inr ⟨by omega, .inr (.inr ⟨by omega, by omega⟩)⟩
      · exact .inl ⟨by omega, .inl ⟨by omega, by omega⟩⟩
      · exact .inl ⟨by omega, .inr (.inl ⟨by omega, by omega⟩)⟩
      · exact .inl ⟨by omega, .inr (.inr ⟨by omega, by omega⟩)⟩
    · clear hn
      rcases hd2 with ⟨e, h | h | h⟩ | ⟨e, h | h | h⟩ <;> omega
  mov := fun p q c d hv hc hc' hk hd => by
    have hd2 := (nearT_iff c d (by unfold nrC at *; omega)).1 hd
    have hn : nrC 900000 (shf p q c) := by unfold nrC at *; omega
    clear hc hc' hd
    obtain ⟨hp, hq⟩ := hv
    refine (nearT_iff (shf p q c) (shf p q d) hn).2 ?_
    clear hn hq
    simp only [shf]
    rcases hd2 with ⟨e, h | h | h⟩ | ⟨e, h | h | h⟩
    · exact .inl ⟨by omega, .inl ⟨by omega, by omega⟩⟩
    · exact .inl ⟨by omega, .inr (.inl ⟨by omega, by omega⟩)⟩
    · exact .inl ⟨by omega, .inr (.inr ⟨by omega, by omega⟩)⟩
    · exact .inr ⟨by omega, .inl ⟨by omega, by omega⟩⟩
    · exact .inr ⟨by omega, .inr (.inl ⟨by omega, by omega⟩)⟩
    · exact .inr ⟨by omega, .inr (.inr ⟨by omega, by omega⟩)⟩
  cls := fun p q c hv hk => by
    unfold VT at hv
    unfold KT at *
    simp only [shf]
    omega
  few := fun c => by rw [(nearT_some c).2]; exact Nat.le_refl 3
  free := fun c hc hk => by
    by_cases e : c.f0 % 3 = 2
    · exact ⟨⟨c.f0 - 1, c.f1 - 1⟩, (nearT_iff c _ (by unfold nrC at *; omega)).2 (.inl ⟨e, .inl ⟨rfl, rfl⟩⟩), by show c.f0 - 1 < c.f0; omega⟩
    · exact ⟨⟨c.f0 - 2, c.f1 + 1⟩, (nearT_iff c _ (by unfold nrC at *; omega)).2 (.inr ⟨e, .inr (.inl ⟨rfl, rfl⟩)⟩), by show c.f0 - 2 < c.f0; omega⟩
  tid := fun s h1 h2 hs => by
    refine ⟨minX s % 3 - minX s, minY s % 3 - minY s, by unfold VT; omega, normT_shf s h1 (by omega) (fun c hc => by have := hs c hc; unfold nrC at *; omega), fun c hc => ?_, ?_, ?_⟩
    · have a := (minF_le (·.f0) s (cellAt s 0).f0).2 c hc
      have b := (minF_le (·.f1) s (cellAt s 0).f1).2 c hc
      unfold minX minY
      omega
    · obtain ⟨⟨c, hc, ec⟩, _⟩ := corn_mem s h1
      exact ⟨c, hc, by omega⟩
    · obtain ⟨_, c, hc, ec⟩ := corn_mem s h1
      exact ⟨c, hc, by omega⟩
theorem smod3 (x : Int) : spec_l01Mod.f x 3 = some (mod3 x) := by
  unfold spec_l01Mod.f mod3
  rw [if_neg (by decide)]
theorem triSp : LatSp 0 nearT normT KT where
  around := fun c hc hk => by
    unfold nrC at hc
    unfold KT at hk
    have hL : ∃ ar, spec_l07Around.f 0 c.f0 c.f1 = some ar ∧ ar.length ≤ 6 ∧ ∀ d, d ∈ ar ↔ (c.f0 % 3 = 2 ∧ ((d.f0 = c.f0 - 1 ∧ d.f1 = c.f1 - 1) ∨ (d.f0 = c.f0 + 2 ∧ d.f1 = c.f1 - 1) ∨ (d.f0 = c.f0 - 1 ∧ d.f1 = c.f1 + 2))) ∨ (c.f0 % 3 ≠ 2 ∧ ((d.f0 = c.f0 + 1 ∧ d.f1 = c.f1 + 1) ∨ (d.f0 = c.f0 - 2 ∧ d.f1 = c.f1 + 1) ∨ (d.f0 = c.f0 + 1 ∧ d.f1 = c.f1 - 2))) := by
      unfold spec_l07Around.f
      rw [if_neg (by decide), smod3, Option.bind_some, mod3_eq c.f0 (by omega) (by omega)]
      obtain ⟨x, y⟩ := c
      simp only at hc hk ⊢
      by_cases e : x % 3 = 1
      · rw [if_pos e]
        refine ⟨_, rfl, by simp, fun d => ?_⟩
        rw [wrap_id (x + 1) (by omega) (by omega), wrap_id (y - 2) (by omega) (by omega), wrap_id (x - 2) (by omega) (by omega), wrap_id (y + 1) (by omega) (by omega)]
        obtain ⟨a, b⟩ := d
        simp only [List.mem_cons, List.not_mem_nil, or_false, S46.mk.injEq]
        constructor
        · rintro (h | h | h)
          · exact .inr ⟨by omega, .inr (.inr h)⟩
          · exact .inr ⟨by omega, .inr (.inl h)⟩
          · exact .inr ⟨by omega, .inl h⟩
        · rintro (⟨e2, _⟩ | ⟨_, h | h | h⟩)
          · exact absurd e2 (by omega)
          · exact .inr (.inr h)
          · exact .inr (.inl h)
          · exact .inl h
      · rw [if_neg e]
        refine ⟨_, rfl, by simp, fun d => ?_⟩
        rw [wrap_id (x - 1) (by omega) (by omega), wrap_id (y - 1) (by omega) (by omega), wrap_id (x + 2) (by omega) (by omega), wrap_id (y + 2) (by omega) (by omega)]
        obtain ⟨a, b⟩ := d
        simp only [List.mem_cons, List.not_mem_nil, or_false, S46.mk.injEq]
        have e3 : x % 3 = 2 := by omega
        constructor
        · exact fun h => .inl ⟨e3, h⟩
        · rintro (⟨_, h⟩ | ⟨e2, _⟩)
          · exact h
          · exact absurd e3 e2
    obtain ⟨ar, h1, h2, h3⟩ := hL
    exact ⟨ar, h1, h2, fun d => (h3 d).trans (nearT_iff c d (by unfold nrC; omega)).symm⟩
  normal := fun s h1 h2 => by
    rw [normT_eq s h1 (by omega)]
    exact Ev.bind (least_val s (by unfold maxLen; omega) h1) (ev_neg (by decide) (ev_some (smod3 _) (ev_some (smod3 _) (Ev.bind (smove_val s _ _ h2) (ev_const rfl)))))
  tlen := normT_len
theorem triF : ∀ s ∈ firstT, GdN nearT KT 0 s := fun s hs => by
  have e : s = [⟨1, 1⟩] ∨ s = [⟨2, 2⟩] := by simpa [firstT] using hs
  have key : ∀ x : Int, (x = 1 ∨ x = 2) → GdN nearT KT 0 [(⟨x, x⟩ : S46)] := fun x hx => by
    refine ⟨rfl, by simp, by simp, fun c hc d hd => ?_, fun c hc => ?_, ⟨⟨_, List.mem_singleton.2 rfl, by show x ≤ 2; omega⟩, _, List.mem_singleton.2 rfl, by show x ≤ 2; omega⟩, fun c hc => ?_, fun Q hex _ c hc => ?_⟩
    · rw [List.mem_singleton.1 hc, List.mem_singleton.1 hd]; simp
    · rw [List.mem_singleton.1 hc]; show 0 ≤ x ∧ 0 ≤ x; omega
    · rw [List.mem_singleton.1 hc]
      rcases hx with rfl | rfl <;> (unfold KT; decide)
    · obtain ⟨y, hy, hq⟩ := hex
      rw [List.mem_singleton.1 hy] at hq
      rw [List.mem_singleton.1 hc]
      exact hq
  rcases e with rfl | rfl
  · exact key 1 (.inl rfl)
  · exact key 2 (.inr rfl)
theorem triAsc : Asc firstT := by
  unfold Asc firstT
  refine List.pairwise_pair.2 ?_
  decide
def triW : Nat → List S46
  | 0 => [⟨1, 1⟩]
  | 1 => [⟨1, 1⟩, ⟨2, 2⟩]
  | 2 => [⟨1, 1⟩, ⟨4, 1⟩, ⟨2, 2⟩]
  | 3 => [⟨1, 1⟩, ⟨4, 1⟩, ⟨2, 2⟩, ⟨5, 2⟩]
  | 4 => [⟨1, 1⟩, ⟨4, 1⟩, ⟨7, 1⟩, ⟨2, 2⟩, ⟨5, 2⟩]
  | _ => [⟨1, 1⟩, ⟨4, 1⟩, ⟨7, 1⟩, ⟨2, 2⟩, ⟨5, 2⟩, ⟨8, 2⟩]
theorem triW_small (k : Nat) : ∀ c ∈ triW k, nrC 40 c := by
  unfold triW
  split <;> simp [nrC]
theorem triW_len (k : Nat) : 1 ≤ (triW k).length ∧ (triW k).length ≤ 6 := by
  unfold triW
  split <;> simp
theorem triW_own (k : Nat) (hk : k ≤ 5) : cmpS (leastL (latFs normT (triW k) 12)) (triW k) = 0 := by
  have hl := triW_len k
  refine wit_own (T := normT) (TI := normY) normY_eq (triW k) hl.1 (by omega) (triW_small k) ?_ ?_
  · rcases (by omega : k = 0 ∨ k = 1 ∨ k = 2 ∨ k = 3 ∨ k = 4 ∨ k = 5) with rfl | rfl | rfl | rfl | rfl | rfl <;> rfl
  · rcases (by omega : k = 0 ∨ k = 1 ∨ k = 2 ∨ k = 3 ∨ k = 4 ∨ k = 5) with rfl | rfl | rfl | rfl | rfl | rfl <;> decide
theorem triW_step (k : Nat) (d : S46) (c : S46) (h : triW k ∈ allGrownL nearT normT firstT k) (hc : c ∈ triW k) (hn : d ∈ nearT c) (hd : d ∉ triW k) (hs : nrC 40 d) (e : normY (insAll [] (triW k ++ [d])) = triW (k + 1)) : triW (k + 1) ∈ allGrownL nearT normT firstT (k + 1) := by
  refine (lat_mem nearT normT firstT k _).2 ⟨triW k, h, d, ⟨c, hc, hn, hd⟩, ?_⟩
  have hl := triW_len k
  rw [normY_eq _ (by rw [sortC_len]; simp) (by rw [sortC_len]; simp; omega) (fun x hx => ?_), ← insAll_eq, e]
  rcases List.mem_append.1 ((sortC_perm _).mem_iff.1 hx) with h | h
  · have := triW_small k x h
    unfold nrC at *
    omega
  · rw [List.mem_singleton.1 h]
    unfold nrC at *
    omega
theorem triW_mem (k : Nat) (hk : k ≤ 5) : triW k ∈ allGrownL nearT normT firstT k := by
  have m0 : triW 0 ∈ allGrownL nearT normT firstT 0 := by simp [triW, allGrownL, firstT]
  have m1 := triW_step 0 ⟨2, 2⟩ ⟨1, 1⟩ m0 (by simp [triW]) ((nearT_iff _ _ (by simp [nrC])).2 (by decide)) (by simp [triW]) (by simp [nrC]) rfl
  have m2 := triW_step 1 ⟨4, 1⟩ ⟨2, 2⟩ m1 (by simp [triW]) ((nearT_iff _ _ (by simp [nrC])).2 (by decide)) (by simp [triW]) (by simp [nrC]) rfl
  have m3 := triW_step 2 ⟨5, 2⟩ ⟨4, 1⟩ m2 (by simp [triW]) ((nearT_iff _ _ (by simp [nrC])).2 (by decide)) (by simp [triW]) (by simp [nrC]) rfl
  have m4 := triW_step 3 ⟨7, 1⟩ ⟨5, 2⟩ m3 (by simp [triW]) ((nearT_iff _ _ (by simp [nrC])).2 (by decide)) (by simp [triW]) (by simp [nrC]) rfl
  have m5 := triW_step 4 ⟨8, 2⟩ ⟨7, 1⟩ m4 (by simp [triW]) ((nearT_iff _ _ (by simp [nrC])).2 (by decide)) (by simp [triW]) (by simp [nrC]) rfl
  rcases (by omega : k = 0 ∨ k = 1 ∨ k = 2 ∨ k = 3 ∨ k = 4 ∨ k = 5) with rfl | rfl | rfl | rfl | rfl | rfl
  · exact m0
  · exact m1
  · exact m2
  · exact m3
  · exact m4
  · exact m5
/-! Both sides of the triangle functions. -/
theorem itriForm_val (l : List S46) (t : Int) (h : isT6 t) (h1 : 1 ≤ l.length) (hl : l.length ≤ 500) : Ev (fun k => impl_triangleForm.f k l t) (latF normT t l) := by
  unfold latF
  rw [normT_eq _ (by rw [sortC_len, List.length_map]; exact h1) (by rw [sortC_len, List.length_map]; omega)]
  exact Ev.bind (ilat_val l t h h1 hl) (Ev.bind (inormT_val _ (by rw [sortC_len, List.length_map]; exact h1) (by rw [sortC_len, List.length_map]; omega)) (ev_const rfl))
/-- What both sides list. -/
def triA (m : Nat) : List (List S46) := allGrownL nearT normT firstT (m - 1)
theorem triA_good (m : Nat) (h1 : 1 ≤ m) (h5 : m ≤ 6) : ∀ s ∈ triA m, GdN nearT KT (m - 1) s := lat_good triOk firstT triF (m - 1) (by omega)
theorem bd33 (k : Nat) (hk : k < 5) : bdN 3 k ≤ 20000 := by
  rcases (by omega : k = 0 ∨ k = 1 ∨ k = 2 ∨ k = 3 ∨ k = 4) with rfl | rfl | rfl | rfl | rfl <;> decide
theorem triA_few (m : Nat) (h1 : 1 ≤ m) (h5 : m ≤ 6) : (triA m).length ≤ 1000000 := by
  have h := lat_len triOk firstT triF (by simp [firstT]) (m - 1) (by omega)
  have : bdN 3 (m - 1) ≤ 1000000 := by
    rcases (by omega : m = 1 ∨ m = 2 ∨ m = 3 ∨ m = 4 ∨ m = 5 ∨ m = 6) with rfl | rfl | rfl | rfl | rfl | rfl <;> decide
  exact Nat.le_trans h this
theorem itriA (m : Nat) (h1 : 1 ≤ m) (h5 : m ≤ 6) : impl_allTriangles.f (m : Int) = some (triA m) := by
  unfold impl_allTriangles.f
  rw [if_pos ⟨⟨by omega, by omega⟩, by rw [Int.toNat_natCast]; exact lat_ok triOk firstT triF (by simp [firstT]) m (by omega) (by omega) (fun k hk => by have := bd33 k (by omega); omega)⟩, Int.toNat_natCast]
  rfl
theorem striA (m : Nat) (h1 : 1 ≤ m) (h5 : m ≤ 6) : Ev (fun k => spec_l07All.f k 0 (m : Int)) (triA m) := by
  refine ev_pos rfl (Ev.step (f := fun _ => _) (fun k => by simp only [spec_l07All.j0]; rfl) ?_)
  exact sall_loop triOk triSp firstT triF (by simp [firstT]) triAsc m (by omega) (fun k hk => bd33 k (by omega)) (m - 1) 0 (by omega)
theorem triA_forms (m : Nat) (h1 : 1 ≤ m) (h5 : m ≤ 6) (s : List S46) (hs : s ∈ triA m) (t : Int) (ht : isT6 t) : isShapeB (latF normT t s) = true := lat_shape triOk (m - 1) (by omega) s (triA_good m h1 h5 s hs) t ht
def triO (m : Nat) : List (List S46) := ownF normT (triA m)
theorem itriO (m : Nat) (h1 : 1 ≤ m) (h5 : m ≤ 6) : Ev (fun k => ownG k (impl_triangleForm.f k) (triA m)) (triO m) :=
  iown6_val normT_len impl_triangleForm.f (triA m) (fun s hs => by
    have hl := (triA_good m h1 h5 s hs).len
    exact ⟨by omega, fun t ht => ⟨itriForm_val s t ht (by omega) (by omega), triA_forms m h1 h5 s hs t ht⟩⟩)
theorem striO (m : Nat) (h1 : 1 ≤ m) (h5 : m ≤ 6) : Ev (fun k => spec_l07Free.f k 0 (triA m)) (triO m) :=
  sfree6_val triSp (triA m) (triA_few m h1 h5) (fun s hs => by
    have hl := (triA_good m h1 h5 s hs).len
    exact ⟨by omega, by omega, fun t ht => triA_forms m h1 h5 s hs t ht⟩)
theorem triO_mem (m : Nat) (s : List S46) (hs : s ∈ triO m) : s ∈ triA m ∧ leastL (latFs normT s 12) = s := by
  unfold triO ownF at hs
  rw [List.mem_filter] at hs
  exact ⟨hs.1, (cmpS_zero _ _).1 (of_decide_eq_true hs.2)⟩
theorem triO_pos (m : Nat) (h1 : 1 ≤ m) (h5 : m ≤ 6) : 0 < (triO m).length :=
  List.length_pos_of_mem (List.mem_filter.2 ⟨triW_mem (m - 1) (by omega), decide_eq_true (triW_own (m - 1) (by omega))⟩)
theorem triO_few (m : Nat) (h1 : 1 ≤ m) (h5 : m ≤ 6) : (triO m).length ≤ 1000000 := Nat.le_trans (List.length_filter_le _ _) (triA_few m h1 h5)
theorem triDraw (code : List Int) (p s : Int) (hS : St code p s) : ∃ n a b, spec_l01Next.f code p s 8 = some (n, a, b) ∧ 0 ≤ n ∧ n < 8 := by
  obtain ⟨x, a, b, e, _, h0, h1, _⟩ := next_some code p s 8 hS
  exact ⟨x, a, b, e, h0, h1 (by omega)⟩
theorem triC_true (c : S46) (hr : nrC 1000 c) (hk : KT c) : triC c = true := by
  unfold nrC at hr
  have h : impl_isTriangle.f c.f0 c.f1 = some true := by
    unfold impl_isTriangle.f
    rw [mod3_some, mod3_some, Option.bind_some, Option.bind_some, mod3_eq c.f0 (by omega) (by omega), mod3_eq c.f1 (by omega) (by omega), if_neg hk.2, hk.1]
    simp
  unfold triC
  rw [h]
  rfl
theorem isTri_val (s : List S46) (hl : s.length ≤ 500) (hsb : isShapeB s = true) (hr : ∀ c ∈ s, nrC 1000 c ∧ KT c) : Ev (fun k => impl_isTriangleShape.f k s) true := by
  have his := impl_shape_val s (by unfold maxLen; omega)
  rw [hsb] at his
  refine Ev.bind his (ev_pos rfl (ev_pos (by omega) (ev_const ?_)))
  have : ((List.range s.length).any fun j => !triC (elT s j)) = false := by
    rw [List.any_eq_false]
    intro j hj
    have hm : elT s j ∈ s := getD_mem s z46 j (List.mem_range.1 hj)
    rw [triC_true _ (hr _ hm).1 (hr _ hm).2]
    simp
  rw [this]
  rfl
theorem tri_lists (n : Int) : ∃ L c, Ev (fun k => impl_TriangleShapes.f k n) (L, c) ∧ Ev (fun k => spec_TriangleShapes.f k n) (L, c) ∧ L.length ≤ 1000000 ∧ (∀ s ∈ L, s.length ≤ 500) ∧ ((c = 0 ∧ ∃ m : Nat, (1 ≤ m ∧ m ≤ 6) ∧ L = triO m ∧ Ev (fun k => impl_CountTriangles.f k n) (((triA m).length : Int), (L.length : Int), 0)) ∨ c = 2) := by
  by_cases hn : 1 ≤ n ∧ n ≤ 6
  · obtain ⟨m, rfl⟩ := Int.eq_ofNat_of_zero_le (show 0 ≤ n by omega)
    have h1 : 1 ≤ m := by omega
    have h5 : m ≤ 6 := by omega
    have hw2 : spec_l01In.f (m : Int) 1 6 = some true := by
      rw [in_valC, decide_eq_true hn.1, decide_eq_true hn.2]; rfl
    have hf := triA_few m h1 h5
    refine ⟨triO m, 0, ev_pos hn (ev_some (itriA m h1 h5) (ev_pos hf (Ev.bind (itriO m h1 h5) (ev_const rfl)))), ev_some hw2 (ev_pos rfl (Ev.bind (striA m h1 h5) (Ev.bind (striO m h1 h5) (ev_const rfl)))), triO_few m h1 h5, fun s hs => ?_, .inl ⟨rfl, m, ⟨h1, h5⟩, rfl, ev_pos hn (ev_some (itriA m h1 h5) (ev_pos hf (Ev.bind (itriO m h1 h5) (ev_const rfl))))⟩⟩
    have := (triA_good m h1 h5 s (triO_mem m s hs).1).len
    omega
  · have hw2 : spec_l01In.f n 1 6 = some false := by
      rw [in_valC]
      by_cases h : 1 ≤ n
      · rw [decide_eq_true h, decide_eq_false (by omega)]; rfl
      · rw [decide_eq_false h]; rfl
    exact ⟨[], 2, ev_neg hn (ev_const rfl), ev_some hw2 (ev_neg (by simp) (ev_const rfl)), by simp, by simp, .inr rfl⟩
theorem FnTriangleShapes (l : List Int) (hm : l.length ≤ maxLen) (_ : l.length * 1 ≤ 140737488351232) (hg : ∀ x ∈ l, (Lit.int .u8 x).wf = true) : ∃ k, laws_FnTriangleShapes.f k l = some true := by
  refine Ev.rounds (g := fun k => laws_FnTriangleShapes.f k l) ?_
  have hbyte : ∀ x ∈ l, 0 ≤ x ∧ x ≤ 255 := fun x hx => by
    have := hg x hx
    simp [Lit.wf, IntKind.has, IntKind.min, IntKind.max, IntKind.bits, IntKind.signed] at this
    omega
  refine ev_some (a := decide ((l.length : Int) > 4096)) rfl ?_
  by_cases hbig : (l.length : Int) > 4096
  · exact ev_pos (decide_eq_true hbig) (ev_const rfl)
  · refine ev_neg (by simpa using hbig) ?_
    have hl : l.length ≤ 4096 := by omega
    obtain ⟨s0, f0, S0⟩ := from_some l hbyte hl
    obtain ⟨z, a, b, e1, z0, z8⟩ := triDraw l 0 s0 S0
    obtain ⟨L, c, h1, h2, hL, hLs, hc⟩ := tri_lists (rd [1, 2, 3, 4, 5, 6, 0, 7] z)
    refine Ev.bind (a := rd [1, 2, 3, 4, 5, 6, 0, 7] z) (Ev.bind f0 (ev_some rfl (ev_some e1 (ev_pos z0 (ev_pos (by simpa using z8) (ev_const rfl)))))) (Ev.bind h1 (Ev.bind h2 (ev_pos rfl (Ev.bind (likeShapes_val L hL (fun s hs => by have := hLs s hs; omega)) ?_))))
    generalize rd [1, 2, 3, 4, 5, 6, 0, 7] z = n at h1 h2 hc
    rcases hc with ⟨rfl, m, ⟨m1, m5⟩, rfl, hcnt⟩ | rfl
    · have hpos := triO_pos m m1 m5
      obtain ⟨h, hr⟩ := roll_val l hl 701
      obtain ⟨i, j, h', hx, x0, x8⟩ := below_val l hbyte hl h ((triO m).length : Int) (by omega)
      obtain ⟨q, rfl⟩ := Int.eq_ofNat_of_zero_le x0
      have hmem := getD_mem (triO m) [] q (by omega)
      obtain ⟨hA2, hown⟩ := triO_mem m _ hmem
      have hgd := triA_good m m1 m5 _ hA2
      have hfm := triA_forms m m1 m5 _ hA2
      have hle := hLs _ hmem
      refine Ev.step (f := fun _ => _) (fun k => by simp only [laws_FnTriangleShapes.j0]; rfl) (ev_neg (by simp) (ev_pos (show (0 : Int) = 0 from rfl) (Ev.bind hcnt (Ev.bind hr (ev_some hx (ev_pos (by show (0 : Int) ≤ (q : Int); omega) (ev_pos x8 ?_)))))))
      generalize hse : (triO m).getD q [] = s at hmem hA2 hown hgd hfm hle
      have hsl := hgd.len
      have hrng := hgd.rng
      have hshp : Shp s := shp_of (by omega) (by omega) (fun c hc => by have := hrng c hc; omega) hgd.srt hgd.nd
      have hsb := (shp_iff s).2 hshp
      have his := isTri_val s (by omega) hsb (fun c hc => ⟨by have := hrng c hc; unfold nrC; omega, hgd.cls c hc⟩)
      have hfs := iforms6_val normT_len impl_triangleForm.f s (by omega) (fun t ht => itriForm_val s t ht (by omega) (by omega)) hfm 12 (by omega)
      have hfree : Ev (fun k => impl_TriangleFree.f k s) (s, 0) := by
        obtain ⟨k1, g1⟩ := his
        obtain ⟨k2, g2⟩ := hfs
        refine ⟨k1 + k2, fun k hk => ?_⟩
        have a1 : impl_isTriangleShape.f k s = some true := g1 k (by omega)
        have a2 : formsG k (impl_triangleForm.f k) s 12 = some (latFs normT s 12) := g2 k (by omega)
        show impl_TriangleFree.f k s = _
        unfold impl_TriangleFree.f
        rw [if_pos a1, a2, Option.bind_some, hown]
      have hcon : Ev (fun k => impl_IsTriangleShape.f k s) (true, true) := Ev.bind his (ev_pos rfl (Ev.bind (connected_con nearT (fun c => by rw [(nearT_some c).2]; omega) s (shape_of s hsb) (fun c hc => by have := hrng c hc; unfold okc; omega) (fun c hc d hd => by
        have h1 := hrng c hc
        have h2 := triOk.near c d (by unfold nrC; omega) (hgd.cls c hc) hd
        unfold okc
        omega) hgd.con) (ev_const rfl)))
      have hlk := likeCells_val s (by omega)
      rw [← hse] at hfree hcon hlk
      exact Ev.bind hfree (Ev.bind hcon (ev_pos rfl (ev_pos rfl (ev_pos rfl (Ev.bind hlk (ev_pos rfl (ev_pos rfl (ev_const rfl))))))))
    · exact Ev.step (f := fun _ => _) (fun k => by simp only [laws_FnTriangleShapes.j0]; rfl) (ev_neg (by simp) (ev_neg (show ¬ ((2 : Int) = 0) by decide) (ev_const rfl)))
end Go.Proofs.YtmdjkmfocgelnaaGreat.Pure
