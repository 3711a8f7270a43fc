/- What is proved: for every list of cells the law FnExactOppositeCells answers true: the program's OppositeCells and the reference's agree, and share no memory. No condition beyond the kinds of the numbers and the reach. -/
import Derived.Test.YtfpofjckpbmcjaaDoorPFnExactOppositeCellsx0
import Derived.Test.YtfpofjckpbmcjaaDoorPFnExactOppositeCellsx1
import Derived.Test.YtfpofjckpbmcjaaDoorPFnExactOppositeCellsx2
import Derived.Test.YtfpofjckpbmcjaaDoorPFnExactOppositeCellsx3
import Derived.Test.YtfpofjckpbmcjaaDoorPFnExactOppositeCellsx4
import Derived.Test.YtfpofjckpbmcjaaDoorPFnExactOppositeCellsx5
import Derived.Test.YtfpofjckpbmcjaaDoorPFnExactOppositeCellsx6
import Derived.Test.YtfpofjckpbmcjaaDoorPFnExactOppositeCellsx7
import Derived.Test.YtfpofjckpbmcjaaDoorPFnExactOppositeCellsx8
import Derived.Test.YtfpofjckpbmcjaaDoorPFnExactOppositeCellsx9
import Derived.Test.YtfpofjckpbmcjaaDoorPFnExactOppositeCellsx10
import Derived.Test.YtfpofjckpbmcjaaDoorPFnExactOppositeCellsx11
import Derived.Test.YtfpofjckpbmcjaaDoorPFnExactOppositeCellsx12
import Derived.Test.YtfpofjckpbmcjaaDoorKit
set_option linter.unusedVariables false
set_option linter.unusedSimpArgs false
namespace Go.Proofs.YtfpofjckpbmcjaaDoor.Pure
open Go.RowKit Go.Proofs.YtfpofjckpbmcjaaDoor.PFnExactOppositeCells Go.Proofs.YtfpofjckpbmcjaaDoorW.PrintWords Go.Proofs.YtfpofjckpbmcjaaDoorW.PrintLast Go.Proofs.YtfpofjckpbmcjaaDoor.Kit
/-! Cells: from the laws' type to the program's; equal to itself; the purse. -/
def convC (x : S59) : S57 := ⟨x.f0, x.f1⟩
theorem toCells_loop (xs : List S59) (hm : xs.length ≤ maxLen) (d : Nat) : ∀ (n : Nat) (ys : List S57), n + d = xs.length → ys.length = xs.length →
    Ev (fun k => laws_toCellS.l0 k xs ys n) (ys.take n ++ (xs.drop n).map convC) := by
  unfold maxLen at hm
  induction d with
  | zero =>
    intro n ys hd hy
    refine Ev.step (f := fun _ => _) (fun k => by simp only [laws_toCellS.l0]; rfl) (ev_neg (by omega) ?_)
    rw [List.drop_of_length_le (by omega), List.take_of_length_le (by omega)]
    exact ev_const (by simp)
  | succ d ih =>
    intro n ys hd hy
    refine Ev.step (f := fun _ => _) (fun k => by simp only [laws_toCellS.l0]; rfl) (ev_pos (by omega) (ev_pos (by omega) ?_))
    have hx : rd_T59 xs n = xs.getD n z59 := rfl
    rw [hx]
    refine ev_some rfl (ev_pos (by omega) ?_)
    rw [wrap_succ n (by omega)]
    refine ev_eq (ih (n + 1) _ (by omega) (by simpa using hy)) ?_
    rw [drop_cons xs z59 n (by omega), Int.toNat_natCast, take_set_succ _ _ _ (by omega)]
    simp [convC]
theorem toCells_val (xs : List S59) (hm : xs.length ≤ maxLen) (hy : xs.length * 16 ≤ 140737488351232) : Ev (fun k => laws_toCellS.f k xs) (xs.map convC) := by
  refine ev_pos (by omega) (ev_pos (by simp only [Int.toNat_natCast]; omega) ?_)
  exact ev_eq (toCells_loop xs hm xs.length 0 _ (by omega) (by simp)) (by simp)
theorem eqCells_loop (xs : List S57) (hm : xs.length ≤ maxLen) (d : Nat) : ∀ (n : Nat), n + d = xs.length → Ev (fun k => laws_eqCellS.l0 k xs xs n) true := by
  unfold maxLen at hm
  induction d with
  | zero =>
    intro n hd
    exact Ev.step (f := fun _ => _) (fun k => by simp only [laws_eqCellS.l0]; rfl) (ev_neg (by omega) (ev_const rfl))
  | succ d ih =>
    intro n hd
    refine Ev.step (f := fun _ => _) (fun k => by simp only [laws_eqCellS.l0]; rfl) (ev_pos (by omega) (ev_pos (by omega) (ev_pos (by omega) ?_)))
    refine ev_some (a := true) (by simp [laws_eqCell.f]) (ev_pos rfl ?_)
    rw [wrap_succ n (by omega)]
    exact ih (n + 1) (by omega)
theorem eqCells_val (xs : List S57) (hm : xs.length ≤ maxLen) : Ev (fun k => laws_eqCellS.f k xs xs) true := ev_pos rfl (eqCells_loop xs hm xs.length 0 (by omega))
theorem szCells_val (l : List S59) (n : Int) : ∃ t, laws_szCellS.f l n = some t := by
  unfold laws_szCellS.f
  split
  · exact ⟨_, rfl⟩
  · exact ⟨_, rfl⟩
/-! Shapes: both sides' IsShape come to one Bool. -/
abbrev cellAt (l : List S57) (i : Nat) : S57 := l.getD i z57
def inR (n : Int) : Bool := decide (-100 ≤ n) && decide (n ≤ 100)
def lessB (a b : S57) : Bool := decide (a.f1 < b.f1) || (decide (a.f1 = b.f1) && decide (a.f0 < b.f0))
def okAtB (l : List S57) (i : Nat) : Bool := (inR (cellAt l i).f0 && inR (cellAt l i).f1) && (decide (i = 0) || lessB (cellAt l (i - 1)) (cellAt l i))
def shapeFrom (l : List S57) : Nat → Nat → Bool
  | 0, _ => decide (1 ≤ l.length) && decide (l.length ≤ 40)
  | d + 1, i => okAtB l i && shapeFrom l d (i + 1)
def isShapeB (l : List S57) : Bool := shapeFrom l l.length 0
theorem in_valC (a : Int) (lo hi : Int) : spec_l01In.f a lo hi = some (decide (lo ≤ a) && decide (a ≤ hi)) := by
  unfold spec_l01In.f
  by_cases h : a ≥ lo
  · rw [if_pos h, decide_eq_true (show lo ≤ a from h), Bool.true_and]
  · rw [if_neg h, decide_eq_false (show ¬ lo ≤ a from h), Bool.false_and]
theorem within_valC (a : Int) (lo hi : Int) : impl_within.f a lo hi = some (decide (lo ≤ a) && decide (a ≤ hi)) := by
  unfold impl_within.f
  by_cases h : a ≥ lo
  · rw [if_pos h, decide_eq_true (show lo ≤ a from h), Bool.true_and]
  · rw [if_neg h, decide_eq_false (show ¬ lo ≤ a from h), Bool.false_and]
theorem cell_val (a b : Int) : spec_l02Cell.f a b = some (inR a && inR b) := by
  unfold spec_l02Cell.f
  rw [in_valC, in_valC]
  show (if inR a = true then some (inR b) else some false) = _
  cases inR a <;> rfl
theorem coord_val (a : Int) : impl_isCoordinate.f a = some (inR a) := by
  unfold impl_isCoordinate.f
  rw [within_valC]
  rfl
theorem less_val (a b c d : Int) : spec_l02Less.f a b c d = some (lessB ⟨a, b⟩ ⟨c, d⟩) := by
  unfold spec_l02Less.f lessB
  by_cases h : b < d
  · simp [h]
  · by_cases e : b = d
    · simp [e]
    · simp [h, e]
def cmp3 (a b : Int) : Int := if a < b then -1 else if a > b then 1 else 0
theorem cmp_val (a b : Int) : cmp_Compare_int64.f a b = some (cmp3 a b) := by
  have h : ∀ x : Int, cmp_isNaN_int64.f x = some false := fun x => by simp [cmp_isNaN_int64.f]
  unfold cmp_Compare_int64.f cmp3
  rw [h, h]
  simp only [Option.bind_some, Bool.false_eq_true, if_false]
  split
  · rfl
  · split <;> rfl
def cmpC (p q : S57) : Int := if cmp3 p.f1 q.f1 = 0 then cmp3 p.f0 q.f0 else cmp3 p.f1 q.f1
theorem compare_val (a b c d : Int) : impl_compareCells.f a b c d = some (cmpC ⟨a, b⟩ ⟨c, d⟩) := by
  unfold impl_compareCells.f cmpC
  rw [cmp_val, cmp_val]
  simp only [Option.bind_some]
  split <;> rfl
theorem cmpC_less (p q : S57) : (cmpC p q ≥ 0) ↔ lessB p q = false := by
  unfold cmpC cmp3 lessB
  simp only [Bool.or_eq_false_iff, Bool.and_eq_false_iff, decide_eq_false_iff_not]
  split <;> split <;> (try split) <;> (try split) <;> omega
theorem spec_shape_loop (l : List S57) (hm : l.length ≤ maxLen) (d : Nat) : ∀ n : Nat, n + d = l.length → Ev (fun k => spec_IsShape.l0 k l n) (shapeFrom l d n) := by
  unfold maxLen at hm
  induction d with
  | zero =>
    intro n hd
    refine Ev.step (f := fun _ => _) (fun k => by simp only [spec_IsShape.l0]; rfl) (ev_neg (by omega) (ev_some (in_valC _ _ _) (ev_const ?_)))
    rw [shapeFrom]
    congr 2 <;> exact decide_eq_decide.2 (by omega)
  | succ d ih =>
    intro n hd
    refine Ev.step (f := fun _ => _) (fun k => by simp only [spec_IsShape.l0]; rfl) (ev_pos (by omega) (ev_pos (by omega) (ev_some (cell_val _ _) ?_)))
    rw [show rd_T57 l (n : Int) = cellAt l n from rfl, shapeFrom, okAtB]
    cases h1 : (inR (cellAt l n).f0 && inR (cellAt l n).f1) with
    | false => exact ev_neg (by simp) (ev_const rfl)
    | true =>
      refine ev_pos rfl ?_
      by_cases h0 : n = 0
      · subst h0
        refine ev_neg (by omega) ?_
        rw [wrap_succ 0 (by omega)]
        simpa using ih 1 (by omega)
      · have hw : wrap64 ((n : Int) - 1) = ((n - 1 : Nat) : Int) := by rw [wrap_id _ (by omega) (by omega)]; omega
        rw [hw]
        refine ev_pos (by omega) (ev_pos (by omega) (ev_pos (by omega) (ev_some (less_val _ _ _ _) ?_)))
        rw [decide_eq_false h0, Bool.false_or, Bool.true_and, show rd_T57 l ((n - 1 : Nat) : Int) = cellAt l (n - 1) from rfl]
        cases h2 : lessB (cellAt l (n - 1)) (cellAt l n) with
        | false => exact ev_neg (by simp) (ev_const rfl)
        | true =>
          refine ev_pos rfl ?_
          rw [wrap_succ n (by omega), Bool.true_and]
          exact ih (n + 1) (by omega)
theorem spec_shape_val (l : List S57) (hm : l.length ≤ maxLen) : Ev (fun k => spec_IsShape.f k l) (isShapeB l) := spec_shape_loop l hm l.length 0 (by omega)
theorem impl_shape_loop (l : List S57) (hm : l.length ≤ maxLen) (d : Nat) : ∀ n : Nat, n + d = l.length → Ev (fun k => impl_IsShape.l0 k l l (l.length : Int) n) (shapeFrom l d n) := by
  unfold maxLen at hm
  induction d with
  | zero =>
    intro n hd
    refine Ev.step (f := fun _ => _) (fun k => by simp only [impl_IsShape.l0]; rfl) (ev_neg (by omega) ?_)
    rw [shapeFrom]
    by_cases h : (l.length : Int) ≥ 1
    · refine ev_pos h (ev_const ?_)
      rw [decide_eq_true (show 1 ≤ l.length by omega), Bool.true_and]
      congr 1
      exact decide_eq_decide.2 (by omega)
    · refine ev_neg h (ev_const ?_)
      rw [decide_eq_false (show ¬ 1 ≤ l.length by omega), Bool.false_and]
  | succ d ih =>
    intro n hd
    refine Ev.step (f := fun _ => _) (fun k => by simp only [impl_IsShape.l0]; rfl) (ev_pos (by omega) (ev_pos (by omega) (ev_pos (by omega) (ev_some (coord_val _) ?_))))
    rw [show rd_T57 l (n : Int) = cellAt l n from rfl, shapeFrom, okAtB]
    cases h1 : inR (cellAt l n).f0 with
    | false => exact ev_neg (by simp) (ev_const (by simp))
    | true =>
      refine ev_pos rfl (ev_some (coord_val _) ?_)
      cases h1' : inR (cellAt l n).f1 with
      | false => exact ev_neg (by simp) (ev_const (by simp))
      | true =>
        refine ev_pos rfl ?_
        by_cases h0 : n = 0
        · subst h0
          refine ev_neg (by omega) ?_
          rw [wrap_succ 0 (by omega)]
          simpa using ih 1 (by omega)
        · have hw : wrap64 ((n : Int) - 1) = ((n - 1 : Nat) : Int) := by rw [wrap_id _ (by omega) (by omega)]; omega
          rw [hw]
          refine ev_pos (by omega) (ev_pos (by omega) (ev_pos (by omega) (ev_some (compare_val _ _ _ _) ?_)))
          rw [decide_eq_false h0, Bool.false_or, Bool.true_and, show rd_T57 l ((n - 1 : Nat) : Int) = cellAt l (n - 1) from rfl]
          cases h2 : lessB (cellAt l (n - 1)) (cellAt l n) with
          | false => exact ev_pos ((cmpC_less _ _).2 h2) (ev_const rfl)
          | true =>
            refine ev_neg (fun h => by have := (cmpC_less _ _).1 h; rw [h2] at this; cases this) ?_
            rw [wrap_succ n (by omega), Bool.true_and]
            exact ih (n + 1) (by omega)
theorem impl_shape_val (l : List S57) (hm : l.length ≤ maxLen) : Ev (fun k => impl_IsShape.f k l) (isShapeB l) := impl_shape_loop l hm l.length 0 (by omega)
/-! What a shape is: at most 40 cells, near the origin, no two alike. -/
theorem shapeFrom_true (l : List S57) : ∀ d n : Nat, shapeFrom l d n = true → (∀ i, n ≤ i → i < n + d → okAtB l i = true) ∧ 1 ≤ l.length ∧ l.length ≤ 40
  | 0, n, h => by
    simp only [shapeFrom, Bool.and_eq_true, decide_eq_true_eq] at h
    exact ⟨fun i h1 h2 => by omega, h.1, h.2⟩
  | d + 1, n, h => by
    simp only [shapeFrom, Bool.and_eq_true] at h
    obtain ⟨h1, h2⟩ := shapeFrom_true l d (n + 1) h.2
    refine ⟨fun i h3 h4 => ?_, h2⟩
    by_cases e : i = n
    · subst e; exact h.1
    · exact h1 i (by omega) (by omega)
theorem less_iff (a b : S57) : lessB a b = true ↔ a.f1 < b.f1 ∨ (a.f1 = b.f1 ∧ a.f0 < b.f0) := by
  unfold lessB
  simp only [Bool.or_eq_true, Bool.and_eq_true, decide_eq_true_eq]
structure Shape (l : List S57) : Prop where
  pos : 1 ≤ l.length
  le : l.length ≤ 40
  near : ∀ i, i < l.length → (-100 ≤ (cellAt l i).f0 ∧ (cellAt l i).f0 ≤ 100) ∧ (-100 ≤ (cellAt l i).f1 ∧ (cellAt l i).f1 ≤ 100)
  apart : ∀ i j, i < l.length → j < l.length → cellKey (cellAt l i) = cellKey (cellAt l j) → i = j
theorem shape_of (l : List S57) (h : isShapeB l = true) : Shape l := by
  obtain ⟨h1, h2, h3⟩ := shapeFrom_true l _ _ h
  have hok : ∀ i, i < l.length → okAtB l i = true := fun i hi => h1 i (by omega) (by omega)
  have hless : ∀ j i, i < j → j < l.length → lessB (cellAt l i) (cellAt l j) = true := by
    intro j
    induction j with
    | zero => intro i hi; omega
    | succ j ih =>
      intro i hi hj
      have h4 := hok (j + 1) hj
      simp only [okAtB, Bool.and_eq_true, Bool.or_eq_true, decide_eq_true_eq, Nat.add_sub_cancel] at h4
      have h5 : lessB (cellAt l j) (cellAt l (j + 1)) = true := by
        rcases h4.2 with h6 | h6
        · omega
        · exact h6
      by_cases e : i = j
      · subst e; exact h5
      · have h6 := ih i (by omega) (by omega)
        rw [less_iff] at *
        omega
  refine ⟨h2, h3, fun i hi => ?_, fun i j hi hj he => ?_⟩
  · have h4 := hok i hi
    simp only [okAtB, inR, Bool.and_eq_true, decide_eq_true_eq] at h4
    exact ⟨⟨h4.1.1.1, h4.1.1.2⟩, h4.1.2.1, h4.1.2.2⟩
  · simp only [cellKey, Prod.mk.injEq] at he
    rcases Nat.lt_trichotomy i j with h4 | h4 | h4
    · have := (less_iff _ _).1 (hless j i h4 hj)
      omega
    · exact h4
    · have := (less_iff _ _).1 (hless i j h4 hi)
      omega
/-! Where a cell stands. -/
theorem atCell_none (l : List S57) (p : Int × Int) : ∀ n : Nat, (∀ i, i < n → cellKey (cellAt l i) ≠ p) → atCell l n p = none
  | 0, _ => rfl
  | n + 1, h => by
    rw [atCell, if_neg (fun e => h n (by omega) e.symm)]
    exact atCell_none l p n (fun i hi => h i (by omega))
theorem atCell_inv (l : List S57) (p : Int × Int) (q : Int) : ∀ n : Nat, atCell l n p = some q → ∃ i : Nat, i < n ∧ q = (i : Int) ∧ cellKey (cellAt l i) = p
  | 0, h => by simp [atCell] at h
  | n + 1, h => by
    rw [atCell] at h
    by_cases e : p = cellKey (rd_T57 l (n : Int))
    · rw [if_pos e] at h
      exact ⟨n, by omega, (Option.some.inj h).symm, e.symm⟩
    · rw [if_neg e] at h
      obtain ⟨i, h1, h2, h3⟩ := atCell_inv l p q n h
      exact ⟨i, by omega, h2, h3⟩
theorem atCell_some (l : List S57) (hs : Shape l) (i : Nat) (hi : i < l.length) : atCell l l.length (cellKey (cellAt l i)) = some (i : Int) := by
  cases h : atCell l l.length (cellKey (cellAt l i)) with
  | some q =>
    obtain ⟨j, h1, h2, h3⟩ := atCell_inv l _ q _ h
    rw [hs.apart j i h1 hi h3] at h2
    rw [h2]
  | none =>
    have : ∀ n : Nat, i < n → atCell l n (cellKey (cellAt l i)) ≠ none := by
      intro n
      induction n with
      | zero => intro h0; omega
      | succ n ih =>
        intro h0
        rw [atCell]
        by_cases e : cellKey (cellAt l i) = cellKey (rd_T57 l (n : Int))
        · rw [if_pos e]; simp
        · rw [if_neg e]
          exact ih (by
            have : i ≠ n := fun e2 => e (by rw [e2]; rfl)
            omega)
    exact absurd h (this _ hi)
def idxI (l : List S57) (p : Int × Int) : Int := match atCell l l.length p with | some q => q | none => -1
theorem index_loop (l : List S57) (hs : Shape l) (a b : Int) (d : Nat) : ∀ n : Nat, n + d = l.length → (∀ i, i < n → cellKey (cellAt l i) ≠ (a, b)) → Ev (fun k => spec_l02Index.l0 k l n a b) (idxI l (a, b)) := by
  have := hs.le
  induction d with
  | zero =>
    intro n hd hn
    refine Ev.step (f := fun _ => _) (fun k => by simp only [spec_l02Index.l0]; rfl) (ev_neg (by omega) (ev_const ?_))
    unfold idxI
    rw [atCell_none l (a, b) l.length (fun i hi => hn i (by omega))]
  | succ d ih =>
    intro n hd hn
    refine Ev.step (f := fun _ => _) (fun k => by simp only [spec_l02Index.l0]; rfl) (ev_pos (by omega) (ev_pos (by omega) ?_))
    rw [show rd_T57 l (n : Int) = cellAt l n from rfl]
    by_cases e : ((cellAt l n).f0 == a && (cellAt l n).f1 == b) = true
    · refine ev_pos e (ev_const ?_)
      simp only [Bool.and_eq_true, beq_iff_eq] at e
      unfold idxI
      rw [show ((a, b) : Int × Int) = cellKey (cellAt l n) by unfold cellKey; rw [e.1, e.2], atCell_some l hs n (by omega)]
    · refine ev_neg e ?_
      rw [wrap_succ n (by omega)]
      refine ih (n + 1) (by omega) (fun i hi => ?_)
      by_cases e2 : i = n
      · subst e2
        intro h
        simp only [cellKey, Prod.mk.injEq] at h
        exact e (by rw [Bool.and_eq_true]; exact ⟨beq_iff_eq.2 h.1, beq_iff_eq.2 h.2⟩)
      · exact hn i (by omega)
theorem index_val (l : List S57) (hs : Shape l) (a b : Int) : Ev (fun k => spec_l02Index.f k l a b) (idxI l (a, b)) := index_loop l hs a b l.length 0 (by omega) (fun i hi => by omega)
/-! Parts: both sides come to the same list. -/
def negs (out : List Int) : Nat := out.countP (fun x => decide (x < 0))
theorem negs_set (out : List Int) (q : Nat) (v : Int) (hq : q < out.length) (h0 : out.getD q 0 < 0) (hv : 0 ≤ v) : negs (out.set q v) + 1 = negs out := by
  unfold negs
  rw [List.countP_set hq]
  have h1 : out[q] = out.getD q 0 := by rw [List.getD_eq_getElem?_getD, List.getElem?_eq_getElem hq]; rfl
  have h2 : decide (out[q] < 0) = true := by rw [h1]; exact decide_eq_true h0
  have h3 : decide (v < 0) = false := decide_eq_false (by omega)
  have h4 : 0 < out.countP (fun x => decide (x < 0)) := List.countP_pos_iff.2 ⟨out[q], List.getElem_mem hq, h2⟩
  simp only [h2, h3, if_true, Bool.false_eq_true, if_false]
  omega
theorem rd_get (out : List Int) (q : Nat) : rd out (q : Int) = out.getD q 0 := rfl
theorem getD_set (out : List Int) (q j : Nat) (v : Int) (hq : q < out.length) : (out.set q v).getD j 0 = if j = q then v else out.getD j 0 := by
  rw [List.getD_eq_getElem?_getD, List.getD_eq_getElem?_getD, List.getElem?_set]
  by_cases e : q = j
  · subst e; simp [hq]
  · rw [if_neg e, if_neg (Ne.symm e)]
structure Fine (l : List S57) (out list : List Int) : Prop where
  len : out.length = l.length
  mem : ∀ q, q ∈ list → 0 ≤ q ∧ q < (l.length : Int)
  few : list.length + 2 * negs out ≤ 100
theorem okc_wrap (x y : Int) (hx : -100 ≤ x ∧ x ≤ 100) (hy : -100 ≤ y ∧ y ≤ 100) : ∀ d ∈ [(⟨x, wrap64 (y - 1)⟩ : S57), ⟨wrap64 (x - 1), y⟩, ⟨wrap64 (x + 1), y⟩, ⟨x, wrap64 (y + 1)⟩], okc d := by
  intro d hd
  have w : ∀ n : Int, -9223372036854775808 ≤ wrap64 n ∧ wrap64 n ≤ 9223372036854775807 := fun n => by unfold wrap64; omega
  simp only [List.mem_cons, List.not_mem_nil, or_false] at hd
  rcases hd with rfl | rfl | rfl | rfl
  · exact ⟨⟨by show _ ≤ x; omega, by show x ≤ _; omega⟩, w _⟩
  · exact ⟨w _, ⟨by show _ ≤ y; omega, by show y ≤ _; omega⟩⟩
  · exact ⟨w _, ⟨by show _ ≤ y; omega, by show y ≤ _; omega⟩⟩
  · exact ⟨⟨by show _ ≤ x; omega, by show x ≤ _; omega⟩, w _⟩
theorem rd_cell (l : List S57) (n : Nat) : rd_T57 l (n : Int) = cellAt l n := rfl
theorem parts3 (l : List S57) (hs : Shape l) (i t : Nat) (hi : i < l.length) (ds : List S57) (hds : ds.length = 4) (hok : ∀ d ∈ ds, okc d) (d : Nat) : ∀ (j : Nat) (out list : List Int), j + d = 4 → t < list.length → Fine l out list →
    ∃ out' list', Fine l out' list' ∧ list.length ≤ list'.length ∧ list'.length + 2 * negs out' ≤ list.length + 2 * negs out ∧ (∀ q : Nat, 0 ≤ out.getD q 0 → 0 ≤ out'.getD q 0) ∧
      (∀ r, Ev (fun k => impl_parts.l2 k l out' i list' (t + 1 : Nat)) r → Ev (fun k => impl_parts.l3 k l out i list t ds j) r) ∧
      (∀ r, Ev (fun k => spec_l02Parts.l2 k l out' i (list'.drop (t + 1))) r → Ev (fun k => spec_l02Parts.l3 k l out i (list.drop (t + 1)) ds j) r) := by
  have hN := hs.le
  induction d with
  | zero =>
    intro j out list hj ht hF
    have := hF.few
    refine ⟨out, list, hF, Nat.le_refl _, Nat.le_refl _, fun _ h => h, fun r hr => ?_, fun r hr => ?_⟩
    · refine Ev.step (f := fun _ => _) (fun k => by simp only [impl_parts.l3]; rfl) (ev_neg (by omega) ?_)
      rw [wrap_succ t (by omega)]
      exact hr
    · exact Ev.step (f := fun _ => _) (fun k => by simp only [spec_l02Parts.l3]; rfl) (ev_neg (by omega) hr)
  | succ d ih =>
    intro j out list hj ht hF
    have hfew := hF.few
    have hmem : cellAt ds j ∈ ds := getD_mem ds z57 j (by omega)
    cases hq : atCell l l.length (cellKey (cellAt ds j)) with
    | none =>
      obtain ⟨out', list', h1, h2, h3, h4, h5, h6⟩ := ih (j + 1) out list (by omega) ht hF
      refine ⟨out', list', h1, h2, h3, h4, fun r hr => ?_, fun r hr => ?_⟩
      · refine Ev.step (f := fun k => if (j : Int) < (ds.length : Int) then (if 0 ≤ (j : Int) ∧ okc (cellAt ds j) then impl_parts.l3 k l out i list t ds (wrap64 ((j : Int) + 1)) else none) else impl_parts.l2 k l out i list (wrap64 ((t : Int) + 1))) (fun k => by simp only [impl_parts.l3, rd_cell, hq]) (ev_pos (by omega) (ev_pos ⟨by omega, hok _ hmem⟩ ?_))
        rw [wrap_succ j (by omega)]
        exact h5 r hr
      · refine Ev.step (f := fun _ => _) (fun k => by simp only [spec_l02Parts.l3]; rfl) (ev_pos (by omega) (ev_pos (by omega) (ev_pos (by omega) (Ev.bind (index_val l hs _ _) ?_))))
        have he : idxI l ((rd_T57 ds (j : Int)).f0, (rd_T57 ds (j : Int)).f1) = -1 := by
          unfold idxI
          rw [show ((rd_T57 ds (j : Int)).f0, (rd_T57 ds (j : Int)).f1) = cellKey (cellAt ds j) from rfl, hq]
        rw [he]
        refine ev_neg (by omega) ?_
        rw [wrap_succ j (by omega)]
        exact h6 r hr
    | some q =>
      obtain ⟨p, hp, rfl, hpk⟩ := atCell_inv l _ _ _ hq
      have he : idxI l ((rd_T57 ds (j : Int)).f0, (rd_T57 ds (j : Int)).f1) = (p : Int) := by
        unfold idxI
        rw [show ((rd_T57 ds (j : Int)).f0, (rd_T57 ds (j : Int)).f1) = cellKey (cellAt ds j) from rfl, hq]
      have hI : ∀ (r : List Int) (g : Nat → Option (List Int)), Ev g r → (∀ k, g k = (if rd out (p : Int) < 0 then (if list.length < 17592186044416 then impl_parts.l3 k l (out.set (p : Int).toNat i) i (list ++ [(p : Int)]) t ds (wrap64 ((j : Int) + 1)) else none) else impl_parts.l3 k l out i list t ds (wrap64 ((j : Int) + 1)))) → Ev (fun k => impl_parts.l3 k l out i list t ds j) r := by
        intro r g hg hgk
        refine Ev.step (f := fun k => if (j : Int) < (ds.length : Int) then (if 0 ≤ (j : Int) ∧ okc (cellAt ds j) then (if 0 ≤ (p : Int) ∧ (p : Int) < (l.length : Int) then g k else none) else none) else impl_parts.l2 k l out i list (wrap64 ((t : Int) + 1))) (fun k => by simp only [impl_parts.l3, rd_cell, hq, hgk]) (ev_pos (by omega) (ev_pos ⟨by omega, hok _ hmem⟩ (ev_pos ⟨by omega, by omega⟩ hg)))
      by_cases hneg : rd out (p : Int) < 0
      · have hset := negs_set out p (i : Int) (by rw [hF.len]; exact hp) hneg (by omega)
        have hF2 : Fine l (out.set p (i : Int)) (list ++ [(p : Int)]) := ⟨by rw [List.length_set]; exact hF.len, fun q hq => by
          rcases List.mem_append.1 hq with h | h
          · exact hF.mem q h
          · rw [List.mem_singleton.1 h]; omega, by simp only [List.length_append, List.length_cons, List.length_nil]; omega⟩
        obtain ⟨out', list', h1, h2, h3, h4, h5, h6⟩ := ih (j + 1) _ _ (by omega) (by simp; omega) hF2
        simp only [List.length_append, List.length_cons, List.length_nil] at h2 h3
        refine ⟨out', list', h1, by omega, by omega, fun q h => h4 q (by rw [getD_set _ _ _ _ (by rw [hF.len]; exact hp)]; split <;> omega), fun r hr => ?_, fun r hr => ?_⟩
        · refine hI r (fun k => impl_parts.l3 k l (out.set p i) i (list ++ [(p : Int)]) t ds ((j + 1 : Nat) : Int)) (h5 r hr) (fun k => ?_)
          rw [if_pos hneg, if_pos (by omega), wrap_succ j (by omega), Int.toNat_natCast]
        · refine Ev.step (f := fun _ => _) (fun k => by simp only [spec_l02Parts.l3]; rfl) (ev_pos (by omega) (ev_pos (by omega) (ev_pos (by omega) (Ev.bind (index_val l hs _ _) ?_))))
          rw [he]
          refine ev_pos (by omega) (ev_pos (by omega) (ev_pos (by rw [hF.len]; omega) (ev_pos hneg (ev_pos (by rw [List.length_drop]; omega) ?_))))
          rw [wrap_succ j (by omega), Int.toNat_natCast]
          have e : list.drop (t + 1) ++ [(p : Int)] = (list ++ [(p : Int)]).drop (t + 1) := by rw [List.drop_append_of_le_length (by omega)]
          rw [e]
          exact h6 r hr
      · obtain ⟨out', list', h1, h2, h3, h4, h5, h6⟩ := ih (j + 1) out list (by omega) ht hF
        refine ⟨out', list', h1, h2, h3, h4, fun r hr => ?_, fun r hr => ?_⟩
        · refine hI r (fun k => impl_parts.l3 k l out i list t ds ((j + 1 : Nat) : Int)) (h5 r hr) (fun k => ?_)
          rw [if_neg hneg, wrap_succ j (by omega)]
        · refine Ev.step (f := fun _ => _) (fun k => by simp only [spec_l02Parts.l3]; rfl) (ev_pos (by omega) (ev_pos (by omega) (ev_pos (by omega) (Ev.bind (index_val l hs _ _) ?_))))
          rw [he]
          refine ev_pos (by omega) (ev_pos (by omega) (ev_pos (by rw [hF.len]; omega) (ev_neg hneg ?_)))
          rw [wrap_succ j (by omega)]
          exact h6 r hr
theorem parts2 (l : List S57) (hs : Shape l) (i : Nat) (hi : i < l.length) (M : Nat) : ∀ (out list : List Int) (t : Nat), 2 * negs out + (list.length - t) ≤ M → t ≤ list.length → Fine l out list →
    ∃ out', out'.length = l.length ∧ (∀ q : Nat, 0 ≤ out.getD q 0 → 0 ≤ out'.getD q 0) ∧ negs out' ≤ negs out + 50 ∧
      (∀ r, Ev (fun k => impl_parts.l1 k l out' (i + 1 : Nat)) r → Ev (fun k => impl_parts.l2 k l out i list t) r) ∧
      (∀ r, Ev (fun k => spec_l02Parts.l1 k l out' (i + 1 : Nat)) r → Ev (fun k => spec_l02Parts.l2 k l out i (list.drop t)) r) := by
  have hN := hs.le
  induction M with
  | zero =>
    intro out list t hM ht hF
    have hfew := hF.few
    refine ⟨out, hF.len, fun _ h => h, by omega, fun r hr => ?_, fun r hr => ?_⟩
    · refine Ev.step (f := fun _ => _) (fun k => by simp only [impl_parts.l2]; rfl) (ev_neg (by omega) ?_)
      rw [wrap_succ i (by omega)]
      exact hr
    · refine Ev.step (f := fun _ => _) (fun k => by simp only [spec_l02Parts.l2]; rfl) (ev_neg (by rw [List.length_drop]; omega) ?_)
      rw [wrap_succ i (by omega)]
      exact hr
  | succ M ih =>
    intro out list t hM ht hF
    have hfew := hF.few
    by_cases e : t = list.length
    · refine ⟨out, hF.len, fun _ h => h, by omega, fun r hr => ?_, fun r hr => ?_⟩
      · refine Ev.step (f := fun _ => _) (fun k => by simp only [impl_parts.l2]; rfl) (ev_neg (by omega) ?_)
        rw [wrap_succ i (by omega)]
        exact hr
      · refine Ev.step (f := fun _ => _) (fun k => by simp only [spec_l02Parts.l2]; rfl) (ev_neg (by rw [List.length_drop]; omega) ?_)
        rw [wrap_succ i (by omega)]
        exact hr
    · have ht' : t < list.length := by omega
      have hm := hF.mem (list.getD t 0) (getD_mem list 0 t ht')
      obtain ⟨q, hq⟩ := Int.eq_ofNat_of_zero_le hm.1
      have hn := hs.near q (by omega)
      obtain ⟨out1, list1, h1, h2, h3, h4, h5, h6⟩ := parts3 l hs i t hi [(⟨(cellAt l q).f0, wrap64 ((cellAt l q).f1 - 1)⟩ : S57), ⟨wrap64 ((cellAt l q).f0 - 1), (cellAt l q).f1⟩, ⟨wrap64 ((cellAt l q).f0 + 1), (cellAt l q).f1⟩, ⟨(cellAt l q).f0, wrap64 ((cellAt l q).f1 + 1)⟩] rfl (okc_wrap _ _ hn.1 hn.2) 4 0 out list rfl ht' hF
      obtain ⟨out', g1, g2, g3, g4, g5⟩ := ih out1 list1 (t + 1) (by omega) (by omega) h1
      refine ⟨out', g1, fun q h => g2 q (h4 q h), by have := h1.few; omega, fun r hr => ?_, fun r hr => ?_⟩
      · refine Ev.step (f := fun _ => _) (fun k => by simp only [impl_parts.l2]; rfl) (ev_pos (by omega) ?_)
        rw [rd_get, hq]
        refine ev_pos ⟨⟨by omega, by omega⟩, by omega⟩ (ev_some rfl ?_)
        exact h5 r (g4 r hr)
      · have hd : list.drop t = list.getD t 0 :: list.drop (t + 1) := drop_cons list 0 t ht'
        rw [hd, hq]
        have hr0 : rd ((q : Int) :: list.drop (t + 1)) 0 = (q : Int) := rfl
        refine Ev.step (f := fun _ => _) (fun k => by simp only [spec_l02Parts.l2]; rfl) (ev_pos (by simp only [List.length_cons]; omega) (ev_pos (by simp only [List.length_cons]; omega) ?_))
        rw [hr0]
        refine ev_pos (by omega) (ev_pos (by omega) (ev_some rfl (ev_pos (by simp only [List.length_cons]; omega) ?_)))
        exact h6 r (g5 r hr)
theorem parts1 (l : List S57) (hs : Shape l) (d : Nat) : ∀ (i : Nat) (out : List Int), i + d = l.length → out.length = l.length → (∀ q : Nat, q < i → 0 ≤ out.getD q 0) →
    ∃ out', out'.length = l.length ∧ (∀ q : Nat, q < l.length → 0 ≤ out'.getD q 0) ∧ Ev (fun k => impl_parts.l1 k l out i) out' ∧ Ev (fun k => spec_l02Parts.l1 k l out i) out' := by
  have hN := hs.le
  induction d with
  | zero =>
    intro i out hi ho hp
    refine ⟨out, ho, fun q hq => hp q (by omega), ?_, ?_⟩
    · exact Ev.step (f := fun _ => _) (fun k => by simp only [impl_parts.l1]; rfl) (ev_neg (by omega) (ev_const rfl))
    · exact Ev.step (f := fun _ => _) (fun k => by simp only [spec_l02Parts.l1]; rfl) (ev_neg (by omega) (ev_const rfl))
  | succ d ih =>
    intro i out hi ho hp
    by_cases h0 : rd out (i : Int) ≥ 0
    · obtain ⟨out', h1, h2, h3, h4⟩ := ih (i + 1) out (by omega) ho (fun q hq => by
        by_cases e : q = i
        · subst e; exact h0
        · exact hp q (by omega))
      refine ⟨out', h1, h2, ?_, ?_⟩
      · refine Ev.step (f := fun _ => _) (fun k => by simp only [impl_parts.l1]; rfl) (ev_pos (by omega) (ev_pos (by omega) (ev_pos h0 ?_)))
        rw [wrap_succ i (by omega)]
        exact h3
      · refine Ev.step (f := fun _ => _) (fun k => by simp only [spec_l02Parts.l1]; rfl) (ev_pos (by omega) (ev_pos (by omega) (ev_pos (by omega) (ev_pos h0 ?_))))
        rw [wrap_succ i (by omega)]
        exact h4
    · have hneg : out.getD i 0 < 0 := by rw [rd_get] at h0; omega
      have hset := negs_set out i (i : Int) (by omega) hneg (by omega)
      have hcount : negs out ≤ out.length := List.countP_le_length
      obtain ⟨out1, g1, g2, g3, g4, g5⟩ := parts2 l hs i (by omega) (2 * negs (out.set i (i : Int)) + 1) (out.set i (i : Int)) [(i : Int)] 0 (by simp) (by simp) ⟨by rw [List.length_set]; exact ho, fun q hq => by rw [List.mem_singleton.1 hq]; omega, by simp only [List.length_cons, List.length_nil]; omega⟩
      obtain ⟨out', h1, h2, h3, h4⟩ := ih (i + 1) out1 (by omega) g1 (fun q hq => g2 q (by
        rw [getD_set _ _ _ _ (by omega)]
        split
        · omega
        · exact hp q (by omega)))
      refine ⟨out', h1, h2, ?_, ?_⟩
      · refine Ev.step (f := fun _ => _) (fun k => by simp only [impl_parts.l1]; rfl) (ev_pos (by omega) (ev_pos (by omega) (ev_neg h0 ?_)))
        rw [Int.toNat_natCast]
        exact g4 _ h3
      · refine Ev.step (f := fun _ => _) (fun k => by simp only [spec_l02Parts.l1]; rfl) (ev_pos (by omega) (ev_pos (by omega) (ev_pos (by omega) (ev_neg h0 ?_))))
        rw [Int.toNat_natCast]
        exact g5 _ h4
theorem parts0 (l : List S57) (hs : Shape l) (r : List Int) (h : Ev (fun k => spec_l02Parts.l1 k l (List.replicate l.length (-1)) 0) r) (d : Nat) : ∀ n : Nat, n + d = l.length → Ev (fun k => spec_l02Parts.l0 k l (List.replicate n (-1)) n) r := by
  have hN := hs.le
  induction d with
  | zero =>
    intro n hn
    obtain rfl : n = l.length := by omega
    exact Ev.step (f := fun _ => _) (fun k => by simp only [spec_l02Parts.l0]; rfl) (ev_neg (by omega) h)
  | succ d ih =>
    intro n hn
    refine Ev.step (f := fun _ => _) (fun k => by simp only [spec_l02Parts.l0]; rfl) (ev_pos (by omega) (ev_pos (by simp; omega) ?_))
    rw [wrap_succ n (by omega), show List.replicate n (-1 : Int) ++ [-1] = List.replicate (n + 1) (-1) from List.replicate_succ'.symm]
    exact ih (n + 1) (by omega)
theorem parts_both (l : List S57) (hs : Shape l) : ∃ out, out.length = l.length ∧ (∀ q : Nat, q < l.length → 0 ≤ out.getD q 0) ∧ Ev (fun k => impl_parts.f k l) out ∧ Ev (fun k => spec_l02Parts.f k l) out := by
  obtain ⟨out, h1, h2, h3, h4⟩ := parts1 l hs l.length 0 (List.replicate l.length (-1)) (by omega) (by simp) (fun q hq => by omega)
  refine ⟨out, h1, h2, ?_, parts0 l hs out h4 l.length 0 (by omega)⟩
  refine ev_pos ⟨⟨by have := hs.pos; omega, by have := hs.le; omega⟩, fun c hc => ?_⟩ h3
  obtain ⟨i, hi, rfl⟩ := List.getElem_of_mem hc
  have := hs.near i hi
  have e : l[i] = cellAt l i := by rw [show cellAt l i = l.getD i z57 from rfl, List.getD_eq_getElem?_getD, List.getElem?_eq_getElem hi]; rfl
  rw [e]
  exact ⟨⟨by omega, by omega⟩, by omega, by omega⟩
theorem max_loop (out : List Int) (hm : out.length ≤ 40) (hp : ∀ q : Nat, q < out.length → 0 ≤ out.getD q 0) (d : Nat) : ∀ (n : Nat) (x : Int), n + d = out.length → 0 ≤ x →
    ∃ m, Ev (fun k => slices_Max_int64_int64.l0 k out x n) m ∧ (m = 0 ↔ x = 0 ∧ ∀ q : Nat, n ≤ q → q < out.length → out.getD q 0 = 0) := by
  induction d with
  | zero =>
    intro n x hn hx
    exact ⟨x, Ev.step (f := fun _ => _) (fun k => by simp only [slices_Max_int64_int64.l0]; rfl) (ev_neg (by omega) (ev_const rfl)), ⟨fun h => ⟨h, fun q h1 h2 => by omega⟩, fun h => h.1⟩⟩
  | succ d ih =>
    intro n x hn hx
    have h0 := hp n (by omega)
    obtain ⟨m, h1, h2⟩ := ih (n + 1) (mx x (rd out (n : Int))) (by omega) (by rw [rd_get]; unfold mx; split <;> omega)
    refine ⟨m, Ev.step (f := fun _ => _) (fun k => by simp only [slices_Max_int64_int64.l0]; rfl) (ev_pos (by omega) (ev_pos (by omega) (by rw [wrap_succ n (by omega)]; exact h1))), h2.trans ⟨fun h => ?_, fun h => ?_⟩⟩
    · rw [rd_get] at h
      have h3 : x = 0 ∧ out.getD n 0 = 0 := by
        have := h.1
        unfold mx at this
        split at this <;> omega
      refine ⟨h3.1, fun q h4 h5 => ?_⟩
      by_cases e : q = n
      · subst e; exact h3.2
      · exact h.2 q (by omega) h5
    · have h3 := h.2 n (Nat.le_refl _) (by omega)
      refine ⟨?_, fun q h4 h5 => h.2 q (by omega) h5⟩
      rw [rd_get, h.1, h3]
      rfl
theorem one_loop (out : List Int) (hm : out.length ≤ 40) (d : Nat) : ∀ n : Nat, n + d = out.length → ∃ b, Ev (fun k => spec_l02One.l0 k out n) b ∧ (b = true ↔ ∀ q : Nat, n ≤ q → q < out.length → out.getD q 0 = 0) := by
  induction d with
  | zero =>
    intro n hn
    exact ⟨true, Ev.step (f := fun _ => _) (fun k => by simp only [spec_l02One.l0]; rfl) (ev_neg (by omega) (ev_const rfl)), ⟨fun _ q h1 h2 => by omega, fun _ => rfl⟩⟩
  | succ d ih =>
    intro n hn
    by_cases h : rd out (n : Int) = 0
    · obtain ⟨b, h1, h2⟩ := ih (n + 1) (by omega)
      refine ⟨b, Ev.step (f := fun _ => _) (fun k => by simp only [spec_l02One.l0]; rfl) (ev_pos (by omega) (ev_pos (by omega) (ev_pos h (by rw [wrap_succ n (by omega)]; exact h1)))), h2.trans ⟨fun h3 q h4 h5 => ?_, fun h3 q h4 h5 => h3 q (by omega) h5⟩⟩
      by_cases e : q = n
      · subst e; exact h
      · exact h3 q (by omega) h5
    · exact ⟨false, Ev.step (f := fun _ => _) (fun k => by simp only [spec_l02One.l0]; rfl) (ev_pos (by omega) (ev_pos (by omega) (ev_neg h (ev_const rfl)))), ⟨fun h1 => (by cases h1), fun h1 => absurd (h1 n (Nat.le_refl _) (by omega)) h⟩⟩
theorem connected_both (l : List S57) (hm : l.length ≤ maxLen) : ∃ b, Ev (fun k => impl_IsConnected.f k l) b ∧ Ev (fun k => spec_IsConnected.f k l) b ∧ (b = true → Shape l) := by
  cases h : isShapeB l with
  | false =>
    have h1 := impl_shape_val l hm
    have h2 := spec_shape_val l hm
    rw [h] at h1 h2
    exact ⟨false, Ev.bind h1 (ev_neg (by simp) (ev_const rfl)), Ev.bind h2 (ev_neg (by simp) (ev_const rfl)), fun h => by cases h⟩
  | true =>
    have hs := shape_of l h
    have hN := hs.le
    have h1 := impl_shape_val l hm
    have h2 := spec_shape_val l hm
    rw [h] at h1 h2
    obtain ⟨out, g1, g2, g3, g4⟩ := parts_both l hs
    have hpos := hs.pos
    obtain ⟨m, m1, m2⟩ := max_loop out (by omega) (fun q hq => g2 q (by omega)) (out.length - 1) 1 (rd out 0) (by omega) (g2 0 (by omega))
    obtain ⟨b, b1, b2⟩ := one_loop out (by omega) out.length 0 (by omega)
    have hmax : Ev (fun k => slices_Max_int64_int64.f k out) m := ev_neg (by omega) (ev_pos (by omega) m1)
    have heq : m = 0 ↔ b = true := m2.trans (Iff.trans ⟨fun h q h1 h2 => by
      by_cases e : q = 0
      · subst e; exact h.1
      · exact h.2 q (by omega) h2, fun h => ⟨h 0 (Nat.le_refl _) (by omega), fun q h1 h2 => h q (by omega) h2⟩⟩ b2.symm)
    refine ⟨b, Ev.bind h1 (ev_pos rfl (Ev.bind g3 (Ev.bind hmax ?_))), Ev.bind h2 (ev_pos rfl (Ev.bind g4 (Ev.bind b1 (ev_const rfl)))), fun _ => hs⟩
    cases b with
    | true => exact ev_pos (heq.2 rfl) (ev_const rfl)
    | false => exact ev_neg (fun e => by have := heq.1 e; cases this) (ev_const rfl)
/-! Faces: both sides roll the die alike. -/
theorem has_loop (ids : List Int) (v : Int) (hm : ids.length ≤ 1000) (d : Nat) : ∀ n : Nat, n + d = ids.length → (∀ i, i < n → ids.getD i 0 ≠ v) → Ev (fun k => spec_l01Has.l0 k ids v n) (decide (v ∈ ids)) := by
  induction d with
  | zero =>
    intro n hn h
    refine Ev.step (f := fun _ => _) (fun k => by simp only [spec_l01Has.l0]; rfl) (ev_neg (by omega) (ev_const ?_))
    rw [decide_eq_false]
    intro hv
    obtain ⟨i, hi, e⟩ := List.getElem_of_mem hv
    exact h i (by omega) (by rw [List.getD_eq_getElem?_getD, List.getElem?_eq_getElem hi]; exact e)
  | succ d ih =>
    intro n hn h
    refine Ev.step (f := fun _ => _) (fun k => by simp only [spec_l01Has.l0]; rfl) (ev_pos (by omega) (ev_pos (by omega) ?_))
    by_cases e : rd ids (n : Int) = v
    · refine ev_pos e (ev_const ?_)
      rw [decide_eq_true]
      rw [← e]
      exact getD_mem ids 0 n (by omega)
    · refine ev_neg e ?_
      rw [wrap_succ n (by omega)]
      refine ih (n + 1) (by omega) (fun i hi => ?_)
      by_cases e2 : i = n
      · subst e2; exact e
      · exact h i (by omega)
theorem has_val (ids : List Int) (v : Int) (hm : ids.length ≤ 1000) : Ev (fun k => spec_l01Has.f k ids v) (decide (v ∈ ids)) := has_loop ids v hm ids.length 0 (by omega) (fun i hi => by omega)
theorem sindex_loop (l : List S57) (hs : Shape l) (a b : Int) (d : Nat) : ∀ n : Nat, n + d = l.length → (∀ i, i < n → cellKey (cellAt l i) ≠ (a, b)) → Ev (fun k => slices_Index_impl_Cell_impl_Cell.l0 k l (l.length : Int) n a b) (idxI l (a, b)) := by
  have := hs.le
  induction d with
  | zero =>
    intro n hd hn
    refine Ev.step (f := fun _ => _) (fun k => by simp only [slices_Index_impl_Cell_impl_Cell.l0]; rfl) (ev_neg (by omega) (ev_const ?_))
    unfold idxI
    rw [atCell_none l (a, b) l.length (fun i hi => hn i (by omega))]
  | succ d ih =>
    intro n hd hn
    refine Ev.step (f := fun _ => _) (fun k => by simp only [slices_Index_impl_Cell_impl_Cell.l0]; rfl) (ev_pos (by omega) (ev_pos (by omega) (ev_pos (by omega) ?_)))
    rw [show rd_T57 l (n : Int) = cellAt l n from rfl]
    by_cases e : (a == (cellAt l n).f0 && b == (cellAt l n).f1) = true
    · refine ev_pos e (ev_const ?_)
      simp only [Bool.and_eq_true, beq_iff_eq] at e
      unfold idxI
      rw [show ((a, b) : Int × Int) = cellKey (cellAt l n) by unfold cellKey; rw [e.1, e.2], atCell_some l hs n (by omega)]
    · refine ev_neg e ?_
      rw [wrap_succ n (by omega)]
      refine ih (n + 1) (by omega) (fun i hi => ?_)
      by_cases e2 : i = n
      · subst e2
        intro h
        simp only [cellKey, Prod.mk.injEq] at h
        exact e (by rw [Bool.and_eq_true]; exact ⟨beq_iff_eq.2 h.1.symm, beq_iff_eq.2 h.2.symm⟩)
      · exact hn i (by omega)
theorem contains_val (l : List S57) (hs : Shape l) (a b : Int) : Ev (fun k => slices_Contains_impl_Cell_impl_Cell.f k l a b) (decide (idxI l (a, b) ≥ 0)) :=
  Ev.bind (sindex_loop l hs a b l.length 0 (by omega) (fun i hi => by omega)) (ev_const rfl)
theorem step_val (e : Nat) (he : e < 4) : spec_l23Step.f (bt (⟨#[114, 100, 108, 117]⟩ : ByteArray) e) = some (edgeSX e, edgeSY e) := by
  rcases (by omega : e = 0 ∨ e = 1 ∨ e = 2 ∨ e = 3) with rfl | rfl | rfl | rfl <;> rfl
theorem roll_some (a b c x : Int) : ∃ y, impl_die_roll.f a b c x = some y := by
  unfold impl_die_roll.f
  split
  · exact ⟨_, rfl⟩
  · split
    · exact ⟨_, rfl⟩
    · split <;> exact ⟨_, rfl⟩
theorem roll_same (a b c x : Int) : spec_l32Roll.f a b c x = impl_die_roll.f a b c x := rfl
theorem countP_lt {α : Type} (p q : α → Bool) (a : α) : ∀ xs : List α, (∀ x ∈ xs, q x = true → p x = true) → a ∈ xs → p a = true → q a = false → xs.countP q < xs.countP p
  | [], _, h, _, _ => by cases h
  | x :: xs, hpq, h, ha, hb => by
    have hmono : xs.countP q ≤ xs.countP p := List.countP_mono_left (fun y hy => hpq y (List.mem_cons_of_mem _ hy))
    rw [List.countP_cons, List.countP_cons]
    rcases List.mem_cons.1 h with rfl | h
    · simp only [ha, hb, if_true, Bool.false_eq_true, if_false]; omega
    · have ih := countP_lt p q a xs (fun y hy => hpq y (List.mem_cons_of_mem _ hy)) h ha hb
      have := hpq x List.mem_cons_self
      cases hq : q x with
      | false => simp only [Bool.false_eq_true, if_false]; omega
      | true => rw [this hq]; simp only [if_true]; omega
def left (n : Nat) (ids : List Int) : Nat := (List.range n).countP (fun i : Nat => !decide ((i : Int) ∈ ids))
theorem left_app (n : Nat) (ids : List Int) (p : Nat) (hp : p < n) (h : (p : Int) ∉ ids) : left n (ids ++ [(p : Int)]) + 1 ≤ left n ids := by
  unfold left
  refine countP_lt _ _ p _ (fun x _ hx => ?_) (List.mem_range.2 hp) (by simp [h]) (by simp)
  simp only [Bool.not_eq_true', decide_eq_false_iff_not, List.mem_append, not_or] at hx ⊢
  exact hx.1
def trip (s : S49) : Int × Int × Int := (s.f0, s.f1, s.f2)
structure Sim (l : List S57) (ids : List Int) (dice : List S49) (m : List ((Int × Int) × (Int × Int × Int))) : Prop where
  len : dice.length = l.length
  mem : ∀ q, q ∈ ids → 0 ≤ q ∧ q < (l.length : Int)
  inn : ∀ q : Nat, q < l.length → (q : Int) ∈ ids → dget m (cellKey (cellAt l q)) = some (trip (dice.getD q z49))
  out : ∀ q : Nat, q < l.length → (q : Int) ∉ ids → dget m (cellKey (cellAt l q)) = none ∧ dice.getD q z49 = z49
  far : ∀ p, (∀ q : Nat, q < l.length → cellKey (cellAt l q) ≠ p) → dget m p = none
  few : ids.length + left l.length ids ≤ 100
def cellsOf (l : List S57) (ids : List Int) : List S57 := ids.map (fun q => cellAt l q.toNat)
theorem getD_cells (l : List S57) (ids : List Int) (t : Nat) (ht : t < ids.length) : rd_T57 (cellsOf l ids) (t : Int) = cellAt l (ids.getD t 0).toNat := by
  show (cellsOf l ids).getD t z57 = _
  unfold cellsOf
  rw [List.getD_eq_getElem?_getD, List.getElem?_map, List.getElem?_eq_getElem ht, List.getD_eq_getElem?_getD, List.getElem?_eq_getElem ht]
  rfl
theorem getD_app (ids : List Int) (x : Int) (t : Nat) (ht : t < ids.length) : (ids ++ [x]).getD t 0 = ids.getD t 0 := by
  rw [List.getD_eq_getElem?_getD, List.getD_eq_getElem?_getD, List.getElem?_append_left ht]
theorem getD_setD (dice : List S49) (q j : Nat) (v : S49) (hq : q < dice.length) : (dice.set q v).getD j z49 = if j = q then v else dice.getD j z49 := by
  rw [List.getD_eq_getElem?_getD, List.getD_eq_getElem?_getD, List.getElem?_set]
  by_cases e : q = j
  · subst e; simp [hq]
  · rw [if_neg e, if_neg (Ne.symm e)]
theorem sim_add (l : List S57) (hs : Shape l) (ids : List Int) (dice : List S49) (m : List ((Int × Int) × (Int × Int × Int))) (hS : Sim l ids dice m) (p : Nat) (hp : p < l.length) (hn : (p : Int) ∉ ids) (y : Int × Int × Int) :
    Sim l (ids ++ [(p : Int)]) (dice.set p ⟨y.1, y.2.1, y.2.2⟩) ((cellKey (cellAt l p), y) :: m) := by
  have hlen := hS.len
  refine ⟨by rw [List.length_set]; exact hlen, fun q hq => ?_, fun q hq hm => ?_, fun q hq hm => ?_, fun k hk => ?_, ?_⟩
  · rcases List.mem_append.1 hq with h | h
    · exact hS.mem q h
    · rw [List.mem_singleton.1 h]; omega
  · rw [dget, getD_setD _ _ _ _ (by omega)]
    by_cases e : q = p
    · subst e
      rw [if_pos rfl, if_pos rfl]
      rfl
    · rw [if_neg (fun h => e (hs.apart q p hq hp h)), if_neg e]
      rcases List.mem_append.1 hm with h | h
      · exact hS.inn q hq h
      · have := List.mem_singleton.1 h
        omega
  · rw [List.mem_append, not_or, List.mem_singleton] at hm
    have e : q ≠ p := fun h => hm.2 (by rw [h])
    rw [dget, getD_setD _ _ _ _ (by omega), if_neg (fun h => e (hs.apart q p hq hp h)), if_neg e]
    exact hS.out q hq hm.1
  · rw [dget, if_neg (fun h => hk p hp h.symm)]
    exact hS.far k hk
  · have := left_app l.length ids p hp hn
    have := hS.few
    simp only [List.length_append, List.length_cons, List.length_nil]
    omega
theorem faces1 (l : List S57) (hs : Shape l) (t q0 : Nat) (hq0 : q0 < l.length) (d : Nat) : ∀ (e : Nat) (ids : List Int) (dice : List S49) (m : List ((Int × Int) × (Int × Int × Int))), e + d = 4 → t < ids.length → ids.getD t 0 = (q0 : Int) → Sim l ids dice m →
    ∃ ids' dice' m', Sim l ids' dice' m' ∧ ids.length ≤ ids'.length ∧ ids'.length + left l.length ids' ≤ ids.length + left l.length ids ∧ left l.length ids' ≤ left l.length ids ∧
      (∀ r, Ev (fun k => impl_faces.l0 k l m' (cellsOf l ids') (t + 1 : Nat)) r → Ev (fun k => impl_faces.l1 k l m (cellsOf l ids) t e) r) ∧
      (∀ r, Ev (fun k => spec_l32Faces.l0 k l ids' dice' (t + 1 : Nat)) r → Ev (fun k => spec_l32Faces.l1 k l ids dice t e (cellAt l q0).f0 (cellAt l q0).f1) r) := by
  have hN := hs.le
  induction d with
  | zero =>
    intro e ids dice m he ht hq hS
    have := hS.few
    refine ⟨ids, dice, m, hS, Nat.le_refl _, Nat.le_refl _, Nat.le_refl _, fun r hr => ?_, fun r hr => ?_⟩
    · refine Ev.step (f := fun _ => _) (fun k => by simp only [impl_faces.l1]; rfl) (ev_neg (by omega) ?_)
      rw [wrap_succ t (by omega)]
      exact hr
    · refine Ev.step (f := fun _ => _) (fun k => by simp only [spec_l32Faces.l1]; rfl) (ev_neg (by omega) ?_)
      rw [wrap_succ t (by omega)]
      exact hr
  | succ d ih =>
    intro e ids dice m he ht hq hS
    have hfew := hS.few
    have hlen := hS.len
    have hc : rd_T57 (cellsOf l ids) (t : Int) = cellAt l q0 := by rw [getD_cells l ids t ht, hq]; rfl
    have hcl : (cellsOf l ids).length = ids.length := List.length_map _
    have hnear := hs.near q0 hq0
    have hokc : okcF (cellAt l q0) := ⟨⟨by omega, by omega⟩, by omega, by omega⟩
    have hmem0 : (q0 : Int) ∈ ids := by rw [← hq]; exact getD_mem ids 0 t ht
    have hidx := index_val l hs (wrap64 ((cellAt l q0).f0 + edgeSX e)) (wrap64 ((cellAt l q0).f1 + edgeSY e))
    have hcon := contains_val l hs (stepTo (cellAt l q0) e).f0 (stepTo (cellAt l q0) e).f1
    have hkey : cellKey (stepTo (cellAt l q0) e) = (wrap64 ((cellAt l q0).f0 + edgeSX e), wrap64 ((cellAt l q0).f1 + edgeSY e)) := rfl
    have hI : ∀ r : List Int, Ev (fun k => match dget m (cellKey (stepTo (cellAt l q0) e)) with
        | some _ => impl_faces.l1 k l m (cellsOf l ids) t (wrap64 ((e : Int) + 1))
        | none => (slices_Contains_impl_Cell_impl_Cell.f k l (stepTo (cellAt l q0) e).f0 (stepTo (cellAt l q0) e).f1).bind fun b => if b = true then (impl_die_roll.f ((dget m (cellKey (cellAt l q0))).getD (0, 0, 0)).1 ((dget m (cellKey (cellAt l q0))).getD (0, 0, 0)).2.1 ((dget m (cellKey (cellAt l q0))).getD (0, 0, 0)).2.2 (bt (⟨#[114, 100, 108, 117]⟩ : ByteArray) e)).bind fun y => (if (cellsOf l ids).length < 8796093022208 then impl_faces.l1 k l ((cellKey (stepTo (cellAt l q0) e), y) :: m) (cellsOf l ids ++ [stepTo (cellAt l q0) e]) t (wrap64 ((e : Int) + 1)) else none) else impl_faces.l1 k l m (cellsOf l ids) t (wrap64 ((e : Int) + 1))) r → Ev (fun k => impl_faces.l1 k l m (cellsOf l ids) t e) r := by
      intro r hg
      refine Ev.step (f := fun k => if (e : Int) < 4 then (if ((0 ≤ (e : Int) ∧ 0 ≤ (t : Int)) ∧ (t : Int) < ((cellsOf l ids).length : Int)) ∧ okcF (cellAt l q0) then _ else none) else impl_faces.l0 k l m (cellsOf l ids) (wrap64 ((t : Int) + 1))) (fun k => ?_) (ev_pos (by omega) (ev_pos ⟨⟨⟨by omega, by omega⟩, by omega⟩, hokc⟩ hg))
      simp only [impl_faces.l1, hc]
      rfl
    cases hat : atCell l l.length (cellKey (stepTo (cellAt l q0) e)) with
    | none =>
      have hno : ∀ q : Nat, q < l.length → cellKey (cellAt l q) ≠ cellKey (stepTo (cellAt l q0) e) := fun q hq' h => by
        rw [← h, atCell_some l hs q hq'] at hat
        cases hat
      have hd := hS.far _ hno
      have hix : idxI l (cellKey (stepTo (cellAt l q0) e)) = -1 := by unfold idxI; rw [hat]
      obtain ⟨ids', dice', m', h1, h2, h3, h3', h4, h5⟩ := ih (e + 1) ids dice m (by omega) ht hq hS
      refine ⟨ids', dice', m', h1, h2, h3, h3', fun r hr => ?_, fun r hr => ?_⟩
      · have hcon' : Ev (fun k => slices_Contains_impl_Cell_impl_Cell.f k l (stepTo (cellAt l q0) e).f0 (stepTo (cellAt l q0) e).f1) false := by
          refine ev_eq hcon ?_
          rw [show ((stepTo (cellAt l q0) e).f0, (stepTo (cellAt l q0) e).f1) = cellKey (stepTo (cellAt l q0) e) from rfl, hix]
          rfl
        refine hI r ?_
        simp only [hd]
        refine Ev.bind hcon' (ev_neg (by simp) ?_)
        rw [wrap_succ e (by omega)]
        exact h4 r hr
      · refine Ev.step (f := fun _ => _) (fun k => by simp only [spec_l32Faces.l1]; rfl) (ev_pos (by omega) (ev_pos (by omega) (ev_some (step_val e (by omega)) (Ev.bind hidx ?_))))
        rw [show ((wrap64 ((cellAt l q0).f0 + edgeSX e), wrap64 ((cellAt l q0).f1 + edgeSY e)) : Int × Int) = cellKey (stepTo (cellAt l q0) e) from rfl, hix]
        refine ev_neg (by omega) ?_
        rw [wrap_succ e (by omega)]
        exact h5 r hr
    | some p' =>
      obtain ⟨p, hp, rfl, hpk⟩ := atCell_inv l _ _ _ hat
      have hix : idxI l (cellKey (stepTo (cellAt l q0) e)) = (p : Int) := by unfold idxI; rw [hat]
      have hcell : stepTo (cellAt l q0) e = cellAt l p := by
        have h1 : (cellAt l p).f0 = (stepTo (cellAt l q0) e).f0 := congrArg Prod.fst hpk
        have h2 : (cellAt l p).f1 = (stepTo (cellAt l q0) e).f1 := congrArg Prod.snd hpk
        cases h3 : stepTo (cellAt l q0) e with
        | mk a b =>
          cases h4 : cellAt l p with
          | mk c d =>
            rw [h3, h4] at h1 h2
            simp only at h1 h2
            rw [h1, h2]
      by_cases hin : (p : Int) ∈ ids
      · have hd := hS.inn p hp hin
        rw [hpk] at hd
        obtain ⟨ids', dice', m', h1, h2, h3, h3', h4, h5⟩ := ih (e + 1) ids dice m (by omega) ht hq hS
        refine ⟨ids', dice', m', h1, h2, h3, h3', fun r hr => ?_, fun r hr => ?_⟩
        · refine hI r ?_
          simp only [hd]
          rw [wrap_succ e (by omega)]
          exact h4 r hr
        · refine Ev.step (f := fun _ => _) (fun k => by simp only [spec_l32Faces.l1]; rfl) (ev_pos (by omega) (ev_pos (by omega) (ev_some (step_val e (by omega)) (Ev.bind hidx ?_))))
          rw [show ((wrap64 ((cellAt l q0).f0 + edgeSX e), wrap64 ((cellAt l q0).f1 + edgeSY e)) : Int × Int) = cellKey (stepTo (cellAt l q0) e) from rfl, hix]
          refine ev_pos (by omega) (Ev.bind (has_val ids p (by omega)) (ev_pos (decide_eq_true hin) ?_))
          rw [wrap_succ e (by omega)]
          exact h5 r hr
      · have hd := (hS.out p hp hin).1
        rw [hpk] at hd
        have hq0d := hS.inn q0 hq0 hmem0
        obtain ⟨y, hy⟩ := roll_some (dice.getD q0 z49).f0 (dice.getD q0 z49).f1 (dice.getD q0 z49).f2 (bt (⟨#[114, 100, 108, 117]⟩ : ByteArray) e)
        obtain ⟨ids', dice', m', h1, h2, h3, h3', h4, h5⟩ := ih (e + 1) _ _ _ (by omega) (by simp only [List.length_append, List.length_cons, List.length_nil]; omega) ((getD_app ids _ t ht).trans hq) (sim_add l hs ids dice m hS p hp hin y)
        have hla := left_app l.length ids p hp hin
        simp only [List.length_append, List.length_cons, List.length_nil] at h2 h3
        refine ⟨ids', dice', m', h1, by omega, by omega, by omega, fun r hr => ?_, fun r hr => ?_⟩
        · have hcon' : Ev (fun k => slices_Contains_impl_Cell_impl_Cell.f k l (stepTo (cellAt l q0) e).f0 (stepTo (cellAt l q0) e).f1) true := by
            refine ev_eq hcon ?_
            rw [show ((stepTo (cellAt l q0) e).f0, (stepTo (cellAt l q0) e).f1) = cellKey (stepTo (cellAt l q0) e) from rfl, hix]
            exact decide_eq_true (by omega)
          refine hI r ?_
          simp only [hd, hq0d, Option.getD_some]
          refine Ev.bind hcon' (ev_pos rfl (ev_some hy (ev_pos (by omega) ?_)))
          rw [wrap_succ e (by omega), hcell]
          have e1 : cellsOf l ids ++ [cellAt l p] = cellsOf l (ids ++ [(p : Int)]) := by unfold cellsOf; rw [List.map_append]; rfl
          rw [e1]
          exact h4 r hr
        · refine Ev.step (f := fun _ => _) (fun k => by simp only [spec_l32Faces.l1]; rfl) (ev_pos (by omega) (ev_pos (by omega) (ev_some (step_val e (by omega)) (Ev.bind hidx ?_))))
          rw [show ((wrap64 ((cellAt l q0).f0 + edgeSX e), wrap64 ((cellAt l q0).f1 + edgeSY e)) : Int × Int) = cellKey (stepTo (cellAt l q0) e) from rfl, hix]
          refine ev_pos (by omega) (Ev.bind (has_val ids p (by omega)) (ev_neg (by simp [hin]) (ev_pos (by omega) (ev_pos (by omega) ?_))))
          rw [show rd ids (t : Int) = ids.getD t 0 from rfl, hq]
          refine ev_pos (by omega) (ev_pos (by omega) (ev_some ((roll_same _ _ _ _).trans hy) (ev_pos (by omega) (ev_pos (by omega) (ev_pos (by omega) ?_)))))
          rw [wrap_succ e (by omega), Int.toNat_natCast]
          exact h5 r hr
theorem out_impl (l : List S57) (hs : Shape l) (ids : List Int) (dice : List S49) (m : List ((Int × Int) × (Int × Int × Int))) (hS : Sim l ids dice m) (d : Nat) : ∀ (n : Nat) (out : List Int), n + d = l.length → out.length = n →
    Ev (fun k => impl_faces.l2 k l m out n) (out ++ (dice.drop n).map (fun s => s.f0)) ∧ Ev (fun k => spec_l32Faces.l2 k dice out n) (out ++ (dice.drop n).map (fun s => s.f0)) := by
  have hN := hs.le
  have hlen := hS.len
  induction d with
  | zero =>
    intro n out hn ho
    rw [List.drop_of_length_le (by omega), List.map_nil, List.append_nil]
    exact ⟨Ev.step (f := fun _ => _) (fun k => by simp only [impl_faces.l2]; rfl) (ev_neg (by omega) (ev_const rfl)), Ev.step (f := fun _ => _) (fun k => by simp only [spec_l32Faces.l2]; rfl) (ev_neg (by omega) (ev_const rfl))⟩
  | succ d ih =>
    intro n out hn ho
    have hv : ((dget m (cellKey (cellAt l n))).getD (0, 0, 0)).1 = (dice.getD n z49).f0 := by
      by_cases h : (n : Int) ∈ ids
      · rw [hS.inn n (by omega) h]
        rfl
      · rw [(hS.out n (by omega) h).1, (hS.out n (by omega) h).2]
        rfl
    obtain ⟨h1, h2⟩ := ih (n + 1) (out ++ [(dice.getD n z49).f0]) (by omega) (by simp only [List.length_append, List.length_cons, List.length_nil]; omega)
    rw [drop_cons dice z49 n (by omega), List.map_cons, show out ++ (dice.getD n z49).f0 :: (dice.drop (n + 1)).map (fun s => s.f0) = (out ++ [(dice.getD n z49).f0]) ++ (dice.drop (n + 1)).map (fun s => s.f0) by simp]
    constructor
    · refine Ev.step (f := fun _ => _) (fun k => by simp only [impl_faces.l2]; rfl) (ev_pos (by omega) (ev_pos (by omega) (ev_pos (by omega) ?_)))
      rw [wrap_succ n (by omega), show (dget m (cellKeyF (rd_T57 l (n : Int)))) = dget m (cellKey (cellAt l n)) from rfl, hv]
      exact h1
    · refine Ev.step (f := fun _ => _) (fun k => by simp only [spec_l32Faces.l2]; rfl) (ev_pos (by omega) (ev_pos (by omega) (ev_pos (by omega) ?_)))
      rw [wrap_succ n (by omega)]
      exact h2
theorem faces0 (l : List S57) (hs : Shape l) (M : Nat) : ∀ (t : Nat) (ids : List Int) (dice : List S49) (m : List ((Int × Int) × (Int × Int × Int))), 2 * left l.length ids + (ids.length - t) ≤ M → t ≤ ids.length → Sim l ids dice m →
    ∃ F, F.length = l.length ∧ Ev (fun k => impl_faces.l0 k l m (cellsOf l ids) t) F ∧ Ev (fun k => spec_l32Faces.l0 k l ids dice t) F := by
  have hN := hs.le
  induction M with
  | zero =>
    intro t ids dice m hM ht hS
    have hfew := hS.few
    obtain ⟨h1, h2⟩ := out_impl l hs ids dice m hS l.length 0 [] (by omega) rfl
    have hcl : (cellsOf l ids).length = ids.length := List.length_map _
    refine ⟨_, ?_, Ev.step (f := fun _ => _) (fun k => by simp only [impl_faces.l0]; rfl) (ev_neg (by omega) h1), Ev.step (f := fun _ => _) (fun k => by simp only [spec_l32Faces.l0]; rfl) (ev_neg (by omega) h2)⟩
    simp [hS.len]
  | succ M ih =>
    intro t ids dice m hM ht hS
    have hfew := hS.few
    have hcl : (cellsOf l ids).length = ids.length := List.length_map _
    by_cases e : t = ids.length
    · obtain ⟨h1, h2⟩ := out_impl l hs ids dice m hS l.length 0 [] (by omega) rfl
      refine ⟨_, ?_, Ev.step (f := fun _ => _) (fun k => by simp only [impl_faces.l0]; rfl) (ev_neg (by omega) h1), Ev.step (f := fun _ => _) (fun k => by simp only [spec_l32Faces.l0]; rfl) (ev_neg (by omega) h2)⟩
      simp [hS.len]
    · have hmem := hS.mem _ (getD_mem ids 0 t (by omega))
      obtain ⟨q0, hq0⟩ := Int.eq_ofNat_of_zero_le hmem.1
      obtain ⟨ids', dice', m', h1, h2, h3, h3', h4, h5⟩ := faces1 l hs t q0 (by omega) 4 0 ids dice m rfl (by omega) hq0 hS
      obtain ⟨F, g1, g2, g3⟩ := ih (t + 1) ids' dice' m' (by omega) (by omega) h1
      refine ⟨F, g1, ?_, ?_⟩
      · exact Ev.step (f := fun _ => _) (fun k => by simp only [impl_faces.l0]; rfl) (ev_pos (by omega) (h4 F g2))
      · refine Ev.step (f := fun _ => _) (fun k => by simp only [spec_l32Faces.l0]; rfl) (ev_pos (by omega) (ev_pos (by omega) ?_))
        rw [show rd ids (t : Int) = ids.getD t 0 from rfl, hq0]
        exact ev_pos (by omega) (ev_pos (by omega) (h5 F g3))
theorem range_left (n : Nat) (ids : List Int) : left n ids ≤ n := by
  have : left n ids ≤ (List.range n).length := List.countP_le_length
  simpa using this
theorem faces_both (l : List S57) (hs : Shape l) : ∃ F, F.length = l.length ∧ Ev (fun k => impl_faces.f k l) F ∧ Ev (fun k => spec_l32Faces.f k l) F := by
  have hN := hs.le
  have hpos := hs.pos
  have hz : ∀ q : Nat, (List.replicate l.length z49).getD q z49 = z49 := fun q => by
    rw [List.getD_eq_getElem?_getD]
    cases h : (List.replicate l.length z49)[q]? with
    | none => rfl
    | some v => exact (List.eq_of_mem_replicate (List.mem_of_getElem? h))
  have hS : Sim l [0] ((List.replicate l.length z49).set 0 ⟨0, 1, 2⟩) [(cellKey (cellAt l 0), (0, 1, 2))] := by
    refine ⟨by simp, fun q hq => ?_, fun q hq hm => ?_, fun q hq hm => ?_, fun p hp => ?_, ?_⟩
    · rw [List.mem_singleton.1 hq]; omega
    · have : q = 0 := by have := List.mem_singleton.1 hm; omega
      subst this
      rw [dget, if_pos rfl, getD_setD _ _ _ _ (by simp; omega), if_pos rfl]
      rfl
    · have e : q ≠ 0 := fun h => hm (by rw [h]; simp)
      rw [dget, if_neg (fun h => e (hs.apart q 0 hq (by omega) h)), dget, getD_setD _ _ _ _ (by simp; omega), if_neg e]
      exact ⟨rfl, hz q⟩
    · rw [dget, if_neg (fun h => hp 0 (by omega) h.symm)]
      rfl
    · have := range_left l.length [0]
      simp only [List.length_cons, List.length_nil]
      omega
  obtain ⟨F, h1, h2, h3⟩ := faces0 l hs _ 0 [0] _ _ (Nat.le_refl _) (by simp) hS
  refine ⟨F, h1, ev_pos ⟨⟨by omega, by omega⟩, fun c hc => ?_⟩ h2, ?_⟩
  · obtain ⟨i, hi, rfl⟩ := List.getElem_of_mem hc
    have := hs.near i hi
    have e : l[i] = cellAt l i := by rw [show cellAt l i = l.getD i z57 from rfl, List.getD_eq_getElem?_getD, List.getElem?_eq_getElem hi]; rfl
    rw [e]
    exact ⟨⟨by omega, by omega⟩, by omega, by omega⟩
  · refine ev_pos (by omega) (ev_pos (by simp only [Int.toNat_natCast]; omega) (ev_some rfl (ev_pos (by simp only [Int.toNat_natCast, List.length_replicate]; omega) ?_)))
    rw [Int.toNat_natCast]
    exact h3
/-! Permutations: both sides agree on every list of at most 64 numbers. -/
def PermB (F : List Int) : Prop := ∀ i : Nat, i < F.length → (0 ≤ F.getD i 0 ∧ F.getD i 0 < (F.length : Int)) ∧ ∀ j : Nat, j < F.length → i ≠ j → F.getD i 0 ≠ F.getD j 0
theorem perm_loop (F : List Int) (hF : F.length ≤ 64) (d : Nat) : ∀ (n : Nat) (s1 s2 : List Bool), n + d = F.length → s1.length = 64 → s2.length = F.length → (∀ q : Nat, q < F.length → s1.getD q false = s2.getD q false) →
    ∃ b, Ev (fun k => impl_IsPermutation.l0 k F s1 n) b ∧ Ev (fun k => spec_IsPermutation.l0 k F s2 n) b ∧ (b = true → ∀ i : Nat, n ≤ i → i < F.length → (0 ≤ F.getD i 0 ∧ F.getD i 0 < (F.length : Int) ∧ s1.getD (F.getD i 0).toNat false = false) ∧ ∀ j : Nat, i < j → j < F.length → F.getD i 0 ≠ F.getD j 0) := by
  induction d with
  | zero =>
    intro n s1 s2 hn h1 h2 h3
    refine ⟨true, Ev.step (f := fun _ => _) (fun k => by simp only [impl_IsPermutation.l0]; rfl) (ev_neg (by omega) (ev_const rfl)), Ev.step (f := fun _ => _) (fun k => by simp only [spec_IsPermutation.l0]; rfl) (ev_neg (by omega) (ev_const ?_)), fun _ i h1 h2 => by omega⟩
    rw [decide_eq_true (by omega)]
  | succ d ih =>
    intro n s1 s2 hn h1 h2 h3
    have hw : wrap64 ((F.length : Int) - 1) = (F.length : Int) - 1 := wrap_id _ (by omega) (by omega)
    by_cases hr : 0 ≤ rd F (n : Int) ∧ rd F (n : Int) ≤ (F.length : Int) - 1
    · obtain ⟨v, hv⟩ := Int.eq_ofNat_of_zero_le hr.1
      have hin : (decide ((0 : Int) ≤ rd F (n : Int)) && decide (rd F (n : Int) ≤ wrap64 ((F.length : Int) - 1))) = true := by rw [hw, decide_eq_true hr.1, decide_eq_true hr.2]; rfl
      have hv' : v < F.length := by omega
      cases hs : s1.getD v false with
      | true =>
        refine ⟨false, ?_, ?_, fun h => by cases h⟩
        · refine Ev.step (f := fun _ => _) (fun k => by simp only [impl_IsPermutation.l0]; rfl) ?_
          exact ev_pos (by omega) (ev_pos (by omega) (ev_some ((within_valC _ _ _).trans (congrArg some hin)) (ev_pos rfl (ev_pos ⟨hr.1, by omega⟩ (ev_pos (by rw [hv, Int.toNat_natCast]; exact hs) (ev_const rfl))))))
        · refine Ev.step (f := fun _ => _) (fun k => by simp only [spec_IsPermutation.l0]; rfl) ?_
          exact ev_pos (by omega) (ev_pos (by omega) (ev_some ((in_valC _ _ _).trans (congrArg some hin)) (ev_pos rfl (ev_pos hr.1 (ev_pos (by omega) (ev_pos (by rw [hv]; exact (h3 v hv').symm.trans hs) (ev_const rfl)))))))
      | false =>
        obtain ⟨b, g1, g2, g3⟩ := ih (n + 1) (s1.set v true) (s2.set v true) (by omega) (by simpa using h1) (by simpa using h2) (fun q hq => by
          rw [List.getD_eq_getElem?_getD, List.getD_eq_getElem?_getD, List.getElem?_set, List.getElem?_set]
          by_cases e : v = q
          · subst e; simp [h1, h2, hv', show v < 64 by omega]
          · rw [if_neg e, if_neg e]
            have := h3 q hq
            rw [List.getD_eq_getElem?_getD, List.getD_eq_getElem?_getD] at this
            exact this)
        have hF : F.getD n 0 = (v : Int) := hv
        refine ⟨b, ?_, ?_, fun hb i hi hi2 => ?_⟩
        · refine Ev.step (f := fun _ => _) (fun k => by simp only [impl_IsPermutation.l0]; rfl) ?_
          refine ev_pos (by omega) (ev_pos (by omega) (ev_some ((within_valC _ _ _).trans (congrArg some hin)) (ev_pos rfl (ev_pos ⟨hr.1, by omega⟩ (ev_neg (by rw [hv, Int.toNat_natCast, hs]; simp) ?_)))))
          rw [hv, Int.toNat_natCast, wrap_succ n (by omega)]
          exact g1
        · refine Ev.step (f := fun _ => _) (fun k => by simp only [spec_IsPermutation.l0]; rfl) ?_
          refine ev_pos (by omega) (ev_pos (by omega) (ev_some ((in_valC _ _ _).trans (congrArg some hin)) (ev_pos rfl (ev_pos hr.1 (ev_pos (by omega) (ev_neg (by rw [hv, show rdOf false s2 (v : Int) = s2.getD v false from rfl, ← h3 v hv', hs]; simp) ?_))))))
          rw [hv, Int.toNat_natCast, wrap_succ n (by omega)]
          exact g2
        · have hset : ∀ q : Nat, (s1.set v true).getD q false = false → q ≠ v ∧ s1.getD q false = false := fun q hq => by
            rw [List.getD_eq_getElem?_getD, List.getElem?_set] at hq
            by_cases e : v = q
            · subst e; simp [h1, show v < 64 by omega] at hq
            · rw [if_neg e] at hq
              exact ⟨fun x => e x.symm, by rw [List.getD_eq_getElem?_getD]; exact hq⟩
          by_cases e : i = n
          · subst e
            refine ⟨⟨by omega, by omega, by rw [hF, Int.toNat_natCast]; exact hs⟩, fun j hj hj2 hc => ?_⟩
            obtain ⟨⟨a1, a2, a3⟩, _⟩ := g3 hb j (by omega) hj2
            exact (hset _ a3).1 (by rw [← hc, hF, Int.toNat_natCast])
          · obtain ⟨⟨a1, a2, a3⟩, a4⟩ := g3 hb i (by omega) hi2
            exact ⟨⟨a1, a2, (hset _ a3).2⟩, a4⟩
    · have hin : (decide ((0 : Int) ≤ rd F (n : Int)) && decide (rd F (n : Int) ≤ wrap64 ((F.length : Int) - 1))) = false := by
        rw [hw]
        cases h : (decide ((0 : Int) ≤ rd F (n : Int)) && decide (rd F (n : Int) ≤ (F.length : Int) - 1)) with
        | false => rfl
        | true =>
          simp only [Bool.and_eq_true, decide_eq_true_eq] at h
          exact absurd h hr
      refine ⟨false, ?_, ?_, fun h => by cases h⟩
      · refine Ev.step (f := fun _ => _) (fun k => by simp only [impl_IsPermutation.l0]; rfl) ?_
        exact ev_pos (by omega) (ev_pos (by omega) (ev_some ((within_valC _ _ _).trans (congrArg some hin)) (ev_neg (by simp) (ev_const rfl))))
      · refine Ev.step (f := fun _ => _) (fun k => by simp only [spec_IsPermutation.l0]; rfl) ?_
        exact ev_pos (by omega) (ev_pos (by omega) (ev_some ((in_valC _ _ _).trans (congrArg some hin)) (ev_neg (by simp) (ev_const rfl))))
theorem perm_both (F : List Int) (hF : F.length ≤ 64) : ∃ b, Ev (fun k => impl_IsPermutation.f k F) b ∧ Ev (fun k => spec_IsPermutation.f k F) b ∧ (b = true → PermB F) := by
  obtain ⟨b, h1, h2, h3⟩ := perm_loop F hF F.length 0 (List.replicate 64 false) (List.replicate F.length false) (by omega) (by simp) (by simp) (fun q hq => by
    rw [List.getD_eq_getElem?_getD, List.getD_eq_getElem?_getD, List.getElem?_replicate, List.getElem?_replicate, if_pos (by omega), if_pos hq])
  refine ⟨b, ev_neg (by omega) h1, ev_pos (by omega) (ev_pos (by simp only [Int.toNat_natCast]; omega) (by rw [Int.toNat_natCast]; exact h2)), fun hb i hi => ⟨⟨(h3 hb i (by omega) hi).1.1, (h3 hb i (by omega) hi).1.2.1⟩, fun j hj hij hc => ?_⟩⟩
  rcases Nat.lt_or_gt_of_ne hij with h | h
  · exact (h3 hb i (by omega) hi).2 j h hj hc
  · exact (h3 hb j (by omega) hj).2 i h hi hc.symm
theorem net_both (l : List S57) (hm : l.length ≤ maxLen) : ∃ b, Ev (fun k => impl_IsNet.f k l) b ∧ Ev (fun k => spec_IsNet.f k l) b ∧ (b = true → Shape l ∧ l.length = 6 ∧ ∃ F, F.length = l.length ∧ Ev (fun k => impl_faces.f k l) F ∧ Ev (fun k => spec_l32Faces.f k l) F ∧ PermB F) := by
  have jT : Ev (fun k => impl_IsNet.j0 k l true) false := by
    refine Ev.step (f := fun _ => _) (fun k => by simp only [impl_IsNet.j0]; rfl) ?_
    first | exact ev_const rfl | exact ev_pos trivial (ev_const rfl) | exact ev_pos rfl (ev_const rfl)
  obtain ⟨c, c1, c2, c3⟩ := connected_both l hm
  cases c with
  | false =>
    refine ⟨false, Ev.bind c1 (ev_neg (by simp) jT), Ev.bind c2 ?_, fun h => by cases h⟩
    exact ev_neg (by simp) (ev_const rfl)
  | true =>
    have hs := c3 rfl
    by_cases h6 : (l.length : Int) = 6
    · obtain ⟨F, f1, f2, f3⟩ := faces_both l hs
      obtain ⟨b, b1, b2, b3⟩ := perm_both F (by have := hs.le; omega)
      have jF : Ev (fun k => impl_IsNet.j0 k l false) b := by
        refine Ev.step (f := fun _ => _) (fun k => by simp only [impl_IsNet.j0]; rfl) ?_
        first | refine Ev.bind f2 (Ev.bind b1 ?_) | refine ev_neg (by simp) (Ev.bind f2 (Ev.bind b1 ?_))
        exact ev_const rfl
      refine ⟨b, Ev.bind c1 (ev_pos rfl ?_), Ev.bind c2 (ev_pos rfl (ev_pos h6 (Ev.bind f3 (Ev.bind b2 ?_)))), fun hb => ⟨hs, by omega, F, f1, f2, f3, b3 hb⟩⟩
      · rw [show ((l.length : Int) != 6) = false by simp [h6]]
        exact jF
      · exact ev_const rfl
    · refine ⟨false, Ev.bind c1 (ev_pos rfl ?_), Ev.bind c2 (ev_pos rfl ?_), fun h => by cases h⟩
      · rw [show ((l.length : Int) != 6) = true by simp [h6]]
        exact jT
      · exact ev_neg h6 (ev_const rfl)
/-! Marks: lists of numbers equal to themselves; a list that is numbered through, and what it holds then. -/
theorem eqInts_loop (xs : List Int) (hm : xs.length ≤ maxLen) (d : Nat) : ∀ (n : Nat), n + d = xs.length → Ev (fun k => laws_eqInt64S.l0 k xs xs n) true := by
  unfold maxLen at hm
  induction d with
  | zero =>
    intro n hd
    exact Ev.step (f := fun _ => _) (fun k => by simp only [laws_eqInt64S.l0]; rfl) (ev_neg (by omega) (ev_const rfl))
  | succ d ih =>
    intro n hd
    refine Ev.step (f := fun _ => _) (fun k => by simp only [laws_eqInt64S.l0]; rfl) (ev_pos (by omega) (ev_pos (by omega) (ev_pos (by omega) ?_)))
    refine ev_pos trivial ?_
    rw [wrap_succ n (by omega)]
    exact ih (n + 1) (by omega)
theorem eqInts_val (xs : List Int) (hm : xs.length ≤ maxLen) : Ev (fun k => laws_eqInt64S.f k xs xs) true := ev_pos rfl (eqInts_loop xs hm xs.length 0 (by omega))
theorem markCells_loop (d : Nat) : ∀ (n : Nat) (xs : List S57), n + d = xs.length → xs.length ≤ 8796093022208 → ∃ ys, Ev (fun k => laws_markCellS.l0 k xs (1 + 2 * (n : Int)) n) (1 + 2 * (xs.length : Int), ys) := by
  induction d with
  | zero =>
    intro n xs hd hm
    refine ⟨xs, Ev.step (f := fun _ => _) (fun k => by simp only [laws_markCellS.l0]; rfl) (ev_neg (by omega) (ev_const ?_))⟩
    rw [show (n : Int) = (xs.length : Int) by omega]
  | succ d ih =>
    intro n xs hd hm
    have e1 : wrap64 (1 + 2 * (n : Int) + 1) = 2 + 2 * (n : Int) := by rw [wrap_id _ (by omega) (by omega)]; omega
    have e2 : wrap64 (2 + 2 * (n : Int) + 1) = 1 + 2 * ((n + 1 : Nat) : Int) := by rw [wrap_id _ (by omega) (by omega)]; omega
    obtain ⟨ys, hy⟩ := ih (n + 1) ((xs.set n (⟨1 + 2 * (n : Int), (rd_T57 xs n).f1⟩ : S57)).set n (⟨(rd_T57 (xs.set n (⟨1 + 2 * (n : Int), (rd_T57 xs n).f1⟩ : S57)) n).f0, 2 + 2 * (n : Int)⟩ : S57)) (by simp only [List.length_set]; omega) (by simp only [List.length_set]; exact hm)
    simp only [List.length_set] at hy
    refine ⟨ys, Ev.step (f := fun _ => _) (fun k => by simp only [laws_markCellS.l0]; rfl) (ev_pos (by omega) (ev_pos (by omega) (ev_some rfl ?_)))⟩
    rw [e1, e2, wrap_succ n (by omega), Int.toNat_natCast]
    exact hy
theorem markCells_val (xs : List S57) (hm : xs.length ≤ 8796093022208) : ∃ ys, Ev (fun k => laws_markCellS.f k xs 1) (1 + 2 * (xs.length : Int), ys) := markCells_loop xs.length 0 xs (by omega) hm
theorem markInts_loop (d : Nat) : ∀ (n : Nat) (xs : List Int), n + d = xs.length → xs.length ≤ 1000000 → (∀ i : Nat, i < n → xs.getD i 0 = (i : Int) + 1) → ∃ ys, ys.length = xs.length ∧ (∀ i : Nat, i < ys.length → ys.getD i 0 = (i : Int) + 1) ∧ Ev (fun k => laws_markInt64S.l0 k xs ((n : Int) + 1) n) ((xs.length : Int) + 1, ys) := by
  induction d with
  | zero =>
    intro n xs hd hm hx
    refine ⟨xs, rfl, fun i hi => hx i (by omega), Ev.step (f := fun _ => _) (fun k => by simp only [laws_markInt64S.l0]; rfl) (ev_neg (by omega) (ev_const ?_))⟩
    rw [show (n : Int) = (xs.length : Int) by omega]
  | succ d ih =>
    intro n xs hd hm hx
    obtain ⟨ys, h1, h2, hy⟩ := ih (n + 1) (xs.set n ((n : Int) + 1)) (by simp only [List.length_set]; omega) (by simp only [List.length_set]; exact hm) (fun i hi => by
      rw [List.getD_eq_getElem?_getD, List.getElem?_set]
      by_cases e : n = i
      · subst e; rw [if_pos rfl, if_pos (by omega)]; rfl
      · rw [if_neg e, ← List.getD_eq_getElem?_getD]; exact hx i (by omega))
    simp only [List.length_set] at hy h1
    refine ⟨ys, h1, h2, Ev.step (f := fun _ => _) (fun k => by simp only [laws_markInt64S.l0]; rfl) (ev_pos (by omega) (ev_pos (by omega) ?_))⟩
    rw [wrap_succ n (by omega), Int.toNat_natCast, wrap_id _ (by omega) (by omega)]
    exact hy
theorem markInts_val (xs : List Int) (hm : xs.length ≤ 1000000) : ∃ ys, ys.length = xs.length ∧ (∀ i : Nat, i < ys.length → ys.getD i 0 = (i : Int) + 1) ∧ Ev (fun k => laws_markInt64S.f k xs 1) ((xs.length : Int) + 1, ys) := markInts_loop xs.length 0 xs (by omega) hm (fun i hi => by omega)
theorem heldInts_loop (xs : List Int) (hm : xs.length ≤ 1000000) (hx : ∀ i : Nat, i < xs.length → xs.getD i 0 = (i : Int) + 1) (d : Nat) : ∀ (n : Nat), n + d = xs.length → Ev (fun k => laws_heldInt64S.l0 k xs ((n : Int) + 1) n) ((xs.length : Int) + 1) := by
  induction d with
  | zero =>
    intro n hd
    exact Ev.step (f := fun _ => _) (fun k => by simp only [laws_heldInt64S.l0]; rfl) (ev_neg (by omega) (ev_const (by rw [show (n : Int) = (xs.length : Int) by omega])))
  | succ d ih =>
    intro n hd
    refine Ev.step (f := fun _ => _) (fun k => by simp only [laws_heldInt64S.l0]; rfl) (ev_pos (by omega) (ev_pos (by omega) (ev_pos (hx n (by omega)) ?_)))
    rw [wrap_succ n (by omega), wrap_id _ (by omega) (by omega)]
    exact ih (n + 1) (by omega)
theorem heldInts_val (xs : List Int) (hm : xs.length ≤ 1000000) (hx : ∀ i : Nat, i < xs.length → xs.getD i 0 = (i : Int) + 1) : Ev (fun k => laws_heldInt64S.f k xs 1) ((xs.length : Int) + 1) := heldInts_loop xs hm hx xs.length 0 (by omega)
theorem law_of (l : List S59) (hm : l.length ≤ maxLen) (hy : l.length * 16 ≤ 140737488351232) (p : List Int × Int) (hp : p.1.length ≤ 1000000) (b1 : Ev (fun k => impl_OppositeCells.f k (l.map convC)) p) (b2 : Ev (fun k => spec_OppositeCells.f k (l.map convC)) p) : ∃ k, laws_FnExactOppositeCells.f k l = some true := by
  have hl : (l.map convC).length ≤ maxLen := by simpa using hm
  refine Ev.rounds (g := fun k => laws_FnExactOppositeCells.f k l) ?_
  obtain ⟨t, ht⟩ := szCells_val l 1048576
  obtain ⟨cs, hc⟩ := markCells_val (l.map convC) (by simp only [List.length_map]; omega)
  obtain ⟨ys, y1, y2, y3⟩ := markInts_val p.1 hp
  have hv := heldInts_val ys (by omega) y2
  have ne : (p.2 != p.2) = false := by simp
  have J2 : Ev (fun k => laws_FnExactOppositeCells.j2 k ys ((p.1.length : Int) + 1) false) true := by
    refine Ev.step (f := fun _ => _) (fun k => by simp only [laws_FnExactOppositeCells.j2]; rfl) ?_
    exact ev_neg (by simp) (Ev.bind hv (ev_neg (by omega) (ev_pos (by omega) (ev_const rfl))))
  have J1 : Ev (fun k => laws_FnExactOppositeCells.j1 k l p.1 p.2 p.1 false) true := by
    refine Ev.step (f := fun _ => _) (fun k => by simp only [laws_FnExactOppositeCells.j1]; rfl) ?_
    refine ev_neg (by simp) (Ev.bind y3 (Ev.bind hv (ev_neg (by omega) (ev_pos (by omega) (Ev.bind (toCells_val l hm hy) (Ev.bind b1 (Ev.bind (eqInts_val p.1 (by unfold maxLen; omega)) (ev_pos rfl ?_))))))))
    rw [ne]
    exact J2
  have J0 : Ev (fun k => laws_FnExactOppositeCells.j0 k l p.1 p.2 (l.map convC) p.1 p.2 false) true := by
    refine Ev.step (f := fun _ => _) (fun k => by simp only [laws_FnExactOppositeCells.j0]; rfl) ?_
    refine ev_neg (by simp) (Ev.bind (toCells_val l hm hy) (Ev.bind (eqCells_val _ hl) (ev_pos rfl (Ev.bind hc (ev_neg (by simp only []; omega) (Ev.bind (eqInts_val p.1 (by unfold maxLen; omega)) (ev_pos rfl ?_)))))))
    rw [ne]
    exact J1
  refine ev_some ht ?_
  by_cases h : t < 0
  · exact ev_pos h (ev_const rfl)
  · refine ev_neg h (Ev.bind (toCells_val l hm hy) (Ev.bind b2 (Ev.bind (toCells_val l hm hy) (Ev.bind b1 (Ev.bind (eqInts_val p.1 (by unfold maxLen; omega)) (ev_pos rfl ?_))))))
    rw [ne]
    exact J0
/-! A permutation of six numbers takes every value once. -/
theorem pig : ∀ (n : Nat) (xs : List Int), xs.Nodup → (∀ x ∈ xs, 0 ≤ x ∧ x < (n : Int)) → xs.length ≤ n
  | 0, xs, _, h => by
    cases xs with
    | nil => simp
    | cons x xs => have := h x (by simp); omega
  | n + 1, xs, hn, h => by
    have h1 := pig n (xs.erase (n : Int)) (hn.erase _) (fun x hx => by
      have h2 := (hn.mem_erase_iff).1 hx
      have h3 := h x h2.2
      have h4 := h2.1
      omega)
    rw [List.length_erase] at h1
    split at h1 <;> omega
theorem perm_hits (F : List Int) (hp : PermB F) (v : Int) (h0 : 0 ≤ v) (h1 : v < (F.length : Int)) : ∃ q : Nat, q < F.length ∧ F.getD q 0 = v := by
  have get : ∀ (i : Nat) (hi : i < F.length), F[i] = F.getD i 0 := fun i hi => by rw [List.getD_eq_getElem?_getD, List.getElem?_eq_getElem hi]; rfl
  by_cases hv : v ∈ F
  · obtain ⟨q, hq, e⟩ := List.getElem_of_mem hv
    exact ⟨q, hq, by rw [← get q hq]; exact e⟩
  · have hn : F.Nodup := by
      rw [List.nodup_iff_pairwise_ne, List.pairwise_iff_getElem]
      intro i j hi hj hij
      rw [get i hi, get j hj]
      exact (hp i hi).2 j hj (by omega)
    have h2 := pig F.length (v :: F) (List.nodup_cons.2 ⟨hv, hn⟩) (fun x hx => by
      rcases List.mem_cons.1 hx with rfl | hx
      · exact ⟨h0, h1⟩
      · obtain ⟨i, hi, rfl⟩ := List.getElem_of_mem hx
        rw [get i hi]
        exact (hp i hi).1)
    simp only [List.length_cons] at h2
    omega
theorem opp_index (F : List Int) (hF : F.length = 6) (v : Int) (q : Nat) (hq : q < 6) (hv : F.getD q 0 = v) (d : Nat) : ∀ n : Nat, n + d = q → (∀ i : Nat, n ≤ i → i < q → F.getD i 0 ≠ v) → Ev (fun k => slices_Index_int64_int64.l0 k F v (F.length : Int) n) (q : Int) := by
  induction d with
  | zero =>
    intro n hn _
    obtain rfl : n = q := by omega
    exact Ev.step (f := fun _ => _) (fun k => by simp only [slices_Index_int64_int64.l0]; rfl) (ev_pos (by omega) (ev_pos (by omega) (ev_pos (by omega) (ev_pos hv.symm (ev_const rfl)))))
  | succ d ih =>
    intro n hn hx
    refine Ev.step (f := fun _ => _) (fun k => by simp only [slices_Index_int64_int64.l0]; rfl) (ev_pos (by omega) (ev_pos (by omega) (ev_pos (by omega) ?_)))
    refine ev_neg (fun e => hx n (by omega) (by omega) (Eq.symm e)) ?_
    rw [wrap_succ n (by omega)]
    exact ih (n + 1) (by omega) (fun i h1 h2 => hx i (by omega) h2)
theorem opp_in (F : List Int) (hF : F.length = 6) (i q : Nat) (hi : i < 6) (hq : q < 6) (hv : ∀ n : Nat, n < 6 → (F.getD n 0 = wrap64 (5 - F.getD i 0) ↔ n = q)) (out : List Int) (ho : out.length ≤ 6) (r : List Int × Int) (h : Ev (fun k => spec_OppositeCells.l0 k F (out ++ [(q : Int)]) ((i : Int) + 1)) r) (d : Nat) :
    ∀ (n : Nat), n + d = 6 → (n ≤ q → Ev (fun k => spec_OppositeCells.l1 k F out i n) r) ∧ (q < n → Ev (fun k => spec_OppositeCells.l1 k F (out ++ [(q : Int)]) i n) r) := by
  have hw : wrap64 ((i : Int) + 1) = (i : Int) + 1 := wrap_id _ (by omega) (by omega)
  induction d with
  | zero =>
    intro n hn
    refine ⟨fun _ => by omega, fun _ => Ev.step (f := fun _ => _) (fun k => by simp only [spec_OppositeCells.l1]; rfl) (ev_neg (by omega) ?_)⟩
    rw [hw]
    exact h
  | succ d ih =>
    intro n hn
    obtain ⟨g1, g2⟩ := ih (n + 1) (by omega)
    refine ⟨fun hq1 => ?_, fun hq1 => ?_⟩
    · refine Ev.step (f := fun _ => _) (fun k => by simp only [spec_OppositeCells.l1]; rfl) (ev_pos (by omega) (ev_pos (by omega) (ev_pos (by omega) (ev_pos (by omega) (ev_pos (by omega) ?_)))))
      by_cases e : n = q
      · subst e
        refine ev_pos ((hv n hq).2 rfl) (ev_pos (by omega) ?_)
        rw [wrap_succ n (by omega)]
        exact g2 (by omega)
      · refine ev_neg (fun x => e ((hv n (by omega)).1 x)) ?_
        rw [wrap_succ n (by omega)]
        exact g1 (by omega)
    · refine Ev.step (f := fun _ => _) (fun k => by simp only [spec_OppositeCells.l1]; rfl) (ev_pos (by omega) (ev_pos (by omega) (ev_pos (by omega) (ev_pos (by omega) (ev_pos (by omega) ?_)))))
      refine ev_neg (fun x => absurd ((hv n (by omega)).1 x) (by omega)) ?_
      rw [wrap_succ n (by omega)]
      exact g2 (by omega)
theorem opp_out (F : List Int) (hF : F.length = 6) (hp : PermB F) (d : Nat) : ∀ (i : Nat) (out : List Int), i + d = 6 → out.length = i → ∃ r : List Int × Int, r.1.length ≤ 6 ∧ Ev (fun k => impl_OppositeCells.l0 k F out F (F.length : Int) i) r ∧ Ev (fun k => spec_OppositeCells.l0 k F out i) r := by
  induction d with
  | zero =>
    intro i out hi ho
    exact ⟨(out, 0), by simp only []; omega, Ev.step (f := fun _ => _) (fun k => by simp only [impl_OppositeCells.l0]; rfl) (ev_neg (by omega) (ev_const rfl)), Ev.step (f := fun _ => _) (fun k => by simp only [spec_OppositeCells.l0]; rfl) (ev_neg (by omega) (ev_const rfl))⟩
  | succ d ih =>
    intro i out hi ho
    have hb := (hp i (by omega)).1
    have hw : wrap64 (5 - F.getD i 0) = 5 - F.getD i 0 := wrap_id _ (by omega) (by omega)
    obtain ⟨q, q1, q2⟩ := perm_hits F hp (5 - F.getD i 0) (by omega) (by omega)
    obtain ⟨r, r1, r2, r3⟩ := ih (i + 1) (out ++ [(q : Int)]) (by omega) (by simp [ho])
    refine ⟨r, r1, ?_, ?_⟩
    · refine Ev.step (f := fun _ => _) (fun k => by simp only [impl_OppositeCells.l0]; rfl) (ev_pos (by omega) (ev_pos (by omega) (ev_pos (by omega) ?_)))
      rw [show rd F (i : Int) = F.getD i 0 from rfl, hw]
      refine Ev.bind (opp_index F hF _ q (by omega) q2 q 0 (by omega) (fun j _ hj he => (hp j (by omega)).2 q q1 (by omega) (he.trans q2.symm))) (ev_pos (by omega) ?_)
      rw [wrap_succ i (by omega)]
      exact r2
    · refine Ev.step (f := fun _ => _) (fun k => by simp only [spec_OppositeCells.l0]; rfl) (ev_pos (by omega) ?_)
      refine (opp_in F hF i q (by omega) (by omega) (fun n hn => ⟨fun e => ?_, fun e => ?_⟩) out (by omega) r (by rw [show (i : Int) + 1 = ((i + 1 : Nat) : Int) by omega]; exact r3) 6 0 (by omega)).1 (by omega)
      · by_cases he : n = q
        · exact he
        · exact absurd ((e.trans hw).trans q2.symm) ((hp n (by omega)).2 q q1 he)
      · subst e
        rw [hw]
        exact q2
theorem FnExactOppositeCells (l : List S59) (hm : l.length ≤ maxLen) (hy : l.length * 16 ≤ 140737488351232) (_ : ∀ x ∈ l, (Lit.int .i64 x.f0).wf = true ∧ (Lit.int .i64 x.f1).wf = true) :
    ∃ k, laws_FnExactOppositeCells.f k l = some true := by
  have hl : (l.map convC).length ≤ maxLen := by simpa using hm
  obtain ⟨c, c1, c2, c3⟩ := net_both (l.map convC) hl
  cases c with
  | false => exact law_of l hm hy ([], 1) (by simp) (Ev.bind c1 (ev_neg (by simp) (ev_const rfl))) (Ev.bind c2 (ev_neg (by simp) (ev_const rfl)))
  | true =>
    obtain ⟨_, h6, F, f1, f2, f3, f4⟩ := c3 rfl
    obtain ⟨r, r1, r2, r3⟩ := opp_out F (by omega) f4 6 0 [] (by omega) rfl
    exact law_of l hm hy r (by omega) (Ev.bind c1 (ev_pos rfl (Ev.bind f2 r2))) (Ev.bind c2 (ev_pos rfl (Ev.bind f3 r3)))
end Go.Proofs.YtfpofjckpbmcjaaDoor.Pure
