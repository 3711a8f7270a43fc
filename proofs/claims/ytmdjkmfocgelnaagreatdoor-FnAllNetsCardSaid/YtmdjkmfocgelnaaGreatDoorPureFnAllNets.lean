/- What is proved: for every code the law FnAllNets answers true. No condition beyond the kinds of the numbers and the reach. -/
import Derived.Test.YtmdjkmfocgelnaaGreatDoorPFnAllNetsx0
import Derived.Test.YtmdjkmfocgelnaaGreatDoorPFnAllNetsx1
import Derived.Test.YtmdjkmfocgelnaaGreatDoorPFnAllNetsx2
import Derived.Test.YtmdjkmfocgelnaaGreatDoorPFnAllNetsx3
import Derived.Test.YtmdjkmfocgelnaaGreatDoorPFnAllNetsx4
import Derived.Test.YtmdjkmfocgelnaaGreatDoorPFnAllNetsx5
import Derived.Test.YtmdjkmfocgelnaaGreatDoorPFnAllNetsx6
import Derived.Test.YtmdjkmfocgelnaaGreatDoorPFnAllNetsx7
import Derived.Test.YtmdjkmfocgelnaaGreatDoorPFnAllNetsx8
import Derived.Test.YtmdjkmfocgelnaaGreatDoorPFnAllNetsx9
import Derived.Test.YtmdjkmfocgelnaaGreatDoorPFnAllNetsx10
import Derived.Test.YtmdjkmfocgelnaaGreatDoorPFnAllNetsx11
import Derived.Test.YtmdjkmfocgelnaaGreatDoorPFnAllNetsx12
import Derived.Test.YtmdjkmfocgelnaaGreatDoorPFnAllNetsx13
import Derived.Test.YtmdjkmfocgelnaaGreatDoorPFnAllNetsx14
import Derived.Test.YtmdjkmfocgelnaaGreatDoorPFnAllNetsx15
import Derived.Test.YtmdjkmfocgelnaaGreatDoorPFnAllNetsx16
import Derived.Test.YtmdjkmfocgelnaaGreatDoorPFnAllNetsx17
import Derived.Test.YtmdjkmfocgelnaaGreatDoorPFnAllNetsx18
import Derived.Test.YtmdjkmfocgelnaaGreatDoorPFnAllNetsx19
import Derived.Test.YtmdjkmfocgelnaaGreatDoorPFnAllNetsx20
import Derived.Test.YtmdjkmfocgelnaaGreatDoorPFnAllNetsx21
import Derived.Test.YtmdjkmfocgelnaaGreatDoorPFnAllNetsx22
import Derived.Test.YtmdjkmfocgelnaaGreatDoorPFnAllNetsx23
import Derived.Test.YtmdjkmfocgelnaaGreatDoorKit
set_option linter.unusedVariables false
set_option linter.unusedSimpArgs false
namespace Go.Proofs.YtmdjkmfocgelnaaGreatDoor.Pure
open Go.RowKit Go.Proofs.YtmdjkmfocgelnaaGreatDoor.PFnAllNets Go.Proofs.YtmdjkmfocgelnaaGreatDoorW.PrintWords Go.Proofs.YtmdjkmfocgelnaaGreatDoorW.PrintLast Go.Proofs.YtmdjkmfocgelnaaGreatDoor.Kit
abbrev cellAt (l : List S56) (i : Nat) : S56 := l.getD i z56
def inR (n : Int) : Bool := decide (-100 ≤ n) && decide (n ≤ 100)
def lessB (a b : S56) : Bool := decide (a.f1 < b.f1) || (decide (a.f1 = b.f1) && decide (a.f0 < b.f0))
def okAtB (l : List S56) (i : Nat) : Bool := (inR (cellAt l i).f0 && inR (cellAt l i).f1) && (decide (i = 0) || lessB (cellAt l (i - 1)) (cellAt l i))
def shapeFrom (l : List S56) : Nat → Nat → Bool
 | 0, _ => decide (1 ≤ l.length) && decide (l.length ≤ 40)
 | d + 1, i => okAtB l i && shapeFrom l d (i + 1)
def isShapeB (l : List S56) : Bool := shapeFrom l l.length 0
theorem in_valC (a : Int) (lo hi : Int) : spec_l01In.f a lo hi = some (decide (lo ≤ a) && decide (a ≤ hi)) := by
 unfold spec_l01In.f
 by_cases h : a ≥ lo
 ·rw [if_pos h, decide_eq_true (show lo ≤ a from h), Bool.true_and]
 ·rw [if_neg h, decide_eq_false (show ¬ lo ≤ a from h), Bool.false_and]
theorem within_valC (a : Int) (lo hi : Int) : impl_within.f a lo hi = some (decide (lo ≤ a) && decide (a ≤ hi)) := by
 unfold impl_within.f
 by_cases h : a ≥ lo
 ·rw [if_pos h, decide_eq_true (show lo ≤ a from h), Bool.true_and]
 ·rw [if_neg h, decide_eq_false (show ¬ lo ≤ a from h), Bool.false_and]
theorem cell_val (a b : Int) : spec_l02Cell.f a b = some (inR a && inR b) := by
 unfold spec_l02Cell.f
 rw [in_valC, in_valC]
 show (if inR a = true then some (inR b) else some false) = _
 cases inR a <;> rfl
theorem coord_val (a : Int) : impl_isCoordinate.f a = some (inR a) := by
 unfold impl_isCoordinate.f
 rw [within_valC]
 rfl
theorem less_val (a b c d : Int) : spec_l02Less.f a b c d = some (lessB ⟨a, b⟩ ⟨c, d⟩) := by
 unfold spec_l02Less.f lessB
 by_cases h : b < d
 ·simp [h]
 ·by_cases e : b = d
  ·simp [e]
  ·simp [h, e]
def cmp3 (a b : Int) : Int := if a < b then -1 else if a > b then 1 else 0
theorem cmp_val (a b : Int) : cmp_Compare_int64.f a b = some (cmp3 a b) := by
 have h : ∀ x : Int, cmp_isNaN_int64.f x = some false := fun x => by simp [cmp_isNaN_int64.f]
 unfold cmp_Compare_int64.f cmp3
 rw [h, h]
 simp only [Option.bind_some, Bool.false_eq_true, if_false]
 split
 ·rfl
 ·split <;> rfl
def cmpC (p q : S56) : Int := if cmp3 p.f1 q.f1 = 0 then cmp3 p.f0 q.f0 else cmp3 p.f1 q.f1
theorem compare_val (a b c d : Int) : impl_compareCells.f a b c d = some (cmpC ⟨a, b⟩ ⟨c, d⟩) := by
 unfold impl_compareCells.f cmpC
 rw [cmp_val, cmp_val]
 simp only [Option.bind_some]
 split <;> rfl
theorem cmpC_less (p q : S56) : (cmpC p q ≥ 0) ↔ lessB p q = false := by
 unfold cmpC cmp3 lessB
 simp only [Bool.or_eq_false_iff, Bool.and_eq_false_iff, decide_eq_false_iff_not]
 split <;> split <;> (try split) <;> (try split) <;> omega
theorem spec_shape_loop (l : List S56) (hm : l.length ≤ maxLen) (d : Nat) : ∀ n : Nat, n + d = l.length → Ev (fun k => spec_IsShape.l0 k l n) (shapeFrom l d n) := by
 unfold maxLen at hm
 induction d with
 | zero =>
  intro n hd
  refine Ev.step (f := fun _ => _) (fun k => by simp only [spec_IsShape.l0]; rfl) (ev_neg (by omega) (ev_some (in_valC _ _ _) (ev_const ?_)))
  rw [shapeFrom]
  congr 2 <;> exact decide_eq_decide.2 (by omega)
 | succ d ih =>
  intro n hd
  refine Ev.step (f := fun _ => _) (fun k => by simp only [spec_IsShape.l0]; rfl) (ev_pos (by omega) (ev_pos (by omega) (ev_some (cell_val _ _) ?_)))
  rw [show rd_T56 l (n : Int) = cellAt l n from rfl, shapeFrom, okAtB]
  cases h1 : (inR (cellAt l n).f0 && inR (cellAt l n).f1) with
  | false => exact ev_neg (by simp) (ev_const rfl)
  | true =>
   refine ev_pos rfl ?_
   by_cases h0 : n = 0
   ·subst h0
    refine ev_neg (by omega) ?_
    rw [wrap_succ 0 (by omega)]
    simpa using ih 1 (by omega)
   ·have hw : wrap64 ((n : Int) - 1) = ((n - 1 : Nat) : Int) := by rw [wrap_id _ (by omega) (by omega)]; omega
    rw [hw]
    refine ev_pos (by omega) (ev_pos (by omega) (ev_pos (by omega) (ev_some (less_val _ _ _ _) ?_)))
    rw [decide_eq_false h0, Bool.false_or, Bool.true_and, show rd_T56 l ((n - 1 : Nat) : Int) = cellAt l (n - 1) from rfl]
    cases h2 : lessB (cellAt l (n - 1)) (cellAt l n) with
    | false => exact ev_neg (by simp) (ev_const rfl)
    | true =>
     refine ev_pos rfl ?_
     rw [wrap_succ n (by omega), Bool.true_and]
     exact ih (n + 1) (by omega)
theorem spec_shape_val (l : List S56) (hm : l.length ≤ maxLen) : Ev (fun k => spec_IsShape.f k l) (isShapeB l) := spec_shape_loop l hm l.length 0 (by omega)
theorem impl_shape_loop (l : List S56) (hm : l.length ≤ maxLen) (d : Nat) : ∀ n : Nat, n + d = l.length → Ev (fun k => impl_IsShape.l0 k l l (l.length : Int) n) (shapeFrom l d n) := by
 unfold maxLen at hm
 induction d with
 | zero =>
  intro n hd
  refine Ev.step (f := fun _ => _) (fun k => by simp only [impl_IsShape.l0]; rfl) (ev_neg (by omega) ?_)
  rw [shapeFrom]
  by_cases h : (l.length : Int) ≥ 1
  ·refine ev_pos h (ev_const ?_)
   rw [decide_eq_true (show 1 ≤ l.length by omega), Bool.true_and]
   congr 1
   exact decide_eq_decide.2 (by omega)
  ·refine ev_neg h (ev_const ?_)
   rw [decide_eq_false (show ¬ 1 ≤ l.length by omega), Bool.false_and]
 | succ d ih =>
  intro n hd
  refine Ev.step (f := fun _ => _) (fun k => by simp only [impl_IsShape.l0]; rfl) (ev_pos (by omega) (ev_pos (by omega) (ev_pos (by omega) (ev_some (coord_val _) ?_))))
  rw [show rd_T56 l (n : Int) = cellAt l n from rfl, shapeFrom, okAtB]
  cases h1 : inR (cellAt l n).f0 with
  | false => exact ev_neg (by simp) (ev_const (by simp))
  | true =>
   refine ev_pos rfl (ev_some (coord_val _) ?_)
   cases h1' : inR (cellAt l n).f1 with
   | false => exact ev_neg (by simp) (ev_const (by simp))
   | true =>
    refine ev_pos rfl ?_
    by_cases h0 : n = 0
    ·subst h0
     refine ev_neg (by omega) ?_
     rw [wrap_succ 0 (by omega)]
     simpa using ih 1 (by omega)
    ·have hw : wrap64 ((n : Int) - 1) = ((n - 1 : Nat) : Int) := by rw [wrap_id _ (by omega) (by omega)]; omega
     rw [hw]
     refine ev_pos (by omega) (ev_pos (by omega) (ev_pos (by omega) (ev_some (compare_val _ _ _ _) ?_)))
     rw [decide_eq_false h0, Bool.false_or, Bool.true_and, show rd_T56 l ((n - 1 : Nat) : Int) = cellAt l (n - 1) from rfl]
     cases h2 : lessB (cellAt l (n - 1)) (cellAt l n) with
     | false => exact ev_pos ((cmpC_less _ _).2 h2) (ev_const rfl)
     | true =>
      refine ev_neg (fun h => by have := (cmpC_less _ _).1 h; rw [h2] at this; cases this) ?_
      rw [wrap_succ n (by omega), Bool.true_and]
      exact ih (n + 1) (by omega)
theorem impl_shape_val (l : List S56) (hm : l.length ≤ maxLen) : Ev (fun k => impl_IsShape.f k l) (isShapeB l) := impl_shape_loop l hm l.length 0 (by omega)
theorem less_iff (a b : S56) : lessB a b = true ↔ a.f1 < b.f1 ∨ (a.f1 = b.f1 ∧ a.f0 < b.f0) := by
 unfold lessB
 simp only [Bool.or_eq_true, Bool.and_eq_true, decide_eq_true_eq]
theorem shapeFrom_true (l : List S56) : ∀ d n : Nat, shapeFrom l d n = true → (∀ i, n ≤ i → i < n + d → okAtB l i = true) ∧ 1 ≤ l.length ∧ l.length ≤ 40
 | 0, n, h => by
  simp only [shapeFrom, Bool.and_eq_true, decide_eq_true_eq] at h
  exact ⟨fun i h1 h2 => by omega, h.1, h.2⟩
 | d + 1, n, h => by
  simp only [shapeFrom, Bool.and_eq_true] at h
  obtain ⟨h1, h2⟩ := shapeFrom_true l d (n + 1) h.2
  refine ⟨fun i h3 h4 => ?_, h2⟩
  by_cases e : i = n
  ·subst e; exact h.1
  ·exact h1 i (by omega) (by omega)
structure Shape (l : List S56) : Prop where
 pos : 1 ≤ l.length
 le : l.length ≤ 40
 near : ∀ i, i < l.length → (-100 ≤ (cellAt l i).f0 ∧ (cellAt l i).f0 ≤ 100) ∧ (-100 ≤ (cellAt l i).f1 ∧ (cellAt l i).f1 ≤ 100)
 apart : ∀ i j, i < l.length → j < l.length → cellKey (cellAt l i) = cellKey (cellAt l j) → i = j
theorem shape_of (l : List S56) (h : isShapeB l = true) : Shape l := by
 obtain ⟨h1, h2, h3⟩ := shapeFrom_true l _ _ h
 have hok : ∀ i, i < l.length → okAtB l i = true := fun i hi => h1 i (by omega) (by omega)
 have hless : ∀ j i, i < j → j < l.length → lessB (cellAt l i) (cellAt l j) = true := by
  intro j
  induction j with
  | zero => intro i hi; omega
  | succ j ih =>
   intro i hi hj
   have h4 := hok (j + 1) hj
   simp only [okAtB, Bool.and_eq_true, Bool.or_eq_true, decide_eq_true_eq, Nat.add_sub_cancel] at h4
   have h5 : lessB (cellAt l j) (cellAt l (j + 1)) = true := by
    rcases h4.2 with h6 | h6
    ·omega
    ·exact h6
   by_cases e : i = j
   ·subst e; exact h5
   ·have h6 := ih i (by omega) (by omega)
    rw [less_iff] at *
    omega
 refine ⟨h2, h3, fun i hi => ?_, fun i j hi hj he => ?_⟩
 ·have h4 := hok i hi
  simp only [okAtB, inR, Bool.and_eq_true, decide_eq_true_eq] at h4
  exact ⟨⟨h4.1.1.1, h4.1.1.2⟩, h4.1.2.1, h4.1.2.2⟩
 ·simp only [cellKey, Prod.mk.injEq] at he
  rcases Nat.lt_trichotomy i j with h4 | h4 | h4
  ·have := (less_iff _ _).1 (hless j i h4 hj)
   omega
  ·exact h4
  ·have := (less_iff _ _).1 (hless i j h4 hi)
   omega
theorem atCell_none (l : List S56) (p : Int × Int) : ∀ n : Nat, (∀ i, i < n → cellKey (cellAt l i) ≠ p) → atCell l n p = none
 | 0, _ => rfl
 | n + 1, h => by
  rw [atCell, if_neg (fun e => h n (by omega) e.symm)]
  exact atCell_none l p n (fun i hi => h i (by omega))
theorem atCell_inv (l : List S56) (p : Int × Int) (q : Int) : ∀ n : Nat, atCell l n p = some q → ∃ i : Nat, i < n ∧ q = (i : Int) ∧ cellKey (cellAt l i) = p
 | 0, h => by simp [atCell] at h
 | n + 1, h => by
  rw [atCell] at h
  by_cases e : p = cellKey (rd_T56 l (n : Int))
  ·rw [if_pos e] at h
   exact ⟨n, by omega, (Option.some.inj h).symm, e.symm⟩
  ·rw [if_neg e] at h
   obtain ⟨i, h1, h2, h3⟩ := atCell_inv l p q n h
   exact ⟨i, by omega, h2, h3⟩
theorem atCell_some (l : List S56) (hs : Shape l) (i : Nat) (hi : i < l.length) : atCell l l.length (cellKey (cellAt l i)) = some (i : Int) := by
 cases h : atCell l l.length (cellKey (cellAt l i)) with
 | some q =>
  obtain ⟨j, h1, h2, h3⟩ := atCell_inv l _ q _ h
  rw [hs.apart j i h1 hi h3] at h2
  rw [h2]
 | none =>
  have : ∀ n : Nat, i < n → atCell l n (cellKey (cellAt l i)) ≠ none := by
   intro n
   induction n with
   | zero => intro h0; omega
   | succ n ih =>
    intro h0
    rw [atCell]
    by_cases e : cellKey (cellAt l i) = cellKey (rd_T56 l (n : Int))
    ·rw [if_pos e]; simp
    ·rw [if_neg e]
     exact ih (by
      have : i ≠ n := fun e2 => e (by rw [e2]; rfl)
      omega)
  exact absurd h (this _ hi)
def idxI (l : List S56) (p : Int × Int) : Int := match atCell l l.length p with | some q => q | none => -1
theorem index_loop (l : List S56) (hs : Shape l) (a b : Int) (d : Nat) : ∀ n : Nat, n + d = l.length → (∀ i, i < n → cellKey (cellAt l i) ≠ (a, b)) → Ev (fun k => spec_l02Index.l0 k l n a b) (idxI l (a, b)) := by
 have := hs.le
 induction d with
 | zero =>
  intro n hd hn
  refine Ev.step (f := fun _ => _) (fun k => by simp only [spec_l02Index.l0]; rfl) (ev_neg (by omega) (ev_const ?_))
  unfold idxI
  rw [atCell_none l (a, b) l.length (fun i hi => hn i (by omega))]
 | succ d ih =>
  intro n hd hn
  refine Ev.step (f := fun _ => _) (fun k => by simp only [spec_l02Index.l0]; rfl) (ev_pos (by omega) (ev_pos (by omega) ?_))
  rw [show rd_T56 l (n : Int) = cellAt l n from rfl]
  by_cases e : ((cellAt l n).f0 == a && (cellAt l n).f1 == b) = true
  ·refine ev_pos e (ev_const ?_)
   simp only [Bool.and_eq_true, beq_iff_eq] at e
   unfold idxI
   rw [show ((a, b) : Int × Int) = cellKey (cellAt l n) by unfold cellKey; rw [e.1, e.2], atCell_some l hs n (by omega)]
  ·refine ev_neg e ?_
   rw [wrap_succ n (by omega)]
   refine ih (n + 1) (by omega) (fun i hi => ?_)
   by_cases e2 : i = n
   ·subst e2
    intro h
    simp only [cellKey, Prod.mk.injEq] at h
    exact e (by rw [Bool.and_eq_true]; exact ⟨beq_iff_eq.2 h.1, beq_iff_eq.2 h.2⟩)
   ·exact hn i (by omega)
theorem index_val (l : List S56) (hs : Shape l) (a b : Int) : Ev (fun k => spec_l02Index.f k l a b) (idxI l (a, b)) := index_loop l hs a b l.length 0 (by omega) (fun i hi => by omega)
def negs (out : List Int) : Nat := out.countP (fun x => decide (x < 0))
theorem negs_set (out : List Int) (q : Nat) (v : Int) (hq : q < out.length) (h0 : out.getD q 0 < 0) (hv : 0 ≤ v) : negs (out.set q v) + 1 = negs out := by
 unfold negs
 rw [List.countP_set hq]
 have h1 : out[q] = out.getD q 0 := by rw [List.getD_eq_getElem?_getD, List.getElem?_eq_getElem hq]; rfl
 have h2 : decide (out[q] < 0) = true := by rw [h1]; exact decide_eq_true h0
 have h3 : decide (v < 0) = false := decide_eq_false (by omega)
 have h4 : 0 < out.countP (fun x => decide (x < 0)) := List.countP_pos_iff.2 ⟨out[q], List.getElem_mem hq, h2⟩
 simp only [h2, h3, if_true, Bool.false_eq_true, if_false]
 omega
theorem rd_get (out : List Int) (q : Nat) : rd out (q : Int) = out.getD q 0 := rfl
theorem getD_set (out : List Int) (q j : Nat) (v : Int) (hq : q < out.length) : (out.set q v).getD j 0 = if j = q then v else out.getD j 0 := by
 rw [List.getD_eq_getElem?_getD, List.getD_eq_getElem?_getD, List.getElem?_set]
 by_cases e : q = j
 ·subst e; simp [hq]
 ·rw [if_neg e, if_neg (Ne.symm e)]
structure Fine (l : List S56) (out list : List Int) : Prop where
 len : out.length = l.length
 mem : ∀ q, q ∈ list → 0 ≤ q ∧ q < (l.length : Int)
 few : list.length + 2 * negs out ≤ 100
theorem okc_wrap (x y : Int) (hx : -100 ≤ x ∧ x ≤ 100) (hy : -100 ≤ y ∧ y ≤ 100) : ∀ d ∈ [(⟨x, wrap64 (y - 1)⟩ : S56), ⟨wrap64 (x - 1), y⟩, ⟨wrap64 (x + 1), y⟩, ⟨x, wrap64 (y + 1)⟩], okc d := by
 intro d hd
 have w : ∀ n : Int, -9223372036854775808 ≤ wrap64 n ∧ wrap64 n ≤ 9223372036854775807 := fun n => by unfold wrap64; omega
 simp only [List.mem_cons, List.not_mem_nil, or_false] at hd
 rcases hd with rfl | rfl | rfl | rfl
 ·exact ⟨⟨by show _ ≤ x; omega, by show x ≤ _; omega⟩, w _⟩
 ·exact ⟨w _, ⟨by show _ ≤ y; omega, by show y ≤ _; omega⟩⟩
 ·exact ⟨w _, ⟨by show _ ≤ y; omega, by show y ≤ _; omega⟩⟩
 ·exact ⟨⟨by show _ ≤ x; omega, by show x ≤ _; omega⟩, w _⟩
theorem rd_cell (l : List S56) (n : Nat) : rd_T56 l (n : Int) = cellAt l n := rfl
def dsOf (c : S56) : List S56 := [(⟨c.f0, wrap64 (c.f1 - 1)⟩ : S56), ⟨wrap64 (c.f0 - 1), c.f1⟩, ⟨wrap64 (c.f0 + 1), c.f1⟩, ⟨c.f0, wrap64 (c.f1 + 1)⟩]
inductive PW (l : List S56) : List Int → List Int → Nat → Nat → Prop
 | start : PW l ((List.replicate l.length (-1)).set 0 0) [0] 0 0
 | pass (out list : List Int) (t j q0 : Nat) : PW l out list t j → j < 4 → t < list.length → list.getD t 0 = (q0 : Int) → q0 < l.length → (∀ p : Nat, p < l.length → cellKey (cellAt l p) = cellKey (cellAt (dsOf (cellAt l q0)) j) → 0 ≤ out.getD p 0) → PW l out list t (j + 1)
 | new (out list : List Int) (t j q0 p : Nat) : PW l out list t j → j < 4 → t < list.length → list.getD t 0 = (q0 : Int) → q0 < l.length → p < l.length → cellKey (cellAt l p) = cellKey (cellAt (dsOf (cellAt l q0)) j) → out.getD p 0 < 0 → PW l (out.set p 0) (list ++ [(p : Int)]) t (j + 1)
 | turn (out list : List Int) (t : Nat) : PW l out list t 4 → PW l out list (t + 1) 0
theorem parts3 (l : List S56) (hs : Shape l) (i t : Nat) (hi : i < l.length) (ds : List S56) (hds : ds.length = 4) (hok : ∀ d ∈ ds, okc d) (q0 : Nat) (hq0 : q0 < l.length) (hdq : ds = dsOf (cellAt l q0)) (d : Nat) : ∀ (j : Nat) (out list : List Int), j + d = 4 → t < list.length → list.getD t 0 = (q0 : Int) → (i = 0 → PW l out list t j) → Fine l out list →
  ∃ out' list', (i = 0 → PW l out' list' t 4) ∧ Fine l out' list' ∧ list.length ≤ list'.length ∧ list'.length + 2 * negs out' ≤ list.length + 2 * negs out ∧ ((∀ q : Nat, 0 ≤ out.getD q 0 → out'.getD q 0 = out.getD q 0) ∧ ∀ q : Nat, out.getD q 0 < 0 → out'.getD q 0 < 0 ∨ out'.getD q 0 = (i : Int)) ∧
   (∀ r, Ev (fun k => impl_parts.l2 k l out' i list' (t + 1 : Nat)) r → Ev (fun k => impl_parts.l3 k l out i list t ds j) r) ∧
   (∀ r, Ev (fun k => spec_l02Parts.l2 k l out' i (list'.drop (t + 1))) r → Ev (fun k => spec_l02Parts.l3 k l out i (list.drop (t + 1)) ds j) r) := by
 have hN := hs.le
 induction d with
 | zero =>
  intro j out list hj ht htq hW hF
  have := hF.few
  obtain rfl : j = 4 := by omega
  refine ⟨out, list, hW, hF, Nat.le_refl _, Nat.le_refl _, ⟨fun _ _ => rfl, fun _ h => .inl h⟩, fun r hr => ?_, fun r hr => ?_⟩
  ·refine Ev.step (f := fun _ => _) (fun k => by simp only [impl_parts.l3]; rfl) (ev_neg (by omega) ?_)
   rw [wrap_succ t (by omega)]
   exact hr
  ·exact Ev.step (f := fun _ => _) (fun k => by simp only [spec_l02Parts.l3]; rfl) (ev_neg (by omega) hr)
 | succ d ih =>
  intro j out list hj ht htq hW hF
  have hfew := hF.few
  have hmem : cellAt ds j ∈ ds := getD_mem ds z56 j (by omega)
  cases hq : atCell l l.length (cellKey (cellAt ds j)) with
  | none =>
   obtain ⟨out', list', h0, h1, h2, h3, h4, h5, h6⟩ := ih (j + 1) out list (by omega) ht htq (fun h => PW.pass out list t j q0 (hW h) (by omega) ht htq hq0 (fun p hp hk => by rw [← hdq] at hk; rw [← hk, atCell_some l hs p hp] at hq; cases hq)) hF
   refine ⟨out', list', h0, h1, h2, h3, h4, fun r hr => ?_, fun r hr => ?_⟩
   ·refine Ev.step (f := fun k => if (j : Int) < (ds.length : Int) then (if 0 ≤ (j : Int) ∧ okc (cellAt ds j) then impl_parts.l3 k l out i list t ds (wrap64 ((j : Int) + 1)) else none) else impl_parts.l2 k l out i list (wrap64 ((t : Int) + 1))) (fun k => by simp only [impl_parts.l3, rd_cell, hq]) (ev_pos (by omega) (ev_pos ⟨by omega, hok _ hmem⟩ ?_))
    rw [wrap_succ j (by omega)]
    exact h5 r hr
   ·refine Ev.step (f := fun _ => _) (fun k => by simp only [spec_l02Parts.l3]; rfl) (ev_pos (by omega) (ev_pos (by omega) (ev_pos (by omega) (Ev.bind (index_val l hs _ _) ?_))))
    have he : idxI l ((rd_T56 ds (j : Int)).f0, (rd_T56 ds (j : Int)).f1) = -1 := by
     unfold idxI
     rw [show ((rd_T56 ds (j : Int)).f0, (rd_T56 ds (j : Int)).f1) = cellKey (cellAt ds j) from rfl, hq]
    rw [he]
    refine ev_neg (by omega) ?_
    rw [wrap_succ j (by omega)]
    exact h6 r hr
  | some q =>
   obtain ⟨p, hp, rfl, hpk⟩ := atCell_inv l _ _ _ hq
   have he : idxI l ((rd_T56 ds (j : Int)).f0, (rd_T56 ds (j : Int)).f1) = (p : Int) := by
    unfold idxI
    rw [show ((rd_T56 ds (j : Int)).f0, (rd_T56 ds (j : Int)).f1) = cellKey (cellAt ds j) from rfl, hq]
   have hI : ∀ (r : List Int) (g : Nat → Option (List Int)), Ev g r → (∀ k, g k = (if rd out (p : Int) < 0 then (if list.length < 17592186044416 then impl_parts.l3 k l (out.set (p : Int).toNat i) i (list ++ [(p : Int)]) t ds (wrap64 ((j : Int) + 1)) else none) else impl_parts.l3 k l out i list t ds (wrap64 ((j : Int) + 1)))) → Ev (fun k => impl_parts.l3 k l out i list t ds j) r := by
    intro r g hg hgk
    refine Ev.step (f := fun k => if (j : Int) < (ds.length : Int) then (if 0 ≤ (j : Int) ∧ okc (cellAt ds j) then (if 0 ≤ (p : Int) ∧ (p : Int) < (l.length : Int) then g k else none) else none) else impl_parts.l2 k l out i list (wrap64 ((t : Int) + 1))) (fun k => by simp only [impl_parts.l3, rd_cell, hq, hgk]) (ev_pos (by omega) (ev_pos ⟨by omega, hok _ hmem⟩ (ev_pos ⟨by omega, by omega⟩ hg)))
   by_cases hneg : rd out (p : Int) < 0
   ·have hset := negs_set out p (i : Int) (by rw [hF.len]; exact hp) hneg (by omega)
    have hF2 : Fine l (out.set p (i : Int)) (list ++ [(p : Int)]) := ⟨by rw [List.length_set]; exact hF.len, fun q hq => by
     rcases List.mem_append.1 hq with h | h
     ·exact hF.mem q h
     ·rw [List.mem_singleton.1 h]; omega, by simp only [List.length_append, List.length_cons, List.length_nil]; omega⟩
    obtain ⟨out', list', h0, h1, h2, h3, h4, h5, h6⟩ := ih (j + 1) _ _ (by omega) (by simp; omega) (by rw [List.getD_eq_getElem?_getD, List.getElem?_append_left ht, ← List.getD_eq_getElem?_getD]; exact htq) (fun h => by have h' := PW.new out list t j q0 p (hW h) (by omega) ht htq hq0 hp (by rw [← hdq]; exact hpk) hneg; subst h; exact h') hF2
    simp only [List.length_append, List.length_cons, List.length_nil] at h2 h3
    refine ⟨out', list', h0, h1, by omega, by omega, ⟨fun q h => ?_, fun q h => ?_⟩, fun r hr => ?_, fun r hr => ?_⟩
    ·have hne : q ≠ p := fun e => by subst e; rw [rd_get] at hneg; omega
     have h7 := h4.1 q (by rw [getD_set _ _ _ _ (by rw [hF.len]; exact hp), if_neg hne]; exact h)
     rw [getD_set _ _ _ _ (by rw [hF.len]; exact hp), if_neg hne] at h7
     exact h7
    ·by_cases e : q = p
     ·subst e
      have h7 := h4.1 q (by rw [getD_set _ _ _ _ (by rw [hF.len]; exact hp), if_pos rfl]; omega)
      rw [getD_set _ _ _ _ (by rw [hF.len]; exact hp), if_pos rfl] at h7
      exact .inr h7
     ·exact h4.2 q (by rw [getD_set _ _ _ _ (by rw [hF.len]; exact hp), if_neg e]; exact h)
    ·refine hI r (fun k => impl_parts.l3 k l (out.set p i) i (list ++ [(p : Int)]) t ds ((j + 1 : Nat) : Int)) (h5 r hr) (fun k => ?_)
     rw [if_pos hneg, if_pos (by omega), wrap_succ j (by omega), Int.toNat_natCast]
    ·refine Ev.step (f := fun _ => _) (fun k => by simp only [spec_l02Parts.l3]; rfl) (ev_pos (by omega) (ev_pos (by omega) (ev_pos (by omega) (Ev.bind (index_val l hs _ _) ?_))))
     rw [he]
     refine ev_pos (by omega) (ev_pos (by omega) (ev_pos (by rw [hF.len]; omega) (ev_pos hneg (ev_pos (by rw [List.length_drop]; omega) ?_))))
     rw [wrap_succ j (by omega), Int.toNat_natCast]
     have e : list.drop (t + 1) ++ [(p : Int)] = (list ++ [(p : Int)]).drop (t + 1) := by rw [List.drop_append_of_le_length (by omega)]
     rw [e]
     exact h6 r hr
   ·obtain ⟨out', list', h0, h1, h2, h3, h4, h5, h6⟩ := ih (j + 1) out list (by omega) ht htq (fun h => PW.pass out list t j q0 (hW h) (by omega) ht htq hq0 (fun p' hp' hk => by rw [← hdq] at hk; rw [hs.apart p' p hp' hp (hk.trans hpk.symm)]; rw [rd_get] at hneg; omega)) hF
    refine ⟨out', list', h0, h1, h2, h3, h4, fun r hr => ?_, fun r hr => ?_⟩
    ·refine hI r (fun k => impl_parts.l3 k l out i list t ds ((j + 1 : Nat) : Int)) (h5 r hr) (fun k => ?_)
     rw [if_neg hneg, wrap_succ j (by omega)]
    ·refine Ev.step (f := fun _ => _) (fun k => by simp only [spec_l02Parts.l3]; rfl) (ev_pos (by omega) (ev_pos (by omega) (ev_pos (by omega) (Ev.bind (index_val l hs _ _) ?_))))
     rw [he]
     refine ev_pos (by omega) (ev_pos (by omega) (ev_pos (by rw [hF.len]; omega) (ev_neg hneg ?_)))
     rw [wrap_succ j (by omega)]
     exact h6 r hr
theorem parts2 (l : List S56) (hs : Shape l) (i : Nat) (hi : i < l.length) (M : Nat) : ∀ (out list : List Int) (t : Nat), 2 * negs out + (list.length - t) ≤ M → t ≤ list.length → (i = 0 → PW l out list t 0) → Fine l out list →
  ∃ out', (i = 0 → ∃ list', PW l out' list' list'.length 0) ∧ out'.length = l.length ∧ ((∀ q : Nat, 0 ≤ out.getD q 0 → out'.getD q 0 = out.getD q 0) ∧ ∀ q : Nat, out.getD q 0 < 0 → out'.getD q 0 < 0 ∨ out'.getD q 0 = (i : Int)) ∧ negs out' ≤ negs out + 50 ∧
   (∀ r, Ev (fun k => impl_parts.l1 k l out' (i + 1 : Nat)) r → Ev (fun k => impl_parts.l2 k l out i list t) r) ∧
   (∀ r, Ev (fun k => spec_l02Parts.l1 k l out' (i + 1 : Nat)) r → Ev (fun k => spec_l02Parts.l2 k l out i (list.drop t)) r) := by
 have hN := hs.le
 induction M with
 | zero =>
  intro out list t hM ht hW hF
  have hfew := hF.few
  obtain rfl : t = list.length := by omega
  refine ⟨out, fun h => ⟨list, hW h⟩, hF.len, ⟨fun _ _ => rfl, fun _ h => .inl h⟩, by omega, fun r hr => ?_, fun r hr => ?_⟩
  ·refine Ev.step (f := fun _ => _) (fun k => by simp only [impl_parts.l2]; rfl) (ev_neg (by omega) ?_)
   rw [wrap_succ i (by omega)]
   exact hr
  ·refine Ev.step (f := fun _ => _) (fun k => by simp only [spec_l02Parts.l2]; rfl) (ev_neg (by rw [List.length_drop]; omega) ?_)
   rw [wrap_succ i (by omega)]
   exact hr
 | succ M ih =>
  intro out list t hM ht hW hF
  have hfew := hF.few
  by_cases e : t = list.length
  ·subst e
   refine ⟨out, fun h => ⟨list, hW h⟩, hF.len, ⟨fun _ _ => rfl, fun _ h => .inl h⟩, by omega, fun r hr => ?_, fun r hr => ?_⟩
   ·refine Ev.step (f := fun _ => _) (fun k => by simp only [impl_parts.l2]; rfl) (ev_neg (by omega) ?_)
    rw [wrap_succ i (by omega)]
    exact hr
   ·refine Ev.step (f := fun _ => _) (fun k => by simp only [spec_l02Parts.l2]; rfl) (ev_neg (by rw [List.length_drop]; omega) ?_)
    rw [wrap_succ i (by omega)]
    exact hr
  ·have ht' : t < list.length := by omega
   have hm := hF.mem (list.getD t 0) (getD_mem list 0 t ht')
   obtain ⟨q, hq⟩ := Int.eq_ofNat_of_zero_le hm.1
   have hn := hs.near q (by omega)
   obtain ⟨out1, list1, h0, h1, h2, h3, h4, h5, h6⟩ := parts3 l hs i t hi [(⟨(cellAt l q).f0, wrap64 ((cellAt l q).f1 - 1)⟩ : S56), ⟨wrap64 ((cellAt l q).f0 - 1), (cellAt l q).f1⟩, ⟨wrap64 ((cellAt l q).f0 + 1), (cellAt l q).f1⟩, ⟨(cellAt l q).f0, wrap64 ((cellAt l q).f1 + 1)⟩] rfl (okc_wrap _ _ hn.1 hn.2) q (by omega) rfl 4 0 out list rfl ht' hq hW hF
   obtain ⟨out', g0, g1, g2, g3, g4, g5⟩ := ih out1 list1 (t + 1) (by omega) (by omega) (fun h => PW.turn _ _ _ (h0 h)) h1
   refine ⟨out', g0, g1, ⟨fun q h => (g2.1 q (by rw [h4.1 q h]; exact h)).trans (h4.1 q h), fun q h => (h4.2 q h).elim (fun h' => g2.2 q h') (fun h' => .inr ((g2.1 q (by rw [h']; omega)).trans h'))⟩, by have := h1.few; omega, fun r hr => ?_, fun r hr => ?_⟩
   ·refine Ev.step (f := fun _ => _) (fun k => by simp only [impl_parts.l2]; rfl) (ev_pos (by omega) ?_)
    rw [rd_get, hq]
    refine ev_pos ⟨⟨by omega, by omega⟩, by omega⟩ (ev_some rfl ?_)
    exact h5 r (g4 r hr)
   ·have hd : list.drop t = list.getD t 0 :: list.drop (t + 1) := drop_cons list 0 t ht'
    rw [hd, hq]
    have hr0 : rd ((q : Int) :: list.drop (t + 1)) 0 = (q : Int) := rfl
    refine Ev.step (f := fun _ => _) (fun k => by simp only [spec_l02Parts.l2]; rfl) (ev_pos (by simp only [List.length_cons]; omega) (ev_pos (by simp only [List.length_cons]; omega) ?_))
    rw [hr0]
    refine ev_pos (by omega) (ev_pos (by omega) (ev_some rfl (ev_pos (by simp only [List.length_cons]; omega) ?_)))
    exact h6 r (g5 r hr)
theorem parts1 (l : List S56) (hs : Shape l) (d : Nat) : ∀ (i : Nat) (out : List Int), i + d = l.length → out.length = l.length → (i = 0 → out = List.replicate l.length (-1)) → (∀ q : Nat, q < i → 0 ≤ out.getD q 0) →
  ∃ out', out'.length = l.length ∧ (∀ q : Nat, q < l.length → 0 ≤ out'.getD q 0) ∧ Ev (fun k => impl_parts.l1 k l out i) out' ∧ Ev (fun k => spec_l02Parts.l1 k l out i) out' ∧
   (1 ≤ i → (∀ q : Nat, 0 ≤ out.getD q 0 → out'.getD q 0 = out.getD q 0) ∧ ∀ q : Nat, q < l.length → out.getD q 0 < 0 → 1 ≤ out'.getD q 0) ∧
   (i = 0 → ∃ out1 list, PW l out1 list list.length 0 ∧ (∀ q : Nat, 0 ≤ out1.getD q 0 → out'.getD q 0 = out1.getD q 0) ∧ ∀ q : Nat, q < l.length → out1.getD q 0 < 0 → 1 ≤ out'.getD q 0) := by
 have hN := hs.le
 have hL := hs.pos
 induction d with
 | zero =>
  intro i out hi ho hz hp
  refine ⟨out, ho, fun q hq => hp q (by omega), ?_, ?_, fun _ => ⟨fun _ _ => rfl, fun q hq h => by have := hp q (by omega); omega⟩, fun h => by omega⟩
  ·exact Ev.step (f := fun _ => _) (fun k => by simp only [impl_parts.l1]; rfl) (ev_neg (by omega) (ev_const rfl))
  ·exact Ev.step (f := fun _ => _) (fun k => by simp only [spec_l02Parts.l1]; rfl) (ev_neg (by omega) (ev_const rfl))
 | succ d ih =>
  intro i out hi ho hz hp
  by_cases h0 : rd out (i : Int) ≥ 0
  ·obtain ⟨out', h1, h2, h3, h4, h5, _⟩ := ih (i + 1) out (by omega) ho (fun h => by omega) (fun q hq => by
    by_cases e : q = i
    ·subst e; exact h0
    ·exact hp q (by omega))
   refine ⟨out', h1, h2, ?_, ?_, fun _ => h5 (by omega), fun h => ?_⟩
   ·refine Ev.step (f := fun _ => _) (fun k => by simp only [impl_parts.l1]; rfl) (ev_pos (by omega) (ev_pos (by omega) (ev_pos h0 ?_)))
    rw [wrap_succ i (by omega)]
    exact h3
   ·refine Ev.step (f := fun _ => _) (fun k => by simp only [spec_l02Parts.l1]; rfl) (ev_pos (by omega) (ev_pos (by omega) (ev_pos (by omega) (ev_pos h0 ?_))))
    rw [wrap_succ i (by omega)]
    exact h4
   ·exfalso
    rw [hz h, h, rd_get, List.getD_eq_getElem?_getD, List.getElem?_replicate, if_pos (by omega)] at h0
    simp at h0
  ·have hneg : out.getD i 0 < 0 := by rw [rd_get] at h0; omega
   have hset := negs_set out i (i : Int) (by omega) hneg (by omega)
   have hcount : negs out ≤ out.length := List.countP_le_length
   obtain ⟨out1, g0, g1, g2, g3, g4, g5⟩ := parts2 l hs i (by omega) (2 * negs (out.set i (i : Int)) + 1) (out.set i (i : Int)) [(i : Int)] 0 (by simp) (by simp) (fun h => by subst h; rw [hz rfl]; exact PW.start) ⟨by rw [List.length_set]; exact ho, fun q hq => by rw [List.mem_singleton.1 hq]; omega, by simp only [List.length_cons, List.length_nil]; omega⟩
   have hkeep : ∀ q : Nat, 0 ≤ out.getD q 0 → out1.getD q 0 = out.getD q 0 := fun q h => by
    have hne : q ≠ i := fun e => by subst e; omega
    have h7 := g2.1 q (by rw [getD_set _ _ _ _ (by omega), if_neg hne]; exact h)
    rw [getD_set _ _ _ _ (by omega), if_neg hne] at h7
    exact h7
   have hset2 : ∀ q : Nat, out.getD q 0 < 0 → out1.getD q 0 < 0 ∨ out1.getD q 0 = (i : Int) := fun q h => by
    by_cases e : q = i
    ·subst e
     have h7 := g2.1 q (by rw [getD_set _ _ _ _ (by omega), if_pos rfl]; omega)
     rw [getD_set _ _ _ _ (by omega), if_pos rfl] at h7
     exact .inr h7
    ·exact g2.2 q (by rw [getD_set _ _ _ _ (by omega), if_neg e]; exact h)
   obtain ⟨out', h1, h2, h3, h4, h5, _⟩ := ih (i + 1) out1 (by omega) g1 (fun h => by omega) (fun q hq => by
    by_cases e : q = i
    ·subst e
     have h7 := g2.1 q (by rw [getD_set _ _ _ _ (by omega), if_pos rfl]; omega)
     rw [getD_set _ _ _ _ (by omega), if_pos rfl] at h7
     omega
    ·rw [hkeep q (hp q (by omega))]
     exact hp q (by omega))
   obtain ⟨h6, h7⟩ := h5 (by omega)
   refine ⟨out', h1, h2, ?_, ?_, fun h8 => ⟨fun q h => by rw [h6 q (by rw [hkeep q h]; exact h), hkeep q h], fun q hq h => ?_⟩, fun h => ?_⟩
   ·refine Ev.step (f := fun _ => _) (fun k => by simp only [impl_parts.l1]; rfl) (ev_pos (by omega) (ev_pos (by omega) (ev_neg h0 ?_)))
    rw [Int.toNat_natCast]
    exact g4 _ h3
   ·refine Ev.step (f := fun _ => _) (fun k => by simp only [spec_l02Parts.l1]; rfl) (ev_pos (by omega) (ev_pos (by omega) (ev_pos (by omega) (ev_neg h0 ?_))))
    rw [Int.toNat_natCast]
    exact g5 _ h4
   ·rcases hset2 q h with h9 | h9
    ·exact h7 q hq h9
    ·rw [h6 q (by omega)]
     omega
   ·obtain ⟨list, hW⟩ := g0 h
    exact ⟨out1, list, hW, h6, h7⟩
theorem parts0 (l : List S56) (hs : Shape l) (r : List Int) (h : Ev (fun k => spec_l02Parts.l1 k l (List.replicate l.length (-1)) 0) r) (d : Nat) : ∀ n : Nat, n + d = l.length → Ev (fun k => spec_l02Parts.l0 k l (List.replicate n (-1)) n) r := by
 have hN := hs.le
 induction d with
 | zero =>
  intro n hn
  obtain rfl : n = l.length := by omega
  exact Ev.step (f := fun _ => _) (fun k => by simp only [spec_l02Parts.l0]; rfl) (ev_neg (by omega) h)
 | succ d ih =>
  intro n hn
  refine Ev.step (f := fun _ => _) (fun k => by simp only [spec_l02Parts.l0]; rfl) (ev_pos (by omega) (ev_pos (by simp; omega) ?_))
  rw [wrap_succ n (by omega), show List.replicate n (-1 : Int) ++ [-1] = List.replicate (n + 1) (-1) from List.replicate_succ'.symm]
  exact ih (n + 1) (by omega)
theorem parts_bothW (l : List S56) (hs : Shape l) : ∃ out, out.length = l.length ∧ (∀ q : Nat, q < l.length → 0 ≤ out.getD q 0) ∧ Ev (fun k => impl_parts.f k l) out ∧ Ev (fun k => spec_l02Parts.f k l) out ∧ ∃ out1 list, PW l out1 list list.length 0 ∧ (∀ q : Nat, 0 ≤ out1.getD q 0 → out.getD q 0 = out1.getD q 0) ∧ ∀ q : Nat, q < l.length → out1.getD q 0 < 0 → 1 ≤ out.getD q 0 := by
 obtain ⟨out, h1, h2, h3, h4, _, h6⟩ := parts1 l hs l.length 0 (List.replicate l.length (-1)) (by omega) (by simp) (fun _ => rfl) (fun q hq => by omega)
 refine ⟨out, h1, h2, ?_, parts0 l hs out h4 l.length 0 (by omega), h6 rfl⟩
 refine ev_pos ⟨⟨by have := hs.pos; omega, by have := hs.le; omega⟩, fun c hc => ?_⟩ h3
 obtain ⟨i, hi, rfl⟩ := List.getElem_of_mem hc
 have := hs.near i hi
 have e : l[i] = cellAt l i := by rw [show cellAt l i = l.getD i z56 from rfl, List.getD_eq_getElem?_getD, List.getElem?_eq_getElem hi]; rfl
 rw [e]
 exact ⟨⟨by omega, by omega⟩, by omega, by omega⟩
theorem parts_both (l : List S56) (hs : Shape l) : ∃ out, out.length = l.length ∧ (∀ q : Nat, q < l.length → 0 ≤ out.getD q 0) ∧ Ev (fun k => impl_parts.f k l) out ∧ Ev (fun k => spec_l02Parts.f k l) out := by
 obtain ⟨out, h1, h2, h3, h4, _⟩ := parts_bothW l hs
 exact ⟨out, h1, h2, h3, h4⟩
theorem max_loop (out : List Int) (hm : out.length ≤ 40) (hp : ∀ q : Nat, q < out.length → 0 ≤ out.getD q 0) (d : Nat) : ∀ (n : Nat) (x : Int), n + d = out.length → 0 ≤ x →
  ∃ m, Ev (fun k => slices_Max_int64_int64.l0 k out x n) m ∧ (m = 0 ↔ x = 0 ∧ ∀ q : Nat, n ≤ q → q < out.length → out.getD q 0 = 0) := by
 induction d with
 | zero =>
  intro n x hn hx
  exact ⟨x, Ev.step (f := fun _ => _) (fun k => by simp only [slices_Max_int64_int64.l0]; rfl) (ev_neg (by omega) (ev_const rfl)), ⟨fun h => ⟨h, fun q h1 h2 => by omega⟩, fun h => h.1⟩⟩
 | succ d ih =>
  intro n x hn hx
  have h0 := hp n (by omega)
  obtain ⟨m, h1, h2⟩ := ih (n + 1) (mx x (rd out (n : Int))) (by omega) (by rw [rd_get]; unfold mx; split <;> omega)
  refine ⟨m, Ev.step (f := fun _ => _) (fun k => by simp only [slices_Max_int64_int64.l0]; rfl) (ev_pos (by omega) (ev_pos (by omega) (by rw [wrap_succ n (by omega)]; exact h1))), h2.trans ⟨fun h => ?_, fun h => ?_⟩⟩
  ·rw [rd_get] at h
   have h3 : x = 0 ∧ out.getD n 0 = 0 := by
    have := h.1
    unfold mx at this
    split at this <;> omega
   refine ⟨h3.1, fun q h4 h5 => ?_⟩
   by_cases e : q = n
   ·subst e; exact h3.2
   ·exact h.2 q (by omega) h5
  ·have h3 := h.2 n (Nat.le_refl _) (by omega)
   refine ⟨?_, fun q h4 h5 => h.2 q (by omega) h5⟩
   rw [rd_get, h.1, h3]
   rfl
theorem one_loop (out : List Int) (hm : out.length ≤ 40) (d : Nat) : ∀ n : Nat, n + d = out.length → ∃ b, Ev (fun k => spec_l02One.l0 k out n) b ∧ (b = true ↔ ∀ q : Nat, n ≤ q → q < out.length → out.getD q 0 = 0) := by
 induction d with
 | zero =>
  intro n hn
  exact ⟨true, Ev.step (f := fun _ => _) (fun k => by simp only [spec_l02One.l0]; rfl) (ev_neg (by omega) (ev_const rfl)), ⟨fun _ q h1 h2 => by omega, fun _ => rfl⟩⟩
 | succ d ih =>
  intro n hn
  by_cases h : rd out (n : Int) = 0
  ·obtain ⟨b, h1, h2⟩ := ih (n + 1) (by omega)
   refine ⟨b, Ev.step (f := fun _ => _) (fun k => by simp only [spec_l02One.l0]; rfl) (ev_pos (by omega) (ev_pos (by omega) (ev_pos h (by rw [wrap_succ n (by omega)]; exact h1)))), h2.trans ⟨fun h3 q h4 h5 => ?_, fun h3 q h4 h5 => h3 q (by omega) h5⟩⟩
   by_cases e : q = n
   ·subst e; exact h
   ·exact h3 q (by omega) h5
  ·exact ⟨false, Ev.step (f := fun _ => _) (fun k => by simp only [spec_l02One.l0]; rfl) (ev_pos (by omega) (ev_pos (by omega) (ev_neg h (ev_const rfl)))), ⟨fun h1 => (by cases h1), fun h1 => absurd (h1 n (Nat.le_refl _) (by omega)) h⟩⟩
theorem connected_both (l : List S56) (hm : l.length ≤ maxLen) : ∃ b, Ev (fun k => impl_IsConnected.f k l) b ∧ Ev (fun k => spec_IsConnected.f k l) b ∧ (b = true → Shape l) := by
 cases h : isShapeB l with
 | false =>
  have h1 := impl_shape_val l hm
  have h2 := spec_shape_val l hm
  rw [h] at h1 h2
  exact ⟨false, Ev.bind h1 (ev_neg (by simp) (ev_const rfl)), Ev.bind h2 (ev_neg (by simp) (ev_const rfl)), fun h => by cases h⟩
 | true =>
  have hs := shape_of l h
  have hN := hs.le
  have h1 := impl_shape_val l hm
  have h2 := spec_shape_val l hm
  rw [h] at h1 h2
  obtain ⟨out, g1, g2, g3, g4⟩ := parts_both l hs
  have hpos := hs.pos
  obtain ⟨m, m1, m2⟩ := max_loop out (by omega) (fun q hq => g2 q (by omega)) (out.length - 1) 1 (rd out 0) (by omega) (g2 0 (by omega))
  obtain ⟨b, b1, b2⟩ := one_loop out (by omega) out.length 0 (by omega)
  have hmax : Ev (fun k => slices_Max_int64_int64.f k out) m := ev_neg (by omega) (ev_pos (by omega) m1)
  have heq : m = 0 ↔ b = true := m2.trans (Iff.trans ⟨fun h q h1 h2 => by
   by_cases e : q = 0
   ·subst e; exact h.1
   ·exact h.2 q (by omega) h2, fun h => ⟨h 0 (Nat.le_refl _) (by omega), fun q h1 h2 => h q (by omega) h2⟩⟩ b2.symm)
  refine ⟨b, Ev.bind h1 (ev_pos rfl (Ev.bind g3 (Ev.bind hmax ?_))), Ev.bind h2 (ev_pos rfl (Ev.bind g4 (Ev.bind b1 (ev_const rfl)))), fun _ => hs⟩
  cases b with
  | true => exact ev_pos (heq.2 rfl) (ev_const rfl)
  | false => exact ev_neg (fun e => by have := heq.1 e; cases this) (ev_const rfl)
theorem has_loop (ids : List Int) (v : Int) (hm : ids.length ≤ 1000) (d : Nat) : ∀ n : Nat, n + d = ids.length → (∀ i, i < n → ids.getD i 0 ≠ v) → Ev (fun k => spec_l01Has.l0 k ids v n) (decide (v ∈ ids)) := by
 induction d with
 | zero =>
  intro n hn h
  refine Ev.step (f := fun _ => _) (fun k => by simp only [spec_l01Has.l0]; rfl) (ev_neg (by omega) (ev_const ?_))
  rw [decide_eq_false]
  intro hv
  obtain ⟨i, hi, e⟩ := List.getElem_of_mem hv
  exact h i (by omega) (by rw [List.getD_eq_getElem?_getD, List.getElem?_eq_getElem hi]; exact e)
 | succ d ih =>
  intro n hn h
  refine Ev.step (f := fun _ => _) (fun k => by simp only [spec_l01Has.l0]; rfl) (ev_pos (by omega) (ev_pos (by omega) ?_))
  by_cases e : rd ids (n : Int) = v
  ·refine ev_pos e (ev_const ?_)
   rw [decide_eq_true]
   rw [← e]
   exact getD_mem ids 0 n (by omega)
  ·refine ev_neg e ?_
   rw [wrap_succ n (by omega)]
   refine ih (n + 1) (by omega) (fun i hi => ?_)
   by_cases e2 : i = n
   ·subst e2; exact e
   ·exact h i (by omega)
theorem has_val (ids : List Int) (v : Int) (hm : ids.length ≤ 1000) : Ev (fun k => spec_l01Has.f k ids v) (decide (v ∈ ids)) := has_loop ids v hm ids.length 0 (by omega) (fun i hi => by omega)
theorem sindex_loop (l : List S56) (hs : Shape l) (a b : Int) (d : Nat) : ∀ n : Nat, n + d = l.length → (∀ i, i < n → cellKey (cellAt l i) ≠ (a, b)) → Ev (fun k => slices_Index_impl_Cell_impl_Cell.l0 k l (l.length : Int) n a b) (idxI l (a, b)) := by
 have := hs.le
 induction d with
 | zero =>
  intro n hd hn
  refine Ev.step (f := fun _ => _) (fun k => by simp only [slices_Index_impl_Cell_impl_Cell.l0]; rfl) (ev_neg (by omega) (ev_const ?_))
  unfold idxI
  rw [atCell_none l (a, b) l.length (fun i hi => hn i (by omega))]
 | succ d ih =>
  intro n hd hn
  refine Ev.step (f := fun _ => _) (fun k => by simp only [slices_Index_impl_Cell_impl_Cell.l0]; rfl) (ev_pos (by omega) (ev_pos (by omega) (ev_pos (by omega) ?_)))
  rw [show rd_T56 l (n : Int) = cellAt l n from rfl]
  by_cases e : (a == (cellAt l n).f0 && b == (cellAt l n).f1) = true
  ·refine ev_pos e (ev_const ?_)
   simp only [Bool.and_eq_true, beq_iff_eq] at e
   unfold idxI
   rw [show ((a, b) : Int × Int) = cellKey (cellAt l n) by unfold cellKey; rw [e.1, e.2], atCell_some l hs n (by omega)]
  ·refine ev_neg e ?_
   rw [wrap_succ n (by omega)]
   refine ih (n + 1) (by omega) (fun i hi => ?_)
   by_cases e2 : i = n
   ·subst e2
    intro h
    simp only [cellKey, Prod.mk.injEq] at h
    exact e (by rw [Bool.and_eq_true]; exact ⟨beq_iff_eq.2 h.1.symm, beq_iff_eq.2 h.2.symm⟩)
   ·exact hn i (by omega)
theorem contains_val (l : List S56) (hs : Shape l) (a b : Int) : Ev (fun k => slices_Contains_impl_Cell_impl_Cell.f k l a b) (decide (idxI l (a, b) ≥ 0)) :=
 Ev.bind (sindex_loop l hs a b l.length 0 (by omega) (fun i hi => by omega)) (ev_const rfl)
theorem step_val (e : Nat) (he : e < 4) : spec_l23Step.f (bt (⟨#[114, 100, 108, 117]⟩ : ByteArray) e) = some (edgeSX e, edgeSY e) := by
 rcases (by omega : e = 0 ∨ e = 1 ∨ e = 2 ∨ e = 3) with rfl | rfl | rfl | rfl <;> rfl
theorem froll_some (a b c x : Int) : ∃ y, impl_die_roll.f a b c x = some y := by
 unfold impl_die_roll.f
 split
 ·exact ⟨_, rfl⟩
 ·split
  ·exact ⟨_, rfl⟩
  ·split <;> exact ⟨_, rfl⟩
theorem froll_same (a b c x : Int) : spec_l32Roll.f a b c x = impl_die_roll.f a b c x := rfl
theorem countP_lt {α : Type} (p q : α → Bool) (a : α) : ∀ xs : List α, (∀ x ∈ xs, q x = true → p x = true) → a ∈ xs → p a = true → q a = false → xs.countP q < xs.countP p
 | [], _, h, _, _ => by cases h
 | x :: xs, hpq, h, ha, hb => by
  have hmono : xs.countP q ≤ xs.countP p := List.countP_mono_left (fun y hy => hpq y (List.mem_cons_of_mem _ hy))
  rw [List.countP_cons, List.countP_cons]
  rcases List.mem_cons.1 h with rfl | h
  ·simp only [ha, hb, if_true, Bool.false_eq_true, if_false]; omega
  ·have ih := countP_lt p q a xs (fun y hy => hpq y (List.mem_cons_of_mem _ hy)) h ha hb
   have := hpq x List.mem_cons_self
   cases hq : q x with
   | false => simp only [Bool.false_eq_true, if_false]; omega
   | true => rw [this hq]; simp only [if_true]; omega
def left (n : Nat) (ids : List Int) : Nat := (List.range n).countP (fun i : Nat => !decide ((i : Int) ∈ ids))
theorem left_app (n : Nat) (ids : List Int) (p : Nat) (hp : p < n) (h : (p : Int) ∉ ids) : left n (ids ++ [(p : Int)]) + 1 ≤ left n ids := by
 unfold left
 refine countP_lt _ _ p _ (fun x _ hx => ?_) (List.mem_range.2 hp) (by simp [h]) (by simp)
 simp only [Bool.not_eq_true', decide_eq_false_iff_not, List.mem_append, not_or] at hx ⊢
 exact hx.1
def trip (s : S86) : Int × Int × Int := (s.f0, s.f1, s.f2)
structure Sim (l : List S56) (ids : List Int) (dice : List S86) (m : List ((Int × Int) × (Int × Int × Int))) : Prop where
 len : dice.length = l.length
 mem : ∀ q, q ∈ ids → 0 ≤ q ∧ q < (l.length : Int)
 inn : ∀ q : Nat, q < l.length → (q : Int) ∈ ids → dget m (cellKey (cellAt l q)) = some (trip (dice.getD q z86))
 out : ∀ q : Nat, q < l.length → (q : Int) ∉ ids → dget m (cellKey (cellAt l q)) = none ∧ dice.getD q z86 = z86
 far : ∀ p, (∀ q : Nat, q < l.length → cellKey (cellAt l q) ≠ p) → dget m p = none
 few : ids.length + left l.length ids ≤ 100
def cellsOf (l : List S56) (ids : List Int) : List S56 := ids.map (fun q => cellAt l q.toNat)
theorem getD_cells (l : List S56) (ids : List Int) (t : Nat) (ht : t < ids.length) : rd_T56 (cellsOf l ids) (t : Int) = cellAt l (ids.getD t 0).toNat := by
 show (cellsOf l ids).getD t z56 = _
 unfold cellsOf
 rw [List.getD_eq_getElem?_getD, List.getElem?_map, List.getElem?_eq_getElem ht, List.getD_eq_getElem?_getD, List.getElem?_eq_getElem ht]
 rfl
theorem getD_app (ids : List Int) (x : Int) (t : Nat) (ht : t < ids.length) : (ids ++ [x]).getD t 0 = ids.getD t 0 := by
 rw [List.getD_eq_getElem?_getD, List.getD_eq_getElem?_getD, List.getElem?_append_left ht]
theorem getD_setD (dice : List S86) (q j : Nat) (v : S86) (hq : q < dice.length) : (dice.set q v).getD j z86 = if j = q then v else dice.getD j z86 := by
 rw [List.getD_eq_getElem?_getD, List.getD_eq_getElem?_getD, List.getElem?_set]
 by_cases e : q = j
 ·subst e; simp [hq]
 ·rw [if_neg e, if_neg (Ne.symm e)]
theorem sim_add (l : List S56) (hs : Shape l) (ids : List Int) (dice : List S86) (m : List ((Int × Int) × (Int × Int × Int))) (hS : Sim l ids dice m) (p : Nat) (hp : p < l.length) (hn : (p : Int) ∉ ids) (y : Int × Int × Int) :
  Sim l (ids ++ [(p : Int)]) (dice.set p ⟨y.1, y.2.1, y.2.2⟩) ((cellKey (cellAt l p), y) :: m) := by
 have hlen := hS.len
 refine ⟨by rw [List.length_set]; exact hlen, fun q hq => ?_, fun q hq hm => ?_, fun q hq hm => ?_, fun k hk => ?_, ?_⟩
 ·rcases List.mem_append.1 hq with h | h
  ·exact hS.mem q h
  ·rw [List.mem_singleton.1 h]; omega
 ·rw [dget, getD_setD _ _ _ _ (by omega)]
  by_cases e : q = p
  ·subst e
   rw [if_pos rfl, if_pos rfl]
   rfl
  ·rw [if_neg (fun h => e (hs.apart q p hq hp h)), if_neg e]
   rcases List.mem_append.1 hm with h | h
   ·exact hS.inn q hq h
   ·have := List.mem_singleton.1 h
    omega
 ·rw [List.mem_append, not_or, List.mem_singleton] at hm
  have e : q ≠ p := fun h => hm.2 (by rw [h])
  rw [dget, getD_setD _ _ _ _ (by omega), if_neg (fun h => e (hs.apart q p hq hp h)), if_neg e]
  exact hS.out q hq hm.1
 ·rw [dget, if_neg (fun h => hk p hp h.symm)]
  exact hS.far k hk
 ·have := left_app l.length ids p hp hn
  have := hS.few
  simp only [List.length_append, List.length_cons, List.length_nil]
  omega
inductive BW (l : List S56) : List Int → List S86 → Nat → Nat → Prop
 | start : BW l [0] ((List.replicate l.length z86).set 0 ⟨0, 1, 2⟩) 0 0
 | pass (ids : List Int) (dice : List S86) (t e q0 : Nat) : BW l ids dice t e → e < 4 → t < ids.length → ids.getD t 0 = (q0 : Int) → q0 < l.length → (∀ q : Nat, q < l.length → cellKey (cellAt l q) = cellKey (stepTo (cellAt l q0) e) → (q : Int) ∈ ids) → BW l ids dice t (e + 1)
 | new (ids : List Int) (dice : List S86) (t e q0 p : Nat) (y : Int × Int × Int) : BW l ids dice t e → e < 4 → t < ids.length → ids.getD t 0 = (q0 : Int) → q0 < l.length → p < l.length → cellKey (cellAt l p) = cellKey (stepTo (cellAt l q0) e) → (p : Int) ∉ ids → impl_die_roll.f (dice.getD q0 z86).f0 (dice.getD q0 z86).f1 (dice.getD q0 z86).f2 (bt (⟨#[114, 100, 108, 117]⟩ : ByteArray) e) = some y → BW l (ids ++ [(p : Int)]) (dice.set p ⟨y.1, y.2.1, y.2.2⟩) t (e + 1)
 | turn (ids : List Int) (dice : List S86) (t : Nat) : BW l ids dice t 4 → BW l ids dice (t + 1) 0
theorem faces1 (l : List S56) (hs : Shape l) (t q0 : Nat) (hq0 : q0 < l.length) (d : Nat) : ∀ (e : Nat) (ids : List Int) (dice : List S86) (m : List ((Int × Int) × (Int × Int × Int))), e + d = 4 → t < ids.length → ids.getD t 0 = (q0 : Int) → BW l ids dice t e → Sim l ids dice m →
  ∃ ids' dice' m', BW l ids' dice' t 4 ∧ Sim l ids' dice' m' ∧ ids.length ≤ ids'.length ∧ ids'.length + left l.length ids' ≤ ids.length + left l.length ids ∧ left l.length ids' ≤ left l.length ids ∧
   (∀ r, Ev (fun k => impl_faces.l0 k l m' (cellsOf l ids') (t + 1 : Nat)) r → Ev (fun k => impl_faces.l1 k l m (cellsOf l ids) t e) r) ∧
   (∀ r, Ev (fun k => spec_l32Faces.l0 k l ids' dice' (t + 1 : Nat)) r → Ev (fun k => spec_l32Faces.l1 k l ids dice t e (cellAt l q0).f0 (cellAt l q0).f1) r) := by
 have hN := hs.le
 induction d with
 | zero =>
  intro e ids dice m he ht hq hW hS
  have := hS.few
  obtain rfl : e = 4 := by omega
  refine ⟨ids, dice, m, hW, hS, Nat.le_refl _, Nat.le_refl _, Nat.le_refl _, fun r hr => ?_, fun r hr => ?_⟩
  ·refine Ev.step (f := fun _ => _) (fun k => by simp only [impl_faces.l1]; rfl) (ev_neg (by omega) ?_)
   rw [wrap_succ t (by omega)]
   exact hr
  ·refine Ev.step (f := fun _ => _) (fun k => by simp only [spec_l32Faces.l1]; rfl) (ev_neg (by omega) ?_)
   rw [wrap_succ t (by omega)]
   exact hr
 | succ d ih =>
  intro e ids dice m he ht hq hW hS
  have hfew := hS.few
  have hlen := hS.len
  have hc : rd_T56 (cellsOf l ids) (t : Int) = cellAt l q0 := by rw [getD_cells l ids t ht, hq]; rfl
  have hcl : (cellsOf l ids).length = ids.length := List.length_map _
  have hnear := hs.near q0 hq0
  have hokc : okcF (cellAt l q0) := ⟨⟨by omega, by omega⟩, by omega, by omega⟩
  have hmem0 : (q0 : Int) ∈ ids := by rw [← hq]; exact getD_mem ids 0 t ht
  have hidx := index_val l hs (wrap64 ((cellAt l q0).f0 + edgeSX e)) (wrap64 ((cellAt l q0).f1 + edgeSY e))
  have hcon := contains_val l hs (stepTo (cellAt l q0) e).f0 (stepTo (cellAt l q0) e).f1
  have hkey : cellKey (stepTo (cellAt l q0) e) = (wrap64 ((cellAt l q0).f0 + edgeSX e), wrap64 ((cellAt l q0).f1 + edgeSY e)) := rfl
  have hI : ∀ r : List Int, Ev (fun k => match dget m (cellKey (stepTo (cellAt l q0) e)) with
    | some _ => impl_faces.l1 k l m (cellsOf l ids) t (wrap64 ((e : Int) + 1))
    | none => (slices_Contains_impl_Cell_impl_Cell.f k l (stepTo (cellAt l q0) e).f0 (stepTo (cellAt l q0) e).f1).bind fun b => if b = true then (impl_die_roll.f ((dget m (cellKey (cellAt l q0))).getD (0, 0, 0)).1 ((dget m (cellKey (cellAt l q0))).getD (0, 0, 0)).2.1 ((dget m (cellKey (cellAt l q0))).getD (0, 0, 0)).2.2 (bt (⟨#[114, 100, 108, 117]⟩ : ByteArray) e)).bind fun y => (if (cellsOf l ids).length < 8796093022208 then impl_faces.l1 k l ((cellKey (stepTo (cellAt l q0) e), y) :: m) (cellsOf l ids ++ [stepTo (cellAt l q0) e]) t (wrap64 ((e : Int) + 1)) else none) else impl_faces.l1 k l m (cellsOf l ids) t (wrap64 ((e : Int) + 1))) r → Ev (fun k => impl_faces.l1 k l m (cellsOf l ids) t e) r := by
   intro r hg
   refine Ev.step (f := fun k => if (e : Int) < 4 then (if ((0 ≤ (e : Int) ∧ 0 ≤ (t : Int)) ∧ (t : Int) < ((cellsOf l ids).length : Int)) ∧ okcF (cellAt l q0) then _ else none) else impl_faces.l0 k l m (cellsOf l ids) (wrap64 ((t : Int) + 1))) (fun k => ?_) (ev_pos (by omega) (ev_pos ⟨⟨⟨by omega, by omega⟩, by omega⟩, hokc⟩ hg))
   simp only [impl_faces.l1, hc]
   rfl
  cases hat : atCell l l.length (cellKey (stepTo (cellAt l q0) e)) with
  | none =>
   have hno : ∀ q : Nat, q < l.length → cellKey (cellAt l q) ≠ cellKey (stepTo (cellAt l q0) e) := fun q hq' h => by
    rw [← h, atCell_some l hs q hq'] at hat
    cases hat
   have hd := hS.far _ hno
   have hix : idxI l (cellKey (stepTo (cellAt l q0) e)) = -1 := by unfold idxI; rw [hat]
   obtain ⟨ids', dice', m', h0, h1, h2, h3, h3', h4, h5⟩ := ih (e + 1) ids dice m (by omega) ht hq (BW.pass ids dice t e q0 hW (by omega) ht hq hq0 (fun q hq' h => absurd h (hno q hq'))) hS
   refine ⟨ids', dice', m', h0, h1, h2, h3, h3', fun r hr => ?_, fun r hr => ?_⟩
   ·have hcon' : Ev (fun k => slices_Contains_impl_Cell_impl_Cell.f k l (stepTo (cellAt l q0) e).f0 (stepTo (cellAt l q0) e).f1) false := by
     refine ev_eq hcon ?_
     rw [show ((stepTo (cellAt l q0) e).f0, (stepTo (cellAt l q0) e).f1) = cellKey (stepTo (cellAt l q0) e) from rfl, hix]
     rfl
    refine hI r ?_
    simp only [hd]
    refine Ev.bind hcon' (ev_neg (by simp) ?_)
    rw [wrap_succ e (by omega)]
    exact h4 r hr
   ·refine Ev.step (f := fun _ => _) (fun k => by simp only [spec_l32Faces.l1]; rfl) (ev_pos (by omega) (ev_pos (by omega) (ev_some (step_val e (by omega)) (Ev.bind hidx ?_))))
    rw [show ((wrap64 ((cellAt l q0).f0 + edgeSX e), wrap64 ((cellAt l q0).f1 + edgeSY e)) : Int × Int) = cellKey (stepTo (cellAt l q0) e) from rfl, hix]
    refine ev_neg (by omega) ?_
    rw [wrap_succ e (by omega)]
    exact h5 r hr
  | some p' =>
   obtain ⟨p, hp, rfl, hpk⟩ := atCell_inv l _ _ _ hat
   have hix : idxI l (cellKey (stepTo (cellAt l q0) e)) = (p : Int) := by unfold idxI; rw [hat]
   have hcell : stepTo (cellAt l q0) e = cellAt l p := by
    have h1 : (cellAt l p).f0 = (stepTo (cellAt l q0) e).f0 := congrArg Prod.fst hpk
    have h2 : (cellAt l p).f1 = (stepTo (cellAt l q0) e).f1 := congrArg Prod.snd hpk
    cases h3 : stepTo (cellAt l q0) e with
    | mk a b =>
     cases h4 : cellAt l p with
     | mk c d =>
      rw [h3, h4] at h1 h2
      simp only at h1 h2
      rw [h1, h2]
   by_cases hin : (p : Int) ∈ ids
   ·have hd := hS.inn p hp hin
    rw [hpk] at hd
    obtain ⟨ids', dice', m', h0, h1, h2, h3, h3', h4, h5⟩ := ih (e + 1) ids dice m (by omega) ht hq (BW.pass ids dice t e q0 hW (by omega) ht hq hq0 (fun q hq' h => by rw [hs.apart q p hq' hp (h.trans hpk.symm)]; exact hin)) hS
    refine ⟨ids', dice', m', h0, h1, h2, h3, h3', fun r hr => ?_, fun r hr => ?_⟩
    ·refine hI r ?_
     simp only [hd]
     rw [wrap_succ e (by omega)]
     exact h4 r hr
    ·refine Ev.step (f := fun _ => _) (fun k => by simp only [spec_l32Faces.l1]; rfl) (ev_pos (by omega) (ev_pos (by omega) (ev_some (step_val e (by omega)) (Ev.bind hidx ?_))))
     rw [show ((wrap64 ((cellAt l q0).f0 + edgeSX e), wrap64 ((cellAt l q0).f1 + edgeSY e)) : Int × Int) = cellKey (stepTo (cellAt l q0) e) from rfl, hix]
     refine ev_pos (by omega) (Ev.bind (has_val ids p (by omega)) (ev_pos (decide_eq_true hin) ?_))
     rw [wrap_succ e (by omega)]
     exact h5 r hr
   ·have hd := (hS.out p hp hin).1
    rw [hpk] at hd
    have hq0d := hS.inn q0 hq0 hmem0
    obtain ⟨y, hy⟩ := froll_some (dice.getD q0 z86).f0 (dice.getD q0 z86).f1 (dice.getD q0 z86).f2 (bt (⟨#[114, 100, 108, 117]⟩ : ByteArray) e)
    obtain ⟨ids', dice', m', h0, h1, h2, h3, h3', h4, h5⟩ := ih (e + 1) _ _ _ (by omega) (by simp only [List.length_append, List.length_cons, List.length_nil]; omega) ((getD_app ids _ t ht).trans hq) (BW.new ids dice t e q0 p y hW (by omega) ht hq hq0 hp hpk hin hy) (sim_add l hs ids dice m hS p hp hin y)
    have hla := left_app l.length ids p hp hin
    simp only [List.length_append, List.length_cons, List.length_nil] at h2 h3
    refine ⟨ids', dice', m', h0, h1, by omega, by omega, by omega, fun r hr => ?_, fun r hr => ?_⟩
    ·have hcon' : Ev (fun k => slices_Contains_impl_Cell_impl_Cell.f k l (stepTo (cellAt l q0) e).f0 (stepTo (cellAt l q0) e).f1) true := by
      refine ev_eq hcon ?_
      rw [show ((stepTo (cellAt l q0) e).f0, (stepTo (cellAt l q0) e).f1) = cellKey (stepTo (cellAt l q0) e) from rfl, hix]
      exact decide_eq_true (by omega)
     refine hI r ?_
     simp only [hd, hq0d, Option.getD_some]
     refine Ev.bind hcon' (ev_pos rfl (ev_some hy (ev_pos (by omega) ?_)))
     rw [wrap_succ e (by omega), hcell]
     have e1 : cellsOf l ids ++ [cellAt l p] = cellsOf l (ids ++ [(p : Int)]) := by unfold cellsOf; rw [List.map_append]; rfl
     rw [e1]
     exact h4 r hr
    ·refine Ev.step (f := fun _ => _) (fun k => by simp only [spec_l32Faces.l1]; rfl) (ev_pos (by omega) (ev_pos (by omega) (ev_some (step_val e (by omega)) (Ev.bind hidx ?_))))
     rw [show ((wrap64 ((cellAt l q0).f0 + edgeSX e), wrap64 ((cellAt l q0).f1 + edgeSY e)) : Int × Int) = cellKey (stepTo (cellAt l q0) e) from rfl, hix]
     refine ev_pos (by omega) (Ev.bind (has_val ids p (by omega)) (ev_neg (by simp [hin]) (ev_pos (by omega) (ev_pos (by omega) ?_))))
     rw [show rd ids (t : Int) = ids.getD t 0 from rfl, hq]
     refine ev_pos (by omega) (ev_pos (by omega) (ev_some ((froll_same _ _ _ _).trans hy) (ev_pos (by omega) (ev_pos (by omega) (ev_pos (by omega) ?_)))))
     rw [wrap_succ e (by omega), Int.toNat_natCast]
     exact h5 r hr
theorem out_impl (l : List S56) (hs : Shape l) (ids : List Int) (dice : List S86) (m : List ((Int × Int) × (Int × Int × Int))) (hS : Sim l ids dice m) (d : Nat) : ∀ (n : Nat) (out : List Int), n + d = l.length → out.length = n →
  Ev (fun k => impl_faces.l2 k l m out n) (out ++ (dice.drop n).map (fun s => s.f0)) ∧ Ev (fun k => spec_l32Faces.l2 k dice out n) (out ++ (dice.drop n).map (fun s => s.f0)) := by
 have hN := hs.le
 have hlen := hS.len
 induction d with
 | zero =>
  intro n out hn ho
  rw [List.drop_of_length_le (by omega), List.map_nil, List.append_nil]
  exact ⟨Ev.step (f := fun _ => _) (fun k => by simp only [impl_faces.l2]; rfl) (ev_neg (by omega) (ev_const rfl)), Ev.step (f := fun _ => _) (fun k => by simp only [spec_l32Faces.l2]; rfl) (ev_neg (by omega) (ev_const rfl))⟩
 | succ d ih =>
  intro n out hn ho
  have hv : ((dget m (cellKey (cellAt l n))).getD (0, 0, 0)).1 = (dice.getD n z86).f0 := by
   by_cases h : (n : Int) ∈ ids
   ·rw [hS.inn n (by omega) h]
    rfl
   ·rw [(hS.out n (by omega) h).1, (hS.out n (by omega) h).2]
    rfl
  obtain ⟨h1, h2⟩ := ih (n + 1) (out ++ [(dice.getD n z86).f0]) (by omega) (by simp only [List.length_append, List.length_cons, List.length_nil]; omega)
  rw [drop_cons dice z86 n (by omega), List.map_cons, show out ++ (dice.getD n z86).f0 :: (dice.drop (n + 1)).map (fun s => s.f0) = (out ++ [(dice.getD n z86).f0]) ++ (dice.drop (n + 1)).map (fun s => s.f0) by simp]
  constructor
  ·refine Ev.step (f := fun _ => _) (fun k => by simp only [impl_faces.l2]; rfl) (ev_pos (by omega) (ev_pos (by omega) (ev_pos (by omega) ?_)))
   rw [wrap_succ n (by omega), show (dget m (cellKeyF (rd_T56 l (n : Int)))) = dget m (cellKey (cellAt l n)) from rfl, hv]
   exact h1
  ·refine Ev.step (f := fun _ => _) (fun k => by simp only [spec_l32Faces.l2]; rfl) (ev_pos (by omega) (ev_pos (by omega) (ev_pos (by omega) ?_)))
   rw [wrap_succ n (by omega)]
   exact h2
theorem faces0 (l : List S56) (hs : Shape l) (M : Nat) : ∀ (t : Nat) (ids : List Int) (dice : List S86) (m : List ((Int × Int) × (Int × Int × Int))), 2 * left l.length ids + (ids.length - t) ≤ M → t ≤ ids.length → BW l ids dice t 0 → Sim l ids dice m →
  ∃ F, (∃ ids' dice', BW l ids' dice' ids'.length 0 ∧ dice'.length = l.length ∧ F = dice'.map (fun s => s.f0)) ∧ F.length = l.length ∧ Ev (fun k => impl_faces.l0 k l m (cellsOf l ids) t) F ∧ Ev (fun k => spec_l32Faces.l0 k l ids dice t) F := by
 have hN := hs.le
 induction M with
 | zero =>
  intro t ids dice m hM ht hW hS
  have hfew := hS.few
  obtain ⟨h1, h2⟩ := out_impl l hs ids dice m hS l.length 0 [] (by omega) rfl
  have hcl : (cellsOf l ids).length = ids.length := List.length_map _
  obtain rfl : t = ids.length := by omega
  refine ⟨_, ⟨ids, dice, hW, hS.len, by simp⟩, ?_, Ev.step (f := fun _ => _) (fun k => by simp only [impl_faces.l0]; rfl) (ev_neg (by omega) h1), Ev.step (f := fun _ => _) (fun k => by simp only [spec_l32Faces.l0]; rfl) (ev_neg (by omega) h2)⟩
  simp [hS.len]
 | succ M ih =>
  intro t ids dice m hM ht hW hS
  have hfew := hS.few
  have hcl : (cellsOf l ids).length = ids.length := List.length_map _
  by_cases e : t = ids.length
  ·obtain ⟨h1, h2⟩ := out_impl l hs ids dice m hS l.length 0 [] (by omega) rfl
   subst e
   refine ⟨_, ⟨ids, dice, hW, hS.len, by simp⟩, ?_, Ev.step (f := fun _ => _) (fun k => by simp only [impl_faces.l0]; rfl) (ev_neg (by omega) h1), Ev.step (f := fun _ => _) (fun k => by simp only [spec_l32Faces.l0]; rfl) (ev_neg (by omega) h2)⟩
   simp [hS.len]
  ·have hmem := hS.mem _ (getD_mem ids 0 t (by omega))
   obtain ⟨q0, hq0⟩ := Int.eq_ofNat_of_zero_le hmem.1
   obtain ⟨ids', dice', m', h0, h1, h2, h3, h3', h4, h5⟩ := faces1 l hs t q0 (by omega) 4 0 ids dice m rfl (by omega) hq0 hW hS
   obtain ⟨F, g0, g1, g2, g3⟩ := ih (t + 1) ids' dice' m' (by omega) (by omega) (BW.turn _ _ _ h0) h1
   refine ⟨F, g0, g1, ?_, ?_⟩
   ·exact Ev.step (f := fun _ => _) (fun k => by simp only [impl_faces.l0]; rfl) (ev_pos (by omega) (h4 F g2))
   ·refine Ev.step (f := fun _ => _) (fun k => by simp only [spec_l32Faces.l0]; rfl) (ev_pos (by omega) (ev_pos (by omega) ?_))
    rw [show rd ids (t : Int) = ids.getD t 0 from rfl, hq0]
    exact ev_pos (by omega) (ev_pos (by omega) (h5 F g3))
theorem range_left (n : Nat) (ids : List Int) : left n ids ≤ n := by
 have : left n ids ≤ (List.range n).length := List.countP_le_length
 simpa using this
theorem faces_bothW (l : List S56) (hs : Shape l) : ∃ F, (∃ ids dice, BW l ids dice ids.length 0 ∧ dice.length = l.length ∧ F = dice.map (fun s => s.f0)) ∧ F.length = l.length ∧ Ev (fun k => impl_faces.f k l) F ∧ Ev (fun k => spec_l32Faces.f k l) F := by
 have hN := hs.le
 have hpos := hs.pos
 have hz : ∀ q : Nat, (List.replicate l.length z86).getD q z86 = z86 := fun q => by
  rw [List.getD_eq_getElem?_getD]
  cases h : (List.replicate l.length z86)[q]? with
  | none => rfl
  | some v => exact (List.eq_of_mem_replicate (List.mem_of_getElem? h))
 have hS : Sim l [0] ((List.replicate l.length z86).set 0 ⟨0, 1, 2⟩) [(cellKey (cellAt l 0), (0, 1, 2))] := by
  refine ⟨by simp, fun q hq => ?_, fun q hq hm => ?_, fun q hq hm => ?_, fun p hp => ?_, ?_⟩
  ·rw [List.mem_singleton.1 hq]; omega
  ·have : q = 0 := by have := List.mem_singleton.1 hm; omega
   subst this
   rw [dget, if_pos rfl, getD_setD _ _ _ _ (by simp; omega), if_pos rfl]
   rfl
  ·have e : q ≠ 0 := fun h => hm (by rw [h]; simp)
   rw [dget, if_neg (fun h => e (hs.apart q 0 hq (by omega) h)), dget, getD_setD _ _ _ _ (by simp; omega), if_neg e]
   exact ⟨rfl, hz q⟩
  ·rw [dget, if_neg (fun h => hp 0 (by omega) h.symm)]
   rfl
  ·have := range_left l.length [0]
   simp only [List.length_cons, List.length_nil]
   omega
 obtain ⟨F, h0, h1, h2, h3⟩ := faces0 l hs _ 0 [0] _ _ (Nat.le_refl _) (by simp) BW.start hS
 refine ⟨F, h0, h1, ev_pos ⟨⟨by omega, by omega⟩, fun c hc => ?_⟩ h2, ?_⟩
 ·obtain ⟨i, hi, rfl⟩ := List.getElem_of_mem hc
  have := hs.near i hi
  have e : l[i] = cellAt l i := by rw [show cellAt l i = l.getD i z56 from rfl, List.getD_eq_getElem?_getD, List.getElem?_eq_getElem hi]; rfl
  rw [e]
  exact ⟨⟨by omega, by omega⟩, by omega, by omega⟩
 ·refine ev_pos (by omega) (ev_pos (by simp only [Int.toNat_natCast]; omega) (ev_some rfl (ev_pos (by simp only [Int.toNat_natCast, List.length_replicate]; omega) ?_)))
  rw [Int.toNat_natCast]
  exact h3
theorem faces_both (l : List S56) (hs : Shape l) : ∃ F, F.length = l.length ∧ Ev (fun k => impl_faces.f k l) F ∧ Ev (fun k => spec_l32Faces.f k l) F := by
 obtain ⟨F, _, h⟩ := faces_bothW l hs
 exact ⟨F, h⟩
def PermB (F : List Int) : Prop := ∀ i : Nat, i < F.length → (0 ≤ F.getD i 0 ∧ F.getD i 0 < (F.length : Int)) ∧ ∀ j : Nat, j < F.length → i ≠ j → F.getD i 0 ≠ F.getD j 0
theorem perm_loop (F : List Int) (hF : F.length ≤ 64) (d : Nat) : ∀ (n : Nat) (s1 s2 : List Bool), n + d = F.length → s1.length = 64 → s2.length = F.length → (∀ q : Nat, q < F.length → s1.getD q false = s2.getD q false) →
  ∃ b, Ev (fun k => impl_IsPermutation.l0 k F s1 n) b ∧ Ev (fun k => spec_IsPermutation.l0 k F s2 n) b ∧ (b = true → ∀ i : Nat, n ≤ i → i < F.length → (0 ≤ F.getD i 0 ∧ F.getD i 0 < (F.length : Int) ∧ s1.getD (F.getD i 0).toNat false = false) ∧ ∀ j : Nat, i < j → j < F.length → F.getD i 0 ≠ F.getD j 0) := by
 induction d with
 | zero =>
  intro n s1 s2 hn h1 h2 h3
  refine ⟨true, Ev.step (f := fun _ => _) (fun k => by simp only [impl_IsPermutation.l0]; rfl) (ev_neg (by omega) (ev_const rfl)), Ev.step (f := fun _ => _) (fun k => by simp only [spec_IsPermutation.l0]; rfl) (ev_neg (by omega) (ev_const ?_)), fun _ i h1 h2 => by omega⟩
  rw [decide_eq_true (by omega)]
 | succ d ih =>
  intro n s1 s2 hn h1 h2 h3
  have hw : wrap64 ((F.length : Int) - 1) = (F.length : Int) - 1 := wrap_id _ (by omega) (by omega)
  by_cases hr : 0 ≤ rd F (n : Int) ∧ rd F (n : Int) ≤ (F.length : Int) - 1
  ·obtain ⟨v, hv⟩ := Int.eq_ofNat_of_zero_le hr.1
   have hin : (decide ((0 : Int) ≤ rd F (n : Int)) && decide (rd F (n : Int) ≤ wrap64 ((F.length : Int) - 1))) = true := by rw [hw, decide_eq_true hr.1, decide_eq_true hr.2]; rfl
   have hv' : v < F.length := by omega
   cases hs : s1.getD v false with
   | true =>
    refine ⟨false, ?_, ?_, fun h => by cases h⟩
    ·refine Ev.step (f := fun _ => _) (fun k => by simp only [impl_IsPermutation.l0]; rfl) ?_
     exact ev_pos (by omega) (ev_pos (by omega) (ev_some ((within_valC _ _ _).trans (congrArg some hin)) (ev_pos rfl (ev_pos ⟨hr.1, by omega⟩ (ev_pos (by rw [hv, Int.toNat_natCast]; exact hs) (ev_const rfl))))))
    ·refine Ev.step (f := fun _ => _) (fun k => by simp only [spec_IsPermutation.l0]; rfl) ?_
     exact ev_pos (by omega) (ev_pos (by omega) (ev_some ((in_valC _ _ _).trans (congrArg some hin)) (ev_pos rfl (ev_pos hr.1 (ev_pos (by omega) (ev_pos (by rw [hv]; exact (h3 v hv').symm.trans hs) (ev_const rfl)))))))
   | false =>
    obtain ⟨b, g1, g2, g3⟩ := ih (n + 1) (s1.set v true) (s2.set v true) (by omega) (by simpa using h1) (by simpa using h2) (fun q hq => by
     rw [List.getD_eq_getElem?_getD, List.getD_eq_getElem?_getD, List.getElem?_set, List.getElem?_set]
     by_cases e : v = q
     ·subst e; simp [h1, h2, hv', show v < 64 by omega]
     ·rw [if_neg e, if_neg e]
      have := h3 q hq
      rw [List.getD_eq_getElem?_getD, List.getD_eq_getElem?_getD] at this
      exact this)
    have hF : F.getD n 0 = (v : Int) := hv
    refine ⟨b, ?_, ?_, fun hb i hi hi2 => ?_⟩
    ·refine Ev.step (f := fun _ => _) (fun k => by simp only [impl_IsPermutation.l0]; rfl) ?_
     refine ev_pos (by omega) (ev_pos (by omega) (ev_some ((within_valC _ _ _).trans (congrArg some hin)) (ev_pos rfl (ev_pos ⟨hr.1, by omega⟩ (ev_neg (by rw [hv, Int.toNat_natCast, hs]; simp) ?_)))))
     rw [hv, Int.toNat_natCast, wrap_succ n (by omega)]
     exact g1
    ·refine Ev.step (f := fun _ => _) (fun k => by simp only [spec_IsPermutation.l0]; rfl) ?_
     refine ev_pos (by omega) (ev_pos (by omega) (ev_some ((in_valC _ _ _).trans (congrArg some hin)) (ev_pos rfl (ev_pos hr.1 (ev_pos (by omega) (ev_neg (by rw [hv, show rdOf false s2 (v : Int) = s2.getD v false from rfl, ← h3 v hv', hs]; simp) ?_))))))
     rw [hv, Int.toNat_natCast, wrap_succ n (by omega)]
     exact g2
    ·have hset : ∀ q : Nat, (s1.set v true).getD q false = false → q ≠ v ∧ s1.getD q false = false := fun q hq => by
      rw [List.getD_eq_getElem?_getD, List.getElem?_set] at hq
      by_cases e : v = q
      ·subst e; simp [h1, show v < 64 by omega] at hq
      ·rw [if_neg e] at hq
       exact ⟨fun x => e x.symm, by rw [List.getD_eq_getElem?_getD]; exact hq⟩
     by_cases e : i = n
     ·subst e
      refine ⟨⟨by omega, by omega, by rw [hF, Int.toNat_natCast]; exact hs⟩, fun j hj hj2 hc => ?_⟩
      obtain ⟨⟨a1, a2, a3⟩, _⟩ := g3 hb j (by omega) hj2
      exact (hset _ a3).1 (by rw [← hc, hF, Int.toNat_natCast])
     ·obtain ⟨⟨a1, a2, a3⟩, a4⟩ := g3 hb i (by omega) hi2
      exact ⟨⟨a1, a2, (hset _ a3).2⟩, a4⟩
  ·have hin : (decide ((0 : Int) ≤ rd F (n : Int)) && decide (rd F (n : Int) ≤ wrap64 ((F.length : Int) - 1))) = false := by
    rw [hw]
    cases h : (decide ((0 : Int) ≤ rd F (n : Int)) && decide (rd F (n : Int) ≤ (F.length : Int) - 1)) with
    | false => rfl
    | true =>
     simp only [Bool.and_eq_true, decide_eq_true_eq] at h
     exact absurd h hr
   refine ⟨false, ?_, ?_, fun h => by cases h⟩
   ·refine Ev.step (f := fun _ => _) (fun k => by simp only [impl_IsPermutation.l0]; rfl) ?_
    exact ev_pos (by omega) (ev_pos (by omega) (ev_some ((within_valC _ _ _).trans (congrArg some hin)) (ev_neg (by simp) (ev_const rfl))))
   ·refine Ev.step (f := fun _ => _) (fun k => by simp only [spec_IsPermutation.l0]; rfl) ?_
    exact ev_pos (by omega) (ev_pos (by omega) (ev_some ((in_valC _ _ _).trans (congrArg some hin)) (ev_neg (by simp) (ev_const rfl))))
theorem perm_both (F : List Int) (hF : F.length ≤ 64) : ∃ b, Ev (fun k => impl_IsPermutation.f k F) b ∧ Ev (fun k => spec_IsPermutation.f k F) b ∧ (b = true → PermB F) := by
 obtain ⟨b, h1, h2, h3⟩ := perm_loop F hF F.length 0 (List.replicate 64 false) (List.replicate F.length false) (by omega) (by simp) (by simp) (fun q hq => by
  rw [List.getD_eq_getElem?_getD, List.getD_eq_getElem?_getD, List.getElem?_replicate, List.getElem?_replicate, if_pos (by omega), if_pos hq])
 refine ⟨b, ev_neg (by omega) h1, ev_pos (by omega) (ev_pos (by simp only [Int.toNat_natCast]; omega) (by rw [Int.toNat_natCast]; exact h2)), fun hb i hi => ⟨⟨(h3 hb i (by omega) hi).1.1, (h3 hb i (by omega) hi).1.2.1⟩, fun j hj hij hc => ?_⟩⟩
 rcases Nat.lt_or_gt_of_ne hij with h | h
 ·exact (h3 hb i (by omega) hi).2 j h hj hc
 ·exact (h3 hb j (by omega) hj).2 i h hi hc.symm
theorem net_both (l : List S56) (hm : l.length ≤ maxLen) : ∃ b, Ev (fun k => impl_IsNet.f k l) b ∧ Ev (fun k => spec_IsNet.f k l) b ∧ (b = true → Shape l ∧ l.length = 6 ∧ ∃ F, F.length = l.length ∧ Ev (fun k => impl_faces.f k l) F ∧ Ev (fun k => spec_l32Faces.f k l) F ∧ PermB F) := by
 have jT : Ev (fun k => impl_IsNet.j0 k l true) false := by
  refine Ev.step (f := fun _ => _) (fun k => by simp only [impl_IsNet.j0]; rfl) ?_
  first | exact ev_const rfl | exact ev_pos trivial (ev_const rfl) | exact ev_pos rfl (ev_const rfl)
 obtain ⟨c, c1, c2, c3⟩ := connected_both l hm
 cases c with
 | false =>
  refine ⟨false, Ev.bind c1 (ev_neg (by simp) jT), Ev.bind c2 ?_, fun h => by cases h⟩
  exact ev_neg (by simp) (ev_const rfl)
 | true =>
  have hs := c3 rfl
  by_cases h6 : (l.length : Int) = 6
  ·obtain ⟨F, f1, f2, f3⟩ := faces_both l hs
   obtain ⟨b, b1, b2, b3⟩ := perm_both F (by have := hs.le; omega)
   have jF : Ev (fun k => impl_IsNet.j0 k l false) b := by
    refine Ev.step (f := fun _ => _) (fun k => by simp only [impl_IsNet.j0]; rfl) ?_
    first | refine Ev.bind f2 (Ev.bind b1 ?_) | refine ev_neg (by simp) (Ev.bind f2 (Ev.bind b1 ?_))
    exact ev_const rfl
   refine ⟨b, Ev.bind c1 (ev_pos rfl ?_), Ev.bind c2 (ev_pos rfl (ev_pos h6 (Ev.bind f3 (Ev.bind b2 ?_)))), fun hb => ⟨hs, by omega, F, f1, f2, f3, b3 hb⟩⟩
   ·rw [show ((l.length : Int) != 6) = false by simp [h6]]
    exact jF
   ·exact ev_const rfl
  ·refine ⟨false, Ev.bind c1 (ev_pos rfl ?_), Ev.bind c2 (ev_pos rfl ?_), fun h => by cases h⟩
   ·rw [show ((l.length : Int) != 6) = true by simp [h6]]
    exact jT
   ·exact ev_neg h6 (ev_const rfl)
def minF (f : S56 → Int) : List S56 → Int → Int
 | [], x => x
 | c :: r, x => minF f r (mn x (f c))
def minX (l : List S56) : Int := minF (·.f0) l (cellAt l 0).f0
def minY (l : List S56) : Int := minF (·.f1) l (cellAt l 0).f1
def movL (a b : Int) (l : List S56) : List S56 := l.map fun c => ⟨wrap64 (c.f0 + a), wrap64 (c.f1 + b)⟩
def normL (l : List S56) : List S56 := movL (wrap64 (-minX l)) (wrap64 (-minY l)) l
theorem minF_le (f : S56 → Int) : ∀ (l : List S56) (x : Int), minF f l x ≤ x ∧ ∀ c ∈ l, minF f l x ≤ f c
 | [], x => ⟨Int.le_refl _, by simp⟩
 | c :: r, x => by
  have h := minF_le f r (mn x (f c))
  have h1 : mn x (f c) ≤ x ∧ mn x (f c) ≤ f c := by unfold mn; split <;> omega
  rw [minF]
  refine ⟨by omega, fun d hd => ?_⟩
  rcases List.mem_cons.1 hd with rfl | hd
  ·omega
  ·exact h.2 d hd
theorem minF_in (f : S56 → Int) (lo hi : Int) : ∀ (l : List S56) (x : Int), (lo ≤ x ∧ x ≤ hi) → (∀ c ∈ l, lo ≤ f c ∧ f c ≤ hi) → lo ≤ minF f l x ∧ minF f l x ≤ hi
 | [], x, h, _ => h
 | c :: r, x, h, hc => by
  have h1 := hc c (by simp)
  exact minF_in f lo hi r _ (by unfold mn; split <;> omega) (fun d hd => hc d (by simp [hd]))
theorem mn_self (x : Int) : mn x x = x := by unfold mn; split <;> omega
theorem cell_mem (l : List S56) (i : Nat) (h : i < l.length) : cellAt l i ∈ l := getD_mem l _ i h
theorem least_loop (l : List S56) (hm : l.length ≤ maxLen) (d : Nat) : ∀ (n : Nat) (x y : Int), n + d = l.length → Ev (fun k => spec_l02Least.l0 k l x y n) (minF (·.f0) (l.drop n) x, minF (·.f1) (l.drop n) y) := by
 unfold maxLen at hm
 induction d with
 | zero =>
  intro n x y hd
  refine Ev.step (f := fun _ => _) (fun k => by simp only [spec_l02Least.l0]; rfl) (ev_neg (by omega) (ev_const ?_))
  rw [List.drop_of_length_le (by omega)]; rfl
 | succ d ih =>
  intro n x y hd
  refine Ev.step (f := fun _ => _) (fun k => by simp only [spec_l02Least.l0]; rfl) (ev_pos (by omega) (ev_pos (by omega) ?_))
  rw [wrap_succ n (by omega), drop_cons l z56 n (by omega), minF, minF]
  exact ih (n + 1) _ _ (by omega)
theorem least_val (l : List S56) (hm : l.length ≤ maxLen) (h1 : 1 ≤ l.length) : Ev (fun k => spec_l02Least.f k l) (minX l, minY l) := by
 refine ev_pos (by omega) ?_
 have h := least_loop l hm (l.length - 1) 1 (cellAt l 0).f0 (cellAt l 0).f1 (by omega)
 unfold minX minY
 have e : l = cellAt l 0 :: l.drop 1 := by
  have := drop_cons l z56 0 (by omega)
  simpa using this
 have key : ∀ f : S56 → Int, minF f l (f (cellAt l 0)) = minF f (l.drop 1) (f (cellAt l 0)) := fun f => by
  conv => lhs; rw [e, minF]
  rw [show cellAt (cellAt l 0 :: l.drop 1) 0 = cellAt l 0 from rfl, mn_self]
 rw [key (·.f0), key (·.f1)]
 exact h
theorem corner_loop (l : List S56) (hm : l.length ≤ maxLen) (d : Nat) : ∀ (n : Nat) (x y : Int), n + d = l.length → Ev (fun k => impl_corner.l0 k l (l.length : Int) n x y) (minF (·.f0) (l.drop n) x, minF (·.f1) (l.drop n) y) := by
 unfold maxLen at hm
 induction d with
 | zero =>
  intro n x y hd
  refine Ev.step (f := fun _ => _) (fun k => by simp only [impl_corner.l0]; rfl) (ev_neg (by omega) (ev_const ?_))
  rw [List.drop_of_length_le (by omega)]; rfl
 | succ d ih =>
  intro n x y hd
  refine Ev.step (f := fun _ => _) (fun k => by simp only [impl_corner.l0]; rfl) (ev_pos (by omega) (ev_pos (by omega) (ev_pos (by omega) ?_)))
  rw [wrap_succ n (by omega), drop_cons l z56 n (by omega), minF, minF]
  exact ih (n + 1) _ _ (by omega)
theorem corner_val (l : List S56) (hm : l.length ≤ maxLen) (h1 : 1 ≤ l.length) : Ev (fun k => impl_corner.f k l) (minX l, minY l) :=
 ev_pos (by omega) (corner_loop l hm l.length 0 _ _ (by omega))
theorem smove_loop (l : List S56) (a b : Int) (hm : l.length ≤ maxLen) (h8 : l.length ≤ 1000000) (d : Nat) : ∀ (n : Nat) (out : List S56), n + d = l.length → out.length = n → Ev (fun k => spec_l02Move.l0 k l a b out n) (out ++ movL a b (l.drop n)) := by
 unfold maxLen at hm
 induction d with
 | zero =>
  intro n out hd ho
  refine Ev.step (f := fun _ => _) (fun k => by simp only [spec_l02Move.l0]; rfl) (ev_neg (by omega) (ev_const ?_))
  rw [List.drop_of_length_le (by omega)]; simp [movL]
 | succ d ih =>
  intro n out hd ho
  refine Ev.step (f := fun _ => _) (fun k => by simp only [spec_l02Move.l0]; rfl) (ev_pos (by omega) (ev_pos (by omega) (ev_pos (by omega) ?_)))
  rw [wrap_succ n (by omega)]
  refine ev_eq (ih (n + 1) _ (by omega) (by simp [ho])) ?_
  rw [drop_cons l z56 n (by omega)]
  simp [movL]; exact ⟨rfl, rfl⟩
theorem imove_loop (l : List S56) (a b : Int) (hm : l.length ≤ maxLen) (h8 : l.length ≤ 1000000) (d : Nat) : ∀ (n : Nat) (out : List S56), n + d = l.length → out.length = n → Ev (fun k => impl_moved.l0 k a b out l (l.length : Int) n) (out ++ movL a b (l.drop n)) := by
 unfold maxLen at hm
 induction d with
 | zero =>
  intro n out hd ho
  refine Ev.step (f := fun _ => _) (fun k => by simp only [impl_moved.l0]; rfl) (ev_neg (by omega) (ev_const ?_))
  rw [List.drop_of_length_le (by omega)]; simp [movL]
 | succ d ih =>
  intro n out hd ho
  refine Ev.step (f := fun _ => _) (fun k => by simp only [impl_moved.l0]; rfl) (ev_pos (by omega) (ev_pos (by omega) (ev_pos (by omega) (ev_pos (by omega) ?_))))
  rw [wrap_succ n (by omega)]
  refine ev_eq (ih (n + 1) _ (by omega) (by simp [ho])) ?_
  rw [drop_cons l z56 n (by omega)]
  simp [movL]; exact ⟨rfl, rfl⟩
theorem snormal_val (l : List S56) (hm : l.length ≤ 1000000) (h1 : 1 ≤ l.length) : Ev (fun k => spec_l02Normal.f k l) (normL l) := by
 have hm' : l.length ≤ maxLen := by unfold maxLen; omega
 refine Ev.bind (least_val l hm' h1) (Ev.bind (a := normL l) ?_ (ev_const rfl))
 exact ev_eq (smove_loop l _ _ hm' hm l.length 0 [] (by omega) rfl) (by simp [normL])
theorem inormal_val (l : List S56) (hm : l.length ≤ 1000000) (h1 : 1 ≤ l.length) : Ev (fun k => impl_normal.f k l) (normL l) := by
 have hm' : l.length ≤ maxLen := by unfold maxLen; omega
 refine Ev.bind (corner_val l hm' h1) (Ev.bind (a := normL l) ?_ (ev_const rfl))
 refine ev_pos (by omega) (ev_pos (by omega) ?_)
 exact ev_eq (imove_loop l _ _ hm' hm l.length 0 [] (by omega) rfl) (by simp [normL])
theorem normL_len (l : List S56) : (normL l).length = l.length := by simp [normL, movL]
structure Shp (l : List S56) : Prop where
 pos : 1 ≤ l.length
 le : l.length ≤ 40
 near : ∀ c ∈ l, (-100 ≤ c.f0 ∧ c.f0 ≤ 100) ∧ (-100 ≤ c.f1 ∧ c.f1 ≤ 100)
 rise : ∀ i j, i < j → j < l.length → lessB (cellAt l i) (cellAt l j) = true
theorem shapeFrom_iff (l : List S56) : ∀ d n : Nat, shapeFrom l d n = true ↔ ((∀ i, n ≤ i → i < n + d → okAtB l i = true) ∧ 1 ≤ l.length ∧ l.length ≤ 40)
 | 0, n => by
  simp only [shapeFrom, Bool.and_eq_true, decide_eq_true_eq]
  exact ⟨fun h => ⟨fun i h1 h2 => by omega, h.1, h.2⟩, fun h => h.2⟩
 | d + 1, n => by
  simp only [shapeFrom, Bool.and_eq_true]
  rw [shapeFrom_iff l d (n + 1)]
  constructor
  ·intro h
   refine ⟨fun i h3 h4 => ?_, h.2.2⟩
   by_cases e : i = n
   ·subst e; exact h.1
   ·exact h.2.1 i (by omega) (by omega)
  ·intro h
   exact ⟨h.1 n (Nat.le_refl _) (by omega), fun i h3 h4 => h.1 i (by omega) (by omega), h.2⟩
theorem shp_iff (l : List S56) : isShapeB l = true ↔ Shp l := by
 unfold isShapeB
 rw [shapeFrom_iff]
 constructor
 ·rintro ⟨h1, h2, h3⟩
  have hok : ∀ i, i < l.length → okAtB l i = true := fun i hi => h1 i (by omega) (by omega)
  have hless : ∀ j i, i < j → j < l.length → lessB (cellAt l i) (cellAt l j) = true := by
   intro j
   induction j with
   | zero => intro i hi; omega
   | succ j ih =>
    intro i hi hj
    have h4 := hok (j + 1) hj
    simp only [okAtB, Bool.and_eq_true, Bool.or_eq_true, decide_eq_true_eq, Nat.add_sub_cancel] at h4
    have h5 : lessB (cellAt l j) (cellAt l (j + 1)) = true := by
     rcases h4.2 with h6 | h6
     ·omega
     ·exact h6
    by_cases e : i = j
    ·subst e; exact h5
    ·have h6 := ih i (by omega) (by omega)
     rw [less_iff] at *
     omega
  refine ⟨h2, h3, fun c hc => ?_, fun i j => hless j i⟩
  obtain ⟨i, hi, rfl⟩ := List.getElem_of_mem hc
  have h4 := hok i hi
  have e : cellAt l i = l[i] := by show l.getD i _ = _; rw [List.getD_eq_getElem?_getD, List.getElem?_eq_getElem hi, Option.getD_some]
  rw [okAtB, e] at h4
  simp only [inR, Bool.and_eq_true, decide_eq_true_eq] at h4
  exact ⟨⟨h4.1.1.1, h4.1.1.2⟩, h4.1.2.1, h4.1.2.2⟩
 ·intro h
  refine ⟨fun i _ hi => ?_, h.pos, h.le⟩
  have hn := h.near _ (cell_mem l i (by omega))
  unfold okAtB inR
  rw [decide_eq_true hn.1.1, decide_eq_true hn.1.2, decide_eq_true hn.2.1, decide_eq_true hn.2.2]
  by_cases h0 : i = 0
  ·simp [h0]
  ·rw [h.rise (i - 1) i (by omega) (by omega)]; simp
theorem Shp.apart {l : List S56} (h : Shp l) (i j : Nat) (hi : i < l.length) (hj : j < l.length) (e0 : (cellAt l i).f0 = (cellAt l j).f0) (e1 : (cellAt l i).f1 = (cellAt l j).f1) : i = j := by
 rcases Nat.lt_trichotomy i j with h4 | h4 | h4
 ·have := (less_iff _ _).1 (h.rise i j h4 hj)
  omega
 ·exact h4
 ·have := (less_iff _ _).1 (h.rise j i h4 hi)
  omega
def leC (x y : S56) : Prop := ltC y x = false
theorem leC_iff (x y : S56) : leC x y ↔ x.f1 < y.f1 ∨ (x.f1 = y.f1 ∧ x.f0 ≤ y.f0) := by
 unfold leC
 rw [Bool.eq_false_iff, Ne, ltC_iff]
 omega
theorem leC_anti (x y : S56) (h1 : leC x y) (h2 : leC y x) : x = y := ltC_total x y (by rw [cfC_lt]; exact h2) (by rw [cfC_lt]; exact h1)
theorem sortC_perm (l : List S56) : (sortC l).Perm l := List.mergeSort_perm l _
theorem sortC_sorted (l : List S56) : (sortC l).Pairwise leC := by
 refine (List.pairwise_mergeSort (le := fun x y => !(ltOf cfC) y x) (fun a b c h1 h2 => ?_) (fun a b => ?_) l).imp (fun {a b} h => ?_)
 ·simp only [cfC_lt, Bool.not_eq_true'] at h1 h2 ⊢
  have h1' := (leC_iff a b).1 h1
  have h2' := (leC_iff b c).1 h2
  exact (leC_iff a c).2 (by omega)
 ·simp only [cfC_lt, Bool.or_eq_true, Bool.not_eq_true']
  have e1 := leC_iff a b
  have e2 := leC_iff b a
  unfold leC at e1 e2
  rw [e1, e2]
  omega
 ·have h2 : ltC b a = false := by simpa [cfC_lt] using h
  exact h2
theorem sort_unique {l l' : List S56} (hp : l.Perm l') (h : l.Pairwise leC) (h' : l'.Pairwise leC) : l = l' := List.Perm.eq_of_pairwise (fun a b _ _ => leC_anti a b) h h' hp
theorem sortC_of_sorted {l : List S56} (h : l.Pairwise leC) : sortC l = l := sort_unique (sortC_perm l) (sortC_sorted l) h
theorem sortC_len (l : List S56) : (sortC l).length = l.length := (sortC_perm l).length_eq
def insC (c : S56) : List S56 → List S56
 | [] => [c]
 | x :: r => if ltC c x = true then c :: x :: r else x :: insC c r
theorem insC_perm (c : S56) : ∀ l : List S56, (insC c l).Perm (c :: l)
 | [] => List.Perm.refl _
 | x :: r => by
  rw [insC]
  split
  ·exact List.Perm.refl _
  ·exact ((insC_perm c r).cons x).trans (List.Perm.swap c x r)
theorem insC_sorted (c : S56) : ∀ l : List S56, l.Pairwise leC → (insC c l).Pairwise leC
 | [], _ => by simp [insC]
 | x :: r, h => by
  rw [List.pairwise_cons] at h
  rw [insC]
  split
  ·rename_i hc
   have hcx := (ltC_iff c x).1 hc
   refine List.pairwise_cons.2 ⟨fun y hy => ?_, List.pairwise_cons.2 h⟩
   rcases List.mem_cons.1 hy with rfl | hy
   ·exact (leC_iff _ _).2 (by omega)
   ·have := (leC_iff x y).1 (h.1 y hy)
    exact (leC_iff _ _).2 (by omega)
  ·rename_i hc
   refine List.pairwise_cons.2 ⟨fun y hy => ?_, insC_sorted c r h.2⟩
   rcases List.mem_cons.1 ((insC_perm c r).mem_iff.1 hy) with rfl | hy
   ·simpa [leC] using hc
   ·exact h.1 y hy
def insAll : List S56 → List S56 → List S56
 | out, [] => out
 | out, x :: r => insAll (insC x out) r
theorem insAll_perm : ∀ (l out : List S56), (insAll out l).Perm (out ++ l)
 | [], out => by simp [insAll]
 | x :: r, out => by
  rw [insAll]
  refine (insAll_perm r _).trans ?_
  refine ((insC_perm x out).append_right r).trans ?_
  exact List.perm_middle.symm
theorem insAll_sorted : ∀ (l out : List S56), out.Pairwise leC → (insAll out l).Pairwise leC
 | [], _, h => h
 | x :: r, out, h => insAll_sorted r _ (insC_sorted x out h)
theorem insAll_eq (l : List S56) : insAll [] l = sortC l := sort_unique (((insAll_perm l []).trans (by simp)).trans (sortC_perm l).symm) (insAll_sorted l [] List.Pairwise.nil) (sortC_sorted l)
theorem ev_iteR {α : Type} {c : Prop} [Decidable c] {A B : Nat → Option α} {a b : α} (hA : c → Ev A a) (hB : ¬ c → Ev B b) : Ev (fun k => if c then A k else B k) (if c then a else b) := by
 by_cases h : c
 ·rw [if_pos h]; exact ev_pos h (hA h)
 ·rw [if_neg h]; exact ev_neg h (hB h)
def rot1 (c : S56) : S56 := ⟨wrap64 (-c.f1), c.f0⟩
def rotN : Nat → S56 → S56
 | 0, c => c
 | n + 1, c => rotN n (rot1 c)
def flipC (t : Int) (c : S56) : S56 := if t ≥ 4 then ⟨wrap64 (-c.f0), c.f1⟩ else c
def turnC (t : Int) (c : S56) : S56 := rotN (Int.tmod t 4).toNat (flipC t c)
def isT (t : Int) : Prop := 0 ≤ t ∧ t ≤ 7
instance (t : Int) : Decidable (isT t) := inferInstanceAs (Decidable (_ ∧ _))
theorem tmod4 (t : Int) (h : isT t) : ∃ n : Nat, n ≤ 3 ∧ Int.tmod t 4 = (n : Int) := by
 obtain ⟨h0, h7⟩ := h
 refine ⟨(t % 4).toNat, ?_, ?_⟩
 ·omega
 ·rw [Int.tmod_eq_emod_of_nonneg h0]; omega
theorem irot_loop (m : Nat) (hm : m ≤ 3) (d : Nat) : ∀ (n : Nat) (c : S56), n + d = m → Ev (fun k => impl_turnCell.l0 k m n c.f0 c.f1) ((rotN d c).f0, (rotN d c).f1) := by
 induction d with
 | zero =>
  intro n c hd
  exact Ev.step (f := fun _ => _) (fun k => by simp only [impl_turnCell.l0]; rfl) (ev_neg (by omega) (ev_const rfl))
 | succ d ih =>
  intro n c hd
  refine Ev.step (f := fun _ => _) (fun k => by simp only [impl_turnCell.l0]; rfl) (ev_pos (by omega) ?_)
  rw [wrap_succ n (by omega)]
  exact ih (n + 1) (rot1 c) (by omega)
theorem srot_loop (d : Nat) (hd : d ≤ 3) : ∀ c : S56, Ev (fun k => spec_l03Turn.l0 k (d : Int) c.f0 c.f1) ((rotN d c).f0, (rotN d c).f1) := by
 induction d with
 | zero =>
  intro c
  exact Ev.step (f := fun _ => _) (fun k => by simp only [spec_l03Turn.l0]; rfl) (ev_neg (by omega) (ev_const rfl))
 | succ d ih =>
  intro c
  refine Ev.step (f := fun _ => _) (fun k => by simp only [spec_l03Turn.l0]; rfl) (ev_pos (by omega) ?_)
  rw [show wrap64 (((d + 1 : Nat) : Int) - 1) = (d : Int) from by rw [wrap_id _ (by omega) (by omega)]; omega]
  exact ih (by omega) (rot1 c)
theorem iturn_val (t : Int) (h : isT t) (c : S56) : Ev (fun k => impl_turnCell.f k c.f0 c.f1 t) ((turnC t c).f0, (turnC t c).f1) := by
 obtain ⟨n, hn, e⟩ := tmod4 t h
 have J : ∀ c : S56, Ev (fun k => impl_turnCell.j0 k t c.f0 c.f1) ((rotN (Int.tmod t 4).toNat c).f0, (rotN (Int.tmod t 4).toNat c).f1) := fun c => by
  refine Ev.step (f := fun _ => _) (fun k => by simp only [impl_turnCell.j0]; rfl) ?_
  rw [e, Int.toNat_natCast]
  exact irot_loop n hn n 0 c (by omega)
 unfold turnC flipC
 by_cases h4 : t ≥ 4
 ·rw [if_pos h4]; exact ev_pos h4 (J ⟨wrap64 (-c.f0), c.f1⟩)
 ·rw [if_neg h4]; exact ev_neg h4 (J c)
theorem sturn_val (t : Int) (h : isT t) (c : S56) : Ev (fun k => spec_l03Turn.f k c.f0 c.f1 t) ((turnC t c).f0, (turnC t c).f1) := by
 obtain ⟨n, hn, e⟩ := tmod4 t h
 have J : ∀ c : S56, Ev (fun k => spec_l03Turn.j0 k t c.f0 c.f1) ((rotN (Int.tmod t 4).toNat c).f0, (rotN (Int.tmod t 4).toNat c).f1) := fun c => by
  refine Ev.step (f := fun _ => _) (fun k => by simp only [spec_l03Turn.j0]; rfl) ?_
  rw [e, Int.toNat_natCast]
  exact srot_loop n hn c
 unfold turnC flipC
 by_cases h4 : t ≥ 4
 ·rw [if_pos h4]; exact ev_pos h4 (J ⟨wrap64 (-c.f0), c.f1⟩)
 ·rw [if_neg h4]; exact ev_neg h4 (J c)
theorem less_ltC (a b : S56) : lessB a b = ltC a b := by
 rw [Bool.eq_iff_iff, ltC_iff]
 unfold lessB
 simp only [Bool.or_eq_true, Bool.and_eq_true, decide_eq_true_eq]
theorem insert_done (l : List S56) (c : S56) (hl : l.length ≤ 1000) (d : Nat) : ∀ (n : Nat) (out : List S56), n + d = l.length → out.length = n + 1 → Ev (fun k => spec_l02Insert.l0 k l out true n c.f0 c.f1) (out ++ l.drop n) := by
 induction d with
 | zero =>
  intro n out hd ho
  refine Ev.step (f := fun _ => _) (fun k => by simp only [spec_l02Insert.l0]; rfl) (ev_neg (by omega) (ev_pos trivial (ev_const ?_)))
  rw [List.drop_of_length_le (by omega), List.append_nil]
 | succ d ih =>
  intro n out hd ho
  refine Ev.step (f := fun _ => _) (fun k => by simp only [spec_l02Insert.l0]; rfl) (ev_pos (by omega) (ev_pos trivial (ev_pos (by omega) (ev_pos (show out.length < 8796093022208 by omega) ?_))))
  rw [wrap_succ n (by omega)]
  refine ev_eq (ih (n + 1) _ (by omega) (by simp [ho])) ?_
  rw [drop_cons l z56 n (by omega), show rd_T56 l (n : Int) = l.getD n z56 from rfl]
  simp
theorem insert_loop (l : List S56) (c : S56) (hl : l.length ≤ 1000) (d : Nat) : ∀ (n : Nat) (out : List S56), n + d = l.length → out.length = n → Ev (fun k => spec_l02Insert.l0 k l out false n c.f0 c.f1) (out ++ insC c (l.drop n)) := by
 induction d with
 | zero =>
  intro n out hd ho
  refine Ev.step (f := fun _ => _) (fun k => by simp only [spec_l02Insert.l0]; rfl) (ev_neg (by omega) (ev_neg (by decide) (ev_pos (show out.length < 8796093022208 by omega) (ev_const ?_))))
  rw [List.drop_of_length_le (by omega)]; rfl
 | succ d ih =>
  intro n out hd ho
  rw [drop_cons l z56 n (by omega), insC]
  refine Ev.step (f := fun _ => _) (fun k => by simp only [spec_l02Insert.l0]; rfl) (ev_pos (by omega) (ev_neg (by decide) (ev_pos (by omega) (ev_some (less_val _ _ _ _) ?_))))
  rw [show rd_T56 l (n : Int) = l.getD n z56 from rfl, less_ltC]
  by_cases h : ltC c (l.getD n z56) = true
  ·rw [if_pos h]
   refine ev_pos h (ev_pos (show out.length < 8796093022208 by omega) (ev_some rfl (ev_pos (by simp; omega) ?_)))
   rw [wrap_succ n (by omega)]
   refine ev_eq (insert_done l c hl d (n + 1) _ (by omega) (by simp [ho])) ?_
   simp
  ·rw [if_neg h]
   refine ev_neg h (ev_pos (show out.length < 8796093022208 by omega) ?_)
   rw [wrap_succ n (by omega)]
   refine ev_eq (ih (n + 1) _ (by omega) (by simp [ho])) ?_
   simp
theorem insert_val (l : List S56) (c : S56) (hl : l.length ≤ 1000) : Ev (fun k => spec_l02Insert.f k l c.f0 c.f1) (insC c l) := insert_loop l c hl l.length 0 [] (by omega) rfl
theorem insC_len (c : S56) (l : List S56) : (insC c l).length = l.length + 1 := (insC_perm c l).length_eq
theorem ssort_loop (l : List S56) (hl : l.length ≤ 500) (d : Nat) : ∀ (n : Nat) (out : List S56), n + d = l.length → out.length = n → Ev (fun k => spec_l02Sort.l0 k l out n) (insAll out (l.drop n)) := by
 induction d with
 | zero =>
  intro n out hd ho
  refine Ev.step (f := fun _ => _) (fun k => by simp only [spec_l02Sort.l0]; rfl) (ev_neg (by omega) (ev_const ?_))
  rw [List.drop_of_length_le (by omega)]; rfl
 | succ d ih =>
  intro n out hd ho
  rw [drop_cons l z56 n (by omega), insAll]
  refine Ev.step (f := fun _ => _) (fun k => by simp only [spec_l02Sort.l0]; rfl) (ev_pos (by omega) (ev_pos (by omega) (Ev.bind (insert_val out _ (by omega)) ?_)))
  rw [wrap_succ n (by omega)]
  exact ih (n + 1) _ (by omega) (by rw [insC_len, ho])
theorem ssort_val (l : List S56) (hl : l.length ≤ 500) : Ev (fun k => spec_l02Sort.f k l) (sortC l) := by
 rw [← insAll_eq]
 exact ssort_loop l hl l.length 0 [] (by omega) rfl
def formL (t : Int) (l : List S56) : List S56 := normL (sortC (l.map (turnC t)))
theorem iform_loop (l : List S56) (t : Int) (h : isT t) (h1 : 1 ≤ l.length) (hl : l.length ≤ 500) (d : Nat) : ∀ (n : Nat) (out : List S56), n + d = l.length → out.length = n → Ev (fun k => impl_form.l0 k t out l (l.length : Int) n) (normL (sortC (out ++ (l.drop n).map (turnC t)))) := by
 induction d with
 | zero =>
  intro n out hd ho
  rw [List.drop_of_length_le (by omega), List.map_nil, List.append_nil]
  refine Ev.step (f := fun _ => _) (fun k => by simp only [impl_form.l0]; rfl) (ev_neg (by omega) (ev_some (a := sortC out) ?_ (Ev.bind (inormal_val (sortC out) (by rw [sortC_len]; omega) (by rw [sortC_len]; omega)) (ev_const rfl))))
  unfold impl_sorted.f
  rw [if_pos ⟨by omega, by omega⟩]
 | succ d ih =>
  intro n out hd ho
  refine Ev.step (f := fun _ => _) (fun k => by simp only [impl_form.l0]; rfl) (ev_pos (by omega) (ev_pos (by omega) (ev_pos (by omega) (Ev.bind (iturn_val t h _) (ev_pos (show out.length < 8796093022208 by omega) ?_)))))
  rw [wrap_succ n (by omega)]
  refine ev_eq (ih (n + 1) _ (by omega) (by simp [ho])) ?_
  rw [drop_cons l z56 n (by omega), show rd_T56 l (n : Int) = l.getD n z56 from rfl]
  simp
theorem iform_val (l : List S56) (t : Int) (h : isT t) (h1 : 1 ≤ l.length) (hl : l.length ≤ 500) : Ev (fun k => impl_form.f k l t) (formL t l) :=
 ev_pos (by omega) (ev_pos (by omega) (ev_eq (iform_loop l t h h1 hl l.length 0 [] (by omega) rfl) (by simp [formL])))
theorem sform_loop (l : List S56) (t : Int) (h : isT t) (h1 : 1 ≤ l.length) (hl : l.length ≤ 500) (d : Nat) : ∀ (n : Nat) (out : List S56), n + d = l.length → out.length = n → Ev (fun k => spec_l03Form.l0 k l t out n) (normL (sortC (out ++ (l.drop n).map (turnC t)))) := by
 induction d with
 | zero =>
  intro n out hd ho
  rw [List.drop_of_length_le (by omega), List.map_nil, List.append_nil]
  exact Ev.step (f := fun _ => _) (fun k => by simp only [spec_l03Form.l0]; rfl) (ev_neg (by omega) (Ev.bind (ssort_val out (by omega)) (Ev.bind (snormal_val (sortC out) (by rw [sortC_len]; omega) (by rw [sortC_len]; omega)) (ev_const rfl))))
 | succ d ih =>
  intro n out hd ho
  refine Ev.step (f := fun _ => _) (fun k => by simp only [spec_l03Form.l0]; rfl) (ev_pos (by omega) (ev_pos (by omega) (Ev.bind (sturn_val t h _) (ev_pos (show out.length < 8796093022208 by omega) ?_))))
  rw [wrap_succ n (by omega)]
  refine ev_eq (ih (n + 1) _ (by omega) (by simp [ho])) ?_
  rw [drop_cons l z56 n (by omega), show rd_T56 l (n : Int) = l.getD n z56 from rfl]
  simp
theorem sform_val (l : List S56) (t : Int) (h : isT t) (h1 : 1 ≤ l.length) (hl : l.length ≤ 500) : Ev (fun k => spec_l03Form.f k l t) (formL t l) :=
 ev_eq (sform_loop l t h h1 hl l.length 0 [] (by omega) rfl) (by simp [formL])
def codeS (l : List S56) : Int := if isShapeB l = true then (if isShapeB (normL l) = true then 0 else 3) else 1
theorem icodeS_val (l : List S56) (hm : l.length ≤ maxLen) : Ev (fun k => impl_shapeCode.f k l) (codeS l) := by
 unfold codeS
 refine Ev.bind (impl_shape_val l hm) (ev_iteR (fun h => ?_) (fun _ => ev_const rfl))
 have hs := (shp_iff l).1 h
 exact Ev.bind (inormal_val l (by have := hs.le; omega) hs.pos) (Ev.bind (impl_shape_val (normL l) (by rw [normL_len]; exact hm)) (ev_iteR (fun _ => ev_const rfl) (fun _ => ev_const rfl)))
def nearC (b : Int) (l : List S56) : Prop := ∀ c ∈ l, (-b ≤ c.f0 ∧ c.f0 ≤ b) ∧ (-b ≤ c.f1 ∧ c.f1 ≤ b)
def tI (t : Int) (c : S56) : S56 := if t = 0 then c else if t = 1 then ⟨-c.f1, c.f0⟩ else if t = 2 then ⟨-c.f0, -c.f1⟩ else if t = 3 then ⟨c.f1, -c.f0⟩ else if t = 4 then ⟨-c.f0, c.f1⟩ else if t = 5 then ⟨-c.f1, -c.f0⟩ else if t = 6 then ⟨c.f0, -c.f1⟩ else ⟨c.f1, c.f0⟩
theorem isT_cases {t : Int} (h : isT t) : t = 0 ∨ t = 1 ∨ t = 2 ∨ t = 3 ∨ t = 4 ∨ t = 5 ∨ t = 6 ∨ t = 7 := by
 obtain ⟨h0, h7⟩ := h
 omega
theorem neg_wrap (x : Int) (h : -1000000 ≤ x ∧ x ≤ 1000000) : wrap64 (-x) = -x := wrap_id _ (by omega) (by omega)
theorem turnC_tI (t : Int) (h : isT t) (c : S56) (h0 : -1000000 ≤ c.f0 ∧ c.f0 ≤ 1000000) (h1 : -1000000 ≤ c.f1 ∧ c.f1 ≤ 1000000) : turnC t c = tI t c := by
 obtain ⟨x, y⟩ := c
 simp only at h0 h1
 have e0 := neg_wrap x h0
 have e1 := neg_wrap y h1
 have e2 := neg_wrap (-x) (by omega)
 have e3 := neg_wrap (-y) (by omega)
 rw [Int.neg_neg] at e2 e3
 rcases isT_cases h with rfl | rfl | rfl | rfl | rfl | rfl | rfl | rfl
 ·rfl
 ·show (⟨wrap64 (-y), x⟩ : S56) = ⟨-y, x⟩; rw [e1]
 ·show (⟨wrap64 (-x), wrap64 (-y)⟩ : S56) = ⟨-x, -y⟩; rw [e0, e1]
 ·show (⟨wrap64 (-wrap64 (-y)), wrap64 (-x)⟩ : S56) = ⟨y, -x⟩; rw [e0, e1, Int.neg_neg, wrap_id y (by omega) (by omega)]
 ·show (⟨wrap64 (-x), y⟩ : S56) = ⟨-x, y⟩; rw [e0]
 ·show (⟨wrap64 (-y), wrap64 (-x)⟩ : S56) = ⟨-y, -x⟩; rw [e0, e1]
 ·show (⟨wrap64 (-wrap64 (-x)), wrap64 (-y)⟩ : S56) = ⟨x, -y⟩; rw [e0, e1, Int.neg_neg, wrap_id x (by omega) (by omega)]
 ·show (⟨wrap64 (-wrap64 (-y)), wrap64 (-wrap64 (-x))⟩ : S56) = ⟨y, x⟩; rw [e0, e1, Int.neg_neg, Int.neg_neg, wrap_id x (by omega) (by omega), wrap_id y (by omega) (by omega)]
theorem tI_inj (t : Int) (h : isT t) (c d : S56) (e : tI t c = tI t d) : c = d := by
 obtain ⟨x, y⟩ := c
 obtain ⟨v, w⟩ := d
 rcases isT_cases h with rfl | rfl | rfl | rfl | rfl | rfl | rfl | rfl <;> simp [tI] at e ⊢ <;> omega
theorem tI_near (t : Int) (h : isT t) (b : Int) (l : List S56) (hl : nearC b l) : nearC b (l.map (tI t)) := by
 intro d hd
 obtain ⟨c, hc, rfl⟩ := List.mem_map.1 hd
 have := hl c hc
 rcases isT_cases h with rfl | rfl | rfl | rfl | rfl | rfl | rfl | rfl <;> simp [tI] <;> omega
def subC (u c : S56) : S56 := ⟨c.f0 - u.f0, c.f1 - u.f1⟩
def cornC (l : List S56) : S56 := ⟨minX l, minY l⟩
theorem near_corn (b : Int) (l : List S56) (h1 : 1 ≤ l.length) (h : nearC b l) : (-b ≤ minX l ∧ minX l ≤ b) ∧ (-b ≤ minY l ∧ minY l ≤ b) := by
 have h0 := h _ (cell_mem l 0 h1)
 exact ⟨minF_in _ _ _ l _ h0.1 (fun c hc => (h c hc).1), minF_in _ _ _ l _ h0.2 (fun c hc => (h c hc).2)⟩
theorem normL_sub (l : List S56) (h1 : 1 ≤ l.length) (h : nearC 1000000 l) : normL l = l.map (subC (cornC l)) := by
 have hl := near_corn _ l h1 h
 unfold normL movL
 refine List.map_congr_left (fun c hc => ?_)
 have hn := h c hc
 rw [wrap_id (-minX l) (by omega) (by omega), wrap_id (-minY l) (by omega) (by omega), wrap_id _ (by omega) (by omega), wrap_id _ (by omega) (by omega)]
 unfold subC cornC
 congr 1 <;> (simp only; omega)
theorem minF_sub (f g : S56 → Int) (m : Int) (u : S56) (hf : ∀ c, f (subC u c) = f c - m) : ∀ (l : List S56) (x : Int), minF f (l.map (subC u)) (x - m) = minF f l x - m
 | [], x => rfl
 | c :: r, x => by
  rw [List.map_cons, minF, minF, hf, ← minF_sub f g m u hf r]
  congr 1
  unfold mn
  split <;> split <;> omega
theorem corn_sub (u : S56) (l : List S56) (h1 : 1 ≤ l.length) : cornC (l.map (subC u)) = subC u (cornC l) := by
 have e : cellAt (l.map (subC u)) 0 = subC u (cellAt l 0) := by
  cases l with
  | nil => simp at h1
  | cons c r => rfl
 unfold cornC minX minY
 rw [e]
 show _ = (⟨minF (·.f0) l (cellAt l 0).f0 - u.f0, minF (·.f1) l (cellAt l 0).f1 - u.f1⟩ : S56)
 rw [← minF_sub (·.f0) (·.f0) u.f0 u (fun _ => rfl), ← minF_sub (·.f1) (·.f1) u.f1 u (fun _ => rfl)]
 rfl
theorem sub_sub (u c d : S56) : subC (subC u c) (subC u d) = subC c d := by
 unfold subC
 congr 1 <;> (simp only; omega)
theorem norm_moved (u : S56) (l : List S56) (h1 : 1 ≤ l.length) : (l.map (subC u)).map (subC (cornC (l.map (subC u)))) = l.map (subC (cornC l)) := by
 rw [corn_sub u l h1, List.map_map]
 exact List.map_congr_left (fun c _ => sub_sub u (cornC l) c)
theorem near_perm {b : Int} {l l' : List S56} (h : l.Perm l') (hl : nearC b l') : nearC b l := fun c hc => hl c (h.mem_iff.1 hc)
theorem map_turn (t : Int) (h : isT t) (l : List S56) (hl : nearC 1000000 l) : l.map (turnC t) = l.map (tI t) := List.map_congr_left (fun c hc => turnC_tI t h c (hl c hc).1 (hl c hc).2)
theorem formL_eq (t : Int) (h : isT t) (l : List S56) (h1 : 1 ≤ l.length) (hl : nearC 1000000 l) : formL t l = (sortC (l.map (tI t))).map (subC (cornC (sortC (l.map (tI t))))) := by
 unfold formL
 rw [map_turn t h l hl]
 exact normL_sub _ (by rw [sortC_len]; simpa using h1) (near_perm (sortC_perm _) (tI_near t h _ l hl))
theorem Shp.nodup {l : List S56} (h : Shp l) : l.Nodup := by
 rw [List.nodup_iff_pairwise_ne, List.pairwise_iff_getElem]
 intro i j hi hj hij e
 have := (less_iff _ _).1 (h.rise i j hij hj)
 have e1 : cellAt l i = l[i] := by show l.getD i _ = _; rw [List.getD_eq_getElem?_getD, List.getElem?_eq_getElem hi, Option.getD_some]
 have e2 : cellAt l j = l[j] := by show l.getD j _ = _; rw [List.getD_eq_getElem?_getD, List.getElem?_eq_getElem hj, Option.getD_some]
 rw [e1, e2, e] at this
 omega
theorem shp_of {l : List S56} (h1 : 1 ≤ l.length) (h40 : l.length ≤ 40) (hn : nearC 100 l) (hs : l.Pairwise leC) (hd : l.Nodup) : Shp l := by
 refine ⟨h1, h40, hn, fun i j hij hj => ?_⟩
 have hi : i < l.length := by omega
 have e1 : cellAt l i = l[i] := by show l.getD i _ = _; rw [List.getD_eq_getElem?_getD, List.getElem?_eq_getElem hi, Option.getD_some]
 have e2 : cellAt l j = l[j] := by show l.getD j _ = _; rw [List.getD_eq_getElem?_getD, List.getElem?_eq_getElem hj, Option.getD_some]
 rw [e1, e2, less_iff]
 have h3 := (leC_iff _ _).1 (List.pairwise_iff_getElem.1 hs i j hi hj hij)
 have h4 : l[i] ≠ l[j] := by
  rw [List.nodup_iff_pairwise_ne] at hd
  exact List.pairwise_iff_getElem.1 hd i j hi hj hij
 have h5 : ¬ ((l[i]).f0 = (l[j]).f0 ∧ (l[i]).f1 = (l[j]).f1) := fun e => h4 (by
  generalize l[i] = a at e
  generalize l[j] = b at e
  obtain ⟨a, b⟩ := a
  simp only at e
  rw [e.1, e.2])
 omega
def wide100 (l : List S56) : Prop := ∀ c ∈ l, ∀ d ∈ l, c.f0 - d.f0 ≤ 100 ∧ c.f1 - d.f1 ≤ 100
theorem minF_mem (f : S56 → Int) : ∀ (l : List S56) (x : Int), minF f l x = x ∨ ∃ c ∈ l, minF f l x = f c
 | [], x => .inl rfl
 | c :: r, x => by
  rw [minF]
  rcases minF_mem f r (mn x (f c)) with h | ⟨d, hd, h⟩
  ·rw [h]
   unfold mn
   split
   ·exact .inr ⟨c, by simp, rfl⟩
   ·exact .inl rfl
  ·exact .inr ⟨d, by simp [hd], h⟩
theorem corn_mem (l : List S56) (h1 : 1 ≤ l.length) : (∃ c ∈ l, minX l = c.f0) ∧ ∃ c ∈ l, minY l = c.f1 := by
 have h0 := cell_mem l 0 h1
 constructor
 ·rcases minF_mem (·.f0) l (cellAt l 0).f0 with h | h
  ·exact ⟨_, h0, h⟩
  ·exact h
 ·rcases minF_mem (·.f1) l (cellAt l 0).f1 with h | h
  ·exact ⟨_, h0, h⟩
  ·exact h
theorem code_wide (l : List S56) (h : codeS l = 0) : Shp l ∧ wide100 l := by
 unfold codeS at h
 by_cases h1 : isShapeB l = true
 ·rw [if_pos h1] at h
  by_cases h2 : isShapeB (normL l) = true
  ·have hs := (shp_iff l).1 h1
   have hn := (shp_iff _).1 h2
   refine ⟨hs, fun c hc d hd => ?_⟩
   have hm : subC (cornC l) c ∈ normL l := by
    rw [normL_sub l hs.pos (fun c hc => by have := hs.near c hc; omega)]
    exact List.mem_map.2 ⟨c, hc, rfl⟩
   have h3 := hn.near _ hm
   have h4 := (minF_le (·.f0) l (cellAt l 0).f0).2 d hd
   have h5 := (minF_le (·.f1) l (cellAt l 0).f1).2 d hd
   simp only [subC, cornC, minX, minY] at h3
   omega
  ·rw [if_neg h2] at h; omega
 ·rw [if_neg h1] at h; omega
theorem form_shape (t : Int) (ht : isT t) (l : List S56) (hs : Shp l) (hw : wide100 l) : Shp (formL t l) ∧ normL (formL t l) = formL t l := by
 have hl : nearC 1000000 l := fun c hc => by have := hs.near c hc; omega
 have hM : nearC 1000000 (sortC (l.map (tI t))) := near_perm (sortC_perm _) (tI_near t ht _ l hl)
 rw [formL_eq t ht l hs.pos hl]
 have hlen : (sortC (l.map (tI t))).length = l.length := by rw [sortC_len, List.length_map]
 have hnd : (sortC (l.map (tI t))).Nodup := (sortC_perm _).nodup_iff.2 (by
  rw [List.nodup_iff_pairwise_ne, List.pairwise_map]
  have := hs.nodup
  rw [List.nodup_iff_pairwise_ne] at this
  exact this.imp (fun {a b} hab e => hab (tI_inj t ht a b e)))
 have hsrt := sortC_sorted (l.map (tI t))
 have hwd : wide100 (sortC (l.map (tI t))) := by
  intro c hc d hd
  obtain ⟨c', hc', rfl⟩ := List.mem_map.1 ((sortC_perm _).mem_iff.1 hc)
  obtain ⟨d', hd', rfl⟩ := List.mem_map.1 ((sortC_perm _).mem_iff.1 hd)
  have h1 := hw c' hc' d' hd'
  have h2 := hw d' hd' c' hc'
  rcases isT_cases ht with rfl | rfl | rfl | rfl | rfl | rfl | rfl | rfl <;> simp [tI] <;> omega
 generalize sortC (l.map (tI t)) = M at hM hlen hnd hsrt hwd
 have hM1 : 1 ≤ M.length := by rw [hlen]; exact hs.pos
 obtain ⟨⟨a, ha, ea⟩, b, hb, eb⟩ := corn_mem M hM1
 have hmin : ∀ c ∈ M, minX M ≤ c.f0 ∧ minY M ≤ c.f1 := fun c hc => ⟨(minF_le (·.f0) M (cellAt M 0).f0).2 c hc, (minF_le (·.f1) M (cellAt M 0).f1).2 c hc⟩
 have hnear : nearC 100 (M.map (subC (cornC M))) := by
  intro d hd
  obtain ⟨c, hc, rfl⟩ := List.mem_map.1 hd
  have h1 := hmin c hc
  have h2 := (hwd c hc a ha).1
  have h3 := (hwd c hc b hb).2
  simp only [subC, cornC]
  omega
 constructor
 ·refine shp_of (by simpa using hM1) (by simp [hlen]; exact hs.le) hnear ?_ ?_
  ·rw [List.pairwise_map]
   refine hsrt.imp (fun {a b} h => ?_)
   have := (leC_iff a b).1 h
   exact (leC_iff _ _).2 (by simp only [subC]; omega)
  ·rw [List.nodup_iff_pairwise_ne, List.pairwise_map]
   rw [List.nodup_iff_pairwise_ne] at hnd
   refine hnd.imp (fun {a b} hab e => hab ?_)
   obtain ⟨x, y⟩ := a
   obtain ⟨v, w⟩ := b
   simp only [subC, S56.mk.injEq] at e ⊢
   omega
 ·rw [normL_sub _ (by simpa using hM1) (fun c hc => by have := hnear c hc; omega), norm_moved _ _ hM1]
theorem scmp_loop (a b : List S56) (h : a.length = b.length) (hl : a.length ≤ 1000) (d : Nat) : ∀ n : Nat, n + d = a.length → Ev (fun k => spec_CompareShapes.l0 k a b n) (cmpGo (a.drop n) (b.drop n)) := by
 induction d with
 | zero =>
  intro n hd
  refine Ev.step (f := fun _ => _) (fun k => by simp only [spec_CompareShapes.l0]; rfl) (ev_neg (by omega) (ev_const ?_))
  rw [List.drop_of_length_le (by omega)]; rfl
 | succ d ih =>
  intro n hd
  rw [drop_cons a z56 n (by omega), drop_cons b z56 n (by omega), cmpGo, cfC_val]
  refine Ev.step (f := fun _ => _) (fun k => by simp only [spec_CompareShapes.l0]; rfl) (ev_pos (by omega) (ev_pos (by omega) (ev_pos (by omega) (ev_some (less_val _ _ _ _) ?_))))
  rw [show rd_T56 a (n : Int) = a.getD n z56 from rfl, show rd_T56 b (n : Int) = b.getD n z56 from rfl, less_ltC]
  by_cases p : ltC (a.getD n z56) (b.getD n z56) = true
  ·rw [if_pos p, if_neg (by decide)]
   exact ev_pos p (ev_const rfl)
  ·rw [if_neg p]
   refine ev_neg p (ev_some (less_val _ _ _ _) ?_)
   rw [less_ltC]
   by_cases q : ltC (b.getD n z56) (a.getD n z56) = true
   ·rw [if_pos q, if_neg (by decide)]
    exact ev_pos q (ev_const rfl)
   ·rw [if_neg q, if_pos rfl]
    refine ev_neg q ?_
    rw [wrap_succ n (by omega)]
    exact ih (n + 1) (by omega)
theorem scmp_val (a b : List S56) (hl : a.length ≤ 1000) : Ev (fun k => spec_CompareShapes.f k a b) (cmpS a b) := by
 unfold cmpS
 by_cases h : a.length = b.length
 ·rw [if_pos h]
  exact ev_pos (by omega) (scmp_loop a b h hl a.length 0 (by omega))
 ·rw [if_neg h]
  refine ev_neg (by omega) ?_
  by_cases q : a.length < b.length
  ·rw [if_pos q]; exact ev_pos (by omega) (ev_const rfl)
  ·rw [if_neg q]; exact ev_neg (by omega) (ev_const rfl)
def IsLeast (m : List S56) (L : List (List S56)) : Prop := m ∈ L ∧ ∀ x ∈ L, cmpS m x ≤ 0
theorem least_uniq {m m' : List S56} {L L' : List (List S56)} (h : IsLeast m L) (h' : IsLeast m' L') (e : ∀ x, x ∈ L ↔ x ∈ L') : m = m' := by
 have h1 := h.2 m' ((e m').2 h'.1)
 have h2 := h'.2 m ((e m).1 h.1)
 have h3 := cmpS_neg m m'
 exact (cmpS_zero m m').1 (by omega)
theorem fold_least : ∀ (r : List (List S56)) (m : List S56), (r.foldl lessL m = m ∨ r.foldl lessL m ∈ r) ∧ cmpS (r.foldl lessL m) m ≤ 0 ∧ ∀ x ∈ r, cmpS (r.foldl lessL m) x ≤ 0
 | [], m => ⟨.inl rfl, by rw [List.foldl_nil, cmpS_self]; omega, by simp⟩
 | y :: r, m => by
  obtain ⟨h1, h2, h3⟩ := fold_least r (lessL m y)
  rw [List.foldl_cons]
  have hm : cmpS (lessL m y) m ≤ 0 ∧ cmpS (lessL m y) y ≤ 0 := by
   unfold lessL
   by_cases z : cmpS y m < 0
   ·rw [if_pos z]; exact ⟨by omega, by rw [cmpS_self]; omega⟩
   ·rw [if_neg z]
    refine ⟨by rw [cmpS_self]; omega, ?_⟩
    have := cmpS_neg m y
    omega
  refine ⟨?_, cmpS_le_trans _ _ _ h2 hm.1, fun x hx => ?_⟩
  ·rcases h1 with h1 | h1
   ·rw [h1]
    unfold lessL
    split
    ·exact .inr (by simp)
    ·exact .inl rfl
   ·exact .inr (by simp [h1])
  ·rcases List.mem_cons.1 hx with rfl | hx
   ·exact cmpS_le_trans _ _ _ h2 hm.2
   ·exact h3 x hx
theorem leastL_is (L : List (List S56)) (h : 1 ≤ L.length) : IsLeast (leastL L) L := by
 cases L with
 | nil => simp at h
 | cons x r =>
  obtain ⟨h1, h2, h3⟩ := fold_least r x
  refine ⟨?_, fun y hy => ?_⟩
  ·show r.foldl lessL x ∈ x :: r
   rcases h1 with h1 | h1
   ·rw [h1]; simp
   ·simp [h1]
  ·rcases List.mem_cons.1 hy with rfl | hy
   ·exact h2
   ·exact h3 y hy
def Asc (L : List (List S56)) : Prop := L.Pairwise (fun a b => cmpS a b < 0)
theorem add_done (L : List (List S56)) (s : List S56) (hs : s.length ≤ 1000) (hL : L.length ≤ 100000000) (d : Nat) : ∀ (n : Nat) (out : List (List S56)), n + d = L.length → out.length = n + 1 → (∀ j, n ≤ j → j < L.length → cmpS s (L.getD j []) < 0) → Ev (fun k => spec_l03Add.l0 k L s out true n) (out ++ L.drop n) := by
 induction d with
 | zero =>
  intro n out hd ho hlt
  refine Ev.step (f := fun _ => _) (fun k => by simp only [spec_l03Add.l0]; rfl) (ev_neg (by omega) (ev_pos trivial (ev_const ?_)))
  rw [List.drop_of_length_le (by omega), List.append_nil]
 | succ d ih =>
  intro n out hd ho hlt
  have hn := hlt n (Nat.le_refl _) (by omega)
  refine Ev.step (f := fun _ => _) (fun k => by simp only [spec_l03Add.l0]; rfl) (ev_pos (by omega) (ev_pos (by omega) (Ev.bind (scmp_val s _ hs) (ev_neg (show ¬ cmpS s (L.getD n []) = 0 by omega) (ev_pos hn (ev_pos trivial (ev_pos (show out.length < 5864062014805 by omega) ?_)))))))
  rw [wrap_succ n (by omega)]
  refine ev_eq (ih (n + 1) _ (by omega) (by simp [ho]) (fun j h1 h2 => hlt j (by omega) h2)) ?_
  rw [drop_cons L [] n (by omega)]
  (first | (simp [rd_L3]; done) | (simp [rd_L4]; done) | (simp [rd_L2]; done) | (simp [rd_L5]; done))
theorem add_loop (L : List (List S56)) (hA : Asc L) (s : List S56) (hs : s.length ≤ 1000) (hL : L.length ≤ 100000000) (d : Nat) : ∀ (n : Nat), n + d = L.length → (∀ j, j < n → cmpS (L.getD j []) s < 0) →
  ∃ R, Ev (fun k => spec_l03Add.l0 k L s (L.take n) false n) R ∧ Asc R ∧ (∀ z, z ∈ R ↔ z = s ∨ z ∈ L) ∧ R.length ≤ L.length + 1 := by
 have hasc : ∀ i j, i < j → j < L.length → cmpS (L.getD i []) (L.getD j []) < 0 := fun i j hij hj => by
  have := List.pairwise_iff_getElem.1 hA i j (by omega) hj hij
  rw [List.getD_eq_getElem?_getD, List.getElem?_eq_getElem (show i < L.length by omega), List.getD_eq_getElem?_getD, List.getElem?_eq_getElem hj]
  exact this
 have hget : ∀ z, z ∈ L ↔ ∃ i, i < L.length ∧ L.getD i [] = z := fun z => by
  rw [List.mem_iff_getElem]
  constructor
  ·rintro ⟨i, hi, e⟩
   exact ⟨i, hi, by rw [List.getD_eq_getElem?_getD, List.getElem?_eq_getElem hi]; exact e⟩
  ·rintro ⟨i, hi, e⟩
   exact ⟨i, hi, by rw [List.getD_eq_getElem?_getD, List.getElem?_eq_getElem hi] at e; exact e⟩
 induction d with
 | zero =>
  intro n hd hlt
  refine ⟨L ++ [s], Ev.step (f := fun _ => _) (fun k => by simp only [spec_l03Add.l0]; rfl) (ev_neg (by omega) (ev_neg (by decide) (ev_pos (show (L.take n).length < 5864062014805 by simp; omega) (ev_const ?_)))), ?_, fun z => by simp [or_comm], by simp⟩
  ·rw [List.take_of_length_le (by omega)]
  ·refine List.pairwise_append.2 ⟨hA, by simp, fun a ha b hb => ?_⟩
   obtain ⟨i, hi, rfl⟩ := (hget a).1 ha
   rw [List.mem_singleton.1 hb]
   exact hlt i (by omega)
 | succ d ih =>
  intro n hd hlt
  have htl : (L.take n).length = n := by simp; omega
  by_cases c0 : cmpS s (L.getD n []) = 0
  ·refine ⟨L, Ev.step (f := fun _ => _) (fun k => by simp only [spec_l03Add.l0]; rfl) (ev_pos (by omega) (ev_pos (by omega) (Ev.bind (scmp_val s _ hs) (ev_pos c0 (ev_const rfl))))), hA, fun z => ?_, by omega⟩
   have e := (cmpS_zero _ _).1 c0
   constructor
   ·exact .inr
   ·rintro (rfl | h)
    ·exact (hget _).2 ⟨n, by omega, e.symm⟩
    ·exact h
  ·by_cases c1 : cmpS s (L.getD n []) < 0
   ·have hall : ∀ j, n ≤ j → j < L.length → cmpS s (L.getD j []) < 0 := fun j h1 h2 => by
     by_cases e : j = n
     ·subst e; exact c1
     ·exact cmpS_trans _ _ _ c1 (hasc n j (by omega) h2)
    refine ⟨(L.take n ++ [s]) ++ L.drop n, Ev.step (f := fun _ => _) (fun k => by simp only [spec_l03Add.l0]; rfl) (ev_pos (by omega) (ev_pos (by omega) (Ev.bind (scmp_val s _ hs) (ev_neg c0 (ev_pos c1 (ev_neg (show ¬ (false = true) by decide) (ev_pos (show (L.take n).length < 5864062014805 by omega) (ev_some rfl (ev_pos (show (L.take n ++ [s]).length < 5864062014805 by simp; omega) ?_))))))))), ?_, fun z => ?_, by simp; omega⟩
    ·rw [wrap_succ n (by omega)]
     refine ev_eq (add_done L s hs hL d (n + 1) _ (by omega) (by simp; omega) (fun j h1 h2 => hall j (by omega) h2)) ?_
     rw [drop_cons L [] n (by omega)]
     (first | (simp [rd_L3]; done) | (simp [rd_L4]; done) | (simp [rd_L2]; done) | (simp [rd_L5]; done))
    ·have hA' : (L.take n ++ L.drop n).Pairwise (fun a b => cmpS a b < 0) := by rw [List.take_append_drop]; exact hA
     obtain ⟨g1, g2, g3⟩ := List.pairwise_append.1 hA'
     rw [List.append_assoc, List.singleton_append]
     have hpre : ∀ a ∈ L.take n, cmpS a s < 0 := fun a ha => by
      obtain ⟨i, hi, rfl⟩ := List.getElem_of_mem ha
      rw [htl] at hi
      have := hlt i hi
      rw [List.getD_eq_getElem?_getD, List.getElem?_eq_getElem (show i < L.length by omega)] at this
      rw [List.getElem_take]
      exact this
     have hsuf : ∀ b ∈ L.drop n, cmpS s b < 0 := fun b hb => by
      obtain ⟨i, hi, rfl⟩ := List.getElem_of_mem hb
      rw [List.length_drop] at hi
      have := hall (n + i) (by omega) (by omega)
      rw [List.getD_eq_getElem?_getD, List.getElem?_eq_getElem (show n + i < L.length by omega)] at this
      rw [List.getElem_drop]
      exact this
     refine List.pairwise_append.2 ⟨g1, List.pairwise_cons.2 ⟨hsuf, g2⟩, fun a ha b hb => ?_⟩
     rcases List.mem_cons.1 hb with rfl | hb
     ·exact hpre a ha
     ·exact g3 a ha b hb
    ·have e : z ∈ L ↔ z ∈ L.take n ∨ z ∈ L.drop n := by rw [← List.mem_append, List.take_append_drop]
     simp only [List.mem_append, List.mem_singleton, e]
     constructor
     ·rintro ((h | h) | h)
      ·exact .inr (.inl h)
      ·exact .inl h
      ·exact .inr (.inr h)
     ·rintro (h | h | h)
      ·exact .inl (.inr h)
      ·exact .inl (.inl h)
      ·exact .inr h
   ·obtain ⟨R, r1, r2⟩ := ih (n + 1) (by omega) (fun j hj => by
     by_cases e : j = n
     ·subst e
      have := cmpS_neg s (L.getD j [])
      omega
     ·exact hlt j (by omega))
    refine ⟨R, Ev.step (f := fun _ => _) (fun k => by simp only [spec_l03Add.l0]; rfl) (ev_pos (by omega) (ev_pos (by omega) (Ev.bind (scmp_val s _ hs) (ev_neg c0 (ev_neg c1 (ev_pos (show (L.take n).length < 5864062014805 by omega) ?_)))))), r2⟩
    rw [wrap_succ n (by omega)]
    rw [take_succ_getD L [] n (by omega)] at r1
    exact r1
theorem add_val (L : List (List S56)) (hA : Asc L) (s : List S56) (hs : s.length ≤ 1000) (hL : L.length ≤ 100000000) : ∃ R, Ev (fun k => spec_l03Add.f k L s) R ∧ Asc R ∧ (∀ z, z ∈ R ↔ z = s ∨ z ∈ L) ∧ R.length ≤ L.length + 1 := by
 obtain ⟨R, h⟩ := add_loop L hA s hs hL L.length 0 (by omega) (fun j hj => by omega)
 exact ⟨R, h⟩
def formsL (m : Nat) (l : List S56) : List (List S56) := (List.range m).map (fun t : Nat => formL (t : Int) l)
theorem formsL_mem (m : Nat) (l z : List S56) : z ∈ formsL m l ↔ ∃ t : Nat, t < m ∧ z = formL (t : Int) l := by
 unfold formsL
 rw [List.mem_map]
 constructor
 ·rintro ⟨t, h1, h2⟩
  exact ⟨t, List.mem_range.1 h1, h2.symm⟩
 ·rintro ⟨t, h1, h2⟩
  exact ⟨t, List.mem_range.2 h1, h2.symm⟩
theorem iforms_loop (l : List S56) (h1 : 1 ≤ l.length) (hl : l.length ≤ 500) (m : Nat) (hm : m ≤ 8) (d : Nat) : ∀ (n : Nat), n + d = m → Ev (fun k => impl_forms.l0 k l (formsL n l) m n) (formsL m l) := by
 induction d with
 | zero =>
  intro n hd
  obtain rfl : n = m := by omega
  exact Ev.step (f := fun _ => _) (fun k => by simp only [impl_forms.l0]; rfl) (ev_neg (by omega) (ev_const rfl))
 | succ d ih =>
  intro n hd
  have ht : isT (n : Int) := ⟨by omega, by omega⟩
  refine Ev.step (f := fun _ => _) (fun k => by simp only [impl_forms.l0]; rfl) (ev_pos (by omega) (Ev.bind (iform_val l _ ht h1 hl) (ev_pos (show (formsL n l).length < 5864062014805 by simp [formsL]; omega) ?_)))
  rw [wrap_succ n (by omega), show formsL n l ++ [formL (n : Int) l] = formsL (n + 1) l by simp [formsL, List.range_succ]]
  exact ih (n + 1) (by omega)
theorem iforms_val (l : List S56) (h1 : 1 ≤ l.length) (hl : l.length ≤ 500) (m : Nat) (hm : m ≤ 8) : Ev (fun k => impl_forms.f k l m) (formsL m l) := iforms_loop l h1 hl m hm m 0 (by omega)
def leastForm (m : Nat) (l : List S56) : List S56 := leastL (formsL m l)
theorem leastForm_is (m : Nat) (hm : 1 ≤ m) (l : List S56) : IsLeast (leastForm m l) (formsL m l) := leastL_is _ (by simp [formsL]; omega)
theorem dedFrom_laws (r : List (List S56)) : ∀ p : List S56, r.Pairwise (fun a b => cmpS a b ≤ 0) → (∀ y ∈ r, cmpS p y ≤ 0) → (∀ y ∈ dedFrom p r, cmpS p y < 0) ∧ (dedFrom p r).Pairwise (fun a b => cmpS a b < 0) ∧ ∀ z, z ∈ dedFrom p r ↔ z ∈ r ∧ z ≠ p := by
 induction r with
 | nil =>
  intro p _ _
  simp [dedFrom]
 | cons y r ih =>
  intro p hp hy
  obtain ⟨hp1, hp2⟩ := List.pairwise_cons.mp hp
  obtain ⟨i1, i2, i3⟩ := ih y hp2 hp1
  by_cases c : cmpS y p = 0
  ·have e := (cmpS_zero y p).1 c
   subst e
   have ed : dedFrom y (y :: r) = dedFrom y r := by simp only [dedFrom]; rw [if_pos c]
   rw [ed]
   refine ⟨i1, i2, fun z => ?_⟩
   rw [i3 z, List.mem_cons]
   constructor
   ·rintro ⟨a, b⟩
    exact ⟨Or.inr a, b⟩
   ·rintro ⟨a | a, b⟩
    ·exact absurd a b
    ·exact ⟨a, b⟩
  ·have ed : dedFrom p (y :: r) = y :: dedFrom y r := by simp only [dedFrom]; rw [if_neg c]
   rw [ed]
   have hlt : cmpS p y < 0 := by
    have h1 := hy y (List.mem_cons_self ..)
    have h2 := cmpS_neg p y
    omega
   have hne : y ≠ p := fun e => c ((cmpS_zero y p).2 e)
   refine ⟨fun z hz => ?_, List.pairwise_cons.mpr ⟨i1, i2⟩, fun z => ?_⟩
   ·rcases List.mem_cons.mp hz with e | hz
    ·subst e
     exact hlt
    ·exact cmpS_trans p y z hlt (i1 z hz)
   ·rw [List.mem_cons, i3 z, List.mem_cons]
    constructor
    ·rintro (e | ⟨a, b⟩)
     ·subst e
      exact ⟨Or.inl rfl, hne⟩
     ·refine ⟨Or.inr a, fun e => ?_⟩
      subst e
      have h1 := hp1 z a
      have h2 := cmpS_neg z y
      omega
    ·rintro ⟨e | a, b⟩
     ·exact Or.inl e
     ·by_cases e : z = y
      ·exact Or.inl e
      ·exact Or.inr ⟨a, e⟩
theorem dedS_laws (L : List (List S56)) (h : L.Pairwise (fun a b => cmpS a b ≤ 0)) : (dedS L).Pairwise (fun a b => cmpS a b < 0) ∧ ∀ z, z ∈ dedS L ↔ z ∈ L := by
 cases L with
 | nil => simp [dedS]
 | cons x r =>
  obtain ⟨hp1, hp2⟩ := List.pairwise_cons.mp h
  obtain ⟨i1, i2, i3⟩ := dedFrom_laws r x hp2 hp1
  have ed : dedS (x :: r) = x :: dedFrom x r := rfl
  rw [ed]
  refine ⟨List.pairwise_cons.mpr ⟨i1, i2⟩, fun z => ?_⟩
  rw [List.mem_cons, i3 z, List.mem_cons]
  constructor
  ·rintro (e | ⟨a, _⟩)
   ·exact Or.inl e
   ·exact Or.inr a
  ·rintro (e | a)
   ·exact Or.inl e
   ·by_cases e : z = x
    ·exact Or.inl e
    ·exact Or.inr ⟨a, e⟩
theorem leS_iff (a b : List S56) : leS a b = true ↔ cmpS a b ≤ 0 := by
 unfold leS
 have h := cmpS_neg a b
 simp only [Bool.not_eq_true', decide_eq_false_iff_not]
 omega
theorem sortS_pair (L : List (List S56)) : (sortS L).Pairwise (fun a b => cmpS a b ≤ 0) := by
 have h : (sortS L).Pairwise (fun a b => leS a b = true) := by
  unfold sortS
  first
   | exact List.pairwise_mergeSort (fun a b c h1 h2 => (leS_iff a c).2 (cmpS_le_trans a b c ((leS_iff a b).1 h1) ((leS_iff b c).1 h2))) (fun a b => by
     have h := cmpS_neg a b
     by_cases c : cmpS a b ≤ 0
     ·simp [(leS_iff a b).2 c]
     ·simp [(leS_iff b a).2 (by omega)]) L
   | exact List.sorted_mergeSort (fun a b c h1 h2 => (leS_iff a c).2 (cmpS_le_trans a b c ((leS_iff a b).1 h1) ((leS_iff b c).1 h2))) (fun a b => by
     have h := cmpS_neg a b
     by_cases c : cmpS a b ≤ 0
     ·simp [(leS_iff a b).2 c]
     ·simp [(leS_iff b a).2 (by omega)]) L
 exact h.imp (fun {a b} h => (leS_iff a b).1 h)
theorem tidyL_laws (L : List (List S56)) : (tidyL L).Pairwise (fun a b => cmpS a b < 0) ∧ ∀ z, z ∈ tidyL L ↔ z ∈ L := by
 obtain ⟨h1, h2⟩ := dedS_laws (sortS L) (sortS_pair L)
 refine ⟨h1, fun z => ?_⟩
 show z ∈ dedS (sortS L) ↔ z ∈ L
 rw [h2 z]
 exact (List.mergeSort_perm L leS).mem_iff
abbrev Pt := Int × Int
def sx : Nat → Int | 0 => 1 | 2 => -1 | _ => 0
def sy : Nat → Int | 1 => 1 | 3 => -1 | _ => 0
def stp (p : Pt) (e : Nat) : Pt := (p.1 + sx e, p.2 + sy e)
def oppE (e : Nat) : Nat := match e with | 0 => 2 | 1 => 3 | 2 => 0 | _ => 1
theorem four {e : Nat} (h : e < 4) : e = 0 ∨ e = 1 ∨ e = 2 ∨ e = 3 := by omega
theorem oppE_lt (e : Nat) : oppE e < 4 := by unfold oppE; split <;> omega
theorem stp_opp (p : Pt) (e : Nat) (h : e < 4) : stp (stp p e) (oppE e) = p := by
 obtain ⟨x, y⟩ := p
 rcases four h with rfl | rfl | rfl | rfl <;> simp [stp, oppE, sx, sy] <;> omega
def ConP (M : Pt → Prop) : Prop := ∀ Q : Pt → Prop, (∃ p, M p ∧ Q p) → (∀ p e, M p → e < 4 → M (stp p e) → Q p → Q (stp p e)) → ∀ p, M p → Q p
def rotP (p : Pt) : Pt := (p.2, -p.1)
def flipP (p : Pt) : Pt := (-p.1, p.2)
def movP (a b : Int) (p : Pt) : Pt := (p.1 + a, p.2 + b)
theorem con_by (g gi : Pt → Pt) (π : Nat → Nat) (hgi : ∀ p e, e < 4 → gi (stp p e) = stp (gi p) (π e)) (hπ : ∀ e, e < 4 → π e < 4) (h1 : ∀ p, g (gi p) = p) (h2 : ∀ p, gi (g p) = p) (M : Pt → Prop) (h : ConP M) : ConP (fun p => M (g p)) := by
 intro Q ⟨p0, hp0, hq0⟩ hQ p hp
 have := h (fun p => Q (gi p)) ⟨g p0, hp0, by rw [h2]; exact hq0⟩ (fun p e hp he hpe hq => by
  rw [hgi p e he]
  exact hQ (gi p) (π e) (by show M (g (gi p)); rw [h1]; exact hp) (hπ e he) (by show M (g (stp (gi p) (π e))); rw [← hgi p e he, h1]; exact hpe) hq) (g p) hp
 rw [h2] at this
 exact this
theorem con_mov (a b : Int) (M : Pt → Prop) (h : ConP M) : ConP (fun p => M (movP a b p)) := by
 refine con_by (movP a b) (movP (-a) (-b)) id (fun p e he => ?_) (fun e he => he) (fun p => ?_) (fun p => ?_) M h
 ·obtain ⟨x, y⟩ := p
  simp only [stp, movP, id, Prod.mk.injEq]
  omega
 ·obtain ⟨x, y⟩ := p
  simp only [movP, Prod.mk.injEq]
  omega
 ·obtain ⟨x, y⟩ := p
  simp only [movP, Prod.mk.injEq]
  omega
abbrev keyAt (l : List S56) (q : Nat) : Pt := cellKey (cellAt l q)
def ptsOf (l : List S56) (p : Pt) : Prop := ∃ q : Nat, q < l.length ∧ keyAt l q = p
theorem sx_in (e : Nat) : (-1 ≤ sx e ∧ sx e ≤ 1) ∧ (-1 ≤ sy e ∧ sy e ≤ 1) := by
 unfold sx sy
 refine ⟨⟨?_, ?_⟩, ?_, ?_⟩ <;> split <;> omega
def invT (t : Int) (p : Pt) : Pt := if t = 0 then p else if t = 1 then rotP p else if t = 2 then rotP (rotP p) else if t = 3 then rotP (rotP (rotP p)) else if t = 4 then flipP p else if t = 5 then flipP (rotP p) else if t = 6 then flipP (rotP (rotP p)) else flipP (rotP (rotP (rotP p)))
theorem tI_inv (t : Int) (ht : isT t) (c : S56) (p : Pt) : cellKey (tI t c) = p ↔ cellKey c = invT t p := by
 obtain ⟨x, y⟩ := c
 obtain ⟨v, w⟩ := p
 rcases isT_cases ht with rfl | rfl | rfl | rfl | rfl | rfl | rfl | rfl <;> simp [tI, cellKey, invT, rotP, flipP] <;> omega
theorem pts_mem (l : List S56) (p : Pt) : ptsOf l p ↔ ∃ c ∈ l, cellKey c = p := by
 constructor
 ·rintro ⟨q, hq, rfl⟩
  exact ⟨_, cell_mem l q hq, rfl⟩
 ·rintro ⟨c, hc, rfl⟩
  obtain ⟨i, hi, rfl⟩ := List.getElem_of_mem hc
  exact ⟨i, hi, by show cellKey (l.getD i _) = _; rw [List.getD_eq_getElem?_getD, List.getElem?_eq_getElem hi]; rfl⟩
theorem pts_form (t : Int) (ht : isT t) (l : List S56) (h1 : 1 ≤ l.length) (hl : nearC 1000000 l) : ∃ a b : Int, ptsOf (formL t l) = fun p => ptsOf l (invT t (movP a b p)) := by
 rw [formL_eq t ht l h1 hl]
 have hM : nearC 1000000 (sortC (l.map (tI t))) := near_perm (sortC_perm _) (tI_near t ht _ l hl)
 have hM1 : 1 ≤ (sortC (l.map (tI t))).length := by rw [sortC_len, List.length_map]; exact h1
 refine ⟨(cornC (sortC (l.map (tI t)))).f0, (cornC (sortC (l.map (tI t)))).f1, funext (fun p => propext ?_)⟩
 generalize cornC (sortC (l.map (tI t))) = u
 rw [pts_mem, pts_mem]
 constructor
 ·rintro ⟨c, hc, rfl⟩
  obtain ⟨d, hd, rfl⟩ := List.mem_map.1 hc
  obtain ⟨c', hc', rfl⟩ := List.mem_map.1 ((sortC_perm _).mem_iff.1 hd)
  refine ⟨c', hc', (tI_inv t ht c' _).1 ?_⟩
  generalize tI t c' = d
  obtain ⟨x, y⟩ := d
  simp only [cellKey, subC, movP, Prod.mk.injEq]
  omega
 ·rintro ⟨c', hc', hk⟩
  have hk' := (tI_inv t ht c' _).2 hk
  refine ⟨subC u (tI t c'), List.mem_map.2 ⟨_, (sortC_perm _).mem_iff.2 (List.mem_map.2 ⟨c', hc', rfl⟩), rfl⟩, ?_⟩
  generalize tI t c' = d at hk'
  obtain ⟨x, y⟩ := d
  obtain ⟨v, w⟩ := p
  simp only [cellKey, subC, movP, Prod.mk.injEq] at hk' ⊢
  omega
structure St (code : List Int) (p seed : Int) : Prop where
 byte : ∀ x ∈ code, 0 ≤ x ∧ x ≤ 255
 len : code.length ≤ 4096
 at0 : 0 ≤ p
 at1 : p ≤ (code.length : Int)
 s0 : 0 ≤ seed
 s1 : seed < 2147483647
theorem tmod_in (x n : Int) (hx : 0 ≤ x) (hn : 0 < n) : 0 ≤ Int.tmod x n ∧ Int.tmod x n < n := by
 rw [Int.tmod_eq_emod_of_nonneg hx]
 exact ⟨Int.emod_nonneg _ (by omega), Int.emod_lt_of_pos _ hn⟩
theorem rd_byte (code : List Int) (h : ∀ x ∈ code, 0 ≤ x ∧ x ≤ 255) (i : Int) : 0 ≤ rd code i ∧ rd code i ≤ 255 := by
 unfold rd
 rw [List.getD_eq_getElem?_getD]
 cases hx : code[i.toNat]? with
 | none => simp
 | some v => exact h v (List.mem_of_getElem? hx)
theorem seed_step (seed : Int) (h0 : 0 ≤ seed) (h1 : seed < 2147483647) : 0 ≤ Int.tmod (wrap64 (wrap64 (seed * 48271) + 29)) 2147483647 ∧ Int.tmod (wrap64 (wrap64 (seed * 48271) + 29)) 2147483647 < 2147483647 := by
 rw [wrap_id (seed * 48271) (by omega) (by omega), wrap_id _ (by omega) (by omega)]
 exact tmod_in _ _ (by omega) (by omega)
theorem next_some (code : List Int) (p seed n : Int) (h : St code p seed) : ∃ x a s, spec_l01Next.f code p seed n = some (x, a, s) ∧ St code a s ∧ 0 ≤ x ∧ (1 < n → x < n) ∧ (n ≤ 1 → x = 0) := by
 unfold spec_l01Next.f
 by_cases c1 : n ≤ 1
 ·exact ⟨0, p, seed, if_pos c1, h, Int.le_refl _, fun h => by omega, fun _ => rfl⟩
 ·rw [if_neg c1]
  have hs := seed_step seed h.s0 h.s1
  generalize Int.tmod (wrap64 (wrap64 (seed * 48271) + 29)) 2147483647 = z at hs
  have hlen := h.len
  have ha0 := h.at0
  have ha1 := h.at1
  have hn0 : ¬ n = 0 := by omega
  by_cases c2 : p < (code.length : Int)
  ·rw [if_pos c2, if_pos ha0]
   have e1 : wrap64 (p + 1) = p + 1 := wrap_id _ (by omega) (by omega)
   have e2 : wrap64 (p + 1 - 1) = p := by rw [wrap_id _ (by omega) (by omega)]; omega
   have hst : St code (p + 1) z := ⟨h.byte, hlen, by omega, by omega, hs.1, hs.2⟩
   have hb := rd_byte code h.byte p
   rw [e1, e2]
   have big : ∀ y : Int, 0 ≤ y ∧ y ≤ 255 → ∃ x a s, (if n = 0 then (none : Option (Int × Int × Int)) else some (Int.tmod (wrap64 (wrap64 (Int.tdiv z 31) + wrap64 y)) n, p + 1, z)) = some (x, a, s) ∧ St code a s ∧ 0 ≤ x ∧ (1 < n → x < n) ∧ (n ≤ 1 → x = 0) := by
    intro y hy
    rw [if_neg hn0]
    have hz : Int.tdiv z 31 = z / 31 := Int.tdiv_eq_ediv_of_nonneg hs.1
    rw [hz, wrap_id (z / 31) (by omega) (by omega), wrap_id y (by omega) (by omega), wrap_id _ (by omega) (by omega)]
    have := tmod_in (z / 31 + y) n (by omega) (by omega)
    exact ⟨_, _, _, rfl, hst, this.1, fun _ => this.2, fun h => by omega⟩
   by_cases c3 : n ≤ 256
   ·rw [if_pos c3]
    by_cases c4 : Int.tmod (p + 1) 2 = 0
    ·rw [if_pos c4, if_pos ha0, if_pos c2, if_neg hn0, wrap_id (rd code p) (by omega) (by omega)]
     have := tmod_in (rd code p) n hb.1 (by omega)
     exact ⟨_, _, _, rfl, hst, this.1, fun _ => this.2, fun h => by omega⟩
    ·rw [if_neg c4]
     exact big _ hb
   ·rw [if_neg c3]
    exact big _ hb
  ·rw [if_neg c2, if_neg hn0]
   have hz : Int.tdiv z 31 = z / 31 := Int.tdiv_eq_ediv_of_nonneg hs.1
   rw [hz, wrap_id _ (by omega) (by omega)]
   have := tmod_in (z / 31) n (by omega) (by omega)
   exact ⟨_, _, _, rfl, ⟨h.byte, hlen, ha0, ha1, hs.1, hs.2⟩, this.1, fun _ => this.2, fun h => by omega⟩
theorem from_loop (code : List Int) (hb : ∀ x ∈ code, 0 ≤ x ∧ x ≤ 255) (hl : code.length ≤ 4096) (d : Nat) : ∀ (i : Nat) (seed : Int), i + d = 64 → 0 ≤ seed → seed < 2147483647 →
  ∃ s, Ev (fun k => spec_l01From.l0 k code i code 0 seed) (code, 0, s) ∧ 0 ≤ s ∧ s < 2147483647 := by
 induction d with
 | zero =>
  intro i seed hi h0 h1
  refine ⟨seed, Ev.step (f := fun _ => _) (fun k => by simp only [spec_l01From.l0]; rfl) ?_, h0, h1⟩
  by_cases c : (i : Int) < (code.length : Int)
  ·exact ev_pos c (ev_neg (by omega) (ev_const rfl))
  ·exact ev_neg c (ev_const rfl)
 | succ d ih =>
  intro i seed hi h0 h1
  by_cases c : (i : Int) < (code.length : Int)
  ·have hr := rd_byte code hb i
   have hw : 0 ≤ Int.tmod (wrap64 (wrap64 (seed * 47) + wrap64 (rd code i))) 2147483647 ∧ Int.tmod (wrap64 (wrap64 (seed * 47) + wrap64 (rd code i))) 2147483647 < 2147483647 := by
    rw [wrap_id (seed * 47) (by omega) (by omega), wrap_id (rd code i) (by omega) (by omega), wrap_id _ (by omega) (by omega)]
    exact tmod_in _ _ (by omega) (by omega)
   obtain ⟨s, g1, g2, g3⟩ := ih (i + 1) _ (by omega) hw.1 hw.2
   refine ⟨s, Ev.step (f := fun _ => _) (fun k => by simp only [spec_l01From.l0]; rfl) (ev_pos c (ev_pos (by omega) (ev_pos (by omega) ?_))), g2, g3⟩
   rw [wrap_succ i (by omega)]
   exact g1
  ·exact ⟨seed, Ev.step (f := fun _ => _) (fun k => by simp only [spec_l01From.l0]; rfl) (ev_neg c (ev_const rfl)), h0, h1⟩
theorem from_some (code : List Int) (hb : ∀ x ∈ code, 0 ≤ x ∧ x ≤ 255) (hl : code.length ≤ 4096) : ∃ s, Ev (fun k => spec_l01From.f k code) (code, 0, s) ∧ St code 0 s := by
 obtain ⟨s, h1, h2, h3⟩ := from_loop code hb hl 64 0 61003 (by omega) (by omega) (by omega)
 exact ⟨s, h1, ⟨hb, hl, Int.le_refl _, by omega, h2, h3⟩⟩
theorem index_any (l : List S56) (hl : l.length ≤ 1000000) (c : S56) (d : Nat) : ∀ n : Nat, n + d = l.length → ∃ v : Int, Ev (fun k => spec_l02Index.l0 k l n c.f0 c.f1) v ∧ (v < 0 → ∀ i, n ≤ i → i < l.length → l.getD i z56 ≠ c) ∧ -1 ≤ v ∧ v < (l.length : Int) := by
 induction d with
 | zero =>
  intro n hd
  exact ⟨-1, Ev.step (f := fun _ => _) (fun k => by simp only [spec_l02Index.l0]; rfl) (ev_neg (by omega) (ev_const rfl)), fun _ i h1 h2 => by omega, by omega, by omega⟩
 | succ d ih =>
  intro n hd
  obtain ⟨v, hv, h1, h2, h3⟩ := ih (n + 1) (by omega)
  by_cases e : l.getD n z56 = c
  ·refine ⟨(n : Int), Ev.step (f := fun _ => _) (fun k => by simp only [spec_l02Index.l0]; rfl) (ev_pos (by omega) (ev_pos (by omega) (ev_pos ?_ (ev_const rfl)))), fun h => by omega, by omega, by omega⟩
   rw [show rd_T56 l (n : Int) = l.getD n z56 from rfl, e]; simp
  ·refine ⟨v, Ev.step (f := fun _ => _) (fun k => by simp only [spec_l02Index.l0]; rfl) (ev_pos (by omega) (ev_pos (by omega) (ev_neg ?_ ?_))), fun h i hi hil => ?_, h2, h3⟩
   ·rw [show rd_T56 l (n : Int) = l.getD n z56 from rfl]
    intro h
    simp only [Bool.and_eq_true, beq_iff_eq] at h
    apply e
    generalize l.getD n z56 = a at h
    obtain ⟨x, y⟩ := a
    obtain ⟨z, w⟩ := c
    simp only at h
    rw [h.1, h.2]
   ·rw [wrap_succ n (by omega)]; exact hv
   ·by_cases e2 : i = n
    ·subst e2; exact e
    ·exact h1 h i (by omega) hil
theorem index_any' (l : List S56) (hl : l.length ≤ 1000000) (c : S56) : ∃ v : Int, Ev (fun k => spec_l02Index.f k l c.f0 c.f1) v ∧ (c ∉ l → v < 0) := by
 obtain ⟨v, h1, h2, h3, h4⟩ := index_any l hl c l.length 0 (by omega)
 by_cases h : c ∈ l
 ·exact ⟨v, h1, fun q => absurd h q⟩
 ·by_cases hv : v < 0
  ·exact ⟨v, h1, fun _ => hv⟩
  ·exfalso
   
   have key : ∀ d n : Nat, n + d = l.length → ∃ u : Int, u < 0 ∧ Ev (fun k => spec_l02Index.l0 k l n c.f0 c.f1) u := by
    intro d
    induction d with
    | zero =>
     intro n hd
     exact ⟨-1, by omega, Ev.step (f := fun _ => _) (fun k => by simp only [spec_l02Index.l0]; rfl) (ev_neg (by omega) (ev_const rfl))⟩
    | succ d ih =>
     intro n hd
     obtain ⟨u, hu, he⟩ := ih (n + 1) (by omega)
     refine ⟨u, hu, Ev.step (f := fun _ => _) (fun k => by simp only [spec_l02Index.l0]; rfl) (ev_pos (by omega) (ev_pos (by omega) (ev_neg ?_ ?_)))⟩
     ·rw [show rd_T56 l (n : Int) = l.getD n z56 from rfl]
      intro hq
      simp only [Bool.and_eq_true, beq_iff_eq] at hq
      have hm := getD_mem l z56 n (by omega)
      apply h
      have : l.getD n z56 = c := by
       generalize l.getD n z56 = a at hq
       obtain ⟨x, y⟩ := a
       obtain ⟨z, w⟩ := c
       simp only at hq
       rw [hq.1, hq.2]
      rw [← this]; exact hm
     ·rw [wrap_succ n (by omega)]; exact he
   obtain ⟨u, hu, he⟩ := key l.length 0 (by omega)
   have := ev_uniq h1 he
   omega
theorem insC_ne (c : S56) (l : List S56) : insC c l ≠ [] := fun h => by
 have := insC_len c l
 rw [h] at this
 simp at this
theorem insC_near (b : Int) (c : S56) (l : List S56) (hc : (-b ≤ c.f0 ∧ c.f0 ≤ b) ∧ (-b ≤ c.f1 ∧ c.f1 ≤ b)) (hl : nearC b l) : nearC b (insC c l) := by
 intro d hd
 rcases List.mem_cons.1 ((insC_perm c l).mem_iff.1 hd) with rfl | hd
 ·exact hc
 ·exact hl d hd
theorem neigh1 (b : Int) (x0 : List S56) (h0 : x0.length ≤ 100) (i : Nat) (ar : List S56) (ha : ar.length = 4) (hn : nearC b ar) (P : List S56 → Prop) (d : Nat) : ∀ (j : Nat) (out : List S56), j + d = 4 → nearC b out → out.length + d ≤ 900 →
  (∀ out' : List S56, nearC b out' → out'.length ≤ out.length + d → (out ≠ [] ∨ (∃ q, j ≤ q ∧ q < 4 ∧ ar.getD q z56 ∉ x0) → out' ≠ []) → ∃ r, Ev (fun k => spec_l02Neighbours.l0 k x0 out' (wrap64 ((i : Int) + 1))) r ∧ P r) → ∃ r, Ev (fun k => spec_l02Neighbours.l1 k x0 out i ar j) r ∧ P r := by
 induction d with
 | zero =>
  intro j out hd hno hl hk
  obtain ⟨r, h1, h2⟩ := hk out hno (by omega) (fun h => by
   rcases h with h | ⟨q, h3, h4, _⟩
   ·exact h
   ·omega)
  exact ⟨r, Ev.step (f := fun _ => _) (fun k => by simp only [spec_l02Neighbours.l1]; rfl) (ev_neg (by omega) h1), h2⟩
 | succ d ih =>
  intro j out hd hno hl hk
  have hm := getD_mem ar z56 j (by omega)
  have hnj := hn _ hm
  obtain ⟨v, hv, hv2⟩ := index_any' x0 (by omega) (ar.getD j z56)
  obtain ⟨u, hu, hu2⟩ := index_any' out (by omega) (ar.getD j z56)
  have J : ∀ out' : List S56, nearC b out' → out'.length ≤ out.length + 1 → (out ≠ [] ∨ (ar.getD j z56 ∉ x0) → out' ≠ []) → ∃ r, Ev (fun k => spec_l02Neighbours.l1 k x0 out' i ar ((j + 1 : Nat) : Int)) r ∧ P r := fun out' h1 h2 h3 => by
   refine ih (j + 1) out' (by omega) h1 (by omega) (fun o2 g1 g2 g3 => hk o2 g1 (by omega) (fun h => ?_))
   rcases h with h | ⟨q, h4, h5, h6⟩
   ·exact g3 (.inl (h3 (.inl h)))
   ·by_cases e : q = j
    ·subst e; exact g3 (.inl (h3 (.inr h6)))
    ·exact g3 (.inr ⟨q, by omega, h5, h6⟩)
  by_cases c1 : v < 0
  ·by_cases c2 : u < 0
   ·obtain ⟨r, h1, h2⟩ := J (insC (ar.getD j z56) out) (insC_near b _ _ hnj hno) (by rw [insC_len]; omega) (fun _ => insC_ne _ _)
    refine ⟨r, Ev.step (f := fun _ => _) (fun k => by simp only [spec_l02Neighbours.l1]; rfl) (ev_pos (by omega) (ev_pos (by omega) (ev_pos (by omega) (Ev.bind hv (ev_pos c1 (Ev.bind hu (ev_pos c2 (Ev.bind (insert_val out _ (by omega)) ?_)))))))), h2⟩
    rw [wrap_succ j (by omega)]; exact h1
   ·obtain ⟨r, h1, h2⟩ := J out hno (by omega) (fun h => by
     rcases h with h | h
     ·exact h
     ·intro e
      subst e
      exact c2 (hu2 (by simp)))
    refine ⟨r, Ev.step (f := fun _ => _) (fun k => by simp only [spec_l02Neighbours.l1]; rfl) (ev_pos (by omega) (ev_pos (by omega) (ev_pos (by omega) (Ev.bind hv (ev_pos c1 (Ev.bind hu (ev_neg c2 ?_))))))), h2⟩
    rw [wrap_succ j (by omega)]; exact h1
  ·obtain ⟨r, h1, h2⟩ := J out hno (by omega) (fun h => by
    rcases h with h | h
    ·exact h
    ·exact absurd (hv2 h) c1)
   refine ⟨r, Ev.step (f := fun _ => _) (fun k => by simp only [spec_l02Neighbours.l1]; rfl) (ev_pos (by omega) (ev_pos (by omega) (ev_pos (by omega) (Ev.bind hv (ev_neg c1 ?_))))), h2⟩
   rw [wrap_succ j (by omega)]; exact h1
theorem neigh0 (b : Int) (hb : 0 ≤ b ∧ b ≤ 1000) (x0 : List S56) (h0 : x0.length ≤ 100) (hx : nearC b x0) (d : Nat) : ∀ (n : Nat) (out : List S56), n + d = x0.length → nearC (b + 1) out → out.length + 4 * d ≤ 800 →
  ∃ r, Ev (fun k => spec_l02Neighbours.l0 k x0 out n) r ∧ nearC (b + 1) r ∧ r.length ≤ out.length + 4 * d ∧ (out ≠ [] ∨ (∃ i, n ≤ i ∧ i < x0.length ∧ (⟨(x0.getD i z56).f0, (x0.getD i z56).f1 - 1⟩ : S56) ∉ x0) → r ≠ []) := by
 induction d with
 | zero =>
  intro n out hd hno hl
  exact ⟨out, Ev.step (f := fun _ => _) (fun k => by simp only [spec_l02Neighbours.l0]; rfl) (ev_neg (by omega) (ev_const rfl)), hno, by omega, fun h => by
   rcases h with h | ⟨i, h1, h2, _⟩
   ·exact h
   ·omega⟩
 | succ d ih =>
  intro n out hd hno hl
  have hc := hx _ (getD_mem x0 z56 n (by omega))
  have hA : spec_l02Around.f (x0.getD n z56).f0 (x0.getD n z56).f1 = some [⟨(x0.getD n z56).f0, (x0.getD n z56).f1 - 1⟩, ⟨(x0.getD n z56).f0 - 1, (x0.getD n z56).f1⟩, ⟨(x0.getD n z56).f0 + 1, (x0.getD n z56).f1⟩, ⟨(x0.getD n z56).f0, (x0.getD n z56).f1 + 1⟩] := by
   unfold spec_l02Around.f
   rw [wrap_id _ (by omega) (by omega), wrap_id _ (by omega) (by omega), wrap_id _ (by omega) (by omega), wrap_id _ (by omega) (by omega)]
  obtain ⟨r, h1, h2⟩ := neigh1 (b + 1) x0 h0 n [⟨(x0.getD n z56).f0, (x0.getD n z56).f1 - 1⟩, ⟨(x0.getD n z56).f0 - 1, (x0.getD n z56).f1⟩, ⟨(x0.getD n z56).f0 + 1, (x0.getD n z56).f1⟩, ⟨(x0.getD n z56).f0, (x0.getD n z56).f1 + 1⟩] rfl (fun e he => by
    simp only [List.mem_cons, List.not_mem_nil, or_false] at he
    rcases he with rfl | rfl | rfl | rfl <;> (simp only; omega))
   (fun r => nearC (b + 1) r ∧ r.length ≤ out.length + 4 * (d + 1) ∧ (out ≠ [] ∨ (∃ i, n ≤ i ∧ i < x0.length ∧ (⟨(x0.getD i z56).f0, (x0.getD i z56).f1 - 1⟩ : S56) ∉ x0) → r ≠ []))
   4 0 out (by omega) hno (by omega) (fun o2 g1 g2 g3 => by
    obtain ⟨r, r1, r2, r3, r4⟩ := ih (n + 1) o2 (by omega) g1 (by omega)
    rw [wrap_succ n (by omega)]
    refine ⟨r, r1, r2, by omega, fun h => ?_⟩
    rcases h with h | ⟨i, h4, h5, h6⟩
    ·exact r4 (.inl (g3 (.inl h)))
    ·by_cases e : i = n
     ·subst e
      exact r4 (.inl (g3 (.inr ⟨0, by omega, by omega, h6⟩)))
     ·exact r4 (.inr ⟨i, by omega, h5, h6⟩))
  exact ⟨r, Ev.step (f := fun _ => _) (fun k => by simp only [spec_l02Neighbours.l0]; rfl) (ev_pos (by omega) (ev_pos (by omega) (ev_some hA h1))), h2⟩
theorem neigh_val (b : Int) (hb : 0 ≤ b ∧ b ≤ 1000) (x0 : List S56) (h0 : x0.length ≤ 100) (h1 : 1 ≤ x0.length) (hx : nearC b x0) : ∃ r, Ev (fun k => spec_l02Neighbours.f k x0) r ∧ nearC (b + 1) r ∧ r.length ≤ 4 * x0.length ∧ 1 ≤ r.length := by
 obtain ⟨r, r1, r2, r3, r4⟩ := neigh0 b hb x0 h0 hx x0.length 0 [] (by omega) (fun c hc => by simp at hc) (by simp; omega)
 refine ⟨r, r1, r2, by simpa using r3, ?_⟩
 obtain ⟨c, hc, ec⟩ := (corn_mem x0 h1).2
 obtain ⟨i, hi, e⟩ := List.getElem_of_mem hc
 have e1 : x0.getD i z56 = c := by rw [List.getD_eq_getElem?_getD, List.getElem?_eq_getElem hi, Option.getD_some, e]
 have := r4 (.inr ⟨i, by omega, hi, fun hm => by
  have h2 := (minF_le (·.f1) x0 (cellAt x0 0).f1).2 _ hm
  rw [e1] at h2
  unfold minY at ec
  simp only at h2
  omega⟩)
 cases r with
 | nil => exact absurd rfl this
 | cons c r => simp
theorem poly_loop (code : List Int) (d : Nat) : ∀ (n : Int) (out : List S56) (p seed : Int), n = (d : Int) → d ≤ 20 → out.length + d ≤ 30 → 1 ≤ out.length → nearC (30 - d) out → St code p seed →
  ∃ l p' s', Ev (fun k => spec_l02DrawPoly.l0 k out n code p seed) (l, p', s') ∧ St code p' s' ∧ 1 ≤ l.length ∧ l.length ≤ 30 ∧ nearC 60 l := by
 induction d with
 | zero =>
  intro n out p seed hn hd hl h1 hnr hS
  have hnr' : nearC 30 out := fun c hc => by have := hnr c hc; omega
  refine ⟨normL out, p, seed, Ev.step (f := fun _ => _) (fun k => by simp only [spec_l02DrawPoly.l0]; rfl) (ev_neg (by omega) (Ev.bind (snormal_val out (by omega) h1) (ev_const rfl))), hS, by rw [normL_len]; exact h1, by rw [normL_len]; omega, ?_⟩
  have hcn := near_corn 30 out h1 hnr'
  rw [normL_sub out h1 (fun c hc => by have := hnr' c hc; omega)]
  intro e he
  obtain ⟨c, hc, rfl⟩ := List.mem_map.1 he
  have := hnr' c hc
  simp only [subC, cornC]
  omega
 | succ d ih =>
  intro n out p seed hn hd hl h1 hnr hS
  obtain ⟨ar, a1, a2, a3, a4⟩ := neigh_val (30 - ((d + 1 : Nat) : Int)) (by omega) out (by omega) h1 hnr
  obtain ⟨x, p', s', hx, hS', hx0, hx1, hx2⟩ := next_some code p seed (ar.length : Int) hS
  have hxl : x < (ar.length : Int) := by
   by_cases e : (ar.length : Int) ≤ 1
   ·have := hx2 e; omega
   ·exact hx1 (by omega)
  obtain ⟨j, rfl⟩ := Int.eq_ofNat_of_zero_le hx0
  have hm := a2 _ (getD_mem ar z56 j (by omega))
  obtain ⟨l, p2, s2, h3, h4⟩ := ih (n - 1) (insC (ar.getD j z56) out) p' s' (by omega) (by omega) (by rw [insC_len]; omega) (by rw [insC_len]; omega) (insC_near _ _ _ (by omega) (fun c hc => by have := hnr c hc; omega)) hS'
  refine ⟨l, p2, s2, Ev.step (f := fun _ => _) (fun k => by simp only [spec_l02DrawPoly.l0]; rfl) (ev_pos (by omega) (Ev.bind a1 (ev_some hx (ev_pos (show (0 : Int) ≤ (j : Int) by omega) (ev_pos hxl (Ev.bind (insert_val out (ar.getD j z56) (by omega)) ?_)))))), h4⟩
  rw [wrap_id (n - 1) (by omega) (by omega)]
  exact h3
theorem poly_val (code : List Int) (p seed : Int) (hS : St code p seed) (m : Int) (hm : 1 ≤ m ∧ m ≤ 20) : ∃ l p' s', Ev (fun k => spec_l02DrawPoly.f k code p seed m) (l, p', s') ∧ St code p' s' ∧ 1 ≤ l.length ∧ l.length ≤ 30 ∧ nearC 60 l := by
 obtain ⟨x, p', s', hx, hS', hx0, hx1, hx2⟩ := next_some code p seed m hS
 have hxl : x < 20 := by
  by_cases e : m ≤ 1
  ·have := hx2 e; omega
  ·have := hx1 (by omega); omega
 obtain ⟨d, rfl⟩ := Int.eq_ofNat_of_zero_le hx0
 obtain ⟨l, p2, s2, h3, h4⟩ := poly_loop code d d [⟨0, 0⟩] p' s' rfl (by omega) (by simp; omega) (by simp) (fun c hc => by
  simp only [List.mem_singleton] at hc
  subst hc
  simp only; omega) hS'
 exact ⟨l, p2, s2, ev_some hx h3, h4⟩
theorem line_loop (code : List Int) (d : Nat) : ∀ (i : Nat) (out : List S56) (p seed : Int), i + d = 42 → out.length = i → St code p seed →
  ∃ l p' s', Ev (fun k => spec_l02Draw.l0 k out i code p seed) (l, p', s') ∧ St code p' s' ∧ l.length ≤ 42 := by
 induction d with
 | zero =>
  intro i out p seed hi ho hS
  obtain ⟨x, p', s', hx, hS', hx0, hx1, _⟩ := next_some code p seed 2 hS
  have := hx1 (by omega)
  exact ⟨out, p', s', Ev.step (f := fun _ => _) (fun k => by simp only [spec_l02Draw.l0]; rfl) (ev_some hx (ev_neg (show ¬ ((i : Int) < wrap64 (40 + x)) by rw [wrap_id _ (by omega) (by omega)]; omega) (ev_const rfl))), hS', by omega⟩
 | succ d ih =>
  intro i out p seed hi ho hS
  obtain ⟨x, p', s', hx, hS', hx0, hx1, _⟩ := next_some code p seed 2 hS
  have := hx1 (by omega)
  by_cases c : (i : Int) < 40 + x
  ·obtain ⟨l, p2, s2, h3, h4⟩ := ih (i + 1) (out ++ [⟨(i : Int), 0⟩]) p' s' (by omega) (by simp [ho]) hS'
   refine ⟨l, p2, s2, Ev.step (f := fun _ => _) (fun k => by simp only [spec_l02Draw.l0]; rfl) (ev_some hx (ev_pos (show (i : Int) < wrap64 (40 + x) by rw [wrap_id _ (by omega) (by omega)]; exact c) (ev_pos (show out.length < 8796093022208 by omega) ?_))), h4⟩
   rw [wrap_succ i (by omega)]
   exact h3
  ·exact ⟨out, p', s', Ev.step (f := fun _ => _) (fun k => by simp only [spec_l02Draw.l0]; rfl) (ev_some hx (ev_neg (show ¬ ((i : Int) < wrap64 (40 + x)) by rw [wrap_id _ (by omega) (by omega)]; exact c) (ev_const rfl))), hS', by omega⟩
theorem smove_val (l : List S56) (a b : Int) (hl : l.length ≤ 1000) : Ev (fun k => spec_l02Move.f k l a b) (movL a b l) :=
 ev_eq (smove_loop l a b (by unfold maxLen; omega) (by omega) l.length 0 [] (by omega) rfl) (by simp)
theorem movL_len (a b : Int) (l : List S56) : (movL a b l).length = l.length := by simp [movL]
theorem draw_shape (code : List Int) (p seed : Int) (hS : St code p seed) : ∃ l p' s', Ev (fun k => spec_l02Draw.f k code p seed) (l, p', s') ∧ St code p' s' ∧ l.length ≤ 50 := by
 obtain ⟨l0, p0, s0, e0, S0, n1, n2, _⟩ := poly_val code p seed hS 8 (by omega)
 obtain ⟨x1, p1, s1, e1, S1, a1, b1, _⟩ := next_some code p0 s0 9 S0
 obtain ⟨x2, p2, s2, e2, S2, a2, b2, _⟩ := next_some code p1 s1 9 S1
 have hM := smove_val l0 (wrap64 (x1 - 4)) (wrap64 (x2 - 4)) (by omega)
 have hml := movL_len (wrap64 (x1 - 4)) (wrap64 (x2 - 4)) l0
 generalize movL (wrap64 (x1 - 4)) (wrap64 (x2 - 4)) l0 = m at hM hml
 obtain ⟨x3, p3, s3, e3, S3, a3, b3, c3⟩ := next_some code p2 s2 (m.length : Int) S2
 have hx3 : x3 < (m.length : Int) := by
  by_cases e : (m.length : Int) ≤ 1
  ·have := c3 e; omega
  ·exact b3 (by omega)
 obtain ⟨x4, p4, s4, e4, S4, a4, b4, _⟩ := next_some code p3 s3 24 S3
 have J : ∀ r : List S56 × Int × Int, Ev (fun k => if x4 = 0 then ((some (([(-100), 100, 101] : List Int) : List Int)).bind fun y215 => ((spec_l01Next.f code p4 s4 3).bind fun bt218 => (if 0 ≤ bt218.1 then (if bt218.1 < (y215.length : Int) then (if 0 ≤ x3 then (if x3 < (m.length : Int) then ((spec_l02Sort.f k (m.set (x3 : Int).toNat (⟨rd y215 bt218.1, (rd_T56 m x3).f1⟩ : S56))).bind fun t223 => (some (t223, bt218.2.1, bt218.2.2))) else (none)) else (none)) else (none)) else (none)))) else (if x4 = 1 then (if 0 ≤ x3 then (if x3 < (m.length : Int) then (if m.length < 8796093022208 then (some ((m ++ [(⟨(rd_T56 m x3).f0, (rd_T56 m x3).f1⟩ : S56)]), p4, s4)) else (none)) else (none)) else (none)) else (if x4 = 2 then (some (([] : List (S56)), p4, s4)) else (if x4 = 3 then (spec_l02Draw.l0 k (([] : List (S56))) 0 code p4 s4) else (if x4 = 4 then (if 0 < (m.length : Int) then (if 0 ≤ (wrap64 ((m.length : Int) - 1)) then (if (wrap64 ((m.length : Int) - 1)) < (m.length : Int) then (if m.length < 8796093022208 then (some ((m ++ [(⟨wrap64 (((rd_T56 m 0).f0) + 3), wrap64 (((rd_T56 m (wrap64 ((m.length : Int) - 1))).f1) + 2)⟩ : S56)]), p4, s4)) else (none)) else (none)) else (none)) else (none)) else (if x4 = 5 then (if 0 < (m.length : Int) then (if 0 ≤ (wrap64 ((m.length : Int) - 1)) then (if (wrap64 ((m.length : Int) - 1)) < (m.length : Int) then (if m.length < 8796093022208 then (some ((m ++ [(⟨wrap64 (((rd_T56 m 0).f0) + 3), wrap64 (((rd_T56 m (wrap64 ((m.length : Int) - 1))).f1) + 2)⟩ : S56)]), p4, s4)) else (none)) else (none)) else (none)) else (none)) else (some (m, p4, s4)))))))) r → Ev (fun k => spec_l02Draw.f k code p seed) r := fun r h =>
  Ev.bind e0 (ev_some e1 (ev_some e2 (Ev.bind hM (ev_some e3 (ev_some e4 h)))))
 have w1 : wrap64 ((m.length : Int) - 1) = (m.length : Int) - 1 := wrap_id _ (by omega) (by omega)
 by_cases q0 : x4 = 0
 ·obtain ⟨x5, p5, s5, e5, S5, a5, b5, _⟩ := next_some code p4 s4 3 S4
  have := b5 (by omega)
  exact ⟨_, p5, s5, J _ (ev_pos q0 (ev_some rfl (ev_some e5 (ev_pos a5 (ev_pos (by simpa using b5 (by omega)) (ev_pos a3 (ev_pos hx3 (Ev.bind (ssort_val _ (by simp; omega)) (ev_const rfl))))))))), S5, by rw [sortC_len, List.length_set]; omega⟩
 ·by_cases q1 : x4 = 1
  ·exact ⟨_, p4, s4, J _ (ev_neg q0 (ev_pos q1 (ev_pos a3 (ev_pos hx3 (ev_pos (by omega) (ev_const rfl)))))), S4, by simp; omega⟩
  ·by_cases q2 : x4 = 2
   ·exact ⟨_, p4, s4, J _ (ev_neg q0 (ev_neg q1 (ev_pos q2 (ev_const rfl)))), S4, by simp⟩
   ·by_cases q3 : x4 = 3
    ·obtain ⟨l, p5, s5, h5, h6, h7⟩ := line_loop code 42 0 [] p4 s4 (by omega) rfl S4
     exact ⟨l, p5, s5, J _ (ev_neg q0 (ev_neg q1 (ev_neg q2 (ev_pos q3 h5)))), h6, by omega⟩
    ·by_cases q4 : x4 = 4
     ·exact ⟨_, p4, s4, J _ (ev_neg q0 (ev_neg q1 (ev_neg q2 (ev_neg q3 (ev_pos q4 (ev_pos (by omega) (ev_pos (by omega) (ev_pos (by omega) (ev_pos (by omega) (ev_const rfl)))))))))), S4, by simp; omega⟩
     ·by_cases q5 : x4 = 5
      ·exact ⟨_, p4, s4, J _ (ev_neg q0 (ev_neg q1 (ev_neg q2 (ev_neg q3 (ev_neg q4 (ev_pos q5 (ev_pos (by omega) (ev_pos (by omega) (ev_pos (by omega) (ev_pos (by omega) (ev_const rfl))))))))))), S4, by simp; omega⟩
      ·exact ⟨_, p4, s4, J _ (ev_neg q0 (ev_neg q1 (ev_neg q2 (ev_neg q3 (ev_neg q4 (ev_neg q5 (ev_const rfl))))))), S4, by omega⟩
theorem mask_in (x : Int) : 0 ≤ Go.bits .and .u64 x 16777215 ∧ Go.bits .and .u64 x 16777215 ≤ 16777215 := by
 have h : (BitVec.ofInt 64 x &&& BitVec.ofInt 64 16777215).toNat ≤ 16777215 := by
  rw [BitVec.toNat_and]
  exact Nat.le_trans Nat.and_le_right (by decide)
 have e : Go.bits .and .u64 x 16777215 = IntKind.u64.wrap (((BitVec.ofInt 64 x &&& BitVec.ofInt 64 16777215).toNat : Nat) : Int) := rfl
 rw [e]
 generalize (BitVec.ofInt 64 x &&& BitVec.ofInt 64 16777215).toNat = n at h
 simp [IntKind.wrap, IntKind.bits, IntKind.signed]
 omega
theorem roll_loop (code : List Int) (hl : code.length ≤ 4096) (d : Nat) : ∀ (n : Nat) (h : Int), n + d = code.length → ∃ h', Ev (fun k => laws_roll.l0 k code n code 0 h) (code, 0, h') := by
 induction d with
 | zero =>
  intro n h hd
  exact ⟨h, Ev.step (f := fun _ => _) (fun k => by simp only [laws_roll.l0]; rfl) (ev_neg (by omega) (ev_const rfl))⟩
 | succ d ih =>
  intro n h hd
  obtain ⟨h', he⟩ := ih (n + 1) (IntKind.u64.wrap ((IntKind.u64.wrap ((IntKind.u64.wrap (h * 1099511628211)) + (IntKind.u64.wrap (rd code n)))) + 3)) (by omega)
  refine ⟨h', Ev.step (f := fun _ => _) (fun k => by simp only [laws_roll.l0]; rfl) (ev_pos (by omega) (ev_pos (by omega) ?_))⟩
  rw [wrap_succ n (by omega)]
  exact he
theorem roll_val (code : List Int) (hl : code.length ≤ 4096) (a : Int) : ∃ h, Ev (fun k => laws_roll.f k code a) (code, 0, h) := roll_loop code hl code.length 0 _ (by omega)
theorem below_val (code : List Int) (hb : ∀ x ∈ code, 0 ≤ x ∧ x ≤ 255) (hl : code.length ≤ 4096) (h m : Int) (hm : 0 < m) : ∃ x i h', laws_dice_below.f code 0 h m = some (x, i, h') ∧ 0 ≤ x ∧ x < m := by
 have hk := mask_in (IntKind.u64.wrap ((IntKind.u64.wrap (h * 6364136223846793005)) + 1442695040888963407) / 8589934592)
 have hr := rd_byte code hb 0
 unfold laws_dice_below.f
 by_cases c : (0 : Int) < (code.length : Int)
 ·rw [if_pos c, if_pos (by omega), if_neg (by omega)]
  refine ⟨_, _, _, rfl, ?_⟩
  generalize Go.bits .and .u64 (IntKind.u64.wrap ((IntKind.u64.wrap (h * 6364136223846793005)) + 1442695040888963407) / 8589934592) 16777215 = z at hk
  rw [wrap_id z (by omega) (by omega), wrap_id (rd code 0) (by omega) (by omega), wrap_id _ (by omega) (by omega)]
  exact tmod_in _ _ (by omega) hm
 ·rw [if_neg c, if_neg (by omega)]
  refine ⟨_, _, _, rfl, ?_⟩
  generalize Go.bits .and .u64 (IntKind.u64.wrap ((IntKind.u64.wrap (h * 6364136223846793005)) + 1442695040888963407) / 8589934592) 16777215 = z at hk
  rw [wrap_id z (by omega) (by omega)]
  exact tmod_in _ _ (by omega) hm
theorem likeCells_loop (xs : List S56) (hm : xs.length ≤ 1000000) (d : Nat) : ∀ (n : Nat), n + d = xs.length → Ev (fun k => laws_likeCells.l0 k xs xs n) true := by
 induction d with
 | zero =>
  intro n hd
  exact Ev.step (f := fun _ => _) (fun k => by simp only [laws_likeCells.l0]; rfl) (ev_neg (by omega) (ev_const rfl))
 | succ d ih =>
  intro n hd
  refine Ev.step (f := fun _ => _) (fun k => by simp only [laws_likeCells.l0]; rfl) (ev_pos (by omega) (ev_pos (by omega) (ev_pos (by omega) (ev_neg (by simp) ?_))))
  rw [wrap_succ n (by omega)]
  exact ih (n + 1) (by omega)
theorem likeCells_val (xs : List S56) (hm : xs.length ≤ 1000000) : Ev (fun k => laws_likeCells.f k xs xs) true := ev_pos rfl (likeCells_loop xs hm xs.length 0 (by omega))
theorem asc_uniq (L L' : List (List S56)) (h : L.Pairwise (fun a b => cmpS a b < 0)) (h' : L'.Pairwise (fun a b => cmpS a b < 0)) (e : ∀ z, z ∈ L ↔ z ∈ L') : L = L' := by
 have hn : ∀ M : List (List S56), M.Pairwise (fun a b => cmpS a b < 0) → M.Nodup := fun M hM => by
  rw [List.nodup_iff_pairwise_ne]
  exact hM.imp (fun {a b} hab e => by rw [e, cmpS_self] at hab; omega)
 have hp : L.Perm L' := (List.perm_ext_iff_of_nodup (hn L h) (hn L' h')).2 e
 exact List.Perm.eq_of_pairwise (fun a b _ _ h1 h2 => by have := cmpS_neg a b; omega) h h' hp
theorem likeShapes_loop (L : List (List S56)) (hl : L.length ≤ 1000000) (h : ∀ a ∈ L, a.length ≤ 1000) (d : Nat) : ∀ n : Nat, n + d = L.length → Ev (fun k => laws_likeShapes.l0 k L L n) true := by
 induction d with
 | zero =>
  intro n hn
  exact Ev.step (f := fun _ => _) (fun k => by simp only [laws_likeShapes.l0]; rfl) (ev_neg (by omega) (ev_const rfl))
 | succ d ih =>
  intro n hn
  refine Ev.step (f := fun _ => _) (fun k => by simp only [laws_likeShapes.l0]; rfl) (ev_pos (by omega) (ev_pos (by omega) (ev_pos (by omega) (Ev.bind (likeCells_val (L.getD n []) (by have := h _ (getD_mem L [] n (by omega)); omega)) (ev_pos rfl ?_)))))
  rw [wrap_succ n (by omega)]
  exact ih (n + 1) (by omega)
theorem likeShapes_val (L : List (List S56)) (hl : L.length ≤ 1000000) (h : ∀ a ∈ L, a.length ≤ 1000) : Ev (fun k => laws_likeShapes.f k L L) true := ev_pos rfl (likeShapes_loop L hl h L.length 0 (by omega))
theorem hasC_iff (l : List S56) (d : S56) : hasC l d = true ↔ d ∈ l := by
 unfold hasC
 rw [List.any_eq_true]
 constructor
 ·rintro ⟨x, h1, h2⟩
  rw [(eqC_iff d x).1 h2]
  exact h1
 ·intro h
  exact ⟨d, h, (eqC_iff d d).2 rfl⟩
theorem dedCF_mem : ∀ (r : List S56) (p z : S56), (z ∈ dedCF p r ∨ z = p) ↔ (z ∈ r ∨ z = p)
 | [], p, z => by simp [dedCF]
 | y :: r, p, z => by
  rw [dedCF]
  have ih := dedCF_mem r y z
  by_cases c : eqC y p = true
  ·rw [if_pos c]
   have e := (eqC_iff y p).1 c
   subst e
   rw [ih, List.mem_cons]
   constructor
   ·rintro (h | h)
    ·exact .inl (.inr h)
    ·exact .inr h
   ·rintro ((h | h) | h)
    ·exact .inr h
    ·exact .inl h
    ·exact .inr h
  ·rw [if_neg c, List.mem_cons, List.mem_cons]
   constructor
   ·rintro ((h | h) | h)
    ·exact .inl (.inl h)
    ·rcases ih.1 (.inl h) with h | h
     ·exact .inl (.inr h)
     ·exact .inl (.inl h)
    ·exact .inr h
   ·rintro ((h | h) | h)
    ·exact .inl (.inl h)
    ·rcases ih.2 (.inl h) with h | h
     ·exact .inl (.inr h)
     ·exact .inl (.inl h)
    ·exact .inr h
theorem dedC_mem (L : List S56) (z : S56) : z ∈ dedC L ↔ z ∈ L := by
 cases L with
 | nil => simp [dedC]
 | cons x r =>
  rw [dedC, List.mem_cons, List.mem_cons]
  have h := dedCF_mem r x z
  constructor
  ·rintro (h1 | h1)
   ·exact .inl h1
   ·rcases h.1 (.inl h1) with h2 | h2
    ·exact .inr h2
    ·exact .inl h2
  ·rintro (h1 | h1)
   ·exact .inl h1
   ·rcases h.2 (.inl h1) with h2 | h2
    ·exact .inr h2
    ·exact .inl h2
theorem dedC_len (L : List S56) : (dedC L).length ≤ L.length := by
 have h : ∀ (r : List S56) (p : S56), (dedCF p r).length ≤ r.length := by
  intro r
  induction r with
  | nil => intro p; exact Nat.le_refl _
  | cons y r ih =>
   intro p
   rw [dedCF]
   have := ih y
   split
   ·simp; omega
   ·simp; omega
 cases L with
 | nil => exact Nat.le_refl _
 | cons x r => have := h r x; simp [dedC]; omega
theorem nears_mem (N : S56 → List S56) (s : List S56) (z : S56) : z ∈ nearsL N s ↔ ∃ c ∈ s, z ∈ N c ∧ z ∉ s := by
 unfold nearsL nearF
 rw [List.mem_flatMap]
 constructor
 ·rintro ⟨c, h1, h2⟩
  rw [List.mem_filter] at h2
  exact ⟨c, h1, h2.1, fun h => by have := (hasC_iff s z).2 h; rw [this] at h2; simp at h2⟩
 ·rintro ⟨c, h1, h2, h3⟩
  refine ⟨c, h1, List.mem_filter.2 ⟨h2, ?_⟩⟩
  cases hh : hasC s z with
  | true => exact absurd ((hasC_iff s z).1 hh) h3
  | false => rfl
theorem beside_mem (N : S56 → List S56) (s : List S56) (z : S56) : z ∈ besideL N s ↔ ∃ c ∈ s, z ∈ N c ∧ z ∉ s := by
 unfold besideL
 rw [dedC_mem, (sortC_perm _).mem_iff, nears_mem]
theorem nears_len (N : S56 → List S56) (b : Nat) (hN : ∀ c, (N c).length ≤ b) (t : List S56) : ∀ s : List S56, (s.flatMap (nearF N t)).length ≤ s.length * b
 | [] => by simp
 | c :: s => by
  have ih := nears_len N b hN t s
  have h : (nearF N t c).length ≤ b := Nat.le_trans (List.length_filter_le _ _) (hN c)
  rw [List.flatMap_cons, List.length_append, List.length_cons, Nat.succ_mul]
  omega
theorem beside_len (N : S56 → List S56) (b : Nat) (hN : ∀ c, (N c).length ≤ b) (s : List S56) : (besideL N s).length ≤ s.length * b := by
 unfold besideL
 have h1 := dedC_len (sortC (nearsL N s))
 rw [sortC_len] at h1
 exact Nat.le_trans h1 (nears_len N b hN s s)
theorem index_iff (l : List S56) (hl : l.length ≤ 1000000) (c : S56) : ∃ v : Int, Ev (fun k => spec_l02Index.f k l c.f0 c.f1) v ∧ (v < 0 ↔ c ∉ l) := by
 obtain ⟨v, h1, h2⟩ := index_any' l hl c
 obtain ⟨u, g1, g2, _, _⟩ := index_any l hl c l.length 0 (by omega)
 have e : v = u := ev_uniq h1 g1
 subst e
 refine ⟨v, h1, fun h hm => ?_, h2⟩
 obtain ⟨i, hi, e⟩ := List.getElem_of_mem hm
 exact g2 h i (Nat.zero_le _) hi (by rw [List.getD_eq_getElem?_getD, List.getElem?_eq_getElem hi, Option.getD_some, e])
theorem nm1 (x0 : List S56) (h0 : x0.length ≤ 100) (i : Nat) (ar : List S56) (ha : ar.length = 4) (d : Nat) : ∀ (j : Nat) (out : List S56), j + d = 4 → out.length + d ≤ 900 →
  ∃ out' : List S56, (∀ z, z ∈ out' ↔ z ∈ out ∨ (z ∈ ar.drop j ∧ z ∉ x0)) ∧ out'.length ≤ out.length + d ∧ ∀ r, Ev (fun k => spec_l02Neighbours.l0 k x0 out' (wrap64 ((i : Int) + 1))) r → Ev (fun k => spec_l02Neighbours.l1 k x0 out i ar j) r := by
 induction d with
 | zero =>
  intro j out hd hl
  refine ⟨out, fun z => ?_, by omega, fun r h => Ev.step (f := fun _ => _) (fun k => by simp only [spec_l02Neighbours.l1]; rfl) (ev_neg (by omega) h)⟩
  rw [List.drop_of_length_le (by omega)]
  simp
 | succ d ih =>
  intro j out hd hl
  obtain ⟨v, hv, hv2⟩ := index_iff x0 (by omega) (ar.getD j z56)
  obtain ⟨u, hu, hu2⟩ := index_iff out (by omega) (ar.getD j z56)
  rw [drop_cons ar z56 j (by omega)]
  generalize ha' : ar.getD j z56 = a at hv hv2 hu hu2
  have hrd : rd_T56 ar (j : Int) = a := ha'
  by_cases c1 : v < 0
  ·by_cases c2 : u < 0
   ·obtain ⟨o, o1, o2, o3⟩ := ih (j + 1) (insC a out) (by omega) (by rw [insC_len]; omega)
    refine ⟨o, fun z => ?_, by rw [insC_len] at o2; omega, fun r h => ?_⟩
    ·rw [o1, (insC_perm a out).mem_iff, List.mem_cons, List.mem_cons]
     have hn := hv2.1 c1
     constructor
     ·rintro ((h | h) | h)
      ·exact .inr ⟨.inl h, by rw [h]; exact hn⟩
      ·exact .inl h
      ·exact .inr ⟨.inr h.1, h.2⟩
     ·rintro (h | ⟨h | h, h2⟩)
      ·exact .inl (.inr h)
      ·exact .inl (.inl h)
      ·exact .inr ⟨h, h2⟩
    ·refine Ev.step (f := fun _ => _) (fun k => by simp only [spec_l02Neighbours.l1]; rfl) (ev_pos (by omega) (ev_pos (by omega) (ev_pos (by omega) ?_)))
     rw [hrd]
     refine Ev.bind hv (ev_pos c1 (Ev.bind hu (ev_pos c2 (Ev.bind (insert_val out _ (by omega)) ?_))))
     rw [wrap_succ j (by omega)]; exact o3 r h
   ·obtain ⟨o, o1, o2, o3⟩ := ih (j + 1) out (by omega) (by omega)
    refine ⟨o, fun z => ?_, by omega, fun r h => ?_⟩
    ·rw [o1, List.mem_cons]
     have hn : a ∈ out := Classical.byContradiction fun q => c2 (hu2.2 q)
     constructor
     ·rintro (h | h)
      ·exact .inl h
      ·exact .inr ⟨.inr h.1, h.2⟩
     ·rintro (h | ⟨h | h, h2⟩)
      ·exact .inl h
      ·exact .inl (by rw [h]; exact hn)
      ·exact .inr ⟨h, h2⟩
    ·refine Ev.step (f := fun _ => _) (fun k => by simp only [spec_l02Neighbours.l1]; rfl) (ev_pos (by omega) (ev_pos (by omega) (ev_pos (by omega) ?_)))
     rw [hrd]
     refine Ev.bind hv (ev_pos c1 (Ev.bind hu (ev_neg c2 ?_)))
     rw [wrap_succ j (by omega)]; exact o3 r h
  ·obtain ⟨o, o1, o2, o3⟩ := ih (j + 1) out (by omega) (by omega)
   refine ⟨o, fun z => ?_, by omega, fun r h => ?_⟩
   ·rw [o1, List.mem_cons]
    have hn : a ∈ x0 := Classical.byContradiction fun q => c1 (hv2.2 q)
    constructor
    ·rintro (h | h)
     ·exact .inl h
     ·exact .inr ⟨.inr h.1, h.2⟩
    ·rintro (h | ⟨h | h, h2⟩)
     ·exact .inl h
     ·exact absurd (by rw [h]; exact hn) h2
     ·exact .inr ⟨h, h2⟩
   ·refine Ev.step (f := fun _ => _) (fun k => by simp only [spec_l02Neighbours.l1]; rfl) (ev_pos (by omega) (ev_pos (by omega) (ev_pos (by omega) ?_)))
    rw [hrd]
    refine Ev.bind hv (ev_neg c1 ?_)
    rw [wrap_succ j (by omega)]; exact o3 r h
theorem nm0 (x0 : List S56) (h0 : x0.length ≤ 100) (d : Nat) : ∀ (n : Nat) (out : List S56), n + d = x0.length → out.length + 4 * d ≤ 800 →
  ∃ r, Ev (fun k => spec_l02Neighbours.l0 k x0 out n) r ∧ (∀ z, z ∈ r ↔ z ∈ out ∨ ∃ c ∈ x0.drop n, z ∈ nearA c ∧ z ∉ x0) ∧ r.length ≤ out.length + 4 * d := by
 induction d with
 | zero =>
  intro n out hd hl
  refine ⟨out, Ev.step (f := fun _ => _) (fun k => by simp only [spec_l02Neighbours.l0]; rfl) (ev_neg (by omega) (ev_const rfl)), fun z => ?_, by omega⟩
  rw [List.drop_of_length_le (by omega)]
  simp
 | succ d ih =>
  intro n out hd hl
  have hA : spec_l02Around.f (x0.getD n z56).f0 (x0.getD n z56).f1 = some (nearA (x0.getD n z56)) := rfl
  obtain ⟨o, o1, o2, o3⟩ := nm1 x0 h0 n (nearA (x0.getD n z56)) rfl 4 0 out (by omega) (by omega)
  obtain ⟨r, r1, r2, r3⟩ := ih (n + 1) o (by omega) (by omega)
  refine ⟨r, Ev.step (f := fun _ => _) (fun k => by simp only [spec_l02Neighbours.l0]; rfl) (ev_pos (by omega) (ev_pos (by omega) (ev_some hA (o3 r (by rw [wrap_succ n (by omega)]; exact r1))))), fun z => ?_, by omega⟩
  rw [r2, o1, List.drop_zero, drop_cons x0 z56 n (by omega)]
  constructor
  ·rintro ((h | h) | ⟨c, h1, h2⟩)
   ·exact .inl h
   ·exact .inr ⟨_, List.mem_cons_self .., h⟩
   ·exact .inr ⟨c, List.mem_cons_of_mem _ h1, h2⟩
  ·rintro (h | ⟨c, h1, h2⟩)
   ·exact .inl (.inl h)
   ·rcases List.mem_cons.1 h1 with rfl | h1
    ·exact .inl (.inr h2)
    ·exact .inr ⟨c, h1, h2⟩
theorem nb_val (x0 : List S56) (h0 : x0.length ≤ 100) : ∃ r, Ev (fun k => spec_l02Neighbours.f k x0) r ∧ (∀ z, z ∈ r ↔ ∃ c ∈ x0, z ∈ nearA c ∧ z ∉ x0) ∧ r.length ≤ 4 * x0.length := by
 obtain ⟨r, r1, r2, r3⟩ := nm0 x0 h0 x0.length 0 [] (by omega) (by simp; omega)
 refine ⟨r, r1, fun z => ?_, by simpa using r3⟩
 rw [r2, List.drop_zero]
 simp
def GrowsTo (s z : List S56) : Prop := ∃ d, (∃ c ∈ s, d ∈ nearA c ∧ d ∉ s) ∧ z = normL (insC d s)
theorem sgrow_loop (s : List S56) (h1 : 1 ≤ s.length) (hs : s.length ≤ 30) (r : List S56) (d : Nat) : ∀ (n : Nat) (out : List (List S56)), n + d = r.length → r.length ≤ 1000 → Asc out → out.length + d ≤ 10000000 →
  ∃ R, Ev (fun k => spec_l05Grow.l0 k out s r n) R ∧ Asc R ∧ (∀ z, z ∈ R ↔ z ∈ out ∨ ∃ c ∈ r.drop n, z = normL (insC c s)) ∧ R.length ≤ out.length + d := by
 induction d with
 | zero =>
  intro n out hd hr hA hl
  refine ⟨out, Ev.step (f := fun _ => _) (fun k => by simp only [spec_l05Grow.l0]; rfl) (ev_neg (by omega) (ev_const rfl)), hA, fun z => ?_, by omega⟩
  rw [List.drop_of_length_le (by omega)]
  simp
 | succ d ih =>
  intro n out hd hr hA hl
  obtain ⟨R1, a1, a2, a3, a4⟩ := add_val out hA (normL (insC (r.getD n z56) s)) (by rw [normL_len, insC_len]; omega) (by omega)
  obtain ⟨R, g1, g2, g3, g4⟩ := ih (n + 1) R1 (by omega) hr a2 (by omega)
  refine ⟨R, ?_, g2, fun z => ?_, by omega⟩
  ·refine Ev.step (f := fun _ => _) (fun k => by simp only [spec_l05Grow.l0]; rfl) (ev_pos (by omega) (ev_pos (by omega) (Ev.bind (insert_val s _ (by omega)) (Ev.bind (snormal_val (insC (r.getD n z56) s) (by rw [insC_len]; omega) (by rw [insC_len]; omega)) (Ev.bind a1 ?_)))))
   rw [wrap_succ n (by omega)]
   exact g1
  ·rw [g3, a3, drop_cons r z56 n (by omega)]
   constructor
   ·rintro ((h | h) | ⟨c, h1, h2⟩)
    ·exact .inr ⟨_, List.mem_cons_self .., h⟩
    ·exact .inl h
    ·exact .inr ⟨c, List.mem_cons_of_mem _ h1, h2⟩
   ·rintro (h | ⟨c, h1, h2⟩)
    ·exact .inl (.inr h)
    ·rcases List.mem_cons.1 h1 with rfl | h1
     ·exact .inl (.inl h2)
     ·exact .inr ⟨c, h1, h2⟩
theorem sgrow_val (s : List S56) (h1 : 1 ≤ s.length) (hs : s.length ≤ 30) (out : List (List S56)) (hA : Asc out) (hl : out.length ≤ 1000000) : ∃ R, Ev (fun k => spec_l05Grow.f k out s) R ∧ Asc R ∧ (∀ z, z ∈ R ↔ z ∈ out ∨ GrowsTo s z) ∧ R.length ≤ out.length + 4 * s.length := by
 obtain ⟨r, r1, r2, r3⟩ := nb_val s (by omega)
 obtain ⟨R, g1, g2, g3, g4⟩ := sgrow_loop s h1 hs r r.length 0 out (by omega) (by omega) hA (by omega)
 refine ⟨R, Ev.bind r1 g1, g2, fun z => ?_, by omega⟩
 rw [g3, List.drop_zero]
 constructor
 ·rintro (h | ⟨c, h1, h2⟩)
  ·exact .inl h
  ·exact .inr ⟨c, (r2 c).1 h1, h2⟩
 ·rintro (h | ⟨c, h1, h2⟩)
  ·exact .inl h
  ·exact .inr ⟨c, (r2 c).2 h1, h2⟩
theorem sfix_loop (L : List (List S56)) (hL : ∀ s ∈ L, 1 ≤ s.length ∧ s.length ≤ 30) (m : Int) (t : Int) (d : Nat) : ∀ (n : Nat) (nx : List (List S56)), n + d = L.length → L.length ≤ 1000000 → Asc nx → nx.length + 120 * d ≤ 1000000 →
  ∃ R, (∀ r, Ev (fun k => spec_l05Fixed.l0 k m R (wrap64 (t + 1))) r → Ev (fun k => spec_l05Fixed.l1 k m L t nx n) r) ∧ Asc R ∧ (∀ z, z ∈ R ↔ z ∈ nx ∨ ∃ s ∈ L.drop n, GrowsTo s z) := by
 induction d with
 | zero =>
  intro n nx hd hr hA hl
  refine ⟨nx, fun r h => Ev.step (f := fun _ => _) (fun k => by simp only [spec_l05Fixed.l1]; rfl) (ev_neg (by omega) h), hA, fun z => ?_⟩
  rw [List.drop_of_length_le (by omega)]
  simp
 | succ d ih =>
  intro n nx hd hr hA hl
  have hm := hL _ (getD_mem L [] n (by omega))
  obtain ⟨R1, a1, a2, a3, a4⟩ := sgrow_val (L.getD n []) hm.1 hm.2 nx hA (by omega)
  obtain ⟨R, g1, g2, g3⟩ := ih (n + 1) R1 (by omega) hr a2 (by omega)
  refine ⟨R, fun r h => ?_, g2, fun z => ?_⟩
  ·refine Ev.step (f := fun _ => _) (fun k => by simp only [spec_l05Fixed.l1]; rfl) (ev_pos (by omega) (ev_pos (by omega) (Ev.bind a1 ?_)))
   rw [wrap_succ n (by omega)]
   exact g1 r h
  ·rw [g3, a3, drop_cons L [] n (by omega)]
   constructor
   ·rintro ((h | h) | ⟨c, h1, h2⟩)
    ·exact .inl h
    ·exact .inr ⟨_, List.mem_cons_self .., h⟩
    ·exact .inr ⟨c, List.mem_cons_of_mem _ h1, h2⟩
   ·rintro (h | ⟨c, h1, h2⟩)
    ·exact .inl (.inl h)
    ·rcases List.mem_cons.1 h1 with rfl | h1
     ·exact .inl (.inr h2)
     ·exact .inr ⟨c, h1, h2⟩
theorem normI_eq (l : List S56) (h1 : 1 ≤ l.length) (hl : l.length ≤ 1000000) : normI l = normL l := by
 obtain ⟨k, hk⟩ := normI_some l h1 hl
 obtain ⟨K, hK⟩ := inormal_val l hl h1
 have hup : ∀ j, impl_normal.f (k + j) l = some (normI l) := by
  intro j
  induction j with
  | zero => exact hk
  | succ j ih => exact impl_normal.mono l (k + j) _ ih
 have e1 := hup K
 have e2 := hK (k + K) (by omega)
 exact Option.some.inj (e1.symm.trans e2)
theorem nearA_stp (c z : S56) (h : (-1000 ≤ c.f0 ∧ c.f0 ≤ 1000) ∧ (-1000 ≤ c.f1 ∧ c.f1 ≤ 1000)) : z ∈ nearA c ↔ ∃ e, e < 4 ∧ cellKey z = stp (cellKey c) e := by
 have hA : nearA c = [⟨c.f0, c.f1 - 1⟩, ⟨c.f0 - 1, c.f1⟩, ⟨c.f0 + 1, c.f1⟩, ⟨c.f0, c.f1 + 1⟩] := by
  show [(⟨c.f0, wrap64 (c.f1 - 1)⟩ : S56), ⟨wrap64 (c.f0 - 1), c.f1⟩, ⟨wrap64 (c.f0 + 1), c.f1⟩, ⟨c.f0, wrap64 (c.f1 + 1)⟩] = _
  rw [wrap_id _ (by omega) (by omega), wrap_id _ (by omega) (by omega), wrap_id _ (by omega) (by omega), wrap_id _ (by omega) (by omega)]
 obtain ⟨x, y⟩ := c
 obtain ⟨a, b⟩ := z
 rw [hA]
 simp only [List.mem_cons, List.not_mem_nil, or_false, S56.mk.injEq, cellKey, stp, Prod.mk.injEq]
 constructor
 ·rintro (h | h | h | h)
  ·exact ⟨3, by omega, by simp only [sx]; omega, by simp only [sy]; omega⟩
  ·exact ⟨2, by omega, by simp only [sx]; omega, by simp only [sy]; omega⟩
  ·exact ⟨0, by omega, by simp only [sx]; omega, by simp only [sy]; omega⟩
  ·exact ⟨1, by omega, by simp only [sx]; omega, by simp only [sy]; omega⟩
 ·rintro ⟨e, he, h1, h2⟩
  rcases four he with rfl | rfl | rfl | rfl <;> simp only [sx, sy] at h1 h2 <;> omega
theorem con_add (M : Pt → Prop) (p q : Pt) (e : Nat) (he : e < 4) (hp : M p) (hq : q = stp p e) (h : ConP M) : ConP (fun x => M x ∨ x = q) := by
 intro Q hex hQ
 obtain ⟨x, hx, hQx⟩ := hex
 have hM : ∀ z, M z → Q z := by
  apply h Q ?_ (fun a f ha hf hs hqa => hQ a f (.inl ha) hf (.inl hs) hqa)
  rcases hx with hx | hx
  ·exact ⟨x, hx, hQx⟩
  ·refine ⟨p, hp, ?_⟩
   have hb : stp x (oppE e) = p := by rw [hx, hq, stp_opp p e he]
   have := hQ x (oppE e) (.inr hx) (oppE_lt e) (by rw [hb]; exact .inl hp) hQx
   rw [hb] at this
   exact this
 intro y hy
 rcases hy with hy | hy
 ·exact hM y hy
 ·have := hQ p e (.inl hp) he (.inr hq.symm) (hM p hp)
  rw [hy, hq]
  exact this
structure GdS (k : Nat) (s : List S56) : Prop where
 len : s.length = k + 1
 srt : s.Pairwise leC
 nd : s.Nodup
 rng : ∀ c ∈ s, (0 ≤ c.f0 ∧ c.f0 ≤ 2 * (k : Int)) ∧ (0 ≤ c.f1 ∧ c.f1 ≤ 2 * (k : Int))
 nrm : normL s = s
 con : ConP (ptsOf s)
theorem ins_sort (d : S56) (s : List S56) (h : s.Pairwise leC) : insC d s = sortC (s ++ [d]) :=
 sort_unique ((insC_perm d s).trans ((List.perm_append_comm (l₁ := [d]) (l₂ := s)).trans (sortC_perm _).symm)) (insC_sorted d s h) (sortC_sorted _)
theorem form0 (S : List S56) (h : nearC 1000000 S) (hs : S.Pairwise leC) : formL 0 S = normL S := by
 unfold formL
 rw [map_turn 0 ⟨by omega, by omega⟩ S h]
 have e : S.map (tI 0) = S := by
  have : ∀ c ∈ S, tI 0 c = c := fun c _ => if_pos rfl
  rw [List.map_congr_left this, List.map_id']
 rw [e, sortC_of_sorted hs]
theorem good_step (k : Nat) (hk : k ≤ 10) (s : List S56) (h : GdS k s) (d : S56) (hd : ∃ c ∈ s, d ∈ nearA c ∧ d ∉ s) : GdS (k + 1) (normI (sortC (s ++ [d]))) := by
 obtain ⟨c, hc, hdc, hds⟩ := hd
 have hcr := h.rng c hc
 obtain ⟨e, he, hke⟩ := (nearA_stp c d (by omega)).1 hdc
 have hsx := sx_in e
 have hd0 : d.f0 = c.f0 + sx e ∧ d.f1 = c.f1 + sy e := by
  simp only [cellKey, stp, Prod.mk.injEq] at hke
  exact hke
 obtain ⟨S, hS⟩ : ∃ S, S = sortC (s ++ [d]) := ⟨_, rfl⟩
 rw [← hS]
 have hperm : S.Perm (s ++ [d]) := by rw [hS]; exact sortC_perm _
 have hsrt : S.Pairwise leC := by rw [hS]; exact sortC_sorted _
 have hlen : S.length = k + 2 := by rw [hperm.length_eq, List.length_append, h.len]; rfl
 have hmem : ∀ x, x ∈ S ↔ x ∈ s ∨ x = d := fun x => by rw [hperm.mem_iff]; simp
 have hnd : S.Nodup := hperm.nodup_iff.2 (List.nodup_append.2 ⟨h.nd, by simp, fun a ha b hb e => by
  rw [List.mem_singleton.1 hb] at e
  rw [e] at ha
  exact hds ha⟩)
 have hrng : ∀ x ∈ S, (-1 ≤ x.f0 ∧ x.f0 ≤ 2 * (k : Int) + 1) ∧ (-1 ≤ x.f1 ∧ x.f1 ≤ 2 * (k : Int) + 1) := fun x hx => by
  rcases (hmem x).1 hx with hx | hx
  ·have := h.rng x hx; omega
  ·rw [hx]; omega
 have hn : nearC 100 S := fun x hx => by have := hrng x hx; omega
 have hn6 : nearC 1000000 S := fun x hx => by have := hrng x hx; omega
 have hshp := shp_of (by omega) (by omega) hn hsrt hnd
 have hfs := form_shape 0 ⟨by omega, by omega⟩ S hshp (fun a ha b hb => by have := hrng a ha; have := hrng b hb; omega)
 obtain ⟨a, b, hpt⟩ := pts_form 0 ⟨by omega, by omega⟩ S (by omega) hn6
 rw [form0 S hn6 hsrt] at hfs hpt
 rw [normI_eq S (by omega) (by omega)]
 have hsub := normL_sub S (by omega) hn6
 refine ⟨by rw [normL_len, hlen], ?_, hfs.1.nodup, ?_, hfs.2, ?_⟩
 ·rw [hsub, List.pairwise_map]
  refine hsrt.imp (fun {x y} hxy => ?_)
  have := (leC_iff x y).1 hxy
  exact (leC_iff _ _).2 (by simp only [subC]; omega)
 ·intro x hx
  rw [hsub] at hx
  obtain ⟨y, hy, rfl⟩ := List.mem_map.1 hx
  obtain ⟨⟨u, hu, eu⟩, v, hv, ev⟩ := corn_mem S (by omega)
  have h1 := (minF_le (·.f0) S (cellAt S 0).f0).2 y hy
  have h2 := (minF_le (·.f1) S (cellAt S 0).f1).2 y hy
  have h3 := hrng y hy
  have h4 := hrng u hu
  have h5 := hrng v hv
  unfold minX at eu
  unfold minY at ev
  simp only [subC, cornC, minX, minY]
  omega
 ·rw [hpt]
  have hM : ConP (ptsOf S) := by
   have h1 := con_add (ptsOf s) (cellKey c) (cellKey d) e he ((pts_mem s _).2 ⟨c, hc, rfl⟩) hke h.con
   have e1 : ptsOf S = fun x => ptsOf s x ∨ x = cellKey d := funext fun x => propext (by
    rw [pts_mem, pts_mem]
    constructor
    ·rintro ⟨y, hy, rfl⟩
     rcases (hmem y).1 hy with hy | hy
     ·exact .inl ⟨y, hy, rfl⟩
     ·exact .inr (by rw [hy])
    ·rintro (⟨y, hy, rfl⟩ | hx)
     ·exact ⟨y, (hmem y).2 (.inl hy), rfl⟩
     ·exact ⟨d, (hmem d).2 (.inr rfl), hx.symm⟩)
   rw [e1]
   exact h1
  have h2 := con_mov a b (ptsOf S) hM
  exact h2
def fixedA (k : Nat) : List (List S56) := allGrownL nearA normI firstL k
theorem grown_mem (s z : List S56) : z ∈ grownL nearA normI s ↔ ∃ d, (∃ c ∈ s, d ∈ nearA c ∧ d ∉ s) ∧ z = normI (sortC (s ++ [d])) := by
 unfold grownL
 rw [(tidyL_laws _).2, List.mem_map]
 constructor
 ·rintro ⟨d, h1, h2⟩
  exact ⟨d, (beside_mem nearA s d).1 h1, h2.symm⟩
 ·rintro ⟨d, h1, h2⟩
  exact ⟨d, (beside_mem nearA s d).2 h1, h2.symm⟩
theorem fixed_mem (k : Nat) (z : List S56) : z ∈ fixedA (k + 1) ↔ ∃ s ∈ fixedA k, ∃ d, (∃ c ∈ s, d ∈ nearA c ∧ d ∉ s) ∧ z = normI (sortC (s ++ [d])) := by
 show z ∈ tidyL (nextL nearA normI (fixedA k)) ↔ _
 rw [(tidyL_laws _).2]
 unfold nextL
 rw [List.mem_flatMap]
 constructor
 ·rintro ⟨s, h1, h2⟩
  exact ⟨s, h1, (grown_mem s z).1 h2⟩
 ·rintro ⟨s, h1, h2⟩
  exact ⟨s, h1, (grown_mem s z).2 h2⟩
theorem norm_one (c : S56) (h : (-1000 ≤ c.f0 ∧ c.f0 ≤ 1000) ∧ (-1000 ≤ c.f1 ∧ c.f1 ≤ 1000)) : normL [c] = [⟨0, 0⟩] := by
 rw [normL_sub _ (by simp) (fun d hd => by rw [List.mem_singleton.1 hd]; omega)]
 have h0 : minX [c] = c.f0 := by show mn c.f0 c.f0 = _; exact mn_self _
 have h1 : minY [c] = c.f1 := by show mn c.f1 c.f1 = _; exact mn_self _
 simp [subC, cornC, h0, h1]
theorem good_one : GdS 0 [(⟨0, 0⟩ : S56)] := by
 refine ⟨rfl, by simp, by simp, fun c hc => ?_, norm_one _ (by simp only; omega), ?_⟩
 ·rw [List.mem_singleton.1 hc]; simp
 ·intro Q hex _ p hp
  obtain ⟨x, hx, hQ⟩ := hex
  rw [pts_mem] at hx hp
  obtain ⟨c, hc, rfl⟩ := hx
  obtain ⟨d, hd, rfl⟩ := hp
  rw [List.mem_singleton.1 hc] at hQ
  rw [List.mem_singleton.1 hd]
  exact hQ
theorem fixed_good : ∀ k, k ≤ 10 → ∀ s ∈ fixedA k, GdS k s
 | 0, _ => fun s hs => by
  have : s = [⟨0, 0⟩] := by simpa [fixedA, allGrownL, firstL] using hs
  rw [this]
  exact good_one
 | k + 1, hk => fun s hs => by
  obtain ⟨t, ht, d, hd, rfl⟩ := (fixed_mem k s).1 hs
  exact good_step k (by omega) t (fixed_good k (by omega) t ht) d hd
theorem fixed_asc : ∀ k, Asc (fixedA k)
 | 0 => by simp [fixedA, allGrownL, firstL, Asc]
 | k + 1 => (tidyL_laws _).1
theorem dedS_len (L : List (List S56)) : (dedS L).length ≤ L.length := by
 have h : ∀ (r : List (List S56)) (p : List S56), (dedFrom p r).length ≤ r.length := by
  intro r
  induction r with
  | nil => intro p; exact Nat.le_refl _
  | cons y r ih =>
   intro p
   rw [dedFrom]
   have := ih y
   split
   ·simp; omega
   ·simp; omega
 cases L with
 | nil => exact Nat.le_refl _
 | cons x r => have := h r x; simp [dedS]; omega
theorem tidyL_len (L : List (List S56)) : (tidyL L).length ≤ L.length := by
 have := dedS_len (sortS L)
 unfold tidyL
 rw [show (sortS L).length = L.length from List.length_mergeSort _] at this
 exact this
theorem grown_len (s : List S56) : (grownL nearA normI s).length ≤ s.length * 4 := by
 unfold grownL
 have h := tidyL_len ((besideL nearA s).map (growOne normI s))
 rw [List.length_map] at h
 exact Nat.le_trans h (beside_len nearA 4 (fun _ => Nat.le_refl _) s)
theorem next_len (k : Nat) : ∀ L : List (List S56), (∀ s ∈ L, s.length = k + 1) → (nextL nearA normI L).length ≤ L.length * (4 * (k + 1))
 | [], _ => by simp [nextL]
 | s :: L, h => by
  have ih := next_len k L (fun t ht => h t (List.mem_cons_of_mem _ ht))
  have h1 := grown_len s
  rw [h s (List.mem_cons_self ..)] at h1
  unfold nextL at *
  rw [List.flatMap_cons, List.length_append, List.length_cons, Nat.succ_mul]
  omega
def bdL : Nat → Nat
 | 0 => 1
 | k + 1 => bdL k * (4 * (k + 1))
theorem fixed_len : ∀ k, k ≤ 10 → (fixedA k).length ≤ bdL k
 | 0, _ => Nat.le_refl _
 | k + 1, hk => by
  have h1 := fixed_len k (by omega)
  have h2 := next_len k (fixedA k) (fun s hs => (fixed_good k (by omega) s hs).len)
  have h3 := tidyL_len (nextL nearA normI (fixedA k))
  exact Nat.le_trans h3 (Nat.le_trans h2 (Nat.mul_le_mul_right _ h1))
theorem bd_small (k : Nat) (hk : k ≤ 5) : bdL k ≤ 122880 := by
 rcases (by omega : k = 0 ∨ k = 1 ∨ k = 2 ∨ k = 3 ∨ k = 4 ∨ k = 5) with rfl | rfl | rfl | rfl | rfl | rfl <;> decide
theorem fixed_few (k : Nat) (hk : k ≤ 5) : (fixedA k).length ≤ 122880 := Nat.le_trans (fixed_len k (by omega)) (bd_small k hk)
theorem near_pos (k : Nat) (hk : k ≤ 10) (s : List S56) (h : GdS k s) : 0 < (nearsL nearA s).length := by
 obtain ⟨⟨c, hc, ec⟩, _⟩ := corn_mem s (by have := h.len; omega)
 have hr := h.rng c hc
 have hm : (⟨c.f0 - 1, c.f1⟩ : S56) ∈ nearsL nearA s := by
  refine (nears_mem nearA s _).2 ⟨c, hc, (nearA_stp c _ (by omega)).2 ⟨2, by omega, ?_⟩, fun hq => ?_⟩
  ·simp only [cellKey, stp, sx, sy, Prod.mk.injEq]; omega
  ·have := (minF_le (·.f0) s (cellAt s 0).f0).2 _ hq
   unfold minX at ec
   simp only at this
   omega
 exact List.length_pos_of_mem hm
theorem fixed_ok (n : Nat) (h : n ≤ 6) : GrownOk nearA normI firstL n := by
 intro k hk
 refine ⟨fun s hs => ?_, ?_⟩
 ·have hg := fixed_good k (by omega) s hs
  have hl := hg.len
  exact ⟨by omega, by omega, near_pos k (by omega) s hg, Nat.le_trans (beside_len nearA 4 (fun _ => Nat.le_refl _) s) (by omega)⟩
 ·have h2 := next_len k (fixedA k) (fun s hs => (fixed_good k (by omega) s hs).len)
  have h3 := fixed_few k (by omega)
  have h4 : (fixedA k).length * (4 * (k + 1)) ≤ 122880 * 24 := Nat.mul_le_mul h3 (by omega)
  exact Nat.le_trans h2 (Nat.le_trans h4 (by omega))
theorem ifixed_val (n : Nat) (h1 : 1 ≤ n) (h : n ≤ 6) : impl_fixedShapes.f (n : Int) = some (fixedA (n - 1)) := by
 unfold impl_fixedShapes.f
 rw [if_pos ⟨⟨by omega, by omega⟩, by rw [Int.toNat_natCast]; exact fixed_ok n h⟩, Int.toNat_natCast]
 rfl
theorem sfixed_loop (n : Nat) (h : n ≤ 6) (d : Nat) : ∀ k : Nat, k + 1 + d = n → Ev (fun j => spec_l05Fixed.l0 j (n : Int) (fixedA k) ((k + 1 : Nat) : Int)) (fixedA (n - 1)) := by
 induction d with
 | zero =>
  intro k hk
  obtain rfl : n = k + 1 := by omega
  exact Ev.step (f := fun _ => _) (fun j => by simp only [spec_l05Fixed.l0]; rfl) (ev_neg (by omega) (ev_const rfl))
 | succ d ih =>
  intro k hk
  have hg := fixed_good k (by omega)
  have hf := fixed_few k (by omega)
  have hf2 : (fixedA k).length ≤ 6144 := by
   have h1 := fixed_len k (by omega)
   have h2 : bdL k ≤ 6144 := by rcases (by omega : k = 0 ∨ k = 1 ∨ k = 2 ∨ k = 3 ∨ k = 4) with rfl | rfl | rfl | rfl | rfl <;> decide
   omega
  obtain ⟨R, r1, r2, r3⟩ := sfix_loop (fixedA k) (fun s hs => by have := (hg s hs).len; omega) (n : Int) ((k + 1 : Nat) : Int) (fixedA k).length 0 [] (by omega) (by omega) List.Pairwise.nil (by simp; omega)
  have e : R = fixedA (k + 1) := asc_uniq R _ r2 (fixed_asc (k + 1)) (fun z => by
   rw [r3, fixed_mem, List.drop_zero]
   constructor
   ·rintro (h | ⟨s, hs, d, hd, e⟩)
    ·simp at h
    ·have hgs := hg s hs
     have hl := hgs.len
     rw [ins_sort d s hgs.srt] at e
     exact ⟨s, hs, d, hd, by rw [e, normI_eq _ (by rw [sortC_len]; simp) (by rw [sortC_len]; simp; omega)]⟩
   ·rintro ⟨s, hs, d, hd, e⟩
    have hgs := hg s hs
    have hl := hgs.len
    refine .inr ⟨s, hs, d, hd, ?_⟩
    rw [e, ins_sort d s hgs.srt, normI_eq _ (by rw [sortC_len]; simp) (by rw [sortC_len]; simp; omega)])
  subst e
  refine Ev.step (f := fun _ => _) (fun j => by simp only [spec_l05Fixed.l0]; rfl) (ev_pos (by omega) (r1 _ ?_))
  rw [wrap_succ (k + 1) (by omega)]
  exact ih (k + 1) (by omega)
theorem sfixed_val (n : Nat) (h1 : 1 ≤ n) (h : n ≤ 6) : Ev (fun j => spec_l05Fixed.f j (n : Int)) (fixedA (n - 1)) := sfixed_loop n h (n - 1) 0 (by omega)
theorem Shp.srt {l : List S56} (h : Shp l) : l.Pairwise leC := by
 rw [List.pairwise_iff_getElem]
 intro i j hi hj hij
 have := (less_iff _ _).1 (h.rise i j hij hj)
 have e1 : cellAt l i = l[i] := by show l.getD i _ = _; rw [List.getD_eq_getElem?_getD, List.getElem?_eq_getElem hi, Option.getD_some]
 have e2 : cellAt l j = l[j] := by show l.getD j _ = _; rw [List.getD_eq_getElem?_getD, List.getElem?_eq_getElem hj, Option.getD_some]
 rw [e1, e2] at this
 exact (leC_iff _ _).2 (by omega)
def ownP (s : List S56) : Bool := (List.range 7).all (fun u => decide (cmpS s (formL ((1 + u : Nat) : Int) s) ≤ 0))
theorem own_iff (k : Nat) (hk : k ≤ 10) (s : List S56) (h : GdS k s) : cmpS (leastForm 8 s) s = 0 ↔ ownP s = true := by
 have h0 : formL 0 s = s := by
  rw [form0 s (fun c hc => by have := h.rng c hc; omega) h.srt, h.nrm]
 have hL := leastForm_is 8 (by omega) s
 have hm0 : s ∈ formsL 8 s := (formsL_mem 8 s s).2 ⟨0, by omega, h0.symm⟩
 unfold ownP
 rw [List.all_eq_true]
 constructor
 ·intro e u hu
  have e1 := (cmpS_zero _ _).1 e
  have h2 := hL.2 (formL ((1 + u : Nat) : Int) s) ((formsL_mem 8 s _).2 ⟨1 + u, by have := List.mem_range.1 hu; omega, rfl⟩)
  rw [e1] at h2
  exact decide_eq_true h2
 ·intro hall
  have h2 : ∀ x ∈ formsL 8 s, cmpS s x ≤ 0 := fun x hx => by
   obtain ⟨t, ht, rfl⟩ := (formsL_mem 8 s x).1 hx
   by_cases e : t = 0
   ·subst e
    rw [show ((0 : Nat) : Int) = 0 from rfl, h0, cmpS_self]
    omega
   ·have := of_decide_eq_true (hall (t - 1) (List.mem_range.2 (by omega)))
    rw [show 1 + (t - 1) = t by omega] at this
    exact this
  have e : leastForm 8 s = s := least_uniq hL ⟨hm0, h2⟩ (fun _ => Iff.rfl)
  rw [e, cmpS_self]
theorem own_ev (m : Nat) (hm : m ≤ 8) (h1 : 1 ≤ m) : ∀ L : List (List S56), (∀ s ∈ L, 1 ≤ s.length ∧ s.length ≤ 100) → Ev (fun k => ownK k (m : Int) L) (L.filter (fun s => decide (cmpS (leastForm m s) s = 0)))
 | [], _ => ev_const rfl
 | s :: L, h => by
  have hs := h s (List.mem_cons_self ..)
  have ih := own_ev m hm h1 L (fun t ht => h t (List.mem_cons_of_mem _ ht))
  have hl : Ev (fun k => leastK k (m : Int) s) (leastForm m s) := Ev.bind (iforms_val s hs.1 (by omega) m hm) (ev_pos (by simp [formsL]; exact h1) (ev_const rfl))
  have h2 : Ev (fun k => (leastK k (m : Int) s).bind fun t => (ownK k (m : Int) L).bind fun q => some (if cmpS t s = 0 then s :: q else q)) (if cmpS (leastForm m s) s = 0 then s :: L.filter (fun s => decide (cmpS (leastForm m s) s = 0)) else L.filter (fun s => decide (cmpS (leastForm m s) s = 0))) := Ev.bind hl (Ev.bind ih (ev_const rfl))
  refine ev_eq (f := fun k => ownK k (m : Int) (s :: L)) h2 ?_
  rw [List.filter_cons]
  by_cases c : cmpS (leastForm m s) s = 0
  ·rw [if_pos c, if_pos (decide_eq_true c)]
  ·rw [if_neg c, if_neg (by simpa using c)]
theorem all_succ (d : Nat) (f : Nat → Bool) : (List.range (d + 1)).all f = (f 0 && (List.range d).all (fun u => f (u + 1))) := by
 rw [List.range_succ_eq_map, List.all_cons, List.all_map]
 rfl
theorem sown_in (L : List (List S56)) (hL : L.length ≤ 1000000) (out : List (List S56)) (ho : out.length ≤ 1000000) (i : Nat) (hi : i < L.length) (s : List S56) (hse : L.getD i [] = s) (hs : 1 ≤ s.length ∧ s.length ≤ 100) (r : List (List S56)) (d : Nat) : ∀ (t : Nat) (b : Bool), t + d = 8 → 1 ≤ t →
  Ev (fun k => spec_l05Own.l0 k L 8 (if (b && (List.range d).all (fun u => decide (cmpS s (formL ((t + u : Nat) : Int) s) ≤ 0))) = true then out ++ [s] else out) ((i + 1 : Nat) : Int)) r → Ev (fun k => spec_l05Own.l1 k L 8 out i b t) r := by
 subst hse
 induction d with
 | zero =>
  intro t b hd _ h
  simp only [List.range_zero, List.all_nil, Bool.and_true] at h
  refine Ev.step (f := fun _ => _) (fun k => by simp only [spec_l05Own.l1]; rfl) (ev_neg (by omega) ?_)
  cases b with
  | true =>
   rw [if_pos rfl] at h
   refine ev_pos rfl (ev_pos (by omega) (ev_pos (by omega) (ev_pos (by omega) ?_)))
   rw [wrap_succ i (by omega)]
   exact h
  | false =>
   rw [if_neg (by simp)] at h
   refine ev_neg (by simp) ?_
   rw [wrap_succ i (by omega)]
   exact h
 | succ d ih =>
  intro t b hd h1 h
  refine Ev.step (f := fun _ => _) (fun k => by simp only [spec_l05Own.l1]; rfl) (ev_pos (by omega) ?_)
  rw [all_succ] at h
  cases b with
  | true =>
   have ht : isT (t : Int) := ⟨by omega, by omega⟩
   refine ev_pos rfl (ev_pos (by omega) (ev_pos (by omega) (Ev.bind (sform_val (L.getD i []) (t : Int) ht hs.1 (by omega)) (Ev.bind (scmp_val (L.getD i []) _ (by omega)) ?_))))
   rw [wrap_succ t (by omega)]
   refine ih (t + 1) _ (by omega) (by omega) ?_
   rw [Bool.true_and] at h
   rw [show ((t + 0 : Nat) : Int) = (t : Int) by omega] at h
   refine ev_eq (f := fun k => spec_l05Own.l0 k L 8 _ ((i + 1 : Nat) : Int)) ?_ rfl
   have e : (fun u : Nat => decide (cmpS (L.getD i []) (formL ((t + (u + 1) : Nat) : Int) (L.getD i [])) ≤ 0)) = (fun u : Nat => decide (cmpS (L.getD i []) (formL ((t + 1 + u : Nat) : Int) (L.getD i [])) ≤ 0)) := funext fun u => by rw [show t + (u + 1) = t + 1 + u by omega]
   rw [e] at h
   exact h
  | false =>
   refine ev_neg (by simp) ?_
   rw [wrap_succ t (by omega)]
   refine ih (t + 1) false (by omega) (by omega) ?_
   simpa using h
theorem sown_loop (L : List (List S56)) (hL : L.length ≤ 1000000) (hs : ∀ s ∈ L, 1 ≤ s.length ∧ s.length ≤ 100) (d : Nat) : ∀ (i : Nat) (out : List (List S56)), i + d = L.length → out.length ≤ i → Ev (fun k => spec_l05Own.l0 k L 8 out i) (out ++ (L.drop i).filter ownP) := by
 induction d with
 | zero =>
  intro i out hd ho
  refine Ev.step (f := fun _ => _) (fun k => by simp only [spec_l05Own.l0]; rfl) (ev_neg (by omega) (ev_const ?_))
  rw [List.drop_of_length_le (by omega)]
  simp
 | succ d ih =>
  intro i out hd ho
  have hm := hs _ (getD_mem L [] i (by omega))
  refine Ev.step (f := fun _ => _) (fun k => by simp only [spec_l05Own.l0]; rfl) (ev_pos (by omega) ?_)
  refine sown_in L hL out (by omega) i (by omega) _ rfl hm _ 7 1 true (by omega) (by omega) ?_
  rw [Bool.true_and, drop_cons L [] i (by omega), List.filter_cons]
  by_cases c : ownP (L.getD i []) = true
  ·rw [if_pos c, if_pos (show (List.range 7).all (fun u => decide (cmpS (L.getD i []) (formL ((1 + u : Nat) : Int) (L.getD i [])) ≤ 0)) = true from c)]
   have h := ih (i + 1) (out ++ [L.getD i []]) (by omega) (by simp; omega)
   rw [List.append_assoc] at h
   exact h
  ·rw [if_neg c, if_neg (show ¬ (List.range 7).all (fun u => decide (cmpS (L.getD i []) (formL ((1 + u : Nat) : Int) (L.getD i [])) ≤ 0)) = true from c)]
   exact ih (i + 1) out (by omega) (by omega)
def ownA (k : Nat) : List (List S56) := (fixedA k).filter ownP
theorem iown_val (n : Nat) (h1 : 1 ≤ n) (h : n ≤ 6) : Ev (fun k => impl_ownForms.f k (n : Int) 8) (ownA (n - 1)) := by
 have hF := fixed_few (n - 1) (by omega)
 have hG := fixed_good (n - 1) (by omega)
 refine ev_some (ifixed_val n h1 h) (ev_pos (by omega) (ev_eq (own_ev 8 (by omega) (by omega) (fixedA (n - 1)) (fun s hs => by have := (hG s hs).len; omega)) ?_))
 unfold ownA
 refine List.filter_congr (fun s hs => ?_)
 have h2 := own_iff (n - 1) (by omega) s (hG s hs)
 cases hh : ownP s with
 | true => exact decide_eq_true (h2.2 hh)
 | false => exact decide_eq_false (fun e => by have := h2.1 e; rw [hh] at this; cases this)
theorem sown_val (n : Nat) (h : n ≤ 5) : Ev (fun k => spec_l05Own.f k (fixedA n) 8) (ownA n) := by
 have hF := fixed_few n h
 have hG := fixed_good n (by omega)
 exact sown_loop (fixedA n) (by omega) (fun s hs => by have := (hG s hs).len; omega) (fixedA n).length 0 [] (by omega) (by simp)
theorem own_sub (k : Nat) (s : List S56) (h : s ∈ ownA k) : s ∈ fixedA k := (List.mem_filter.1 h).1
theorem ev_all (F : Nat → List S56 → Option Bool) (b : List S56 → Bool) : ∀ L : List (List S56), (∀ s ∈ L, Ev (fun k => F k s) (b s)) → ∃ K, ∀ k, K ≤ k → ∀ s ∈ L, F k s = some (b s)
 | [], _ => ⟨0, fun _ _ s hs => by simp at hs⟩
 | s :: L, h => by
  obtain ⟨K1, h1⟩ := h s (List.mem_cons_self ..)
  obtain ⟨K2, h2⟩ := ev_all F b L (fun t ht => h t (List.mem_cons_of_mem _ ht))
  refine ⟨max K1 K2, fun k hk t ht => ?_⟩
  rcases List.mem_cons.1 ht with rfl | ht
  ·exact h1 k (by omega)
  ·exact h2 k (by omega) t ht
theorem snets_loop (b : List S56 → Bool) (L : List (List S56)) (hL : L.length ≤ 1000000) (hb : ∀ s ∈ L, Ev (fun k => spec_IsNet.f k s) (b s)) (d : Nat) : ∀ (i : Nat) (out : List (List S56)), i + d = L.length → out.length ≤ i → Ev (fun k => spec_Nets.l0 k L out i) (out ++ (L.drop i).filter b) := by
 induction d with
 | zero =>
  intro i out hd ho
  refine Ev.step (f := fun _ => _) (fun k => by simp only [spec_Nets.l0]; rfl) (ev_neg (by omega) (ev_const ?_))
  rw [List.drop_of_length_le (by omega)]
  simp
 | succ d ih =>
  intro i out hd ho
  have hm := hb _ (getD_mem L [] i (by omega))
  rw [drop_cons L [] i (by omega), List.filter_cons]
  refine Ev.step (f := fun _ => _) (fun k => by simp only [spec_Nets.l0]; rfl) (ev_pos (by omega) (ev_pos (by omega) (Ev.bind hm ?_)))
  cases hh : b (L.getD i []) with
  | true =>
   refine ev_pos rfl (ev_pos (by omega) ?_)
   rw [wrap_succ i (by omega), if_pos rfl]
   have h := ih (i + 1) (out ++ [L.getD i []]) (by omega) (by simp; omega)
   rw [List.append_assoc] at h
   exact h
  | false =>
   refine ev_neg (by simp) ?_
   rw [wrap_succ i (by omega), if_neg (by simp)]
   exact ih (i + 1) out (by omega) (by omega)
theorem nets_val : ∃ (b : List S56 → Bool), (∀ s : List S56, s.length ≤ maxLen → Ev (fun k => impl_IsNet.f k s) (b s) ∧ Ev (fun k => spec_IsNet.f k s) (b s)) ∧ Ev (fun k => impl_Nets.f k) ((ownA 5).filter b) ∧ Ev (fun k => spec_Nets.f k) ((ownA 5).filter b) := by
 have hb : ∃ b : List S56 → Bool, ∀ s : List S56, s.length ≤ maxLen → Ev (fun k => impl_IsNet.f k s) (b s) ∧ Ev (fun k => spec_IsNet.f k s) (b s) := by
  refine ⟨fun s => if h : s.length ≤ maxLen then Classical.choose (net_both s h) else false, fun s hs => ?_⟩
  have h2 := Classical.choose_spec (net_both s hs)
  simp only [dif_pos hs]
  exact ⟨h2.1, h2.2.1⟩
 obtain ⟨b, hb⟩ := hb
 have hF := fixed_few 5 (by omega)
 have hG := fixed_good 5 (by omega)
 have hlen : (ownA 5).length ≤ 122880 := Nat.le_trans (List.length_filter_le _ _) hF
 have hsm : ∀ s ∈ ownA 5, s.length ≤ maxLen := fun s hs => by have := (hG s (own_sub 5 s hs)).len; unfold maxLen; omega
 refine ⟨b, hb, ?_, ?_⟩
 ·obtain ⟨K, hK⟩ := ev_all impl_IsNet.f b (ownA 5) (fun s hs => (hb s (hsm s hs)).1)
  refine Ev.bind (iown_val 6 (by omega) (by omega)) ⟨K, fun k hk => ?_⟩
  show (if (ownA 5).length ≤ 1000000 ∧ ∀ s ∈ ownA 5, (impl_IsNet.f k s).isSome = true then some ((ownA 5).filter (netB k)) else none) = _
  rw [if_pos ⟨by omega, fun s hs => by rw [hK k hk s hs]; rfl⟩]
  congr 1
  refine List.filter_congr (fun s hs => ?_)
  unfold netB
  rw [hK k hk s hs]
  rfl
 ·exact Ev.bind (sfixed_val 6 (by omega) (by omega)) (Ev.bind (sown_val 5 (by omega)) (snets_loop b (ownA 5) (by omega) (fun s hs => (hb s (hsm s hs)).2) (ownA 5).length 0 [] (by omega) (by simp)))
def oneR (m : Nat) (l : List S56) : List S56 × Int := if codeS l = 0 then (leastForm m l, 0) else ([], codeS l)
theorem code_pos (l : List S56) (h : codeS l = 0) : 1 ≤ l.length ∧ l.length ≤ 500 := by
 have := (code_wide l h).1
 exact ⟨this.pos, by have := this.le; omega⟩
theorem formsL_len (m : Nat) (l : List S56) : (formsL m l).length = m := by simp [formsL]
theorem ifree_val (l : List S56) (hm : l.length ≤ maxLen) : Ev (fun k => impl_FreeForm.f k l) (oneR 8 l) := by
 unfold oneR
 refine Ev.bind (icodeS_val l hm) (ev_iteR (fun h => ?_) (fun _ => ev_const rfl))
 have hp := code_pos l h
 exact Ev.bind (a := leastForm 8 l) (Ev.bind (iforms_val l hp.1 hp.2 8 (by omega)) (ev_pos (by rw [formsL_len]; omega) (ev_const rfl))) (ev_const rfl)
theorem nodup_le {α : Type} : ∀ S l : List α, S.Nodup → (∀ c ∈ S, c ∈ l) → S.length ≤ l.length
 | [], l, _, _ => by simp
 | c :: S, l, hn, hm => by
  obtain ⟨A, B, e⟩ := List.append_of_mem (hm c (List.mem_cons_self ..))
  subst e
  have hp : (A ++ c :: B).Perm (c :: (A ++ B)) := List.perm_middle
  rw [List.nodup_cons] at hn
  have ih := nodup_le S (A ++ B) hn.2 (fun x hx => by
   have := hp.mem_iff.1 (hm x (List.mem_cons_of_mem _ hx))
   rcases List.mem_cons.1 this with h | h
   ·rw [h] at hx; exact absurd hx hn.1
   ·exact h)
  have := hp.length_eq
  simp at this ih ⊢
  omega
theorem nodup_filter {α : Type} (A : List α) (p : α → Bool) (h : A.Nodup) : (A.filter p).Nodup := List.Pairwise.filter p h
theorem filter_same {α : Type} (A B : List α) (p q : α → Bool) (hA : A.Nodup) (hB : B.Nodup) (hm : ∀ z, z ∈ A ↔ z ∈ B) (hpq : ∀ z ∈ A, p z = q z) : (A.filter p).length = (B.filter q).length := by
 refine Nat.le_antisymm (nodup_le _ _ (nodup_filter A p hA) (fun c hc => ?_)) (nodup_le _ _ (nodup_filter B q hB) (fun c hc => ?_))
 ·rw [List.mem_filter] at hc ⊢
  exact ⟨(hm c).1 hc.1, by rw [← hpq c hc.1]; exact hc.2⟩
 ·rw [List.mem_filter] at hc ⊢
  have := (hm c).2 hc.1
  exact ⟨this, by rw [hpq c this]; exact hc.2⟩
def eqLC : List S56 → List S56 → Bool
 | [], [] => true
 | x :: a, y :: b => eqC x y && eqLC a b
 | _, _ => false
theorem eqLC_iff : ∀ a b : List S56, eqLC a b = true ↔ a = b
 | [], [] => by simp [eqLC]
 | [], _ :: _ => by simp [eqLC]
 | _ :: _, [] => by simp [eqLC]
 | x :: a, y :: b => by
  rw [eqLC, Bool.and_eq_true, eqC_iff, eqLC_iff a b, List.cons.injEq]
def memX (z : List S56) : List (List S56) → Bool
 | [] => false
 | x :: r => eqLC z x || memX z r
theorem memX_iff (z : List S56) : ∀ L, memX z L = true ↔ z ∈ L
 | [] => by simp [memX]
 | x :: r => by rw [memX, Bool.or_eq_true, eqLC_iff, memX_iff z r, List.mem_cons]
def addX (acc : List (List S56)) (z : List S56) : List (List S56) := if memX z acc = true then acc else z :: acc
theorem addX_all : ∀ (L acc : List (List S56)), acc.Nodup → (L.foldl addX acc).Nodup ∧ ∀ z, z ∈ L.foldl addX acc ↔ z ∈ acc ∨ z ∈ L
 | [], acc, h => ⟨h, fun z => by simp⟩
 | x :: L, acc, h => by
  rw [List.foldl_cons]
  have hn : (addX acc x).Nodup ∧ ∀ z, z ∈ addX acc x ↔ z ∈ acc ∨ z = x := by
   unfold addX
   by_cases c : memX x acc = true
   ·rw [if_pos c]
    refine ⟨h, fun z => ⟨.inl, fun hz => ?_⟩⟩
    rcases hz with hz | rfl
    ·exact hz
    ·exact (memX_iff _ acc).1 c
   ·rw [if_neg c]
    refine ⟨List.nodup_cons.2 ⟨fun hx => c ((memX_iff x acc).2 hx), h⟩, fun z => ?_⟩
    rw [List.mem_cons]
    exact Or.comm
  obtain ⟨h1, h2⟩ := addX_all L (addX acc x) hn.1
  refine ⟨h1, fun z => ?_⟩
  rw [h2, hn.2, List.mem_cons]
  constructor
  ·rintro ((h | h) | h)
   ·exact .inl h
   ·exact .inr (.inl h)
   ·exact .inr (.inr h)
  ·rintro (h | h | h)
   ·exact .inl (.inl h)
   ·exact .inl (.inr h)
   ·exact .inr h
def growX (s : List S56) : List (List S56) := s.flatMap (fun c => ((nearA c).filter (fun d => !hasC s d)).map (fun d => normL (insC d s)))
def nextX (L : List (List S56)) : List (List S56) := (L.flatMap growX).foldl addX []
def listX : Nat → List (List S56)
 | 0 => [[⟨0, 0⟩]]
 | k + 1 => nextX (listX k)
theorem growX_mem (s z : List S56) : z ∈ growX s ↔ ∃ c ∈ s, ∃ d, d ∈ nearA c ∧ d ∉ s ∧ z = normL (insC d s) := by
 unfold growX
 rw [List.mem_flatMap]
 constructor
 ·rintro ⟨c, hc, h⟩
  obtain ⟨d, hd, e⟩ := List.mem_map.1 h
  rw [List.mem_filter] at hd
  exact ⟨c, hc, d, hd.1, fun h => by rw [(hasC_iff s d).2 h] at hd; simp at hd, e.symm⟩
 ·rintro ⟨c, hc, d, h1, h2, e⟩
  refine ⟨c, hc, List.mem_map.2 ⟨d, List.mem_filter.2 ⟨h1, ?_⟩, e.symm⟩⟩
  cases hh : hasC s d with
  | true => exact absurd ((hasC_iff s d).1 hh) h2
  | false => rfl
theorem listX_nodup : ∀ k, (listX k).Nodup
 | 0 => by simp [listX]
 | k + 1 => (addX_all _ [] (by simp)).1
theorem listX_mem : ∀ k, k ≤ 5 → ∀ z, z ∈ fixedA k ↔ z ∈ listX k
 | 0, _ => fun z => by simp [fixedA, allGrownL, firstL, listX]
 | k + 1, hk => fun z => by
  rw [fixed_mem k z]
  show _ ↔ z ∈ (((listX k).flatMap growX).foldl addX [])
  rw [(addX_all _ [] (by simp)).2, List.mem_flatMap]
  have ih := listX_mem k (by omega)
  have hg := fixed_good k (by omega)
  constructor
  ·rintro ⟨s, h1, d, ⟨c, h2, h3, h4⟩, h5⟩
   refine .inr ⟨s, (ih s).1 h1, (growX_mem s z).2 ⟨c, h2, d, h3, h4, ?_⟩⟩
   have hl := (hg s h1).len
   rw [h5, normI_eq _ (by rw [sortC_len]; simp) (by rw [sortC_len]; simp; omega), ins_sort d s (hg s h1).srt]
  ·rintro (h | ⟨s, h1, h2⟩)
   ·simp at h
   ·obtain ⟨c, h3, d, h4, h5, h6⟩ := (growX_mem s z).1 h2
    have h7 := (ih s).2 h1
    have hl := (hg s h7).len
    refine ⟨s, h7, d, ⟨c, h3, h4, h5⟩, ?_⟩
    rw [h6, normI_eq _ (by rw [sortC_len]; simp) (by rw [sortC_len]; simp; omega), ins_sort d s (hg s h7).srt]
theorem fixed_nodup (k : Nat) : (fixedA k).Nodup := List.Pairwise.imp (fun {a b} h e => by rw [e, cmpS_self] at h; omega) (fixed_asc k)
def ownK (s : List S56) : Bool := (List.range 7).all (fun u => decide (cmpS s (normL (insAll [] (s.map (turnC ((1 + u : Nat) : Int))))) ≤ 0))
theorem ownK_eq (s : List S56) : ownP s = ownK s := by
 unfold ownP ownK formL
 simp only [insAll_eq]
set_option maxRecDepth 100000 in
theorem reckon : ((listX 5).filter ownK).all (fun s => (impl_IsNet.f 400 s).isSome) = true ∧ (((listX 5).filter ownK).filter (fun s => impl_IsNet.f 400 s == some true)).length = 11 := by decide +kernel
theorem nets_eleven (b : List S56 → Bool) (hb : ∀ s : List S56, s.length ≤ maxLen → Ev (fun k => impl_IsNet.f k s) (b s)) : ((ownA 5).filter b).length = 11 := by
 obtain ⟨h1, h2⟩ := reckon
 rw [← h2]
 unfold ownA
 rw [List.filter_filter, List.filter_filter]
 refine filter_same _ _ _ _ (fixed_nodup 5) (listX_nodup 5) (listX_mem 5 (by omega)) (fun z hz => ?_)
 rw [ownK_eq]
 cases ho : ownK z with
 | false => simp
 | true =>
  have hall := List.all_eq_true.1 h1 z (List.mem_filter.2 ⟨(listX_mem 5 (by omega) z).1 hz, ho⟩)
  obtain ⟨v, hv⟩ := Option.isSome_iff_exists.1 hall
  have hl := (fixed_good 5 (by omega) z hz).len
  obtain ⟨K, hK⟩ := hb z (by unfold maxLen; omega)
  have hup : ∀ j, impl_IsNet.f (400 + j) z = some v := by
   intro j
   induction j with
   | zero => exact hv
   | succ j ih => exact impl_IsNet.mono z (400 + j) _ ih
  have e1 := hup K
  have e2 : impl_IsNet.f (400 + K) z = some (b z) := hK (400 + K) (by omega)
  have e3 : v = b z := Option.some.inj (e1.symm.trans e2)
  rw [hv, e3]
  cases b z <;> rfl
theorem six_loop (code : List Int) (d : Nat) : ∀ (out : List S56) (p seed : Int), out.length + d = 6 → 1 ≤ out.length → nearC (30 - d) out → St code p seed →
  ∃ l p' s', Ev (fun k => spec_l32Draw.l0 k out code p seed) (l, p', s') ∧ l.length ≤ 50 := by
 induction d with
 | zero =>
  intro out p seed hl h1 hnr hS
  exact ⟨out, p, seed, Ev.step (f := fun _ => _) (fun k => by simp only [spec_l32Draw.l0]; rfl) (ev_neg (by omega) (ev_const rfl)), by omega⟩
 | succ d ih =>
  intro out p seed hl h1 hnr hS
  obtain ⟨ar, a1, a2, a3, a4⟩ := neigh_val (30 - ((d + 1 : Nat) : Int)) (by omega) out (by omega) h1 hnr
  obtain ⟨x, p', s', hx, hS', hx0, hx1, hx2⟩ := next_some code p seed (ar.length : Int) hS
  have hxl : x < (ar.length : Int) := by
   by_cases e : (ar.length : Int) ≤ 1
   ·have := hx2 e; omega
   ·exact hx1 (by omega)
  obtain ⟨j, rfl⟩ := Int.eq_ofNat_of_zero_le hx0
  have hm := a2 _ (getD_mem ar z56 j (by omega))
  obtain ⟨l, p2, s2, h3, h4⟩ := ih (insC (ar.getD j z56) out) p' s' (by rw [insC_len]; omega) (by rw [insC_len]; omega) (insC_near _ _ _ (by omega) (fun c hc => by have := hnr c hc; omega)) hS'
  exact ⟨l, p2, s2, Ev.step (f := fun _ => _) (fun k => by simp only [spec_l32Draw.l0]; rfl) (ev_pos (by omega) (Ev.bind a1 (ev_some hx (ev_pos (show (0 : Int) ≤ (j : Int) by omega) (ev_pos hxl (Ev.bind (insert_val out (ar.getD j z56) (by omega)) h3)))))), h4⟩
theorem draw32 (code : List Int) (p seed : Int) (hS : St code p seed) : ∃ l p' s', Ev (fun k => spec_l32Draw.f k code p seed) (l, p', s') ∧ l.length ≤ 50 := by
 obtain ⟨x1, p1, s1, e1, S1, _⟩ := next_some code p seed 3 hS
 by_cases c1 : x1 = 0
 ·obtain ⟨l, p2, s2, h1, S2, h2⟩ := draw_shape code p1 s1 S1
  exact ⟨l, p2, s2, ev_some e1 (ev_pos c1 (Ev.bind h1 (ev_const rfl))), h2⟩
 ·obtain ⟨x2, p2, s2, e2, S2, _⟩ := next_some code p1 s1 2 S1
  by_cases c2 : x2 = 0
  ·obtain ⟨x3, p3, s3, e3, S3, _⟩ := next_some code p2 s2 4 S2
   obtain ⟨x4, p4, s4, e4, S4, _⟩ := next_some code p3 s3 4 S3
   obtain ⟨x5, p5, s5, e5, S5, b1, b2, _⟩ := next_some code p4 s4 8 S4
   have ht : isT x5 := ⟨b1, by have := b2 (by omega); omega⟩
   exact ⟨_, p5, s5, ev_some e1 (ev_neg c1 (ev_some e2 (ev_pos c2 (ev_some e3 (ev_some e4 (Ev.bind (ssort_val _ (by simp)) (ev_some e5 (Ev.bind (sform_val _ x5 ht (by rw [sortC_len]; simp) (by rw [sortC_len]; simp)) (ev_const rfl))))))))), by unfold formL; rw [normL_len, sortC_len, List.length_map, sortC_len]; simp⟩
  ·obtain ⟨l, p3, s3, h1, h2⟩ := six_loop code 5 [⟨0, 0⟩] p2 s2 rfl (by simp) (fun c hc => by
    simp only [List.mem_singleton] at hc
    subst hc
    simp only; omega) S2
   exact ⟨l, p3, s3, ev_some e1 (ev_neg c1 (ev_some e2 (ev_neg c2 h1))), h2⟩
theorem own_least (s : List S56) (hs : s ∈ ownA 5) : leastForm 8 s = s := by
 have hg := fixed_good 5 (by omega) s (own_sub 5 s hs)
 have ho : ownP s = true := (List.mem_filter.1 hs).2
 exact (cmpS_zero _ _).1 ((own_iff 5 (by omega) s hg).2 ho)
theorem FnAllNets (l : List Int) (hm : l.length ≤ maxLen) (_ : l.length * 1 ≤ 140737488351232) (hg : ∀ x ∈ l, (Lit.int .u8 x).wf = true) : ∃ k, laws_FnAllNets.f k l = some true := by
 refine Ev.rounds (g := fun k => laws_FnAllNets.f k l) ?_
 have hbyte : ∀ x ∈ l, 0 ≤ x ∧ x ≤ 255 := fun x hx => by
  have := hg x hx
  simp [Lit.wf, IntKind.has, IntKind.min, IntKind.max, IntKind.bits, IntKind.signed] at this
  omega
 refine ev_some (a := decide ((l.length : Int) > 4096)) rfl ?_
 by_cases hbig : (l.length : Int) > 4096
 ·exact ev_pos (decide_eq_true hbig) (ev_const rfl)
 ·refine ev_neg (by simpa using hbig) ?_
  have hl : l.length ≤ 4096 := by omega
  obtain ⟨s0, f0, S0⟩ := from_some l hbyte hl
  obtain ⟨z, p1, s1, d1, hz⟩ := draw32 l 0 s0 S0
  obtain ⟨b, hb, hi, hs⟩ := nets_val
  have h11 := nets_eleven b (fun s hs => (hb s hs).1)
  have hzb := hb z (by unfold maxLen; omega)
  refine Ev.bind (a := z) (Ev.bind f0 (Ev.bind d1 (ev_const rfl))) (Ev.bind hzb.1 (Ev.bind hzb.2 (ev_neg (by simp) ?_)))
  obtain ⟨h, hr⟩ := roll_val l hl 3205
  obtain ⟨i, j, h', hx, x0, x8⟩ := below_val l hbyte hl h 16 (by omega)
  refine Ev.bind hr (ev_some hx ?_)
  by_cases hi0 : i > 0
  ·exact ev_pos hi0 (ev_const rfl)
  ·refine ev_neg hi0 (Ev.bind hi (Ev.bind hs ?_))
   have hG := fixed_good 5 (by omega)
   have hmem5 : ∀ s ∈ (ownA 5).filter b, s ∈ ownA 5 ∧ b s = true := fun s hs => List.mem_filter.1 hs
   have hlen6 : ∀ s ∈ (ownA 5).filter b, s.length = 6 := fun s hs => (hG s (own_sub 5 s (hmem5 s hs).1)).len
   generalize hL : (ownA 5).filter b = L at h11 hmem5 hlen6
   refine Ev.bind (likeShapes_val L (by omega) (fun s hs => by have := hlen6 s hs; omega)) (ev_pos rfl ?_)
   have hne : ((L.length : Int) != 11) = false := by rw [h11]; rfl
   rw [hne]
   obtain ⟨h2, hr2⟩ := roll_val l hl 3203
   obtain ⟨i2, j2, h2', hx2, y0, y8⟩ := below_val l hbyte hl h2 11 (by omega)
   obtain ⟨q, rfl⟩ := Int.eq_ofNat_of_zero_le y0
   have hmem := getD_mem L [] q (by omega)
   obtain ⟨ho, hbt⟩ := hmem5 _ hmem
   have hln := hlen6 _ hmem
   refine Ev.step (f := fun _ => _) (fun k => by simp only [laws_FnAllNets.j0]; rfl) (ev_neg (by simp) (Ev.bind hr2 (ev_some hx2 (ev_pos (by show (0 : Int) ≤ (q : Int); omega) (ev_pos (by show (q : Int) < (L.length : Int); omega) ?_)))))
   generalize hse : L.getD q [] = s at hmem ho hbt hln
   have hgd := hG s (own_sub 5 s ho)
   have hshp : Shp s := shp_of (by omega) (by omega) (fun c hc => by have := hgd.rng c hc; omega) hgd.srt hgd.nd
   have hsb := (shp_iff s).2 hshp
   have hcd : codeS s = 0 := by unfold codeS; rw [hgd.nrm, if_pos hsb, if_pos hsb]
   have hff := ifree_val s (by unfold maxLen; omega)
   have hone : oneR 8 s = (s, 0) := by unfold oneR; rw [if_pos hcd, own_least s ho]
   rw [hone] at hff
   have hnet := (hb s (by unfold maxLen; omega)).1
   rw [hbt] at hnet
   have hlk := likeCells_val s (by omega)
   rw [← hse] at hff hnet hlk
   exact Ev.bind hff (ev_pos rfl (Ev.bind hlk (ev_pos rfl (Ev.bind hnet (ev_const rfl)))))
end Go.Proofs.YtmdjkmfocgelnaaGreatDoor.Pure
