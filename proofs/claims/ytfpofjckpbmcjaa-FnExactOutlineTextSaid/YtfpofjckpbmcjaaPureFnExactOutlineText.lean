/- What is proved: for every list of cells the law FnExactOutlineText answers true: the program's OutlineText and the reference's agree. No condition beyond the kinds of the numbers and the reach. -/
import Derived.Test.YtfpofjckpbmcjaaPFnExactOutlineTextx0
import Derived.Test.YtfpofjckpbmcjaaPFnExactOutlineTextx1
import Derived.Test.YtfpofjckpbmcjaaPFnExactOutlineTextx2
import Derived.Test.YtfpofjckpbmcjaaPFnExactOutlineTextx3
import Derived.Test.YtfpofjckpbmcjaaPFnExactOutlineTextx4
import Derived.Test.YtfpofjckpbmcjaaPFnExactOutlineTextx5
import Derived.Test.YtfpofjckpbmcjaaPFnExactOutlineTextx6
import Derived.Test.YtfpofjckpbmcjaaPFnExactOutlineTextx7
import Derived.Test.YtfpofjckpbmcjaaPFnExactOutlineTextx8
import Derived.Test.YtfpofjckpbmcjaaPFnExactOutlineTextx9
import Derived.Test.YtfpofjckpbmcjaaPFnExactOutlineTextx10
import Derived.Test.YtfpofjckpbmcjaaPFnExactOutlineTextx11
import Derived.Test.YtfpofjckpbmcjaaPFnExactOutlineTextx12
import Derived.Test.YtfpofjckpbmcjaaPFnExactOutlineTextx13
import Derived.Test.YtfpofjckpbmcjaaKit
set_option linter.unusedVariables false
set_option linter.unusedSimpArgs false
namespace Go.Proofs.Ytfpofjckpbmcjaa.Pure
open Go.RowKit Go.Proofs.Ytfpofjckpbmcjaa.PFnExactOutlineText Go.Proofs.YtfpofjckpbmcjaaW.PrintWords Go.Proofs.YtfpofjckpbmcjaaW.PrintLast Go.Proofs.Ytfpofjckpbmcjaa.Kit
/-! Shapes: both sides' IsShape come to one Bool. -/
abbrev cellAt (l : List S57) (i : Nat) : S57 := l.getD i z57
def inR (n : Int) : Bool := decide (-100 ≤ n) && decide (n ≤ 100)
def lessB (a b : S57) : Bool := decide (a.f1 < b.f1) || (decide (a.f1 = b.f1) && decide (a.f0 < b.f0))
def okAtB (l : List S57) (i : Nat) : Bool := (inR (cellAt l i).f0 && inR (cellAt l i).f1) && (decide (i = 0) || lessB (cellAt l (i - 1)) (cellAt l i))
def shapeFrom (l : List S57) : Nat → Nat → Bool
  | 0, _ => decide (1 ≤ l.length) && decide (l.length ≤ 40)
  | d + 1, i => okAtB l i && shapeFrom l d (i + 1)
def isShapeB (l : List S57) : Bool := shapeFrom l l.length 0
theorem in_valC (a : Int) (lo hi : Int) : spec_l01In.f a lo hi = some (decide (lo ≤ a) && decide (a ≤ hi)) := by
  unfold spec_l01In.f
  by_cases h : a ≥ lo
  · rw [if_pos h, decide_eq_true (show lo ≤ a from h), Bool.true_and]
  · rw [if_neg h, decide_eq_false (show ¬ lo ≤ a from h), Bool.false_and]
theorem within_valC (a : Int) (lo hi : Int) : impl_within.f a lo hi = some (decide (lo ≤ a) && decide (a ≤ hi)) := by
  unfold impl_within.f
  by_cases h : a ≥ lo
  · rw [if_pos h, decide_eq_true (show lo ≤ a from h), Bool.true_and]
  · rw [if_neg h, decide_eq_false (show ¬ lo ≤ a from h), Bool.false_and]
theorem cell_val (a b : Int) : spec_l02Cell.f a b = some (inR a && inR b) := by
  unfold spec_l02Cell.f
  rw [in_valC, in_valC]
  show (if inR a = true then some (inR b) else some false) = _
  cases inR a <;> rfl
theorem coord_val (a : Int) : impl_isCoordinate.f a = some (inR a) := by
  unfold impl_isCoordinate.f
  rw [within_valC]
  rfl
theorem less_val (a b c d : Int) : spec_l02Less.f a b c d = some (lessB ⟨a, b⟩ ⟨c, d⟩) := by
  unfold spec_l02Less.f lessB
  by_cases h : b < d
  · simp [h]
  · by_cases e : b = d
    · simp [e]
    · simp [h, e]
def cmp3 (a b : Int) : Int := if a < b then -1 else if a > b then 1 else 0
theorem cmp_val (a b : Int) : cmp_Compare_int64.f a b = some (cmp3 a b) := by
  have h : ∀ x : Int, cmp_isNaN_int64.f x = some false := fun x => by simp [cmp_isNaN_int64.f]
  unfold cmp_Compare_int64.f cmp3
  rw [h, h]
  simp only [Option.bind_some, Bool.false_eq_true, if_false]
  split
  · rfl
  · split <;> rfl
def cmpC (p q : S57) : Int := if cmp3 p.f1 q.f1 = 0 then cmp3 p.f0 q.f0 else cmp3 p.f1 q.f1
theorem compare_val (a b c d : Int) : impl_compareCells.f a b c d = some (cmpC ⟨a, b⟩ ⟨c, d⟩) := by
  unfold impl_compareCells.f cmpC
  rw [cmp_val, cmp_val]
  simp only [Option.bind_some]
  split <;> rfl
theorem cmpC_less (p q : S57) : (cmpC p q ≥ 0) ↔ lessB p q = false := by
  unfold cmpC cmp3 lessB
  simp only [Bool.or_eq_false_iff, Bool.and_eq_false_iff, decide_eq_false_iff_not]
  split <;> split <;> (try split) <;> (try split) <;> omega
theorem spec_shape_loop (l : List S57) (hm : l.length ≤ maxLen) (d : Nat) : ∀ n : Nat, n + d = l.length → Ev (fun k => spec_IsShape.l0 k l n) (shapeFrom l d n) := by
  unfold maxLen at hm
  induction d with
  | zero =>
    intro n hd
    refine Ev.step (f := fun _ => _) (fun k => by simp only [spec_IsShape.l0]; rfl) (ev_neg (by omega) (ev_some (in_valC _ _ _) (ev_const ?_)))
    rw [shapeFrom]
    congr 2 <;> exact decide_eq_decide.2 (by omega)
  | succ d ih =>
    intro n hd
    refine Ev.step (f := fun _ => _) (fun k => by simp only [spec_IsShape.l0]; rfl) (ev_pos (by omega) (ev_pos (by omega) (ev_some (cell_val _ _) ?_)))
    rw [show rd_T57 l (n : Int) = cellAt l n from rfl, shapeFrom, okAtB]
    cases h1 : (inR (cellAt l n).f0 && inR (cellAt l n).f1) with
    | false => exact ev_neg (by simp) (ev_const rfl)
    | true =>
      refine ev_pos rfl ?_
      by_cases h0 : n = 0
      · subst h0
        refine ev_neg (by omega) ?_
        rw [wrap_succ 0 (by omega)]
        simpa using ih 1 (by omega)
      · have hw : wrap64 ((n : Int) - 1) = ((n - 1 : Nat) : Int) := by rw [wrap_id _ (by omega) (by omega)]; omega
        rw [hw]
        refine ev_pos (by omega) (ev_pos (by omega) (ev_pos (by omega) (ev_some (less_val _ _ _ _) ?_)))
        rw [decide_eq_false h0, Bool.false_or, Bool.true_and, show rd_T57 l ((n - 1 : Nat) : Int) = cellAt l (n - 1) from rfl]
        cases h2 : lessB (cellAt l (n - 1)) (cellAt l n) with
        | false => exact ev_neg (by simp) (ev_const rfl)
        | true =>
          refine ev_pos rfl ?_
          rw [wrap_succ n (by omega), Bool.true_and]
          exact ih (n + 1) (by omega)
theorem spec_shape_val (l : List S57) (hm : l.length ≤ maxLen) : Ev (fun k => spec_IsShape.f k l) (isShapeB l) := spec_shape_loop l hm l.length 0 (by omega)
theorem impl_shape_loop (l : List S57) (hm : l.length ≤ maxLen) (d : Nat) : ∀ n : Nat, n + d = l.length → Ev (fun k => impl_IsShape.l0 k l l (l.length : Int) n) (shapeFrom l d n) := by
  unfold maxLen at hm
  induction d with
  | zero =>
    intro n hd
    refine Ev.step (f := fun _ => _) (fun k => by simp only [impl_IsShape.l0]; rfl) (ev_neg (by omega) ?_)
    rw [shapeFrom]
    by_cases h : (l.length : Int) ≥ 1
    · refine ev_pos h (ev_const ?_)
      rw [decide_eq_true (show 1 ≤ l.length by omega), Bool.true_and]
      congr 1
      exact decide_eq_decide.2 (by omega)
    · refine ev_neg h (ev_const ?_)
      rw [decide_eq_false (show ¬ 1 ≤ l.length by omega), Bool.false_and]
  | succ d ih =>
    intro n hd
    refine Ev.step (f := fun _ => _) (fun k => by simp only [impl_IsShape.l0]; rfl) (ev_pos (by omega) (ev_pos (by omega) (ev_pos (by omega) (ev_some (coord_val _) ?_))))
    rw [show rd_T57 l (n : Int) = cellAt l n from rfl, shapeFrom, okAtB]
    cases h1 : inR (cellAt l n).f0 with
    | false => exact ev_neg (by simp) (ev_const (by simp))
    | true =>
      refine ev_pos rfl (ev_some (coord_val _) ?_)
      cases h1' : inR (cellAt l n).f1 with
      | false => exact ev_neg (by simp) (ev_const (by simp))
      | true =>
        refine ev_pos rfl ?_
        by_cases h0 : n = 0
        · subst h0
          refine ev_neg (by omega) ?_
          rw [wrap_succ 0 (by omega)]
          simpa using ih 1 (by omega)
        · have hw : wrap64 ((n : Int) - 1) = ((n - 1 : Nat) : Int) := by rw [wrap_id _ (by omega) (by omega)]; omega
          rw [hw]
          refine ev_pos (by omega) (ev_pos (by omega) (ev_pos (by omega) (ev_some (compare_val _ _ _ _) ?_)))
          rw [decide_eq_false h0, Bool.false_or, Bool.true_and, show rd_T57 l ((n - 1 : Nat) : Int) = cellAt l (n - 1) from rfl]
          cases h2 : lessB (cellAt l (n - 1)) (cellAt l n) with
          | false => exact ev_pos ((cmpC_less _ _).2 h2) (ev_const rfl)
          | true =>
            refine ev_neg (fun h => by have := (cmpC_less _ _).1 h; rw [h2] at this; cases this) ?_
            rw [wrap_succ n (by omega), Bool.true_and]
            exact ih (n + 1) (by omega)
theorem impl_shape_val (l : List S57) (hm : l.length ≤ maxLen) : Ev (fun k => impl_IsShape.f k l) (isShapeB l) := impl_shape_loop l hm l.length 0 (by omega)
/-! Least and greatest coordinates, the moved cells, sizes: both sides. -/
def minF (f : S57 → Int) : List S57 → Int → Int
  | [], x => x
  | c :: r, x => minF f r (mn x (f c))
def maxF (f : S57 → Int) : List S57 → Int → Int
  | [], x => x
  | c :: r, x => maxF f r (mx x (f c))
def minX (l : List S57) : Int := minF (·.f0) l (cellAt l 0).f0
def minY (l : List S57) : Int := minF (·.f1) l (cellAt l 0).f1
def maxX (l : List S57) : Int := maxF (·.f0) l (cellAt l 0).f0
def maxY (l : List S57) : Int := maxF (·.f1) l (cellAt l 0).f1
def movL (a b : Int) (l : List S57) : List S57 := l.map fun c => ⟨wrap64 (c.f0 + a), wrap64 (c.f1 + b)⟩
def normL (l : List S57) : List S57 := movL (wrap64 (-minX l)) (wrap64 (-minY l)) l
theorem minF_le (f : S57 → Int) : ∀ (l : List S57) (x : Int), minF f l x ≤ x ∧ ∀ c ∈ l, minF f l x ≤ f c
  | [], x => ⟨Int.le_refl _, by simp⟩
  | c :: r, x => by
    have h := minF_le f r (mn x (f c))
    have h1 : mn x (f c) ≤ x ∧ mn x (f c) ≤ f c := by unfold mn; split <;> omega
    rw [minF]
    refine ⟨by omega, fun d hd => ?_⟩
    rcases List.mem_cons.1 hd with rfl | hd
    · omega
    · exact h.2 d hd
theorem maxF_ge (f : S57 → Int) : ∀ (l : List S57) (x : Int), x ≤ maxF f l x ∧ ∀ c ∈ l, f c ≤ maxF f l x
  | [], x => ⟨Int.le_refl _, by simp⟩
  | c :: r, x => by
    have h := maxF_ge f r (mx x (f c))
    have h1 : x ≤ mx x (f c) ∧ f c ≤ mx x (f c) := by unfold mx; split <;> omega
    rw [maxF]
    refine ⟨by omega, fun d hd => ?_⟩
    rcases List.mem_cons.1 hd with rfl | hd
    · omega
    · exact h.2 d hd
theorem minF_in (f : S57 → Int) (lo hi : Int) : ∀ (l : List S57) (x : Int), (lo ≤ x ∧ x ≤ hi) → (∀ c ∈ l, lo ≤ f c ∧ f c ≤ hi) → lo ≤ minF f l x ∧ minF f l x ≤ hi
  | [], x, h, _ => h
  | c :: r, x, h, hc => by
    have h1 := hc c (by simp)
    exact minF_in f lo hi r _ (by unfold mn; split <;> omega) (fun d hd => hc d (by simp [hd]))
theorem maxF_in (f : S57 → Int) (lo hi : Int) : ∀ (l : List S57) (x : Int), (lo ≤ x ∧ x ≤ hi) → (∀ c ∈ l, lo ≤ f c ∧ f c ≤ hi) → lo ≤ maxF f l x ∧ maxF f l x ≤ hi
  | [], x, h, _ => h
  | c :: r, x, h, hc => by
    have h1 := hc c (by simp)
    exact maxF_in f lo hi r _ (by unfold mx; split <;> omega) (fun d hd => hc d (by simp [hd]))
theorem mn_self (x : Int) : mn x x = x := by unfold mn; split <;> omega
theorem mx_self (x : Int) : mx x x = x := by unfold mx; split <;> omega
theorem cell_mem (l : List S57) (i : Nat) (h : i < l.length) : cellAt l i ∈ l := getD_mem l _ i h
theorem least_loop (l : List S57) (hm : l.length ≤ maxLen) (d : Nat) : ∀ (n : Nat) (x y : Int), n + d = l.length → Ev (fun k => spec_l02Least.l0 k l x y n) (minF (·.f0) (l.drop n) x, minF (·.f1) (l.drop n) y) := by
  unfold maxLen at hm
  induction d with
  | zero =>
    intro n x y hd
    refine Ev.step (f := fun _ => _) (fun k => by simp only [spec_l02Least.l0]; rfl) (ev_neg (by omega) (ev_const ?_))
    rw [List.drop_of_length_le (by omega)]; rfl
  | succ d ih =>
    intro n x y hd
    refine Ev.step (f := fun _ => _) (fun k => by simp only [spec_l02Least.l0]; rfl) (ev_pos (by omega) (ev_pos (by omega) ?_))
    rw [wrap_succ n (by omega), drop_cons l z57 n (by omega), minF, minF]
    exact ih (n + 1) _ _ (by omega)
theorem least_val (l : List S57) (hm : l.length ≤ maxLen) (h1 : 1 ≤ l.length) : Ev (fun k => spec_l02Least.f k l) (minX l, minY l) := by
  refine ev_pos (by omega) ?_
  have h := least_loop l hm (l.length - 1) 1 (cellAt l 0).f0 (cellAt l 0).f1 (by omega)
  unfold minX minY
  have e : l = cellAt l 0 :: l.drop 1 := by
    have := drop_cons l z57 0 (by omega)
    simpa using this
  have key : ∀ f : S57 → Int, minF f l (f (cellAt l 0)) = minF f (l.drop 1) (f (cellAt l 0)) := fun f => by
    conv => lhs; rw [e, minF]
    rw [show cellAt (cellAt l 0 :: l.drop 1) 0 = cellAt l 0 from rfl, mn_self]
  rw [key (·.f0), key (·.f1)]
  exact h
theorem corner_loop (l : List S57) (hm : l.length ≤ maxLen) (d : Nat) : ∀ (n : Nat) (x y : Int), n + d = l.length → Ev (fun k => impl_corner.l0 k l (l.length : Int) n x y) (minF (·.f0) (l.drop n) x, minF (·.f1) (l.drop n) y) := by
  unfold maxLen at hm
  induction d with
  | zero =>
    intro n x y hd
    refine Ev.step (f := fun _ => _) (fun k => by simp only [impl_corner.l0]; rfl) (ev_neg (by omega) (ev_const ?_))
    rw [List.drop_of_length_le (by omega)]; rfl
  | succ d ih =>
    intro n x y hd
    refine Ev.step (f := fun _ => _) (fun k => by simp only [impl_corner.l0]; rfl) (ev_pos (by omega) (ev_pos (by omega) (ev_pos (by omega) ?_)))
    rw [wrap_succ n (by omega), drop_cons l z57 n (by omega), minF, minF]
    exact ih (n + 1) _ _ (by omega)
theorem corner_val (l : List S57) (hm : l.length ≤ maxLen) (h1 : 1 ≤ l.length) : Ev (fun k => impl_corner.f k l) (minX l, minY l) :=
  ev_pos (by omega) (corner_loop l hm l.length 0 _ _ (by omega))
theorem reach_loop (l : List S57) (hm : l.length ≤ maxLen) (d : Nat) : ∀ (n : Nat) (x y : Int), n + d = l.length → Ev (fun k => impl_reach.l0 k l (l.length : Int) n x y) (maxF (·.f0) (l.drop n) x, maxF (·.f1) (l.drop n) y) := by
  unfold maxLen at hm
  induction d with
  | zero =>
    intro n x y hd
    refine Ev.step (f := fun _ => _) (fun k => by simp only [impl_reach.l0]; rfl) (ev_neg (by omega) (ev_const ?_))
    rw [List.drop_of_length_le (by omega)]; rfl
  | succ d ih =>
    intro n x y hd
    refine Ev.step (f := fun _ => _) (fun k => by simp only [impl_reach.l0]; rfl) (ev_pos (by omega) (ev_pos (by omega) (ev_pos (by omega) ?_)))
    rw [wrap_succ n (by omega), drop_cons l z57 n (by omega), maxF, maxF]
    exact ih (n + 1) _ _ (by omega)
theorem reach_val (l : List S57) (hm : l.length ≤ maxLen) (h1 : 1 ≤ l.length) : Ev (fun k => impl_reach.f k l) (maxX l, maxY l) :=
  ev_pos (by omega) (reach_loop l hm l.length 0 _ _ (by omega))
theorem smove_loop (l : List S57) (a b : Int) (hm : l.length ≤ maxLen) (h8 : l.length ≤ 1000000) (d : Nat) : ∀ (n : Nat) (out : List S57), n + d = l.length → out.length = n → Ev (fun k => spec_l02Move.l0 k l a b out n) (out ++ movL a b (l.drop n)) := by
  unfold maxLen at hm
  induction d with
  | zero =>
    intro n out hd ho
    refine Ev.step (f := fun _ => _) (fun k => by simp only [spec_l02Move.l0]; rfl) (ev_neg (by omega) (ev_const ?_))
    rw [List.drop_of_length_le (by omega)]; simp [movL]
  | succ d ih =>
    intro n out hd ho
    refine Ev.step (f := fun _ => _) (fun k => by simp only [spec_l02Move.l0]; rfl) (ev_pos (by omega) (ev_pos (by omega) (ev_pos (by omega) ?_)))
    rw [wrap_succ n (by omega)]
    refine ev_eq (ih (n + 1) _ (by omega) (by simp [ho])) ?_
    rw [drop_cons l z57 n (by omega)]
    simp [movL]; exact ⟨rfl, rfl⟩
theorem imove_loop (l : List S57) (a b : Int) (hm : l.length ≤ maxLen) (h8 : l.length ≤ 1000000) (d : Nat) : ∀ (n : Nat) (out : List S57), n + d = l.length → out.length = n → Ev (fun k => impl_moved.l0 k a b out l (l.length : Int) n) (out ++ movL a b (l.drop n)) := by
  unfold maxLen at hm
  induction d with
  | zero =>
    intro n out hd ho
    refine Ev.step (f := fun _ => _) (fun k => by simp only [impl_moved.l0]; rfl) (ev_neg (by omega) (ev_const ?_))
    rw [List.drop_of_length_le (by omega)]; simp [movL]
  | succ d ih =>
    intro n out hd ho
    refine Ev.step (f := fun _ => _) (fun k => by simp only [impl_moved.l0]; rfl) (ev_pos (by omega) (ev_pos (by omega) (ev_pos (by omega) (ev_pos (by omega) ?_))))
    rw [wrap_succ n (by omega)]
    refine ev_eq (ih (n + 1) _ (by omega) (by simp [ho])) ?_
    rw [drop_cons l z57 n (by omega)]
    simp [movL]; exact ⟨rfl, rfl⟩
theorem snormal_val (l : List S57) (hm : l.length ≤ 1000000) (h1 : 1 ≤ l.length) : Ev (fun k => spec_l02Normal.f k l) (normL l) := by
  have hm' : l.length ≤ maxLen := by unfold maxLen; omega
  refine Ev.bind (least_val l hm' h1) (Ev.bind (a := normL l) ?_ (ev_const rfl))
  exact ev_eq (smove_loop l _ _ hm' hm l.length 0 [] (by omega) rfl) (by simp [normL])
theorem inormal_val (l : List S57) (hm : l.length ≤ 1000000) (h1 : 1 ≤ l.length) : Ev (fun k => impl_normal.f k l) (normL l) := by
  have hm' : l.length ≤ maxLen := by unfold maxLen; omega
  refine Ev.bind (corner_val l hm' h1) (Ev.bind (a := normL l) ?_ (ev_const rfl))
  refine ev_pos (by omega) (ev_pos (by omega) ?_)
  exact ev_eq (imove_loop l _ _ hm' hm l.length 0 [] (by omega) rfl) (by simp [normL])
theorem normL_len (l : List S57) : (normL l).length = l.length := by simp [normL, movL]
/-! What a shape is: at most 40 cells, near the origin, in order. -/
structure Shp (l : List S57) : Prop where
  pos : 1 ≤ l.length
  le : l.length ≤ 40
  near : ∀ c ∈ l, (-100 ≤ c.f0 ∧ c.f0 ≤ 100) ∧ (-100 ≤ c.f1 ∧ c.f1 ≤ 100)
  rise : ∀ i j, i < j → j < l.length → lessB (cellAt l i) (cellAt l j) = true
theorem shapeFrom_iff (l : List S57) : ∀ d n : Nat, shapeFrom l d n = true ↔ ((∀ i, n ≤ i → i < n + d → okAtB l i = true) ∧ 1 ≤ l.length ∧ l.length ≤ 40)
  | 0, n => by
    simp only [shapeFrom, Bool.and_eq_true, decide_eq_true_eq]
    exact ⟨fun h => ⟨fun i h1 h2 => by omega, h.1, h.2⟩, fun h => h.2⟩
  | d + 1, n => by
    simp only [shapeFrom, Bool.and_eq_true]
    rw [shapeFrom_iff l d (n + 1)]
    constructor
    · intro h
      refine ⟨fun i h3 h4 => ?_, h.2.2⟩
      by_cases e : i = n
      · subst e; exact h.1
      · exact h.2.1 i (by omega) (by omega)
    · intro h
      exact ⟨h.1 n (Nat.le_refl _) (by omega), fun i h3 h4 => h.1 i (by omega) (by omega), h.2⟩
theorem less_iff (a b : S57) : lessB a b = true ↔ a.f1 < b.f1 ∨ (a.f1 = b.f1 ∧ a.f0 < b.f0) := by
  unfold lessB
  simp only [Bool.or_eq_true, Bool.and_eq_true, decide_eq_true_eq]
theorem shp_iff (l : List S57) : isShapeB l = true ↔ Shp l := by
  unfold isShapeB
  rw [shapeFrom_iff]
  constructor
  · rintro ⟨h1, h2, h3⟩
    have hok : ∀ i, i < l.length → okAtB l i = true := fun i hi => h1 i (by omega) (by omega)
    have hless : ∀ j i, i < j → j < l.length → lessB (cellAt l i) (cellAt l j) = true := by
      intro j
      induction j with
      | zero => intro i hi; omega
      | succ j ih =>
        intro i hi hj
        have h4 := hok (j + 1) hj
        simp only [okAtB, Bool.and_eq_true, Bool.or_eq_true, decide_eq_true_eq, Nat.add_sub_cancel] at h4
        have h5 : lessB (cellAt l j) (cellAt l (j + 1)) = true := by
          rcases h4.2 with h6 | h6
          · omega
          · exact h6
        by_cases e : i = j
        · subst e; exact h5
        · have h6 := ih i (by omega) (by omega)
          rw [less_iff] at *
          omega
    refine ⟨h2, h3, fun c hc => ?_, fun i j => hless j i⟩
    obtain ⟨i, hi, rfl⟩ := List.getElem_of_mem hc
    have h4 := hok i hi
    have e : cellAt l i = l[i] := by show l.getD i _ = _; rw [List.getD_eq_getElem?_getD, List.getElem?_eq_getElem hi, Option.getD_some]
    rw [okAtB, e] at h4
    simp only [inR, Bool.and_eq_true, decide_eq_true_eq] at h4
    exact ⟨⟨h4.1.1.1, h4.1.1.2⟩, h4.1.2.1, h4.1.2.2⟩
  · intro h
    refine ⟨fun i _ hi => ?_, h.pos, h.le⟩
    have hn := h.near _ (cell_mem l i (by omega))
    unfold okAtB inR
    rw [decide_eq_true hn.1.1, decide_eq_true hn.1.2, decide_eq_true hn.2.1, decide_eq_true hn.2.2]
    by_cases h0 : i = 0
    · simp [h0]
    · rw [h.rise (i - 1) i (by omega) (by omega)]; simp
theorem Shp.apart {l : List S57} (h : Shp l) (i j : Nat) (hi : i < l.length) (hj : j < l.length) (e0 : (cellAt l i).f0 = (cellAt l j).f0) (e1 : (cellAt l i).f1 = (cellAt l j).f1) : i = j := by
  rcases Nat.lt_trichotomy i j with h4 | h4 | h4
  · have := (less_iff _ _).1 (h.rise i j h4 hj)
    omega
  · exact h4
  · have := (less_iff _ _).1 (h.rise j i h4 hi)
    omega
theorem Shp.least {l : List S57} (h : Shp l) : (-100 ≤ minX l ∧ minX l ≤ 100) ∧ (-100 ≤ minY l ∧ minY l ≤ 100) := by
  have h0 := h.near _ (cell_mem l 0 h.pos)
  exact ⟨minF_in _ _ _ l _ h0.1 (fun c hc => (h.near c hc).1), minF_in _ _ _ l _ h0.2 (fun c hc => (h.near c hc).2)⟩
theorem Shp.most {l : List S57} (h : Shp l) : (-100 ≤ maxX l ∧ maxX l ≤ 100) ∧ (-100 ≤ maxY l ∧ maxY l ≤ 100) := by
  have h0 := h.near _ (cell_mem l 0 h.pos)
  exact ⟨maxF_in _ _ _ l _ h0.1 (fun c hc => (h.near c hc).1), maxF_in _ _ _ l _ h0.2 (fun c hc => (h.near c hc).2)⟩
theorem Shp.norm {l : List S57} (h : Shp l) : normL l = l.map fun c => ⟨c.f0 - minX l, c.f1 - minY l⟩ := by
  have hl := h.least
  unfold normL movL
  refine List.map_congr_left (fun c hc => ?_)
  have hn := h.near c hc
  rw [wrap_id (-minX l) (by omega) (by omega), wrap_id (-minY l) (by omega) (by omega), wrap_id _ (by omega) (by omega), wrap_id _ (by omega) (by omega)]
  congr 1 <;> omega
def sizeL (l : List S57) : Int × Int := (maxX l - minX l + 1, maxY l - minY l + 1)
theorem isize_val (l : List S57) (h : Shp l) : Ev (fun k => impl_sizeOf.f k l) (sizeL l) := by
  have hm : l.length ≤ maxLen := by have := h.le; unfold maxLen; omega
  have h1 := h.least
  have h2 := h.most
  refine Ev.bind (corner_val l hm h.pos) (Ev.bind (reach_val l hm h.pos) (ev_const ?_))
  simp only []
  rw [wrap_id (maxX l - minX l) (by omega) (by omega), wrap_id (maxY l - minY l) (by omega) (by omega), wrap_id _ (by omega) (by omega), wrap_id _ (by omega) (by omega)]
  rfl
theorem maxF_shift (f : S57 → Int) (m : Int) : ∀ (l : List S57) (x : Int), maxF (fun c => f c - m + 1) l (x - m + 1) = maxF f l x - m + 1
  | [], x => rfl
  | c :: r, x => by
    rw [maxF, maxF, ← maxF_shift f m r]
    congr 1
    unfold mx
    split <;> split <;> omega
theorem ssize_loop (l : List S57) (h : Shp l) (d : Nat) : ∀ (n : Nat) (x y : Int), n + d = l.length → Ev (fun k => spec_l04Size.l0 k l (minX l) (minY l) x y n) (maxF (fun c => c.f0 - minX l + 1) (l.drop n) x, maxF (fun c => c.f1 - minY l + 1) (l.drop n) y) := by
  have hle := h.le
  have h1 := h.least
  induction d with
  | zero =>
    intro n x y hd
    refine Ev.step (f := fun _ => _) (fun k => by simp only [spec_l04Size.l0]; rfl) (ev_neg (by omega) (ev_const ?_))
    rw [List.drop_of_length_le (by omega)]; rfl
  | succ d ih =>
    intro n x y hd
    have hn := h.near _ (cell_mem l n (by omega))
    refine Ev.step (f := fun _ => _) (fun k => by simp only [spec_l04Size.l0]; rfl) (ev_pos (by omega) (ev_pos (by omega) ?_))
    rw [show rd_T57 l (n : Int) = cellAt l n from rfl, wrap_succ n (by omega), drop_cons l z57 n (by omega), maxF, maxF, wrap_id ((cellAt l n).f0 - minX l) (by omega) (by omega), wrap_id ((cellAt l n).f1 - minY l) (by omega) (by omega), wrap_id _ (by omega) (by omega), wrap_id _ (by omega) (by omega)]
    exact ih (n + 1) _ _ (by omega)
theorem ssize_val (l : List S57) (h : Shp l) : Ev (fun k => spec_l04Size.f k l) (sizeL l) := by
  have hm : l.length ≤ maxLen := by have := h.le; unfold maxLen; omega
  refine Ev.bind (least_val l hm h.pos) ?_
  refine ev_eq (ssize_loop l h l.length 0 0 0 (by omega)) ?_
  have e : l = cellAt l 0 :: l.drop 1 := by
    have := drop_cons l z57 0 h.pos
    simpa using this
  have hx := (minF_le (·.f0) l (cellAt l 0).f0).2 _ (cell_mem l 0 h.pos)
  have hy := (minF_le (·.f1) l (cellAt l 0).f1).2 _ (cell_mem l 0 h.pos)
  have key : ∀ (f : S57 → Int) (m : Int), m ≤ f (cellAt l 0) → maxF (fun c => f c - m + 1) l 0 = maxF f l (f (cellAt l 0)) - m + 1 := by
    intro f m hm
    rw [← maxF_shift]
    rw [e, maxF, maxF]
    congr 1
    rw [show (cellAt (cellAt l 0 :: l.drop 1) 0) = cellAt l 0 from rfl]
    unfold mx
    split <;> split <;> omega
  unfold sizeL
  rw [List.drop_zero, key (·.f0) (minX l) hx, key (·.f1) (minY l) hy]
  rfl
/-! Drawings: the program's grid, filled side by side, is the reference's, written row by row. -/
def codeL (l : List S57) : Int := if isShapeB l = true then (if isShapeB (normL l) = true then (if (sizeL l).1 > 20 then 3 else if (sizeL l).2 > 20 then 3 else 0) else 3) else 1
theorem shp_pos (l : List S57) (h : isShapeB l = true) : Shp l := (shp_iff l).1 h
theorem ev_iteR {α : Type} {c : Prop} [Decidable c] {A B : Nat → Option α} {a b : α} (hA : c → Ev A a) (hB : ¬ c → Ev B b) : Ev (fun k => if c then A k else B k) (if c then a else b) := by
  by_cases h : c
  · rw [if_pos h]; exact ev_pos h (hA h)
  · rw [if_neg h]; exact ev_neg h (hB h)
theorem scode_val (l : List S57) (hm : l.length ≤ maxLen) : Ev (fun k => spec_l31Code.f k l) (codeL l) := by
  by_cases h : isShapeB l = true
  · have hs := shp_pos l h
    have hN : Ev (fun k => spec_l03Code.f k l) (if isShapeB (normL l) = true then 0 else 3) :=
      Ev.bind (spec_shape_val l hm) (ev_pos h (Ev.bind (snormal_val l (by have := hs.le; omega) hs.pos) (Ev.bind (spec_shape_val (normL l) (by rw [normL_len]; exact hm)) (ev_iteR (fun _ => ev_const rfl) (fun _ => ev_const rfl)))))
    by_cases h2 : isShapeB (normL l) = true
    · refine ev_eq (r := if (sizeL l).1 > 20 then 3 else if (sizeL l).2 > 20 then 3 else 0) ?_ (by unfold codeL; rw [if_pos h, if_pos h2])
      exact Ev.bind (ev_eq hN (if_pos h2)) (ev_pos rfl (Ev.bind (ssize_val l hs) (ev_iteR (fun _ => ev_const rfl) (fun _ => ev_iteR (fun _ => ev_const rfl) (fun _ => ev_const rfl)))))
    · refine ev_eq (r := 3) ?_ (by unfold codeL; rw [if_pos h, if_neg h2])
      exact Ev.bind (ev_eq hN (if_neg h2)) (ev_neg (by decide) (ev_const rfl))
  · refine ev_eq (r := 1) ?_ (by unfold codeL; rw [if_neg h])
    exact Ev.bind (a := 1) (Ev.bind (spec_shape_val l hm) (ev_neg h (ev_const rfl))) (ev_neg (by decide) (ev_const rfl))
theorem icode_val (l : List S57) (hm : l.length ≤ maxLen) : Ev (fun k => impl_drawingCode.f k l) (codeL l) := by
  by_cases h : isShapeB l = true
  · have hs := shp_pos l h
    have hN : Ev (fun k => impl_shapeCode.f k l) (if isShapeB (normL l) = true then 0 else 3) :=
      Ev.bind (impl_shape_val l hm) (ev_pos h (Ev.bind (inormal_val l (by have := hs.le; omega) hs.pos) (Ev.bind (impl_shape_val (normL l) (by rw [normL_len]; exact hm)) (ev_iteR (fun _ => ev_const rfl) (fun _ => ev_const rfl)))))
    by_cases h2 : isShapeB (normL l) = true
    · refine ev_eq (r := if (sizeL l).1 > 20 then 3 else if (sizeL l).2 > 20 then 3 else 0) ?_ (by unfold codeL; rw [if_pos h, if_pos h2])
      exact Ev.bind (ev_eq hN (if_pos h2)) (ev_pos rfl (Ev.bind (isize_val l hs) (ev_iteR (fun _ => ev_const rfl) (fun _ => ev_iteR (fun _ => ev_const rfl) (fun _ => ev_const rfl)))))
    · refine ev_eq (r := 3) ?_ (by unfold codeL; rw [if_pos h, if_neg h2])
      exact Ev.bind (ev_eq hN (if_neg h2)) (ev_neg (by decide) (ev_const rfl))
  · refine ev_eq (r := 1) ?_ (by unfold codeL; rw [if_neg h])
    exact Ev.bind (a := 1) (Ev.bind (impl_shape_val l hm) (ev_neg h (ev_const rfl))) (ev_neg (by decide) (ev_const rfl))
theorem code_zero (l : List S57) (h : codeL l = 0) : Shp l ∧ Shp (normL l) ∧ (1 ≤ (sizeL l).1 ∧ (sizeL l).1 ≤ 20) ∧ (1 ≤ (sizeL l).2 ∧ (sizeL l).2 ≤ 20) := by
  unfold codeL at h
  by_cases h1 : isShapeB l = true
  · rw [if_pos h1] at h
    by_cases h2 : isShapeB (normL l) = true
    · rw [if_pos h2] at h
      have hs := shp_pos l h1
      have hc := cell_mem l 0 hs.pos
      have hx := (minF_le (·.f0) l (cellAt l 0).f0).2 _ hc
      have hy := (minF_le (·.f1) l (cellAt l 0).f1).2 _ hc
      have hx' := (maxF_ge (·.f0) l (cellAt l 0).f0).2 _ hc
      have hy' := (maxF_ge (·.f1) l (cellAt l 0).f1).2 _ hc
      by_cases h3 : (sizeL l).1 > 20
      · rw [if_pos h3] at h; omega
      · rw [if_neg h3] at h
        by_cases h4 : (sizeL l).2 > 20
        · rw [if_pos h4] at h; omega
        · refine ⟨hs, shp_pos _ h2, ⟨?_, by omega⟩, ?_, by omega⟩
          · show (1 : Int) ≤ maxF (·.f0) l (cellAt l 0).f0 - minF (·.f0) l (cellAt l 0).f0 + 1; omega
          · show (1 : Int) ≤ maxF (·.f1) l (cellAt l 0).f1 - minF (·.f1) l (cellAt l 0).f1 + 1; omega
    · rw [if_neg h2] at h; omega
  · rw [if_neg h1] at h; omega

/-! Groups by cells: the map filled in order, and the index of the first cell. -/
abbrev Grp := Int × Int → Option Int
def grpF (N : List S57) (gs : List Int) : Grp := mget (fillM N gs N.length)
theorem fill_none (N : List S57) (gs : List Int) (p : Int × Int) : ∀ n : Nat, (∀ i, i < n → keyD (cellAt N i) ≠ p) → mget (fillM N gs n) p = none
  | 0, _ => rfl
  | n + 1, h => by
    rw [fillM, mget, if_neg (fun e => h n (Nat.lt_succ_self n) e.symm)]
    exact fill_none N gs p n (fun i hi => h i (by omega))
theorem fill_some (N : List S57) (hN : Shp N) (gs : List Int) (i : Nat) (p : Int × Int) (hp : keyD (cellAt N i) = p) : ∀ n : Nat, i < n → n ≤ N.length → mget (fillM N gs n) p = some (rd gs i)
  | 0, h, _ => by omega
  | n + 1, h, hn => by
    rw [fillM, mget]
    by_cases e : i = n
    · subst e
      exact if_pos hp.symm
    · rw [if_neg (fun e2 => ?_)]
      · exact fill_some N hN gs i p hp n (by omega) (by omega)
      · have e3 : keyD (cellAt N i) = keyD (cellAt N n) := hp.trans e2
        simp only [keyD, Prod.mk.injEq] at e3
        exact e (hN.apart i n (by omega) (by omega) e3.1 e3.2)
theorem sidx_loop (N : List S57) (hN : Shp N) (a b : Int) (d : Nat) : ∀ n : Nat, n + d = N.length → (∀ i, i < n → keyD (cellAt N i) ≠ (a, b)) →
    ∃ v : Int, Ev (fun k => spec_l02Index.l0 k N n a b) v ∧ ((v = -1 ∧ ∀ i, i < N.length → keyD (cellAt N i) ≠ (a, b)) ∨ ∃ i : Nat, i < N.length ∧ v = (i : Int) ∧ keyD (cellAt N i) = (a, b)) := by
  have hle := hN.le
  induction d with
  | zero =>
    intro n hd hno
    exact ⟨-1, Ev.step (f := fun _ => _) (fun k => by simp only [spec_l02Index.l0]; rfl) (ev_neg (by omega) (ev_const rfl)), .inl ⟨rfl, fun i hi => hno i (by omega)⟩⟩
  | succ d ih =>
    intro n hd hno
    by_cases e : keyD (cellAt N n) = (a, b)
    · refine ⟨(n : Int), Ev.step (f := fun _ => _) (fun k => by simp only [spec_l02Index.l0]; rfl) (ev_pos (by omega) (ev_pos (by omega) (ev_pos ?_ (ev_const rfl)))), .inr ⟨n, by omega, rfl, e⟩⟩
      simp only [keyD, Prod.mk.injEq] at e
      rw [show rd_T57 N (n : Int) = cellAt N n from rfl, e.1, e.2]; simp
    · obtain ⟨v, hv, hp⟩ := ih (n + 1) (by omega) (fun i hi => by
        by_cases e2 : i = n
        · subst e2; exact e
        · exact hno i (by omega))
      refine ⟨v, Ev.step (f := fun _ => _) (fun k => by simp only [spec_l02Index.l0]; rfl) (ev_pos (by omega) (ev_pos (by omega) (ev_neg ?_ ?_))), hp⟩
      · rw [show rd_T57 N (n : Int) = cellAt N n from rfl]
        intro h
        simp only [Bool.and_eq_true, beq_iff_eq] at h
        exact e (by simp only [keyD, h.1, h.2])
      · rw [wrap_succ n (by omega)]; exact hv
theorem sidx (N : List S57) (hN : Shp N) (gs : List Int) (a b : Int) : ∃ v : Int, Ev (fun k => spec_l02Index.f k N a b) v ∧ ((v = -1 ∧ grpF N gs (a, b) = none) ∨ ∃ i : Nat, i < N.length ∧ v = (i : Int) ∧ grpF N gs (a, b) = some (rd gs i)) := by
  obtain ⟨v, h1, h2⟩ := sidx_loop N hN a b N.length 0 (by omega) (fun i hi => by omega)
  refine ⟨v, h1, ?_⟩
  rcases h2 with ⟨h2, h3⟩ | ⟨i, h2, h3, h4⟩
  · exact .inl ⟨h2, fill_none N gs _ _ h3⟩
  · exact .inr ⟨i, h2, h3, fill_some N hN gs i _ h4 _ h2 (Nat.le_refl _)⟩
theorem apart_val (N : List S57) (hN : Shp N) (gs : List Int) (hg : gs.length = N.length) (a b c d : Int) : Ev (fun k => spec_l31Apart.f k N gs a b c d) (apartV (grpF N gs (a, b)) (grpF N gs (c, d))) := by
  obtain ⟨v, h1, h2⟩ := sidx N hN gs a b
  obtain ⟨u, h3, h4⟩ := sidx N hN gs c d
  refine Ev.bind h1 (Ev.bind h3 ?_)
  rcases h2 with ⟨rfl, h2⟩ | ⟨i, hi, rfl, h2⟩ <;> rcases h4 with ⟨rfl, h4⟩ | ⟨j, hj, rfl, h4⟩ <;> rw [h2, h4]
  · exact ev_pos (by omega) (ev_neg (by omega) (ev_const rfl))
  · exact ev_pos (by omega) (ev_neg (by omega) (ev_const (by simp [apartV])))
  · exact ev_neg (by omega) (ev_pos (by omega) (ev_pos (by omega) (ev_const (by simp [apartV]))))
  · exact ev_neg (by omega) (ev_neg (by omega) (ev_pos (by omega) (ev_pos (by omega) (ev_pos (by omega) (ev_pos (by omega) (ev_const (by simp [apartV])))))))
theorem apart_comm (a b : Option Int) : apartV a b = apartV b a := by
  have h : ∀ x y : Bool, (x != y) = (y != x) := by decide
  have h2 : ∀ x y : Int, (x != y) = (y != x) := fun x y => by
    rw [Bool.eq_iff_iff]; simp only [bne_iff_ne]; exact ⟨Ne.symm, Ne.symm⟩
  unfold apartV
  rw [h, h2]
def sV (F : Grp) (x y : Nat) : Bool := apartV (F ((x : Int), (y : Int))) (F ((x : Int) - 1, (y : Int)))
def sH (F : Grp) (x y : Nat) : Bool := apartV (F ((x : Int), (y : Int))) (F ((x : Int), (y : Int) - 1))
/-- Is the side at a place of the drawing drawn? -/
def onS (F : Grp) (c r : Nat) : Bool := if (c + r) % 2 = 0 then false else if c % 2 = 0 then sV F (c / 2) (r / 2) else sH F (c / 2) (r / 2)
def chS (F : Grp) (c r : Nat) : Int := if onS F c r = true then (if c % 2 = 0 then 124 else 45) else 32
theorem side_val (N : List S57) (hN : Shp N) (gs : List Int) (hg : gs.length = N.length) (c r : Nat) (hc : c ≤ 100) (hr : r ≤ 100) : Ev (fun k => spec_l31Side.f k N gs c r) (chS (grpF N gs) c r) := by
  have e0 : Int.tmod (wrap64 ((c : Int) + r)) 2 = (((c + r) % 2 : Nat) : Int) := by rw [wrap_id _ (by omega) (by omega), Int.tmod_eq_emod_of_nonneg (by omega)]; omega
  have e1 : Int.tmod (c : Int) 2 = ((c % 2 : Nat) : Int) := by rw [Int.tmod_eq_emod_of_nonneg (by omega)]; omega
  have e2 : wrap64 (Int.tdiv (c : Int) 2) = ((c / 2 : Nat) : Int) := by rw [Int.tdiv_eq_ediv_of_nonneg (by omega), wrap_id _ (by omega) (by omega)]; omega
  have e3 : wrap64 (Int.tdiv (r : Int) 2) = ((r / 2 : Nat) : Int) := by rw [Int.tdiv_eq_ediv_of_nonneg (by omega), wrap_id _ (by omega) (by omega)]; omega
  unfold spec_l31Side.f chS onS
  simp only [e0, e1, e2, e3]
  by_cases h0 : (c + r) % 2 = 0
  · rw [if_pos h0]; exact ev_pos (by omega) (ev_const rfl)
  · rw [if_neg h0]
    refine ev_neg (by omega) ?_
    by_cases h1 : c % 2 = 0
    · have e4 : wrap64 (Int.tdiv (wrap64 ((r : Int) - 1)) 2) = ((r / 2 : Nat) : Int) := by
        rw [wrap_id ((r : Int) - 1) (by omega) (by omega), Int.tdiv_eq_ediv_of_nonneg (by omega), wrap_id _ (by omega) (by omega)]; omega
      have e5 : wrap64 (((c / 2 : Nat) : Int) - 1) = ((c / 2 : Nat) : Int) - 1 := wrap_id _ (by omega) (by omega)
      simp only [e4, e5]
      rw [if_pos h1, if_pos h1]
      refine ev_pos (by omega) (Ev.bind (apart_val N hN gs hg _ _ _ _) ?_)
      rw [apart_comm]
      show Ev _ (if sV (grpF N gs) (c / 2) (r / 2) = true then 124 else 32)
      by_cases hs : sV (grpF N gs) (c / 2) (r / 2) = true
      · rw [if_pos hs]; exact ev_pos hs (ev_const rfl)
      · rw [if_neg hs]; exact ev_neg hs (ev_const rfl)
    · have e4 : wrap64 (Int.tdiv (wrap64 ((c : Int) - 1)) 2) = ((c / 2 : Nat) : Int) := by
        rw [wrap_id ((c : Int) - 1) (by omega) (by omega), Int.tdiv_eq_ediv_of_nonneg (by omega), wrap_id _ (by omega) (by omega)]; omega
      have e5 : wrap64 (((r / 2 : Nat) : Int) - 1) = ((r / 2 : Nat) : Int) - 1 := wrap_id _ (by omega) (by omega)
      simp only [e4, e5]
      rw [if_neg h1, if_neg h1]
      refine ev_neg (by omega) (Ev.bind (apart_val N hN gs hg _ _ _ _) ?_)
      rw [apart_comm]
      show Ev _ (if sH (grpF N gs) (c / 2) (r / 2) = true then 45 else 32)
      by_cases hs : sH (grpF N gs) (c / 2) (r / 2) = true
      · rw [if_pos hs]; exact ev_pos hs (ev_const rfl)
      · rw [if_neg hs]; exact ev_neg hs (ev_const rfl)
/-- A corner is drawn where a side beside it is. -/
def cornS (F : Grp) (w h c r : Nat) : Bool := (decide (0 < c) && onS F (c - 1) r) || ((decide (c < 2 * w) && onS F (c + 1) r) || ((decide (0 < r) && onS F c (r - 1)) || (decide (r < 2 * h) && onS F c (r + 1))))
def chD (F : Grp) (w h c r : Nat) : Int := if c % 2 = 0 ∧ r % 2 = 0 then (if cornS F w h c r = true then 43 else 32) else chS F c r
theorem chS_32 (F : Grp) (c r : Nat) : chS F c r = 32 ↔ onS F c r = false := by
  unfold chS
  by_cases h : onS F c r = true
  · rw [if_pos h, h]; split <;> simp
  · rw [if_neg h]; simp at h; simp [h]
theorem chS_even (F : Grp) (c r : Nat) (h : (c + r) % 2 = 0) : chS F c r = 32 := by
  rw [chS_32, onS, if_pos h]
/-! The reference's rows. -/
def rowFrom (F : Grp) (w h r : Nat) : Nat → Nat → List Int
  | 0, _ => []
  | d + 1, c => chD F w h c r :: rowFrom F w h r d (c + 1)
def cntFrom (F : Grp) (r : Nat) : Nat → Nat → Int
  | 0, _ => 0
  | d + 1, c => (if onS F c r = true then 1 else 0) + cntFrom F r d (c + 1)
theorem rowFrom_len (F : Grp) (w h r : Nat) : ∀ d c, (rowFrom F w h r d c).length = d
  | 0, _ => rfl
  | d + 1, c => by rw [rowFrom, List.length_cons, rowFrom_len F w h r d (c + 1)]
theorem cntFrom_bd (F : Grp) (r : Nat) : ∀ d c, 0 ≤ cntFrom F r d c ∧ cntFrom F r d c ≤ d
  | 0, _ => by simp [cntFrom]
  | d + 1, c => by
    have := cntFrom_bd F r d (c + 1)
    rw [cntFrom]
    split <;> omega
theorem g_pos (c : Nat) : ((c : Int) > 0) = (0 < c) := propext (by omega)
theorem g_lt (a b : Nat) : ((a : Int) < (b : Int)) = (a < b) := propext (by omega)
theorem g_zero (a : Nat) : ((a : Int) = 0) = (a = 0) := propext (by omega)
theorem tm2 (c : Nat) : Int.tmod (c : Int) 2 = ((c % 2 : Nat) : Int) := by rw [Int.tmod_eq_emod_of_nonneg (by omega)]; omega
theorem wr2 (w : Nat) (h : w ≤ 1000) : wrap64 (2 * (w : Int)) = ((2 * w : Nat) : Int) := by rw [wrap_id _ (by omega) (by omega)]; omega
theorem wrp (c : Nat) (q : 0 < c) (h : c ≤ 1000) : wrap64 ((c : Int) - 1) = ((c - 1 : Nat) : Int) := by rw [wrap_id _ (by omega) (by omega)]; omega
theorem side_ite {A B : Nat → Option (ByteArray × Int)} {s : Nat → Option Int} {F : Grp} {c r : Nat} {res : ByteArray × Int} (S : Ev s (chS F c r)) (hA : onS F c r = false → Ev A res) (hB : onS F c r = true → Ev B res) : Ev (fun k => (s k).bind fun t => if t = 32 then A k else B k) res := by
  refine Ev.bind S ?_
  cases h : onS F c r with
  | false => exact ev_pos ((chS_32 F c r).2 h) (hA h)
  | true => exact ev_neg (fun e => by rw [chS_32, h] at e; cases e) (hB h)
theorem ite_ev {p : Prop} [Decidable p] {A B : Nat → Option (ByteArray × Int)} {res : ByteArray × Int} (hA : p → Ev A res) (hB : ¬ p → Ev B res) : Ev (fun k => if p then A k else B k) res := by
  by_cases h : p
  · exact ev_pos h (hA h)
  · exact ev_neg h (hB h)
set_option maxHeartbeats 2000000 in
theorem corner_char (N : List S57) (hN : Shp N) (gs : List Int) (hg : gs.length = N.length) (w h c r : Nat) (hw : w ≤ 20) (hh : h ≤ 20) (hc : c ≤ 2 * w) (hr : r ≤ 2 * h) (out : List Int) (ho : out.length ≤ 10000) (cnt : Int) (res : ByteArray × Int)
    (hk : Ev (fun k => spec_l31Draw.l1 k gs w h N (out ++ [chD (grpF N gs) w h c r]) cnt r ((c + 1 : Nat) : Int)) res) : Ev (fun k => spec_l31Draw.j3 k gs w h N out cnt r c (chS (grpF N gs) c r)) res := by
  have hk' : ∀ v, chD (grpF N gs) w h c r = v → Ev (fun k => spec_l31Draw.l1 k gs w h N (out ++ [v]) cnt r ((c + 1 : Nat) : Int)) res := fun v e => by subst e; exact hk
  clear hk
  have hc100 : c ≤ 99 := by omega
  have hr100 : r ≤ 99 := by omega
  have hL : out.length < 140737488355328 := by omega
  have l1 : c - 1 ≤ 100 := by omega
  have l2 : c + 1 ≤ 100 := by omega
  have l3 : r - 1 ≤ 100 := by omega
  have l4 : r + 1 ≤ 100 := by omega
  have l5 : c ≤ 1000 := by omega
  have l6 : r ≤ 1000 := by omega
  have l7 : c ≤ 100 := by omega
  have l8 : r ≤ 100 := by omega
  have S1 : 0 < c → Ev (fun k => spec_l31Side.f k N gs (wrap64 ((c : Int) - 1)) r) (chS (grpF N gs) (c - 1) r) := fun q => by
    rw [wrp c q l5]
    exact side_val N hN gs hg (c - 1) r l1 l8
  have S2 := side_val N hN gs hg (c + 1) r l2 l8
  have S3 : 0 < r → Ev (fun k => spec_l31Side.f k N gs c (wrap64 ((r : Int) - 1))) (chS (grpF N gs) c (r - 1)) := fun q => by
    rw [wrp r q l6]
    exact side_val N hN gs hg c (r - 1) l7 l3
  have S4 := side_val N hN gs hg c (r + 1) l7 l4
  have e1 := tm2 c
  have e2 := tm2 r
  have w1 := wr2 w (by omega)
  have w2 := wr2 h (by omega)
  have w3 := wrap_succ c (by omega)
  have w4 := wrap_succ r (by omega)
  have g1 : ((c : Int) > 0) = (0 < c) := g_pos c
  have g2 : ((r : Int) > 0) = (0 < r) := g_pos r
  have g3 : ((c : Int) < ((2 * w : Nat) : Int)) = (c < 2 * w) := g_lt c (2 * w)
  have g4 : ((r : Int) < ((2 * h : Nat) : Int)) = (r < 2 * h) := g_lt r (2 * h)
  have g5 : (((c % 2 : Nat) : Int) = 0) = (c % 2 = 0) := g_zero (c % 2)
  have g6 : (((r % 2 : Nat) : Int) = 0) = (r % 2 = 0) := g_zero (r % 2)
  refine Ev.step (f := fun _ => _) (fun k => by simp only [spec_l31Draw.j3, e1, e2, w1, w2, w3, w4, g1, g2, g3, g4, g5, g6]; rfl) ?_
  clear g1 g2 g3 g4 g5 g6 e1 e2 w1 w2 w3 w4
  by_cases c0 : c % 2 = 0 ∧ r % 2 = 0
  · have h32 := chS_even (grpF N gs) c r (by omega)
    simp only [chD, if_pos c0, cornS] at hk'
    rw [h32]
    obtain ⟨c0, r0⟩ := c0
    refine ev_pos c0 (ev_pos r0 ?_)
    clear h32 c0 r0 hw hh hc hr ho hg hN
    repeat' first
      | (with_reducible refine ev_pos hL ?_)
      | (with_reducible refine side_ite (S1 ‹_›) (fun _ => ?_) (fun _ => ?_))
      | (with_reducible refine side_ite S2 (fun _ => ?_) (fun _ => ?_))
      | (with_reducible refine side_ite (S3 ‹_›) (fun _ => ?_) (fun _ => ?_))
      | (with_reducible refine side_ite S4 (fun _ => ?_) (fun _ => ?_))
      | (with_reducible refine ite_ev (fun _ => ?_) (fun _ => ?_))
      | exact hk' _ (by simp [*])
  · have hc' : chD (grpF N gs) w h c r = chS (grpF N gs) c r := by rw [chD, if_neg c0]
    by_cases c1 : c % 2 = 0
    · exact ev_pos c1 (ev_neg (fun e => c0 ⟨c1, e⟩) (ev_pos hL (hk' _ hc')))
    · exact ev_neg c1 (ev_pos hL (hk' _ hc'))
theorem row_loop (N : List S57) (hN : Shp N) (gs : List Int) (hg : gs.length = N.length) (w h r : Nat) (hw : w ≤ 20) (hh : h ≤ 20) (hr : r ≤ 2 * h) (res : ByteArray × Int) (d : Nat) : ∀ (c : Nat) (out : List Int) (cnt : Int), c + d = 2 * w + 1 → out.length + d ≤ 10000 → (0 ≤ cnt ∧ cnt ≤ 10000 - d) →
    Ev (fun k => spec_l31Draw.l0 k gs w h N (out ++ rowFrom (grpF N gs) w h r d c) (cnt + cntFrom (grpF N gs) r d c) ((r + 1 : Nat) : Int)) res → Ev (fun k => spec_l31Draw.l1 k gs w h N out cnt r c) res := by
  have w1 : wrap64 (2 * (w : Int)) = ((2 * w : Nat) : Int) := by rw [wrap_id _ (by omega) (by omega)]; omega
  induction d with
  | zero =>
    intro c out cnt hd ho hc hk
    refine Ev.step (f := fun _ => _) (fun k => by simp only [spec_l31Draw.l1, w1]; rfl) (ev_neg (by omega) ?_)
    rw [wrap_succ r (by omega)]
    simpa [rowFrom, cntFrom] using hk
  | succ d ih =>
    intro c out cnt hd ho hc hk
    rw [rowFrom, cntFrom] at hk
    refine Ev.step (f := fun _ => _) (fun k => by simp only [spec_l31Draw.l1, w1]; rfl) (ev_pos (by omega) ?_)
    refine Ev.bind (side_val N hN gs hg c r (by omega) (by omega)) ?_
    by_cases s : onS (grpF N gs) c r = true
    · rw [if_pos s] at hk
      refine ev_neg (fun e => by rw [chS_32, s] at e; cases e) ?_
      rw [wrap_id (cnt + 1) (by omega) (by omega)]
      refine corner_char N hN gs hg w h c r hw hh (by omega) hr out (by omega) _ res (ih (c + 1) _ _ (by omega) (by simp; omega) (by omega) ?_)
      rw [List.append_assoc, List.singleton_append, Int.add_assoc]
      exact hk
    · rw [if_neg s] at hk
      simp only [Bool.not_eq_true] at s
      refine ev_pos ((chS_32 _ _ _).2 s) ?_
      refine corner_char N hN gs hg w h c r hw hh (by omega) hr out (by omega) _ res (ih (c + 1) _ _ (by omega) (by simp; omega) (by omega) ?_)
      rw [List.append_assoc, List.singleton_append]
      rw [Int.zero_add] at hk
      exact hk
def rowsFrom (F : Grp) (w h : Nat) : Nat → Nat → List Int
  | 0, _ => []
  | d + 1, r => (if r = 0 then [] else [10]) ++ rowFrom F w h r (2 * w + 1) 0 ++ rowsFrom F w h d (r + 1)
def cntsFrom (F : Grp) (w : Nat) : Nat → Nat → Int
  | 0, _ => 0
  | d + 1, r => cntFrom F r (2 * w + 1) 0 + cntsFrom F w d (r + 1)
theorem rows_loop (N : List S57) (hN : Shp N) (gs : List Int) (hg : gs.length = N.length) (w h : Nat) (hw : w ≤ 20) (hh : h ≤ 20) (d : Nat) : ∀ (r : Nat) (out : List Int) (cnt : Int), r + d = 2 * h + 1 → out.length + 50 * d ≤ 5000 → (0 ≤ cnt ∧ cnt + 50 * d ≤ 5000) →
    Ev (fun k => spec_l31Draw.l0 k gs w h N out cnt r) (strOfNums (out ++ rowsFrom (grpF N gs) w h d r), cnt + cntsFrom (grpF N gs) w d r) := by
  have w2 : wrap64 (2 * (h : Int)) = ((2 * h : Nat) : Int) := by rw [wrap_id _ (by omega) (by omega)]; omega
  induction d with
  | zero =>
    intro r out cnt hd ho hc
    refine Ev.step (f := fun _ => _) (fun k => by simp only [spec_l31Draw.l0, w2]; rfl) (ev_neg (by omega) (ev_const ?_))
    simp [rowsFrom, cntsFrom]
  | succ d ih =>
    intro r out cnt hd ho hc
    have hcb := cntFrom_bd (grpF N gs) r (2 * w + 1) 0
    have J : ∀ out' : List Int, out'.length ≤ out.length + 1 → out' = out ++ (if r = 0 then [] else [10]) → Ev (fun k => spec_l31Draw.j1 k gs w h N out' cnt r) (strOfNums (out ++ rowsFrom (grpF N gs) w h (d + 1) r), cnt + cntsFrom (grpF N gs) w (d + 1) r) := fun out' hl he => by
      refine Ev.step (f := fun _ => _) (fun k => by simp only [spec_l31Draw.j1]; rfl) ?_
      refine row_loop N hN gs hg w h r hw hh (by omega) _ (2 * w + 1) 0 out' cnt (by omega) (by omega) (by omega) ?_
      refine ev_eq (ih (r + 1) _ _ (by omega) (by rw [List.length_append, rowFrom_len]; omega) (by omega)) ?_
      rw [rowsFrom, cntsFrom, he]
      simp only [List.append_assoc, Int.add_assoc]
    refine Ev.step (f := fun _ => _) (fun k => by simp only [spec_l31Draw.l0, w2]; rfl) (ev_pos (by omega) ?_)
    by_cases h0 : r = 0
    · exact ev_neg (by omega) (J out (by omega) (by rw [if_pos h0, List.append_nil]))
    · exact ev_pos (by omega) (ev_pos (by omega) (J _ (by simp) (by rw [if_neg h0])))
theorem sdraw_val (l : List S57) (gs : List Int) (hl : codeL l = 0) (hg : gs.length = l.length) : Ev (fun k => spec_l31Draw.f k l gs)
    (strOfNums (rowsFrom (grpF (normL l) gs) (sizeL l).1.toNat (sizeL l).2.toNat (2 * (sizeL l).2.toNat + 1) 0), cntsFrom (grpF (normL l) gs) (sizeL l).1.toNat (2 * (sizeL l).2.toNat + 1) 0) := by
  obtain ⟨hs, hN, hw, hh⟩ := code_zero l hl
  refine Ev.bind (ssize_val l hs) (Ev.bind (snormal_val l (by have := hs.le; omega) hs.pos) ?_)
  have h := rows_loop (normL l) hN gs (by rw [normL_len]; exact hg) (sizeL l).1.toNat (sizeL l).2.toNat (by omega) (by omega) (2 * (sizeL l).2.toNat + 1) 0 [] 0 (by omega) (by simp; omega) (by omega)
  rw [Int.toNat_of_nonneg (by omega), Int.toNat_of_nonneg (by omega)] at h
  exact ev_eq h (by simp)
/-! The program's grid. D tells which sides are drawn so far. -/
def chG (D : Nat → Nat → Bool) (c r : Nat) : Int :=
  if (c + r) % 2 = 1 then (if D c r = true then (if c % 2 = 0 then 124 else 45) else 32)
  else if c % 2 = 0 then (if ((decide (0 < c) && D (c - 1) r) || (D (c + 1) r || ((decide (0 < r) && D c (r - 1)) || D c (r + 1)))) = true then 43 else 32) else 32
structure GridOk (w h : Nat) (G : List (List Int)) (f : Nat → Nat → Int) : Prop where
  rows : G.length = 2 * h + 1
  cols : ∀ r, r < G.length → (G.getD r []).length = 2 * w + 1
  char : ∀ r c, r < 2 * h + 1 → c < 2 * w + 1 → (G.getD r []).getD c 0 = f c r
theorem getD_setL {α : Type} (l : List α) (i j : Nat) (v d : α) (hi : i < l.length) : (l.set i v).getD j d = if j = i then v else l.getD j d := by
  rw [List.getD_eq_getElem?_getD, List.getD_eq_getElem?_getD, List.getElem?_set]
  by_cases h : i = j
  · subst h; rw [if_pos rfl, if_pos hi, if_pos rfl]; rfl
  · rw [if_neg h, if_neg (fun e => h e.symm)]
theorem GridOk.put {w h : Nat} {G : List (List Int)} {f : Nat → Nat → Int} (hG : GridOk w h G f) (x y : Nat) (v : Int) (hx : x < 2 * w + 1) (hy : y < 2 * h + 1) : GridOk w h (setG G x y v) (fun c r => if c = x ∧ r = y then v else f c r) := by
  have hy' : y < G.length := by rw [hG.rows]; exact hy
  refine ⟨(setG_len _ _ _ _).trans hG.rows, fun r hr => ?_, fun r c hr hc => ?_⟩
  · rw [setG_len] at hr
    unfold setG
    rw [getD_setL _ _ _ _ _ hy']
    split
    · rw [List.length_set]; exact hG.cols y hy'
    · exact hG.cols r hr
  · unfold setG
    rw [getD_setL _ _ _ _ _ hy']
    by_cases e : r = y
    · subst e
      rw [if_pos rfl, getD_setL _ _ _ _ _ (by rw [hG.cols r hy']; exact hx)]
      by_cases e2 : c = x
      · rw [if_pos e2, if_pos ⟨e2, rfl⟩]
      · rw [if_neg e2, if_neg (fun q => e2 q.1)]; exact hG.char r c hr hc
    · rw [if_neg e, if_neg (fun q => e q.2)]; exact hG.char r c hr hc
theorem GridOk.same {w h : Nat} {G : List (List Int)} {f g : Nat → Nat → Int} (hG : GridOk w h G f) (e : ∀ c r, f c r = g c r) : GridOk w h G g :=
  ⟨hG.rows, hG.cols, fun r c hr hc => (hG.char r c hr hc).trans (e c r)⟩
def addS (D : Nat → Nat → Bool) (c0 r0 : Nat) : Nat → Nat → Bool := fun c r => D c r || (decide (c = c0) && decide (r = r0))
theorem put_V {w h : Nat} {G : List (List Int)} {D : Nat → Nat → Bool} (hG : GridOk w h G (chG D)) (x y : Nat) (hx : x ≤ w) (hy : y < h) :
    GridOk w h (gridAfter (setG G (2 * x) (2 * y + 1) 124) (2 * x) (2 * y) (2 * x) (2 * y + 2) 2) (chG (addS D (2 * x) (2 * y + 1))) := by
  refine (((hG.put (2 * x) (2 * y + 1) 124 (by omega) (by omega)).put (2 * x) (2 * y) 43 (by omega) (by omega)).put (2 * x) (2 * y + 2) 43 (by omega) (by omega)).same (fun c r => ?_)
  by_cases e1 : c = 2 * x ∧ r = 2 * y + 2
  · rw [if_pos e1]
    obtain ⟨rfl, rfl⟩ := e1
    rw [chG, if_neg (by omega), if_pos (by omega), if_pos]
    simp [addS]
  · rw [if_neg e1]
    by_cases e2 : c = 2 * x ∧ r = 2 * y
    · rw [if_pos e2]
      obtain ⟨rfl, rfl⟩ := e2
      rw [chG, if_neg (by omega), if_pos (by omega), if_pos]
      simp [addS]
    · rw [if_neg e2]
      by_cases e3 : c = 2 * x ∧ r = 2 * y + 1
      · rw [if_pos e3]
        obtain ⟨rfl, rfl⟩ := e3
        rw [chG, if_pos (by omega), if_pos (by simp [addS]), if_pos (by omega)]
      · rw [if_neg e3]
        have hn : ∀ c' r', ¬ (c' = 2 * x ∧ r' = 2 * y + 1) → addS D (2 * x) (2 * y + 1) c' r' = D c' r' := fun c' r' hq => by
          unfold addS
          by_cases q1 : c' = 2 * x
          · rw [decide_eq_false (fun q2 => hq ⟨q1, q2⟩), Bool.and_false, Bool.or_false]
          · rw [decide_eq_false q1, Bool.false_and, Bool.or_false]
        unfold chG
        by_cases p1 : (c + r) % 2 = 1
        · rw [if_pos p1, if_pos p1, hn c r e3]
        · rw [if_neg p1, if_neg p1]
          by_cases p2 : c % 2 = 0
          · rw [if_pos p2, if_pos p2, hn (c - 1) r (by omega), hn (c + 1) r (by omega), hn c (r + 1) (by omega)]
            by_cases q : 0 < r
            · rw [hn c (r - 1) (by omega)]
            · rw [decide_eq_false q, Bool.false_and, Bool.false_and]
          · rw [if_neg p2, if_neg p2]
theorem put_H {w h : Nat} {G : List (List Int)} {D : Nat → Nat → Bool} (hG : GridOk w h G (chG D)) (x y : Nat) (hx : x < w) (hy : y ≤ h) :
    GridOk w h (gridAfter (setG G (2 * x + 1) (2 * y) 45) (2 * x) (2 * y) (2 * x + 2) (2 * y) 2) (chG (addS D (2 * x + 1) (2 * y))) := by
  refine (((hG.put (2 * x + 1) (2 * y) 45 (by omega) (by omega)).put (2 * x) (2 * y) 43 (by omega) (by omega)).put (2 * x + 2) (2 * y) 43 (by omega) (by omega)).same (fun c r => ?_)
  by_cases e1 : c = 2 * x + 2 ∧ r = 2 * y
  · rw [if_pos e1]
    obtain ⟨rfl, rfl⟩ := e1
    rw [chG, if_neg (by omega), if_pos (by omega), if_pos]
    simp [addS]
  · rw [if_neg e1]
    by_cases e2 : c = 2 * x ∧ r = 2 * y
    · rw [if_pos e2]
      obtain ⟨rfl, rfl⟩ := e2
      rw [chG, if_neg (by omega), if_pos (by omega), if_pos]
      simp [addS]
    · rw [if_neg e2]
      by_cases e3 : c = 2 * x + 1 ∧ r = 2 * y
      · rw [if_pos e3]
        obtain ⟨rfl, rfl⟩ := e3
        rw [chG, if_pos (by omega), if_pos (by simp [addS]), if_neg (by omega)]
      · rw [if_neg e3]
        have hn : ∀ c' r', ¬ (c' = 2 * x + 1 ∧ r' = 2 * y) → addS D (2 * x + 1) (2 * y) c' r' = D c' r' := fun c' r' hq => by
          unfold addS
          by_cases q1 : c' = 2 * x + 1
          · rw [decide_eq_false (fun q2 => hq ⟨q1, q2⟩), Bool.and_false, Bool.or_false]
          · rw [decide_eq_false q1, Bool.false_and, Bool.or_false]
        unfold chG
        by_cases p1 : (c + r) % 2 = 1
        · rw [if_pos p1, if_pos p1, hn c r e3]
        · rw [if_neg p1, if_neg p1]
          by_cases p2 : c % 2 = 0
          · rw [if_pos p2, if_pos p2, hn (c + 1) r (by omega), hn c (r + 1) (by omega), hn c (r - 1) (by omega)]
            by_cases q : 0 < c
            · rw [hn (c - 1) r (by omega)]
            · rw [decide_eq_false q, Bool.false_and, Bool.false_and]
          · rw [if_neg p2, if_neg p2]
/-- The sides that are drawn when the program stands at (x, y): V sides, and H sides. -/
def doneS (F : Grp) (w h y x : Nat) : Nat → Nat → Bool := fun c r => decide ((c + r) % 2 = 1) && ((decide (c ≤ 2 * w) && decide (r ≤ 2 * h)) && ((decide (r / 2 < y) || (decide (r / 2 = y) && decide (c / 2 < x))) && onS F c r))
def stepV (F : Grp) (h x y : Nat) : Int := if decide (y < h) && sV F x y then 1 else 0
def stepH (F : Grp) (w x y : Nat) : Int := if decide (x < w) && sH F x y then 1 else 0
def rowCnt (F : Grp) (w h y : Nat) : Nat → Int
  | 0 => 0
  | x + 1 => rowCnt F w h y x + (stepV F h x y + stepH F w x y)
def allCnt (F : Grp) (w h : Nat) : Nat → Int
  | 0 => 0
  | y + 1 => allCnt F w h y + rowCnt F w h y (w + 1)
theorem onS_V (F : Grp) (x y : Nat) : onS F (2 * x) (2 * y + 1) = sV F x y := by
  rw [onS, if_neg (by omega), if_pos (by omega), show 2 * x / 2 = x by omega, show (2 * y + 1) / 2 = y by omega]
theorem onS_H (F : Grp) (x y : Nat) : onS F (2 * x + 1) (2 * y) = sH F x y := by
  rw [onS, if_neg (by omega), if_neg (by omega), show (2 * x + 1) / 2 = x by omega, show 2 * y / 2 = y by omega]
theorem done_step (F : Grp) (w h y x : Nat) (c r : Nat) (hx : x ≤ w) (hy : y ≤ h) : doneS F w h y (x + 1) c r = ((doneS F w h y x c r || (decide (c = 2 * x ∧ r = 2 * y + 1) && (decide (y < h) && sV F x y))) || (decide (c = 2 * x + 1 ∧ r = 2 * y) && (decide (x < w) && sH F x y))) := by
  by_cases e1 : c = 2 * x ∧ r = 2 * y + 1
  · obtain ⟨rfl, rfl⟩ := e1
    unfold doneS
    rw [onS_V]
    have a1 : (2 * x + (2 * y + 1)) % 2 = 1 := by omega
    have a2 : (2 * y + 1) / 2 = y := by omega
    have a3 : 2 * x / 2 = x := by omega
    have a4 : decide (2 * y + 1 ≤ 2 * h) = decide (y < h) := decide_eq_decide.2 (by omega)
    have a5 : decide (2 * x ≤ 2 * w) = true := decide_eq_true (by omega)
    have a6 : ¬ (2 * x = 2 * x + 1 ∧ 2 * y + 1 = 2 * y) := by omega
    rw [a1, a2, a3, a4, a5, decide_eq_false a6]
    simp
  · by_cases e2 : c = 2 * x + 1 ∧ r = 2 * y
    · obtain ⟨rfl, rfl⟩ := e2
      unfold doneS
      rw [onS_H]
      have a1 : (2 * x + 1 + 2 * y) % 2 = 1 := by omega
      have a2 : 2 * y / 2 = y := by omega
      have a3 : (2 * x + 1) / 2 = x := by omega
      have a4 : decide (2 * x + 1 ≤ 2 * w) = decide (x < w) := decide_eq_decide.2 (by omega)
      have a5 : decide (2 * y ≤ 2 * h) = true := decide_eq_true (by omega)
      have a6 : ¬ (2 * x + 1 = 2 * x ∧ 2 * y = 2 * y + 1) := by omega
      rw [a1, a2, a3, a4, a5, decide_eq_false a6]
      simp
    · rw [decide_eq_false e1, decide_eq_false e2, Bool.false_and, Bool.false_and, Bool.or_false, Bool.or_false]
      unfold doneS
      by_cases p : (c + r) % 2 = 1
      · have : (decide (c / 2 < x + 1) && decide (r / 2 = y)) = (decide (c / 2 < x) && decide (r / 2 = y)) := by
          rw [Bool.eq_iff_iff]; simp only [Bool.and_eq_true, decide_eq_true_eq]; omega
        rw [Bool.and_comm (decide (r / 2 = y)), this, Bool.and_comm (decide (c / 2 < x))]
      · rw [decide_eq_false p, Bool.false_and, Bool.false_and]
theorem add_and (D : Nat → Nat → Bool) (c0 r0 : Nat) (b : Bool) (hb : b = true) (c r : Nat) : addS D c0 r0 c r = (D c r || (decide (c = c0 ∧ r = r0) && b)) := by
  rw [hb, Bool.and_true, Bool.decide_and]; rfl
theorem chG_congr {D D' : Nat → Nat → Bool} (h : ∀ c r, D c r = D' c r) (c r : Nat) : chG D c r = chG D' c r := by
  rw [show D = D' from funext fun c => funext fun r => h c r]
theorem marks_ok (F : Grp) (w h x y : Nat) (hx : x ≤ w) (hy : y ≤ h) (s : List (List Int) × Int) (hG : GridOk w h s.1 (chG (doneS F w h y x))) :
    GridOk w h (markH F w x y (markV F h x y s)).1 (chG (doneS F w h y (x + 1))) ∧ (markH F w x y (markV F h x y s)).2 = s.2 + (stepV F h x y + stepH F w x y) := by
  have hV : ∃ D, (∀ c r, D c r = (doneS F w h y x c r || (decide (c = 2 * x ∧ r = 2 * y + 1) && (decide (y < h) && sV F x y)))) ∧ GridOk w h (markV F h x y s).1 (chG D) ∧ (markV F h x y s).2 = s.2 + stepV F h x y := by
    unfold markV stepV
    by_cases q : y < h ∧ sV F x y = true
    · rw [if_pos (show y < h ∧ apartV _ _ = true from q), if_pos (by rw [decide_eq_true q.1, q.2]; rfl)]
      exact ⟨_, fun c r => add_and _ _ _ _ (by rw [decide_eq_true q.1, q.2]; rfl) c r, put_V hG x y hx q.1, rfl⟩
    · have hf : (decide (y < h) && sV F x y) = false := by
        rw [Bool.eq_false_iff]; simpa using q
      rw [if_neg (show ¬ (y < h ∧ apartV _ _ = true) from q), hf]
      exact ⟨_, fun c r => by rw [Bool.and_false, Bool.or_false], hG, by simp⟩
  obtain ⟨D, hD, hG1, hc1⟩ := hV
  generalize markV F h x y s = s1 at hG1 hc1
  unfold markH stepH
  by_cases q : x < w ∧ sH F x y = true
  · rw [if_pos (show x < w ∧ apartV _ _ = true from q), if_pos (show (decide (x < w) && sH F x y) = true by rw [decide_eq_true q.1, q.2]; rfl)]
    refine ⟨(put_H hG1 x y q.1 hy).same (chG_congr fun c r => ?_), by simp only [hc1]; omega⟩
    rw [done_step F w h y x c r hx hy, ← hD]
    exact add_and _ _ _ _ (by rw [decide_eq_true q.1, q.2]; rfl) c r
  · have hf : (decide (x < w) && sH F x y) = false := by
      rw [Bool.eq_false_iff]; simpa using q
    rw [if_neg (show ¬ (x < w ∧ apartV _ _ = true) from q), hf]
    refine ⟨hG1.same (chG_congr fun c r => ?_), by simp only [hc1]; simp⟩
    rw [done_step F w h y x c r hx hy, ← hD, hf, Bool.and_false, Bool.or_false]
theorem rowD_ok (F : Grp) (w h y : Nat) (hy : y ≤ h) (s : List (List Int) × Int) (hG : GridOk w h s.1 (chG (doneS F w h y 0))) : ∀ x, x ≤ w + 1 → GridOk w h (rowD F w h y x s).1 (chG (doneS F w h y x)) ∧ (rowD F w h y x s).2 = s.2 + rowCnt F w h y x
  | 0, _ => ⟨hG, by simp [rowD, rowCnt]⟩
  | x + 1, hx => by
    obtain ⟨h1, h2⟩ := rowD_ok F w h y hy s hG x (by omega)
    obtain ⟨h3, h4⟩ := marks_ok F w h x y (by omega) hy _ h1
    rw [rowD, rowCnt]
    exact ⟨h3, by rw [h4, h2]; omega⟩
theorem done_row (F : Grp) (w h y c r : Nat) : doneS F w h y (w + 1) c r = doneS F w h (y + 1) 0 c r := by
  unfold doneS
  by_cases p : c ≤ 2 * w
  · have e : (decide (r / 2 < y) || decide (r / 2 = y) && decide (c / 2 < w + 1)) = (decide (r / 2 < y + 1) || decide (r / 2 = y + 1) && decide (c / 2 < 0)) := by
      rw [Bool.eq_iff_iff]; simp only [Bool.or_eq_true, Bool.and_eq_true, decide_eq_true_eq]; omega
    rw [e]
  · rw [decide_eq_false p]; simp
theorem blank_ok (F : Grp) (w h : Nat) : GridOk w h (blankD w h) (chG (doneS F w h 0 0)) := by
  refine ⟨by simp [blankD], fun r hr => ?_, fun r c hr hc => ?_⟩
  · simp only [blankD, List.length_replicate] at hr
    unfold blankD
    rw [List.getD_eq_getElem?_getD, List.getElem?_replicate, if_pos hr]; simp
  · have e1 : (blankD w h).getD r [] = List.replicate (2 * w + 1) 32 := by
      unfold blankD
      rw [List.getD_eq_getElem?_getD, List.getElem?_replicate, if_pos hr]; rfl
    rw [e1, List.getD_eq_getElem?_getD, List.getElem?_replicate, if_pos hc, Option.getD_some]
    have hz : ∀ c r, doneS F w h 0 0 c r = false := fun c r => by simp [doneS]
    unfold chG
    simp [hz]
theorem allD_ok (F : Grp) (w h : Nat) : ∀ y, y ≤ h + 1 → GridOk w h (allD F w h y (blankD w h, 0)).1 (chG (doneS F w h y 0)) ∧ (allD F w h y (blankD w h, 0)).2 = allCnt F w h y
  | 0, _ => ⟨blank_ok F w h, rfl⟩
  | y + 1, hy => by
    obtain ⟨h1, h2⟩ := allD_ok F w h y (by omega)
    obtain ⟨h3, h4⟩ := rowD_ok F w h y (by omega) _ h1 (w + 1) (Nat.le_refl _)
    rw [allD, allCnt]
    exact ⟨h3.same (chG_congr (done_row F w h y)), by rw [h4, h2]⟩
theorem done_all (F : Grp) (w h c r : Nat) (hc : c ≤ 2 * w) (hr : r ≤ 2 * h) : doneS F w h (h + 1) 0 c r = onS F c r := by
  unfold doneS
  rw [decide_eq_true hc, decide_eq_true hr, decide_eq_true (show r / 2 < h + 1 by omega)]
  by_cases p : (c + r) % 2 = 1
  · rw [decide_eq_true p]; simp
  · rw [decide_eq_false p, onS, if_pos (by omega)]; rfl
theorem done_out (F : Grp) (w h c r : Nat) (hq : 2 * w < c ∨ 2 * h < r) : doneS F w h (h + 1) 0 c r = false := by
  unfold doneS
  rcases hq with hq | hq
  · rw [decide_eq_false (show ¬ c ≤ 2 * w by omega)]; simp
  · rw [decide_eq_false (show ¬ r ≤ 2 * h by omega)]; simp
theorem char_all (F : Grp) (w h c r : Nat) (hc : c ≤ 2 * w) (hr : r ≤ 2 * h) : chG (doneS F w h (h + 1) 0) c r = chD F w h c r := by
  by_cases p : (c + r) % 2 = 1
  · rw [show chD F w h c r = chS F c r from if_neg (by omega), show chG (doneS F w h (h + 1) 0) c r = _ from if_pos p, done_all F w h c r hc hr]; rfl
  · by_cases q : c % 2 = 0
    · rw [show chG (doneS F w h (h + 1) 0) c r = _ from (if_neg p).trans (if_pos q), show chD F w h c r = _ from if_pos ⟨q, by omega⟩]
      have e : ((decide (0 < c) && doneS F w h (h + 1) 0 (c - 1) r) || (doneS F w h (h + 1) 0 (c + 1) r || ((decide (0 < r) && doneS F w h (h + 1) 0 c (r - 1)) || doneS F w h (h + 1) 0 c (r + 1)))) = cornS F w h c r := by
        unfold cornS
        rw [done_all F w h (c - 1) r (by omega) hr, done_all F w h c (r - 1) hc (by omega)]
        congr 1
        congr 1
        · by_cases z : c < 2 * w
          · rw [decide_eq_true z, Bool.true_and, done_all F w h (c + 1) r (by omega) hr]
          · rw [decide_eq_false z, Bool.false_and, done_out F w h _ _ (.inl (by omega))]
        · congr 1
          by_cases z : r < 2 * h
          · rw [decide_eq_true z, Bool.true_and, done_all F w h c (r + 1) hc (by omega)]
          · rw [decide_eq_false z, Bool.false_and, done_out F w h _ _ (.inr (by omega))]
      rw [e]
    · rw [show chG (doneS F w h (h + 1) 0) c r = _ from (if_neg p).trans (if_neg q), show chD F w h c r = chS F c r from if_neg (by omega), chS_even F c r (by omega)]
/-! The grid's rows and its count are the reference's. -/
theorem rowFrom_getD (F : Grp) (w h r : Nat) : ∀ d c j, j < d → (rowFrom F w h r d c).getD j 0 = chD F w h (c + j) r
  | 0, _, _, hj => by omega
  | d + 1, c, 0, _ => rfl
  | d + 1, c, j + 1, hj => by
    rw [rowFrom, List.getD_cons_succ, rowFrom_getD F w h r d (c + 1) j (by omega)]
    congr 1; omega
theorem grid_rows (F : Grp) (w h : Nat) (G : List (List Int)) (hG : GridOk w h G (chD F w h)) : G = (List.range (2 * h + 1)).map fun r => rowFrom F w h r (2 * w + 1) 0 := by
  refine List.ext_getElem (by simp [hG.rows]) (fun r h1 h2 => ?_)
  have h3 : r < 2 * h + 1 := by rw [← hG.rows]; exact h1
  have e1 : G.getD r [] = G[r] := by rw [List.getD_eq_getElem?_getD, List.getElem?_eq_getElem h1, Option.getD_some]
  rw [List.getElem_map, List.getElem_range]
  have hcol := hG.cols r h1
  rw [e1] at hcol
  refine List.ext_getElem (by rw [hcol, rowFrom_len]) (fun c h4 h5 => ?_)
  have h6 : c < 2 * w + 1 := by rw [← hcol]; exact h4
  have h7 := hG.char r c h3 h6
  rw [e1, List.getD_eq_getElem?_getD, List.getElem?_eq_getElem h4, Option.getD_some] at h7
  have h8 := rowFrom_getD F w h r (2 * w + 1) 0 c h6
  rw [List.getD_eq_getElem?_getD, List.getElem?_eq_getElem h5, Option.getD_some, Nat.zero_add] at h8
  rw [h7, h8]
theorem rowsFrom_join (F : Grp) (w h : Nat) : ∀ d r, 0 < r → rowsFrom F w h d r = (((List.range' r d).map fun r => rowFrom F w h r (2 * w + 1) 0).map fun x => 10 :: x).flatten
  | 0, _, _ => rfl
  | d + 1, r, hr => by
    rw [rowsFrom, if_neg (by omega), rowsFrom_join F w h d (r + 1) (by omega), List.range'_succ]
    simp
theorem text_all (F : Grp) (w h : Nat) : strOfNums (rowsFrom F w h (2 * h + 1) 0) = textD ((List.range (2 * h + 1)).map fun r => rowFrom F w h r (2 * w + 1) 0) := by
  rw [rowsFrom, if_pos rfl, List.nil_append, rowsFrom_join F w h (2 * h) 1 (by omega), List.range_eq_range', List.range'_succ]
  unfold textD joined
  apply WideShapes.bytes_inj
  rw [strOfNums_data]
  show _ = Lib.join _ _
  rw [List.map_cons, List.map_cons, List.map_cons, Lib.join_cons, List.map_append, strOfNums_data]
  congr 1
  simp only [Lib.joinTail]
  generalize (List.range' 1 (2 * h)).map (fun r => rowFrom F w h r (2 * w + 1) 0) = L
  induction L with
  | nil => rfl
  | cons x r ih =>
    simp only [List.map_cons, List.flatten_cons, List.map_append, ih, strOfNums_data]
    rfl
theorem cnt_H (F : Grp) (y : Nat) : ∀ n x, cntFrom F (2 * y) (2 * n + 1) (2 * x) = (List.range' x n).foldl (fun a x => a + if sH F x y = true then 1 else 0) 0
  | 0, x => by
    have : onS F (2 * x) (2 * y) = false := by rw [onS, if_pos (by omega)]
    simp [cntFrom, this]
  | n + 1, x => by
    have hz : onS F (2 * x) (2 * y) = false := by rw [onS, if_pos (by omega)]
    have h : cntFrom F (2 * y) (2 * (n + 1) + 1) (2 * x) = (if sH F x y = true then 1 else 0) + cntFrom F (2 * y) (2 * n + 1) (2 * (x + 1)) := by
      rw [show 2 * (n + 1) + 1 = (2 * n + 1) + 1 + 1 by omega, cntFrom, cntFrom, onS_H, hz, show 2 * x + 1 + 1 = 2 * (x + 1) by omega]
      simp
    rw [h, cnt_H F y n (x + 1), List.range'_succ, List.foldl_cons, Int.zero_add]
    have g : ∀ (l : List Nat) (a : Int), l.foldl (fun a x => a + if sH F x y = true then 1 else 0) a = a + l.foldl (fun a x => a + if sH F x y = true then 1 else 0) 0 := by
      intro l
      induction l with
      | nil => intro a; simp
      | cons z r ih => intro a; rw [List.foldl_cons, List.foldl_cons, ih, ih (0 + _)]; omega
    exact (g _ _).symm
theorem cnt_V (F : Grp) (y : Nat) : ∀ n x, cntFrom F (2 * y + 1) (2 * n + 1) (2 * x) = (List.range' x (n + 1)).foldl (fun a x => a + if sV F x y = true then 1 else 0) 0
  | 0, x => by
    rw [cntFrom, cntFrom, onS_V]; simp
  | n + 1, x => by
    have hz : onS F (2 * x + 1) (2 * y + 1) = false := by rw [onS, if_pos (by omega)]
    have h : cntFrom F (2 * y + 1) (2 * (n + 1) + 1) (2 * x) = (if sV F x y = true then 1 else 0) + cntFrom F (2 * y + 1) (2 * n + 1) (2 * (x + 1)) := by
      rw [show 2 * (n + 1) + 1 = (2 * n + 1) + 1 + 1 by omega, cntFrom, cntFrom, onS_V, hz, show 2 * x + 1 + 1 = 2 * (x + 1) by omega]
      simp
    rw [h, cnt_V F y n (x + 1), List.range'_succ (n := n + 1), List.foldl_cons, Int.zero_add]
    have g : ∀ (l : List Nat) (a : Int), l.foldl (fun a x => a + if sV F x y = true then 1 else 0) a = a + l.foldl (fun a x => a + if sV F x y = true then 1 else 0) 0 := by
      intro l
      induction l with
      | nil => intro a; simp
      | cons z r ih => intro a; rw [List.foldl_cons, List.foldl_cons, ih, ih (0 + _)]; omega
    exact (g _ _).symm
def sumN (f : Nat → Int) : Nat → Int
  | 0 => 0
  | n + 1 => sumN f n + f n
theorem sumN_fold (f : Nat → Int) (n : Nat) : (List.range' 0 n).foldl (fun a x => a + f x) 0 = sumN f n := by
  induction n with
  | zero => rfl
  | succ n ih => rw [List.range'_concat, List.foldl_append, ih]; simp [sumN]
theorem sumN_add (f g : Nat → Int) : ∀ n, sumN (fun x => f x + g x) n = sumN f n + sumN g n
  | 0 => rfl
  | n + 1 => by rw [sumN, sumN, sumN, sumN_add f g n]; omega
theorem sumN_congr (f g : Nat → Int) : ∀ n, (∀ x, x < n → f x = g x) → sumN f n = sumN g n
  | 0, _ => rfl
  | n + 1, h => by rw [sumN, sumN, sumN_congr f g n (fun x hx => h x (by omega)), h n (by omega)]
theorem rowCnt_sum (F : Grp) (w h y : Nat) : ∀ x, rowCnt F w h y x = sumN (fun x => stepV F h x y + stepH F w x y) x
  | 0 => rfl
  | x + 1 => by rw [rowCnt, sumN, rowCnt_sum F w h y x]
theorem row_cnt (F : Grp) (w h y : Nat) : rowCnt F w h y (w + 1) = (if y < h then cntFrom F (2 * y + 1) (2 * w + 1) 0 else 0) + cntFrom F (2 * y) (2 * w + 1) 0 := by
  rw [rowCnt_sum, sumN_add]
  have hH : sumN (fun x => stepH F w x y) (w + 1) = cntFrom F (2 * y) (2 * w + 1) 0 := by
    have := cnt_H F y w 0
    rw [Nat.mul_zero] at this
    rw [this, sumN_fold, sumN, sumN_congr _ (fun x => if sH F x y = true then 1 else 0) w (fun x hx => by simp only [stepH, decide_eq_true hx, Bool.true_and])]
    rw [show stepH F w w y = 0 by simp [stepH]]
    omega
  have hV : sumN (fun x => stepV F h x y) (w + 1) = if y < h then cntFrom F (2 * y + 1) (2 * w + 1) 0 else 0 := by
    by_cases q : y < h
    · rw [if_pos q]
      have := cnt_V F y w 0
      rw [Nat.mul_zero] at this
      rw [this, sumN_fold]
      exact sumN_congr _ _ _ (fun x _ => by simp only [stepV, decide_eq_true q, Bool.true_and])
    · rw [if_neg q]
      have z : ∀ n, sumN (fun x => stepV F h x y) n = 0 := by
        intro n
        induction n with
        | zero => rfl
        | succ n ih => rw [sumN, ih]; simp [stepV, q]
      exact z _
  rw [hH, hV]
theorem cnts_app (F : Grp) (w : Nat) : ∀ d r, cntsFrom F w d r = sumN (fun i => cntFrom F (r + i) (2 * w + 1) 0) d
  | 0, _ => rfl
  | d + 1, r => by
    rw [cntsFrom, cnts_app F w d (r + 1)]
    have g : ∀ (f : Nat → Int) n, sumN f (n + 1) = f 0 + sumN (fun i => f (i + 1)) n := by
      intro f n
      induction n with
      | zero => simp [sumN]
      | succ n ih => rw [sumN, ih, sumN]; omega
    rw [g]
    congr 1
    exact sumN_congr _ _ _ (fun i _ => by rw [show r + 1 + i = r + (i + 1) by omega])
theorem cnt_all (F : Grp) (w h : Nat) : allCnt F w h (h + 1) = cntsFrom F w (2 * h + 1) 0 := by
  rw [cnts_app, sumN_congr _ (fun i => cntFrom F i (2 * w + 1) 0) _ (fun i _ => by rw [Nat.zero_add])]
  have g : ∀ y, y ≤ h → allCnt F w h y = sumN (fun i => cntFrom F i (2 * w + 1) 0) (2 * y) := by
    intro y
    induction y with
    | zero => intro _; rfl
    | succ y ih =>
      intro hy
      rw [allCnt, ih (by omega), row_cnt, if_pos (by omega), show 2 * (y + 1) = 2 * y + 1 + 1 by omega, sumN, sumN]
      omega
  rw [allCnt, g h (Nat.le_refl _), row_cnt, if_neg (by omega), sumN]
  omega
theorem drawn_ok (F : Grp) (w h : Nat) : textD (drawnD F w h).1 = strOfNums (rowsFrom F w h (2 * h + 1) 0) ∧ (drawnD F w h).2 = cntsFrom F w (2 * h + 1) 0 := by
  obtain ⟨h1, h2⟩ := allD_ok F w h (h + 1) (Nat.le_refl _)
  have h3 : GridOk w h (drawnD F w h).1 (chD F w h) := ⟨h1.rows, h1.cols, fun r c hr hc => (h1.char r c hr hc).trans (char_all F w h c r (by omega) (by omega))⟩
  refine ⟨?_, ?_⟩
  · rw [text_all, ← grid_rows F w h _ h3]
  · rw [← cnt_all]; exact h2
theorem rowsFrom_len (F : Grp) (w h : Nat) : ∀ d r, (rowsFrom F w h d r).length ≤ d * (2 * w + 2)
  | 0, _ => by simp [rowsFrom]
  | d + 1, r => by
    have := rowsFrom_len F w h d (r + 1)
    rw [rowsFrom, List.length_append, List.length_append, rowFrom_len, Nat.add_mul]
    split <;> simp <;> omega
theorem idraw_val (l : List S57) (gs : List Int) (hl : codeL l = 0) (hg : gs.length = l.length) : Ev (fun k => impl_drawing.f k l gs)
    (strOfNums (rowsFrom (grpF (normL l) gs) (sizeL l).1.toNat (sizeL l).2.toNat (2 * (sizeL l).2.toNat + 1) 0), cntsFrom (grpF (normL l) gs) (sizeL l).1.toNat (2 * (sizeL l).2.toNat + 1) 0) := by
  obtain ⟨hs, hN, hw, hh⟩ := code_zero l hl
  have hle := hs.le
  have hd := drawn_ok (grpF (normL l) gs) (sizeL l).1.toNat (sizeL l).2.toNat
  refine Ev.bind (inormal_val l (by omega) hs.pos) (Ev.bind (isize_val l hs) ?_)
  refine ev_pos ⟨⟨by omega, by omega⟩, ⟨by rw [normL_len]; omega, by rw [normL_len]; omega⟩, fun c hc => ?_, ?_⟩ (ev_const ?_)
  · have := hN.near c hc
    exact ⟨⟨by simp only [keyD]; omega, by simp only [keyD]; omega⟩, by simp only [keyD]; omega, by simp only [keyD]; omega⟩
  · show (textD (drawnD (grpF (normL l) gs) _ _).1).size ≤ _
    rw [hd.1, strOfNums_size]
    refine Nat.le_trans (rowsFrom_len _ _ _ _ _) (Nat.le_trans (Nat.mul_le_mul (show _ ≤ 41 by omega) (show _ ≤ 42 by omega)) (by omega))
  · show some (textD (drawnD (grpF (normL l) gs) _ _).1, (drawnD (grpF (normL l) gs) _ _).2) = _
    rw [hd.1, hd.2]
/-! Cells: from the laws' type to the program's; equal to itself; the purse. -/
def convC (x : S59) : S57 := ⟨x.f0, x.f1⟩
theorem toCells_loop (xs : List S59) (hm : xs.length ≤ maxLen) (d : Nat) : ∀ (n : Nat) (ys : List S57), n + d = xs.length → ys.length = xs.length →
    Ev (fun k => laws_toCellS.l0 k xs ys n) (ys.take n ++ (xs.drop n).map convC) := by
  unfold maxLen at hm
  induction d with
  | zero =>
    intro n ys hd hy
    refine Ev.step (f := fun _ => _) (fun k => by simp only [laws_toCellS.l0]; rfl) (ev_neg (by omega) ?_)
    rw [List.drop_of_length_le (by omega), List.take_of_length_le (by omega)]
    exact ev_const (by simp)
  | succ d ih =>
    intro n ys hd hy
    refine Ev.step (f := fun _ => _) (fun k => by simp only [laws_toCellS.l0]; rfl) (ev_pos (by omega) (ev_pos (by omega) ?_))
    have hx : rd_T59 xs n = xs.getD n z59 := rfl
    rw [hx]
    refine ev_some rfl (ev_pos (by omega) ?_)
    rw [wrap_succ n (by omega)]
    refine ev_eq (ih (n + 1) _ (by omega) (by simpa using hy)) ?_
    rw [drop_cons xs z59 n (by omega), Int.toNat_natCast, take_set_succ _ _ _ (by omega)]
    simp [convC]
theorem toCells_val (xs : List S59) (hm : xs.length ≤ maxLen) (hy : xs.length * 16 ≤ 140737488351232) : Ev (fun k => laws_toCellS.f k xs) (xs.map convC) := by
  refine ev_pos (by omega) (ev_pos (by simp only [Int.toNat_natCast]; omega) ?_)
  exact ev_eq (toCells_loop xs hm xs.length 0 _ (by omega) (by simp)) (by simp)
theorem eqCells_loop (xs : List S57) (hm : xs.length ≤ maxLen) (d : Nat) : ∀ (n : Nat), n + d = xs.length → Ev (fun k => laws_eqCellS.l0 k xs xs n) true := by
  unfold maxLen at hm
  induction d with
  | zero =>
    intro n hd
    exact Ev.step (f := fun _ => _) (fun k => by simp only [laws_eqCellS.l0]; rfl) (ev_neg (by omega) (ev_const rfl))
  | succ d ih =>
    intro n hd
    refine Ev.step (f := fun _ => _) (fun k => by simp only [laws_eqCellS.l0]; rfl) (ev_pos (by omega) (ev_pos (by omega) (ev_pos (by omega) ?_)))
    refine ev_some (a := true) (by simp [laws_eqCell.f]) (ev_pos rfl ?_)
    rw [wrap_succ n (by omega)]
    exact ih (n + 1) (by omega)
theorem eqCells_val (xs : List S57) (hm : xs.length ≤ maxLen) : Ev (fun k => laws_eqCellS.f k xs xs) true := ev_pos rfl (eqCells_loop xs hm xs.length 0 (by omega))
theorem szCells_val (l : List S59) (n : Int) : ∃ t, laws_szCellS.f l n = some t := by
  unfold laws_szCellS.f
  split
  · exact ⟨_, rfl⟩
  · exact ⟨_, rfl⟩
theorem outline_both (l : List S57) (hm : l.length ≤ maxLen) (hb : l.length ≤ 35184372088832) : ∃ p, Ev (fun k => spec_OutlineText.f k l) p ∧ Ev (fun k => impl_OutlineText.f k l) p := by
  have h1 := scode_val l hm
  have h2 := icode_val l hm
  have hz : (List.replicate ((l.length : Int) : Int).toNat (0 : Int)).length = l.length := by simp
  have J : ∀ p : ByteArray × Int, Ev (fun k => impl_GroupsText.f k l (List.replicate ((l.length : Int) : Int).toNat 0)) p → Ev (fun k => impl_OutlineText.f k l) p := fun p hp =>
    ev_pos (by omega) (ev_pos (by omega) (Ev.bind hp (ev_const rfl)))
  by_cases h : codeL l = 0
  · refine ⟨_, Ev.bind h1 (ev_pos h (ev_pos (by omega) (ev_pos (by omega) (Ev.bind (sdraw_val l _ h hz) (ev_const rfl))))), J _ (Ev.bind (a := 0) (Ev.bind h2 (ev_pos h (ev_pos (by rw [hz]) (ev_const rfl)))) (ev_pos rfl (Ev.bind (idraw_val l _ h hz) (ev_const rfl))))⟩
  · exact ⟨_, Ev.bind h1 (ev_neg h (ev_const rfl)), J _ (Ev.bind (Ev.bind h2 (ev_neg h (ev_const rfl))) (ev_neg h (ev_const rfl)))⟩
theorem FnExactOutlineText (l : List S59) (hm : l.length ≤ maxLen) (hy : l.length * 16 ≤ 140737488351232) (_ : ∀ x ∈ l, (Lit.int .i64 x.f0).wf = true ∧ (Lit.int .i64 x.f1).wf = true) :
    ∃ k, laws_FnExactOutlineText.f k l = some true := by
  have hl : (l.map convC).length ≤ maxLen := by simpa using hm
  refine Ev.rounds (g := fun k => laws_FnExactOutlineText.f k l) ?_
  obtain ⟨t, ht⟩ := szCells_val l 1048576
  obtain ⟨p, p1, p2⟩ := outline_both (l.map convC) hl (by simp only [List.length_map]; omega)
  refine ev_some ht ?_
  by_cases h : t < 0
  · exact ev_pos h (ev_const rfl)
  · refine ev_neg h (Ev.bind (toCells_val l hm hy) (Ev.bind p1 (Ev.bind (toCells_val l hm hy) (Ev.bind p2 (ev_pos rfl ?_)))))
    rw [show (p.2 != p.2) = false by simp]
    refine Ev.step (f := fun _ => _) (fun k => by simp only [laws_FnExactOutlineText.j0]; rfl) (ev_neg (by decide) ?_)
    exact Ev.bind (toCells_val l hm hy) (Ev.bind (eqCells_val _ hl) (ev_pos rfl (ev_const rfl)))
end Go.Proofs.Ytfpofjckpbmcjaa.Pure
