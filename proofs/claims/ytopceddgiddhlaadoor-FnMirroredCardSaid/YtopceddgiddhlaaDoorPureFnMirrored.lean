/- What is proved: for every code the law FnMirrored answers true: texts of shapes agree with the reference, and are mirrored as the shape is turned over. No condition beyond the kinds of the numbers and the reach. -/
import Derived.Test.YtopceddgiddhlaaDoorPFnMirroredx0
import Derived.Test.YtopceddgiddhlaaDoorPFnMirroredx1
import Derived.Test.YtopceddgiddhlaaDoorPFnMirroredx2
import Derived.Test.YtopceddgiddhlaaDoorPFnMirroredx3
import Derived.Test.YtopceddgiddhlaaDoorPFnMirroredx4
import Derived.Test.YtopceddgiddhlaaDoorPFnMirroredx5
import Derived.Test.YtopceddgiddhlaaDoorPFnMirroredx6
import Derived.Test.YtopceddgiddhlaaDoorPFnMirroredx7
import Derived.Test.YtopceddgiddhlaaDoorPFnMirroredx8
import Derived.Test.YtopceddgiddhlaaDoorPFnMirroredx9
import Derived.Test.YtopceddgiddhlaaDoorPFnMirroredx10
import Derived.Test.YtopceddgiddhlaaDoorPFnMirroredx11
import Derived.Test.YtopceddgiddhlaaDoorPFnMirroredx12
import Derived.Test.YtopceddgiddhlaaDoorKit
import Derived.Lib.Split
import Derived.Lib.SplitLaws
import Derived.Lib.Join
set_option linter.unusedVariables false
set_option linter.unusedSimpArgs false
namespace Go.Proofs.YtopceddgiddhlaaDoor.Pure
open Go.RowKit Go.Proofs.YtopceddgiddhlaaDoor.PFnMirrored Go.Proofs.YtopceddgiddhlaaDoorW.PrintWords Go.Proofs.YtopceddgiddhlaaDoorW.PrintLast Go.Proofs.YtopceddgiddhlaaDoor.Kit
/-! Cut at every instance of one byte: the library's strings.Split and the reference's loop come to the same list. -/
def spl (c : UInt8) : List UInt8 → List (List UInt8)
  | [] => [[]]
  | b :: l => if b = c then [] :: spl c l else match spl c l with
    | [] => [[b]]
    | p :: r => (b :: p) :: r
def mkB (l : List UInt8) : ByteArray := ⟨l.toArray⟩
theorem splitK_one (c : UInt8) : ∀ l : List UInt8, Lib.splitK [c] 0 (Lib.count l [c]) l = spl c l
  | [] => by rw [Lib.count_miss (by simp [Lib.index])]; rfl
  | b :: l => by
    have ih := splitK_one c l
    by_cases h : b = c
    · subst h
      have hix : Lib.index (b :: l) [b] = 0 := by rw [Lib.index]; simp [List.isPrefixOf]
      rw [Lib.count_cons_eq, Nat.add_comm, Lib.splitK, if_neg (by rw [hix]; decide), hix, spl, if_pos rfl, ← ih]
      simp
    · have hp : ([c] : List UInt8).isPrefixOf (b :: l) = false := by simp [List.isPrefixOf, Ne.symm h]
      have hix : Lib.index (b :: l) [c] = if Lib.index l [c] == -1 then -1 else Lib.index l [c] + 1 := by rw [Lib.index, hp]; simp
      rw [Lib.count_cons_ne b c l h, spl, if_neg h, ← ih]
      cases hk : Lib.count l [c] with
      | zero => rfl
      | succ k =>
        have hm : ¬ (Lib.index l [c] == -1) = true := fun e => by
          rw [Lib.count_miss (beq_iff_eq.1 e)] at hk
          cases hk
        have hge := Lib.index_ge l [c]
        have hne : Lib.index l [c] ≠ -1 := fun e => hm (beq_iff_eq.2 e)
        obtain ⟨j, hj⟩ : ∃ j : Nat, Lib.index l [c] = j := ⟨(Lib.index l [c]).toNat, by omega⟩
        rw [if_neg hm, hj] at hix
        have hm2 : ¬ (Lib.index (b :: l) [c] == -1) = true := fun e => by rw [hix] at e; have := beq_iff_eq.1 e; omega
        rw [Lib.splitK, if_neg hm2, Lib.splitK, if_neg hm, hix, hj]
        have e1 : ((j : Int) + 1).toNat = j + 1 := by omega
        rw [e1]
        simp
theorem mkB_data (s : ByteArray) : mkB s.data.toList = s := by
  obtain ⟨⟨l⟩⟩ := s
  rfl
theorem splitL_one (s : ByteArray) (c : UInt8) : splitL s ⟨#[c]⟩ = (spl c s.data.toList).map mkB := by
  have h := Lib.splitB_data ⟨#[c]⟩ 0 (Lib.countB s ⟨#[c]⟩) s
  rw [show Lib.countB s ⟨#[c]⟩ = Lib.count s.data.toList [c] from rfl, show (⟨#[c]⟩ : ByteArray).data.toList = [c] from rfl, splitK_one] at h
  rw [← h, List.map_map]
  conv => lhs; rw [← List.map_id (splitL s ⟨#[c]⟩)]
  apply List.map_congr_left
  intro x _
  exact (mkB_data x).symm
/-! Shapes: both sides' IsShape come to one Bool. -/
abbrev cellAt (l : List S78) (i : Nat) : S78 := l.getD i z78
def inR (n : Int) : Bool := decide (-100 ≤ n) && decide (n ≤ 100)
def lessB (a b : S78) : Bool := decide (a.f1 < b.f1) || (decide (a.f1 = b.f1) && decide (a.f0 < b.f0))
def okAtB (l : List S78) (i : Nat) : Bool := (inR (cellAt l i).f0 && inR (cellAt l i).f1) && (decide (i = 0) || lessB (cellAt l (i - 1)) (cellAt l i))
def shapeFrom (l : List S78) : Nat → Nat → Bool
  | 0, _ => decide (1 ≤ l.length) && decide (l.length ≤ 40)
  | d + 1, i => okAtB l i && shapeFrom l d (i + 1)
def isShapeB (l : List S78) : Bool := shapeFrom l l.length 0
theorem in_valC (a : Int) (lo hi : Int) : spec_l01In.f a lo hi = some (decide (lo ≤ a) && decide (a ≤ hi)) := by
  unfold spec_l01In.f
  by_cases h : a ≥ lo
  · rw [if_pos h, decide_eq_true (show lo ≤ a from h), Bool.true_and]
  · rw [if_neg h, decide_eq_false (show ¬ lo ≤ a from h), Bool.false_and]
theorem within_valC (a : Int) (lo hi : Int) : impl_within.f a lo hi = some (decide (lo ≤ a) && decide (a ≤ hi)) := by
  unfold impl_within.f
  by_cases h : a ≥ lo
  · rw [if_pos h, decide_eq_true (show lo ≤ a from h), Bool.true_and]
  · rw [if_neg h, decide_eq_false (show ¬ lo ≤ a from h), Bool.false_and]
theorem cell_val (a b : Int) : spec_l02Cell.f a b = some (inR a && inR b) := by
  unfold spec_l02Cell.f
  rw [in_valC, in_valC]
  show (if inR a = true then some (inR b) else some false) = _
  cases inR a <;> rfl
theorem coord_val (a : Int) : impl_isCoordinate.f a = some (inR a) := by
  unfold impl_isCoordinate.f
  rw [within_valC]
  rfl
theorem less_val (a b c d : Int) : spec_l02Less.f a b c d = some (lessB ⟨a, b⟩ ⟨c, d⟩) := by
  unfold spec_l02Less.f lessB
  by_cases h : b < d
  · simp [h]
  · by_cases e : b = d
    · simp [e]
    · simp [h, e]
def cmp3 (a b : Int) : Int := if a < b then -1 else if a > b then 1 else 0
theorem cmp_val (a b : Int) : cmp_Compare_int64.f a b = some (cmp3 a b) := by
  have h : ∀ x : Int, cmp_isNaN_int64.f x = some false := fun x => by simp [cmp_isNaN_int64.f]
  unfold cmp_Compare_int64.f cmp3
  rw [h, h]
  simp only [Option.bind_some, Bool.false_eq_true, if_false]
  split
  · rfl
  · split <;> rfl
def cmpC (p q : S78) : Int := if cmp3 p.f1 q.f1 = 0 then cmp3 p.f0 q.f0 else cmp3 p.f1 q.f1
theorem compare_val (a b c d : Int) : impl_compareCells.f a b c d = some (cmpC ⟨a, b⟩ ⟨c, d⟩) := by
  unfold impl_compareCells.f cmpC
  rw [cmp_val, cmp_val]
  simp only [Option.bind_some]
  split <;> rfl
theorem cmpC_less (p q : S78) : (cmpC p q ≥ 0) ↔ lessB p q = false := by
  unfold cmpC cmp3 lessB
  simp only [Bool.or_eq_false_iff, Bool.and_eq_false_iff, decide_eq_false_iff_not]
  split <;> split <;> (try split) <;> (try split) <;> omega
theorem spec_shape_loop (l : List S78) (hm : l.length ≤ maxLen) (d : Nat) : ∀ n : Nat, n + d = l.length → Ev (fun k => spec_IsShape.l0 k l n) (shapeFrom l d n) := by
  unfold maxLen at hm
  induction d with
  | zero =>
    intro n hd
    refine Ev.step (f := fun _ => _) (fun k => by simp only [spec_IsShape.l0]; rfl) (ev_neg (by omega) (ev_some (in_valC _ _ _) (ev_const ?_)))
    rw [shapeFrom]
    congr 2 <;> exact decide_eq_decide.2 (by omega)
  | succ d ih =>
    intro n hd
    refine Ev.step (f := fun _ => _) (fun k => by simp only [spec_IsShape.l0]; rfl) (ev_pos (by omega) (ev_pos (by omega) (ev_some (cell_val _ _) ?_)))
    rw [show rd_T78 l (n : Int) = cellAt l n from rfl, shapeFrom, okAtB]
    cases h1 : (inR (cellAt l n).f0 && inR (cellAt l n).f1) with
    | false => exact ev_neg (by simp) (ev_const rfl)
    | true =>
      refine ev_pos rfl ?_
      by_cases h0 : n = 0
      · subst h0
        refine ev_neg (by omega) ?_
        rw [wrap_succ 0 (by omega)]
        simpa using ih 1 (by omega)
      · have hw : wrap64 ((n : Int) - 1) = ((n - 1 : Nat) : Int) := by rw [wrap_id _ (by omega) (by omega)]; omega
        rw [hw]
        refine ev_pos (by omega) (ev_pos (by omega) (ev_pos (by omega) (ev_some (less_val _ _ _ _) ?_)))
        rw [decide_eq_false h0, Bool.false_or, Bool.true_and, show rd_T78 l ((n - 1 : Nat) : Int) = cellAt l (n - 1) from rfl]
        cases h2 : lessB (cellAt l (n - 1)) (cellAt l n) with
        | false => exact ev_neg (by simp) (ev_const rfl)
        | true =>
          refine ev_pos rfl ?_
          rw [wrap_succ n (by omega), Bool.true_and]
          exact ih (n + 1) (by omega)
theorem spec_shape_val (l : List S78) (hm : l.length ≤ maxLen) : Ev (fun k => spec_IsShape.f k l) (isShapeB l) := spec_shape_loop l hm l.length 0 (by omega)
theorem impl_shape_loop (l : List S78) (hm : l.length ≤ maxLen) (d : Nat) : ∀ n : Nat, n + d = l.length → Ev (fun k => impl_IsShape.l0 k l l (l.length : Int) n) (shapeFrom l d n) := by
  unfold maxLen at hm
  induction d with
  | zero =>
    intro n hd
    refine Ev.step (f := fun _ => _) (fun k => by simp only [impl_IsShape.l0]; rfl) (ev_neg (by omega) ?_)
    rw [shapeFrom]
    by_cases h : (l.length : Int) ≥ 1
    · refine ev_pos h (ev_const ?_)
      rw [decide_eq_true (show 1 ≤ l.length by omega), Bool.true_and]
      congr 1
      exact decide_eq_decide.2 (by omega)
    · refine ev_neg h (ev_const ?_)
      rw [decide_eq_false (show ¬ 1 ≤ l.length by omega), Bool.false_and]
  | succ d ih =>
    intro n hd
    refine Ev.step (f := fun _ => _) (fun k => by simp only [impl_IsShape.l0]; rfl) (ev_pos (by omega) (ev_pos (by omega) (ev_pos (by omega) (ev_some (coord_val _) ?_))))
    rw [show rd_T78 l (n : Int) = cellAt l n from rfl, shapeFrom, okAtB]
    cases h1 : inR (cellAt l n).f0 with
    | false => exact ev_neg (by simp) (ev_const (by simp))
    | true =>
      refine ev_pos rfl (ev_some (coord_val _) ?_)
      cases h1' : inR (cellAt l n).f1 with
      | false => exact ev_neg (by simp) (ev_const (by simp))
      | true =>
        refine ev_pos rfl ?_
        by_cases h0 : n = 0
        · subst h0
          refine ev_neg (by omega) ?_
          rw [wrap_succ 0 (by omega)]
          simpa using ih 1 (by omega)
        · have hw : wrap64 ((n : Int) - 1) = ((n - 1 : Nat) : Int) := by rw [wrap_id _ (by omega) (by omega)]; omega
          rw [hw]
          refine ev_pos (by omega) (ev_pos (by omega) (ev_pos (by omega) (ev_some (compare_val _ _ _ _) ?_)))
          rw [decide_eq_false h0, Bool.false_or, Bool.true_and, show rd_T78 l ((n - 1 : Nat) : Int) = cellAt l (n - 1) from rfl]
          cases h2 : lessB (cellAt l (n - 1)) (cellAt l n) with
          | false => exact ev_pos ((cmpC_less _ _).2 h2) (ev_const rfl)
          | true =>
            refine ev_neg (fun h => by have := (cmpC_less _ _).1 h; rw [h2] at this; cases this) ?_
            rw [wrap_succ n (by omega), Bool.true_and]
            exact ih (n + 1) (by omega)
theorem impl_shape_val (l : List S78) (hm : l.length ≤ maxLen) : Ev (fun k => impl_IsShape.f k l) (isShapeB l) := impl_shape_loop l hm l.length 0 (by omega)
/-! Least and greatest coordinates, the moved cells, sizes: both sides. -/
def minF (f : S78 → Int) : List S78 → Int → Int
  | [], x => x
  | c :: r, x => minF f r (mn x (f c))
def maxF (f : S78 → Int) : List S78 → Int → Int
  | [], x => x
  | c :: r, x => maxF f r (mx x (f c))
def minX (l : List S78) : Int := minF (·.f0) l (cellAt l 0).f0
def minY (l : List S78) : Int := minF (·.f1) l (cellAt l 0).f1
def maxX (l : List S78) : Int := maxF (·.f0) l (cellAt l 0).f0
def maxY (l : List S78) : Int := maxF (·.f1) l (cellAt l 0).f1
def movL (a b : Int) (l : List S78) : List S78 := l.map fun c => ⟨wrap64 (c.f0 + a), wrap64 (c.f1 + b)⟩
def normL (l : List S78) : List S78 := movL (wrap64 (-minX l)) (wrap64 (-minY l)) l
theorem minF_le (f : S78 → Int) : ∀ (l : List S78) (x : Int), minF f l x ≤ x ∧ ∀ c ∈ l, minF f l x ≤ f c
  | [], x => ⟨Int.le_refl _, by simp⟩
  | c :: r, x => by
    have h := minF_le f r (mn x (f c))
    have h1 : mn x (f c) ≤ x ∧ mn x (f c) ≤ f c := by unfold mn; split <;> omega
    rw [minF]
    refine ⟨by omega, fun d hd => ?_⟩
    rcases List.mem_cons.1 hd with rfl | hd
    · omega
    · exact h.2 d hd
theorem maxF_ge (f : S78 → Int) : ∀ (l : List S78) (x : Int), x ≤ maxF f l x ∧ ∀ c ∈ l, f c ≤ maxF f l x
  | [], x => ⟨Int.le_refl _, by simp⟩
  | c :: r, x => by
    have h := maxF_ge f r (mx x (f c))
    have h1 : x ≤ mx x (f c) ∧ f c ≤ mx x (f c) := by unfold mx; split <;> omega
    rw [maxF]
    refine ⟨by omega, fun d hd => ?_⟩
    rcases List.mem_cons.1 hd with rfl | hd
    · omega
    · exact h.2 d hd
theorem minF_in (f : S78 → Int) (lo hi : Int) : ∀ (l : List S78) (x : Int), (lo ≤ x ∧ x ≤ hi) → (∀ c ∈ l, lo ≤ f c ∧ f c ≤ hi) → lo ≤ minF f l x ∧ minF f l x ≤ hi
  | [], x, h, _ => h
  | c :: r, x, h, hc => by
    have h1 := hc c (by simp)
    exact minF_in f lo hi r _ (by unfold mn; split <;> omega) (fun d hd => hc d (by simp [hd]))
theorem maxF_in (f : S78 → Int) (lo hi : Int) : ∀ (l : List S78) (x : Int), (lo ≤ x ∧ x ≤ hi) → (∀ c ∈ l, lo ≤ f c ∧ f c ≤ hi) → lo ≤ maxF f l x ∧ maxF f l x ≤ hi
  | [], x, h, _ => h
  | c :: r, x, h, hc => by
    have h1 := hc c (by simp)
    exact maxF_in f lo hi r _ (by unfold mx; split <;> omega) (fun d hd => hc d (by simp [hd]))
theorem mn_self (x : Int) : mn x x = x := by unfold mn; split <;> omega
theorem cell_mem (l : List S78) (i : Nat) (h : i < l.length) : cellAt l i ∈ l := getD_mem l _ i h
theorem least_loop (l : List S78) (hm : l.length ≤ maxLen) (d : Nat) : ∀ (n : Nat) (x y : Int), n + d = l.length → Ev (fun k => spec_l02Least.l0 k l x y n) (minF (·.f0) (l.drop n) x, minF (·.f1) (l.drop n) y) := by
  unfold maxLen at hm
  induction d with
  | zero =>
    intro n x y hd
    refine Ev.step (f := fun _ => _) (fun k => by simp only [spec_l02Least.l0]; rfl) (ev_neg (by omega) (ev_const ?_))
    rw [List.drop_of_length_le (by omega)]; rfl
  | succ d ih =>
    intro n x y hd
    refine Ev.step (f := fun _ => _) (fun k => by simp only [spec_l02Least.l0]; rfl) (ev_pos (by omega) (ev_pos (by omega) ?_))
    rw [wrap_succ n (by omega), drop_cons l z78 n (by omega), minF, minF]
    exact ih (n + 1) _ _ (by omega)
theorem least_val (l : List S78) (hm : l.length ≤ maxLen) (h1 : 1 ≤ l.length) : Ev (fun k => spec_l02Least.f k l) (minX l, minY l) := by
  refine ev_pos (by omega) ?_
  have h := least_loop l hm (l.length - 1) 1 (cellAt l 0).f0 (cellAt l 0).f1 (by omega)
  unfold minX minY
  have e : l = cellAt l 0 :: l.drop 1 := by
    have := drop_cons l z78 0 (by omega)
    simpa using this
  have key : ∀ f : S78 → Int, minF f l (f (cellAt l 0)) = minF f (l.drop 1) (f (cellAt l 0)) := fun f => by
    conv => lhs; rw [e, minF]
    rw [show cellAt (cellAt l 0 :: l.drop 1) 0 = cellAt l 0 from rfl, mn_self]
  rw [key (·.f0), key (·.f1)]
  exact h
theorem corner_loop (l : List S78) (hm : l.length ≤ maxLen) (d : Nat) : ∀ (n : Nat) (x y : Int), n + d = l.length → Ev (fun k => impl_corner.l0 k l (l.length : Int) n x y) (minF (·.f0) (l.drop n) x, minF (·.f1) (l.drop n) y) := by
  unfold maxLen at hm
  induction d with
  | zero =>
    intro n x y hd
    refine Ev.step (f := fun _ => _) (fun k => by simp only [impl_corner.l0]; rfl) (ev_neg (by omega) (ev_const ?_))
    rw [List.drop_of_length_le (by omega)]; rfl
  | succ d ih =>
    intro n x y hd
    refine Ev.step (f := fun _ => _) (fun k => by simp only [impl_corner.l0]; rfl) (ev_pos (by omega) (ev_pos (by omega) (ev_pos (by omega) ?_)))
    rw [wrap_succ n (by omega), drop_cons l z78 n (by omega), minF, minF]
    exact ih (n + 1) _ _ (by omega)
theorem corner_val (l : List S78) (hm : l.length ≤ maxLen) (h1 : 1 ≤ l.length) : Ev (fun k => impl_corner.f k l) (minX l, minY l) :=
  ev_pos (by omega) (corner_loop l hm l.length 0 _ _ (by omega))
theorem smove_loop (l : List S78) (a b : Int) (hm : l.length ≤ maxLen) (h8 : l.length ≤ 1000000) (d : Nat) : ∀ (n : Nat) (out : List S78), n + d = l.length → out.length = n → Ev (fun k => spec_l02Move.l0 k l a b out n) (out ++ movL a b (l.drop n)) := by
  unfold maxLen at hm
  induction d with
  | zero =>
    intro n out hd ho
    refine Ev.step (f := fun _ => _) (fun k => by simp only [spec_l02Move.l0]; rfl) (ev_neg (by omega) (ev_const ?_))
    rw [List.drop_of_length_le (by omega)]; simp [movL]
  | succ d ih =>
    intro n out hd ho
    refine Ev.step (f := fun _ => _) (fun k => by simp only [spec_l02Move.l0]; rfl) (ev_pos (by omega) (ev_pos (by omega) (ev_pos (by omega) ?_)))
    rw [wrap_succ n (by omega)]
    refine ev_eq (ih (n + 1) _ (by omega) (by simp [ho])) ?_
    rw [drop_cons l z78 n (by omega)]
    simp [movL]; exact ⟨rfl, rfl⟩
theorem imove_loop (l : List S78) (a b : Int) (hm : l.length ≤ maxLen) (h8 : l.length ≤ 1000000) (d : Nat) : ∀ (n : Nat) (out : List S78), n + d = l.length → out.length = n → Ev (fun k => impl_moved.l0 k a b out l (l.length : Int) n) (out ++ movL a b (l.drop n)) := by
  unfold maxLen at hm
  induction d with
  | zero =>
    intro n out hd ho
    refine Ev.step (f := fun _ => _) (fun k => by simp only [impl_moved.l0]; rfl) (ev_neg (by omega) (ev_const ?_))
    rw [List.drop_of_length_le (by omega)]; simp [movL]
  | succ d ih =>
    intro n out hd ho
    refine Ev.step (f := fun _ => _) (fun k => by simp only [impl_moved.l0]; rfl) (ev_pos (by omega) (ev_pos (by omega) (ev_pos (by omega) (ev_pos (by omega) ?_))))
    rw [wrap_succ n (by omega)]
    refine ev_eq (ih (n + 1) _ (by omega) (by simp [ho])) ?_
    rw [drop_cons l z78 n (by omega)]
    simp [movL]; exact ⟨rfl, rfl⟩
theorem snormal_val (l : List S78) (hm : l.length ≤ 1000000) (h1 : 1 ≤ l.length) : Ev (fun k => spec_l02Normal.f k l) (normL l) := by
  have hm' : l.length ≤ maxLen := by unfold maxLen; omega
  refine Ev.bind (least_val l hm' h1) (Ev.bind (a := normL l) ?_ (ev_const rfl))
  exact ev_eq (smove_loop l _ _ hm' hm l.length 0 [] (by omega) rfl) (by simp [normL])
theorem inormal_val (l : List S78) (hm : l.length ≤ 1000000) (h1 : 1 ≤ l.length) : Ev (fun k => impl_normal.f k l) (normL l) := by
  have hm' : l.length ≤ maxLen := by unfold maxLen; omega
  refine Ev.bind (corner_val l hm' h1) (Ev.bind (a := normL l) ?_ (ev_const rfl))
  refine ev_pos (by omega) (ev_pos (by omega) ?_)
  exact ev_eq (imove_loop l _ _ hm' hm l.length 0 [] (by omega) rfl) (by simp [normL])
theorem normL_len (l : List S78) : (normL l).length = l.length := by simp [normL, movL]
/-! What a shape is: at most 40 cells, near the origin, in order. -/
structure Shp (l : List S78) : Prop where
  pos : 1 ≤ l.length
  le : l.length ≤ 40
  near : ∀ c ∈ l, (-100 ≤ c.f0 ∧ c.f0 ≤ 100) ∧ (-100 ≤ c.f1 ∧ c.f1 ≤ 100)
  rise : ∀ i j, i < j → j < l.length → lessB (cellAt l i) (cellAt l j) = true
theorem shapeFrom_iff (l : List S78) : ∀ d n : Nat, shapeFrom l d n = true ↔ ((∀ i, n ≤ i → i < n + d → okAtB l i = true) ∧ 1 ≤ l.length ∧ l.length ≤ 40)
  | 0, n => by
    simp only [shapeFrom, Bool.and_eq_true, decide_eq_true_eq]
    exact ⟨fun h => ⟨fun i h1 h2 => by omega, h.1, h.2⟩, fun h => h.2⟩
  | d + 1, n => by
    simp only [shapeFrom, Bool.and_eq_true]
    rw [shapeFrom_iff l d (n + 1)]
    constructor
    · intro h
      refine ⟨fun i h3 h4 => ?_, h.2.2⟩
      by_cases e : i = n
      · subst e; exact h.1
      · exact h.2.1 i (by omega) (by omega)
    · intro h
      exact ⟨h.1 n (Nat.le_refl _) (by omega), fun i h3 h4 => h.1 i (by omega) (by omega), h.2⟩
theorem less_iff (a b : S78) : lessB a b = true ↔ a.f1 < b.f1 ∨ (a.f1 = b.f1 ∧ a.f0 < b.f0) := by
  unfold lessB
  simp only [Bool.or_eq_true, Bool.and_eq_true, decide_eq_true_eq]
theorem shp_iff (l : List S78) : isShapeB l = true ↔ Shp l := by
  unfold isShapeB
  rw [shapeFrom_iff]
  constructor
  · rintro ⟨h1, h2, h3⟩
    have hok : ∀ i, i < l.length → okAtB l i = true := fun i hi => h1 i (by omega) (by omega)
    have hless : ∀ j i, i < j → j < l.length → lessB (cellAt l i) (cellAt l j) = true := by
      intro j
      induction j with
      | zero => intro i hi; omega
      | succ j ih =>
        intro i hi hj
        have h4 := hok (j + 1) hj
        simp only [okAtB, Bool.and_eq_true, Bool.or_eq_true, decide_eq_true_eq, Nat.add_sub_cancel] at h4
        have h5 : lessB (cellAt l j) (cellAt l (j + 1)) = true := by
          rcases h4.2 with h6 | h6
          · omega
          · exact h6
        by_cases e : i = j
        · subst e; exact h5
        · have h6 := ih i (by omega) (by omega)
          rw [less_iff] at *
          omega
    refine ⟨h2, h3, fun c hc => ?_, fun i j => hless j i⟩
    obtain ⟨i, hi, rfl⟩ := List.getElem_of_mem hc
    have h4 := hok i hi
    have e : cellAt l i = l[i] := by show l.getD i _ = _; rw [List.getD_eq_getElem?_getD, List.getElem?_eq_getElem hi, Option.getD_some]
    rw [okAtB, e] at h4
    simp only [inR, Bool.and_eq_true, decide_eq_true_eq] at h4
    exact ⟨⟨h4.1.1.1, h4.1.1.2⟩, h4.1.2.1, h4.1.2.2⟩
  · intro h
    refine ⟨fun i _ hi => ?_, h.pos, h.le⟩
    have hn := h.near _ (cell_mem l i (by omega))
    unfold okAtB inR
    rw [decide_eq_true hn.1.1, decide_eq_true hn.1.2, decide_eq_true hn.2.1, decide_eq_true hn.2.2]
    by_cases h0 : i = 0
    · simp [h0]
    · rw [h.rise (i - 1) i (by omega) (by omega)]; simp
theorem Shp.least {l : List S78} (h : Shp l) : (-100 ≤ minX l ∧ minX l ≤ 100) ∧ (-100 ≤ minY l ∧ minY l ≤ 100) := by
  have h0 := h.near _ (cell_mem l 0 h.pos)
  exact ⟨minF_in _ _ _ l _ h0.1 (fun c hc => (h.near c hc).1), minF_in _ _ _ l _ h0.2 (fun c hc => (h.near c hc).2)⟩
theorem Shp.most {l : List S78} (h : Shp l) : (-100 ≤ maxX l ∧ maxX l ≤ 100) ∧ (-100 ≤ maxY l ∧ maxY l ≤ 100) := by
  have h0 := h.near _ (cell_mem l 0 h.pos)
  exact ⟨maxF_in _ _ _ l _ h0.1 (fun c hc => (h.near c hc).1), maxF_in _ _ _ l _ h0.2 (fun c hc => (h.near c hc).2)⟩
theorem Shp.norm {l : List S78} (h : Shp l) : normL l = l.map fun c => ⟨c.f0 - minX l, c.f1 - minY l⟩ := by
  have hl := h.least
  unfold normL movL
  refine List.map_congr_left (fun c hc => ?_)
  have hn := h.near c hc
  rw [wrap_id (-minX l) (by omega) (by omega), wrap_id (-minY l) (by omega) (by omega), wrap_id _ (by omega) (by omega), wrap_id _ (by omega) (by omega)]
  congr 1 <;> omega
/-! Sizes, on both sides. -/
theorem reach_loop (l : List S78) (hm : l.length ≤ maxLen) (d : Nat) : ∀ (n : Nat) (x y : Int), n + d = l.length → Ev (fun k => impl_reach.l0 k l (l.length : Int) n x y) (maxF (·.f0) (l.drop n) x, maxF (·.f1) (l.drop n) y) := by
  unfold maxLen at hm
  induction d with
  | zero =>
    intro n x y hd
    refine Ev.step (f := fun _ => _) (fun k => by simp only [impl_reach.l0]; rfl) (ev_neg (by omega) (ev_const ?_))
    rw [List.drop_of_length_le (by omega)]; rfl
  | succ d ih =>
    intro n x y hd
    refine Ev.step (f := fun _ => _) (fun k => by simp only [impl_reach.l0]; rfl) (ev_pos (by omega) (ev_pos (by omega) (ev_pos (by omega) ?_)))
    rw [wrap_succ n (by omega), drop_cons l z78 n (by omega), maxF, maxF]
    exact ih (n + 1) _ _ (by omega)
theorem reach_val (l : List S78) (hm : l.length ≤ maxLen) (h1 : 1 ≤ l.length) : Ev (fun k => impl_reach.f k l) (maxX l, maxY l) :=
  ev_pos (by omega) (reach_loop l hm l.length 0 _ _ (by omega))
def sizeL (l : List S78) : Int × Int := (maxX l - minX l + 1, maxY l - minY l + 1)
theorem maxF_shift (f : S78 → Int) (m : Int) : ∀ (l : List S78) (x : Int), maxF (fun c => f c - m + 1) l (x - m + 1) = maxF f l x - m + 1
  | [], x => rfl
  | c :: r, x => by
    rw [maxF, maxF, ← maxF_shift f m r]
    congr 1
    unfold mx
    split <;> split <;> omega
theorem ssize_loop (l : List S78) (h : Shp l) (d : Nat) : ∀ (n : Nat) (x y : Int), n + d = l.length → Ev (fun k => spec_l04Size.l0 k l (minX l) (minY l) x y n) (maxF (fun c => c.f0 - minX l + 1) (l.drop n) x, maxF (fun c => c.f1 - minY l + 1) (l.drop n) y) := by
  have hle := h.le
  have h1 := h.least
  induction d with
  | zero =>
    intro n x y hd
    refine Ev.step (f := fun _ => _) (fun k => by simp only [spec_l04Size.l0]; rfl) (ev_neg (by omega) (ev_const ?_))
    rw [List.drop_of_length_le (by omega)]; rfl
  | succ d ih =>
    intro n x y hd
    have hn := h.near _ (cell_mem l n (by omega))
    refine Ev.step (f := fun _ => _) (fun k => by simp only [spec_l04Size.l0]; rfl) (ev_pos (by omega) (ev_pos (by omega) ?_))
    rw [show rd_T78 l (n : Int) = cellAt l n from rfl, wrap_succ n (by omega), drop_cons l z78 n (by omega), maxF, maxF, wrap_id ((cellAt l n).f0 - minX l) (by omega) (by omega), wrap_id ((cellAt l n).f1 - minY l) (by omega) (by omega), wrap_id _ (by omega) (by omega), wrap_id _ (by omega) (by omega)]
    exact ih (n + 1) _ _ (by omega)
theorem ssize_val (l : List S78) (h : Shp l) : Ev (fun k => spec_l04Size.f k l) (sizeL l) := by
  have hm : l.length ≤ maxLen := by have := h.le; unfold maxLen; omega
  refine Ev.bind (least_val l hm h.pos) ?_
  refine ev_eq (ssize_loop l h l.length 0 0 0 (by omega)) ?_
  have e : l = cellAt l 0 :: l.drop 1 := by
    have := drop_cons l z78 0 h.pos
    simpa using this
  have hx := (minF_le (·.f0) l (cellAt l 0).f0).2 _ (cell_mem l 0 h.pos)
  have hy := (minF_le (·.f1) l (cellAt l 0).f1).2 _ (cell_mem l 0 h.pos)
  have key : ∀ (f : S78 → Int) (m : Int), m ≤ f (cellAt l 0) → maxF (fun c => f c - m + 1) l 0 = maxF f l (f (cellAt l 0)) - m + 1 := by
    intro f m hm
    rw [← maxF_shift]
    rw [e, maxF, maxF]
    congr 1
    rw [show (cellAt (cellAt l 0 :: l.drop 1) 0) = cellAt l 0 from rfl]
    unfold mx
    split <;> split <;> omega
  unfold sizeL
  rw [List.drop_zero, key (·.f0) (minX l) hx, key (·.f1) (minY l) hy]
  rfl
/-! Sorted cells: one row only, the library's and the reference's. -/
def leC (x y : S78) : Prop := ltC y x = false
theorem leC_iff (x y : S78) : leC x y ↔ x.f1 < y.f1 ∨ (x.f1 = y.f1 ∧ x.f0 ≤ y.f0) := by
  unfold leC
  rw [Bool.eq_false_iff, Ne, ltC_iff]
  omega
theorem leC_anti (x y : S78) (h1 : leC x y) (h2 : leC y x) : x = y := ltC_total x y (by rw [cfC_lt]; exact h2) (by rw [cfC_lt]; exact h1)
theorem sortC_perm (l : List S78) : (sortC l).Perm l := List.mergeSort_perm l _
theorem sortC_sorted (l : List S78) : (sortC l).Pairwise leC := by
  refine (List.pairwise_mergeSort (le := fun x y => !(ltOf cfC) y x) (fun a b c h1 h2 => ?_) (fun a b => ?_) l).imp (fun {a b} h => ?_)
  · simp only [cfC_lt, Bool.not_eq_true'] at h1 h2 ⊢
    have h1' := (leC_iff a b).1 h1
    have h2' := (leC_iff b c).1 h2
    exact (leC_iff a c).2 (by omega)
  · simp only [cfC_lt, Bool.or_eq_true, Bool.not_eq_true']
    have e1 := leC_iff a b
    have e2 := leC_iff b a
    unfold leC at e1 e2
    rw [e1, e2]
    omega
  · have h2 : ltC b a = false := by simpa [cfC_lt] using h
    exact h2
theorem sort_unique {l l' : List S78} (hp : l.Perm l') (h : l.Pairwise leC) (h' : l'.Pairwise leC) : l = l' := List.Perm.eq_of_pairwise (fun a b _ _ => leC_anti a b) h h' hp
theorem sortC_len (l : List S78) : (sortC l).length = l.length := (sortC_perm l).length_eq
def insC (c : S78) : List S78 → List S78
  | [] => [c]
  | x :: r => if ltC c x = true then c :: x :: r else x :: insC c r
theorem insC_perm (c : S78) : ∀ l : List S78, (insC c l).Perm (c :: l)
  | [] => List.Perm.refl _
  | x :: r => by
    rw [insC]
    split
    · exact List.Perm.refl _
    · exact ((insC_perm c r).cons x).trans (List.Perm.swap c x r)
theorem insC_sorted (c : S78) : ∀ l : List S78, l.Pairwise leC → (insC c l).Pairwise leC
  | [], _ => by simp [insC]
  | x :: r, h => by
    rw [List.pairwise_cons] at h
    rw [insC]
    split
    · rename_i hc
      have hcx := (ltC_iff c x).1 hc
      refine List.pairwise_cons.2 ⟨fun y hy => ?_, List.pairwise_cons.2 h⟩
      rcases List.mem_cons.1 hy with rfl | hy
      · exact (leC_iff _ _).2 (by omega)
      · have := (leC_iff x y).1 (h.1 y hy)
        exact (leC_iff _ _).2 (by omega)
    · rename_i hc
      refine List.pairwise_cons.2 ⟨fun y hy => ?_, insC_sorted c r h.2⟩
      rcases List.mem_cons.1 ((insC_perm c r).mem_iff.1 hy) with rfl | hy
      · simpa [leC] using hc
      · exact h.1 y hy
def insAll : List S78 → List S78 → List S78
  | out, [] => out
  | out, x :: r => insAll (insC x out) r
theorem insAll_perm : ∀ (l out : List S78), (insAll out l).Perm (out ++ l)
  | [], out => by simp [insAll]
  | x :: r, out => by
    rw [insAll]
    refine (insAll_perm r _).trans ?_
    refine ((insC_perm x out).append_right r).trans ?_
    exact List.perm_middle.symm
theorem insAll_sorted : ∀ (l out : List S78), out.Pairwise leC → (insAll out l).Pairwise leC
  | [], _, h => h
  | x :: r, out, h => insAll_sorted r _ (insC_sorted x out h)
theorem insAll_eq (l : List S78) : insAll [] l = sortC l := sort_unique (((insAll_perm l []).trans (by simp)).trans (sortC_perm l).symm) (insAll_sorted l [] List.Pairwise.nil) (sortC_sorted l)
/-! Two arms. -/
theorem ev_iteR {α : Type} {c : Prop} [Decidable c] {A B : Nat → Option α} {a b : α} (hA : c → Ev A a) (hB : ¬ c → Ev B b) : Ev (fun k => if c then A k else B k) (if c then a else b) := by
  by_cases h : c
  · rw [if_pos h]; exact ev_pos h (hA h)
  · rw [if_neg h]; exact ev_neg h (hB h)
/-! Turns of cells, and forms of shapes: both sides. -/
def rot1 (c : S78) : S78 := ⟨wrap64 (-c.f1), c.f0⟩
def rotN : Nat → S78 → S78
  | 0, c => c
  | n + 1, c => rotN n (rot1 c)
def flipC (t : Int) (c : S78) : S78 := if t ≥ 4 then ⟨wrap64 (-c.f0), c.f1⟩ else c
def turnC (t : Int) (c : S78) : S78 := rotN (Int.tmod t 4).toNat (flipC t c)
def isT (t : Int) : Prop := 0 ≤ t ∧ t ≤ 7
instance (t : Int) : Decidable (isT t) := inferInstanceAs (Decidable (_ ∧ _))
theorem tmod4 (t : Int) (h : isT t) : ∃ n : Nat, n ≤ 3 ∧ Int.tmod t 4 = (n : Int) := by
  obtain ⟨h0, h7⟩ := h
  refine ⟨(t % 4).toNat, ?_, ?_⟩
  · omega
  · rw [Int.tmod_eq_emod_of_nonneg h0]; omega
theorem irot_loop (m : Nat) (hm : m ≤ 3) (d : Nat) : ∀ (n : Nat) (c : S78), n + d = m → Ev (fun k => impl_turnCell.l0 k m n c.f0 c.f1) ((rotN d c).f0, (rotN d c).f1) := by
  induction d with
  | zero =>
    intro n c hd
    exact Ev.step (f := fun _ => _) (fun k => by simp only [impl_turnCell.l0]; rfl) (ev_neg (by omega) (ev_const rfl))
  | succ d ih =>
    intro n c hd
    refine Ev.step (f := fun _ => _) (fun k => by simp only [impl_turnCell.l0]; rfl) (ev_pos (by omega) ?_)
    rw [wrap_succ n (by omega)]
    exact ih (n + 1) (rot1 c) (by omega)
theorem iturn_val (t : Int) (h : isT t) (c : S78) : Ev (fun k => impl_turnCell.f k c.f0 c.f1 t) ((turnC t c).f0, (turnC t c).f1) := by
  obtain ⟨n, hn, e⟩ := tmod4 t h
  have J : ∀ c : S78, Ev (fun k => impl_turnCell.j0 k t c.f0 c.f1) ((rotN (Int.tmod t 4).toNat c).f0, (rotN (Int.tmod t 4).toNat c).f1) := fun c => by
    refine Ev.step (f := fun _ => _) (fun k => by simp only [impl_turnCell.j0]; rfl) ?_
    rw [e, Int.toNat_natCast]
    exact irot_loop n hn n 0 c (by omega)
  unfold turnC flipC
  by_cases h4 : t ≥ 4
  · rw [if_pos h4]; exact ev_pos h4 (J ⟨wrap64 (-c.f0), c.f1⟩)
  · rw [if_neg h4]; exact ev_neg h4 (J c)
/-! The reference's insertion. -/
theorem less_ltC (a b : S78) : lessB a b = ltC a b := by
  rw [Bool.eq_iff_iff, ltC_iff]
  unfold lessB
  simp only [Bool.or_eq_true, Bool.and_eq_true, decide_eq_true_eq]
theorem insert_done (l : List S78) (c : S78) (hl : l.length ≤ 1000) (d : Nat) : ∀ (n : Nat) (out : List S78), n + d = l.length → out.length = n + 1 → Ev (fun k => spec_l02Insert.l0 k l out true n c.f0 c.f1) (out ++ l.drop n) := by
  induction d with
  | zero =>
    intro n out hd ho
    refine Ev.step (f := fun _ => _) (fun k => by simp only [spec_l02Insert.l0]; rfl) (ev_neg (by omega) (ev_pos trivial (ev_const ?_)))
    rw [List.drop_of_length_le (by omega), List.append_nil]
  | succ d ih =>
    intro n out hd ho
    refine Ev.step (f := fun _ => _) (fun k => by simp only [spec_l02Insert.l0]; rfl) (ev_pos (by omega) (ev_pos trivial (ev_pos (by omega) (ev_pos (show out.length < 8796093022208 by omega) ?_))))
    rw [wrap_succ n (by omega)]
    refine ev_eq (ih (n + 1) _ (by omega) (by simp [ho])) ?_
    rw [drop_cons l z78 n (by omega), show rd_T78 l (n : Int) = l.getD n z78 from rfl]
    simp
theorem insert_loop (l : List S78) (c : S78) (hl : l.length ≤ 1000) (d : Nat) : ∀ (n : Nat) (out : List S78), n + d = l.length → out.length = n → Ev (fun k => spec_l02Insert.l0 k l out false n c.f0 c.f1) (out ++ insC c (l.drop n)) := by
  induction d with
  | zero =>
    intro n out hd ho
    refine Ev.step (f := fun _ => _) (fun k => by simp only [spec_l02Insert.l0]; rfl) (ev_neg (by omega) (ev_neg (by decide) (ev_pos (show out.length < 8796093022208 by omega) (ev_const ?_))))
    rw [List.drop_of_length_le (by omega)]; rfl
  | succ d ih =>
    intro n out hd ho
    rw [drop_cons l z78 n (by omega), insC]
    refine Ev.step (f := fun _ => _) (fun k => by simp only [spec_l02Insert.l0]; rfl) (ev_pos (by omega) (ev_neg (by decide) (ev_pos (by omega) (ev_some (less_val _ _ _ _) ?_))))
    rw [show rd_T78 l (n : Int) = l.getD n z78 from rfl, less_ltC]
    by_cases h : ltC c (l.getD n z78) = true
    · rw [if_pos h]
      refine ev_pos h (ev_pos (show out.length < 8796093022208 by omega) (ev_some rfl (ev_pos (by simp; omega) ?_)))
      rw [wrap_succ n (by omega)]
      refine ev_eq (insert_done l c hl d (n + 1) _ (by omega) (by simp [ho])) ?_
      simp
    · rw [if_neg h]
      refine ev_neg h (ev_pos (show out.length < 8796093022208 by omega) ?_)
      rw [wrap_succ n (by omega)]
      refine ev_eq (ih (n + 1) _ (by omega) (by simp [ho])) ?_
      simp
theorem insert_val (l : List S78) (c : S78) (hl : l.length ≤ 1000) : Ev (fun k => spec_l02Insert.f k l c.f0 c.f1) (insC c l) := insert_loop l c hl l.length 0 [] (by omega) rfl
theorem insC_len (c : S78) (l : List S78) : (insC c l).length = l.length + 1 := (insC_perm c l).length_eq
theorem ssort_loop (l : List S78) (hl : l.length ≤ 500) (d : Nat) : ∀ (n : Nat) (out : List S78), n + d = l.length → out.length = n → Ev (fun k => spec_l02Sort.l0 k l out n) (insAll out (l.drop n)) := by
  induction d with
  | zero =>
    intro n out hd ho
    refine Ev.step (f := fun _ => _) (fun k => by simp only [spec_l02Sort.l0]; rfl) (ev_neg (by omega) (ev_const ?_))
    rw [List.drop_of_length_le (by omega)]; rfl
  | succ d ih =>
    intro n out hd ho
    rw [drop_cons l z78 n (by omega), insAll]
    refine Ev.step (f := fun _ => _) (fun k => by simp only [spec_l02Sort.l0]; rfl) (ev_pos (by omega) (ev_pos (by omega) (Ev.bind (insert_val out _ (by omega)) ?_)))
    rw [wrap_succ n (by omega)]
    exact ih (n + 1) _ (by omega) (by rw [insC_len, ho])
theorem ssort_val (l : List S78) (hl : l.length ≤ 500) : Ev (fun k => spec_l02Sort.f k l) (sortC l) := by
  rw [← insAll_eq]
  exact ssort_loop l hl l.length 0 [] (by omega) rfl
def formL (t : Int) (l : List S78) : List S78 := normL (sortC (l.map (turnC t)))
theorem iform_loop (l : List S78) (t : Int) (h : isT t) (h1 : 1 ≤ l.length) (hl : l.length ≤ 500) (d : Nat) : ∀ (n : Nat) (out : List S78), n + d = l.length → out.length = n → Ev (fun k => impl_form.l0 k t out l (l.length : Int) n) (normL (sortC (out ++ (l.drop n).map (turnC t)))) := by
  induction d with
  | zero =>
    intro n out hd ho
    rw [List.drop_of_length_le (by omega), List.map_nil, List.append_nil]
    refine Ev.step (f := fun _ => _) (fun k => by simp only [impl_form.l0]; rfl) (ev_neg (by omega) (ev_some (a := sortC out) ?_ (Ev.bind (inormal_val (sortC out) (by rw [sortC_len]; omega) (by rw [sortC_len]; omega)) (ev_const rfl))))
    unfold impl_sorted.f
    rw [if_pos ⟨by omega, by omega⟩]
  | succ d ih =>
    intro n out hd ho
    refine Ev.step (f := fun _ => _) (fun k => by simp only [impl_form.l0]; rfl) (ev_pos (by omega) (ev_pos (by omega) (ev_pos (by omega) (Ev.bind (iturn_val t h _) (ev_pos (show out.length < 8796093022208 by omega) ?_)))))
    rw [wrap_succ n (by omega)]
    refine ev_eq (ih (n + 1) _ (by omega) (by simp [ho])) ?_
    rw [drop_cons l z78 n (by omega), show rd_T78 l (n : Int) = l.getD n z78 from rfl]
    simp
theorem iform_val (l : List S78) (t : Int) (h : isT t) (h1 : 1 ≤ l.length) (hl : l.length ≤ 500) : Ev (fun k => impl_form.f k l t) (formL t l) :=
  ev_pos (by omega) (ev_pos (by omega) (ev_eq (iform_loop l t h h1 hl l.length 0 [] (by omega) rfl) (by simp [formL])))
def codeS (l : List S78) : Int := if isShapeB l = true then (if isShapeB (normL l) = true then 0 else 3) else 1
theorem scodeS_val (l : List S78) (hm : l.length ≤ maxLen) : Ev (fun k => spec_l03Code.f k l) (codeS l) := by
  unfold codeS
  refine Ev.bind (spec_shape_val l hm) (ev_iteR (fun h => ?_) (fun _ => ev_const rfl))
  have hs := (shp_iff l).1 h
  exact Ev.bind (snormal_val l (by have := hs.le; omega) hs.pos) (Ev.bind (spec_shape_val (normL l) (by rw [normL_len]; exact hm)) (ev_iteR (fun _ => ev_const rfl) (fun _ => ev_const rfl)))
theorem icodeS_val (l : List S78) (hm : l.length ≤ maxLen) : Ev (fun k => impl_shapeCode.f k l) (codeS l) := by
  unfold codeS
  refine Ev.bind (impl_shape_val l hm) (ev_iteR (fun h => ?_) (fun _ => ev_const rfl))
  have hs := (shp_iff l).1 h
  exact Ev.bind (inormal_val l (by have := hs.le; omega) hs.pos) (Ev.bind (impl_shape_val (normL l) (by rw [normL_len]; exact hm)) (ev_iteR (fun _ => ev_const rfl) (fun _ => ev_const rfl)))
theorem isTurn_val (t : Int) : impl_isTurn.f t = some (decide (isT t)) := by
  unfold impl_isTurn.f
  rw [within_valC]
  simp only [Option.bind_some]
  congr 1
  rw [Bool.eq_iff_iff, decide_eq_true_iff (p := isT t), Bool.and_eq_true, decide_eq_true_iff, decide_eq_true_iff]
  exact Iff.rfl
def turnR (l : List S78) (t : Int) : List S78 × Int := if isShapeB l = true then (if isT t then (if codeS l = 0 then (formL t l, 0) else ([], codeS l)) else ([], 2)) else ([], 1)
theorem iturnS_val (l : List S78) (hm : l.length ≤ maxLen) (t : Int) : Ev (fun k => impl_TurnShape.f k l t) (turnR l t) := by
  unfold turnR
  refine Ev.bind (impl_shape_val l hm) (ev_iteR (fun h => ?_) (fun _ => ev_const rfl))
  have hs := (shp_iff l).1 h
  refine ev_some (isTurn_val t) ?_
  by_cases ht : isT t
  · rw [if_pos ht]
    refine ev_pos (decide_eq_true ht) (Ev.bind (icodeS_val l hm) (ev_iteR (fun _ => ?_) (fun _ => ev_const rfl)))
    exact Ev.bind (iform_val l t ht hs.pos (by have := hs.le; omega)) (ev_const rfl)
  · rw [if_neg ht]
    exact ev_neg (by simpa using ht) (ev_const rfl)
/-! Turning, without overflow: eight matrices; they compose; sorting and norming do not mind. -/
def nearC (b : Int) (l : List S78) : Prop := ∀ c ∈ l, (-b ≤ c.f0 ∧ c.f0 ≤ b) ∧ (-b ≤ c.f1 ∧ c.f1 ≤ b)
def tI (t : Int) (c : S78) : S78 := if t = 0 then c else if t = 1 then ⟨-c.f1, c.f0⟩ else if t = 2 then ⟨-c.f0, -c.f1⟩ else if t = 3 then ⟨c.f1, -c.f0⟩ else if t = 4 then ⟨-c.f0, c.f1⟩ else if t = 5 then ⟨-c.f1, -c.f0⟩ else if t = 6 then ⟨c.f0, -c.f1⟩ else ⟨c.f1, c.f0⟩
theorem isT_cases {t : Int} (h : isT t) : t = 0 ∨ t = 1 ∨ t = 2 ∨ t = 3 ∨ t = 4 ∨ t = 5 ∨ t = 6 ∨ t = 7 := by
  obtain ⟨h0, h7⟩ := h
  omega
theorem neg_wrap (x : Int) (h : -1000000 ≤ x ∧ x ≤ 1000000) : wrap64 (-x) = -x := wrap_id _ (by omega) (by omega)
theorem turnC_tI (t : Int) (h : isT t) (c : S78) (h0 : -1000000 ≤ c.f0 ∧ c.f0 ≤ 1000000) (h1 : -1000000 ≤ c.f1 ∧ c.f1 ≤ 1000000) : turnC t c = tI t c := by
  obtain ⟨x, y⟩ := c
  simp only at h0 h1
  have e0 := neg_wrap x h0
  have e1 := neg_wrap y h1
  have e2 := neg_wrap (-x) (by omega)
  have e3 := neg_wrap (-y) (by omega)
  rw [Int.neg_neg] at e2 e3
  rcases isT_cases h with rfl | rfl | rfl | rfl | rfl | rfl | rfl | rfl
  · rfl
  · show (⟨wrap64 (-y), x⟩ : S78) = ⟨-y, x⟩; rw [e1]
  · show (⟨wrap64 (-x), wrap64 (-y)⟩ : S78) = ⟨-x, -y⟩; rw [e0, e1]
  · show (⟨wrap64 (-wrap64 (-y)), wrap64 (-x)⟩ : S78) = ⟨y, -x⟩; rw [e0, e1, Int.neg_neg, wrap_id y (by omega) (by omega)]
  · show (⟨wrap64 (-x), y⟩ : S78) = ⟨-x, y⟩; rw [e0]
  · show (⟨wrap64 (-y), wrap64 (-x)⟩ : S78) = ⟨-y, -x⟩; rw [e0, e1]
  · show (⟨wrap64 (-wrap64 (-x)), wrap64 (-y)⟩ : S78) = ⟨x, -y⟩; rw [e0, e1, Int.neg_neg, wrap_id x (by omega) (by omega)]
  · show (⟨wrap64 (-wrap64 (-y)), wrap64 (-wrap64 (-x))⟩ : S78) = ⟨y, x⟩; rw [e0, e1, Int.neg_neg, Int.neg_neg, wrap_id x (by omega) (by omega), wrap_id y (by omega) (by omega)]
theorem tI_inj (t : Int) (h : isT t) (c d : S78) (e : tI t c = tI t d) : c = d := by
  obtain ⟨x, y⟩ := c
  obtain ⟨v, w⟩ := d
  rcases isT_cases h with rfl | rfl | rfl | rfl | rfl | rfl | rfl | rfl <;> simp [tI] at e ⊢ <;> omega
theorem tI_near (t : Int) (h : isT t) (b : Int) (l : List S78) (hl : nearC b l) : nearC b (l.map (tI t)) := by
  intro d hd
  obtain ⟨c, hc, rfl⟩ := List.mem_map.1 hd
  have := hl c hc
  rcases isT_cases h with rfl | rfl | rfl | rfl | rfl | rfl | rfl | rfl <;> simp [tI] <;> omega
def subC (u c : S78) : S78 := ⟨c.f0 - u.f0, c.f1 - u.f1⟩
def cornC (l : List S78) : S78 := ⟨minX l, minY l⟩
theorem near_corn (b : Int) (l : List S78) (h1 : 1 ≤ l.length) (h : nearC b l) : (-b ≤ minX l ∧ minX l ≤ b) ∧ (-b ≤ minY l ∧ minY l ≤ b) := by
  have h0 := h _ (cell_mem l 0 h1)
  exact ⟨minF_in _ _ _ l _ h0.1 (fun c hc => (h c hc).1), minF_in _ _ _ l _ h0.2 (fun c hc => (h c hc).2)⟩
theorem normL_sub (l : List S78) (h1 : 1 ≤ l.length) (h : nearC 1000000 l) : normL l = l.map (subC (cornC l)) := by
  have hl := near_corn _ l h1 h
  unfold normL movL
  refine List.map_congr_left (fun c hc => ?_)
  have hn := h c hc
  rw [wrap_id (-minX l) (by omega) (by omega), wrap_id (-minY l) (by omega) (by omega), wrap_id _ (by omega) (by omega), wrap_id _ (by omega) (by omega)]
  unfold subC cornC
  congr 1 <;> (simp only; omega)
theorem minF_sub (f g : S78 → Int) (m : Int) (u : S78) (hf : ∀ c, f (subC u c) = f c - m) : ∀ (l : List S78) (x : Int), minF f (l.map (subC u)) (x - m) = minF f l x - m
  | [], x => rfl
  | c :: r, x => by
    rw [List.map_cons, minF, minF, hf, ← minF_sub f g m u hf r]
    congr 1
    unfold mn
    split <;> split <;> omega
theorem corn_sub (u : S78) (l : List S78) (h1 : 1 ≤ l.length) : cornC (l.map (subC u)) = subC u (cornC l) := by
  have e : cellAt (l.map (subC u)) 0 = subC u (cellAt l 0) := by
    cases l with
    | nil => simp at h1
    | cons c r => rfl
  unfold cornC minX minY
  rw [e]
  show _ = (⟨minF (·.f0) l (cellAt l 0).f0 - u.f0, minF (·.f1) l (cellAt l 0).f1 - u.f1⟩ : S78)
  rw [← minF_sub (·.f0) (·.f0) u.f0 u (fun _ => rfl), ← minF_sub (·.f1) (·.f1) u.f1 u (fun _ => rfl)]
  rfl
theorem sub_sub (u c d : S78) : subC (subC u c) (subC u d) = subC c d := by
  unfold subC
  congr 1 <;> (simp only; omega)
theorem norm_moved (u : S78) (l : List S78) (h1 : 1 ≤ l.length) : (l.map (subC u)).map (subC (cornC (l.map (subC u)))) = l.map (subC (cornC l)) := by
  rw [corn_sub u l h1, List.map_map]
  exact List.map_congr_left (fun c _ => sub_sub u (cornC l) c)
theorem near_perm {b : Int} {l l' : List S78} (h : l.Perm l') (hl : nearC b l') : nearC b l := fun c hc => hl c (h.mem_iff.1 hc)
theorem map_turn (t : Int) (h : isT t) (l : List S78) (hl : nearC 1000000 l) : l.map (turnC t) = l.map (tI t) := List.map_congr_left (fun c hc => turnC_tI t h c (hl c hc).1 (hl c hc).2)
theorem formL_eq (t : Int) (h : isT t) (l : List S78) (h1 : 1 ≤ l.length) (hl : nearC 1000000 l) : formL t l = (sortC (l.map (tI t))).map (subC (cornC (sortC (l.map (tI t))))) := by
  unfold formL
  rw [map_turn t h l hl]
  exact normL_sub _ (by rw [sortC_len]; simpa using h1) (near_perm (sortC_perm _) (tI_near t h _ l hl))
/-! Forms are shapes in normal form. -/
theorem Shp.nodup {l : List S78} (h : Shp l) : l.Nodup := by
  rw [List.nodup_iff_pairwise_ne, List.pairwise_iff_getElem]
  intro i j hi hj hij e
  have := (less_iff _ _).1 (h.rise i j hij hj)
  have e1 : cellAt l i = l[i] := by show l.getD i _ = _; rw [List.getD_eq_getElem?_getD, List.getElem?_eq_getElem hi, Option.getD_some]
  have e2 : cellAt l j = l[j] := by show l.getD j _ = _; rw [List.getD_eq_getElem?_getD, List.getElem?_eq_getElem hj, Option.getD_some]
  rw [e1, e2, e] at this
  omega
theorem shp_of {l : List S78} (h1 : 1 ≤ l.length) (h40 : l.length ≤ 40) (hn : nearC 100 l) (hs : l.Pairwise leC) (hd : l.Nodup) : Shp l := by
  refine ⟨h1, h40, hn, fun i j hij hj => ?_⟩
  have hi : i < l.length := by omega
  have e1 : cellAt l i = l[i] := by show l.getD i _ = _; rw [List.getD_eq_getElem?_getD, List.getElem?_eq_getElem hi, Option.getD_some]
  have e2 : cellAt l j = l[j] := by show l.getD j _ = _; rw [List.getD_eq_getElem?_getD, List.getElem?_eq_getElem hj, Option.getD_some]
  rw [e1, e2, less_iff]
  have h3 := (leC_iff _ _).1 (List.pairwise_iff_getElem.1 hs i j hi hj hij)
  have h4 : l[i] ≠ l[j] := by
    rw [List.nodup_iff_pairwise_ne] at hd
    exact List.pairwise_iff_getElem.1 hd i j hi hj hij
  have h5 : ¬ ((l[i]).f0 = (l[j]).f0 ∧ (l[i]).f1 = (l[j]).f1) := fun e => h4 (by
    generalize l[i] = a at e
    generalize l[j] = b at e
    obtain ⟨a, b⟩ := a
    simp only at e
    rw [e.1, e.2])
  omega
def wide100 (l : List S78) : Prop := ∀ c ∈ l, ∀ d ∈ l, c.f0 - d.f0 ≤ 100 ∧ c.f1 - d.f1 ≤ 100
theorem minF_mem (f : S78 → Int) : ∀ (l : List S78) (x : Int), minF f l x = x ∨ ∃ c ∈ l, minF f l x = f c
  | [], x => .inl rfl
  | c :: r, x => by
    rw [minF]
    rcases minF_mem f r (mn x (f c)) with h | ⟨d, hd, h⟩
    · rw [h]
      unfold mn
      split
      · exact .inr ⟨c, by simp, rfl⟩
      · exact .inl rfl
    · exact .inr ⟨d, by simp [hd], h⟩
theorem corn_mem (l : List S78) (h1 : 1 ≤ l.length) : (∃ c ∈ l, minX l = c.f0) ∧ ∃ c ∈ l, minY l = c.f1 := by
  have h0 := cell_mem l 0 h1
  constructor
  · rcases minF_mem (·.f0) l (cellAt l 0).f0 with h | h
    · exact ⟨_, h0, h⟩
    · exact h
  · rcases minF_mem (·.f1) l (cellAt l 0).f1 with h | h
    · exact ⟨_, h0, h⟩
    · exact h
theorem code_wide (l : List S78) (h : codeS l = 0) : Shp l ∧ wide100 l := by
  unfold codeS at h
  by_cases h1 : isShapeB l = true
  · rw [if_pos h1] at h
    by_cases h2 : isShapeB (normL l) = true
    · have hs := (shp_iff l).1 h1
      have hn := (shp_iff _).1 h2
      refine ⟨hs, fun c hc d hd => ?_⟩
      have hm : subC (cornC l) c ∈ normL l := by
        rw [normL_sub l hs.pos (fun c hc => by have := hs.near c hc; omega)]
        exact List.mem_map.2 ⟨c, hc, rfl⟩
      have h3 := hn.near _ hm
      have h4 := (minF_le (·.f0) l (cellAt l 0).f0).2 d hd
      have h5 := (minF_le (·.f1) l (cellAt l 0).f1).2 d hd
      simp only [subC, cornC, minX, minY] at h3
      omega
    · rw [if_neg h2] at h; omega
  · rw [if_neg h1] at h; omega
theorem form_shape (t : Int) (ht : isT t) (l : List S78) (hs : Shp l) (hw : wide100 l) : Shp (formL t l) ∧ normL (formL t l) = formL t l := by
  have hl : nearC 1000000 l := fun c hc => by have := hs.near c hc; omega
  have hM : nearC 1000000 (sortC (l.map (tI t))) := near_perm (sortC_perm _) (tI_near t ht _ l hl)
  rw [formL_eq t ht l hs.pos hl]
  have hlen : (sortC (l.map (tI t))).length = l.length := by rw [sortC_len, List.length_map]
  have hnd : (sortC (l.map (tI t))).Nodup := (sortC_perm _).nodup_iff.2 (by
    rw [List.nodup_iff_pairwise_ne, List.pairwise_map]
    have := hs.nodup
    rw [List.nodup_iff_pairwise_ne] at this
    exact this.imp (fun {a b} hab e => hab (tI_inj t ht a b e)))
  have hsrt := sortC_sorted (l.map (tI t))
  have hwd : wide100 (sortC (l.map (tI t))) := by
    intro c hc d hd
    obtain ⟨c', hc', rfl⟩ := List.mem_map.1 ((sortC_perm _).mem_iff.1 hc)
    obtain ⟨d', hd', rfl⟩ := List.mem_map.1 ((sortC_perm _).mem_iff.1 hd)
    have h1 := hw c' hc' d' hd'
    have h2 := hw d' hd' c' hc'
    rcases isT_cases ht with rfl | rfl | rfl | rfl | rfl | rfl | rfl | rfl <;> simp [tI] <;> omega
  generalize sortC (l.map (tI t)) = M at hM hlen hnd hsrt hwd
  have hM1 : 1 ≤ M.length := by rw [hlen]; exact hs.pos
  obtain ⟨⟨a, ha, ea⟩, b, hb, eb⟩ := corn_mem M hM1
  have hmin : ∀ c ∈ M, minX M ≤ c.f0 ∧ minY M ≤ c.f1 := fun c hc => ⟨(minF_le (·.f0) M (cellAt M 0).f0).2 c hc, (minF_le (·.f1) M (cellAt M 0).f1).2 c hc⟩
  have hnear : nearC 100 (M.map (subC (cornC M))) := by
    intro d hd
    obtain ⟨c, hc, rfl⟩ := List.mem_map.1 hd
    have h1 := hmin c hc
    have h2 := (hwd c hc a ha).1
    have h3 := (hwd c hc b hb).2
    simp only [subC, cornC]
    omega
  constructor
  · refine shp_of (by simpa using hM1) (by simp [hlen]; exact hs.le) hnear ?_ ?_
    · rw [List.pairwise_map]
      refine hsrt.imp (fun {a b} h => ?_)
      have := (leC_iff a b).1 h
      exact (leC_iff _ _).2 (by simp only [subC]; omega)
    · rw [List.nodup_iff_pairwise_ne, List.pairwise_map]
      rw [List.nodup_iff_pairwise_ne] at hnd
      refine hnd.imp (fun {a b} hab e => hab ?_)
      obtain ⟨x, y⟩ := a
      obtain ⟨v, w⟩ := b
      simp only [subC, S78.mk.injEq] at e ⊢
      omega
  · rw [normL_sub _ (by simpa using hM1) (fun c hc => by have := hnear c hc; omega), norm_moved _ _ hM1]
/-! The drawing of numbers: whatever the code, a number below the bound comes, and the source stays sound. -/
structure St (code : List Int) (p seed : Int) : Prop where
  byte : ∀ x ∈ code, 0 ≤ x ∧ x ≤ 255
  len : code.length ≤ 4096
  at0 : 0 ≤ p
  at1 : p ≤ (code.length : Int)
  s0 : 0 ≤ seed
  s1 : seed < 2147483647
theorem tmod_in (x n : Int) (hx : 0 ≤ x) (hn : 0 < n) : 0 ≤ Int.tmod x n ∧ Int.tmod x n < n := by
  rw [Int.tmod_eq_emod_of_nonneg hx]
  exact ⟨Int.emod_nonneg _ (by omega), Int.emod_lt_of_pos _ hn⟩
theorem rd_byte (code : List Int) (h : ∀ x ∈ code, 0 ≤ x ∧ x ≤ 255) (i : Int) : 0 ≤ rd code i ∧ rd code i ≤ 255 := by
  unfold rd
  rw [List.getD_eq_getElem?_getD]
  cases hx : code[i.toNat]? with
  | none => simp
  | some v => exact h v (List.mem_of_getElem? hx)
theorem seed_step (seed : Int) (h0 : 0 ≤ seed) (h1 : seed < 2147483647) : 0 ≤ Int.tmod (wrap64 (wrap64 (seed * 48271) + 29)) 2147483647 ∧ Int.tmod (wrap64 (wrap64 (seed * 48271) + 29)) 2147483647 < 2147483647 := by
  rw [wrap_id (seed * 48271) (by omega) (by omega), wrap_id _ (by omega) (by omega)]
  exact tmod_in _ _ (by omega) (by omega)
theorem next_some (code : List Int) (p seed n : Int) (h : St code p seed) : ∃ x a s, spec_l01Next.f code p seed n = some (x, a, s) ∧ St code a s ∧ 0 ≤ x ∧ (1 < n → x < n) ∧ (n ≤ 1 → x = 0) := by
  unfold spec_l01Next.f
  by_cases c1 : n ≤ 1
  · exact ⟨0, p, seed, if_pos c1, h, Int.le_refl _, fun h => by omega, fun _ => rfl⟩
  · rw [if_neg c1]
    have hs := seed_step seed h.s0 h.s1
    generalize Int.tmod (wrap64 (wrap64 (seed * 48271) + 29)) 2147483647 = z at hs
    have hlen := h.len
    have ha0 := h.at0
    have ha1 := h.at1
    have hn0 : ¬ n = 0 := by omega
    by_cases c2 : p < (code.length : Int)
    · rw [if_pos c2, if_pos ha0]
      have e1 : wrap64 (p + 1) = p + 1 := wrap_id _ (by omega) (by omega)
      have e2 : wrap64 (p + 1 - 1) = p := by rw [wrap_id _ (by omega) (by omega)]; omega
      have hst : St code (p + 1) z := ⟨h.byte, hlen, by omega, by omega, hs.1, hs.2⟩
      have hb := rd_byte code h.byte p
      rw [e1, e2]
      have big : ∀ y : Int, 0 ≤ y ∧ y ≤ 255 → ∃ x a s, (if n = 0 then (none : Option (Int × Int × Int)) else some (Int.tmod (wrap64 (wrap64 (Int.tdiv z 31) + wrap64 y)) n, p + 1, z)) = some (x, a, s) ∧ St code a s ∧ 0 ≤ x ∧ (1 < n → x < n) ∧ (n ≤ 1 → x = 0) := by
        intro y hy
        rw [if_neg hn0]
        have hz : Int.tdiv z 31 = z / 31 := Int.tdiv_eq_ediv_of_nonneg hs.1
        rw [hz, wrap_id (z / 31) (by omega) (by omega), wrap_id y (by omega) (by omega), wrap_id _ (by omega) (by omega)]
        have := tmod_in (z / 31 + y) n (by omega) (by omega)
        exact ⟨_, _, _, rfl, hst, this.1, fun _ => this.2, fun h => by omega⟩
      by_cases c3 : n ≤ 256
      · rw [if_pos c3]
        by_cases c4 : Int.tmod (p + 1) 2 = 0
        · rw [if_pos c4, if_pos ha0, if_pos c2, if_neg hn0, wrap_id (rd code p) (by omega) (by omega)]
          have := tmod_in (rd code p) n hb.1 (by omega)
          exact ⟨_, _, _, rfl, hst, this.1, fun _ => this.2, fun h => by omega⟩
        · rw [if_neg c4]
          exact big _ hb
      · rw [if_neg c3]
        exact big _ hb
    · rw [if_neg c2, if_neg hn0]
      have hz : Int.tdiv z 31 = z / 31 := Int.tdiv_eq_ediv_of_nonneg hs.1
      rw [hz, wrap_id _ (by omega) (by omega)]
      have := tmod_in (z / 31) n (by omega) (by omega)
      exact ⟨_, _, _, rfl, ⟨h.byte, hlen, ha0, ha1, hs.1, hs.2⟩, this.1, fun _ => this.2, fun h => by omega⟩
theorem from_loop (code : List Int) (hb : ∀ x ∈ code, 0 ≤ x ∧ x ≤ 255) (hl : code.length ≤ 4096) (d : Nat) : ∀ (i : Nat) (seed : Int), i + d = 64 → 0 ≤ seed → seed < 2147483647 →
    ∃ s, Ev (fun k => spec_l01From.l0 k code i code 0 seed) (code, 0, s) ∧ 0 ≤ s ∧ s < 2147483647 := by
  induction d with
  | zero =>
    intro i seed hi h0 h1
    refine ⟨seed, Ev.step (f := fun _ => _) (fun k => by simp only [spec_l01From.l0]; rfl) ?_, h0, h1⟩
    by_cases c : (i : Int) < (code.length : Int)
    · exact ev_pos c (ev_neg (by omega) (ev_const rfl))
    · exact ev_neg c (ev_const rfl)
  | succ d ih =>
    intro i seed hi h0 h1
    by_cases c : (i : Int) < (code.length : Int)
    · have hr := rd_byte code hb i
      have hw : 0 ≤ Int.tmod (wrap64 (wrap64 (seed * 47) + wrap64 (rd code i))) 2147483647 ∧ Int.tmod (wrap64 (wrap64 (seed * 47) + wrap64 (rd code i))) 2147483647 < 2147483647 := by
        rw [wrap_id (seed * 47) (by omega) (by omega), wrap_id (rd code i) (by omega) (by omega), wrap_id _ (by omega) (by omega)]
        exact tmod_in _ _ (by omega) (by omega)
      obtain ⟨s, g1, g2, g3⟩ := ih (i + 1) _ (by omega) hw.1 hw.2
      refine ⟨s, Ev.step (f := fun _ => _) (fun k => by simp only [spec_l01From.l0]; rfl) (ev_pos c (ev_pos (by omega) (ev_pos (by omega) ?_))), g2, g3⟩
      rw [wrap_succ i (by omega)]
      exact g1
    · exact ⟨seed, Ev.step (f := fun _ => _) (fun k => by simp only [spec_l01From.l0]; rfl) (ev_neg c (ev_const rfl)), h0, h1⟩
theorem from_some (code : List Int) (hb : ∀ x ∈ code, 0 ≤ x ∧ x ≤ 255) (hl : code.length ≤ 4096) : ∃ s, Ev (fun k => spec_l01From.f k code) (code, 0, s) ∧ St code 0 s := by
  obtain ⟨s, h1, h2, h3⟩ := from_loop code hb hl 64 0 61003 (by omega) (by omega) (by omega)
  exact ⟨s, h1, ⟨hb, hl, Int.le_refl _, by omega, h2, h3⟩⟩
/-! The drawn shapes: whatever the code, some list of at most 50 cells comes out. -/
theorem index_any (l : List S78) (hl : l.length ≤ 1000) (c : S78) (d : Nat) : ∀ n : Nat, n + d = l.length → ∃ v : Int, Ev (fun k => spec_l02Index.l0 k l n c.f0 c.f1) v ∧ (v < 0 → ∀ i, n ≤ i → i < l.length → l.getD i z78 ≠ c) ∧ -1 ≤ v ∧ v < (l.length : Int) := by
  induction d with
  | zero =>
    intro n hd
    exact ⟨-1, Ev.step (f := fun _ => _) (fun k => by simp only [spec_l02Index.l0]; rfl) (ev_neg (by omega) (ev_const rfl)), fun _ i h1 h2 => by omega, by omega, by omega⟩
  | succ d ih =>
    intro n hd
    obtain ⟨v, hv, h1, h2, h3⟩ := ih (n + 1) (by omega)
    by_cases e : l.getD n z78 = c
    · refine ⟨(n : Int), Ev.step (f := fun _ => _) (fun k => by simp only [spec_l02Index.l0]; rfl) (ev_pos (by omega) (ev_pos (by omega) (ev_pos ?_ (ev_const rfl)))), fun h => by omega, by omega, by omega⟩
      rw [show rd_T78 l (n : Int) = l.getD n z78 from rfl, e]; simp
    · refine ⟨v, Ev.step (f := fun _ => _) (fun k => by simp only [spec_l02Index.l0]; rfl) (ev_pos (by omega) (ev_pos (by omega) (ev_neg ?_ ?_))), fun h i hi hil => ?_, h2, h3⟩
      · rw [show rd_T78 l (n : Int) = l.getD n z78 from rfl]
        intro h
        simp only [Bool.and_eq_true, beq_iff_eq] at h
        apply e
        generalize l.getD n z78 = a at h
        obtain ⟨x, y⟩ := a
        obtain ⟨z, w⟩ := c
        simp only at h
        rw [h.1, h.2]
      · rw [wrap_succ n (by omega)]; exact hv
      · by_cases e2 : i = n
        · subst e2; exact e
        · exact h1 h i (by omega) hil
theorem index_any' (l : List S78) (hl : l.length ≤ 1000) (c : S78) : ∃ v : Int, Ev (fun k => spec_l02Index.f k l c.f0 c.f1) v ∧ (c ∉ l → v < 0) := by
  obtain ⟨v, h1, h2, h3, h4⟩ := index_any l hl c l.length 0 (by omega)
  by_cases h : c ∈ l
  · exact ⟨v, h1, fun q => absurd h q⟩
  · by_cases hv : v < 0
    · exact ⟨v, h1, fun _ => hv⟩
    · exfalso
      -- the loop answers an index only where the cell stands
      have key : ∀ d n : Nat, n + d = l.length → ∃ u : Int, u < 0 ∧ Ev (fun k => spec_l02Index.l0 k l n c.f0 c.f1) u := by
        intro d
        induction d with
        | zero =>
          intro n hd
          exact ⟨-1, by omega, Ev.step (f := fun _ => _) (fun k => by simp only [spec_l02Index.l0]; rfl) (ev_neg (by omega) (ev_const rfl))⟩
        | succ d ih =>
          intro n hd
          obtain ⟨u, hu, he⟩ := ih (n + 1) (by omega)
          refine ⟨u, hu, Ev.step (f := fun _ => _) (fun k => by simp only [spec_l02Index.l0]; rfl) (ev_pos (by omega) (ev_pos (by omega) (ev_neg ?_ ?_)))⟩
          · rw [show rd_T78 l (n : Int) = l.getD n z78 from rfl]
            intro hq
            simp only [Bool.and_eq_true, beq_iff_eq] at hq
            have hm := getD_mem l z78 n (by omega)
            apply h
            have : l.getD n z78 = c := by
              generalize l.getD n z78 = a at hq
              obtain ⟨x, y⟩ := a
              obtain ⟨z, w⟩ := c
              simp only at hq
              rw [hq.1, hq.2]
            rw [← this]; exact hm
          · rw [wrap_succ n (by omega)]; exact he
      obtain ⟨u, hu, he⟩ := key l.length 0 (by omega)
      have := ev_uniq h1 he
      omega
theorem insC_ne (c : S78) (l : List S78) : insC c l ≠ [] := fun h => by
  have := insC_len c l
  rw [h] at this
  simp at this
theorem insC_near (b : Int) (c : S78) (l : List S78) (hc : (-b ≤ c.f0 ∧ c.f0 ≤ b) ∧ (-b ≤ c.f1 ∧ c.f1 ≤ b)) (hl : nearC b l) : nearC b (insC c l) := by
  intro d hd
  rcases List.mem_cons.1 ((insC_perm c l).mem_iff.1 hd) with rfl | hd
  · exact hc
  · exact hl d hd
theorem neigh1 (b : Int) (x0 : List S78) (h0 : x0.length ≤ 100) (i : Nat) (ar : List S78) (ha : ar.length = 4) (hn : nearC b ar) (P : List S78 → Prop) (d : Nat) : ∀ (j : Nat) (out : List S78), j + d = 4 → nearC b out → out.length + d ≤ 900 →
    (∀ out' : List S78, nearC b out' → out'.length ≤ out.length + d → (out ≠ [] ∨ (∃ q, j ≤ q ∧ q < 4 ∧ ar.getD q z78 ∉ x0) → out' ≠ []) → ∃ r, Ev (fun k => spec_l02Neighbours.l0 k x0 out' (wrap64 ((i : Int) + 1))) r ∧ P r) → ∃ r, Ev (fun k => spec_l02Neighbours.l1 k x0 out i ar j) r ∧ P r := by
  induction d with
  | zero =>
    intro j out hd hno hl hk
    obtain ⟨r, h1, h2⟩ := hk out hno (by omega) (fun h => by
      rcases h with h | ⟨q, h3, h4, _⟩
      · exact h
      · omega)
    exact ⟨r, Ev.step (f := fun _ => _) (fun k => by simp only [spec_l02Neighbours.l1]; rfl) (ev_neg (by omega) h1), h2⟩
  | succ d ih =>
    intro j out hd hno hl hk
    have hm := getD_mem ar z78 j (by omega)
    have hnj := hn _ hm
    obtain ⟨v, hv, hv2⟩ := index_any' x0 (by omega) (ar.getD j z78)
    obtain ⟨u, hu, hu2⟩ := index_any' out (by omega) (ar.getD j z78)
    have J : ∀ out' : List S78, nearC b out' → out'.length ≤ out.length + 1 → (out ≠ [] ∨ (ar.getD j z78 ∉ x0) → out' ≠ []) → ∃ r, Ev (fun k => spec_l02Neighbours.l1 k x0 out' i ar ((j + 1 : Nat) : Int)) r ∧ P r := fun out' h1 h2 h3 => by
      refine ih (j + 1) out' (by omega) h1 (by omega) (fun o2 g1 g2 g3 => hk o2 g1 (by omega) (fun h => ?_))
      rcases h with h | ⟨q, h4, h5, h6⟩
      · exact g3 (.inl (h3 (.inl h)))
      · by_cases e : q = j
        · subst e; exact g3 (.inl (h3 (.inr h6)))
        · exact g3 (.inr ⟨q, by omega, h5, h6⟩)
    by_cases c1 : v < 0
    · by_cases c2 : u < 0
      · obtain ⟨r, h1, h2⟩ := J (insC (ar.getD j z78) out) (insC_near b _ _ hnj hno) (by rw [insC_len]; omega) (fun _ => insC_ne _ _)
        refine ⟨r, Ev.step (f := fun _ => _) (fun k => by simp only [spec_l02Neighbours.l1]; rfl) (ev_pos (by omega) (ev_pos (by omega) (ev_pos (by omega) (Ev.bind hv (ev_pos c1 (Ev.bind hu (ev_pos c2 (Ev.bind (insert_val out _ (by omega)) ?_)))))))), h2⟩
        rw [wrap_succ j (by omega)]; exact h1
      · obtain ⟨r, h1, h2⟩ := J out hno (by omega) (fun h => by
          rcases h with h | h
          · exact h
          · intro e
            subst e
            exact c2 (hu2 (by simp)))
        refine ⟨r, Ev.step (f := fun _ => _) (fun k => by simp only [spec_l02Neighbours.l1]; rfl) (ev_pos (by omega) (ev_pos (by omega) (ev_pos (by omega) (Ev.bind hv (ev_pos c1 (Ev.bind hu (ev_neg c2 ?_))))))), h2⟩
        rw [wrap_succ j (by omega)]; exact h1
    · obtain ⟨r, h1, h2⟩ := J out hno (by omega) (fun h => by
        rcases h with h | h
        · exact h
        · exact absurd (hv2 h) c1)
      refine ⟨r, Ev.step (f := fun _ => _) (fun k => by simp only [spec_l02Neighbours.l1]; rfl) (ev_pos (by omega) (ev_pos (by omega) (ev_pos (by omega) (Ev.bind hv (ev_neg c1 ?_))))), h2⟩
      rw [wrap_succ j (by omega)]; exact h1
theorem neigh0 (b : Int) (hb : 0 ≤ b ∧ b ≤ 1000) (x0 : List S78) (h0 : x0.length ≤ 100) (hx : nearC b x0) (d : Nat) : ∀ (n : Nat) (out : List S78), n + d = x0.length → nearC (b + 1) out → out.length + 4 * d ≤ 800 →
    ∃ r, Ev (fun k => spec_l02Neighbours.l0 k x0 out n) r ∧ nearC (b + 1) r ∧ r.length ≤ out.length + 4 * d ∧ (out ≠ [] ∨ (∃ i, n ≤ i ∧ i < x0.length ∧ (⟨(x0.getD i z78).f0, (x0.getD i z78).f1 - 1⟩ : S78) ∉ x0) → r ≠ []) := by
  induction d with
  | zero =>
    intro n out hd hno hl
    exact ⟨out, Ev.step (f := fun _ => _) (fun k => by simp only [spec_l02Neighbours.l0]; rfl) (ev_neg (by omega) (ev_const rfl)), hno, by omega, fun h => by
      rcases h with h | ⟨i, h1, h2, _⟩
      · exact h
      · omega⟩
  | succ d ih =>
    intro n out hd hno hl
    have hc := hx _ (getD_mem x0 z78 n (by omega))
    have hA : spec_l02Around.f (x0.getD n z78).f0 (x0.getD n z78).f1 = some [⟨(x0.getD n z78).f0, (x0.getD n z78).f1 - 1⟩, ⟨(x0.getD n z78).f0 - 1, (x0.getD n z78).f1⟩, ⟨(x0.getD n z78).f0 + 1, (x0.getD n z78).f1⟩, ⟨(x0.getD n z78).f0, (x0.getD n z78).f1 + 1⟩] := by
      unfold spec_l02Around.f
      rw [wrap_id _ (by omega) (by omega), wrap_id _ (by omega) (by omega), wrap_id _ (by omega) (by omega), wrap_id _ (by omega) (by omega)]
    obtain ⟨r, h1, h2⟩ := neigh1 (b + 1) x0 h0 n [⟨(x0.getD n z78).f0, (x0.getD n z78).f1 - 1⟩, ⟨(x0.getD n z78).f0 - 1, (x0.getD n z78).f1⟩, ⟨(x0.getD n z78).f0 + 1, (x0.getD n z78).f1⟩, ⟨(x0.getD n z78).f0, (x0.getD n z78).f1 + 1⟩] rfl (fun e he => by
        simp only [List.mem_cons, List.not_mem_nil, or_false] at he
        rcases he with rfl | rfl | rfl | rfl <;> (simp only; omega))
      (fun r => nearC (b + 1) r ∧ r.length ≤ out.length + 4 * (d + 1) ∧ (out ≠ [] ∨ (∃ i, n ≤ i ∧ i < x0.length ∧ (⟨(x0.getD i z78).f0, (x0.getD i z78).f1 - 1⟩ : S78) ∉ x0) → r ≠ []))
      4 0 out (by omega) hno (by omega) (fun o2 g1 g2 g3 => by
        obtain ⟨r, r1, r2, r3, r4⟩ := ih (n + 1) o2 (by omega) g1 (by omega)
        rw [wrap_succ n (by omega)]
        refine ⟨r, r1, r2, by omega, fun h => ?_⟩
        rcases h with h | ⟨i, h4, h5, h6⟩
        · exact r4 (.inl (g3 (.inl h)))
        · by_cases e : i = n
          · subst e
            exact r4 (.inl (g3 (.inr ⟨0, by omega, by omega, h6⟩)))
          · exact r4 (.inr ⟨i, by omega, h5, h6⟩))
    exact ⟨r, Ev.step (f := fun _ => _) (fun k => by simp only [spec_l02Neighbours.l0]; rfl) (ev_pos (by omega) (ev_pos (by omega) (ev_some hA h1))), h2⟩
theorem neigh_val (b : Int) (hb : 0 ≤ b ∧ b ≤ 1000) (x0 : List S78) (h0 : x0.length ≤ 100) (h1 : 1 ≤ x0.length) (hx : nearC b x0) : ∃ r, Ev (fun k => spec_l02Neighbours.f k x0) r ∧ nearC (b + 1) r ∧ r.length ≤ 4 * x0.length ∧ 1 ≤ r.length := by
  obtain ⟨r, r1, r2, r3, r4⟩ := neigh0 b hb x0 h0 hx x0.length 0 [] (by omega) (fun c hc => by simp at hc) (by simp; omega)
  refine ⟨r, r1, r2, by simpa using r3, ?_⟩
  obtain ⟨c, hc, ec⟩ := (corn_mem x0 h1).2
  obtain ⟨i, hi, e⟩ := List.getElem_of_mem hc
  have e1 : x0.getD i z78 = c := by rw [List.getD_eq_getElem?_getD, List.getElem?_eq_getElem hi, Option.getD_some, e]
  have := r4 (.inr ⟨i, by omega, hi, fun hm => by
    have h2 := (minF_le (·.f1) x0 (cellAt x0 0).f1).2 _ hm
    rw [e1] at h2
    unfold minY at ec
    simp only at h2
    omega⟩)
  cases r with
  | nil => exact absurd rfl this
  | cons c r => simp
theorem poly_loop (code : List Int) (d : Nat) : ∀ (n : Int) (out : List S78) (p seed : Int), n = (d : Int) → d ≤ 20 → out.length + d ≤ 30 → 1 ≤ out.length → nearC (30 - d) out → St code p seed →
    ∃ l p' s', Ev (fun k => spec_l02DrawPoly.l0 k out n code p seed) (l, p', s') ∧ St code p' s' ∧ 1 ≤ l.length ∧ l.length ≤ 30 ∧ nearC 60 l := by
  induction d with
  | zero =>
    intro n out p seed hn hd hl h1 hnr hS
    have hnr' : nearC 30 out := fun c hc => by have := hnr c hc; omega
    refine ⟨normL out, p, seed, Ev.step (f := fun _ => _) (fun k => by simp only [spec_l02DrawPoly.l0]; rfl) (ev_neg (by omega) (Ev.bind (snormal_val out (by omega) h1) (ev_const rfl))), hS, by rw [normL_len]; exact h1, by rw [normL_len]; omega, ?_⟩
    have hcn := near_corn 30 out h1 hnr'
    rw [normL_sub out h1 (fun c hc => by have := hnr' c hc; omega)]
    intro e he
    obtain ⟨c, hc, rfl⟩ := List.mem_map.1 he
    have := hnr' c hc
    simp only [subC, cornC]
    omega
  | succ d ih =>
    intro n out p seed hn hd hl h1 hnr hS
    obtain ⟨ar, a1, a2, a3, a4⟩ := neigh_val (30 - ((d + 1 : Nat) : Int)) (by omega) out (by omega) h1 hnr
    obtain ⟨x, p', s', hx, hS', hx0, hx1, hx2⟩ := next_some code p seed (ar.length : Int) hS
    have hxl : x < (ar.length : Int) := by
      by_cases e : (ar.length : Int) ≤ 1
      · have := hx2 e; omega
      · exact hx1 (by omega)
    obtain ⟨j, rfl⟩ := Int.eq_ofNat_of_zero_le hx0
    have hm := a2 _ (getD_mem ar z78 j (by omega))
    obtain ⟨l, p2, s2, h3, h4⟩ := ih (n - 1) (insC (ar.getD j z78) out) p' s' (by omega) (by omega) (by rw [insC_len]; omega) (by rw [insC_len]; omega) (insC_near _ _ _ (by omega) (fun c hc => by have := hnr c hc; omega)) hS'
    refine ⟨l, p2, s2, Ev.step (f := fun _ => _) (fun k => by simp only [spec_l02DrawPoly.l0]; rfl) (ev_pos (by omega) (Ev.bind a1 (ev_some hx (ev_pos (show (0 : Int) ≤ (j : Int) by omega) (ev_pos hxl (Ev.bind (insert_val out (ar.getD j z78) (by omega)) ?_)))))), h4⟩
    rw [wrap_id (n - 1) (by omega) (by omega)]
    exact h3
theorem poly_val (code : List Int) (p seed : Int) (hS : St code p seed) (m : Int) (hm : 1 ≤ m ∧ m ≤ 20) : ∃ l p' s', Ev (fun k => spec_l02DrawPoly.f k code p seed m) (l, p', s') ∧ St code p' s' ∧ 1 ≤ l.length ∧ l.length ≤ 30 ∧ nearC 60 l := by
  obtain ⟨x, p', s', hx, hS', hx0, hx1, hx2⟩ := next_some code p seed m hS
  have hxl : x < 20 := by
    by_cases e : m ≤ 1
    · have := hx2 e; omega
    · have := hx1 (by omega); omega
  obtain ⟨d, rfl⟩ := Int.eq_ofNat_of_zero_le hx0
  obtain ⟨l, p2, s2, h3, h4⟩ := poly_loop code d d [⟨0, 0⟩] p' s' rfl (by omega) (by simp; omega) (by simp) (fun c hc => by
    simp only [List.mem_singleton] at hc
    subst hc
    simp only; omega) hS'
  exact ⟨l, p2, s2, ev_some hx h3, h4⟩
theorem line_loop (code : List Int) (d : Nat) : ∀ (i : Nat) (out : List S78) (p seed : Int), i + d = 42 → out.length = i → St code p seed →
    ∃ l p' s', Ev (fun k => spec_l02Draw.l0 k out i code p seed) (l, p', s') ∧ St code p' s' ∧ l.length ≤ 42 := by
  induction d with
  | zero =>
    intro i out p seed hi ho hS
    obtain ⟨x, p', s', hx, hS', hx0, hx1, _⟩ := next_some code p seed 2 hS
    have := hx1 (by omega)
    exact ⟨out, p', s', Ev.step (f := fun _ => _) (fun k => by simp only [spec_l02Draw.l0]; rfl) (ev_some hx (ev_neg (show ¬ ((i : Int) < wrap64 (40 + x)) by rw [wrap_id _ (by omega) (by omega)]; omega) (ev_const rfl))), hS', by omega⟩
  | succ d ih =>
    intro i out p seed hi ho hS
    obtain ⟨x, p', s', hx, hS', hx0, hx1, _⟩ := next_some code p seed 2 hS
    have := hx1 (by omega)
    by_cases c : (i : Int) < 40 + x
    · obtain ⟨l, p2, s2, h3, h4⟩ := ih (i + 1) (out ++ [⟨(i : Int), 0⟩]) p' s' (by omega) (by simp [ho]) hS'
      refine ⟨l, p2, s2, Ev.step (f := fun _ => _) (fun k => by simp only [spec_l02Draw.l0]; rfl) (ev_some hx (ev_pos (show (i : Int) < wrap64 (40 + x) by rw [wrap_id _ (by omega) (by omega)]; exact c) (ev_pos (show out.length < 8796093022208 by omega) ?_))), h4⟩
      rw [wrap_succ i (by omega)]
      exact h3
    · exact ⟨out, p', s', Ev.step (f := fun _ => _) (fun k => by simp only [spec_l02Draw.l0]; rfl) (ev_some hx (ev_neg (show ¬ ((i : Int) < wrap64 (40 + x)) by rw [wrap_id _ (by omega) (by omega)]; exact c) (ev_const rfl))), hS', by omega⟩
theorem smove_val (l : List S78) (a b : Int) (hl : l.length ≤ 1000) : Ev (fun k => spec_l02Move.f k l a b) (movL a b l) :=
  ev_eq (smove_loop l a b (by unfold maxLen; omega) (by omega) l.length 0 [] (by omega) rfl) (by simp)
theorem movL_len (a b : Int) (l : List S78) : (movL a b l).length = l.length := by simp [movL]
theorem draw_shape (code : List Int) (p seed : Int) (hS : St code p seed) : ∃ l p' s', Ev (fun k => spec_l02Draw.f k code p seed) (l, p', s') ∧ St code p' s' ∧ l.length ≤ 50 := by
  obtain ⟨l0, p0, s0, e0, S0, n1, n2, _⟩ := poly_val code p seed hS 8 (by omega)
  obtain ⟨x1, p1, s1, e1, S1, a1, b1, _⟩ := next_some code p0 s0 9 S0
  obtain ⟨x2, p2, s2, e2, S2, a2, b2, _⟩ := next_some code p1 s1 9 S1
  have hM := smove_val l0 (wrap64 (x1 - 4)) (wrap64 (x2 - 4)) (by omega)
  have hml := movL_len (wrap64 (x1 - 4)) (wrap64 (x2 - 4)) l0
  generalize movL (wrap64 (x1 - 4)) (wrap64 (x2 - 4)) l0 = m at hM hml
  obtain ⟨x3, p3, s3, e3, S3, a3, b3, c3⟩ := next_some code p2 s2 (m.length : Int) S2
  have hx3 : x3 < (m.length : Int) := by
    by_cases e : (m.length : Int) ≤ 1
    · have := c3 e; omega
    · exact b3 (by omega)
  obtain ⟨x4, p4, s4, e4, S4, a4, b4, _⟩ := next_some code p3 s3 24 S3
  have J : ∀ r : List S78 × Int × Int, Ev (fun k => if x4 = 0 then ((some (([(-100), 100, 101] : List Int) : List Int)).bind fun y215 => ((spec_l01Next.f code p4 s4 3).bind fun bt218 => (if 0 ≤ bt218.1 then (if bt218.1 < (y215.length : Int) then (if 0 ≤ x3 then (if x3 < (m.length : Int) then ((spec_l02Sort.f k (m.set (x3 : Int).toNat (⟨rd y215 bt218.1, (rd_T78 m x3).f1⟩ : S78))).bind fun t223 => (some (t223, bt218.2.1, bt218.2.2))) else (none)) else (none)) else (none)) else (none)))) else (if x4 = 1 then (if 0 ≤ x3 then (if x3 < (m.length : Int) then (if m.length < 8796093022208 then (some ((m ++ [(⟨(rd_T78 m x3).f0, (rd_T78 m x3).f1⟩ : S78)]), p4, s4)) else (none)) else (none)) else (none)) else (if x4 = 2 then (some (([] : List (S78)), p4, s4)) else (if x4 = 3 then (spec_l02Draw.l0 k (([] : List (S78))) 0 code p4 s4) else (if x4 = 4 then (if 0 < (m.length : Int) then (if 0 ≤ (wrap64 ((m.length : Int) - 1)) then (if (wrap64 ((m.length : Int) - 1)) < (m.length : Int) then (if m.length < 8796093022208 then (some ((m ++ [(⟨wrap64 (((rd_T78 m 0).f0) + 3), wrap64 (((rd_T78 m (wrap64 ((m.length : Int) - 1))).f1) + 2)⟩ : S78)]), p4, s4)) else (none)) else (none)) else (none)) else (none)) else (if x4 = 5 then (if 0 < (m.length : Int) then (if 0 ≤ (wrap64 ((m.length : Int) - 1)) then (if (wrap64 ((m.length : Int) - 1)) < (m.length : Int) then (if m.length < 8796093022208 then (some ((m ++ [(⟨wrap64 (((rd_T78 m 0).f0) + 3), wrap64 (((rd_T78 m (wrap64 ((m.length : Int) - 1))).f1) + 2)⟩ : S78)]), p4, s4)) else (none)) else (none)) else (none)) else (none)) else (some (m, p4, s4)))))))) r → Ev (fun k => spec_l02Draw.f k code p seed) r := fun r h =>
    Ev.bind e0 (ev_some e1 (ev_some e2 (Ev.bind hM (ev_some e3 (ev_some e4 h)))))
  have w1 : wrap64 ((m.length : Int) - 1) = (m.length : Int) - 1 := wrap_id _ (by omega) (by omega)
  by_cases q0 : x4 = 0
  · obtain ⟨x5, p5, s5, e5, S5, a5, b5, _⟩ := next_some code p4 s4 3 S4
    have := b5 (by omega)
    exact ⟨_, p5, s5, J _ (ev_pos q0 (ev_some rfl (ev_some e5 (ev_pos a5 (ev_pos (by simpa using b5 (by omega)) (ev_pos a3 (ev_pos hx3 (Ev.bind (ssort_val _ (by simp; omega)) (ev_const rfl))))))))), S5, by rw [sortC_len, List.length_set]; omega⟩
  · by_cases q1 : x4 = 1
    · exact ⟨_, p4, s4, J _ (ev_neg q0 (ev_pos q1 (ev_pos a3 (ev_pos hx3 (ev_pos (by omega) (ev_const rfl)))))), S4, by simp; omega⟩
    · by_cases q2 : x4 = 2
      · exact ⟨_, p4, s4, J _ (ev_neg q0 (ev_neg q1 (ev_pos q2 (ev_const rfl)))), S4, by simp⟩
      · by_cases q3 : x4 = 3
        · obtain ⟨l, p5, s5, h5, h6, h7⟩ := line_loop code 42 0 [] p4 s4 (by omega) rfl S4
          exact ⟨l, p5, s5, J _ (ev_neg q0 (ev_neg q1 (ev_neg q2 (ev_pos q3 h5)))), h6, by omega⟩
        · by_cases q4 : x4 = 4
          · exact ⟨_, p4, s4, J _ (ev_neg q0 (ev_neg q1 (ev_neg q2 (ev_neg q3 (ev_pos q4 (ev_pos (by omega) (ev_pos (by omega) (ev_pos (by omega) (ev_pos (by omega) (ev_const rfl)))))))))), S4, by simp; omega⟩
          · by_cases q5 : x4 = 5
            · exact ⟨_, p4, s4, J _ (ev_neg q0 (ev_neg q1 (ev_neg q2 (ev_neg q3 (ev_neg q4 (ev_pos q5 (ev_pos (by omega) (ev_pos (by omega) (ev_pos (by omega) (ev_pos (by omega) (ev_const rfl))))))))))), S4, by simp; omega⟩
            · exact ⟨_, p4, s4, J _ (ev_neg q0 (ev_neg q1 (ev_neg q2 (ev_neg q3 (ev_neg q4 (ev_neg q5 (ev_const rfl))))))), S4, by omega⟩
/-! Texts of shapes: rows of points and hashes, both sides. -/
def onT (N : List S78) (x y : Nat) : Bool := N.any fun c => decide (c.f0 = (x : Int)) && decide (c.f1 = (y : Int))
theorem onT_iff (N : List S78) (x y : Nat) : onT N x y = true ↔ (⟨(x : Int), (y : Int)⟩ : S78) ∈ N := by
  unfold onT
  rw [List.any_eq_true]
  constructor
  · rintro ⟨⟨a, b⟩, hc, h⟩
    simp only [Bool.and_eq_true, decide_eq_true_eq] at h
    rw [← h.1, ← h.2]; exact hc
  · intro h
    exact ⟨_, h, by simp⟩
def chT (N : List S78) (x y : Nat) : Int := if onT N x y = true then 35 else 46
def rowT (N : List S78) (y d x : Nat) : List Int := (List.range' x d).map fun x => chT N x y
def gridT (N : List S78) (w d y : Nat) : List (List Int) := (List.range' y d).map fun y => rowT N y w 0
theorem rowT_len (N : List S78) (y d x : Nat) : (rowT N y d x).length = d := by simp [rowT]
theorem rowT_succ (N : List S78) (y d x : Nat) : rowT N y (d + 1) x = chT N x y :: rowT N y d (x + 1) := by unfold rowT; rw [List.range'_succ]; rfl
theorem gridT_succ (N : List S78) (w d y : Nat) : gridT N w (d + 1) y = rowT N y w 0 :: gridT N w d (y + 1) := by unfold gridT; rw [List.range'_succ]; rfl
theorem range_set {α : Type} (f : Nat → α) (n i : Nat) (v : α) : ((List.range' 0 n).map f).set i v = (List.range' 0 n).map fun j => if j = i then v else f j := by
  refine List.ext_getElem (by simp) (fun j h1 h2 => ?_)
  rw [List.getElem_set]
  simp only [List.getElem_map, List.getElem_range', Nat.zero_add, Nat.one_mul]
  by_cases e : i = j
  · rw [if_pos e, if_pos e.symm]
  · rw [if_neg e, if_neg (fun h => e h.symm)]
theorem chT_add (N : List S78) (a b x y : Nat) : chT (N ++ [⟨(a : Int), (b : Int)⟩]) x y = if x = a ∧ y = b then 35 else chT N x y := by
  unfold chT
  have e : onT (N ++ [⟨(a : Int), (b : Int)⟩]) x y = true ↔ (x = a ∧ y = b) ∨ onT N x y = true := by
    rw [onT_iff, onT_iff, List.mem_append, List.mem_singleton]
    constructor
    · rintro (h | h)
      · exact .inr h
      · injection h with h1 h2; exact .inl ⟨by omega, by omega⟩
    · rintro (⟨rfl, rfl⟩ | h)
      · exact .inr rfl
      · exact .inl h
  by_cases h : x = a ∧ y = b
  · rw [if_pos h, if_pos (e.2 (.inl h))]
  · rw [if_neg h]
    by_cases h2 : onT N x y = true
    · rw [if_pos h2, if_pos (e.2 (.inr h2))]
    · rw [if_neg h2, if_neg (fun h3 => by rcases e.1 h3 with h4 | h4; exact h h4; exact h2 h4)]
theorem mark_grid (N : List S78) (w h : Nat) (c : S78) (hx : 0 ≤ c.f0) (hy : 0 ≤ c.f1 ∧ c.f1 < h) : markT (gridT N w h 0) c = gridT (N ++ [c]) w h 0 := by
  obtain ⟨a, b⟩ := c
  obtain ⟨a, rfl⟩ := Int.eq_ofNat_of_zero_le hx
  obtain ⟨b, rfl⟩ := Int.eq_ofNat_of_zero_le hy.1
  have hb : b < h := by have := hy.2; simp only at this; omega
  unfold markT
  simp only [Int.toNat_natCast]
  have e1 : (gridT N w h 0).getD b [] = rowT N b w 0 := by
    unfold gridT
    rw [List.getD_eq_getElem?_getD, List.getElem?_eq_getElem (by simpa using hb), Option.getD_some]
    simp
  rw [e1]
  unfold gridT
  rw [range_set]
  refine List.map_congr_left (fun y _ => ?_)
  by_cases e : y = b
  · subst e
    rw [if_pos rfl]
    unfold rowT
    rw [range_set]
    refine List.map_congr_left (fun x _ => ?_)
    rw [chT_add]
    by_cases e : x = a
    · rw [if_pos e, if_pos ⟨e, rfl⟩]
    · rw [if_neg e, if_neg (fun h => e h.1)]
  · rw [if_neg e]
    refine List.map_congr_left (fun x _ => ?_)
    rw [chT_add, if_neg (fun h => e h.2)]
theorem marks_grid (w h : Nat) : ∀ (L N : List S78), (∀ c ∈ L, 0 ≤ c.f0 ∧ 0 ≤ c.f1 ∧ c.f1 < h) → L.foldl markT (gridT N w h 0) = gridT (N ++ L) w h 0
  | [], N, _ => by simp
  | c :: L, N, hc => by
    have h1 := hc c (by simp)
    rw [List.foldl_cons, mark_grid N w h c h1.1 h1.2, marks_grid w h L _ (fun d hd => hc d (by simp [hd]))]
    simp
theorem dots_grid (w h : Nat) : dotsG h w = gridT [] w h 0 := by
  unfold dotsG gridT rowT
  refine List.ext_getElem (by simp) (fun j h1 h2 => ?_)
  rw [List.getElem_replicate, List.getElem_map]
  refine List.ext_getElem (by simp) (fun i h3 h4 => ?_)
  rw [List.getElem_replicate, List.getElem_map]
  rfl
/-! The bytes of a grid, joined. -/
def bytesT (N : List S78) (w : Nat) : Nat → Nat → List Int
  | 0, _ => []
  | d + 1, y => (if 0 < y then [47] else []) ++ rowT N y w 0 ++ bytesT N w d (y + 1)
theorem bytesT_len (N : List S78) (w : Nat) : ∀ d y, (bytesT N w d y).length ≤ d * (w + 1)
  | 0, _ => by simp [bytesT]
  | d + 1, y => by
    have := bytesT_len N w d (y + 1)
    have h1 : (if 0 < y then [(47 : Int)] else []).length ≤ 1 := by split <;> simp
    rw [bytesT, List.length_append, List.length_append, rowT_len, Nat.succ_mul]
    omega
theorem bytesT_join (N : List S78) (w : Nat) : ∀ d y, 0 < y → bytesT N w d y = ((gridT N w d y).map fun x => 47 :: x).flatten
  | 0, _, _ => rfl
  | d + 1, y, hy => by
    rw [bytesT, if_pos hy, bytesT_join N w d (y + 1) (by omega), gridT_succ]
    simp
theorem text_grid (N : List S78) (w d : Nat) : textT (gridT N w (d + 1) 0) = strOfNums (bytesT N w (d + 1) 0) := by
  rw [bytesT, if_neg (by omega), List.nil_append, bytesT_join N w d 1 (by omega), gridT_succ]
  unfold textT joined
  apply WideShapes.bytes_inj
  rw [strOfNums_data]
  show Lib.join _ _ = _
  rw [List.map_cons, List.map_cons, Lib.join_cons, List.map_append, strOfNums_data]
  congr 1
  simp only [Lib.joinTail]
  generalize gridT N w d (0 + 1) = L
  induction L with
  | nil => rfl
  | cons x r ih =>
    simp only [List.map_cons, List.flatten_cons, List.map_append, ih, strOfNums_data]
    rfl
/-! The reference's text. -/
theorem idx_loop (N : List S78) (hN : N.length ≤ 1000) (x y : Nat) (d : Nat) : ∀ n : Nat, n + d = N.length → ∃ v : Int, Ev (fun k => spec_l02Index.l0 k N n x y) v ∧ (v ≥ 0 ↔ onT (N.drop n) x y = true) := by
  induction d with
  | zero =>
    intro n hd
    refine ⟨-1, Ev.step (f := fun _ => _) (fun k => by simp only [spec_l02Index.l0]; rfl) (ev_neg (by omega) (ev_const rfl)), ?_⟩
    rw [List.drop_of_length_le (by omega)]
    simp [onT]
  | succ d ih =>
    intro n hd
    have e0 : onT (N.drop n) x y = ((decide ((cellAt N n).f0 = (x : Int)) && decide ((cellAt N n).f1 = (y : Int))) || onT (N.drop (n + 1)) x y) := by
      rw [drop_cons N z78 n (by omega)]
      rfl
    by_cases e : ((cellAt N n).f0 == (x : Int) && (cellAt N n).f1 == (y : Int)) = true
    · refine ⟨(n : Int), Ev.step (f := fun _ => _) (fun k => by simp only [spec_l02Index.l0]; rfl) (ev_pos (by omega) (ev_pos (by omega) (ev_pos e (ev_const rfl)))), ?_⟩
      rw [e0]
      simp only [Bool.and_eq_true, beq_iff_eq] at e
      rw [decide_eq_true e.1, decide_eq_true e.2]
      simp
    · obtain ⟨v, hv, hp⟩ := ih (n + 1) (by omega)
      refine ⟨v, Ev.step (f := fun _ => _) (fun k => by simp only [spec_l02Index.l0]; rfl) (ev_pos (by omega) (ev_pos (by omega) (ev_neg e ?_))), ?_⟩
      · rw [wrap_succ n (by omega)]; exact hv
      · rw [hp, e0]
        have e2 : (decide ((cellAt N n).f0 = (x : Int)) && decide ((cellAt N n).f1 = (y : Int))) = false := by
          rw [Bool.eq_false_iff]
          intro h
          simp only [Bool.and_eq_true, decide_eq_true_eq] at h
          exact e (by rw [h.1, h.2]; simp)
        rw [e2, Bool.false_or]
theorem idx_val (N : List S78) (hN : N.length ≤ 1000) (x y : Nat) : ∃ v : Int, Ev (fun k => spec_l02Index.f k N x y) v ∧ (v ≥ 0 ↔ onT N x y = true) := idx_loop N hN x y N.length 0 (by omega)
theorem text_row (N : List S78) (hN : N.length ≤ 1000) (w h y : Nat) (hw : w ≤ 1000) (r : ByteArray) (d : Nat) : ∀ (x : Nat) (out : List Int), x + d = w → out.length + d ≤ 10000000 → Ev (fun k => spec_l04Text.l0 k w h N (out ++ rowT N y d x) (wrap64 ((y : Int) + 1))) r → Ev (fun k => spec_l04Text.l1 k w h N out y x) r := by
  induction d with
  | zero =>
    intro x out hd ho hr
    refine Ev.step (f := fun _ => _) (fun k => by simp only [spec_l04Text.l1]; rfl) (ev_neg (by omega) ?_)
    simpa [rowT] using hr
  | succ d ih =>
    intro x out hd ho hr
    obtain ⟨v, hv, hp⟩ := idx_val N hN x y
    rw [rowT_succ] at hr
    refine Ev.step (f := fun _ => _) (fun k => by simp only [spec_l04Text.l1]; rfl) (ev_pos (by omega) (Ev.bind hv ?_))
    by_cases e : v ≥ 0
    · refine ev_pos e (ev_pos (by omega) ?_)
      rw [wrap_succ x (by omega)]
      refine ih (x + 1) _ (by omega) (by simp; omega) ?_
      rw [show chT N x y = 35 from if_pos (hp.1 e)] at hr
      simpa using hr
    · refine ev_neg e (ev_pos (by omega) ?_)
      rw [wrap_succ x (by omega)]
      refine ih (x + 1) _ (by omega) (by simp; omega) ?_
      rw [show chT N x y = 46 from if_neg (fun h => e (hp.2 h))] at hr
      simpa using hr
theorem text_rows (N : List S78) (hN : N.length ≤ 1000) (w h : Nat) (hw : w ≤ 1000) (hh : h ≤ 1000) (d : Nat) : ∀ (y : Nat) (out : List Int), y + d = h → out.length + d * (w + 1) ≤ 10000000 → Ev (fun k => spec_l04Text.l0 k w h N out y) (strOfNums (out ++ bytesT N w d y)) := by
  induction d with
  | zero =>
    intro y out hd ho
    refine Ev.step (f := fun _ => _) (fun k => by simp only [spec_l04Text.l0]; rfl) (ev_neg (by omega) (ev_const ?_))
    simp [bytesT]
  | succ d ih =>
    intro y out hd ho
    rw [Nat.succ_mul] at ho
    have J : ∀ o : List Int, o = out ++ (if 0 < y then [47] else []) → Ev (fun k => spec_l04Text.j1 k w h N o y) (strOfNums (out ++ bytesT N w (d + 1) y)) := by
      intro o eo
      have hol : o.length ≤ out.length + 1 := by rw [eo, List.length_append]; split <;> simp
      refine Ev.step (f := fun _ => _) (fun k => by simp only [spec_l04Text.j1]; rfl) (text_row N hN w h y hw _ w 0 o (by omega) (by omega) ?_)
      rw [wrap_succ y (by omega)]
      refine ev_eq (ih (y + 1) _ (by omega) (by rw [List.length_append, rowT_len]; omega)) ?_
      rw [eo, bytesT]
      simp
    by_cases e : 0 < y
    · refine Ev.step (f := fun _ => _) (fun k => by simp only [spec_l04Text.l0]; rfl) (ev_pos (by omega) (ev_pos (show (y : Int) > 0 by omega) (ev_pos (show out.length < 140737488355328 by omega) (J _ (by rw [if_pos e])))))
    · refine Ev.step (f := fun _ => _) (fun k => by simp only [spec_l04Text.l0]; rfl) (ev_pos (by omega) (ev_neg (show ¬ (y : Int) > 0 by omega) (J _ (by rw [if_neg e, List.append_nil]))))
/-! Both texts are one. -/
def wdL (l : List S78) : Nat := (sizeL l).1.toNat
def htL (l : List S78) : Nat := (sizeL l).2.toNat
def textL (l : List S78) : ByteArray := strOfNums (bytesT (normL l) (wdL l) (htL l) 0)
theorem size_in (l : List S78) (h : Shp l) : ((wdL l : Int) = (sizeL l).1 ∧ 1 ≤ wdL l ∧ wdL l ≤ 201) ∧ ((htL l : Int) = (sizeL l).2 ∧ 1 ≤ htL l ∧ htL l ≤ 201) := by
  have hc := cell_mem l 0 h.pos
  have hx := (minF_le (·.f0) l (cellAt l 0).f0).1
  have hy := (minF_le (·.f1) l (cellAt l 0).f1).1
  have hx' := (maxF_ge (·.f0) l (cellAt l 0).f0).1
  have hy' := (maxF_ge (·.f1) l (cellAt l 0).f1).1
  have h1 := h.least
  have h2 := h.most
  unfold minX minY at h1
  unfold maxX maxY at h2
  unfold wdL htL sizeL minX minY maxX maxY
  simp only
  omega
theorem norm_in (l : List S78) (h : Shp l) : ∀ c ∈ normL l, (0 ≤ c.f0 ∧ c.f0 < wdL l) ∧ (0 ≤ c.f1 ∧ c.f1 < htL l) := by
  intro c hc
  rw [h.norm] at hc
  obtain ⟨d, hd, rfl⟩ := List.mem_map.1 hc
  obtain ⟨⟨e1, _⟩, e2, _⟩ := size_in l h
  have hx := (minF_le (·.f0) l (cellAt l 0).f0).2 d hd
  have hy := (minF_le (·.f1) l (cellAt l 0).f1).2 d hd
  have hx' := (maxF_ge (·.f0) l (cellAt l 0).f0).2 d hd
  have hy' := (maxF_ge (·.f1) l (cellAt l 0).f1).2 d hd
  rw [e1, e2]
  unfold sizeL minX minY maxX maxY
  simp only at *
  omega
theorem stext_val (l : List S78) (h : Shp l) : Ev (fun k => spec_l04Text.f k l) (textL l) := by
  have hle := h.le
  obtain ⟨⟨e1, w1, w2⟩, e2, h1, h2⟩ := size_in l h
  refine Ev.bind (ssize_val l h) (Ev.bind (snormal_val l (by omega) h.pos) ?_)
  rw [← e1, ← e2]
  refine ev_eq (text_rows (normL l) (by rw [normL_len]; omega) (wdL l) (htL l) (by omega) (by omega) (htL l) 0 [] (by omega) ?_) (by rw [List.nil_append]; rfl)
  have := Nat.mul_le_mul (show htL l ≤ 201 by omega) (show wdL l + 1 ≤ 202 by omega)
  simp; omega
theorem max_shift (l : List S78) (h : Shp l) : maxX (normL l) = maxX l - minX l ∧ maxY (normL l) = maxY l - minY l := by
  have key : ∀ (f g : S78 → Int) (m : Int) (u : S78 → S78) (_ : ∀ c, g (u c) = f c - m) (l : List S78) (x : Int), maxF g (l.map u) (x - m) = maxF f l x - m := by
    intro f g m u hg l
    induction l with
    | nil => intro x; rfl
    | cons c r ih =>
      intro x
      rw [List.map_cons, maxF, maxF, hg, ← ih]
      congr 1
      unfold mx
      split <;> split <;> omega
  have h0 : cellAt (normL l) 0 = ⟨(cellAt l 0).f0 - minX l, (cellAt l 0).f1 - minY l⟩ := by
    rw [h.norm]
    cases l with
    | nil => exact absurd h.pos (by simp)
    | cons c r => rfl
  unfold maxX maxY
  rw [h0, h.norm]
  exact ⟨key (·.f0) (·.f0) (minX l) _ (fun _ => rfl) l _, key (·.f1) (·.f1) (minY l) _ (fun _ => rfl) l _⟩
theorem itext_val (l : List S78) (h : Shp l) : Ev (fun k => impl_shapeText.f k l) (textL l) := by
  have hle := h.le
  obtain ⟨⟨e1, w1, w2⟩, e2, h1, h2⟩ := size_in l h
  obtain ⟨m1, m2⟩ := max_shift l h
  have hin := norm_in l h
  have ex : maxX (normL l) + 1 = (wdL l : Int) := by rw [m1, e1]; rfl
  have ey : maxY (normL l) + 1 = (htL l : Int) := by rw [m2, e2]; rfl
  have hg : hashG (normL l) (maxX (normL l)) (maxY (normL l)) = gridT (normL l) (wdL l) (htL l) 0 := by
    unfold hashG
    rw [ex, ey, Int.toNat_natCast, Int.toNat_natCast, dots_grid, marks_grid _ _ _ _ (fun c hc => ⟨(hin c hc).1.1, (hin c hc).2⟩), List.nil_append]
  have ht : textT (gridT (normL l) (wdL l) (htL l) 0) = textL l := by
    obtain ⟨d, hd⟩ : ∃ d, htL l = d + 1 := ⟨htL l - 1, by omega⟩
    unfold textL
    rw [hd, text_grid]
  have hsz : (textL l).size ≤ 140737488355328 := by
    have h3 := bytesT_len (normL l) (wdL l) (htL l) 0
    have h4 := Nat.mul_le_mul (show htL l ≤ 201 by omega) (show wdL l + 1 ≤ 202 by omega)
    have h5 : (textL l).size = (bytesT (normL l) (wdL l) (htL l) 0).length := by
      unfold textL
      show (strOfNums _).data.size = _
      rw [← Array.length_toList]
      have := strOfNums_data (bytesT (normL l) (wdL l) (htL l) 0)
      rw [show (strOfNums (bytesT (normL l) (wdL l) (htL l) 0)).data.toList = _ from this, List.length_map]
    omega
  refine Ev.bind (inormal_val l (by omega) h.pos) (Ev.bind (reach_val (normL l) (by rw [normL_len]; unfold maxLen; omega) (by rw [normL_len]; exact h.pos)) (ev_pos ?_ (ev_const ?_)))
  · refine ⟨⟨⟨by omega, by omega⟩, by omega, by omega⟩, by rw [normL_len]; omega, fun c hc => ?_, ?_⟩
    · have := hin c hc
      omega
    · simp only
      rw [hg, ht]; exact hsz
  · simp only
    rw [hg, ht]
/-! The mirrored text is the text of the shape turned over. -/
theorem textL_grid (l : List S78) (h : Shp l) : textL l = textT (gridT (normL l) (wdL l) (htL l) 0) := by
  obtain ⟨_, _, h1, _⟩ := size_in l h
  obtain ⟨d, hd⟩ : ∃ d, htL l = d + 1 := ⟨htL l - 1, by omega⟩
  unfold textL
  rw [hd, text_grid]
theorem maxF_mem (f : S78 → Int) : ∀ (l : List S78) (x : Int), maxF f l x = x ∨ ∃ c ∈ l, maxF f l x = f c
  | [], x => .inl rfl
  | c :: r, x => by
    rw [maxF]
    rcases maxF_mem f r (mx x (f c)) with h | ⟨d, hd, h⟩
    · rw [h]
      unfold mx
      split
      · exact .inr ⟨c, by simp, rfl⟩
      · exact .inl rfl
    · exact .inr ⟨d, by simp [hd], h⟩
theorem max_char (f : S78 → Int) (l : List S78) (h1 : 1 ≤ l.length) (m : Int) (hm : ∃ c ∈ l, f c = m) (hle : ∀ c ∈ l, f c ≤ m) : maxF f l (f (cellAt l 0)) = m := by
  obtain ⟨c, hc, e⟩ := hm
  have h2 := (maxF_ge f l (f (cellAt l 0))).2 c hc
  rcases maxF_mem f l (f (cellAt l 0)) with h | ⟨d, hd, h⟩
  · have := hle _ (cell_mem l 0 h1); omega
  · have := hle d hd; omega
theorem min_char (f : S78 → Int) (l : List S78) (h1 : 1 ≤ l.length) (m : Int) (hm : ∃ c ∈ l, f c = m) (hle : ∀ c ∈ l, m ≤ f c) : minF f l (f (cellAt l 0)) = m := by
  obtain ⟨c, hc, e⟩ := hm
  have h2 := (minF_le f l (f (cellAt l 0))).2 c hc
  rcases minF_mem f l (f (cellAt l 0)) with h | ⟨d, hd, h⟩
  · have := hle _ (cell_mem l 0 h1); omega
  · have := hle d hd; omega
theorem most_mem (l : List S78) (h1 : 1 ≤ l.length) : (∃ c ∈ l, c.f0 = maxX l) ∧ ∃ c ∈ l, c.f1 = maxY l := by
  have h0 := cell_mem l 0 h1
  constructor
  · rcases maxF_mem (·.f0) l (cellAt l 0).f0 with h | ⟨c, hc, h⟩
    · exact ⟨_, h0, h.symm⟩
    · exact ⟨c, hc, h.symm⟩
  · rcases maxF_mem (·.f1) l (cellAt l 0).f1 with h | ⟨c, hc, h⟩
    · exact ⟨_, h0, h.symm⟩
    · exact ⟨c, hc, h.symm⟩
theorem form4_mem (l : List S78) (hs : Shp l) (c : S78) : c ∈ formL 4 l ↔ ∃ d ∈ l, c = ⟨maxX l - d.f0, d.f1 - minY l⟩ := by
  have hn : nearC 1000000 l := fun c hc => by have := hs.near c hc; omega
  have hT : isT 4 := ⟨by omega, by omega⟩
  have hp := sortC_perm (l.map (tI 4))
  have hpos : 1 ≤ (sortC (l.map (tI 4))).length := by rw [sortC_len, List.length_map]; exact hs.pos
  have hmem : ∀ c, c ∈ sortC (l.map (tI 4)) ↔ ∃ d ∈ l, c = ⟨-d.f0, d.f1⟩ := fun c => by
    rw [hp.mem_iff, List.mem_map]
    constructor
    · rintro ⟨d, hd, rfl⟩; exact ⟨d, hd, by simp [tI]⟩
    · rintro ⟨d, hd, rfl⟩; exact ⟨d, hd, by simp [tI]⟩
  have hx : minX (sortC (l.map (tI 4))) = -maxX l := by
    obtain ⟨⟨q, hq, eq⟩, _⟩ := most_mem l hs.pos
    refine min_char (·.f0) _ hpos _ ⟨_, (hmem _).2 ⟨q, hq, rfl⟩, by simp only; rw [eq]⟩ (fun c hc => ?_)
    obtain ⟨d, hd, rfl⟩ := (hmem c).1 hc
    have := (maxF_ge (·.f0) l (cellAt l 0).f0).2 d hd
    unfold maxX
    simp only at *
    omega
  have hy : minY (sortC (l.map (tI 4))) = minY l := by
    obtain ⟨_, q, hq, eq⟩ := corn_mem l hs.pos
    refine min_char (·.f1) _ hpos _ ⟨_, (hmem _).2 ⟨q, hq, rfl⟩, eq.symm⟩ (fun c hc => ?_)
    obtain ⟨d, hd, rfl⟩ := (hmem c).1 hc
    exact (minF_le (·.f1) l (cellAt l 0).f1).2 d hd
  rw [formL_eq 4 hT l hs.pos hn, List.mem_map]
  unfold cornC
  rw [hx, hy]
  constructor
  · rintro ⟨q, hq, rfl⟩
    obtain ⟨d, hd, rfl⟩ := (hmem q).1 hq
    refine ⟨d, hd, ?_⟩
    unfold subC
    simp only
    rw [show -d.f0 - -maxX l = maxX l - d.f0 by omega]
  · rintro ⟨d, hd, rfl⟩
    refine ⟨⟨-d.f0, d.f1⟩, (hmem _).2 ⟨d, hd, rfl⟩, ?_⟩
    unfold subC
    simp only
    rw [show -d.f0 - -maxX l = maxX l - d.f0 by omega]
theorem form4_size (l : List S78) (hs : Shp l) (hw : wide100 l) : wdL (formL 4 l) = wdL l ∧ htL (formL 4 l) = htL l := by
  obtain ⟨g1, g2⟩ := form_shape 4 ⟨by omega, by omega⟩ l hs hw
  have hm := form4_mem l hs
  obtain ⟨⟨p, hp, ep⟩, q, hq, eq⟩ := most_mem l hs.pos
  obtain ⟨⟨r, hr, er⟩, s, hs', es⟩ := corn_mem l hs.pos
  have hX := (maxF_ge (·.f0) l (cellAt l 0).f0).2
  have hx := (minF_le (·.f0) l (cellAt l 0).f0).2
  have hY := (maxF_ge (·.f1) l (cellAt l 0).f1).2
  have hy := (minF_le (·.f1) l (cellAt l 0).f1).2
  have e1 : maxX (formL 4 l) = maxX l - minX l := max_char (·.f0) _ g1.pos _ ⟨_, (hm _).2 ⟨r, hr, rfl⟩, by simp only; rw [er]⟩ (fun c hc => by
    obtain ⟨d, hd, rfl⟩ := (hm c).1 hc
    have := hx d hd
    unfold minX; simp only at *; omega)
  have e2 : minX (formL 4 l) = 0 := min_char (·.f0) _ g1.pos _ ⟨_, (hm _).2 ⟨p, hp, rfl⟩, by simp only; omega⟩ (fun c hc => by
    obtain ⟨d, hd, rfl⟩ := (hm c).1 hc
    have := hX d hd
    unfold maxX; simp only at *; omega)
  have e3 : maxY (formL 4 l) = maxY l - minY l := max_char (·.f1) _ g1.pos _ ⟨_, (hm _).2 ⟨q, hq, rfl⟩, by simp only; rw [eq]⟩ (fun c hc => by
    obtain ⟨d, hd, rfl⟩ := (hm c).1 hc
    have := hY d hd
    unfold maxY; simp only at *; omega)
  have e4 : minY (formL 4 l) = 0 := min_char (·.f1) _ g1.pos _ ⟨_, (hm _).2 ⟨s, hs', rfl⟩, by simp only; omega⟩ (fun c hc => by
    obtain ⟨d, hd, rfl⟩ := (hm c).1 hc
    have := hy d hd
    unfold minY; simp only at *; omega)
  unfold wdL htL sizeL
  rw [e1, e2, e3, e4]
  simp
theorem form4_on (l : List S78) (hs : Shp l) (x y : Nat) (hx : x < wdL l) : onT (formL 4 l) x y = onT (normL l) (wdL l - 1 - x) y := by
  obtain ⟨⟨e1, w1, _⟩, _⟩ := size_in l hs
  have e : (wdL l : Int) = maxX l - minX l + 1 := e1
  have hc : ((wdL l - 1 - x : Nat) : Int) = maxX l - minX l - x := by omega
  have key : onT (formL 4 l) x y = true ↔ onT (normL l) (wdL l - 1 - x) y = true := by
    rw [onT_iff, onT_iff, form4_mem l hs, hs.norm, List.mem_map, hc]
    constructor
    · rintro ⟨d, hd, h⟩
      injection h with h1 h2
      exact ⟨d, hd, by rw [show d.f0 - minX l = maxX l - minX l - x by omega, h2]⟩
    · rintro ⟨d, hd, h⟩
      injection h with h1 h2
      exact ⟨d, hd, by rw [show maxX l - d.f0 = (x : Int) by omega, h2]⟩
  cases h1 : onT (formL 4 l) x y <;> cases h2 : onT (normL l) (wdL l - 1 - x) y <;> simp_all
theorem rowT_get (N : List S78) (y d x i : Nat) (h : i < (rowT N y d x).length) : (rowT N y d x)[i] = chT N (x + i) y := by
  have e : rowT N y d x = (List.range' x d).map fun x => chT N x y := rfl
  have h2 : i < ((List.range' x d).map fun x => chT N x y).length := h
  show ((List.range' x d).map fun x => chT N x y)[i] = _
  rw [List.getElem_map, List.getElem_range', Nat.one_mul]
theorem form4_grid (l : List S78) (hs : Shp l) (h : Nat) : gridT (formL 4 l) (wdL l) h 0 = (gridT (normL l) (wdL l) h 0).map List.reverse := by
  unfold gridT
  rw [List.map_map]
  refine List.map_congr_left (fun y _ => ?_)
  show _ = (rowT (normL l) y (wdL l) 0).reverse
  refine List.ext_getElem (by simp [rowT_len]) (fun x h1 h2 => ?_)
  rw [rowT_len] at h1
  rw [List.getElem_reverse, rowT_get, rowT_get, rowT_len, Nat.zero_add, Nat.zero_add]
  unfold chT
  rw [form4_on l hs x y h1]
theorem spl_app (c : UInt8) (r : List UInt8) : ∀ x : List UInt8, (∀ b ∈ x, b ≠ c) → spl c (x ++ c :: r) = x :: spl c r
  | [], _ => by rw [List.nil_append, spl, if_pos rfl]
  | b :: x, h => by
    rw [List.cons_append, spl, if_neg (h b (by simp)), spl_app c r x (fun d hd => h d (by simp [hd]))]
theorem spl_one (c : UInt8) : ∀ x : List UInt8, (∀ b ∈ x, b ≠ c) → spl c x = [x]
  | [], _ => rfl
  | b :: x, h => by
    rw [spl, if_neg (h b (by simp)), spl_one c x (fun d hd => h d (by simp [hd]))]
theorem spl_join (c : UInt8) : ∀ (r : List (List UInt8)) (x : List UInt8), (∀ y ∈ x :: r, ∀ b ∈ y, b ≠ c) → spl c (Lib.join (x :: r) [c]) = x :: r
  | [], x, h => by rw [Lib.join_one]; exact spl_one c x (h x (by simp))
  | y :: r, x, h => by
    have ih := spl_join c r y (fun z hz => h z (by simp only [List.mem_cons] at hz ⊢; exact .inr hz))
    rw [Lib.join_cons] at ih ⊢
    rw [show Lib.joinTail [c] (y :: r) = c :: (y ++ Lib.joinTail [c] r) by simp [Lib.joinTail], spl_app c _ x (h x (by simp)), ih]
theorem rowT_nums (N : List S78) (y d x : Nat) : ∀ b ∈ (rowT N y d x).map (fun n => UInt8.ofNat n.toNat), b ≠ 47 := by
  intro b hb
  obtain ⟨n, hn, rfl⟩ := List.mem_map.1 hb
  obtain ⟨i, _, rfl⟩ := List.mem_map.1 hn
  unfold chT
  split <;> decide
theorem mirror_text (l : List S78) (hs : Shp l) (hw : wide100 l) : joined ((splitL (textL l) ⟨#[47]⟩).map mirrorB) ⟨#[47]⟩ = textL (formL 4 l) := by
  obtain ⟨g1, g2⟩ := form_shape 4 ⟨by omega, by omega⟩ l hs hw
  obtain ⟨s1, s2⟩ := form4_size l hs hw
  obtain ⟨_, _, h1, _⟩ := size_in l hs
  rw [textL_grid l hs, textL_grid _ g1, g2, s1, s2, form4_grid l hs, splitL_one]
  have hd : (textT (gridT (normL l) (wdL l) (htL l) 0)).data.toList = Lib.join ((gridT (normL l) (wdL l) (htL l) 0).map fun r => r.map fun n => UInt8.ofNat n.toNat) [47] := by
    unfold textT joined
    rw [List.map_map]
    rfl
  have hne : ∃ x r, ((gridT (normL l) (wdL l) (htL l) 0).map fun r => r.map fun n => UInt8.ofNat n.toNat) = x :: r := by
    obtain ⟨d, hd⟩ : ∃ d, htL l = d + 1 := ⟨htL l - 1, by omega⟩
    rw [hd, gridT_succ]
    exact ⟨_, _, rfl⟩
  obtain ⟨x, r, e⟩ := hne
  have hall : ∀ y ∈ x :: r, ∀ b ∈ y, b ≠ 47 := fun y hy => by
    rw [← e] at hy
    obtain ⟨z, hz, rfl⟩ := List.mem_map.1 hy
    obtain ⟨i, _, rfl⟩ := List.mem_map.1 hz
    exact rowT_nums _ _ _ _
  rw [hd, e, spl_join 47 r x hall, ← e]
  unfold textT
  congr 1
  rw [List.map_map, List.map_map, List.map_map]
  refine List.map_congr_left (fun z _ => ?_)
  show mirrorB (mkB (z.map _)) = strOfNums z.reverse
  unfold mirrorB mkB strOfNums
  rw [List.map_reverse]
  simp
theorem text_small (l : List S78) (hs : Shp l) (hw : wide100 l) : (textL l).size ≤ 12000 := by
  obtain ⟨⟨e1, w1, w2⟩, e2, h1, h2⟩ := size_in l hs
  obtain ⟨⟨p, hp, ep⟩, q, hq, eq⟩ := most_mem l hs.pos
  obtain ⟨⟨r, hr, er⟩, s, hs', es⟩ := corn_mem l hs.pos
  have a1 := (hw p hp r hr).1
  have a2 := (hw q hq s hs').2
  have e3 : (wdL l : Int) = maxX l - minX l + 1 := e1
  have e4 : (htL l : Int) = maxY l - minY l + 1 := e2
  have h3 := bytesT_len (normL l) (wdL l) (htL l) 0
  have h4 := Nat.mul_le_mul (show htL l ≤ 101 by omega) (show wdL l + 1 ≤ 102 by omega)
  unfold textL
  rw [strOfNums_size]
  omega
def shapeR (l : List S78) : ByteArray × Int := if codeS l = 0 then (textL l, 0) else (⟨#[]⟩, codeS l)
theorem ishape_val (l : List S78) (hm : l.length ≤ maxLen) : Ev (fun k => impl_ShapeText.f k l) (shapeR l) := by
  unfold shapeR
  exact Ev.bind (icodeS_val l hm) (ev_iteR (fun h => Ev.bind (itext_val l (code_wide l h).1) (ev_const rfl)) (fun _ => ev_const rfl))
theorem sshape_val (l : List S78) (hm : l.length ≤ maxLen) : Ev (fun k => spec_ShapeText.f k l) (shapeR l) := by
  unfold shapeR
  exact Ev.bind (scodeS_val l hm) (ev_iteR (fun h => Ev.bind (stext_val l (code_wide l h).1) (ev_const rfl)) (fun _ => ev_const rfl))
theorem FnMirrored (l : List Int) (hm : l.length ≤ maxLen) (_ : l.length * 1 ≤ 140737488351232) (hg : ∀ x ∈ l, (Lit.int .u8 x).wf = true) : ∃ k, laws_FnMirrored.f k l = some true := by
  refine Ev.rounds (g := fun k => laws_FnMirrored.f k l) ?_
  have hbyte : ∀ x ∈ l, 0 ≤ x ∧ x ≤ 255 := fun x hx => by
    have := hg x hx
    simp [Lit.wf, IntKind.has, IntKind.min, IntKind.max, IntKind.bits, IntKind.signed] at this
    omega
  refine ev_some (a := decide ((l.length : Int) > 4096)) rfl ?_
  by_cases hbig : (l.length : Int) > 4096
  · exact ev_pos (decide_eq_true hbig) (ev_const rfl)
  · refine ev_neg (by simpa using hbig) ?_
    have hl : l.length ≤ 4096 := by omega
    obtain ⟨s0, f0, S0⟩ := from_some l hbyte hl
    obtain ⟨sh, p1, s1, f1, S1, n1⟩ := draw_shape l 0 s0 S0
    have hsm : sh.length ≤ maxLen := by unfold maxLen; omega
    refine Ev.bind (a := sh) (Ev.bind f0 (Ev.bind f1 (ev_const rfl))) (Ev.bind (ishape_val sh hsm) (Ev.bind (sshape_val sh hsm) (ev_pos rfl ?_)))
    rw [show ((shapeR sh).1.toList != (shapeR sh).1.toList) = false by simp]
    refine Ev.step (f := fun _ => _) (fun k => by simp only [laws_FnMirrored.j0]; rfl) (ev_neg (by decide) ?_)
    by_cases h0 : codeS sh = 0
    · have en : shapeR sh = (textL sh, 0) := if_pos h0
      have hxT : isT 4 := ⟨by omega, by omega⟩
      obtain ⟨hs, hw⟩ := code_wide sh h0
      obtain ⟨g1, g2⟩ := form_shape 4 hxT sh hs hw
      have e1 := (shp_iff _).2 hs
      have e2 := (shp_iff _).2 g1
      have hT : turnR sh 4 = (formL 4 sh, 0) := by unfold turnR; rw [if_pos e1, if_pos hxT, if_pos h0]
      have hcy : codeS (formL 4 sh) = 0 := by unfold codeS; rw [if_pos e2, g2, if_pos e2]
      have ht := iturnS_val sh hsm 4
      rw [hT] at ht
      have hfl : (formL 4 sh).length = sh.length := by unfold formL; rw [normL_len, sortC_len, List.length_map]
      have hz := ishape_val (formL 4 sh) (by rw [hfl]; exact hsm)
      rw [show shapeR (formL 4 sh) = (textL (formL 4 sh), 0) from if_pos hcy] at hz
      have hsz := text_small sh hs hw
      have hsz2 := text_small (formL 4 sh) g1 (fun c hc d hd => by
        have h1 := norm_in (formL 4 sh) g1 c (by rw [g2]; exact hc)
        have h2 := norm_in (formL 4 sh) g1 d (by rw [g2]; exact hd)
        obtain ⟨a1, a2⟩ := form4_size sh hs hw
        obtain ⟨⟨b1, _⟩, b2, _⟩ := size_in sh hs
        rw [a1, a2] at h1 h2
        obtain ⟨⟨p, hp, ep⟩, q, hq, eq⟩ := most_mem sh hs.pos
        obtain ⟨⟨r, hr, er⟩, s, hs', es⟩ := corn_mem sh hs.pos
        have c1 := (hw p hp r hr).1
        have c2 := (hw q hq s hs').2
        have b3 : (wdL sh : Int) = maxX sh - minX sh + 1 := b1
        have b4 : (htL sh : Int) = maxY sh - minY sh + 1 := b2
        omega)
      have hmi : impl_MirrorText.f (textL sh) = some (textL (formL 4 sh), 0) := by
        unfold impl_MirrorText.f
        rw [if_neg (by omega), mirror_text sh hs hw, if_pos (by omega)]
      rw [en]
      exact ev_pos rfl (ev_some hmi (Ev.bind ht (Ev.bind hz (ev_pos rfl (ev_pos rfl (ev_pos rfl (ev_const (by simp))))))))
    · have en : (shapeR sh).2 = codeS sh := by unfold shapeR; rw [if_neg h0]
      exact ev_neg (by rw [en]; exact h0) (ev_const rfl)
end Go.Proofs.YtopceddgiddhlaaDoor.Pure
