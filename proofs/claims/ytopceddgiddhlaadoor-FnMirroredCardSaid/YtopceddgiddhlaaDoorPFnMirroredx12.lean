/- Over the kit's printer by a driver of mine (hprint.py), with parts by hand: functions of the program as Lean functions, and that each call comes to exactly these answers. -/
import Derived.Test.YtopceddgiddhlaaDoorPFnMirroredx0
import Derived.Test.YtopceddgiddhlaaDoorPFnMirroredx2
import Derived.Test.YtopceddgiddhlaaDoorPFnMirroredx6
import Derived.Test.YtopceddgiddhlaaDoorPFnMirroredx7
import Derived.Test.YtopceddgiddhlaaDoorPFnMirroredx8
import Derived.Test.YtopceddgiddhlaaDoorPFnMirroredx9
import Derived.Test.YtopceddgiddhlaaDoorPFnMirroredx11
namespace Go.Proofs.YtopceddgiddhlaaDoor.PFnMirrored
open Go.RowKit Go.Proofs.YtopceddgiddhlaaDoorW.PrintWords Go.Proofs.YtopceddgiddhlaaDoorW.PrintLast Go.Proofs.YtopceddgiddhlaaDoorW.PrintMore
attribute [local go_sem] max2_int min2_int max_two min_two max_three min_three max_four min_four   -- for this text's walks alone
set_option linter.unusedVariables false
set_option linter.unusedSimpArgs false

/-! ### impl_turnCell: function 77 -/
mutual
def impl_turnCell.j0 : Nat → Int → Int → Int → Option (Int × Int)
 | 0, _, _, _ => none
 | k + 1, x1, x342000, x342001 => impl_turnCell.l0 k (Int.tmod x1 4) 0 x342000 x342001
def impl_turnCell.l0 : Nat → Int → Int → Int → Int → Option (Int × Int)
 | 0, _, _, _, _ => none
 | k + 1, x12, x13, x342000, x342001 => if x13 < x12 then (impl_turnCell.l0 k x12 (wrap64 (x13 + 1)) (wrap64 (-x342001)) x342000) else (some (x342000, x342001))
end
def impl_turnCell.f (k : Nat) (a0_0 : Int) (a0_1 : Int) (a1 : Int) : Option (Int × Int) := if a1 ≥ 4 then (impl_turnCell.j0 k a1 (wrap64 (-a0_0)) a0_1) else (impl_turnCell.j0 k a1 a0_0 a0_1)
theorem impl_turnCell.mono_l : ∀ k, (∀ y0 y1 y2, LeO (impl_turnCell.j0 k y0 y1 y2) (impl_turnCell.j0 (k + 1) y0 y1 y2)) ∧ (∀ y0 y1 y2 y3, LeO (impl_turnCell.l0 k y0 y1 y2 y3) (impl_turnCell.l0 (k + 1) y0 y1 y2 y3))
 | 0 => ⟨fun _ _ _ r h => by simp [impl_turnCell.j0] at h, fun _ _ _ _ r h => by simp [impl_turnCell.l0] at h⟩
 | k + 1 => by
  obtain ⟨ih0, ih1⟩ := impl_turnCell.mono_l k
  refine ⟨?_, ?_⟩
  ·intro y0 y1 y2
   unfold impl_turnCell.j0
   repeat' first
   | (with_reducible exact ih0 _ _ _)
   | (with_reducible exact ih1 _ _ _ _)
   | (with_reducible exact LeO.refl _)
   | (with_reducible exact LeO.none _)
   | (with_reducible refine LeO.ite ?_ ?_)
   | (with_reducible refine LeO.bind ?_ (fun _ => ?_))
   | exact ih0 _ _ _
   | exact ih1 _ _ _ _
   | exact LeO.none _
   | refine LeO.ite ?_ ?_
   | refine LeO.bind ?_ (fun _ => ?_)
  ·intro y0 y1 y2 y3
   unfold impl_turnCell.l0
   repeat' first
   | (with_reducible exact ih0 _ _ _)
   | (with_reducible exact ih1 _ _ _ _)
   | (with_reducible exact LeO.refl _)
   | (with_reducible exact LeO.none _)
   | (with_reducible refine LeO.ite ?_ ?_)
   | (with_reducible refine LeO.bind ?_ (fun _ => ?_))
   | exact ih0 _ _ _
   | exact ih1 _ _ _ _
   | exact LeO.none _
   | refine LeO.ite ?_ ?_
   | refine LeO.bind ?_ (fun _ => ?_)
theorem impl_turnCell.mono : ∀ a0 a1 a2 k, LeO (impl_turnCell.f k a0 a1 a2) (impl_turnCell.f (k + 1) a0 a1 a2) := by
 intro a0 a1 a2 k
 obtain ⟨ih0, ih1⟩ := impl_turnCell.mono_l k
 unfold impl_turnCell.f
 repeat' first
   | (with_reducible exact ih0 _ _ _)
   | (with_reducible exact ih1 _ _ _ _)
   | (with_reducible exact LeO.refl _)
   | (with_reducible exact LeO.none _)
   | (with_reducible refine LeO.ite ?_ ?_)
   | (with_reducible refine LeO.bind ?_ (fun _ => ?_))
   | exact ih0 _ _ _
   | exact ih1 _ _ _ _
   | exact LeO.none _
   | refine LeO.ite ?_ ?_
   | refine LeO.bind ?_ (fun _ => ?_)
set_option maxHeartbeats 8000000 in
set_option maxRecDepth 100000 in
theorem impl_turnCell.calls (k : Nat) (a0_0 : Int) (a0_1 : Int) (a1 : Int) (r1 : Int) (r2 : Int) (w : World) (h : impl_turnCell.f k a0_0 a0_1 a1 = some (r1, r2)) :
  Calls Tryd.prog 77 #[.agg #[.int .i64 a0_0, .int .i64 a0_1], .int .i64 a1] w fun e w' => e = .returned (.agg #[.int .i64 r1, .int .i64 r2]) ∧ Below w.heap.size w w' := by
 have hu78 := Tryd.underlying78
 have HB := Aside0.mk (Below.refl w.heap.size w)
 have H : (if a1 ≥ 4 then (impl_turnCell.j0 k a1 (wrap64 (-a0_0)) a0_1) else (impl_turnCell.j0 k a1 a0_0 a0_1)) = some (r1, r2) := h
 clear h
 have HC3 := Aside0.mk H
 clear H
 go_enter Tryd.func77, Tryd.ntmps77
 go_upto_if 6 with (first | ((with_reducible refine gate_dst (N := 2) rfl ?_); refine box_event ?hg (N := 2) ?hd (cs := #[.int .i64 a0_0, .int .i64 a0_1]) (t := 78) ?hr ?_; (case hd => rfl); (case hg => rfl); (case hr => first | (go_simp; done) | (go_simp; rfl)); intro gb341 hg w4 hbox hb; have n0_ := Aside0.mk (below_step (bl0_) hb); have n1_ := Aside0.mk (hbox); have n2_ := Aside0.mk ((sz_ hg (bl0_) : w.heap.size ≤ gb341)); have n3_ := Aside0.mk ((sz_ hg (bl0_) : w.heap.size ≤ gb341)); clear HB; have HB := n0_; have BK341 := n1_; have GW341 := n2_; have GE341 := n3_; clear n0_ n1_ n2_ n3_; clear hb hbox hg) | ((with_reducible refine gate_dst (N := 4) rfl ?_); refine box_event ?hg (N := 4) ?hd (cs := #[.int .i64 0, .int .i64 0]) (t := 78) ?hr ?_; (case hd => rfl); (case hg => rfl); (case hr => first | (go_simp; done) | (go_simp; rfl)); intro gb342 hg w5 hbox hb; have n0_ := Aside0.mk (blk_below (g := gb341) (o := .cells #[.int .i64 a0_0, .int .i64 a0_1] 78 (0, 0)) (bk_ BK341.out) hb); have n1_ := Aside0.mk (below_step (bl1_ GE341.out) hb); have n2_ := Aside0.mk (hbox); have n3_ := Aside0.mk ((sz_ hg (bl1_ GE341.out) : w.heap.size ≤ gb342)); have n4_ := Aside0.mk ((sz_ hg (bl1_ GE341.out) : w.heap.size ≤ gb342)); have n5_ := Aside0.mk ((by rw [hg]; exact Nat.ne_of_lt (blk_lt (g := gb341) (o := .cells #[.int .i64 a0_0, .int .i64 a0_1] 78 (0, 0)) (bk_ BK341.out)) : gb341 ≠ gb342)); have n6_ := Aside0.mk ((by rw [hg]; exact Nat.ne_of_gt (blk_lt (g := gb341) (o := .cells #[.int .i64 a0_0, .int .i64 a0_1] 78 (0, 0)) (bk_ BK341.out)) : gb342 ≠ gb341)); clear BK341; clear HB; have BK341 := n0_; have HB := n1_; have BK342 := n2_; have GW342 := n3_; have GE342 := n4_; have NB341_342 := n5_; have NB342_341 := n6_; clear n0_ n1_ n2_ n3_ n4_ n5_ n6_; clear hb hbox hg))
 (try simp only [Act.put, List.setIfInBounds_toArray, List.set_cons_zero, List.set_cons_succ])
 go_cut [] (fun wc => ∃ (kq : Nat) (x342000_2 : Int), Aside0 (impl_turnCell.j0 kq a1 x342000_2 a0_1 = some (r1, r2)) ∧ Aside0 (kq ≤ k) ∧ Aside0 (wc.heap[gb341]? = some (.cells #[.int .i64 x342000_2, .int .i64 a0_1] 78 (0, 0))) ∧ Aside0 (wc.heap[gb342]? = some (.cells #[.int .i64 0, .int .i64 0] 78 (0, 0))) ∧ Aside0 (Below w.heap.size w wc))
 case first =>
  have H := HC3.out
  clear HC3
  by_cases c6 : a1 ≥ 4
  ·rw [if_pos c6] at H
   have c6b0 : decide (4 ≤ a1) = true := decide_eq_true c6
   clear c6
   (first | rw [c6b0] | (simp only [i64_w, i32_w]; rw [c6b0]) | skip)
   have H' := Aside0.mk H
   clear H
   have hnb7 := NB341_342.out
   have hnc7 := NB342_341.out
   have hcz8_0 : w5.cell? ⟨gb341, 0, none⟩ = some (.int .i64 a0_0) := (blk_cell BK341.out 0).trans rfl
   have hcz8_1 : w5.cell? ⟨gb341, 1, none⟩ = some (.int .i64 a0_1) := (blk_cell BK341.out 1).trans rfl
   have hfz8_0 := blk_frozen BK341.out 0
   have hfz8_1 := blk_frozen BK341.out 1
   go_wp2
   go_meet
   case rel => exact ⟨_, (wrap64 (-a0_0)), H', ⟨by first | omega | exact Nat.le_refl _⟩, ⟨by (with_reducible repeat (first | refine blk_drewN ?_ _ | refine blk_drew ?_ | refine blk_alloc ?_ _)); refine blk_put (cs := #[.int .i64 a0_0, .int .i64 a0_1]) ?_ 0 _ rfl; (with_reducible repeat (first | refine blk_drewN ?_ _ | refine blk_drew ?_ | refine blk_alloc ?_ _)); exact BK341.out⟩, ⟨by (with_reducible repeat (first | refine blk_drewN ?_ _ | refine blk_drew ?_ | refine blk_alloc ?_ _)); refine blk_far ?_ NB342_341.out _; (with_reducible repeat (first | refine blk_drewN ?_ _ | refine blk_drew ?_ | refine blk_alloc ?_ _)); exact BK342.out⟩, ⟨bl2_ GE341.out GE342.out⟩⟩
  ·rw [if_neg c6] at H
   have c6b0 : decide (4 ≤ a1) = false := decide_eq_false c6
   clear c6
   (first | rw [c6b0] | (simp only [i64_w, i32_w]; rw [c6b0]) | skip)
   have H' := Aside0.mk H
   clear H
   go_wp2
   go_meet
   case rel => exact ⟨_, (a0_0), H', ⟨by first | omega | exact Nat.le_refl _⟩, ⟨bk_ BK341.out⟩, ⟨bk_ BK342.out⟩, ⟨bl2_ GE341.out GE342.out⟩⟩
 case rest =>
  clear HC3
  try clear p2
  try clear c6
  try clear c6b0
  try clear p6
  try clear c7
  try clear hcz8_0
  try clear hcz8_1
  try clear hfz8_0
  try clear hfz8_1
  obtain ⟨kq, x342000_2, HA, HJ2, BK341, BK342, HB⟩ := hcut
  cases kq with
  | zero => exact absurd HA.out (by simp [impl_turnCell.j0])
  | succ kj2 =>
   have H := HA.out
   clear HA
   simp only [impl_turnCell.j0] at H
   have H' := Aside0.mk H
   clear H
   go_wp2
   go_loopg [13] kj2 (fun kq v13 w' => ∃ (x13_2 : Int) (x342000_2 : Int) (x342001_2 : Int), v13 = .int .i64 x13_2 ∧ Aside0 (impl_turnCell.l0 kq (Int.tmod a1 4) x13_2 x342000_2 x342001_2 = some (r1, r2)) ∧ Aside0 (kq ≤ kj2) ∧ Aside0 (w'.heap[gb341]? = some (.cells #[.int .i64 x342000_2, .int .i64 x342001_2] 78 (0, 0))) ∧ Aside0 (w'.heap[gb342]? = some (.cells #[.int .i64 0, .int .i64 0] 78 (0, 0))) ∧ Aside0 (Below w.heap.size w w'))
   case atStart => exact ⟨(0), (x342000_2), (a0_1), rs_, H', ⟨Nat.le_refl _⟩, ⟨bk_ BK341.out⟩, ⟨bk_ BK342.out⟩, ⟨bl2_ GE341.out GE342.out⟩⟩
   case round =>
    clear H'
    try clear p2
    try clear c6
    try clear c6b0
    try clear p6
    try clear c7
    try clear hcz8_0
    try clear hcz8_1
    try clear hfz8_0
    try clear hfz8_1
    try clear p2
    try clear p6
    obtain ⟨x13_2, x342000_2, x342001_2, rfl, HA, HK2, BK341, BK342, HB⟩ := hrel
    cases gk with
    | zero => exact absurd HA.out (by simp [impl_turnCell.l0])
    | succ k2 =>
     have H := HA.out
     clear HA
     simp only [impl_turnCell.l0] at H
     by_cases c9 : x13_2 < (Int.tmod a1 4)
     ·rw [if_pos c9] at H
      have c9b0 : decide (x13_2 < (Int.tmod a1 4)) = true := decide_eq_true c9
      clear c9
      have H' := Aside0.mk H
      clear H
      have hnb10 := NB341_342.out
      have hnc10 := NB342_341.out
      have hcz11_0 : wr.cell? ⟨gb341, 0, none⟩ = some (.int .i64 x342000_2) := (blk_cell BK341.out 0).trans rfl
      have hcz11_1 : wr.cell? ⟨gb341, 1, none⟩ = some (.int .i64 x342001_2) := (blk_cell BK341.out 1).trans rfl
      have hfz11_0 := blk_frozen BK341.out 0
      have hfz11_1 := blk_frozen BK341.out 1
      go_wp2
      go_roundg k2
      case measure => have := HJ2.out; have := HK2.out; omega
      case rel => exact ⟨(wrap64 (x13_2 + 1)), (wrap64 (-x342001_2)), (x342000_2), rs_, H', ⟨by have := HJ2.out; have := HK2.out; omega⟩, ⟨by (with_reducible repeat (first | refine blk_drewN ?_ _ | refine blk_drew ?_ | refine blk_alloc ?_ _)); refine blk_put (cs := #[.int .i64 (wrap64 (-x342001_2)), .int .i64 x342001_2]) ?_ 1 _ rfl; (with_reducible repeat (first | refine blk_drewN ?_ _ | refine blk_drew ?_ | refine blk_alloc ?_ _)); refine blk_put (cs := #[.int .i64 x342000_2, .int .i64 x342001_2]) ?_ 0 _ rfl; (with_reducible repeat (first | refine blk_drewN ?_ _ | refine blk_drew ?_ | refine blk_alloc ?_ _)); exact BK341.out⟩, ⟨by (with_reducible repeat (first | refine blk_drewN ?_ _ | refine blk_drew ?_ | refine blk_alloc ?_ _)); refine blk_far ?_ NB342_341.out _; (with_reducible repeat (first | refine blk_drewN ?_ _ | refine blk_drew ?_ | refine blk_alloc ?_ _)); refine blk_far ?_ NB342_341.out _; (with_reducible repeat (first | refine blk_drewN ?_ _ | refine blk_drew ?_ | refine blk_alloc ?_ _)); exact BK342.out⟩, ⟨bl2_ GE341.out GE342.out⟩⟩
     ·rw [if_neg c9] at H
      have c9b0 : decide (x13_2 < (Int.tmod a1 4)) = false := decide_eq_false c9
      clear c9
      simp only [Option.some.injEq, Prod.mk.injEq] at H
      obtain ⟨rfl, rfl⟩ := H
      have hnb12 := NB341_342.out
      have hnc12 := NB342_341.out
      have hcz13_0 : wr.cell? ⟨gb341, 0, none⟩ = some (.int .i64 x342000_2) := (blk_cell BK341.out 0).trans rfl
      have hcz13_1 : wr.cell? ⟨gb341, 1, none⟩ = some (.int .i64 x342001_2) := (blk_cell BK341.out 1).trans rfl
      have hfz13_0 := blk_frozen BK341.out 0
      have hfz13_1 := blk_frozen BK341.out 1
      have hcz14_0 : wr.cell? ⟨gb342, 0, none⟩ = some (.int .i64 0) := (blk_cell BK342.out 0).trans rfl
      have hcz14_1 : wr.cell? ⟨gb342, 1, none⟩ = some (.int .i64 0) := (blk_cell BK342.out 1).trans rfl
      have hfz14_0 := blk_frozen BK342.out 0
      have hfz14_1 := blk_frozen BK342.out 1
      go_wp2
      refine bodyPost_ret (results_cell_row rfl _ _ gb342 78 #[.int .i64 x342000_2, .int .i64 x342001_2] (0, 0) _ rfl (by (with_reducible repeat (first | refine blk_drewN ?_ _ | refine blk_drew ?_ | refine blk_alloc ?_ _)); refine blk_put (cs := #[.int .i64 x342000_2, .int .i64 0]) ?_ 1 _ rfl; (with_reducible repeat (first | refine blk_drewN ?_ _ | refine blk_drew ?_ | refine blk_alloc ?_ _)); refine blk_put (cs := #[.int .i64 0, .int .i64 0]) ?_ 0 _ rfl; (with_reducible repeat (first | refine blk_drewN ?_ _ | refine blk_drew ?_ | refine blk_alloc ?_ _)); exact BK342.out) Tryd.underlying78 rfl kr_) rfl ?_
      exact ⟨er_, bl2_ GE341.out GE342.out⟩

/-! ### impl_sorted: function 78 -/
/-! Cells sorted by the library: the order is total, so there is one sorted row. -/
def encC (x : S78) : List Value := [.int .i64 x.f0, .int .i64 x.f1]
instance : Inhabited S78 := ⟨z78⟩
def cfC (x y : S78) : Int := (impl_compareCells.f x.f0 x.f1 y.f0 y.f1).getD 0
def ltC (x y : S78) : Bool := decide (x.f1 < y.f1) || (decide (x.f1 = y.f1) && decide (x.f0 < y.f0))
theorem cmpI_some (a b : Int) : cmp_Compare_int64.f a b = some (if a < b then -1 else if a > b then 1 else 0) := by
 have h : ∀ x : Int, cmp_isNaN_int64.f x = some false := fun x => by simp [cmp_isNaN_int64.f]
 unfold cmp_Compare_int64.f
 rw [h, h]
 simp only [Option.bind_some, Bool.false_eq_true, if_false]
 split
 ·rfl
 ·split <;> rfl
theorem cfC_some (x y : S78) : impl_compareCells.f x.f0 x.f1 y.f0 y.f1 = some (cfC x y) := by
 have h : ∃ r, impl_compareCells.f x.f0 x.f1 y.f0 y.f1 = some r := by
  unfold impl_compareCells.f
  rw [cmpI_some, cmpI_some]
  simp only [Option.bind_some]
  repeat' split
  all_goals exact ⟨_, rfl⟩
 obtain ⟨r, h⟩ := h
 unfold cfC
 rw [h]
 rfl
theorem cfC_lt (x y : S78) : ltOf cfC x y = ltC x y := by
 unfold ltOf ltC cfC impl_compareCells.f
 rw [cmpI_some, cmpI_some]
 simp only [Option.bind_some]
 by_cases a : x.f1 < y.f1
 ·simp [a]
 ·by_cases b : x.f1 = y.f1
  ·by_cases c : x.f0 < y.f0
   ·simp [b, c]
   ·by_cases d : y.f0 < x.f0 <;> simp [b, c, d]
  ·have d : x.f1 > y.f1 := by omega
   simp [a, b, d]
theorem ltC_iff (x y : S78) : ltC x y = true ↔ x.f1 < y.f1 ∨ (x.f1 = y.f1 ∧ x.f0 < y.f0) := by
 unfold ltC
 simp only [Bool.or_eq_true, Bool.and_eq_true, decide_eq_true_eq]
theorem ltC_swo : Sort.SWO (ltOf cfC) where
 irrefl x := by rw [cfC_lt, Bool.eq_false_iff]; intro h; rw [ltC_iff] at h; omega
 trans x y z h1 h2 := by rw [cfC_lt, ltC_iff] at *; omega
 ntrans x y z h1 h2 := by rw [cfC_lt, Bool.eq_false_iff, Ne, ltC_iff] at *; omega
theorem ltC_total (x y : S78) (h1 : ltOf cfC x y = false) (h2 : ltOf cfC y x = false) : x = y := by
 rw [cfC_lt, Bool.eq_false_iff, Ne, ltC_iff] at *
 obtain ⟨a, b⟩ := x
 obtain ⟨c, d⟩ := y
 simp only at h1 h2
 have e1 : a = c := by omega
 have e2 : b = d := by omega
 rw [e1, e2]
def sortC (l : List S78) : List S78 := l.mergeSort fun x y => !(ltOf cfC) y x
set_option maxHeartbeats 2000000 in
theorem compareCells_grow (a0 a1 b0 b1 r : Int) (h : impl_compareCells.f a0 a1 b0 b1 = some r) (W : World) : Calls Tryd.prog 76 #[.agg #[.int .i64 a0, .int .i64 a1], .agg #[.int .i64 b0, .int .i64 b1]] W fun e w' => e = .returned (.int .i64 r) ∧ ∃ q os', w' = Sort.grow (W.drewN q) os' := by
 unfold impl_compareCells.f at h
 obtain ⟨t, h1, h2⟩ := Option.bind_eq_some_iff.mp h
 have c1 := fun W' => cmp_Compare_int64.calls a1 b1 t W' h1
 by_cases c : t = 0
 ·rw [if_pos c] at h2
  obtain ⟨u, h3, h4⟩ := Option.bind_eq_some_iff.mp h2
  obtain rfl := Option.some.inj h4
  have c2 := fun W' => cmp_Compare_int64.calls a0 b0 u W' h3
  subst c
  clear h h1 h2 h3 h4
  go_enter Tryd.func76, Tryd.ntmps76
  go_wp2_with (first | (go_at_call 110; ((with_reducible refine (c1 _).mono ?_); rintro e w' ⟨rfl, n1, rfl⟩)) | (go_at_call 110; ((with_reducible refine (c2 _).mono ?_); rintro e w' ⟨rfl, n2, rfl⟩)))
  go_ret
  exact ⟨rfl, n1 + n2, _, by rw [Sort.alloc_eq_grow, Sort.alloc_eq_grow, Sort.grow_grow]; rfl⟩
 ·rw [if_neg c] at h2
  obtain rfl := Option.some.inj h2
  have b0 : (t == 0) = false := beq_eq_false_iff_ne.mpr c
  have b1 : (t != 0) = true := bne_iff_ne.mpr c
  clear h h1 h2 c
  go_enter Tryd.func76, Tryd.ntmps76
  go_wp2_with (go_at_call 110; ((with_reducible refine (c1 _).mono ?_); rintro e w' ⟨rfl, n1, rfl⟩))
  go_ret
  exact ⟨rfl, n1, _, by rw [Sort.alloc_eq_grow, Sort.alloc_eq_grow, Sort.grow_grow]; rfl⟩
theorem sorted_rest (w w1 : World) (l : List S78) (g cap : Nat) (hown : w1.ownsRow w.heap.size 78 2 (.slice (some ⟨g, 0, none⟩) l.length cap) l.length (Sort.flatK encC 2 l.toArray).toList) (hb : Below w.heap.size w w1) (hl : l.length < 4611686018427387904) :
  Calls Tryd.prog 112 #[.slice (some ⟨g, 0, none⟩) l.length cap, .func (.func 76) #[] #[]] w1 fun e w' => e = .returned (.tuple #[]) ∧ Kd.R k78 78 w' w.heap.size (fun _ => True) (.slice (some ⟨g, 0, none⟩) l.length cap) (sortC l) ∧ Below w.heap.size w w' := by
 have hk : ∀ x, (encC x).length = 2 := fun _ => rfl
 obtain ⟨hH, hlt, hbase, hnext⟩ := own_sort encC 2 hk (by omega) (d := l.toArray) (by simp) hown (flatK_reps encC 2 hk (by omega) l.toArray)
 have eg : ∀ args w, (callFunc 76 args).run Tryd.prog w = .ok (.enter 76 args) w := enters_of Tryd.func76 kr_ rfl
 have hcmp : CmpLays Tryd.prog 76 #[] encC 2 cfC g 0 l.toArray.size w1 := fun _ _ _ _ x y => compareCells_grow x.f0 x.f1 y.f0 y.f1 _ (cfC_some x y) _
 have h := AnyQ.slices_SortFunc_total Tryd.sortC 2 Tryd.isAgg78 Tryd.sizeOf78 encC hk (fun x v hv => by simp [encC] at hv; rcases hv with rfl | rfl <;> rfl) cfC ltC_swo 76 #[] g 0 cap l.toArray w1 eg hcmp hH hlt (by simpa using hl) ltC_total
 change Calls Tryd.prog 112 _ _ _ at h
 simp only [List.size_toArray] at h
 refine h.mono ?_
 rintro e w' ⟨rfl, n, os, rfl⟩
 have hs : (sortC l).length = l.length := List.length_mergeSort _
 have ho := hnext n (sortC l).toArray os (by simpa using hs)
 refine ⟨rfl, ⟨fun _ _ => trivial, _, ?_, (flatK_reps encC 2 hk (by omega) (sortC l).toArray).imp_ (fun p c hc => ?_)⟩, sortWorldK_below encC 2 w1 g n _ os hb hbase hlt⟩
 ·rw [hs]; exact ho
 ·rw [hc]; exact k78_mkM _ _ _ p
def impl_sorted.f (l0 : List S78) : Option (List S78) := if 0 < l0.length ∧ l0.length * 16 ≤ 140737488355328 then some (sortC l0) else none
set_option maxHeartbeats 2000000 in
theorem impl_sorted.calls (A0 : Option Addr) (c0 : Nat) (l0 : List S78) (r : List S78) (w : World) (hr0 : Kd.C k78 w A0 l0.length l0) (hc0 : l0.length ≤ c0) (h : impl_sorted.f l0 = some r) :
  Calls Tryd.prog 78 #[.slice A0 l0.length c0] w fun e w' => ∃ v0_ : Value, e = .returned (v0_) ∧ Kd.R k78 78 w' w.heap.size (fun _ => True) v0_ r ∧ Below w.heap.size w w' := by
 unfold impl_sorted.f at h
 split at h
 ·rename_i hc
  obtain rfl := Option.some.inj h
  clear h
  have hk : ∀ x, (encC x).length = 2 := fun _ => rfl
  obtain ⟨hlr, hmax, hread0⟩ := hr0
  obtain ⟨ad, eA, hread⟩ := hread0 hc.1
  subst eA
  have hflat := reads_flat encC 2 hk (by omega) (w := w) (ad := ad) (xs := l0) (fun j p hj i u hu => by
   obtain ⟨c, hcl, hK, hcell⟩ := hread j p hj
   exact hcell i u (by rw [k78_open hK]; exact hu))
  have had : ad = ⟨ad.block, ad.off, none⟩ := by
   have h0 := hflat 0 ((Sort.flatK encC 2 l0.toArray).toList[0]'(by simp; omega)) (List.getElem?_eq_getElem _)
   rw [show ad.add 0 = ad by simp [Addr.add]] at h0
   exact spot_none h0
  generalize ad.block = b at had
  generalize ad.off = o at had
  subst had
  obtain ⟨i0, hi, hzz⟩ := Option.map_eq_some_iff.1 (show (Tryd.prog.info? 78).map (fun i => (i.zero, i.size, i.bytes)) = some (some (.agg #[.int .i64 0, .int .i64 0]), 2, 16) by kernel_rfl)
  simp only [Prod.mk.injEq] at hzz
  obtain ⟨hz0, hz1, hz2⟩ := hzz
  have hcl := AnyE.slices_Clone Tryd.cloneC i0 _ 2 16 hi hz0 hz1 hz2 rfl (by omega) Tryd.sizeOf78 b o l0.length c0 (Sort.flatK encC 2 l0.toArray).toList w (by simp) (by simp only [maxLen]; omega) (by omega) (fun j u hj => by
   have := hflat j u hj
   rwa [show (⟨b, o, none⟩ : Addr).add j = ⟨b, o + j, none⟩ by unfold Addr.add; split <;> simp_all] at this) (fun u hu => by
   obtain ⟨t, ht, rfl⟩ := List.getElem_of_mem hu
   have hlt : t < l0.length * 2 := by simpa using ht
   have e := (flatK_reps encC 2 hk (by omega) l0.toArray).2 (t / 2) (l0[t / 2]'(by omega)) (List.getElem?_eq_getElem (by simp; omega))
   have e2 : (((Sort.flatK encC 2 l0.toArray).toList.drop (t / 2 * 2)).take 2)[t % 2]? = some ((Sort.flatK encC 2 l0.toArray).toList[t]) := by
    rw [List.getElem?_take_of_lt (by omega), List.getElem?_drop, show t / 2 * 2 + t % 2 = t by omega, List.getElem?_eq_getElem ht]
   simp only [] at e
   rw [e] at e2
   have hm := List.mem_of_getElem? e2
   simp only [encC, List.mem_cons, List.not_mem_nil, or_false] at hm
   rcases hm with hm | hm <;> rw [hm] <;> rfl)
  change Calls Tryd.prog 111 _ _ _ at hcl
  have hlen : l0.length < 4611686018427387904 := by omega
  have HL := Aside0.mk hlen
  clear hi hz0 hz1 hz2 hflat hread hread0 hlr hmax hc hc0 hk hlen
  go_enter Tryd.func78, Tryd.ntmps78
  go_wp2_with (first | (go_at_call 111; ((with_reducible refine hcl.mono ?_); rintro e w1 ⟨v', rfl, hown, hne, hb⟩; obtain ⟨g, cap, rfl⟩ := own_shape 2 hown hne; have HO := Aside0.mk hown; have HB := Aside0.mk hb; clear hown hne hb)) | (go_at_call 112; (refine (sorted_rest w _ l0 g cap HO.out HB.out HL.out).mono ?_; rintro e w2 ⟨rfl, hR, hb⟩; have HR := Aside0.mk hR; have HB2 := Aside0.mk hb; clear hR hb)))
  go_ret
  exact ⟨_, rfl, HR.out, HB2.out⟩
 ·cases h


/-! ### impl_form: function 44 -/
def impl_form.l0 : Nat → Int → List (S78) → List (S78) → Int → Int → Option ((List (S78)))
 | 0, _, _, _, _, _ => none
 | k + 1, x1, x5, x11, x12, x13 => if x13 < x12 then (if 0 ≤ x13 then (if x13 < (x11.length : Int) then ((impl_turnCell.f k ((rd_T78 x11 x13).f0) ((rd_T78 x11 x13).f1) x1).bind fun bt348 => (if x5.length < 8796093022208 then (impl_form.l0 k x1 (x5 ++ [(⟨bt348.1, bt348.2⟩ : S78)]) x11 x12 (wrap64 (x13 + 1))) else (none))) else (none)) else (none)) else ((impl_sorted.f x5).bind fun t353 => ((impl_normal.f k t353).bind fun t356 => (some t356)))
def impl_form.f (k : Nat) (l0 : List (S78)) (a1 : Int) : Option ((List (S78))) := if 0 ≤ (l0.length : Int) then (if ((l0.length : Int) : Int).toNat ≤ 17592186044416 then (impl_form.l0 k a1 (([] : List (S78))) l0 (l0.length : Int) 0) else (none)) else (none)
theorem impl_form.mono_l : ∀ k, (∀ y0 y1 y2 y3 y4, LeO (impl_form.l0 k y0 y1 y2 y3 y4) (impl_form.l0 (k + 1) y0 y1 y2 y3 y4))
 | 0 => fun _ _ _ _ _ r h => by simp [impl_form.l0] at h
 | k + 1 => by
  have ih0 := impl_form.mono_l k
  ·intro y0 y1 y2 y3 y4
   unfold impl_form.l0
   repeat' first
   | (with_reducible exact ih0 _ _ _ _ _)
   | (with_reducible exact impl_normal.mono _ _)
   | (with_reducible exact impl_turnCell.mono _ _ _ _)
   | (with_reducible exact LeO.refl _)
   | (with_reducible exact LeO.none _)
   | (with_reducible refine LeO.ite ?_ ?_)
   | (with_reducible refine LeO.bind ?_ (fun _ => ?_))
   | exact ih0 _ _ _ _ _
   | exact impl_normal.mono _ _
   | exact impl_turnCell.mono _ _ _ _
   | exact LeO.none _
   | refine LeO.ite ?_ ?_
   | refine LeO.bind ?_ (fun _ => ?_)
theorem impl_form.mono : ∀ a0 a1 k, LeO (impl_form.f k a0 a1) (impl_form.f (k + 1) a0 a1) := by
 intro a0 a1 k
 have ih0 := impl_form.mono_l k
 unfold impl_form.f
 repeat' first
   | (with_reducible exact ih0 _ _ _ _ _)
   | (with_reducible exact impl_normal.mono _ _)
   | (with_reducible exact impl_turnCell.mono _ _ _ _)
   | (with_reducible exact LeO.refl _)
   | (with_reducible exact LeO.none _)
   | (with_reducible refine LeO.ite ?_ ?_)
   | (with_reducible refine LeO.bind ?_ (fun _ => ?_))
   | exact ih0 _ _ _ _ _
   | exact impl_normal.mono _ _
   | exact impl_turnCell.mono _ _ _ _
   | exact LeO.none _
   | refine LeO.ite ?_ ?_
   | refine LeO.bind ?_ (fun _ => ?_)
set_option maxHeartbeats 8000000 in
set_option maxRecDepth 100000 in
theorem impl_form.calls (k : Nat) (A0 : Option Addr) (c0 : Nat) (l0 : List (S78)) (a1 : Int) (r : List (S78)) (w : World) (hr0 : Kd.C k78 w A0 l0.length l0) (hc0 : l0.length ≤ c0) (h : impl_form.f k l0 a1 = some r) :
  Calls Tryd.prog 44 #[.slice A0 l0.length c0, .int .i64 a1] w fun e w' => ∃ v0_ : Value, e = .returned (v0_) ∧ Kd.R k78 78 w' w.heap.size (fun _ => True) v0_ r ∧ Below w.heap.size w w' := by
 have hu78 := Tryd.underlying78
 have HR0 := Aside0.mk hr0
 have HC0 := Aside0.mk hc0
 clear hr0 hc0
 have HB := Aside0.mk (Below.refl w.heap.size w)
 have H : (if 0 ≤ (l0.length : Int) then (if ((l0.length : Int) : Int).toNat ≤ 17592186044416 then (impl_form.l0 k a1 (([] : List (S78))) l0 (l0.length : Int) 0) else (none)) else (none)) = some r := h
 clear h
 by_cases c3 : 0 ≤ (l0.length : Int)
 ·rw [if_pos c3] at H
  have c3b0 := eq_true c3
  have c3b1 : decide (0 ≤ (l0.length : Int)) = true := decide_eq_true c3
  clear c3
  by_cases c4 : ((l0.length : Int) : Int).toNat ≤ 17592186044416
  ·rw [if_pos c4] at H
   have c4b0 := eq_true c4
   have c4b1 : decide (((l0.length : Int) : Int).toNat ≤ 17592186044416) = true := decide_eq_true c4
   clear c4
   obtain ⟨y343, hy343⟩ : ∃ y_ : List (S78), y_ = (([] : List (S78))) := ⟨_, rfl⟩
   replace H : (impl_form.l0 k a1 y343 l0 (l0.length : Int) 0) = some r := by first | (rw [hy343]; with_reducible exact H) | (have H2_ := (Option.bind_some _ _).symm.trans H; rw [hy343]; with_reducible exact H2_) | (have H2_ := (Option.bind_some _ _).symm.trans H; with_reducible exact H2_) | with_reducible exact H | (rw [hy343]; exact H) | exact H
   have Ny343 := Aside0.mk hy343
   clear hy343
   have H' := Aside0.mk H
   clear H
   go_enter Tryd.func44, Tryd.ntmps44
   go_wp2_with (first | ((with_reducible refine gate_dst (N := 10) rfl ?_); refine Kd.R_make0 k78 _ 78 rfl (N := 10) rfl 24 _ _ rfl (l0.length : Int) rfl rfl Tryd.underlying24 (.agg #[(.int .i64 0), (.int .i64 0)]) 16 info78 rfl (by decide) (ok := fun _ => True) trivial (od_) (Nat.le_trans (Nat.mul_le_mul_right _ (od_ : (l0.length : Int).toNat ≤ 17592186044416)) (by omega)) (Below.refl _ _) (Nat.le_refl _) ?_; intro v344 w5 ho6 hb hg_ hnew_; clear hg_ hnew_; (first | rw [← Ny343.out] at ho6 | (simp only [Int.reduceToNat] at ho6; rw [← Ny343.out] at ho6)); have n0_ := Aside0.mk (Kd.R_lower ho6 (below_size (bl0_))); have n1_ := Aside0.mk (below_step (bl0_) hb); clear HB; have HO345 := n0_; have HB := n1_; clear n0_ n1_; clear hb ho6))
   go_loopg [5, 13] k (fun kq v5 v13 w' => ∃ (x5_1 : List (S78)) (x13_1 : Int), v13 = .int .i64 x13_1 ∧ Aside0 (impl_form.l0 kq a1 x5_1 l0 (l0.length : Int) x13_1 = some r) ∧ Aside0 (kq ≤ k) ∧ Aside0 (Kd.R k78 78 w' w.heap.size (fun _ => True) v5 x5_1) ∧ Aside0 (Below w.heap.size w w'))
   case atStart => exact ⟨(y343), (0), rs_, H', ⟨Nat.le_refl _⟩, ⟨ra_ HO345.out⟩, ⟨bl0_⟩⟩
   case round =>
    clear H'
    try clear p2
    try clear c3
    try clear c3b0
    try clear c3b1
    try clear c4
    try clear c4b0
    try clear c4b1
    obtain ⟨x5_1, x13_1, rfl, HA, HK1, HO_5, HB⟩ := hrel
    cases gk with
    | zero => exact absurd HA.out (by simp [impl_form.l0])
    | succ k1 =>
     have H := HA.out
     clear HA
     simp only [impl_form.l0] at H
     by_cases c7 : x13_1 < (l0.length : Int)
     ·rw [if_pos c7] at H
      have c7b0 : decide (x13_1 < (l0.length : Int)) = true := decide_eq_true c7
      clear c7
      by_cases c8 : 0 ≤ x13_1
      ·rw [if_pos c8] at H
       have c8b0 : decide (0 ≤ x13_1) = true := decide_eq_true c8
       clear c8
       by_cases c9 : x13_1 < (l0.length : Int)
       ·rw [if_pos c9] at H
        have c9b0 : decide (x13_1 < (l0.length : Int)) = true := decide_eq_true c9
        clear c9
        replace H := Option.bind_eq_some_iff.mp H
        obtain ⟨⟨t348, t349⟩, A100, H⟩ := H
        replace H : (if x5_1.length < 8796093022208 then (impl_form.l0 k1 a1 (x5_1 ++ [(⟨t348, t349⟩ : S78)]) l0 (l0.length : Int) (wrap64 (x13_1 + 1))) else (none)) = some r := H
        have A10 := Aside0.mk A100
        clear A100
        by_cases c11 : x5_1.length < 8796093022208
        ·rw [if_pos c11] at H
         have LMc11 := Aside0.mk c11
         clear c11
         obtain ⟨y350, hy350⟩ : ∃ y_ : List (S78), y_ = (x5_1 ++ [(⟨t348, t349⟩ : S78)]) := ⟨_, rfl⟩
         replace H : (impl_form.l0 k1 a1 y350 l0 (l0.length : Int) (wrap64 (x13_1 + 1))) = some r := by first | (rw [hy350]; with_reducible exact H) | (have H2_ := (Option.bind_some _ _).symm.trans H; rw [hy350]; with_reducible exact H2_) | (have H2_ := (Option.bind_some _ _).symm.trans H; with_reducible exact H2_) | with_reducible exact H | (rw [hy350]; exact H) | exact H
         have Ny350 := Aside0.mk hy350
         clear hy350
         have H' := Aside0.mk H
         clear H
         have p346 : 0 ≤ (x13_1 : Int) := od_
         have q346 : x13_1 < (l0.length : Int) := od_
         obtain ⟨ad346, e346, hx346_0, hx346_1⟩ := at_T78 HR0.out x13_1 p346 q346
         cases e346
         replace hx346_0 := (HB.out.cell (World.block_lt_of_cell? w _ hx346_0)).trans hx346_0
         replace hx346_1 := (HB.out.cell (World.block_lt_of_cell? w _ hx346_1)).trans hx346_1
         replace p346 := eq_true p346
         replace q346 := eq_true q346
         go_wp2_with (first | ((with_reducible refine gate_dst (N := 7) rfl ?_); refine box_event ?hg (N := 7) ?hd (cs := #[.int .i64 0, .int .i64 0]) (t := 78) ?hr ?_; (case hd => rfl); (case hg => rfl); (case hr => first | (go_simp; done) | (go_simp; rfl)); intro gb347 hg w12 hbox hb; have n0_ := Aside0.mk (Kd.R_below (Kd.R_elderB (ra_ HO_5.out) gb347 (Nat.le_of_eq hg.symm)) hb); have n1_ := Aside0.mk (below_step (bl0_) hb); have n2_ := Aside0.mk (hbox); have n3_ := Aside0.mk ((sz_ hg (bl0_) : w.heap.size ≤ gb347)); have n4_ := Aside0.mk ((sz_ hg (bl0_) : w.heap.size ≤ gb347)); clear HO_5; clear HB; have HO_5 := n0_; have HB := n1_; have BK347 := n2_; have GW347 := n3_; have GE347 := n4_; clear n0_ n1_ n2_ n3_ n4_; clear hb hbox hg; have hcz13_0 : w12.cell? ⟨gb347, 0, none⟩ = some (.int .i64 0) := (blk_cell BK347.out 0).trans rfl; have hcz13_1 : w12.cell? ⟨gb347, 1, none⟩ = some (.int .i64 0) := (blk_cell BK347.out 1).trans rfl; have hfz13_0 := blk_frozen BK347.out 0; have hfz13_1 := blk_frozen BK347.out 1) | ((with_reducible refine gate_callee (f := 77) rfl ?_); refine goesL_ (some 20) rfl rfl Tryd.func77 kr_ rfl #[.agg #[.int .i64 ((rd_T78 l0 x13_1).f0), .int .i64 ((rd_T78 l0 x13_1).f1)], .int .i64 a1] rfl ta_ ?_; (with_reducible refine (impl_turnCell.calls k1 ((rd_T78 l0 x13_1).f0) ((rd_T78 l0 x13_1).f1) a1 t348 t349 _ A10.out).mono ?_); rintro e w14 ⟨rfl, hb⟩; refine ⟨_, rfl, ?_⟩; have n0_ := Aside0.mk (Kd.R_below (by (with_reducible repeat (first | apply Kd.R_alloc | apply Kd.R_drewN | apply Kd.R_drew)); exact (Kd.R_mono (Kd.R_far (p := ⟨gb347, 1, none⟩) (Kd.R_far (p := ⟨gb347, 0, none⟩) (Kd.R_mono HO_5.out (fun k_ hk => (⟨hk, hk.2⟩ : _ ∧ k_ ≠ gb347))) (fun _ hk => hk.2) (.int .i64 ((rd_T78 l0 x13_1).f0))) (fun _ hk => hk.2) (.int .i64 ((rd_T78 l0 x13_1).f1))) (fun _ h_ => h_.1))) hb); have n1_ := Aside0.mk (blk_below (g := gb347) (o := .cells #[.int .i64 ((rd_T78 l0 x13_1).f0), .int .i64 ((rd_T78 l0 x13_1).f1)] 78 (0, 0)) (by (with_reducible repeat (first | refine blk_drewN ?_ _ | refine blk_drew ?_ | refine blk_alloc ?_ _)); refine blk_put (cs := #[.int .i64 ((rd_T78 l0 x13_1).f0), .int .i64 0]) ?_ 1 _ rfl; (with_reducible repeat (first | refine blk_drewN ?_ _ | refine blk_drew ?_ | refine blk_alloc ?_ _)); refine blk_put (cs := #[.int .i64 0, .int .i64 0]) ?_ 0 _ rfl; (with_reducible repeat (first | refine blk_drewN ?_ _ | refine blk_drew ?_ | refine blk_alloc ?_ _)); exact BK347.out) hb); have n2_ := Aside0.mk (below_step (bl1_ GE347.out) hb); clear HO_5; clear BK347; clear HB; have HO_5 := n0_; have BK347 := n1_; have HB := n2_; clear n0_ n1_ n2_; (try clear hb); (try clear hb2); (try clear hk); (try clear hi)) | ((with_reducible refine gate_builtin (b := .append) (xs := #[.tmp 17, .tmp 21]) rfl ?_); at_builtin; refine Kd.R_append k78 (w0 := w) w.heap.size rfl (.tmp 17) (.tmp 21) 24 78 (.agg #[(.int .i64 0), (.int .i64 0)]) 16 rfl Tryd.underlying24 info78 rfl (by decide) (by omega) u5 x5_1 (⟨t348, t349⟩ : S78) [.int .i64 t348, .int .i64 t349] (fun k_ => k_ ≠ gb347) (fun _ => False) rfl rfl ?aP (fun _ hk => hk.elim) ?aF ?aO ?aB ?aS ?aL ?_; (case aP => exact k78_mkM _ _ _ (⟨t348, t349⟩ : S78)); (case aB => exact (bl1_ GE347.out)); (case aF => exact (fun k_ hk => Kd.freshB (g := gb347) (o := .cells #[.int .i64 ((rd_T78 l0 x13_1).f0), .int .i64 ((rd_T78 l0 x13_1).f1)] 78 (0, 0)) (bk_ BK347.out) k_ hk)); (case aO => exact (by (with_reducible repeat (first | apply Kd.R_alloc | apply Kd.R_drewN | apply Kd.R_drew)); exact Kd.R_mono HO_5.out (fun _ hk => hk.2))); (case aS => exact (below_size (bl1_ GE347.out))); (case aL => have := LMc11.out; omega); intro v351 w15 ho hb hg hat; rw [← Ny350.out] at ho; have n0_ := Aside0.mk (blk_grown (g := gb347) (o := .cells #[.int .i64 ((rd_T78 l0 x13_1).f0), .int .i64 ((rd_T78 l0 x13_1).f1)] 78 (0, 0)) (bk_ BK347.out) hg (Kd.R_away HO_5.out (fun _ hk => hk.2))); have n1_ := Aside0.mk (hb); have n2_ := Aside0.mk (ho); clear BK347; clear HB; clear HO_5; have BK347 := n0_; have HB := n1_; have HO352 := n2_; clear n0_ n1_ n2_; clear ho hb hg hat))
         go_roundg k1
         case measure => have := HK1.out; omega
         case rel => exact ⟨(y350), (wrap64 (x13_1 + 1)), rs_, H', ⟨by have := HK1.out; omega⟩, ⟨by (with_reducible repeat (first | apply Kd.R_alloc | apply Kd.R_drewN | apply Kd.R_drew)); exact Kd.R_mono HO352.out (fun _ hk => trivial)⟩, ⟨bl1_ GE347.out⟩⟩
        ·rw [if_neg c11] at H
         exact absurd H (by simp)
       ·rw [if_neg c9] at H
        exact absurd H (by simp)
      ·rw [if_neg c8] at H
       exact absurd H (by simp)
     ·rw [if_neg c7] at H
      have c7b0 : decide (x13_1 < (l0.length : Int)) = false := decide_eq_false c7
      clear c7
      replace H := Option.bind_eq_some_iff.mp H
      obtain ⟨t353, A160, H⟩ := H
      replace H : ((impl_normal.f k1 t353).bind fun t356 => (some t356)) = some r := H
      have A16 := Aside0.mk A160
      clear A160
      replace H := Option.bind_eq_some_iff.mp H
      obtain ⟨t356, A170, H⟩ := H
      replace H : (some t356) = some r := H
      have A17 := Aside0.mk A170
      clear A170
      obtain rfl := Option.some.inj H
      obtain ⟨Ao18, co18, eo18⟩ := Kd.R_slice HO_5.out
      subst eo18
      go_wp2_with (first | ((with_reducible refine gate_callee (f := 78) rfl ?_); refine goesL_ (some 25) rfl rfl Tryd.func78 kr_ rfl #[.slice Ao18 x5_1.length co18] rfl ta_ ?_; (with_reducible refine (impl_sorted.calls _ _ x5_1 t353 _ ?side1 ?side2 A16.out).mono ?_); (case side1 => exact ca_ (Kd.R_reads' HO_5.out).2.2); (case side2 => exact (Kd.R_reads' HO_5.out).2.1); rintro e w19 ⟨v354, rfl, ho0, hb⟩; refine ⟨_, rfl, ?_⟩; have n0_ := Aside0.mk (Kd.R_elder' (ra_ HO_5.out) (Kd.R_base ho0) hb); have n1_ := Aside0.mk (Kd.R_lower (Kd.R_new' ho0 (Kd.R_lt (ra_ HO_5.out))) (below_size (bl0_))); have n2_ := Aside0.mk (below_step (bl0_) hb); clear HO_5; clear HB; have HO_5 := n0_; have HO355 := n1_; have HB := n2_; clear n0_ n1_ n2_; (try clear hb); (try clear hb2); (try clear hk); (try clear hi); (try clear ho0); obtain ⟨Ao20, co20, eo20⟩ := Kd.R_slice HO355.out; subst eo20) | ((with_reducible refine gate_callee (f := 64) rfl ?_); refine goesL_ (some 26) rfl rfl Tryd.func64 kr_ rfl #[.slice Ao20 t353.length co20] rfl ta_ ?_; (with_reducible refine (impl_normal.calls k1 _ _ t353 t356 _ ?side1 ?side2 A17.out).mono ?_); (case side1 => exact ca_ (Kd.R_reads' HO355.out).2.2); (case side2 => exact (Kd.R_reads' HO355.out).2.1); rintro e w21 ⟨v357, rfl, ho0, hb⟩; refine ⟨_, rfl, ?_⟩; have n0_ := Aside0.mk (Kd.R_elder' (ra_ HO_5.out) (Kd.R_base ho0) hb); have n1_ := Aside0.mk (Kd.R_elder' (ra_ HO355.out) (Kd.R_base ho0) hb); have n2_ := Aside0.mk (Kd.R_lower (Kd.R_new' (Kd.R_new' ho0 (Kd.R_lt (ra_ HO_5.out))) (Kd.R_lt (ra_ HO355.out))) (below_size (bl0_))); have n3_ := Aside0.mk (below_step (bl0_) hb); clear HO_5; clear HO355; clear HB; have HO_5 := n0_; have HO355 := n1_; have HO358 := n2_; have HB := n3_; clear n0_ n1_ n2_ n3_; (try clear hb); (try clear hb2); (try clear hk); (try clear hi); (try clear ho0)))
      go_ret
      exact ⟨_, er_, by (with_reducible repeat (first | apply Kd.R_alloc | apply Kd.R_drewN | apply Kd.R_drew)); exact Kd.R_mono HO358.out (fun _ hk => trivial), bl0_⟩
  ·rw [if_neg c4] at H
   exact absurd H (by simp)
 ·rw [if_neg c3] at H
  exact absurd H (by simp)

/-! ### impl_TurnShape: function 11 -/
def impl_TurnShape.f (k : Nat) (l0 : List (S78)) (a1 : Int) : Option ((List (S78)) × Int) := (impl_IsShape.f k l0).bind fun t359 => (if t359 = true then ((impl_isTurn.f a1).bind fun t360 => (if t360 = true then ((impl_shapeCode.f k l0).bind fun t361 => (if t361 = 0 then ((impl_form.f k l0 a1).bind fun t362 => (some (t362, 0))) else (some (([] : List (S78)), t361)))) else (some (([] : List (S78)), 2)))) else (some (([] : List (S78)), 1)))
theorem impl_TurnShape.mono : ∀ a0 a1 k, LeO (impl_TurnShape.f k a0 a1) (impl_TurnShape.f (k + 1) a0 a1) := by
 intro a0 a1 k
 unfold impl_TurnShape.f
 repeat' first
   | (with_reducible exact impl_IsShape.mono _ _)
   | (with_reducible exact impl_form.mono _ _ _)
   | (with_reducible exact impl_shapeCode.mono _ _)
   | (with_reducible exact LeO.refl _)
   | (with_reducible exact LeO.none _)
   | (with_reducible refine LeO.ite ?_ ?_)
   | (with_reducible refine LeO.bind ?_ (fun _ => ?_))
   | exact impl_IsShape.mono _ _
   | exact impl_form.mono _ _ _
   | exact impl_shapeCode.mono _ _
   | exact LeO.none _
   | refine LeO.ite ?_ ?_
   | refine LeO.bind ?_ (fun _ => ?_)
set_option maxHeartbeats 8000000 in
set_option maxRecDepth 100000 in
theorem impl_TurnShape.calls (k : Nat) (A0 : Option Addr) (c0 : Nat) (l0 : List (S78)) (a1 : Int) (r1 : List (S78)) (r2 : Int) (w : World) (hr0 : Kd.C k78 w A0 l0.length l0) (hc0 : l0.length ≤ c0) (h : impl_TurnShape.f k l0 a1 = some (r1, r2)) :
  Calls Tryd.prog 11 #[.slice A0 l0.length c0, .int .i64 a1] w fun e w' => ∃ v0_ : Value, e = .returned (.tuple #[v0_, .int .i64 r2]) ∧ Kd.R k78 78 w' w.heap.size (fun _ => True) v0_ r1 ∧ Below w.heap.size w w' := by
 have HR0 := Aside0.mk hr0
 have HC0 := Aside0.mk hc0
 clear hr0 hc0
 have HB := Aside0.mk (Below.refl w.heap.size w)
 have H : ((impl_IsShape.f k l0).bind fun t359 => (if t359 = true then ((impl_isTurn.f a1).bind fun t360 => (if t360 = true then ((impl_shapeCode.f k l0).bind fun t361 => (if t361 = 0 then ((impl_form.f k l0 a1).bind fun t362 => (some (t362, 0))) else (some (([] : List (S78)), t361)))) else (some (([] : List (S78)), 2)))) else (some (([] : List (S78)), 1)))) = some (r1, r2) := h
 clear h
 replace H := Option.bind_eq_some_iff.mp H
 obtain ⟨t359, A30, H⟩ := H
 replace H : (if t359 = true then ((impl_isTurn.f a1).bind fun t360 => (if t360 = true then ((impl_shapeCode.f k l0).bind fun t361 => (if t361 = 0 then ((impl_form.f k l0 a1).bind fun t362 => (some (t362, 0))) else (some (([] : List (S78)), t361)))) else (some (([] : List (S78)), 2)))) else (some (([] : List (S78)), 1))) = some (r1, r2) := H
 have A3 := Aside0.mk A30
 clear A30
 by_cases c4 : t359 = true
 ·subst c4
  have H1 : ((impl_isTurn.f a1).bind fun t360 => (if t360 = true then ((impl_shapeCode.f k l0).bind fun t361 => (if t361 = 0 then ((impl_form.f k l0 a1).bind fun t362 => (some (t362, 0))) else (some (([] : List (S78)), t361)))) else (some (([] : List (S78)), 2)))) = some (r1, r2) := by rw [if_pos rfl] at H; exact H
  clear H
  have H := H1
  clear H1
  replace H := Option.bind_eq_some_iff.mp H
  obtain ⟨t360, A50, H⟩ := H
  replace H : (if t360 = true then ((impl_shapeCode.f k l0).bind fun t361 => (if t361 = 0 then ((impl_form.f k l0 a1).bind fun t362 => (some (t362, 0))) else (some (([] : List (S78)), t361)))) else (some (([] : List (S78)), 2))) = some (r1, r2) := H
  have A5 := Aside0.mk A50
  clear A50
  by_cases c6 : t360 = true
  ·subst c6
   have H1 : ((impl_shapeCode.f k l0).bind fun t361 => (if t361 = 0 then ((impl_form.f k l0 a1).bind fun t362 => (some (t362, 0))) else (some (([] : List (S78)), t361)))) = some (r1, r2) := by rw [if_pos rfl] at H; exact H
   clear H
   have H := H1
   clear H1
   replace H := Option.bind_eq_some_iff.mp H
   obtain ⟨t361, A70, H⟩ := H
   replace H : (if t361 = 0 then ((impl_form.f k l0 a1).bind fun t362 => (some (t362, 0))) else (some (([] : List (S78)), t361))) = some (r1, r2) := H
   have A7 := Aside0.mk A70
   clear A70
   by_cases c8 : t361 = 0
   ·rw [if_pos c8] at H
    have c8b0 : (t361 == 0) = true := beq_iff_eq.mpr c8
    have c8b1 : (t361 != 0) = false := bne_eq_false_iff_eq.mpr c8
    clear c8
    replace H := Option.bind_eq_some_iff.mp H
    obtain ⟨t362, A90, H⟩ := H
    replace H : (some (t362, 0)) = some (r1, r2) := H
    have A9 := Aside0.mk A90
    clear A90
    simp only [Option.some.injEq, Prod.mk.injEq] at H
    obtain ⟨rfl, rfl⟩ := H
    go_enter Tryd.func11, Tryd.ntmps11
    go_wp2_with (first | ((with_reducible refine gate_callee (f := 42) rfl ?_); refine goesL_ (some 8) rfl rfl Tryd.func42 kr_ rfl #[.slice A0 l0.length c0] rfl ta_ ?_; (with_reducible refine (impl_IsShape.calls k _ _ l0 true _ ?side1 ?side2 A3.out).mono ?_); (case side1 => exact ca_ HR0.out); (case side2 => exact HC0.out); rintro e w10 ⟨rfl, hb⟩; refine ⟨_, rfl, ?_⟩; have n0_ := Aside0.mk (below_step (bl0_) hb); clear HB; have HB := n0_; clear n0_; (try clear hb); (try clear hb2); (try clear hk); (try clear hi)) | ((with_reducible refine gate_callee (f := 43) rfl ?_); refine goesL_ (some 11) rfl rfl Tryd.func43 kr_ rfl #[.int .i64 a1] rfl ta_ ?_; (with_reducible refine (impl_isTurn.calls a1 true _ A5.out).mono ?_); rintro e w' ⟨rfl, ⟨nd, rfl⟩⟩; refine ⟨_, rfl, ?_⟩) | ((with_reducible refine gate_callee (f := 35) rfl ?_); refine goesL_ (some 14) rfl rfl Tryd.func35 kr_ rfl #[.slice A0 l0.length c0] rfl ta_ ?_; (with_reducible refine (impl_shapeCode.calls k _ _ l0 t361 _ ?side1 ?side2 A7.out).mono ?_); (case side1 => repeat (first | exact (Kd.C_below HR0.out (bl0_)) | (with_reducible refine Kd.C_alloc ?_ _) | (with_reducible refine Kd.C_drewN ?_ _) | (with_reducible refine Kd.C_drew ?_))); (case side2 => exact HC0.out); rintro e w11 ⟨rfl, hb⟩; refine ⟨_, rfl, ?_⟩; have n0_ := Aside0.mk (below_step (bl0_) hb); clear HB; have HB := n0_; clear n0_; (try clear hb); (try clear hb2); (try clear hk); (try clear hi)) | ((with_reducible refine gate_callee (f := 44) rfl ?_); refine goesL_ (some 20) rfl rfl Tryd.func44 kr_ rfl #[.slice A0 l0.length c0, .int .i64 a1] rfl ta_ ?_; (with_reducible refine (impl_form.calls k _ _ l0 a1 t362 _ ?side1 ?side2 A9.out).mono ?_); (case side1 => exact ca_ (Kd.C_below HR0.out HB.out)); (case side2 => exact HC0.out); rintro e w12 ⟨v363, rfl, ho0, hb⟩; refine ⟨_, rfl, ?_⟩; have n0_ := Aside0.mk (Kd.R_lower ho0 (below_size (bl0_))); have n1_ := Aside0.mk (below_step (bl0_) hb); clear HB; have HO364 := n0_; have HB := n1_; clear n0_ n1_; (try clear hb); (try clear hb2); (try clear hk); (try clear hi); (try clear ho0)))
    go_ret2
    exact ⟨_, er_, ra_ HO364.out, bl0_⟩
   ·rw [if_neg c8] at H
    have c8b0 : (t361 == 0) = false := beq_eq_false_iff_ne.mpr c8
    have c8b1 : (t361 != 0) = true := bne_iff_ne.mpr c8
    simp only [Option.some.injEq, Prod.mk.injEq] at H
    obtain ⟨rfl, rfl⟩ := H
    go_enter Tryd.func11, Tryd.ntmps11
    go_wp2_with (first | ((with_reducible refine gate_callee (f := 42) rfl ?_); refine goesL_ (some 8) rfl rfl Tryd.func42 kr_ rfl #[.slice A0 l0.length c0] rfl ta_ ?_; (with_reducible refine (impl_IsShape.calls k _ _ l0 true _ ?side1 ?side2 A3.out).mono ?_); (case side1 => exact ca_ HR0.out); (case side2 => exact HC0.out); rintro e w13 ⟨rfl, hb⟩; refine ⟨_, rfl, ?_⟩; have n0_ := Aside0.mk (below_step (bl0_) hb); clear HB; have HB := n0_; clear n0_; (try clear hb); (try clear hb2); (try clear hk); (try clear hi)) | ((with_reducible refine gate_callee (f := 43) rfl ?_); refine goesL_ (some 11) rfl rfl Tryd.func43 kr_ rfl #[.int .i64 a1] rfl ta_ ?_; (with_reducible refine (impl_isTurn.calls a1 true _ A5.out).mono ?_); rintro e w' ⟨rfl, ⟨nd, rfl⟩⟩; refine ⟨_, rfl, ?_⟩) | ((with_reducible refine gate_callee (f := 35) rfl ?_); refine goesL_ (some 14) rfl rfl Tryd.func35 kr_ rfl #[.slice A0 l0.length c0] rfl ta_ ?_; (with_reducible refine (impl_shapeCode.calls k _ _ l0 t361 _ ?side1 ?side2 A7.out).mono ?_); (case side1 => repeat (first | exact (Kd.C_below HR0.out (bl0_)) | (with_reducible refine Kd.C_alloc ?_ _) | (with_reducible refine Kd.C_drewN ?_ _) | (with_reducible refine Kd.C_drew ?_))); (case side2 => exact HC0.out); rintro e w14 ⟨rfl, hb⟩; refine ⟨_, rfl, ?_⟩; have n0_ := Aside0.mk (below_step (bl0_) hb); clear HB; have HB := n0_; clear n0_; (try clear hb); (try clear hb2); (try clear hk); (try clear hi)))
    go_ret2
    exact ⟨_, er_, by first | exact Kd.R_nil _ _ _ _ _ | exact Kd.N_nil _ _ _ _ _ | exact Kd.V_nil _ _ _ _ _ | exact Kd.Q_nil _ _ _ _ _ | exact Kd.S_nil _ _ _ _ _, bl0_⟩
  ·replace c6 := Bool.eq_false_iff.mpr c6
   subst c6
   have H1 : (some (([] : List (S78)), 2)) = some (r1, r2) := by rw [if_neg (show ¬ (false = true) by decide)] at H; exact H
   clear H
   have H := H1
   clear H1
   simp only [Option.some.injEq, Prod.mk.injEq] at H
   obtain ⟨rfl, rfl⟩ := H
   go_enter Tryd.func11, Tryd.ntmps11
   go_wp2_with (first | ((with_reducible refine gate_callee (f := 42) rfl ?_); refine goesL_ (some 8) rfl rfl Tryd.func42 kr_ rfl #[.slice A0 l0.length c0] rfl ta_ ?_; (with_reducible refine (impl_IsShape.calls k _ _ l0 true _ ?side1 ?side2 A3.out).mono ?_); (case side1 => exact ca_ HR0.out); (case side2 => exact HC0.out); rintro e w15 ⟨rfl, hb⟩; refine ⟨_, rfl, ?_⟩; have n0_ := Aside0.mk (below_step (bl0_) hb); clear HB; have HB := n0_; clear n0_; (try clear hb); (try clear hb2); (try clear hk); (try clear hi)) | ((with_reducible refine gate_callee (f := 43) rfl ?_); refine goesL_ (some 11) rfl rfl Tryd.func43 kr_ rfl #[.int .i64 a1] rfl ta_ ?_; (with_reducible refine (impl_isTurn.calls a1 false _ A5.out).mono ?_); rintro e w' ⟨rfl, ⟨nd, rfl⟩⟩; refine ⟨_, rfl, ?_⟩))
   go_ret2
   exact ⟨_, er_, by first | exact Kd.R_nil _ _ _ _ _ | exact Kd.N_nil _ _ _ _ _ | exact Kd.V_nil _ _ _ _ _ | exact Kd.Q_nil _ _ _ _ _ | exact Kd.S_nil _ _ _ _ _, bl0_⟩
 ·replace c4 := Bool.eq_false_iff.mpr c4
  subst c4
  have H1 : (some (([] : List (S78)), 1)) = some (r1, r2) := by rw [if_neg (show ¬ (false = true) by decide)] at H; exact H
  clear H
  have H := H1
  clear H1
  simp only [Option.some.injEq, Prod.mk.injEq] at H
  obtain ⟨rfl, rfl⟩ := H
  go_enter Tryd.func11, Tryd.ntmps11
  go_wp2_with (first | ((with_reducible refine gate_callee (f := 42) rfl ?_); refine goesL_ (some 8) rfl rfl Tryd.func42 kr_ rfl #[.slice A0 l0.length c0] rfl ta_ ?_; (with_reducible refine (impl_IsShape.calls k _ _ l0 false _ ?side1 ?side2 A3.out).mono ?_); (case side1 => exact ca_ HR0.out); (case side2 => exact HC0.out); rintro e w16 ⟨rfl, hb⟩; refine ⟨_, rfl, ?_⟩; have n0_ := Aside0.mk (below_step (bl0_) hb); clear HB; have HB := n0_; clear n0_; (try clear hb); (try clear hb2); (try clear hk); (try clear hi)))
  go_ret2
  exact ⟨_, er_, by first | exact Kd.R_nil _ _ _ _ _ | exact Kd.N_nil _ _ _ _ _ | exact Kd.V_nil _ _ _ _ _ | exact Kd.Q_nil _ _ _ _ _ | exact Kd.S_nil _ _ _ _ _, bl0_⟩

/-! ### laws_FnMirrored: function 3 -/
def laws_FnMirrored.j0 : Nat → List (S78) → ByteArray → Int → Bool → Option (Bool)
 | 0, _, _, _, _ => none
 | k + 1, x3, x4, x5, x35 => if x35 = true then (some false) else (if x5 = 0 then ((impl_MirrorText.f x4).bind fun bt373 => ((impl_TurnShape.f k x3 4).bind fun bt375 => ((impl_ShapeText.f k bt375.1).bind fun bt379 => (if bt373.2 = 0 then (if bt375.2 = 0 then (if bt379.2 = 0 then (some (bt379.1.toList == bt373.1.toList)) else (some false)) else (some false)) else (some false))))) else (some true))
def laws_FnMirrored.f (k : Nat) (l0 : List Int) : Option (Bool) := (laws_big.f l0).bind fun t365 => (if t365 = true then (some true) else ((spec_DrawSizeOf.f k l0).bind fun t366 => ((impl_ShapeText.f k t366).bind fun bt369 => ((spec_ShapeText.f k t366).bind fun bt371 => (if bt369.2 = bt371.2 then (laws_FnMirrored.j0 k t366 bt369.1 bt369.2 (bt369.1.toList != bt371.1.toList)) else (laws_FnMirrored.j0 k t366 bt369.1 bt369.2 true))))))
theorem laws_FnMirrored.mono_l : ∀ k, (∀ y0 y1 y2 y3, LeO (laws_FnMirrored.j0 k y0 y1 y2 y3) (laws_FnMirrored.j0 (k + 1) y0 y1 y2 y3))
 | 0 => fun _ _ _ _ r h => by simp [laws_FnMirrored.j0] at h
 | k + 1 => by
  have ih0 := laws_FnMirrored.mono_l k
  ·intro y0 y1 y2 y3
   unfold laws_FnMirrored.j0
   repeat' first
   | (with_reducible exact ih0 _ _ _ _)
   | (with_reducible exact impl_ShapeText.mono _ _)
   | (with_reducible exact impl_TurnShape.mono _ _ _)
   | (with_reducible exact spec_DrawSizeOf.mono _ _)
   | (with_reducible exact spec_ShapeText.mono _ _)
   | (with_reducible exact LeO.refl _)
   | (with_reducible exact LeO.none _)
   | (with_reducible refine LeO.ite ?_ ?_)
   | (with_reducible refine LeO.bind ?_ (fun _ => ?_))
   | exact ih0 _ _ _ _
   | exact impl_ShapeText.mono _ _
   | exact impl_TurnShape.mono _ _ _
   | exact spec_DrawSizeOf.mono _ _
   | exact spec_ShapeText.mono _ _
   | exact LeO.none _
   | refine LeO.ite ?_ ?_
   | refine LeO.bind ?_ (fun _ => ?_)
theorem laws_FnMirrored.mono : ∀ a0 k, LeO (laws_FnMirrored.f k a0) (laws_FnMirrored.f (k + 1) a0) := by
 intro a0 k
 have ih0 := laws_FnMirrored.mono_l k
 unfold laws_FnMirrored.f
 repeat' first
   | (with_reducible exact ih0 _ _ _ _)
   | (with_reducible exact impl_ShapeText.mono _ _)
   | (with_reducible exact impl_TurnShape.mono _ _ _)
   | (with_reducible exact spec_DrawSizeOf.mono _ _)
   | (with_reducible exact spec_ShapeText.mono _ _)
   | (with_reducible exact LeO.refl _)
   | (with_reducible exact LeO.none _)
   | (with_reducible refine LeO.ite ?_ ?_)
   | (with_reducible refine LeO.bind ?_ (fun _ => ?_))
   | exact ih0 _ _ _ _
   | exact impl_ShapeText.mono _ _
   | exact impl_TurnShape.mono _ _ _
   | exact spec_DrawSizeOf.mono _ _
   | exact spec_ShapeText.mono _ _
   | exact LeO.none _
   | refine LeO.ite ?_ ?_
   | refine LeO.bind ?_ (fun _ => ?_)
set_option maxHeartbeats 8000000 in
set_option maxRecDepth 100000 in
theorem laws_FnMirrored.calls (k : Nat) (A0 : Option Addr) (c0 : Nat) (l0 : List Int) (r : Bool) (w : World) (hr0 : Kd.C (Kd.int .u8) w A0 l0.length l0) (hc0 : l0.length ≤ c0) (h : laws_FnMirrored.f k l0 = some r) (hG : Laid w) :
  Calls Tryd.prog 3 #[.slice A0 l0.length c0] w fun e w' => e = .returned (.bool r) ∧ Below w.heap.size w w' := by
 have HR0 := Aside0.mk hr0
 have HC0 := Aside0.mk hc0
 clear hr0 hc0
 have HB := Aside0.mk (Below.refl w.heap.size w)
 have H : ((laws_big.f l0).bind fun t365 => (if t365 = true then (some true) else ((spec_DrawSizeOf.f k l0).bind fun t366 => ((impl_ShapeText.f k t366).bind fun bt369 => ((spec_ShapeText.f k t366).bind fun bt371 => (if bt369.2 = bt371.2 then (laws_FnMirrored.j0 k t366 bt369.1 bt369.2 (bt369.1.toList != bt371.1.toList)) else (laws_FnMirrored.j0 k t366 bt369.1 bt369.2 true))))))) = some r := h
 clear h
 replace H := Option.bind_eq_some_iff.mp H
 obtain ⟨t365, A20, H⟩ := H
 replace H : (if t365 = true then (some true) else ((spec_DrawSizeOf.f k l0).bind fun t366 => ((impl_ShapeText.f k t366).bind fun bt369 => ((spec_ShapeText.f k t366).bind fun bt371 => (if bt369.2 = bt371.2 then (laws_FnMirrored.j0 k t366 bt369.1 bt369.2 (bt369.1.toList != bt371.1.toList)) else (laws_FnMirrored.j0 k t366 bt369.1 bt369.2 true)))))) = some r := H
 have A2 := Aside0.mk A20
 clear A20
 by_cases c3 : t365 = true
 ·subst c3
  have H1 : (some true) = some r := by rw [if_pos rfl] at H; exact H
  clear H
  have H := H1
  clear H1
  obtain rfl := Option.some.inj H
  go_enter Tryd.func3, Tryd.ntmps3
  go_wp2_with (first | ((with_reducible refine gate_callee (f := 6) rfl ?_); refine goesL_ (some 15) rfl rfl Tryd.func6 kr_ rfl #[.slice A0 l0.length c0] rfl ta_ ?_; (with_reducible refine (laws_big.calls _ _ l0 true _ ?side1 ?side2 A2.out).mono ?_); (case side1 => exact ca_ HR0.out); (case side2 => exact HC0.out); rintro e w' ⟨rfl, ⟨nd, rfl⟩⟩; refine ⟨_, rfl, ?_⟩))
  go_ret
  exact ⟨er_, bl0_⟩
 ·replace c3 := Bool.eq_false_iff.mpr c3
  subst c3
  have H1 : ((spec_DrawSizeOf.f k l0).bind fun t366 => ((impl_ShapeText.f k t366).bind fun bt369 => ((spec_ShapeText.f k t366).bind fun bt371 => (if bt369.2 = bt371.2 then (laws_FnMirrored.j0 k t366 bt369.1 bt369.2 (bt369.1.toList != bt371.1.toList)) else (laws_FnMirrored.j0 k t366 bt369.1 bt369.2 true))))) = some r := by rw [if_neg (show ¬ (false = true) by decide)] at H; exact H
  clear H
  have H := H1
  clear H1
  replace H := Option.bind_eq_some_iff.mp H
  obtain ⟨t366, A40, H⟩ := H
  replace H : ((impl_ShapeText.f k t366).bind fun bt369 => ((spec_ShapeText.f k t366).bind fun bt371 => (if bt369.2 = bt371.2 then (laws_FnMirrored.j0 k t366 bt369.1 bt369.2 (bt369.1.toList != bt371.1.toList)) else (laws_FnMirrored.j0 k t366 bt369.1 bt369.2 true)))) = some r := H
  have A4 := Aside0.mk A40
  clear A40
  replace H := Option.bind_eq_some_iff.mp H
  obtain ⟨⟨t369, t370⟩, A50, H⟩ := H
  replace H : ((spec_ShapeText.f k t366).bind fun bt371 => (if t370 = bt371.2 then (laws_FnMirrored.j0 k t366 t369 t370 (t369.toList != bt371.1.toList)) else (laws_FnMirrored.j0 k t366 t369 t370 true))) = some r := H
  have A5 := Aside0.mk A50
  clear A50
  replace H := Option.bind_eq_some_iff.mp H
  obtain ⟨⟨t371, t372⟩, A60, H⟩ := H
  replace H : (if t370 = t372 then (laws_FnMirrored.j0 k t366 t369 t370 (t369.toList != t371.toList)) else (laws_FnMirrored.j0 k t366 t369 t370 true)) = some r := H
  have A6 := Aside0.mk A60
  clear A60
  have HC7 := Aside0.mk H
  clear H
  go_enter Tryd.func3, Tryd.ntmps3
  go_upto_region 6 with (first | ((with_reducible refine gate_callee (f := 6) rfl ?_); refine goesL_ (some 15) rfl rfl Tryd.func6 kr_ rfl #[.slice A0 l0.length c0] rfl ta_ ?_; (with_reducible refine (laws_big.calls _ _ l0 false _ ?side1 ?side2 A2.out).mono ?_); (case side1 => exact ca_ HR0.out); (case side2 => exact HC0.out); rintro e w' ⟨rfl, ⟨nd, rfl⟩⟩; refine ⟨_, rfl, ?_⟩) | ((with_reducible refine gate_callee (f := 7) rfl ?_); refine goesL_ (some 17) rfl rfl Tryd.func7 kr_ rfl #[.slice A0 l0.length c0] rfl ta_ ?_; (with_reducible refine (spec_DrawSizeOf.calls k _ _ l0 t366 _ ?side1 ?side2 A4.out).mono ?_); (case side1 => exact ca_ HR0.out); (case side2 => exact HC0.out); rintro e w8 ⟨v367, rfl, ho0, hb⟩; refine ⟨_, rfl, ?_⟩; have n0_ := Aside0.mk (Kd.R_lower ho0 (below_size (bl0_))); have n1_ := Aside0.mk (below_step (bl0_) hb); clear HB; have HO368 := n0_; have HB := n1_; clear n0_ n1_; (try clear hb); (try clear hb2); (try clear hk); (try clear hi); (try clear ho0); obtain ⟨Ao9, co9, eo9⟩ := Kd.R_slice HO368.out; subst eo9) | ((with_reducible refine gate_callee (f := 8) rfl ?_); refine goesL_ (some 20) rfl rfl Tryd.func8 kr_ rfl #[.slice Ao9 t366.length co9] rfl ta_ ?_; (with_reducible refine (impl_ShapeText.calls k _ _ t366 t369 t370 _ ?side1 ?side2 A5.out).mono ?_); (case side1 => exact ca_ (Kd.R_reads' HO368.out).2.2); (case side2 => exact (Kd.R_reads' HO368.out).2.1); rintro e w10 ⟨rfl, hb⟩; refine ⟨_, rfl, ?_⟩; have n0_ := Aside0.mk (Kd.R_below (ra_ HO368.out) hb); have n1_ := Aside0.mk (below_step (bl0_) hb); clear HO368; clear HB; have HO368 := n0_; have HB := n1_; clear n0_ n1_; (try clear hb); (try clear hb2); (try clear hk); (try clear hi)) | ((with_reducible refine gate_callee (f := 9) rfl ?_); refine goesL_ (some 25) rfl rfl Tryd.func9 kr_ rfl #[.slice Ao9 t366.length co9] rfl ta_ ?_; (with_reducible refine (spec_ShapeText.calls k _ _ t366 t371 t372 _ ?side1 ?side2 A6.out).mono ?_); (case side1 => exact ca_ (Kd.R_reads' HO368.out).2.2); (case side2 => exact (Kd.R_reads' HO368.out).2.1); rintro e w11 ⟨rfl, hb⟩; refine ⟨_, rfl, ?_⟩; have n0_ := Aside0.mk (Kd.R_below (ra_ HO368.out) hb); have n1_ := Aside0.mk (below_step (bl0_) hb); clear HO368; clear HB; have HO368 := n0_; have HB := n1_; clear n0_ n1_; (try clear hb); (try clear hb2); (try clear hk); (try clear hi)))
  (try simp only [Act.put, List.setIfInBounds_toArray, List.set_cons_zero, List.set_cons_succ])
  go_cut [35] (fun v35 wc => ∃ (kq : Nat) (x35_6 : Bool), v35 = .bool x35_6 ∧ Aside0 (laws_FnMirrored.j0 kq t366 t369 t370 x35_6 = some r) ∧ Aside0 (kq ≤ k) ∧ Aside0 (Kd.R k78 78 wc w.heap.size (fun _ => True) (.slice Ao9 t366.length co9) t366) ∧ Aside0 (Below w.heap.size w wc))
  case first =>
   have H := HC7.out
   clear HC7
   by_cases c12 : t370 = t372
   ·rw [if_pos c12] at H
    have c12b0 : (t370 == t372) = true := beq_iff_eq.mpr c12
    have c12b1 : (t370 != t372) = false := bne_eq_false_iff_eq.mpr c12
    clear c12
    (first | rw [c12b0] | (simp only [i64_w, i32_w]; rw [c12b0]) | skip)
    have H' := Aside0.mk H
    clear H
    go_wp2
    go_meet
    case rel => exact ⟨_, ((t369.toList != t371.toList)), rs_, H', ⟨by first | omega | exact Nat.le_refl _⟩, ⟨ra_ HO368.out⟩, ⟨bl0_⟩⟩
   ·rw [if_neg c12] at H
    have c12b0 : (t370 == t372) = false := beq_eq_false_iff_ne.mpr c12
    have c12b1 : (t370 != t372) = true := bne_iff_ne.mpr c12
    (first | rw [c12b0] | (simp only [i64_w, i32_w]; rw [c12b0]) | skip)
    have H' := Aside0.mk H
    clear H
    go_wp2
    go_meet
    case rel => exact ⟨_, (true), rs_, H', ⟨by first | omega | exact Nat.le_refl _⟩, ⟨ra_ HO368.out⟩, ⟨bl0_⟩⟩
  case rest =>
   clear HC7
   try clear c1
   try clear p2
   try clear c3
   try clear c6
   try clear c7
   try clear c8
   try clear c9
   try clear c12
   try clear c12b0
   try clear c12b1
   obtain ⟨kq, x35_6, rfl, HA, HJ6, HO_3, HB⟩ := hcut
   cases kq with
   | zero => exact absurd HA.out (by simp [laws_FnMirrored.j0])
   | succ kj6 =>
    have H := HA.out
    clear HA
    simp only [laws_FnMirrored.j0] at H
    by_cases c13 : x35_6 = true
    ·subst c13
     have H1 : (some false) = some r := by rw [if_pos rfl] at H; exact H
     clear H
     have H := H1
     clear H1
     obtain rfl := Option.some.inj H
     go_wp2
     go_ret
     exact ⟨er_, bl0_⟩
    ·replace c13 := Bool.eq_false_iff.mpr c13
     subst c13
     have H1 : (if t370 = 0 then ((impl_MirrorText.f t369).bind fun bt373 => ((impl_TurnShape.f kj6 t366 4).bind fun bt375 => ((impl_ShapeText.f kj6 bt375.1).bind fun bt379 => (if bt373.2 = 0 then (if bt375.2 = 0 then (if bt379.2 = 0 then (some (bt379.1.toList == bt373.1.toList)) else (some false)) else (some false)) else (some false))))) else (some true)) = some r := by rw [if_neg (show ¬ (false = true) by decide)] at H; exact H
     clear H
     have H := H1
     clear H1
     by_cases c14 : t370 = 0
     ·rw [if_pos c14] at H
      have c14b0 : (t370 == 0) = true := beq_iff_eq.mpr c14
      have c14b1 : (t370 != 0) = false := bne_eq_false_iff_eq.mpr c14
      clear c14
      replace H := Option.bind_eq_some_iff.mp H
      obtain ⟨⟨t373, t374⟩, A150, H⟩ := H
      replace H : ((impl_TurnShape.f kj6 t366 4).bind fun bt375 => ((impl_ShapeText.f kj6 bt375.1).bind fun bt379 => (if t374 = 0 then (if bt375.2 = 0 then (if bt379.2 = 0 then (some (bt379.1.toList == t373.toList)) else (some false)) else (some false)) else (some false)))) = some r := H
      have A15 := Aside0.mk A150
      clear A150
      replace H := Option.bind_eq_some_iff.mp H
      obtain ⟨⟨t375, t376⟩, A160, H⟩ := H
      replace H : ((impl_ShapeText.f kj6 t375).bind fun bt379 => (if t374 = 0 then (if t376 = 0 then (if bt379.2 = 0 then (some (bt379.1.toList == t373.toList)) else (some false)) else (some false)) else (some false))) = some r := H
      have A16 := Aside0.mk A160
      clear A160
      replace H := Option.bind_eq_some_iff.mp H
      obtain ⟨⟨t379, t380⟩, A170, H⟩ := H
      replace H : (if t374 = 0 then (if t376 = 0 then (if t380 = 0 then (some (t379.toList == t373.toList)) else (some false)) else (some false)) else (some false)) = some r := H
      have A17 := Aside0.mk A170
      clear A170
      by_cases c18 : t374 = 0
      ·rw [if_pos c18] at H
       have c18b0 : (t374 == 0) = true := beq_iff_eq.mpr c18
       have c18b1 : (t374 != 0) = false := bne_eq_false_iff_eq.mpr c18
       clear c18
       by_cases c19 : t376 = 0
       ·rw [if_pos c19] at H
        have c19b0 : (t376 == 0) = true := beq_iff_eq.mpr c19
        have c19b1 : (t376 != 0) = false := bne_eq_false_iff_eq.mpr c19
        clear c19
        by_cases c20 : t380 = 0
        ·rw [if_pos c20] at H
         have c20b0 : (t380 == 0) = true := beq_iff_eq.mpr c20
         have c20b1 : (t380 != 0) = false := bne_eq_false_iff_eq.mpr c20
         clear c20
         obtain rfl := Option.some.inj H
         go_wp2_with (first | ((with_reducible refine gate_callee (f := 10) rfl ?_); refine goesL_ (some 40) rfl rfl Tryd.func10 kr_ rfl #[.string t369] rfl ta_ ?_; (with_reducible refine (impl_MirrorText.calls t369 t373 t374 _ A15.out (Laid.below hG (by repeat (first | exact HB.out | exact Below.refl _ _ | apply below_alloc | apply pw_below_drewN | apply below_drew1)))).mono ?_); rintro e w21 ⟨rfl, hb⟩; refine ⟨_, rfl, ?_⟩; have n0_ := Aside0.mk (Kd.R_below (ra_ HO_3.out) hb); have n1_ := Aside0.mk (below_step (bl0_) hb); clear HO_3; clear HB; have HO_3 := n0_; have HB := n1_; clear n0_ n1_; (try clear hb); (try clear hb2); (try clear hk); (try clear hi)) | ((with_reducible refine gate_callee (f := 11) rfl ?_); refine goesL_ (some 45) rfl rfl Tryd.func11 kr_ rfl #[.slice Ao9 t366.length co9, .int .i64 4] rfl ta_ ?_; (with_reducible refine (impl_TurnShape.calls kj6 _ _ t366 4 t375 t376 _ ?side1 ?side2 A16.out).mono ?_); (case side1 => exact ca_ (Kd.R_reads' HO_3.out).2.2); (case side2 => exact (Kd.R_reads' HO_3.out).2.1); rintro e w22 ⟨v377, rfl, ho0, hb⟩; refine ⟨_, rfl, ?_⟩; have n0_ := Aside0.mk (Kd.R_elder' (ra_ HO_3.out) (Kd.R_base ho0) hb); have n1_ := Aside0.mk (Kd.R_lower (Kd.R_new' ho0 (Kd.R_lt (ra_ HO_3.out))) (below_size (bl0_))); have n2_ := Aside0.mk (below_step (bl0_) hb); clear HO_3; clear HB; have HO_3 := n0_; have HO378 := n1_; have HB := n2_; clear n0_ n1_ n2_; (try clear hb); (try clear hb2); (try clear hk); (try clear hi); (try clear ho0); obtain ⟨Ao23, co23, eo23⟩ := Kd.R_slice HO378.out; subst eo23) | ((with_reducible refine gate_callee (f := 8) rfl ?_); refine goesL_ (some 50) rfl rfl Tryd.func8 kr_ rfl #[.slice Ao23 t375.length co23] rfl ta_ ?_; (with_reducible refine (impl_ShapeText.calls kj6 _ _ t375 t379 t380 _ ?side1 ?side2 A17.out).mono ?_); (case side1 => exact ca_ (Kd.R_reads' HO378.out).2.2); (case side2 => exact (Kd.R_reads' HO378.out).2.1); rintro e w24 ⟨rfl, hb⟩; refine ⟨_, rfl, ?_⟩; have n0_ := Aside0.mk (Kd.R_below (ra_ HO_3.out) hb); have n1_ := Aside0.mk (Kd.R_below (ra_ HO378.out) hb); have n2_ := Aside0.mk (below_step (bl0_) hb); clear HO_3; clear HO378; clear HB; have HO_3 := n0_; have HO378 := n1_; have HB := n2_; clear n0_ n1_ n2_; (try clear hb); (try clear hb2); (try clear hk); (try clear hi)))
         go_ret
         exact ⟨er_, bl0_⟩
        ·rw [if_neg c20] at H
         have c20b0 : (t380 == 0) = false := beq_eq_false_iff_ne.mpr c20
         have c20b1 : (t380 != 0) = true := bne_iff_ne.mpr c20
         obtain rfl := Option.some.inj H
         go_wp2_with (first | ((with_reducible refine gate_callee (f := 10) rfl ?_); refine goesL_ (some 40) rfl rfl Tryd.func10 kr_ rfl #[.string t369] rfl ta_ ?_; (with_reducible refine (impl_MirrorText.calls t369 t373 t374 _ A15.out (Laid.below hG (by repeat (first | exact HB.out | exact Below.refl _ _ | apply below_alloc | apply pw_below_drewN | apply below_drew1)))).mono ?_); rintro e w25 ⟨rfl, hb⟩; refine ⟨_, rfl, ?_⟩; have n0_ := Aside0.mk (Kd.R_below (ra_ HO_3.out) hb); have n1_ := Aside0.mk (below_step (bl0_) hb); clear HO_3; clear HB; have HO_3 := n0_; have HB := n1_; clear n0_ n1_; (try clear hb); (try clear hb2); (try clear hk); (try clear hi)) | ((with_reducible refine gate_callee (f := 11) rfl ?_); refine goesL_ (some 45) rfl rfl Tryd.func11 kr_ rfl #[.slice Ao9 t366.length co9, .int .i64 4] rfl ta_ ?_; (with_reducible refine (impl_TurnShape.calls kj6 _ _ t366 4 t375 t376 _ ?side1 ?side2 A16.out).mono ?_); (case side1 => exact ca_ (Kd.R_reads' HO_3.out).2.2); (case side2 => exact (Kd.R_reads' HO_3.out).2.1); rintro e w26 ⟨v377, rfl, ho0, hb⟩; refine ⟨_, rfl, ?_⟩; have n0_ := Aside0.mk (Kd.R_elder' (ra_ HO_3.out) (Kd.R_base ho0) hb); have n1_ := Aside0.mk (Kd.R_lower (Kd.R_new' ho0 (Kd.R_lt (ra_ HO_3.out))) (below_size (bl0_))); have n2_ := Aside0.mk (below_step (bl0_) hb); clear HO_3; clear HB; have HO_3 := n0_; have HO378 := n1_; have HB := n2_; clear n0_ n1_ n2_; (try clear hb); (try clear hb2); (try clear hk); (try clear hi); (try clear ho0); obtain ⟨Ao27, co27, eo27⟩ := Kd.R_slice HO378.out; subst eo27) | ((with_reducible refine gate_callee (f := 8) rfl ?_); refine goesL_ (some 50) rfl rfl Tryd.func8 kr_ rfl #[.slice Ao27 t375.length co27] rfl ta_ ?_; (with_reducible refine (impl_ShapeText.calls kj6 _ _ t375 t379 t380 _ ?side1 ?side2 A17.out).mono ?_); (case side1 => exact ca_ (Kd.R_reads' HO378.out).2.2); (case side2 => exact (Kd.R_reads' HO378.out).2.1); rintro e w28 ⟨rfl, hb⟩; refine ⟨_, rfl, ?_⟩; have n0_ := Aside0.mk (Kd.R_below (ra_ HO_3.out) hb); have n1_ := Aside0.mk (Kd.R_below (ra_ HO378.out) hb); have n2_ := Aside0.mk (below_step (bl0_) hb); clear HO_3; clear HO378; clear HB; have HO_3 := n0_; have HO378 := n1_; have HB := n2_; clear n0_ n1_ n2_; (try clear hb); (try clear hb2); (try clear hk); (try clear hi)))
         go_ret
         exact ⟨er_, bl0_⟩
       ·rw [if_neg c19] at H
        have c19b0 : (t376 == 0) = false := beq_eq_false_iff_ne.mpr c19
        have c19b1 : (t376 != 0) = true := bne_iff_ne.mpr c19
        obtain rfl := Option.some.inj H
        go_wp2_with (first | ((with_reducible refine gate_callee (f := 10) rfl ?_); refine goesL_ (some 40) rfl rfl Tryd.func10 kr_ rfl #[.string t369] rfl ta_ ?_; (with_reducible refine (impl_MirrorText.calls t369 t373 t374 _ A15.out (Laid.below hG (by repeat (first | exact HB.out | exact Below.refl _ _ | apply below_alloc | apply pw_below_drewN | apply below_drew1)))).mono ?_); rintro e w29 ⟨rfl, hb⟩; refine ⟨_, rfl, ?_⟩; have n0_ := Aside0.mk (Kd.R_below (ra_ HO_3.out) hb); have n1_ := Aside0.mk (below_step (bl0_) hb); clear HO_3; clear HB; have HO_3 := n0_; have HB := n1_; clear n0_ n1_; (try clear hb); (try clear hb2); (try clear hk); (try clear hi)) | ((with_reducible refine gate_callee (f := 11) rfl ?_); refine goesL_ (some 45) rfl rfl Tryd.func11 kr_ rfl #[.slice Ao9 t366.length co9, .int .i64 4] rfl ta_ ?_; (with_reducible refine (impl_TurnShape.calls kj6 _ _ t366 4 t375 t376 _ ?side1 ?side2 A16.out).mono ?_); (case side1 => exact ca_ (Kd.R_reads' HO_3.out).2.2); (case side2 => exact (Kd.R_reads' HO_3.out).2.1); rintro e w30 ⟨v377, rfl, ho0, hb⟩; refine ⟨_, rfl, ?_⟩; have n0_ := Aside0.mk (Kd.R_elder' (ra_ HO_3.out) (Kd.R_base ho0) hb); have n1_ := Aside0.mk (Kd.R_lower (Kd.R_new' ho0 (Kd.R_lt (ra_ HO_3.out))) (below_size (bl0_))); have n2_ := Aside0.mk (below_step (bl0_) hb); clear HO_3; clear HB; have HO_3 := n0_; have HO378 := n1_; have HB := n2_; clear n0_ n1_ n2_; (try clear hb); (try clear hb2); (try clear hk); (try clear hi); (try clear ho0); obtain ⟨Ao31, co31, eo31⟩ := Kd.R_slice HO378.out; subst eo31) | ((with_reducible refine gate_callee (f := 8) rfl ?_); refine goesL_ (some 50) rfl rfl Tryd.func8 kr_ rfl #[.slice Ao31 t375.length co31] rfl ta_ ?_; (with_reducible refine (impl_ShapeText.calls kj6 _ _ t375 t379 t380 _ ?side1 ?side2 A17.out).mono ?_); (case side1 => exact ca_ (Kd.R_reads' HO378.out).2.2); (case side2 => exact (Kd.R_reads' HO378.out).2.1); rintro e w32 ⟨rfl, hb⟩; refine ⟨_, rfl, ?_⟩; have n0_ := Aside0.mk (Kd.R_below (ra_ HO_3.out) hb); have n1_ := Aside0.mk (Kd.R_below (ra_ HO378.out) hb); have n2_ := Aside0.mk (below_step (bl0_) hb); clear HO_3; clear HO378; clear HB; have HO_3 := n0_; have HO378 := n1_; have HB := n2_; clear n0_ n1_ n2_; (try clear hb); (try clear hb2); (try clear hk); (try clear hi)))
        go_ret
        exact ⟨er_, bl0_⟩
      ·rw [if_neg c18] at H
       have c18b0 : (t374 == 0) = false := beq_eq_false_iff_ne.mpr c18
       have c18b1 : (t374 != 0) = true := bne_iff_ne.mpr c18
       obtain rfl := Option.some.inj H
       go_wp2_with (first | ((with_reducible refine gate_callee (f := 10) rfl ?_); refine goesL_ (some 40) rfl rfl Tryd.func10 kr_ rfl #[.string t369] rfl ta_ ?_; (with_reducible refine (impl_MirrorText.calls t369 t373 t374 _ A15.out (Laid.below hG (by repeat (first | exact HB.out | exact Below.refl _ _ | apply below_alloc | apply pw_below_drewN | apply below_drew1)))).mono ?_); rintro e w33 ⟨rfl, hb⟩; refine ⟨_, rfl, ?_⟩; have n0_ := Aside0.mk (Kd.R_below (ra_ HO_3.out) hb); have n1_ := Aside0.mk (below_step (bl0_) hb); clear HO_3; clear HB; have HO_3 := n0_; have HB := n1_; clear n0_ n1_; (try clear hb); (try clear hb2); (try clear hk); (try clear hi)) | ((with_reducible refine gate_callee (f := 11) rfl ?_); refine goesL_ (some 45) rfl rfl Tryd.func11 kr_ rfl #[.slice Ao9 t366.length co9, .int .i64 4] rfl ta_ ?_; (with_reducible refine (impl_TurnShape.calls kj6 _ _ t366 4 t375 t376 _ ?side1 ?side2 A16.out).mono ?_); (case side1 => exact ca_ (Kd.R_reads' HO_3.out).2.2); (case side2 => exact (Kd.R_reads' HO_3.out).2.1); rintro e w34 ⟨v377, rfl, ho0, hb⟩; refine ⟨_, rfl, ?_⟩; have n0_ := Aside0.mk (Kd.R_elder' (ra_ HO_3.out) (Kd.R_base ho0) hb); have n1_ := Aside0.mk (Kd.R_lower (Kd.R_new' ho0 (Kd.R_lt (ra_ HO_3.out))) (below_size (bl0_))); have n2_ := Aside0.mk (below_step (bl0_) hb); clear HO_3; clear HB; have HO_3 := n0_; have HO378 := n1_; have HB := n2_; clear n0_ n1_ n2_; (try clear hb); (try clear hb2); (try clear hk); (try clear hi); (try clear ho0); obtain ⟨Ao35, co35, eo35⟩ := Kd.R_slice HO378.out; subst eo35) | ((with_reducible refine gate_callee (f := 8) rfl ?_); refine goesL_ (some 50) rfl rfl Tryd.func8 kr_ rfl #[.slice Ao35 t375.length co35] rfl ta_ ?_; (with_reducible refine (impl_ShapeText.calls kj6 _ _ t375 t379 t380 _ ?side1 ?side2 A17.out).mono ?_); (case side1 => exact ca_ (Kd.R_reads' HO378.out).2.2); (case side2 => exact (Kd.R_reads' HO378.out).2.1); rintro e w36 ⟨rfl, hb⟩; refine ⟨_, rfl, ?_⟩; have n0_ := Aside0.mk (Kd.R_below (ra_ HO_3.out) hb); have n1_ := Aside0.mk (Kd.R_below (ra_ HO378.out) hb); have n2_ := Aside0.mk (below_step (bl0_) hb); clear HO_3; clear HO378; clear HB; have HO_3 := n0_; have HO378 := n1_; have HB := n2_; clear n0_ n1_ n2_; (try clear hb); (try clear hb2); (try clear hk); (try clear hi)))
       go_ret
       exact ⟨er_, bl0_⟩
     ·rw [if_neg c14] at H
      have c14b0 : (t370 == 0) = false := beq_eq_false_iff_ne.mpr c14
      have c14b1 : (t370 != 0) = true := bne_iff_ne.mpr c14
      obtain rfl := Option.some.inj H
      go_wp2
      go_ret
      exact ⟨er_, bl0_⟩

end Go.Proofs.YtopceddgiddhlaaDoor.PFnMirrored
