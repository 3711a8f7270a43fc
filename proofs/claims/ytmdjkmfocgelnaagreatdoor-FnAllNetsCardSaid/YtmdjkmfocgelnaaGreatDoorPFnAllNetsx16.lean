/- Over the kit's printer by a driver of mine (hprint.py), with parts by hand: functions of the program as Lean functions, and that each call comes to exactly these answers. -/
import Derived.Test.YtmdjkmfocgelnaaGreatDoorPFnAllNetsx0
import Derived.Test.YtmdjkmfocgelnaaGreatDoorPFnAllNetsx1
import Derived.Test.YtmdjkmfocgelnaaGreatDoorPFnAllNetsx11
import Derived.Test.YtmdjkmfocgelnaaGreatDoorPFnAllNetsx12
import Derived.Test.YtmdjkmfocgelnaaGreatDoorPFnAllNetsx15
namespace Go.Proofs.YtmdjkmfocgelnaaGreatDoor.PFnAllNets
open Go.RowKit Go.Proofs.YtmdjkmfocgelnaaGreatDoorW.PrintWords Go.Proofs.YtmdjkmfocgelnaaGreatDoorW.PrintLast Go.Proofs.YtmdjkmfocgelnaaGreatDoorW.PrintMore
attribute [local go_sem] max2_int min2_int max_two min_two max_three min_three max_four min_four   
set_option linter.unusedVariables false
set_option linter.unusedSimpArgs false
attribute [local go_sem high] eqA56
def impl_moved.l0 : Nat → Int → Int → List (S56) → List (S56) → Int → Int → Option ((List (S56)))
 | 0, _, _, _, _, _, _ => none
 | k + 1, x1, x2, x7, x13, x14, x15 => if x15 < x14 then (if 0 ≤ x15 then (if x15 < (x13.length : Int) then (if x7.length < 8796093022208 then (impl_moved.l0 k x1 x2 (x7 ++ [(⟨wrap64 (((rd_T56 x13 x15).f0) + x1), wrap64 (((rd_T56 x13 x15).f1) + x2)⟩ : S56)]) x13 x14 (wrap64 (x15 + 1))) else (none)) else (none)) else (none)) else (some x7)
def impl_moved.f (k : Nat) (l0 : List (S56)) (a1 : Int) (a2 : Int) : Option ((List (S56))) := if 0 ≤ (l0.length : Int) then (if ((l0.length : Int) : Int).toNat ≤ 17592186044416 then (impl_moved.l0 k a1 a2 (([] : List (S56))) l0 (l0.length : Int) 0) else (none)) else (none)
theorem impl_moved.mono_l : ∀ k, (∀ y0 y1 y2 y3 y4 y5, LeO (impl_moved.l0 k y0 y1 y2 y3 y4 y5) (impl_moved.l0 (k + 1) y0 y1 y2 y3 y4 y5))
 | 0 => fun _ _ _ _ _ _ r h => by simp [impl_moved.l0] at h
 | k + 1 => by
  have ih0 := impl_moved.mono_l k
  ·intro y0 y1 y2 y3 y4 y5
   unfold impl_moved.l0
   with_reducible (repeat' first | exact ih0 _ _ _ _ _ _ | exact LeO.refl _ | exact LeO.none _ | refine LeO.ite ?_ ?_ | refine LeO.bind ?_ (fun _ => ?_))
theorem impl_moved.mono : ∀ a0 a1 a2 k, LeO (impl_moved.f k a0 a1 a2) (impl_moved.f (k + 1) a0 a1 a2) := by
 intro a0 a1 a2 k
 have ih0 := impl_moved.mono_l k
 unfold impl_moved.f
 with_reducible (repeat' first | exact ih0 _ _ _ _ _ _ | exact LeO.refl _ | exact LeO.none _ | refine LeO.ite ?_ ?_ | refine LeO.bind ?_ (fun _ => ?_))
set_option maxHeartbeats 8000000 in
set_option maxRecDepth 100000 in
theorem impl_moved.calls (k : Nat) (A0 : Option Addr) (c0 : Nat) (l0 : List (S56)) (a1 : Int) (a2 : Int) (r : List (S56)) (w : World) (hr0 : Kd.C k56 w A0 l0.length l0) (hc0 : l0.length ≤ c0) (h : impl_moved.f k l0 a1 a2 = some r) :
  Calls Tryz.prog 86 #[.slice A0 l0.length c0, .int .i64 a1, .int .i64 a2] w fun e w' => ∃ v0_ : Value, e = .returned (v0_) ∧ Kd.R k56 56 w' w.heap.size (fun _ => True) v0_ r ∧ Below w.heap.size w w' := by
 have hu56 := Tryz.underlying56
 have HR0 := Aside0.mk hr0
 have HC0 := Aside0.mk hc0
 clear hr0 hc0
 have HB := a0_ (Below.refl w.heap.size w)
 have H := h
 clear h
 unfold impl_moved.f at H
 by_cases c4 : 0 ≤ (l0.length : Int)
 ·rw [if_pos c4] at H
  have c4b0 := eq_true c4
  have c4b1 : decide (0 ≤ (l0.length : Int)) = true := decide_eq_true c4
  clear c4
  by_cases c5 : ((l0.length : Int) : Int).toNat ≤ 17592186044416
  ·rw [if_pos c5] at H
   have c5b0 := eq_true c5
   have c5b1 : decide (((l0.length : Int) : Int).toNat ≤ 17592186044416) = true := decide_eq_true c5
   clear c5
   obtain ⟨y400, hy400⟩ : ∃ y_ : List (S56), y_ = (([] : List (S56))) := ⟨_, rfl⟩
   replace H : (impl_moved.l0 k a1 a2 y400 l0 (l0.length : Int) 0) = some r := hh_ hy400 H
   have Ny400 := Aside0.mk hy400
   clear hy400
   have H' := Aside0.mk H
   clear H
   go_enter Tryz.func86, Tryz.ntmps86
   go_wp2_with (first | ((with_reducible refine gate_dst (N := 12) rfl ?_); refine Kd.R_make0 k56 _ 56 rfl (N := 12) rfl 29 _ _ rfl (l0.length : Int) rfl rfl Tryz.underlying29 (.agg #[(.int .i64 0), (.int .i64 0)]) 16 info56 rfl (by decide) (ok := fun _ => True) trivial (od_) (Nat.le_trans (Nat.mul_le_mul_right _ (od_ : (l0.length : Int).toNat ≤ 17592186044416)) (by omega)) (Below.refl _ _) (Nat.le_refl _) ?_; intro v401 w6 ho7 hb hg_ hnew_; clear hg_ hnew_; (first | rw [← Ny400.out] at ho7 | (simp only [Int.reduceToNat] at ho7; rw [← Ny400.out] at ho7)); have HO402 := a0_ (Kd.R_lower ho7 (below_size (bl0_))); replace HB := a0_ (below_step (bl0_) hb); clear hb ho7))
   go_loopg [7, 15] k (fun kq v7 v15 w' => ∃ (x7_1 : List (S56)) (x15_1 : Int), v15 = .int .i64 x15_1 ∧ Aside0 (impl_moved.l0 kq a1 a2 x7_1 l0 (l0.length : Int) x15_1 = some r) ∧ Aside0 (kq ≤ k) ∧ Aside0 (Kd.R k56 56 w' w.heap.size (fun _ => True) v7 x7_1) ∧ Aside0 (Below w.heap.size w w'))
   case atStart => exact ⟨(y400), (0), rs_, H', ⟨Nat.le_refl _⟩, ⟨ra_ HO402.out⟩, ⟨bl0_⟩⟩
   case round =>
    clear H'
    try clear c4b0
    try clear c4b1
    try clear c5b0
    try clear c5b1
    obtain ⟨x7_1, x15_1, rfl, HA, HK1, HO_7, HB⟩ := hrel
    cases gk with
    | zero => exact absurd HA.out (by simp [impl_moved.l0])
    | succ k1 =>
     have H := HA.out
     clear HA
     simp only [impl_moved.l0] at H
     by_cases c8 : x15_1 < (l0.length : Int)
     ·rw [if_pos c8] at H
      have c8b0 : decide (x15_1 < (l0.length : Int)) = true := decide_eq_true c8
      clear c8
      by_cases c9 : 0 ≤ x15_1
      ·rw [if_pos c9] at H
       have c9b0 : decide (0 ≤ x15_1) = true := decide_eq_true c9
       clear c9
       by_cases c10 : x15_1 < (l0.length : Int)
       ·rw [if_pos c10] at H
        have c10b0 : decide (x15_1 < (l0.length : Int)) = true := decide_eq_true c10
        clear c10
        by_cases c11 : x7_1.length < 8796093022208
        ·rw [if_pos c11] at H
         have LMc11 := Aside0.mk c11
         clear c11
         obtain ⟨y405, hy405⟩ : ∃ y_ : List (S56), y_ = (x7_1 ++ [(⟨wrap64 (((rd_T56 l0 x15_1).f0) + a1), wrap64 (((rd_T56 l0 x15_1).f1) + a2)⟩ : S56)]) := ⟨_, rfl⟩
         replace H : (impl_moved.l0 k1 a1 a2 y405 l0 (l0.length : Int) (wrap64 (x15_1 + 1))) = some r := hh_ hy405 H
         have Ny405 := Aside0.mk hy405
         clear hy405
         have H' := Aside0.mk H
         clear H
         have p403 : 0 ≤ (x15_1 : Int) := od_
         have q403 : x15_1 < (l0.length : Int) := od_
         obtain ⟨ad403, e403, hx403_0, hx403_1⟩ := at_T56 HR0.out x15_1 p403 q403
         cases e403
         replace hx403_0 := hc_ hx403_0
         replace hx403_1 := hc_ hx403_1
         replace p403 := eq_true p403
         replace q403 := eq_true q403
         go_wp2_with (first | ((with_reducible refine gate_dst (N := 9) rfl ?_); refine bx_ (N := 9) (cs := #[.int .i64 0, .int .i64 0]) (t := 56) ?_; intro gb404 hg w12 hbox hb; replace HO_7 := a0_ (Kd.R_below (Kd.R_elderB (ra_ HO_7.out) gb404 (Nat.le_of_eq hg.symm)) hb); have BK404 := a0_ (hbox); have GW404 := a0_ ((sz_ hg (bl0_) : w.heap.size ≤ gb404)); have GE404 := a0_ ((sz_ hg (bl0_) : w.heap.size ≤ gb404)); replace HB := a0_ (below_step (bl0_) hb); clear hb hbox hg; obtain ⟨hcz13_0, hcz13_1, hfz13_0, hfz13_1⟩ := bc2_ BK404.out) | ((with_reducible refine gate_builtin (b := .append) (xs := #[.tmp 19, .tmp 29]) rfl ?_); at_builtin; refine Kd.R_append k56 (w0 := w) w.heap.size rfl (.tmp 19) (.tmp 29) 29 56 (.agg #[(.int .i64 0), (.int .i64 0)]) 16 rfl Tryz.underlying29 info56 rfl (by decide) (by omega) u7 x7_1 (⟨wrap64 (((rd_T56 l0 x15_1).f0) + a1), wrap64 (((rd_T56 l0 x15_1).f1) + a2)⟩ : S56) [.int .i64 (wrap64 (((rd_T56 l0 x15_1).f0) + a1)), .int .i64 (wrap64 (((rd_T56 l0 x15_1).f1) + a2))] (fun k_ => k_ ≠ gb404) (fun _ => False) rfl (by first | (go_simp; done) | (go_simp; rfl)) ?aP (fun _ hk => hk.elim) ?aF ?aO ?aB ?aS ?aL ?_; (case aP => exact k56_mkM _ _ _ (⟨wrap64 (((rd_T56 l0 x15_1).f0) + a1), wrap64 (((rd_T56 l0 x15_1).f1) + a2)⟩ : S56)); (case aB => exact (bl1_ GE404.out)); (case aF => exact (fun k_ hk => Kd.freshB (g := gb404) (o := .cells #[.int .i64 ((rd_T56 l0 x15_1).f0), .int .i64 ((rd_T56 l0 x15_1).f1)] 56 (0, 0)) (by (with_reducible repeat (first | refine blk_drewN ?_ _ | refine blk_drew ?_ | refine blk_alloc ?_ _)); refine blk_put (cs := #[.int .i64 ((rd_T56 l0 x15_1).f0), .int .i64 0]) ?_ 1 _ rfl; (with_reducible repeat (first | refine blk_drewN ?_ _ | refine blk_drew ?_ | refine blk_alloc ?_ _)); refine blk_put (cs := #[.int .i64 0, .int .i64 0]) ?_ 0 _ rfl; (with_reducible repeat (first | refine blk_drewN ?_ _ | refine blk_drew ?_ | refine blk_alloc ?_ _)); exact BK404.out) k_ hk)); (case aO => exact (by (with_reducible repeat (first | apply Kd.R_alloc | apply Kd.R_drewN | apply Kd.R_drew)); exact Kd.R_mono (Kd.R_far (p := ⟨gb404, 1, none⟩) (Kd.R_far (p := ⟨gb404, 0, none⟩) (Kd.R_mono HO_7.out (fun k_ hk => (⟨hk, hk.2⟩ : _ ∧ k_ ≠ gb404))) (fun _ hk => hk.2) (.int .i64 ((rd_T56 l0 x15_1).f0))) (fun _ hk => hk.2) (.int .i64 ((rd_T56 l0 x15_1).f1))) (fun _ hk => hk.1.2))); (case aS => exact (below_size (bl1_ GE404.out))); (case aL => have := LMc11.out; omega); intro v406 w14 ho hb hg hat; rw [← Ny405.out] at ho; replace BK404 := a0_ (blk_grown (g := gb404) (o := .cells #[.int .i64 ((rd_T56 l0 x15_1).f0), .int .i64 ((rd_T56 l0 x15_1).f1)] 56 (0, 0)) (by (with_reducible repeat (first | refine blk_drewN ?_ _ | refine blk_drew ?_ | refine blk_alloc ?_ _)); refine blk_put (cs := #[.int .i64 ((rd_T56 l0 x15_1).f0), .int .i64 0]) ?_ 1 _ rfl; (with_reducible repeat (first | refine blk_drewN ?_ _ | refine blk_drew ?_ | refine blk_alloc ?_ _)); refine blk_put (cs := #[.int .i64 0, .int .i64 0]) ?_ 0 _ rfl; (with_reducible repeat (first | refine blk_drewN ?_ _ | refine blk_drew ?_ | refine blk_alloc ?_ _)); exact BK404.out) hg (Kd.R_away HO_7.out (fun _ hk => hk.2))); replace HB := a0_ (hb); have HO407 := a0_ (ho); clear HO_7; clear ho hb hg hat))
         go_roundg k1
         case measure => have := HK1.out; omega
         case rel => exact ⟨(y405), (wrap64 (x15_1 + 1)), rs_, H', ⟨by have := HK1.out; omega⟩, ⟨by (with_reducible repeat (first | apply Kd.R_alloc | apply Kd.R_drewN | apply Kd.R_drew)); exact Kd.R_mono HO407.out (fun _ hk => trivial)⟩, ⟨bl1_ GE404.out⟩⟩
        ·rw [if_neg c11] at H
         exact absurd H (by simp)
       ·rw [if_neg c10] at H
        exact absurd H (by simp)
      ·rw [if_neg c9] at H
       exact absurd H (by simp)
     ·rw [if_neg c8] at H
      have c8b0 : decide (x15_1 < (l0.length : Int)) = false := decide_eq_false c8
      clear c8
      obtain rfl := Option.some.inj H
      go_wp2
      go_ret
      exact ⟨_, er_, ra_ HO_7.out, bl0_⟩
  ·rw [if_neg c5] at H
   exact absurd H (by simp)
 ·rw [if_neg c4] at H
  exact absurd H (by simp)
def impl_normal.f (k : Nat) (l0 : List (S56)) : Option ((List (S56))) := (impl_corner.f k l0).bind fun bt408 => ((impl_moved.f k l0 (wrap64 (-bt408.1)) (wrap64 (-bt408.2))).bind fun t411 => (some t411))
theorem impl_normal.mono : ∀ a0 k, LeO (impl_normal.f k a0) (impl_normal.f (k + 1) a0) := by
 intro a0 k
 unfold impl_normal.f
 with_reducible (repeat' first | exact impl_corner.mono _ _ | exact impl_moved.mono _ _ _ _ | exact LeO.refl _ | exact LeO.none _ | refine LeO.ite ?_ ?_ | refine LeO.bind ?_ (fun _ => ?_))
set_option maxHeartbeats 8000000 in
set_option maxRecDepth 100000 in
theorem impl_normal.calls (k : Nat) (A0 : Option Addr) (c0 : Nat) (l0 : List (S56)) (r : List (S56)) (w : World) (hr0 : Kd.C k56 w A0 l0.length l0) (hc0 : l0.length ≤ c0) (h : impl_normal.f k l0 = some r) :
  Calls Tryz.prog 67 #[.slice A0 l0.length c0] w fun e w' => ∃ v0_ : Value, e = .returned (v0_) ∧ Kd.R k56 56 w' w.heap.size (fun _ => True) v0_ r ∧ Below w.heap.size w w' := by
 have hu56 := Tryz.underlying56
 have HR0 := Aside0.mk hr0
 have HC0 := Aside0.mk hc0
 clear hr0 hc0
 have HB := a0_ (Below.refl w.heap.size w)
 have H := h
 clear h
 unfold impl_normal.f at H
 obtain ⟨⟨t408, t409⟩, A2, H⟩ := bs_ H
 dsimp only at H
 obtain ⟨t411, A3, H⟩ := bs_ H
 obtain rfl := Option.some.inj H
 go_enter Tryz.func67, Tryz.ntmps67
 go_wp2_with (first | ((with_reducible refine gate_callee (f := 85) rfl ?_); refine goesL_ (some 5) rfl rfl Tryz.func85 kr_ rfl #[.slice A0 l0.length c0] rfl ta_ ?_; (with_reducible refine (impl_corner.calls k _ _ l0 t408 t409 _ ?side1 ?side2 A2.out).mono ?_); (case side1 => exact ca_ HR0.out); (case side2 => exact HC0.out); rintro e w4 ⟨rfl, hb⟩; refine ⟨_, rfl, ?_⟩; replace HB := a0_ (below_step (bl0_) hb); (try clear hb)) | ((with_reducible refine gate_dst (N := 3) rfl ?_); refine bx_ (N := 3) (cs := #[.int .i64 0, .int .i64 0]) (t := 56) ?_; intro gb410 hg w5 hbox hb; have BK410 := a0_ (hbox); have GW410 := a0_ ((sz_ hg (bl0_) : w.heap.size ≤ gb410)); have GE410 := a0_ ((sz_ hg (bl0_) : w.heap.size ≤ gb410)); replace HB := a0_ (below_step (bl0_) hb); clear hb hbox hg; obtain ⟨hcz6_0, hcz6_1, hfz6_0, hfz6_1⟩ := bc2_ BK410.out) | ((with_reducible refine gate_callee (f := 86) rfl ?_); refine goesL_ (some 13) rfl rfl Tryz.func86 kr_ rfl #[.slice A0 l0.length c0, .int .i64 (wrap64 (-t408)), .int .i64 (wrap64 (-t409))] rfl ta_ ?_; (with_reducible refine (impl_moved.calls k _ _ l0 (wrap64 (-t408)) (wrap64 (-t409)) t411 _ ?side1 ?side2 A3.out).mono ?_); (case side1 => exact Kd.C_below HR0.out (bl1_ GE410.out)); (case side2 => exact HC0.out); rintro e w7 ⟨v412, rfl, ho0, hb⟩; refine ⟨_, rfl, ?_⟩; have HO413 := a0_ (Kd.R_lower (Kd.R_newB ho0 (g := gb410) (o := .cells #[.int .i64 t408, .int .i64 t409] 56 (0, 0)) (by (with_reducible repeat (first | refine blk_drewN ?_ _ | refine blk_drew ?_ | refine blk_alloc ?_ _)); refine blk_put (cs := #[.int .i64 t408, .int .i64 0]) ?_ 1 _ rfl; (with_reducible repeat (first | refine blk_drewN ?_ _ | refine blk_drew ?_ | refine blk_alloc ?_ _)); refine blk_put (cs := #[.int .i64 0, .int .i64 0]) ?_ 0 _ rfl; (with_reducible repeat (first | refine blk_drewN ?_ _ | refine blk_drew ?_ | refine blk_alloc ?_ _)); exact BK410.out)) (below_size (bl1_ GE410.out))); replace BK410 := a0_ (blk_below (g := gb410) (o := .cells #[.int .i64 t408, .int .i64 t409] 56 (0, 0)) (by (with_reducible repeat (first | refine blk_drewN ?_ _ | refine blk_drew ?_ | refine blk_alloc ?_ _)); refine blk_put (cs := #[.int .i64 t408, .int .i64 0]) ?_ 1 _ rfl; (with_reducible repeat (first | refine blk_drewN ?_ _ | refine blk_drew ?_ | refine blk_alloc ?_ _)); refine blk_put (cs := #[.int .i64 0, .int .i64 0]) ?_ 0 _ rfl; (with_reducible repeat (first | refine blk_drewN ?_ _ | refine blk_drew ?_ | refine blk_alloc ?_ _)); exact BK410.out) hb); replace HB := a0_ (below_step (bl1_ GE410.out) hb); (try clear hb)))
 go_ret
 exact ⟨_, er_, by (with_reducible repeat (first | apply Kd.R_alloc | apply Kd.R_drewN | apply Kd.R_drew)); exact Kd.R_mono HO413.out (fun _ hk => trivial), bl1_ GE410.out⟩
def encC (x : S56) : List Value := [.int .i64 x.f0, .int .i64 x.f1]
instance : Inhabited S56 := ⟨z56⟩
def cfC (x y : S56) : Int := (impl_compareCells.f x.f0 x.f1 y.f0 y.f1).getD 0
def ltC (x y : S56) : Bool := decide (x.f1 < y.f1) || (decide (x.f1 = y.f1) && decide (x.f0 < y.f0))
theorem cmpI_some (a b : Int) : cmp_Compare_int64.f a b = some (if a < b then -1 else if a > b then 1 else 0) := by
 have h : ∀ x : Int, cmp_isNaN_int64.f x = some false := fun x => by simp [cmp_isNaN_int64.f]
 unfold cmp_Compare_int64.f
 rw [h, h]
 simp only [Option.bind_some, Bool.false_eq_true, if_false]
 split
 ·rfl
 ·split <;> rfl
theorem cfC_some (x y : S56) : impl_compareCells.f x.f0 x.f1 y.f0 y.f1 = some (cfC x y) := by
 have h : ∃ r, impl_compareCells.f x.f0 x.f1 y.f0 y.f1 = some r := by
  unfold impl_compareCells.f
  rw [cmpI_some, cmpI_some]
  simp only [Option.bind_some]
  repeat' split
  all_goals exact ⟨_, rfl⟩
 obtain ⟨r, h⟩ := h
 unfold cfC
 rw [h]
 rfl
theorem cfC_lt (x y : S56) : ltOf cfC x y = ltC x y := by
 unfold ltOf ltC cfC impl_compareCells.f
 rw [cmpI_some, cmpI_some]
 simp only [Option.bind_some]
 by_cases a : x.f1 < y.f1
 ·simp [a]
 ·by_cases b : x.f1 = y.f1
  ·by_cases c : x.f0 < y.f0
   ·simp [b, c]
   ·by_cases d : y.f0 < x.f0 <;> simp [b, c, d]
  ·have d : x.f1 > y.f1 := by omega
   simp [a, b, d]
theorem ltC_iff (x y : S56) : ltC x y = true ↔ x.f1 < y.f1 ∨ (x.f1 = y.f1 ∧ x.f0 < y.f0) := by
 unfold ltC
 simp only [Bool.or_eq_true, Bool.and_eq_true, decide_eq_true_eq]
theorem ltC_swo : Sort.SWO (ltOf cfC) where
 irrefl x := by rw [cfC_lt, Bool.eq_false_iff]; intro h; rw [ltC_iff] at h; omega
 trans x y z h1 h2 := by rw [cfC_lt, ltC_iff] at *; omega
 ntrans x y z h1 h2 := by rw [cfC_lt, Bool.eq_false_iff, Ne, ltC_iff] at *; omega
theorem ltC_total (x y : S56) (h1 : ltOf cfC x y = false) (h2 : ltOf cfC y x = false) : x = y := by
 rw [cfC_lt, Bool.eq_false_iff, Ne, ltC_iff] at *
 obtain ⟨a, b⟩ := x
 obtain ⟨c, d⟩ := y
 simp only at h1 h2
 have e1 : a = c := by omega
 have e2 : b = d := by omega
 rw [e1, e2]
def sortC (l : List S56) : List S56 := l.mergeSort fun x y => !(ltOf cfC) y x
set_option maxHeartbeats 2000000 in
theorem compareCells_grow (a0 a1 b0 b1 r : Int) (h : impl_compareCells.f a0 a1 b0 b1 = some r) (W : World) : Calls Tryz.prog 80 #[.agg #[.int .i64 a0, .int .i64 a1], .agg #[.int .i64 b0, .int .i64 b1]] W fun e w' => e = .returned (.int .i64 r) ∧ ∃ q os', w' = Sort.grow (W.drewN q) os' := by
 unfold impl_compareCells.f at h
 obtain ⟨t, h1, h2⟩ := Option.bind_eq_some_iff.mp h
 have c1 := fun W' => cmp_Compare_int64.calls a1 b1 t W' h1
 by_cases c : t = 0
 ·rw [if_pos c] at h2
  obtain ⟨u, h3, h4⟩ := Option.bind_eq_some_iff.mp h2
  obtain rfl := Option.some.inj h4
  have c2 := fun W' => cmp_Compare_int64.calls a0 b0 u W' h3
  subst c
  clear h h1 h2 h3 h4
  go_enter Tryz.func80, Tryz.ntmps80
  go_wp2_with (first | (go_at_call 93; ((with_reducible refine (c1 _).mono ?_); rintro e w' ⟨rfl, n1, rfl⟩)) | (go_at_call 93; ((with_reducible refine (c2 _).mono ?_); rintro e w' ⟨rfl, n2, rfl⟩)))
  go_ret
  exact ⟨rfl, n1 + n2, _, by rw [Sort.alloc_eq_grow, Sort.alloc_eq_grow, Sort.grow_grow]; rfl⟩
 ·rw [if_neg c] at h2
  obtain rfl := Option.some.inj h2
  have b0 : (t == 0) = false := beq_eq_false_iff_ne.mpr c
  have b1 : (t != 0) = true := bne_iff_ne.mpr c
  clear h h1 h2 c
  go_enter Tryz.func80, Tryz.ntmps80
  go_wp2_with (go_at_call 93; ((with_reducible refine (c1 _).mono ?_); rintro e w' ⟨rfl, n1, rfl⟩))
  go_ret
  exact ⟨rfl, n1, _, by rw [Sort.alloc_eq_grow, Sort.alloc_eq_grow, Sort.grow_grow]; rfl⟩
theorem sorted_rest (w w1 : World) (l : List S56) (g cap : Nat) (hown : w1.ownsRow w.heap.size 56 2 (.slice (some ⟨g, 0, none⟩) l.length cap) l.length (Sort.flatK encC 2 l.toArray).toList) (hb : Below w.heap.size w w1) (hl : l.length < 4611686018427387904) :
  Calls Tryz.prog 99 #[.slice (some ⟨g, 0, none⟩) l.length cap, .func (.func 80) #[] #[]] w1 fun e w' => e = .returned (.tuple #[]) ∧ Kd.R k56 56 w' w.heap.size (fun _ => True) (.slice (some ⟨g, 0, none⟩) l.length cap) (sortC l) ∧ Below w.heap.size w w' := by
 have hk : ∀ x, (encC x).length = 2 := fun _ => rfl
 obtain ⟨hH, hlt, hbase, hnext⟩ := own_sort encC 2 hk (by omega) (d := l.toArray) (by simp) hown (flatK_reps encC 2 hk (by omega) l.toArray)
 have eg : ∀ args w, (callFunc 80 args).run Tryz.prog w = .ok (.enter 80 args) w := enters_of Tryz.func80 kr_ rfl
 have hcmp : CmpLays Tryz.prog 80 #[] encC 2 cfC g 0 l.toArray.size w1 := fun _ _ _ _ x y => compareCells_grow x.f0 x.f1 y.f0 y.f1 _ (cfC_some x y) _
 have h := AnyQ.slices_SortFunc_total Tryz.sortC 2 Tryz.isAgg56 Tryz.sizeOf56 encC hk (fun x v hv => by simp [encC] at hv; rcases hv with rfl | rfl <;> rfl) cfC ltC_swo 80 #[] g 0 cap l.toArray w1 eg hcmp hH hlt (by simpa using hl) ltC_total
 change Calls Tryz.prog 99 _ _ _ at h
 simp only [List.size_toArray] at h
 refine h.mono ?_
 rintro e w' ⟨rfl, n, os, rfl⟩
 have hs : (sortC l).length = l.length := List.length_mergeSort _
 have ho := hnext n (sortC l).toArray os (by simpa using hs)
 refine ⟨rfl, ⟨fun _ _ => trivial, _, ?_, (flatK_reps encC 2 hk (by omega) (sortC l).toArray).imp_ (fun p c hc => ?_)⟩, sortWorldK_below encC 2 w1 g n _ os hb hbase hlt⟩
 ·rw [hs]; exact ho
 ·rw [hc]; exact k56_mkM _ _ _ p
def impl_sorted.f (l0 : List S56) : Option (List S56) := if 0 < l0.length ∧ l0.length * 16 ≤ 140737488355328 then some (sortC l0) else none
set_option maxHeartbeats 2000000 in
theorem impl_sorted.calls (A0 : Option Addr) (c0 : Nat) (l0 : List S56) (r : List S56) (w : World) (hr0 : Kd.C k56 w A0 l0.length l0) (hc0 : l0.length ≤ c0) (h : impl_sorted.f l0 = some r) :
  Calls Tryz.prog 92 #[.slice A0 l0.length c0] w fun e w' => ∃ v0_ : Value, e = .returned (v0_) ∧ Kd.R k56 56 w' w.heap.size (fun _ => True) v0_ r ∧ Below w.heap.size w w' := by
 unfold impl_sorted.f at h
 split at h
 ·rename_i hc
  obtain rfl := Option.some.inj h
  clear h
  have hk : ∀ x, (encC x).length = 2 := fun _ => rfl
  obtain ⟨hlr, hmax, hread0⟩ := hr0
  obtain ⟨ad, eA, hread⟩ := hread0 hc.1
  subst eA
  have hflat := reads_flat encC 2 hk (by omega) (w := w) (ad := ad) (xs := l0) (fun j p hj i u hu => by
   obtain ⟨c, hcl, hK, hcell⟩ := hread j p hj
   exact hcell i u (by rw [k56_open hK]; exact hu))
  have had : ad = ⟨ad.block, ad.off, none⟩ := by
   have h0 := hflat 0 ((Sort.flatK encC 2 l0.toArray).toList[0]'(by simp; omega)) (List.getElem?_eq_getElem _)
   rw [show ad.add 0 = ad by simp [Addr.add]] at h0
   exact spot_none h0
  generalize ad.block = b at had
  generalize ad.off = o at had
  subst had
  obtain ⟨i0, hi, hzz⟩ := Option.map_eq_some_iff.1 (show (Tryz.prog.info? 56).map (fun i => (i.zero, i.size, i.bytes)) = some (some (.agg #[.int .i64 0, .int .i64 0]), 2, 16) by kernel_rfl)
  simp only [Prod.mk.injEq] at hzz
  obtain ⟨hz0, hz1, hz2⟩ := hzz
  have hcl := AnyE.slices_Clone Tryz.cloneC i0 _ 2 16 hi hz0 hz1 hz2 rfl (by omega) Tryz.sizeOf56 b o l0.length c0 (Sort.flatK encC 2 l0.toArray).toList w (by simp) (by simp only [maxLen]; omega) (by omega) (fun j u hj => by
   have := hflat j u hj
   rwa [show (⟨b, o, none⟩ : Addr).add j = ⟨b, o + j, none⟩ by unfold Addr.add; split <;> simp_all] at this) (fun u hu => by
   obtain ⟨t, ht, rfl⟩ := List.getElem_of_mem hu
   have hlt : t < l0.length * 2 := by simpa using ht
   have e := (flatK_reps encC 2 hk (by omega) l0.toArray).2 (t / 2) (l0[t / 2]'(by omega)) (List.getElem?_eq_getElem (by simp; omega))
   have e2 : (((Sort.flatK encC 2 l0.toArray).toList.drop (t / 2 * 2)).take 2)[t % 2]? = some ((Sort.flatK encC 2 l0.toArray).toList[t]) := by
    rw [List.getElem?_take_of_lt (by omega), List.getElem?_drop, show t / 2 * 2 + t % 2 = t by omega, List.getElem?_eq_getElem ht]
   simp only [] at e
   rw [e] at e2
   have hm := List.mem_of_getElem? e2
   simp only [encC, List.mem_cons, List.not_mem_nil, or_false] at hm
   rcases hm with hm | hm <;> rw [hm] <;> rfl)
  change Calls Tryz.prog 95 _ _ _ at hcl
  have hlen : l0.length < 4611686018427387904 := by omega
  have HL := Aside0.mk hlen
  clear hi hz0 hz1 hz2 hflat hread hread0 hlr hmax hc hc0 hk hlen
  go_enter Tryz.func92, Tryz.ntmps92
  go_wp2_with (first | (go_at_call 95; ((with_reducible refine hcl.mono ?_); rintro e w1 ⟨v', rfl, hown, hne, hb⟩; obtain ⟨g, cap, rfl⟩ := own_shape 2 hown hne; have HO := Aside0.mk hown; have HB := Aside0.mk hb; clear hown hne hb)) | (go_at_call 99; (refine (sorted_rest w _ l0 g cap HO.out HB.out HL.out).mono ?_; rintro e w2 ⟨rfl, hR, hb⟩; have HR := Aside0.mk hR; have HB2 := Aside0.mk hb; clear hR hb)))
  go_ret
  exact ⟨_, rfl, HR.out, HB2.out⟩
 ·cases h
def cmpGo : List S56 → List S56 → Int
 | x :: a, y :: b => if cfC x y = 0 then cmpGo a b else cfC x y
 | _, _ => 0
set_option maxHeartbeats 4000000 in
set_option maxRecDepth 100000 in
theorem compareFunc_grew (A0 A1 : Option Addr) (c0 c1 : Nat) (l0 l1 : List S56) (w : World) (hr0 : Kd.C k56 w A0 l0.length l0) (hr1 : Kd.C k56 w A1 l1.length l1) (hl : l0.length = l1.length) :
  Calls Tryz.prog 90 #[.slice A0 l0.length c0, .slice A1 l1.length c1, .func (.func 80) #[] #[]] w fun e w' => e = .returned (.int .i64 (cmpGo l0 l1)) ∧ Grew w w' := by
 have hu := Tryz.underlying56
 have hmax : l0.length ≤ 9223372036854775807 := hr0.2.1
 have HR0 := Aside0.mk hr0
 have HR1 := Aside0.mk hr1
 have HL := a0_ (And.intro hl hmax)
 clear hr0 hr1 hl hmax
 go_enter Tryz.func90, Tryz.ntmps90
 go_wp2
 go_loopg [13] l0.length (fun kq v13 w' => ∃ j : Nat, v13 = .int .i64 j ∧ Aside0 (kq + j = l0.length ∧ cmpGo l0 l1 = cmpGo (l0.drop j) (l1.drop j)) ∧ Aside0 (Grew w w'))
 case atStart => exact ⟨0, rfl, ⟨by omega, rfl⟩, ⟨Grew.refl _⟩⟩
 case round =>
  obtain ⟨j, rfl, HJ, HB⟩ := hrel
  by_cases hj : j < l0.length
  ·have hj1 : j < l1.length := by have := HL.out.1; omega
   have d0 : decide ((j : Int) < (l0.length : Int)) = true := decide_eq_true (by omega)
   have d1 : decide ((j : Int) ≥ (l1.length : Int)) = false := decide_eq_false (by omega)
   have d2 : decide ((l1.length : Int) ≤ (j : Int)) = false := decide_eq_false (by omega)
   have d3 : decide (l1.length ≤ j) = false := decide_eq_false (by omega)
   have d4 : decide (j < l0.length) = true := decide_eq_true hj
   obtain ⟨ad0, e0, hx0, hx1⟩ := at_T56 HR0.out (j : Int) (by omega) (by omega)
   obtain ⟨ad1, e1, hy0, hy1⟩ := at_T56 HR1.out (j : Int) (by omega) (by omega)
   cases e0
   cases e1
   simp only [Int.toNat_natCast] at hx0 hx1 hy0 hy1
   replace hx0 := (HB.out.below.cell (World.block_lt_of_cell? w _ hx0)).trans hx0
   replace hx1 := (HB.out.below.cell (World.block_lt_of_cell? w _ hx1)).trans hx1
   have p0 : (0 ≤ (j : Int)) = True := eq_true (by omega)
   have q0 : ((j : Int) < (l0.length : Int)) = True := eq_true (by omega)
   have q1 : ((j : Int) < (l1.length : Int)) = True := eq_true (by omega)
   have q2 : (j < l0.length) = True := eq_true hj
   have q3 : (j < l1.length) = True := eq_true hj1
   have hy0a : ∀ o : Obj, (wr.alloc o).cell? (ad1.add (j * 2)) = some (Value.int IntKind.i64 (rd_T56 l1 (j : Int)).f0) := fun o => ((HB.out.alloc o).below.cell (World.block_lt_of_cell? w _ hy0)).trans hy0
   have hy1a : ∀ o : Obj, (wr.alloc o).cell? ⟨(ad1.add (j * 2)).block, (ad1.add (j * 2)).off + 1, none⟩ = some (Value.int IntKind.i64 (rd_T56 l1 (j : Int)).f1) := fun o => ((HB.out.alloc o).below.cell (World.block_lt_of_cell? w _ hy1)).trans hy1
   have hc := fun W => compareCells_grow (rd_T56 l0 (j : Int)).f0 (rd_T56 l0 (j : Int)).f1 (rd_T56 l1 (j : Int)).f0 (rd_T56 l1 (j : Int)).f1 _ (cfC_some (rd_T56 l0 (j : Int)) (rd_T56 l1 (j : Int))) W
   have hstep : cmpGo (l0.drop j) (l1.drop j) = if cfC (rd_T56 l0 (j : Int)) (rd_T56 l1 (j : Int)) = 0 then cmpGo (l0.drop (j + 1)) (l1.drop (j + 1)) else cfC (rd_T56 l0 (j : Int)) (rd_T56 l1 (j : Int)) := by
    have e0 : rd_T56 l0 (j : Int) = l0[j] := by show l0.getD j _ = _; rw [List.getD_eq_getElem?_getD, List.getElem?_eq_getElem hj, Option.getD_some]
    have e1 : rd_T56 l1 (j : Int) = l1[j] := by show l1.getD j _ = _; rw [List.getD_eq_getElem?_getD, List.getElem?_eq_getElem hj1, Option.getD_some]
    rw [e0, e1, List.drop_eq_getElem_cons hj, List.drop_eq_getElem_cons hj1, cmpGo]
   have hw : wrap64 ((j : Int) + 1) = ((j + 1 : Nat) : Int) := by have := HL.out.2; unfold wrap64; omega
   have HW := Aside0.mk hw
   clear hw
   generalize cfC (rd_T56 l0 (j : Int)) (rd_T56 l1 (j : Int)) = z at hc hstep
   have HS := Aside0.mk hstep
   clear hstep hy0 hy1
   by_cases hz : z = 0
   ·have HZ := Aside0.mk hz
    have z0 : (z == 0) = true := beq_iff_eq.mpr hz
    have z1 : (z != 0) = false := bne_eq_false_iff_eq.mpr hz
    clear hz
    go_wp2_with (go_at_call 80; ((with_reducible refine (hc _).mono ?_); rintro e w1 ⟨rfl, hb⟩; have HB1 := a0_ (((HB.out.alloc _).alloc _).trans hb); clear hb))
    go_roundg (l0.length - (j + 1))
    case measure => (have := HJ.out.1; omega)
    case rel => exact ⟨j + 1, by first | rfl | exact congrArg (Value.int .i64) HW.out, ⟨by omega, by rw [HJ.out.2, HS.out, if_pos HZ.out]⟩, HB1⟩
   ·have HZ := Aside0.mk hz
    have z0 : (z == 0) = false := beq_eq_false_iff_ne.mpr hz
    have z1 : (z != 0) = true := bne_iff_ne.mpr hz
    clear hz
    go_wp2_with (go_at_call 80; ((with_reducible refine (hc _).mono ?_); rintro e w1 ⟨rfl, hb⟩; have HB1 := a0_ (((HB.out.alloc _).alloc _).trans hb); clear hb))
    go_ret
    exact ⟨by rw [HJ.out.2, HS.out, if_neg HZ.out]; rfl, HB1.out⟩
  ·have d0 : decide ((j : Int) < (l0.length : Int)) = false := decide_eq_false (by omega)
   have d4 : decide (j < l0.length) = false := decide_eq_false hj
   have d5 : decide ((l0.length : Int) < (l1.length : Int)) = false := decide_eq_false (by have := HL.out.1; omega)
   have d6 : decide (l0.length < l1.length) = false := decide_eq_false (by have := HL.out.1; omega)
   have HE : Aside0 (cmpGo l0 l1 = 0) := ⟨by rw [HJ.out.2, List.drop_of_length_le (by omega)]; rfl⟩
   clear hj
   go_wp2
   go_ret
   exact ⟨by rw [HE.out]; rfl, HB.out⟩
def cmpS (a b : List S56) : Int := if a.length = b.length then cmpGo a b else if a.length < b.length then -1 else 1
def impl_compareShapes.f (l0 : List S56) (l1 : List S56) : Option Int := some (cmpS l0 l1)
set_option maxHeartbeats 4000000 in
set_option maxRecDepth 100000 in
theorem compareShapes_grew (A0 : Option Addr) (c0 : Nat) (l0 : List S56) (A1 : Option Addr) (c1 : Nat) (l1 : List S56) (r : Int) (w : World) (hr0 : Kd.C k56 w A0 l0.length l0) (hc0 : l0.length ≤ c0) (hr1 : Kd.C k56 w A1 l1.length l1) (hc1 : l1.length ≤ c1) (h : impl_compareShapes.f l0 l1 = some r) :
  Calls Tryz.prog 74 #[.slice A0 l0.length c0, .slice A1 l1.length c1] w fun e w' => e = .returned (.int .i64 r) ∧ Grew w w' := by
 obtain rfl := Option.some.inj h
 clear h
 by_cases hl : l0.length = l1.length
 ·have hc := compareFunc_grew A0 A1 c0 c1 l0 l1 w hr0 hr1 hl
  have hr : cmpS l0 l1 = cmpGo l0 l1 := if_pos hl
  rw [hr]
  have d0 : ((l0.length : Int) == (l1.length : Int)) = true := beq_iff_eq.mpr (by omega)
  have d1 : ((l0.length : Int) != (l1.length : Int)) = false := bne_eq_false_iff_eq.mpr (by omega)
  have d2 : (l0.length == l1.length) = true := beq_iff_eq.mpr hl
  have d3 : (l0.length != l1.length) = false := bne_eq_false_iff_eq.mpr hl
  generalize cmpGo l0 l1 = z at hc
  clear hr0 hr1 hc0 hc1 hr hl
  go_enter Tryz.func74, Tryz.ntmps74
  go_wp2_with (go_at_call 90; ((with_reducible refine hc.mono ?_); rintro e w1 ⟨rfl, hb⟩; have HB1 := Aside0.mk hb; clear hb))
  go_ret
  exact ⟨rfl, HB1.out⟩
 ·have d0 : ((l0.length : Int) == (l1.length : Int)) = false := beq_eq_false_iff_ne.mpr (by omega)
  have d1 : ((l0.length : Int) != (l1.length : Int)) = true := bne_iff_ne.mpr (by omega)
  have d2 : (l0.length == l1.length) = false := beq_eq_false_iff_ne.mpr hl
  have d3 : (l0.length != l1.length) = true := bne_iff_ne.mpr hl
  by_cases hlt : l0.length < l1.length
  ·have hr : cmpS l0 l1 = -1 := by unfold cmpS; rw [if_neg hl, if_pos hlt]
   rw [hr]
   have e0 : decide ((l0.length : Int) < (l1.length : Int)) = true := decide_eq_true (by omega)
   have e1 : decide (l0.length < l1.length) = true := decide_eq_true hlt
   clear hr0 hr1 hc0 hc1 hr hl hlt
   go_enter Tryz.func74, Tryz.ntmps74
   go_wp2
   go_ret
   exact ⟨rfl, Grew.refl _⟩
  ·have hr : cmpS l0 l1 = 1 := by unfold cmpS; rw [if_neg hl, if_neg hlt]
   rw [hr]
   have e0 : decide ((l0.length : Int) < (l1.length : Int)) = false := decide_eq_false (by omega)
   have e1 : decide (l0.length < l1.length) = false := decide_eq_false hlt
   clear hr0 hr1 hc0 hc1 hr hl hlt
   go_enter Tryz.func74, Tryz.ntmps74
   go_wp2
   go_ret
   exact ⟨rfl, Grew.refl _⟩
theorem impl_compareShapes.calls (A0 : Option Addr) (c0 : Nat) (l0 : List S56) (A1 : Option Addr) (c1 : Nat) (l1 : List S56) (r : Int) (w : World) (hr0 : Kd.C k56 w A0 l0.length l0) (hc0 : l0.length ≤ c0) (hr1 : Kd.C k56 w A1 l1.length l1) (hc1 : l1.length ≤ c1) (h : impl_compareShapes.f l0 l1 = some r) :
  Calls Tryz.prog 74 #[.slice A0 l0.length c0, .slice A1 l1.length c1] w fun e w' => e = .returned (.int .i64 r) ∧ Below w.heap.size w w' :=
 (compareShapes_grew A0 c0 l0 A1 c1 l1 r w hr0 hc0 hr1 hc1 h).mono fun _ _ ⟨h1, h2⟩ => ⟨h1, h2.below⟩
theorem cfC_val (x y : S56) : cfC x y = if ltC x y = true then -1 else if ltC y x = true then 1 else 0 := by
 unfold cfC ltC impl_compareCells.f
 rw [cmpI_some, cmpI_some]
 simp only [Option.bind_some]
 by_cases a : x.f1 < y.f1
 ·simp [a]
 ·by_cases b : x.f1 = y.f1
  ·by_cases c : x.f0 < y.f0
   ·simp [b, c]
   ·by_cases d : y.f0 < x.f0 <;> simp [b, c, d]
  ·have d : y.f1 < x.f1 := by omega
   have e : ¬ y.f1 = x.f1 := fun h => b h.symm
   simp [a, b, d]
theorem ltC_asym (x y : S56) (h : ltC x y = true) : ¬ ltC y x = true := by
 rw [ltC_iff] at *
 omega
theorem cfC_neg (x y : S56) : cfC y x = -cfC x y := by
 rw [cfC_val, cfC_val]
 by_cases a : ltC x y = true
 ·have na := ltC_asym x y a
  rw [if_neg na, if_pos a, if_pos a]; decide
 ·by_cases b : ltC y x = true
  ·rw [if_pos b, if_neg a, if_pos b]
  ·rw [if_neg b, if_neg a, if_neg a, if_neg b]; decide
theorem cfC_zero (x y : S56) : cfC x y = 0 ↔ x = y := by
 rw [cfC_val]
 constructor
 ·intro h
  by_cases a : ltC x y = true
  ·rw [if_pos a] at h; omega
  ·rw [if_neg a] at h
   by_cases b : ltC y x = true
   ·rw [if_pos b] at h; omega
   ·exact ltC_total x y (by rw [cfC_lt]; simpa using a) (by rw [cfC_lt]; simpa using b)
 ·rintro rfl
  have : ¬ ltC x x = true := by rw [ltC_iff]; omega
  rw [if_neg this, if_neg this]
theorem cfC_neg_iff (x y : S56) : cfC x y < 0 ↔ ltC x y = true := by
 rw [cfC_val]
 by_cases a : ltC x y = true
 ·rw [if_pos a]; simp [a]
 ·rw [if_neg a]
  by_cases b : ltC y x = true
  ·rw [if_pos b]; simp [a]
  ·rw [if_neg b]; simp [a]
theorem cmpGo_neg : ∀ a b : List S56, a.length = b.length → cmpGo b a = -cmpGo a b
 | [], [], _ => rfl
 | [], _ :: _, h => by simp at h
 | _ :: _, [], h => by simp at h
 | x :: a, y :: b, h => by
  rw [cmpGo, cmpGo, cmpGo_neg a b (by simpa using h), cfC_neg x y]
  by_cases z : cfC x y = 0
  ·rw [if_pos z, if_pos (by omega)]
  ·rw [if_neg z, if_neg (by omega)]
theorem cmpGo_zero : ∀ a b : List S56, a.length = b.length → (cmpGo a b = 0 ↔ a = b)
 | [], [], _ => by simp [cmpGo]
 | [], _ :: _, h => by simp at h
 | _ :: _, [], h => by simp at h
 | x :: a, y :: b, h => by
  rw [cmpGo]
  have ih := cmpGo_zero a b (by simpa using h)
  by_cases z : cfC x y = 0
  ·rw [if_pos z, ih, (cfC_zero x y).1 z]; simp
  ·rw [if_neg z]
   constructor
   ·intro e; exact absurd e z
   ·intro e
    rw [List.cons.injEq] at e
    exact absurd ((cfC_zero x y).2 e.1) z
theorem cmpGo_trans : ∀ a b c : List S56, a.length = b.length → b.length = c.length → cmpGo a b < 0 → cmpGo b c < 0 → cmpGo a c < 0
 | [], [], [], _, _, h, _ => h
 | [], [], _ :: _, _, h, _, _ => by simp at h
 | [], _ :: _, _, h, _, _, _ => by simp at h
 | _ :: _, [], _, h, _, _, _ => by simp at h
 | _ :: _, _ :: _, [], _, h, _, _ => by simp at h
 | x :: a, y :: b, z :: c, h1, h2, h3, h4 => by
  rw [cmpGo] at h3 h4 ⊢
  have ih := cmpGo_trans a b c (by simpa using h1) (by simpa using h2)
  by_cases p : cfC x y = 0
  ·rw [if_pos p] at h3
   obtain rfl := (cfC_zero x y).1 p
   by_cases q : cfC x z = 0
   ·rw [if_pos q] at h4 ⊢
    exact ih h3 h4
   ·rw [if_neg q] at h4 ⊢
    exact h4
  ·rw [if_neg p] at h3
   have l1 := (cfC_neg_iff x y).1 h3
   by_cases q : cfC y z = 0
   ·obtain rfl := (cfC_zero y z).1 q
    rw [if_neg p]
    exact h3
   ·rw [if_neg q] at h4
    have l2 := (cfC_neg_iff y z).1 h4
    have l3 : ltC x z = true := by
     rw [ltC_iff] at *
     omega
    have l4 := (cfC_neg_iff x z).2 l3
    rw [if_neg (by omega)]
    exact l4
theorem cmpS_neg (a b : List S56) : cmpS b a = -cmpS a b := by
 unfold cmpS
 by_cases h : a.length = b.length
 ·rw [if_pos h, if_pos h.symm, cmpGo_neg a b h]
 ·rw [if_neg h, if_neg (fun e => h e.symm)]
  by_cases q : a.length < b.length
  ·rw [if_pos q, if_neg (by omega)]; rfl
  ·rw [if_neg q, if_pos (by omega)]
theorem cmpS_zero (a b : List S56) : cmpS a b = 0 ↔ a = b := by
 unfold cmpS
 by_cases h : a.length = b.length
 ·rw [if_pos h]; exact cmpGo_zero a b h
 ·rw [if_neg h]
  constructor
  ·intro e; split at e <;> omega
  ·rintro rfl; exact absurd rfl h
theorem cmpS_trans (a b c : List S56) (h1 : cmpS a b < 0) (h2 : cmpS b c < 0) : cmpS a c < 0 := by
 unfold cmpS at *
 by_cases p : a.length = b.length
 ·rw [if_pos p] at h1
  by_cases q : b.length = c.length
  ·rw [if_pos q] at h2
   rw [if_pos (p.trans q)]
   exact cmpGo_trans a b c p q h1 h2
  ·rw [if_neg q] at h2
   rw [if_neg (by omega), p]
   exact h2
 ·rw [if_neg p] at h1
  have hlt : a.length < b.length := by
   by_cases z : a.length < b.length
   ·exact z
   ·rw [if_neg z] at h1; omega
  by_cases q : b.length = c.length
  ·rw [if_neg (by omega), if_pos (by omega)]; omega
  ·rw [if_neg q] at h2
   have hlt2 : b.length < c.length := by
    by_cases z : b.length < c.length
    ·exact z
    ·rw [if_neg z] at h2; omega
   rw [if_neg (by omega), if_pos (by omega)]; omega
theorem cmpS_le_trans (a b c : List S56) (h1 : cmpS a b ≤ 0) (h2 : cmpS b c ≤ 0) : cmpS a c ≤ 0 := by
 by_cases e1 : cmpS a b = 0
 ·obtain rfl := (cmpS_zero a b).1 e1; exact h2
 ·by_cases e2 : cmpS b c = 0
  ·obtain rfl := (cmpS_zero b c).1 e2; exact h1
  ·have := cmpS_trans a b c (by omega) (by omega); omega
theorem cmpS_self (a : List S56) : cmpS a a = 0 := (cmpS_zero a a).2 rfl
def slices_Equal_impl_Cell_impl_Cell.l0 : Nat → List (S56) → List (S56) → Int → Int → Option (Bool)
 | 0, _, _, _, _ => none
 | k + 1, x0, x1, x12, x13 => if x13 < x12 then (if 0 ≤ x13 then (if x13 < (x0.length : Int) then (if x13 < (x1.length : Int) then (if (!(((rd_T56 x0 x13).f0) == ((rd_T56 x1 x13).f0)) || (!(((rd_T56 x0 x13).f1) == ((rd_T56 x1 x13).f1)))) = true then (some false) else (slices_Equal_impl_Cell_impl_Cell.l0 k x0 x1 x12 (wrap64 (x13 + 1)))) else (none)) else (none)) else (none)) else (some true)
def slices_Equal_impl_Cell_impl_Cell.f (k : Nat) (l0 : List (S56)) (l1 : List (S56)) : Option (Bool) := if (l0.length : Int) = (l1.length : Int) then (slices_Equal_impl_Cell_impl_Cell.l0 k l0 l1 (l0.length : Int) 0) else (some false)
set_option maxHeartbeats 8000000 in
set_option maxRecDepth 100000 in
theorem slices_Equal_impl_Cell_impl_Cell.calls (k : Nat) (A0 : Option Addr) (c0 : Nat) (l0 : List (S56)) (A1 : Option Addr) (c1 : Nat) (l1 : List (S56)) (r : Bool) (w : World) (hr0 : Kd.C k56 w A0 l0.length l0) (hc0 : l0.length ≤ c0) (hr1 : Kd.C k56 w A1 l1.length l1) (hc1 : l1.length ≤ c1) (h : slices_Equal_impl_Cell_impl_Cell.f k l0 l1 = some r) :
  Calls Tryz.prog 42 #[.slice A0 l0.length c0, .slice A1 l1.length c1] w fun e w' => e = .returned (.bool r) ∧ Drawn0 w w' := by
 have hu56 := Tryz.underlying56
 have HR0 := Aside0.mk hr0
 have HC0 := Aside0.mk hc0
 clear hr0 hc0
 have HR1 := Aside0.mk hr1
 have HC1 := Aside0.mk hc1
 clear hr1 hc1
 have H := h
 clear h
 unfold slices_Equal_impl_Cell_impl_Cell.f at H
 by_cases c3 : (l0.length : Int) = (l1.length : Int)
 ·rw [if_pos c3] at H
  have c3b0 : ((l0.length : Int) == (l1.length : Int)) = true := beq_iff_eq.mpr c3
  have c3b1 : ((l0.length : Int) != (l1.length : Int)) = false := bne_eq_false_iff_eq.mpr c3
  have c3b2 : (l0.length == l1.length) = true := by first | simpa using c3 | (simp at c3 ⊢; omega)
  clear c3
  have H' := Aside0.mk H
  clear H
  go_enter Tryz.func42, Tryz.ntmps42
  go_wp2
  repeat (go_quiet (fail); try go_wp2)
  go_loopg [13] k (fun kq v13 w' => ∃ (x13_1 : Int), v13 = .int .i64 x13_1 ∧ Aside0 (slices_Equal_impl_Cell_impl_Cell.l0 kq l0 l1 (l0.length : Int) x13_1 = some r) ∧ Aside0 (kq ≤ k) ∧ Drawn0 w w')
  case atStart => exact ⟨(0), rs_, H', ⟨Nat.le_refl _⟩, by repeat (first | exact Drawn0.refl _ | apply Drawn0.step)⟩
  case round =>
   clear H'
   try clear c1
   try clear c3b0
   try clear c3b1
   try clear c3b2
   obtain ⟨x13_1, rfl, HA, HK1, ⟨m1, rfl⟩⟩ := hrel
   cases gk with
   | zero => exact absurd HA.out (by simp [slices_Equal_impl_Cell_impl_Cell.l0])
   | succ k1 =>
    have H := HA.out
    clear HA
    simp only [slices_Equal_impl_Cell_impl_Cell.l0] at H
    by_cases c4 : x13_1 < (l0.length : Int)
    ·rw [if_pos c4] at H
     have c4b0 : decide (x13_1 < (l0.length : Int)) = true := decide_eq_true c4
     clear c4
     by_cases c5 : 0 ≤ x13_1
     ·rw [if_pos c5] at H
      have c5b0 : decide (0 ≤ x13_1) = true := decide_eq_true c5
      clear c5
      by_cases c6 : x13_1 < (l0.length : Int)
      ·rw [if_pos c6] at H
       have c6b0 : decide (x13_1 < (l0.length : Int)) = true := decide_eq_true c6
       clear c6
       by_cases c7 : x13_1 < (l1.length : Int)
       ·rw [if_pos c7] at H
        have c7b0 : decide (x13_1 < (l1.length : Int)) = true := decide_eq_true c7
        clear c7
        by_cases c8 : (!(((rd_T56 l0 x13_1).f0) == ((rd_T56 l1 x13_1).f0)) || (!(((rd_T56 l0 x13_1).f1) == ((rd_T56 l1 x13_1).f1)))) = true
        ·rw [if_pos c8] at H
         have c8b0 : (!(((rd_T56 l0 x13_1).f0) == ((rd_T56 l1 x13_1).f0)) || (!(((rd_T56 l0 x13_1).f1) == ((rd_T56 l1 x13_1).f1)))) = true := c8
         clear c8
         obtain rfl := Option.some.inj H
         have p414 : 0 ≤ (x13_1 : Int) := od_
         have q414 : x13_1 < (l0.length : Int) := od_
         obtain ⟨ad414, e414, hx414_0, hx414_1⟩ := at_T56 HR0.out x13_1 p414 q414
         cases e414
         replace p414 := eq_true p414
         replace q414 := eq_true q414
         have p415 : 0 ≤ (x13_1 : Int) := od_
         have q415 : x13_1 < (l1.length : Int) := od_
         obtain ⟨ad415, e415, hx415_0, hx415_1⟩ := at_T56 HR1.out x13_1 p415 q415
         cases e415
         replace p415 := eq_true p415
         replace q415 := eq_true q415
         go_wp2
         repeat (go_quiet (fail); try go_wp2)
         go_ret
         exact ⟨by first | rfl | (simp; done) | (simp [*]; done), by repeat (first | exact Drawn0.refl _ | apply Drawn0.step)⟩
        ·rw [if_neg c8] at H
         have c8b0 : (!(((rd_T56 l0 x13_1).f0) == ((rd_T56 l1 x13_1).f0)) || (!(((rd_T56 l0 x13_1).f1) == ((rd_T56 l1 x13_1).f1)))) = false := by simpa using c8
         clear c8
         have H' := Aside0.mk H
         clear H
         have p414 : 0 ≤ (x13_1 : Int) := od_
         have q414 : x13_1 < (l0.length : Int) := od_
         obtain ⟨ad414, e414, hx414_0, hx414_1⟩ := at_T56 HR0.out x13_1 p414 q414
         cases e414
         replace p414 := eq_true p414
         replace q414 := eq_true q414
         have p415 : 0 ≤ (x13_1 : Int) := od_
         have q415 : x13_1 < (l1.length : Int) := od_
         obtain ⟨ad415, e415, hx415_0, hx415_1⟩ := at_T56 HR1.out x13_1 p415 q415
         cases e415
         replace p415 := eq_true p415
         replace q415 := eq_true q415
         go_wp2
         repeat (go_quiet (fail); try go_wp2)
         go_roundg k1
         case measure => have := HK1.out; omega
         case rel => exact ⟨(wrap64 (x13_1 + 1)), rs_, H', ⟨by have := HK1.out; omega⟩, by repeat (first | exact Drawn0.refl _ | apply Drawn0.step)⟩
       ·rw [if_neg c7] at H
        exact absurd H (by simp)
      ·rw [if_neg c6] at H
       exact absurd H (by simp)
     ·rw [if_neg c5] at H
      exact absurd H (by simp)
    ·rw [if_neg c4] at H
     have c4b0 : decide (x13_1 < (l0.length : Int)) = false := decide_eq_false c4
     clear c4
     obtain rfl := Option.some.inj H
     go_wp2
     repeat (go_quiet (fail); try go_wp2)
     go_ret
     exact ⟨by first | rfl | (simp; done) | (simp [*]; done), by repeat (first | exact Drawn0.refl _ | apply Drawn0.step)⟩
 ·rw [if_neg c3] at H
  have c3b0 : ((l0.length : Int) == (l1.length : Int)) = false := beq_eq_false_iff_ne.mpr c3
  have c3b1 : ((l0.length : Int) != (l1.length : Int)) = true := bne_iff_ne.mpr c3
  have c3b2 : (l0.length == l1.length) = false := by first | simpa using c3 | (simp at c3 ⊢; omega)
  obtain rfl := Option.some.inj H
  go_enter Tryz.func42, Tryz.ntmps42
  go_wp2
  repeat (go_quiet (fail); try go_wp2)
  go_ret
  exact ⟨by first | rfl | (simp; done) | (simp [*]; done), by repeat (first | exact Drawn0.refl _ | apply Drawn0.step)⟩
def impl_equalShapes.f (k : Nat) (l0 : List (S56)) (l1 : List (S56)) : Option (Bool) := (slices_Equal_impl_Cell_impl_Cell.f k l0 l1).bind fun t416 => (some t416)
set_option maxHeartbeats 8000000 in
set_option maxRecDepth 100000 in
theorem impl_equalShapes.calls (k : Nat) (A0 : Option Addr) (c0 : Nat) (l0 : List (S56)) (A1 : Option Addr) (c1 : Nat) (l1 : List (S56)) (r : Bool) (w : World) (hr0 : Kd.C k56 w A0 l0.length l0) (hc0 : l0.length ≤ c0) (hr1 : Kd.C k56 w A1 l1.length l1) (hc1 : l1.length ≤ c1) (h : impl_equalShapes.f k l0 l1 = some r) :
  Calls Tryz.prog 98 #[.slice A0 l0.length c0, .slice A1 l1.length c1] w fun e w' => e = .returned (.bool r) ∧ Drawn0 w w' := by
 have HR0 := Aside0.mk hr0
 have HC0 := Aside0.mk hc0
 clear hr0 hc0
 have HR1 := Aside0.mk hr1
 have HC1 := Aside0.mk hc1
 clear hr1 hc1
 have H := h
 clear h
 unfold impl_equalShapes.f at H
 obtain ⟨t416, A3, H⟩ := bs_ H
 obtain rfl := Option.some.inj H
 go_enter Tryz.func98, Tryz.ntmps98
 go_wp2_with (first | ((with_reducible refine gate_callee (f := 42) rfl ?_); refine goesL_ (some 7) rfl rfl Tryz.func42 kr_ rfl #[.slice A0 l0.length c0, .slice A1 l1.length c1] rfl ta_ ?_; (with_reducible refine (slices_Equal_impl_Cell_impl_Cell.calls k _ _ l0 _ _ l1 t416 _ ?side1 ?side2 ?side3 ?side4 A3.out).mono ?_); (case side1 => exact ca_ HR0.out); (case side2 => exact HC0.out); (case side3 => exact ca_ HR1.out); (case side4 => exact HC1.out); rintro e w' ⟨rfl, ⟨nd, rfl⟩⟩; refine ⟨_, rfl, ?_⟩))
 go_ret
 exact ⟨by first | rfl | (simp; done) | (simp [*]; done), by repeat (first | exact Drawn0.refl _ | apply Drawn0.step)⟩
end Go.Proofs.YtmdjkmfocgelnaaGreatDoor.PFnAllNets
