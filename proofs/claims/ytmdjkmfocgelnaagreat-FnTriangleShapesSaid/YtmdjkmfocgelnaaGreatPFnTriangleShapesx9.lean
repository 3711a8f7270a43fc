/- Over the kit's printer by a driver of mine (hprint.py), with parts by hand: functions of the program as Lean functions, and that each call comes to exactly these answers. -/
import Derived.Test.YtmdjkmfocgelnaaGreatPFnTriangleShapesx0
import Derived.Test.YtmdjkmfocgelnaaGreatPFnTriangleShapesx2
import Derived.Test.YtmdjkmfocgelnaaGreatPFnTriangleShapesx3
import Derived.Test.YtmdjkmfocgelnaaGreatPFnTriangleShapesx4
import Derived.Test.YtmdjkmfocgelnaaGreatPFnTriangleShapesx5
import Derived.Test.YtmdjkmfocgelnaaGreatPFnTriangleShapesx8
namespace Go.Proofs.YtmdjkmfocgelnaaGreat.PFnTriangleShapes
open Go.RowKit Go.Proofs.YtmdjkmfocgelnaaGreatW.PrintWords Go.Proofs.YtmdjkmfocgelnaaGreatW.PrintLast Go.Proofs.YtmdjkmfocgelnaaGreatW.PrintMore
attribute [local go_sem] max2_int min2_int max_two min_two max_three min_three max_four min_four   -- for this text's walks alone
set_option linter.unusedVariables false
set_option linter.unusedSimpArgs false

/-! ### impl_latticeCells: function 80 -/
mutual
def impl_latticeCells.l0 : Nat → Int → List (S46) → List (S46) → Int → Int → Option ((List (S46)))
 | 0, _, _, _, _, _ => none
 | k + 1, x1, x5, x11, x12, x13 => if x13 < x12 then (if 0 ≤ x13 then (if x13 < (x11.length : Int) then (if x1 ≥ 6 then (impl_latticeCells.j1 k x1 x5 x11 x12 x13 ((rd_T46 x11 x13).f1) ((rd_T46 x11 x13).f0)) else (impl_latticeCells.j1 k x1 x5 x11 x12 x13 ((rd_T46 x11 x13).f0) ((rd_T46 x11 x13).f1))) else (none)) else (none)) else ((impl_sorted.f x5).bind fun t174 => (some t174))
def impl_latticeCells.j1 : Nat → Int → List (S46) → List (S46) → Int → Int → Int → Int → Option ((List (S46)))
 | 0, _, _, _, _, _, _, _ => none
 | k + 1, x1, x5, x11, x12, x13, x179000, x179001 => impl_latticeCells.l1 k x1 x5 x11 x12 x13 (Int.tmod x1 6) 0 x179000 x179001
def impl_latticeCells.l1 : Nat → Int → List (S46) → List (S46) → Int → Int → Int → Int → Int → Int → Option ((List (S46)))
 | 0, _, _, _, _, _, _, _, _, _ => none
 | k + 1, x1, x5, x11, x12, x13, x25, x26, x179000, x179001 => if x26 < x25 then (impl_latticeCells.l1 k x1 x5 x11 x12 x13 x25 (wrap64 (x26 + 1)) (wrap64 (-x179001)) (wrap64 (x179000 + x179001))) else (if x5.length < 8796093022208 then (impl_latticeCells.l0 k x1 (x5 ++ [(⟨x179000, x179001⟩ : S46)]) x11 x12 (wrap64 (x13 + 1))) else (none))
end
def impl_latticeCells.f (k : Nat) (l0 : List (S46)) (a1 : Int) : Option ((List (S46))) := if 0 ≤ (l0.length : Int) then (if ((l0.length : Int) : Int).toNat ≤ 17592186044416 then (impl_latticeCells.l0 k a1 (([] : List (S46))) l0 (l0.length : Int) 0) else (none)) else (none)
theorem impl_latticeCells.mono_l : ∀ k, (∀ y0 y1 y2 y3 y4, LeO (impl_latticeCells.l0 k y0 y1 y2 y3 y4) (impl_latticeCells.l0 (k + 1) y0 y1 y2 y3 y4)) ∧ (∀ y0 y1 y2 y3 y4 y5 y6, LeO (impl_latticeCells.j1 k y0 y1 y2 y3 y4 y5 y6) (impl_latticeCells.j1 (k + 1) y0 y1 y2 y3 y4 y5 y6)) ∧ (∀ y0 y1 y2 y3 y4 y5 y6 y7 y8, LeO (impl_latticeCells.l1 k y0 y1 y2 y3 y4 y5 y6 y7 y8) (impl_latticeCells.l1 (k + 1) y0 y1 y2 y3 y4 y5 y6 y7 y8))
 | 0 => ⟨fun _ _ _ _ _ r h => by simp [impl_latticeCells.l0] at h, fun _ _ _ _ _ _ _ r h => by simp [impl_latticeCells.j1] at h, fun _ _ _ _ _ _ _ _ _ r h => by simp [impl_latticeCells.l1] at h⟩
 | k + 1 => by
  obtain ⟨ih0, ih1, ih2⟩ := impl_latticeCells.mono_l k
  refine ⟨?_, ?_, ?_⟩
  ·intro y0 y1 y2 y3 y4
   unfold impl_latticeCells.l0
   with_reducible (repeat' first | exact ih0 _ _ _ _ _ | exact ih1 _ _ _ _ _ _ _ | exact ih2 _ _ _ _ _ _ _ _ _ | exact LeO.refl _ | exact LeO.none _ | refine LeO.ite ?_ ?_ | refine LeO.bind ?_ (fun _ => ?_))
  ·intro y0 y1 y2 y3 y4 y5 y6
   unfold impl_latticeCells.j1
   with_reducible (repeat' first | exact ih0 _ _ _ _ _ | exact ih1 _ _ _ _ _ _ _ | exact ih2 _ _ _ _ _ _ _ _ _ | exact LeO.refl _ | exact LeO.none _ | refine LeO.ite ?_ ?_ | refine LeO.bind ?_ (fun _ => ?_))
  ·intro y0 y1 y2 y3 y4 y5 y6 y7 y8
   unfold impl_latticeCells.l1
   with_reducible (repeat' first | exact ih0 _ _ _ _ _ | exact ih1 _ _ _ _ _ _ _ | exact ih2 _ _ _ _ _ _ _ _ _ | exact LeO.refl _ | exact LeO.none _ | refine LeO.ite ?_ ?_ | refine LeO.bind ?_ (fun _ => ?_))
theorem impl_latticeCells.mono : ∀ a0 a1 k, LeO (impl_latticeCells.f k a0 a1) (impl_latticeCells.f (k + 1) a0 a1) := by
 intro a0 a1 k
 obtain ⟨ih0, ih1, ih2⟩ := impl_latticeCells.mono_l k
 unfold impl_latticeCells.f
 with_reducible (repeat' first | exact ih0 _ _ _ _ _ | exact ih1 _ _ _ _ _ _ _ | exact ih2 _ _ _ _ _ _ _ _ _ | exact LeO.refl _ | exact LeO.none _ | refine LeO.ite ?_ ?_ | refine LeO.bind ?_ (fun _ => ?_))
set_option maxHeartbeats 8000000 in
set_option maxRecDepth 100000 in
theorem impl_latticeCells.calls (k : Nat) (A0 : Option Addr) (c0 : Nat) (l0 : List (S46)) (a1 : Int) (r : List (S46)) (w : World) (hr0 : Kd.C k46 w A0 l0.length l0) (hc0 : l0.length ≤ c0) (h : impl_latticeCells.f k l0 a1 = some r) :
  Calls Tryz.prog 80 #[.slice A0 l0.length c0, .int .i64 a1] w fun e w' => ∃ v0_ : Value, e = .returned (v0_) ∧ Kd.R k46 46 w' w.heap.size (fun _ => True) v0_ r ∧ Below w.heap.size w w' := by
 have hu46 := Tryz.underlying46
 have HR0 := Aside0.mk hr0
 have HC0 := Aside0.mk hc0
 clear hr0 hc0
 have HB := a0_ (Below.refl w.heap.size w)
 have H := h
 clear h
 unfold impl_latticeCells.f at H
 by_cases c3 : 0 ≤ (l0.length : Int)
 ·rw [if_pos c3] at H
  have c3b0 := eq_true c3
  have c3b1 : decide (0 ≤ (l0.length : Int)) = true := decide_eq_true c3
  clear c3
  by_cases c4 : ((l0.length : Int) : Int).toNat ≤ 17592186044416
  ·rw [if_pos c4] at H
   have c4b0 := eq_true c4
   have c4b1 : decide (((l0.length : Int) : Int).toNat ≤ 17592186044416) = true := decide_eq_true c4
   clear c4
   obtain ⟨y171, hy171⟩ : ∃ y_ : List (S46), y_ = (([] : List (S46))) := ⟨_, rfl⟩
   replace H : (impl_latticeCells.l0 k a1 y171 l0 (l0.length : Int) 0) = some r := hh_ hy171 H
   have Ny171 := Aside0.mk hy171
   clear hy171
   have H' := Aside0.mk H
   clear H
   go_enter Tryz.func80, Tryz.ntmps80
   go_wp2_with (first | ((with_reducible refine gate_dst (N := 10) rfl ?_); refine Kd.R_make0 k46 _ 46 rfl (N := 10) rfl 35 _ _ rfl (l0.length : Int) rfl rfl Tryz.underlying35 (.agg #[(.int .i64 0), (.int .i64 0)]) 16 info46 rfl (by decide) (ok := fun _ => True) trivial (od_) (Nat.le_trans (Nat.mul_le_mul_right _ (od_ : (l0.length : Int).toNat ≤ 17592186044416)) (by omega)) (Below.refl _ _) (Nat.le_refl _) ?_; intro v172 w5 ho6 hb hg_ hnew_; clear hg_ hnew_; (first | rw [← Ny171.out] at ho6 | (simp only [Int.reduceToNat] at ho6; rw [← Ny171.out] at ho6)); have HO173 := a0_ (Kd.R_lower ho6 (below_size (bl0_))); replace HB := a0_ (below_step (bl0_) hb); clear hb ho6))
   go_loopg [5, 13] k (fun kq v5 v13 w' => ∃ (x5_1 : List (S46)) (x13_1 : Int), v13 = .int .i64 x13_1 ∧ Aside0 (impl_latticeCells.l0 kq a1 x5_1 l0 (l0.length : Int) x13_1 = some r) ∧ Aside0 (kq ≤ k) ∧ Aside0 (Kd.R k46 46 w' w.heap.size (fun _ => True) v5 x5_1) ∧ Aside0 (Below w.heap.size w w'))
   case atStart => exact ⟨(y171), (0), rs_, H', ⟨Nat.le_refl _⟩, ⟨ra_ HO173.out⟩, ⟨bl0_⟩⟩
   case round =>
    clear H'
    try clear p2
    try clear c3
    try clear c3b0
    try clear c3b1
    try clear c4
    try clear c4b0
    try clear c4b1
    obtain ⟨x5_1, x13_1, rfl, HA, HK1, HO_5, HB⟩ := hrel
    cases gk with
    | zero => exact absurd HA.out (by simp [impl_latticeCells.l0])
    | succ k1 =>
     have H := HA.out
     clear HA
     simp only [impl_latticeCells.l0] at H
     by_cases c7 : x13_1 < (l0.length : Int)
     ·rw [if_pos c7] at H
      have c7b0 : decide (x13_1 < (l0.length : Int)) = true := decide_eq_true c7
      clear c7
      by_cases c8 : 0 ≤ x13_1
      ·rw [if_pos c8] at H
       have c8b0 : decide (0 ≤ x13_1) = true := decide_eq_true c8
       clear c8
       by_cases c9 : x13_1 < (l0.length : Int)
       ·rw [if_pos c9] at H
        have c9b0 : decide (x13_1 < (l0.length : Int)) = true := decide_eq_true c9
        clear c9
        have HC10 := Aside0.mk H
        clear H
        have p177 : 0 ≤ (x13_1 : Int) := od_
        have q177 : x13_1 < (l0.length : Int) := od_
        obtain ⟨ad177, e177, hx177_0, hx177_1⟩ := at_T46 HR0.out x13_1 p177 q177
        cases e177
        replace hx177_0 := (HB.out.cell (World.block_lt_of_cell? w _ hx177_0)).trans hx177_0
        replace hx177_1 := (HB.out.cell (World.block_lt_of_cell? w _ hx177_1)).trans hx177_1
        replace p177 := eq_true p177
        replace q177 := eq_true q177
        go_upto_if 18 with (first | ((with_reducible refine gate_dst (N := 7) rfl ?_); refine bx_ (N := 7) (cs := #[.int .i64 0, .int .i64 0]) (t := 46) ?_; intro gb178 hg w11 hbox hb; replace HO_5 := a0_ (Kd.R_below (Kd.R_elderB (ra_ HO_5.out) gb178 (Nat.le_of_eq hg.symm)) hb); have BK178 := a0_ (hbox); have GW178 := a0_ ((sz_ hg (bl0_) : w.heap.size ≤ gb178)); have GE178 := a0_ ((sz_ hg (bl0_) : w.heap.size ≤ gb178)); replace HB := a0_ (below_step (bl0_) hb); clear hb hbox hg; obtain ⟨hcz12_0, hcz12_1, hfz12_0, hfz12_1⟩ := bc2_ BK178.out))
        (try simp only [Act.put, List.setIfInBounds_toArray, List.set_cons_zero, List.set_cons_succ])
        go_cut [] (fun wc => ∃ (kq : Nat) (x179000_9 : Int) (x179001_9 : Int), Aside0 (impl_latticeCells.j1 kq a1 x5_1 l0 (l0.length : Int) x13_1 x179000_9 x179001_9 = some r) ∧ Aside0 (kq ≤ k1) ∧ Aside0 (Kd.R k46 46 wc w.heap.size (fun k_ => k_ ≠ gb178) u5 x5_1) ∧ Aside0 (wc.heap[gb178]? = some (.cells #[.int .i64 x179000_9, .int .i64 x179001_9] 46 (0, 0))) ∧ Aside0 (Below w.heap.size w wc))
        case first =>
         have H := HC10.out
         clear HC10
         by_cases c13 : a1 ≥ 6
         ·rw [if_pos c13] at H
          have c13b0 : decide (6 ≤ a1) = true := decide_eq_true c13
          clear c13
          (first | rw [c13b0] | (simp only [i64_w, i32_w]; rw [c13b0]) | skip)
          have H' := Aside0.mk H
          clear H
          have hcz14_0 : w11.cell? ⟨gb178, 0, none⟩ = some (.int .i64 0) := (blk_cell BK178.out 0).trans rfl
          have hcz14_1 : w11.cell? ⟨gb178, 1, none⟩ = some (.int .i64 0) := (blk_cell BK178.out 1).trans rfl
          have hfz14_0 := blk_frozen BK178.out 0
          have hfz14_1 := blk_frozen BK178.out 1
          go_wp2
          go_meet
          case rel => exact ⟨_, ((rd_T46 l0 x13_1).f1), ((rd_T46 l0 x13_1).f0), H', ⟨by have := HK1.out; first | omega | exact Nat.le_refl _⟩, ⟨by (with_reducible repeat (first | apply Kd.R_alloc | apply Kd.R_drewN | apply Kd.R_drew)); exact Kd.R_mono (Kd.R_far (p := ⟨gb178, 1, none⟩) (Kd.R_far (p := ⟨gb178, 0, none⟩) (Kd.R_far (p := ⟨gb178, 1, none⟩) (Kd.R_far (p := ⟨gb178, 0, none⟩) (Kd.R_mono HO_5.out (fun k_ hk => (⟨hk, hk.2⟩ : _ ∧ k_ ≠ gb178))) (fun _ hk => hk.2) (.int .i64 ((rd_T46 l0 x13_1).f0))) (fun _ hk => hk.2) (.int .i64 ((rd_T46 l0 x13_1).f1))) (fun _ hk => hk.2) (.int .i64 ((rd_T46 l0 x13_1).f1))) (fun _ hk => hk.2) (.int .i64 ((rd_T46 l0 x13_1).f0))) (fun _ hk => hk.1.2)⟩, ⟨by (with_reducible repeat (first | refine blk_drewN ?_ _ | refine blk_drew ?_ | refine blk_alloc ?_ _)); refine blk_put (cs := #[.int .i64 ((rd_T46 l0 x13_1).f1), .int .i64 ((rd_T46 l0 x13_1).f1)]) ?_ 1 _ rfl; (with_reducible repeat (first | refine blk_drewN ?_ _ | refine blk_drew ?_ | refine blk_alloc ?_ _)); refine blk_put (cs := #[.int .i64 ((rd_T46 l0 x13_1).f0), .int .i64 ((rd_T46 l0 x13_1).f1)]) ?_ 0 _ rfl; (with_reducible repeat (first | refine blk_drewN ?_ _ | refine blk_drew ?_ | refine blk_alloc ?_ _)); refine blk_put (cs := #[.int .i64 ((rd_T46 l0 x13_1).f0), .int .i64 0]) ?_ 1 _ rfl; (with_reducible repeat (first | refine blk_drewN ?_ _ | refine blk_drew ?_ | refine blk_alloc ?_ _)); refine blk_put (cs := #[.int .i64 0, .int .i64 0]) ?_ 0 _ rfl; (with_reducible repeat (first | refine blk_drewN ?_ _ | refine blk_drew ?_ | refine blk_alloc ?_ _)); exact BK178.out⟩, ⟨bl1_ GE178.out⟩⟩
         ·rw [if_neg c13] at H
          have c13b0 : decide (6 ≤ a1) = false := decide_eq_false c13
          clear c13
          (first | rw [c13b0] | (simp only [i64_w, i32_w]; rw [c13b0]) | skip)
          have H' := Aside0.mk H
          clear H
          go_wp2
          go_meet
          case rel => exact ⟨_, ((rd_T46 l0 x13_1).f0), ((rd_T46 l0 x13_1).f1), H', ⟨by have := HK1.out; first | omega | exact Nat.le_refl _⟩, ⟨by (with_reducible repeat (first | apply Kd.R_alloc | apply Kd.R_drewN | apply Kd.R_drew)); exact Kd.R_mono (Kd.R_far (p := ⟨gb178, 1, none⟩) (Kd.R_far (p := ⟨gb178, 0, none⟩) (Kd.R_mono HO_5.out (fun k_ hk => (⟨hk, hk.2⟩ : _ ∧ k_ ≠ gb178))) (fun _ hk => hk.2) (.int .i64 ((rd_T46 l0 x13_1).f0))) (fun _ hk => hk.2) (.int .i64 ((rd_T46 l0 x13_1).f1))) (fun _ hk => hk.1.2)⟩, ⟨by (with_reducible repeat (first | refine blk_drewN ?_ _ | refine blk_drew ?_ | refine blk_alloc ?_ _)); refine blk_put (cs := #[.int .i64 ((rd_T46 l0 x13_1).f0), .int .i64 0]) ?_ 1 _ rfl; (with_reducible repeat (first | refine blk_drewN ?_ _ | refine blk_drew ?_ | refine blk_alloc ?_ _)); refine blk_put (cs := #[.int .i64 0, .int .i64 0]) ?_ 0 _ rfl; (with_reducible repeat (first | refine blk_drewN ?_ _ | refine blk_drew ?_ | refine blk_alloc ?_ _)); exact BK178.out⟩, ⟨bl1_ GE178.out⟩⟩
        case rest =>
         clear HC10
         try clear c1
         try clear p1
         try clear q1
         try clear hx1
         try clear p2
         try clear c3
         try clear c3b0
         try clear c3b1
         try clear c4
         try clear c4b0
         try clear c4b1
         try clear c7
         try clear c7b0
         try clear c8
         try clear c8b0
         try clear c9
         try clear c9b0
         try clear c13
         try clear c13b0
         try clear hcz12_0
         try clear hcz12_1
         try clear hcz14_0
         try clear hcz14_1
         try clear hfz12_0
         try clear hfz12_1
         try clear hfz14_0
         try clear hfz14_1
         try clear hx177_0
         try clear hx177_1
         try clear p177
         try clear p2
         try clear q177
         obtain ⟨kq, x179000_9, x179001_9, HA, HJ9, HO_5, BK178, HB⟩ := hcut
         cases kq with
         | zero => exact absurd HA.out (by simp [impl_latticeCells.j1])
         | succ kj9 =>
          have H := HA.out
          clear HA
          simp only [impl_latticeCells.j1] at H
          have H' := Aside0.mk H
          clear H
          go_wp2
          go_loopg [26] kj9 (fun kq v26 w' => ∃ (x26_3 : Int) (x179000_3 : Int) (x179001_3 : Int), v26 = .int .i64 x26_3 ∧ Aside0 (impl_latticeCells.l1 kq a1 x5_1 l0 (l0.length : Int) x13_1 (Int.tmod a1 6) x26_3 x179000_3 x179001_3 = some r) ∧ Aside0 (kq ≤ kj9) ∧ Aside0 (Kd.R k46 46 w' w.heap.size (fun k_ => k_ ≠ gb178) u5 x5_1) ∧ Aside0 (w'.heap[gb178]? = some (.cells #[.int .i64 x179000_3, .int .i64 x179001_3] 46 (0, 0))) ∧ Aside0 (Below w.heap.size w w'))
          case atStart => exact ⟨(0), (x179000_9), (x179001_9), rs_, H', ⟨Nat.le_refl _⟩, ⟨ra_ HO_5.out⟩, ⟨bk_ BK178.out⟩, ⟨bl1_ GE178.out⟩⟩
          case round =>
           clear H'
           try clear c1
           try clear p1
           try clear q1
           try clear hx1
           try clear p2
           try clear c3
           try clear c3b0
           try clear c3b1
           try clear c4
           try clear c4b0
           try clear c4b1
           try clear c7
           try clear c7b0
           try clear c8
           try clear c8b0
           try clear c9
           try clear c9b0
           try clear c13
           try clear c13b0
           try clear hcz12_0
           try clear hcz12_1
           try clear hcz14_0
           try clear hcz14_1
           try clear hfz12_0
           try clear hfz12_1
           try clear hfz14_0
           try clear hfz14_1
           try clear hx177_0
           try clear hx177_1
           try clear p1
           try clear p177
           try clear p2
           try clear q1
           try clear q177
           obtain ⟨x26_3, x179000_3, x179001_3, rfl, HA, HK3, HO_5, BK178, HB⟩ := hrel
           cases gk with
           | zero => exact absurd HA.out (by simp [impl_latticeCells.l1])
           | succ k3 =>
            have H := HA.out
            clear HA
            simp only [impl_latticeCells.l1] at H
            by_cases c15 : x26_3 < (Int.tmod a1 6)
            ·rw [if_pos c15] at H
             have c15b0 : decide (x26_3 < (Int.tmod a1 6)) = true := decide_eq_true c15
             clear c15
             have H' := Aside0.mk H
             clear H
             have hcz16_0 : wr.cell? ⟨gb178, 0, none⟩ = some (.int .i64 x179000_3) := (blk_cell BK178.out 0).trans rfl
             have hcz16_1 : wr.cell? ⟨gb178, 1, none⟩ = some (.int .i64 x179001_3) := (blk_cell BK178.out 1).trans rfl
             have hfz16_0 := blk_frozen BK178.out 0
             have hfz16_1 := blk_frozen BK178.out 1
             go_wp2
             go_roundg k3
             case measure => have := HK1.out; have := HJ9.out; have := HK3.out; omega
             case rel => exact ⟨(wrap64 (x26_3 + 1)), (wrap64 (-x179001_3)), (wrap64 (x179000_3 + x179001_3)), rs_, H', ⟨by have := HK1.out; have := HJ9.out; have := HK3.out; omega⟩, ⟨by (with_reducible repeat (first | apply Kd.R_alloc | apply Kd.R_drewN | apply Kd.R_drew)); exact Kd.R_mono (Kd.R_far (p := ⟨gb178, 1, none⟩) (Kd.R_far (p := ⟨gb178, 0, none⟩) (Kd.R_mono HO_5.out (fun k_ hk => (⟨hk, hk⟩ : _ ∧ k_ ≠ gb178))) (fun _ hk => hk.2) (.int .i64 (wrap64 (-x179001_3)))) (fun _ hk => hk.2) (.int .i64 (wrap64 (x179000_3 + x179001_3)))) (fun _ hk => hk.1)⟩, ⟨by (with_reducible repeat (first | refine blk_drewN ?_ _ | refine blk_drew ?_ | refine blk_alloc ?_ _)); refine blk_put (cs := #[.int .i64 (wrap64 (-x179001_3)), .int .i64 x179001_3]) ?_ 1 _ rfl; (with_reducible repeat (first | refine blk_drewN ?_ _ | refine blk_drew ?_ | refine blk_alloc ?_ _)); refine blk_put (cs := #[.int .i64 x179000_3, .int .i64 x179001_3]) ?_ 0 _ rfl; (with_reducible repeat (first | refine blk_drewN ?_ _ | refine blk_drew ?_ | refine blk_alloc ?_ _)); exact BK178.out⟩, ⟨bl1_ GE178.out⟩⟩
            ·rw [if_neg c15] at H
             have c15b0 : decide (x26_3 < (Int.tmod a1 6)) = false := decide_eq_false c15
             clear c15
             by_cases c17 : x5_1.length < 8796093022208
             ·rw [if_pos c17] at H
              have LMc17 := Aside0.mk c17
              clear c17
              obtain ⟨y179, hy179⟩ : ∃ y_ : List (S46), y_ = (x5_1 ++ [(⟨x179000_3, x179001_3⟩ : S46)]) := ⟨_, rfl⟩
              replace H : (impl_latticeCells.l0 k3 a1 y179 l0 (l0.length : Int) (wrap64 (x13_1 + 1))) = some r := hh_ hy179 H
              have Ny179 := Aside0.mk hy179
              clear hy179
              have H' := Aside0.mk H
              clear H
              have hcz18_0 : wr.cell? ⟨gb178, 0, none⟩ = some (.int .i64 x179000_3) := (blk_cell BK178.out 0).trans rfl
              have hcz18_1 : wr.cell? ⟨gb178, 1, none⟩ = some (.int .i64 x179001_3) := (blk_cell BK178.out 1).trans rfl
              have hfz18_0 := blk_frozen BK178.out 0
              have hfz18_1 := blk_frozen BK178.out 1
              go_wp2_with (first | ((with_reducible refine gate_builtin (b := .append) (xs := #[.tmp 38, .tmp 40]) rfl ?_); at_builtin; refine Kd.R_append k46 (w0 := w) w.heap.size rfl (.tmp 38) (.tmp 40) 35 46 (.agg #[(.int .i64 0), (.int .i64 0)]) 16 rfl Tryz.underlying35 info46 rfl (by decide) (by omega) u5 x5_1 (⟨x179000_3, x179001_3⟩ : S46) [.int .i64 x179000_3, .int .i64 x179001_3] (fun k_ => k_ ≠ gb178) (fun _ => False) rfl rfl ?aP (fun _ hk => hk.elim) ?aF ?aO ?aB ?aS ?aL ?_; (case aP => exact k46_mkM _ _ _ (⟨x179000_3, x179001_3⟩ : S46)); (case aB => exact (bl1_ GE178.out)); (case aF => exact (fun k_ hk => Kd.freshB (g := gb178) (o := .cells #[.int .i64 x179000_3, .int .i64 x179001_3] 46 (0, 0)) (bk_ BK178.out) k_ hk)); (case aO => exact (ra_ HO_5.out)); (case aS => exact (below_size (bl1_ GE178.out))); (case aL => have := LMc17.out; omega); intro v180 w19 ho hb hg hat; rw [← Ny179.out] at ho; replace BK178 := a0_ (blk_grown (g := gb178) (o := .cells #[.int .i64 x179000_3, .int .i64 x179001_3] 46 (0, 0)) (bk_ BK178.out) hg (Kd.R_away HO_5.out (fun _ hk => hk))); replace HB := a0_ (hb); have HO181 := a0_ (ho); clear HO_5; clear ho hb hg hat))
              go_roundg k3
              case measure => have := HK1.out; have := HJ9.out; have := HK3.out; omega
              case rel => exact ⟨(y179), (wrap64 (x13_1 + 1)), rs_, H', ⟨by have := HK1.out; have := HJ9.out; have := HK3.out; omega⟩, ⟨by (with_reducible repeat (first | apply Kd.R_alloc | apply Kd.R_drewN | apply Kd.R_drew)); exact Kd.R_mono HO181.out (fun _ hk => trivial)⟩, ⟨bl1_ GE178.out⟩⟩
             ·rw [if_neg c17] at H
              exact absurd H (by simp)
       ·rw [if_neg c9] at H
        exact absurd H (by simp)
      ·rw [if_neg c8] at H
       exact absurd H (by simp)
     ·rw [if_neg c7] at H
      have c7b0 : decide (x13_1 < (l0.length : Int)) = false := decide_eq_false c7
      clear c7
      obtain ⟨t174, A20, H⟩ := bs_ H
      obtain rfl := Option.some.inj H
      obtain ⟨Ao21, co21, eo21⟩ := Kd.R_slice HO_5.out
      subst eo21
      go_wp2_with (first | ((with_reducible refine gate_callee (f := 94) rfl ?_); refine goesL_ (some 44) rfl rfl Tryz.func94 kr_ rfl #[.slice Ao21 x5_1.length co21] rfl ta_ ?_; (with_reducible refine (impl_sorted.calls _ _ x5_1 t174 _ ?side1 ?side2 A20.out).mono ?_); (case side1 => exact ca_ (Kd.R_reads' HO_5.out).2.2); (case side2 => exact (Kd.R_reads' HO_5.out).2.1); rintro e w22 ⟨v175, rfl, ho0, hb⟩; refine ⟨_, rfl, ?_⟩; have HO176 := a0_ (Kd.R_lower (Kd.R_new' ho0 (Kd.R_lt (ra_ HO_5.out))) (below_size (bl0_))); replace HO_5 := a0_ (Kd.R_elder' (ra_ HO_5.out) (Kd.R_base ho0) hb); replace HB := a0_ (below_step (bl0_) hb); (try clear hb); (try clear hb2); (try clear hk); (try clear hi); (try clear ho0)))
      go_ret
      exact ⟨_, er_, by (with_reducible repeat (first | apply Kd.R_alloc | apply Kd.R_drewN | apply Kd.R_drew)); exact Kd.R_mono HO176.out (fun _ hk => trivial), bl0_⟩
  ·rw [if_neg c4] at H
   exact absurd H (by simp)
 ·rw [if_neg c3] at H
  exact absurd H (by simp)

/-! ### impl_triangleForm: function 42 -/
def impl_triangleForm.f (k : Nat) (l0 : List (S46)) (a1 : Int) : Option ((List (S46))) := (impl_latticeCells.f k l0 a1).bind fun t182 => ((impl_normalTriangles.f k t182).bind fun t185 => (some t185))
theorem impl_triangleForm.mono : ∀ a0 a1 k, LeO (impl_triangleForm.f k a0 a1) (impl_triangleForm.f (k + 1) a0 a1) := by
 intro a0 a1 k
 unfold impl_triangleForm.f
 with_reducible (repeat' first | exact impl_latticeCells.mono _ _ _ | exact impl_normalTriangles.mono _ _ | exact LeO.refl _ | exact LeO.none _ | refine LeO.ite ?_ ?_ | refine LeO.bind ?_ (fun _ => ?_))
set_option maxHeartbeats 8000000 in
set_option maxRecDepth 100000 in
theorem impl_triangleForm.calls (k : Nat) (A0 : Option Addr) (c0 : Nat) (l0 : List (S46)) (a1 : Int) (r : List (S46)) (w : World) (hr0 : Kd.C k46 w A0 l0.length l0) (hc0 : l0.length ≤ c0) (h : impl_triangleForm.f k l0 a1 = some r) :
  Calls Tryz.prog 42 #[.slice A0 l0.length c0, .int .i64 a1] w fun e w' => ∃ v0_ : Value, e = .returned (v0_) ∧ Kd.R k46 46 w' w.heap.size (fun _ => True) v0_ r ∧ Below w.heap.size w w' := by
 have HR0 := Aside0.mk hr0
 have HC0 := Aside0.mk hc0
 clear hr0 hc0
 have HB := a0_ (Below.refl w.heap.size w)
 have H := h
 clear h
 unfold impl_triangleForm.f at H
 obtain ⟨t182, A3, H⟩ := bs_ H
 obtain ⟨t185, A4, H⟩ := bs_ H
 obtain rfl := Option.some.inj H
 go_enter Tryz.func42, Tryz.ntmps42
 go_wp2_with (first | ((with_reducible refine gate_callee (f := 80) rfl ?_); refine goesL_ (some 7) rfl rfl Tryz.func80 kr_ rfl #[.slice A0 l0.length c0, .int .i64 a1] rfl ta_ ?_; (with_reducible refine (impl_latticeCells.calls k _ _ l0 a1 t182 _ ?side1 ?side2 A3.out).mono ?_); (case side1 => exact ca_ HR0.out); (case side2 => exact HC0.out); rintro e w5 ⟨v183, rfl, ho0, hb⟩; refine ⟨_, rfl, ?_⟩; have HO184 := a0_ (Kd.R_lower ho0 (below_size (bl0_))); replace HB := a0_ (below_step (bl0_) hb); (try clear hb); (try clear hb2); (try clear hk); (try clear hi); (try clear ho0); obtain ⟨Ao6, co6, eo6⟩ := Kd.R_slice HO184.out; subst eo6) | ((with_reducible refine gate_callee (f := 79) rfl ?_); refine goesL_ (some 8) rfl rfl Tryz.func79 kr_ rfl #[.slice Ao6 t182.length co6] rfl ta_ ?_; (with_reducible refine (impl_normalTriangles.calls k _ _ t182 t185 _ ?side1 ?side2 A4.out).mono ?_); (case side1 => exact ca_ (Kd.R_reads' HO184.out).2.2); (case side2 => exact (Kd.R_reads' HO184.out).2.1); rintro e w7 ⟨v186, rfl, ho0, hb⟩; refine ⟨_, rfl, ?_⟩; have HO187 := a0_ (Kd.R_lower (Kd.R_new' ho0 (Kd.R_lt (ra_ HO184.out))) (below_size (bl0_))); replace HO184 := a0_ (Kd.R_elder' (ra_ HO184.out) (Kd.R_base ho0) hb); replace HB := a0_ (below_step (bl0_) hb); (try clear hb); (try clear hb2); (try clear hk); (try clear hi); (try clear ho0)))
 go_ret
 exact ⟨_, er_, by (with_reducible repeat (first | apply Kd.R_alloc | apply Kd.R_drewN | apply Kd.R_drew)); exact Kd.R_mono HO187.out (fun _ hk => trivial), bl0_⟩

/-! ### impl_TriangleShapes: function 8 -/
/-! The triangle shapes that are their own least form. -/
theorem formH (k : Nat) : FormP 42 (impl_triangleForm.f k) where
 eg := enters_of Tryz.func42 kr_ rfl
 calls := fun s t x A c W h hC hc => impl_triangleForm.calls k A c s t x W hC hc h
theorem formsG_mono (k : Nat) (s : List S46) : ∀ n, LeO (formsG k (impl_triangleForm.f k) s n) (formsG (k + 1) (impl_triangleForm.f (k + 1)) s n)
 | 0 => LeO.refl _
 | n + 1 => by
  unfold formsG
  refine LeO.bind (formsG_mono k s n) (fun L => LeO.bind (impl_triangleForm.mono s n k) (fun x => ?_))
  intro r h
  split at h
  case isFalse => cases h
  rename_i hc
  rw [if_pos (impl_IsShape.mono x k _ hc)]
  exact h
theorem ownG_mono (k : Nat) : ∀ L, LeO (ownG k (impl_triangleForm.f k) L) (ownG (k + 1) (impl_triangleForm.f (k + 1)) L)
 | [] => LeO.refl _
 | s :: r => by
  unfold ownG
  exact LeO.bind (formsG_mono k s 12) (fun t => LeO.bind (ownG_mono k r) (fun q => LeO.refl _))
def impl_TriangleShapes.f (k : Nat) (n : Int) : Option (List (List S46) × Int) := if 1 ≤ n ∧ n ≤ 6 then (impl_allTriangles.f n).bind fun L => if L.length ≤ 1000000 then (ownG k (impl_triangleForm.f k) L).bind fun r => some (r, 0) else none else some ([], 2)
theorem impl_TriangleShapes.mono (n : Int) (k : Nat) : LeO (impl_TriangleShapes.f k n) (impl_TriangleShapes.f (k + 1) n) := by
 unfold impl_TriangleShapes.f
 exact LeO.ite (LeO.bind (LeO.refl _) (fun L => LeO.ite (LeO.bind (ownG_mono k L) (fun q => LeO.refl _)) (LeO.refl _))) (LeO.refl _)
set_option maxHeartbeats 1000000 in
theorem impl_TriangleShapes.calls (k : Nat) (n : Int) (r1 : List (List S46)) (r2 : Int) (w : World) (h : impl_TriangleShapes.f k n = some (r1, r2)) :
  Calls Tryz.prog 8 #[.int .i64 n] w fun e w' => ∃ v0_ : Value, e = .returned (.tuple #[v0_, .int .i64 r2]) ∧ Kd.V (Kd.slice 46 k46) 35 w' w.heap.size (fun k_ => (w.heap.size ≤ k_)) v0_ r1 ∧ Below w.heap.size w w' := by
 unfold impl_TriangleShapes.f at h
 by_cases hc : 1 ≤ n ∧ n ≤ 6
 ·rw [if_pos hc] at h
  obtain ⟨L, hL, h2⟩ := Option.bind_eq_some_iff.mp h
  split at h2
  case isFalse => cases h2
  rename_i hl
  obtain ⟨r, hr, h3⟩ := Option.bind_eq_some_iff.mp h2
  have h4 := Option.some.inj h3
  injection h4 with h5 h6
  subst h5 h6
  have hw : impl_within.f n 1 6 = some true := by unfold impl_within.f; simp [hc.1, hc.2]
  have hwc := fun W => impl_within.calls n 1 6 true W hw
  have hall := fun W => allTriangles_S n L W hL
  have HO := Aside0.mk hr
  have HL := Aside0.mk hl
  clear h h2 h3 hL hr hl hc hw
  go_enter Tryz.func8, Tryz.ntmps8
  go_wp2_with (first | (go_at_call 39; (refine (hwc _).mono ?_; rintro e w1 ⟨rfl, ⟨nq, rfl⟩⟩; have HB1 := a0_ (pw_below_drewN (Below.refl w.heap.size w) nq))) | (go_at_call 41; (refine (hall _).mono ?_; rintro e w2 ⟨v2, rfl, hS, hb⟩; have HS2 := a0_ (Kd.R_lower (Kd.S_R hS) HB1.out.size); have HB2 := a0_ (below_step HB1.out hb); clear hS hb hall)) | (go_at_call 40; (refine (ownLeast_calls k 42 _ (formH k) _ L r w _ HB2.out HS2.out HL.out HO.out).mono ?_; rintro e w3 ⟨v3, rfl, hR, hb⟩; have HR3 := Aside0.mk hR; have HB3 := Aside0.mk hb; clear hR hb)))
  go_ret2
  exact ⟨_, rfl, Kd.V_mono (Kd.R_V (Kd.R_bound HR3.out)) (fun k_ hk_ => hk_.2.1), HB3.out⟩
 ·rw [if_neg hc] at h
  have h4 := Option.some.inj h
  injection h4 with h5 h6
  subst h5 h6
  have hw : impl_within.f n 1 6 = some false := by unfold impl_within.f; simp; omega
  have hwc := fun W => impl_within.calls n 1 6 false W hw
  clear h hc hw
  go_enter Tryz.func8, Tryz.ntmps8
  go_wp2_with (go_at_call 39; (refine (hwc _).mono ?_; rintro e w1 ⟨rfl, ⟨nq, rfl⟩⟩; have HB1 := a0_ (pw_below_drewN (Below.refl w.heap.size w) nq)))
  go_ret2
  exact ⟨_, rfl, Kd.R_V (Kd.R_nil _ _ _ 0 _), HB1.out⟩


/-! ### spec_l01In: function 43 -/
def spec_l01In.f (a0 : Int) (a1 : Int) (a2 : Int) : Option (Bool) := if a0 ≥ a1 then (some (decide (a0 ≤ a2))) else (some false)
set_option maxHeartbeats 8000000 in
set_option maxRecDepth 100000 in
theorem spec_l01In.calls (a0 : Int) (a1 : Int) (a2 : Int) (r : Bool) (w : World) (h : spec_l01In.f a0 a1 a2 = some r) :
  Calls Tryz.prog 43 #[.int .i64 a0, .int .i64 a1, .int .i64 a2] w fun e w' => e = .returned (.bool r) ∧ Drawn0 w w' := by
 have H : (if a0 ≥ a1 then (some (decide (a0 ≤ a2))) else (some false)) = some r := h
 clear h
 by_cases c4 : a0 ≥ a1
 ·rw [if_pos c4] at H
  have c4b0 : decide (a1 ≤ a0) = true := decide_eq_true c4
  clear c4
  obtain rfl := Option.some.inj H
  go_enter Tryz.func43, Tryz.ntmps43
  go_wp2
  go_ret
  exact ⟨by first | rfl | (simp; done) | (simp [*]; done), by repeat (first | exact Drawn0.refl _ | apply Drawn0.step)⟩
 ·rw [if_neg c4] at H
  have c4b0 : decide (a1 ≤ a0) = false := decide_eq_false c4
  clear c4
  obtain rfl := Option.some.inj H
  go_enter Tryz.func43, Tryz.ntmps43
  go_wp2
  go_ret
  exact ⟨by first | rfl | (simp; done) | (simp [*]; done), by repeat (first | exact Drawn0.refl _ | apply Drawn0.step)⟩

/-! ### spec_l02Less: function 105 -/
def spec_l02Less.f (a0_0 : Int) (a0_1 : Int) (a1_0 : Int) (a1_1 : Int) : Option (Bool) := if a0_1 < a1_1 then (some true) else (if a0_1 = a1_1 then (some (decide (a0_0 < a1_0))) else (some false))
set_option maxHeartbeats 8000000 in
set_option maxRecDepth 100000 in
theorem spec_l02Less.calls (a0_0 : Int) (a0_1 : Int) (a1_0 : Int) (a1_1 : Int) (r : Bool) (w : World) (h : spec_l02Less.f a0_0 a0_1 a1_0 a1_1 = some r) :
  Calls Tryz.prog 105 #[.agg #[.int .i64 a0_0, .int .i64 a0_1], .agg #[.int .i64 a1_0, .int .i64 a1_1]] w fun e w' => e = .returned (.bool r) ∧ Below w.heap.size w w' := by
 have hu46 := Tryz.underlying46
 have HB := a0_ (Below.refl w.heap.size w)
 have H := h
 clear h
 unfold spec_l02Less.f at H
 by_cases c3 : a0_1 < a1_1
 ·rw [if_pos c3] at H
  have c3b0 : decide (a0_1 < a1_1) = true := decide_eq_true c3
  clear c3
  obtain rfl := Option.some.inj H
  go_enter Tryz.func105, Tryz.ntmps105
  go_wp2_with (first | ((with_reducible refine gate_dst (N := 2) rfl ?_); refine bx_ (N := 2) (cs := #[.int .i64 a0_0, .int .i64 a0_1]) (t := 46) ?_; intro gb188 hg w4 hbox hb; have BK188 := a0_ (hbox); have GW188 := a0_ ((sz_ hg (bl0_) : w.heap.size ≤ gb188)); have GE188 := a0_ ((sz_ hg (bl0_) : w.heap.size ≤ gb188)); replace HB := a0_ (below_step (bl0_) hb); clear hb hbox hg) | ((with_reducible refine gate_dst (N := 3) rfl ?_); refine bx_ (N := 3) (cs := #[.int .i64 a1_0, .int .i64 a1_1]) (t := 46) ?_; intro gb189 hg w5 hbox hb; have BK189 := a0_ (hbox); have GW189 := a0_ ((sz_ hg (bl1_ GE188.out) : w.heap.size ≤ gb189)); have GE189 := a0_ ((sz_ hg (bl1_ GE188.out) : w.heap.size ≤ gb189)); replace HB := a0_ (below_step (bl1_ GE188.out) hb); have NB188_189 := a0_ ((nl_ hg BK188.out : gb188 ≠ gb189)); have NB189_188 := a0_ ((ng_ hg BK188.out : gb189 ≠ gb188)); replace BK188 := a0_ (bb_ BK188.out hb); clear hb hbox hg; have hnb6 := NB188_189.out; have hnc6 := NB189_188.out; obtain ⟨hcz7_0, hcz7_1, hfz7_0, hfz7_1⟩ := bc2_ BK188.out; obtain ⟨hcz8_0, hcz8_1, hfz8_0, hfz8_1⟩ := bc2_ BK189.out))
  go_ret
  exact ⟨er_, bl2_ GE188.out GE189.out⟩
 ·rw [if_neg c3] at H
  have c3b0 : decide (a0_1 < a1_1) = false := decide_eq_false c3
  clear c3
  by_cases c9 : a0_1 = a1_1
  ·rw [if_pos c9] at H
   have c9b0 : (a0_1 == a1_1) = true := beq_iff_eq.mpr c9
   have c9b1 : (a0_1 != a1_1) = false := bne_eq_false_iff_eq.mpr c9
   clear c9
   obtain rfl := Option.some.inj H
   go_enter Tryz.func105, Tryz.ntmps105
   go_wp2_with (first | ((with_reducible refine gate_dst (N := 2) rfl ?_); refine bx_ (N := 2) (cs := #[.int .i64 a0_0, .int .i64 a0_1]) (t := 46) ?_; intro gb188 hg w10 hbox hb; have BK188 := a0_ (hbox); have GW188 := a0_ ((sz_ hg (bl0_) : w.heap.size ≤ gb188)); have GE188 := a0_ ((sz_ hg (bl0_) : w.heap.size ≤ gb188)); replace HB := a0_ (below_step (bl0_) hb); clear hb hbox hg) | ((with_reducible refine gate_dst (N := 3) rfl ?_); refine bx_ (N := 3) (cs := #[.int .i64 a1_0, .int .i64 a1_1]) (t := 46) ?_; intro gb189 hg w11 hbox hb; have BK189 := a0_ (hbox); have GW189 := a0_ ((sz_ hg (bl1_ GE188.out) : w.heap.size ≤ gb189)); have GE189 := a0_ ((sz_ hg (bl1_ GE188.out) : w.heap.size ≤ gb189)); replace HB := a0_ (below_step (bl1_ GE188.out) hb); have NB188_189 := a0_ ((nl_ hg BK188.out : gb188 ≠ gb189)); have NB189_188 := a0_ ((ng_ hg BK188.out : gb189 ≠ gb188)); replace BK188 := a0_ (bb_ BK188.out hb); clear hb hbox hg; have hnb12 := NB188_189.out; have hnc12 := NB189_188.out; obtain ⟨hcz13_0, hcz13_1, hfz13_0, hfz13_1⟩ := bc2_ BK188.out; obtain ⟨hcz14_0, hcz14_1, hfz14_0, hfz14_1⟩ := bc2_ BK189.out))
   go_ret
   exact ⟨er_, bl2_ GE188.out GE189.out⟩
  ·rw [if_neg c9] at H
   have c9b0 : (a0_1 == a1_1) = false := beq_eq_false_iff_ne.mpr c9
   have c9b1 : (a0_1 != a1_1) = true := bne_iff_ne.mpr c9
   obtain rfl := Option.some.inj H
   go_enter Tryz.func105, Tryz.ntmps105
   go_wp2_with (first | ((with_reducible refine gate_dst (N := 2) rfl ?_); refine bx_ (N := 2) (cs := #[.int .i64 a0_0, .int .i64 a0_1]) (t := 46) ?_; intro gb188 hg w15 hbox hb; have BK188 := a0_ (hbox); have GW188 := a0_ ((sz_ hg (bl0_) : w.heap.size ≤ gb188)); have GE188 := a0_ ((sz_ hg (bl0_) : w.heap.size ≤ gb188)); replace HB := a0_ (below_step (bl0_) hb); clear hb hbox hg) | ((with_reducible refine gate_dst (N := 3) rfl ?_); refine bx_ (N := 3) (cs := #[.int .i64 a1_0, .int .i64 a1_1]) (t := 46) ?_; intro gb189 hg w16 hbox hb; have BK189 := a0_ (hbox); have GW189 := a0_ ((sz_ hg (bl1_ GE188.out) : w.heap.size ≤ gb189)); have GE189 := a0_ ((sz_ hg (bl1_ GE188.out) : w.heap.size ≤ gb189)); replace HB := a0_ (below_step (bl1_ GE188.out) hb); have NB188_189 := a0_ ((nl_ hg BK188.out : gb188 ≠ gb189)); have NB189_188 := a0_ ((ng_ hg BK188.out : gb189 ≠ gb188)); replace BK188 := a0_ (bb_ BK188.out hb); clear hb hbox hg; have hnb17 := NB188_189.out; have hnc17 := NB189_188.out; obtain ⟨hcz18_0, hcz18_1, hfz18_0, hfz18_1⟩ := bc2_ BK188.out; obtain ⟨hcz19_0, hcz19_1, hfz19_0, hfz19_1⟩ := bc2_ BK189.out))
   go_ret
   exact ⟨er_, bl2_ GE188.out GE189.out⟩

end Go.Proofs.YtmdjkmfocgelnaaGreat.PFnTriangleShapes
