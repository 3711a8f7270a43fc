/- Over the kit's printer by a driver of mine (hprint.py), with parts by hand: functions of the program as Lean functions, and that each call comes to exactly these answers. -/
import Derived.Test.YtmdjkmfocgelnaaGreatPFnTriangleShapesx0
import Derived.Test.YtmdjkmfocgelnaaGreatPFnTriangleShapesx4
import Derived.Test.YtmdjkmfocgelnaaGreatPFnTriangleShapesx5
import Derived.Test.YtmdjkmfocgelnaaGreatPFnTriangleShapesx7
namespace Go.Proofs.YtmdjkmfocgelnaaGreat.PFnTriangleShapes
open Go.RowKit Go.Proofs.YtmdjkmfocgelnaaGreatW.PrintWords Go.Proofs.YtmdjkmfocgelnaaGreatW.PrintLast Go.Proofs.YtmdjkmfocgelnaaGreatW.PrintMore
attribute [local go_sem] max2_int min2_int max_two min_two max_three min_three max_four min_four   -- for this text's walks alone
set_option linter.unusedVariables false
set_option linter.unusedSimpArgs false

/-! ### impl_corner: function 99 -/
def impl_corner.l0 : Nat → List (S46) → Int → Int → Int → Int → Option (Int × Int)
 | 0, _, _, _, _, _ => none
 | k + 1, x9, x10, x11, x153000, x153001 => if x11 < x10 then (if 0 ≤ x11 then (if x11 < (x9.length : Int) then (impl_corner.l0 k x9 x10 (wrap64 (x11 + 1)) (mn x153000 ((rd_T46 x9 x11).f0)) (mn x153001 ((rd_T46 x9 x11).f1))) else (none)) else (none)) else (some (x153000, x153001))
def impl_corner.f (k : Nat) (l0 : List (S46)) : Option (Int × Int) := if 0 < (l0.length : Int) then (impl_corner.l0 k l0 (l0.length : Int) 0 ((rd_T46 l0 0).f0) ((rd_T46 l0 0).f1)) else (none)
theorem impl_corner.mono_l : ∀ k, (∀ y0 y1 y2 y3 y4, LeO (impl_corner.l0 k y0 y1 y2 y3 y4) (impl_corner.l0 (k + 1) y0 y1 y2 y3 y4))
 | 0 => fun _ _ _ _ _ r h => by simp [impl_corner.l0] at h
 | k + 1 => by
  have ih0 := impl_corner.mono_l k
  ·intro y0 y1 y2 y3 y4
   unfold impl_corner.l0
   with_reducible (repeat' first | exact ih0 _ _ _ _ _ | exact LeO.refl _ | exact LeO.none _ | refine LeO.ite ?_ ?_ | refine LeO.bind ?_ (fun _ => ?_))
theorem impl_corner.mono : ∀ a0 k, LeO (impl_corner.f k a0) (impl_corner.f (k + 1) a0) := by
 intro a0 k
 have ih0 := impl_corner.mono_l k
 unfold impl_corner.f
 with_reducible (repeat' first | exact ih0 _ _ _ _ _ | exact LeO.refl _ | exact LeO.none _ | refine LeO.ite ?_ ?_ | refine LeO.bind ?_ (fun _ => ?_))
set_option maxHeartbeats 8000000 in
set_option maxRecDepth 100000 in
theorem impl_corner.calls (k : Nat) (A0 : Option Addr) (c0 : Nat) (l0 : List (S46)) (r1 : Int) (r2 : Int) (w : World) (hr0 : Kd.C k46 w A0 l0.length l0) (hc0 : l0.length ≤ c0) (h : impl_corner.f k l0 = some (r1, r2)) :
  Calls Tryz.prog 99 #[.slice A0 l0.length c0] w fun e w' => e = .returned (.agg #[.int .i64 r1, .int .i64 r2]) ∧ Below w.heap.size w w' := by
 have hu46 := Tryz.underlying46
 have HR0 := Aside0.mk hr0
 have HC0 := Aside0.mk hc0
 clear hr0 hc0
 have HB := a0_ (Below.refl w.heap.size w)
 have H := h
 clear h
 unfold impl_corner.f at H
 by_cases c2 : 0 < (l0.length : Int)
 ·rw [if_pos c2] at H
  have c2b0 : decide (0 < (l0.length : Int)) = true := decide_eq_true c2
  have c2b1 : decide (0 < l0.length) = true := decide_eq_true (by omega)
  clear c2
  have H' := Aside0.mk H
  clear H
  go_enter Tryz.func99, Tryz.ntmps99
  go_wp2_with (first | ((with_reducible refine gate_dst (N := 2) rfl ?_); refine bx_ (N := 2) (cs := #[.int .i64 0, .int .i64 0]) (t := 46) ?_; intro gb150 hg w3 hbox hb; have BK150 := a0_ (hbox); have GW150 := a0_ ((sz_ hg (bl0_) : w.heap.size ≤ gb150)); have GE150 := a0_ ((sz_ hg (bl0_) : w.heap.size ≤ gb150)); replace HB := a0_ (below_step (bl0_) hb); clear hb hbox hg; have p151 : 0 ≤ (0 : Int) := (by omega); have q151 : 0 < (l0.length : Int) := od_; obtain ⟨ad151, e151, hx151_0, hx151_1⟩ := at_T46 HR0.out 0 p151 q151; cases e151; have qi151 : (0 < l0.length) = True := eq_true (by omega); (try rw [show ((0 : Int)).toNat = 0 from rfl] at hx151_0); (try rw [show 0 * 2 = 0 from rfl] at hx151_0); (try rw [Addr.add_zero'] at hx151_0); (try rw [show ((0 : Int)).toNat = 0 from rfl] at hx151_1); (try rw [show 0 * 2 = 0 from rfl] at hx151_1); (try rw [Addr.add_zero'] at hx151_1); replace hx151_0 := (HB.out.cell (World.block_lt_of_cell? w _ hx151_0)).trans hx151_0; replace hx151_1 := (HB.out.cell (World.block_lt_of_cell? w _ hx151_1)).trans hx151_1; replace p151 := eq_true p151; replace q151 := eq_true q151) | ((with_reducible refine gate_dst (N := 3) rfl ?_); refine bx_ (N := 3) (cs := #[.int .i64 0, .int .i64 0]) (t := 46) ?_; intro gb152 hg w4 hbox hb; have BK152 := a0_ (hbox); have GW152 := a0_ ((sz_ hg (bl1_ GE150.out) : w.heap.size ≤ gb152)); have GE152 := a0_ ((sz_ hg (bl1_ GE150.out) : w.heap.size ≤ gb152)); replace HB := a0_ (below_step (bl1_ GE150.out) hb); have NB150_152 := a0_ ((nl_ hg BK150.out : gb150 ≠ gb152)); have NB152_150 := a0_ ((ng_ hg BK150.out : gb152 ≠ gb150)); replace BK150 := a0_ (bb_ BK150.out hb); clear hb hbox hg; have hnb5 := NB152_150.out; have hnc5 := NB150_152.out; obtain ⟨hcz6_0, hcz6_1, hfz6_0, hfz6_1⟩ := bc2_ BK152.out))
  go_loopg [11] k (fun kq v11 w' => ∃ (x11_1 : Int) (x153000_1 : Int) (x153001_1 : Int), v11 = .int .i64 x11_1 ∧ Aside0 (impl_corner.l0 kq l0 (l0.length : Int) x11_1 x153000_1 x153001_1 = some (r1, r2)) ∧ Aside0 (kq ≤ k) ∧ Aside0 (w'.heap[gb150]? = some (.cells #[.int .i64 0, .int .i64 0] 46 (0, 0))) ∧ Aside0 (w'.heap[gb152]? = some (.cells #[.int .i64 x153000_1, .int .i64 x153001_1] 46 (0, 0))) ∧ Aside0 (Below w.heap.size w w'))
  case atStart => exact ⟨(0), ((rd_T46 l0 0).f0), ((rd_T46 l0 0).f1), rs_, H', ⟨Nat.le_refl _⟩, ⟨bf_ BK150.out NB150_152.out⟩, ⟨by (with_reducible repeat (first | refine blk_drewN ?_ _ | refine blk_drew ?_ | refine blk_alloc ?_ _)); refine blk_put (cs := #[.int .i64 ((rd_T46 l0 0).f0), .int .i64 0]) ?_ 1 _ rfl; (with_reducible repeat (first | refine blk_drewN ?_ _ | refine blk_drew ?_ | refine blk_alloc ?_ _)); refine blk_put (cs := #[.int .i64 0, .int .i64 0]) ?_ 0 _ rfl; (with_reducible repeat (first | refine blk_drewN ?_ _ | refine blk_drew ?_ | refine blk_alloc ?_ _)); exact BK152.out⟩, ⟨bl2_ GE150.out GE152.out⟩⟩
  case round =>
   clear H'
   try clear p1
   try clear q1
   try clear hx1
   try clear qi1
   try clear c2
   try clear c2b0
   try clear c2b1
   try clear p2
   try clear c5
   try clear hcz6_0
   try clear hcz6_1
   try clear hfz6_0
   try clear hfz6_1
   try clear hx151_0
   try clear hx151_1
   try clear p151
   try clear q151
   obtain ⟨x11_1, x153000_1, x153001_1, rfl, HA, HK1, BK150, BK152, HB⟩ := hrel
   cases gk with
   | zero => exact absurd HA.out (by simp [impl_corner.l0])
   | succ k1 =>
    have H := HA.out
    clear HA
    simp only [impl_corner.l0] at H
    by_cases c7 : x11_1 < (l0.length : Int)
    ·rw [if_pos c7] at H
     have c7b0 : decide (x11_1 < (l0.length : Int)) = true := decide_eq_true c7
     clear c7
     by_cases c8 : 0 ≤ x11_1
     ·rw [if_pos c8] at H
      have c8b0 : decide (0 ≤ x11_1) = true := decide_eq_true c8
      clear c8
      by_cases c9 : x11_1 < (l0.length : Int)
      ·rw [if_pos c9] at H
       have c9b0 : decide (x11_1 < (l0.length : Int)) = true := decide_eq_true c9
       clear c9
       obtain ⟨ji10, hji10⟩ : ∃ j_ : Int, (mn x153000_1 ((rd_T46 l0 x11_1).f0)) = j_ := ⟨_, rfl⟩
       replace H : (impl_corner.l0 k1 l0 (l0.length : Int) (wrap64 (x11_1 + 1)) ji10 (mn x153001_1 ((rd_T46 l0 x11_1).f1))) = some (r1, r2) := by first | (rw [hji10] at H; exact H) | (simp only [hji10] at H ⊢; exact H)
       have hji10_ : (if ((rd_T46 l0 x11_1).f0) < x153000_1 then ((rd_T46 l0 x11_1).f0) else x153000_1) = ji10 := hji10
       obtain ⟨ji11, hji11⟩ : ∃ j_ : Int, (mn x153001_1 ((rd_T46 l0 x11_1).f1)) = j_ := ⟨_, rfl⟩
       replace H : (impl_corner.l0 k1 l0 (l0.length : Int) (wrap64 (x11_1 + 1)) ji10 ji11) = some (r1, r2) := by first | (rw [hji11] at H; exact H) | (simp only [hji11] at H ⊢; exact H)
       have hji11_ : (if ((rd_T46 l0 x11_1).f1) < x153001_1 then ((rd_T46 l0 x11_1).f1) else x153001_1) = ji11 := hji11
       have H' := Aside0.mk H
       clear H
       have p153 : 0 ≤ (x11_1 : Int) := od_
       have q153 : x11_1 < (l0.length : Int) := od_
       obtain ⟨ad153, e153, hx153_0, hx153_1⟩ := at_T46 HR0.out x11_1 p153 q153
       obtain rfl : ad151 = ad153 := (by injection e153)
       replace hx153_0 := (HB.out.cell (World.block_lt_of_cell? w _ hx153_0)).trans hx153_0
       replace hx153_1 := (HB.out.cell (World.block_lt_of_cell? w _ hx153_1)).trans hx153_1
       replace p153 := eq_true p153
       replace q153 := eq_true q153
       go_wp2_with (first | ((with_reducible refine gate_dst (N := 5) rfl ?_); refine bx_ (N := 5) (cs := #[.int .i64 0, .int .i64 0]) (t := 46) ?_; intro gb154 hg w12 hbox hb; have BK154 := a0_ (hbox); have GW154 := a0_ ((sz_ hg (bl2_ GE150.out GE152.out) : w.heap.size ≤ gb154)); have GE154 := a0_ ((sz_ hg (bl2_ GE150.out GE152.out) : w.heap.size ≤ gb154)); replace HB := a0_ (below_step (bl2_ GE150.out GE152.out) hb); have NB150_154 := a0_ ((nl_ hg BK150.out : gb150 ≠ gb154)); have NB154_150 := a0_ ((ng_ hg BK150.out : gb154 ≠ gb150)); replace BK150 := a0_ (bb_ BK150.out hb); have NB152_154 := a0_ ((nl_ hg BK152.out : gb152 ≠ gb154)); have NB154_152 := a0_ ((ng_ hg BK152.out : gb154 ≠ gb152)); replace BK152 := a0_ (bb_ BK152.out hb); clear hb hbox hg; have hnb13 := NB154_150.out; have hnc13 := NB150_154.out; have hnb14 := NB154_152.out; have hnc14 := NB152_154.out; obtain ⟨hcz15_0, hcz15_1, hfz15_0, hfz15_1⟩ := bc2_ BK154.out; have hnb16 := NB152_150.out; have hnc16 := NB150_152.out; obtain ⟨hcz17_0, hcz17_1, hfz17_0, hfz17_1⟩ := bc2_ BK152.out))
       go_roundg k1
       case measure => have := HK1.out; omega
       case rel => exact ⟨(wrap64 (x11_1 + 1)), (ji10), (ji11), rs_, H', ⟨by have := HK1.out; omega⟩, ⟨by (with_reducible repeat (first | refine blk_drewN ?_ _ | refine blk_drew ?_ | refine blk_alloc ?_ _)); refine blk_far ?_ NB150_152.out _; (with_reducible repeat (first | refine blk_drewN ?_ _ | refine blk_drew ?_ | refine blk_alloc ?_ _)); refine blk_far ?_ NB150_152.out _; (with_reducible repeat (first | refine blk_drewN ?_ _ | refine blk_drew ?_ | refine blk_alloc ?_ _)); refine blk_far ?_ NB150_154.out _; (with_reducible repeat (first | refine blk_drewN ?_ _ | refine blk_drew ?_ | refine blk_alloc ?_ _)); refine blk_far ?_ NB150_154.out _; (with_reducible repeat (first | refine blk_drewN ?_ _ | refine blk_drew ?_ | refine blk_alloc ?_ _)); exact BK150.out⟩, ⟨by (with_reducible repeat (first | refine blk_drewN ?_ _ | refine blk_drew ?_ | refine blk_alloc ?_ _)); refine blk_put (cs := #[.int .i64 ji10, .int .i64 x153001_1]) ?_ 1 _ rfl; (with_reducible repeat (first | refine blk_drewN ?_ _ | refine blk_drew ?_ | refine blk_alloc ?_ _)); refine blk_put (cs := #[.int .i64 x153000_1, .int .i64 x153001_1]) ?_ 0 _ rfl; (with_reducible repeat (first | refine blk_drewN ?_ _ | refine blk_drew ?_ | refine blk_alloc ?_ _)); refine blk_far ?_ NB152_154.out _; (with_reducible repeat (first | refine blk_drewN ?_ _ | refine blk_drew ?_ | refine blk_alloc ?_ _)); refine blk_far ?_ NB152_154.out _; (with_reducible repeat (first | refine blk_drewN ?_ _ | refine blk_drew ?_ | refine blk_alloc ?_ _)); exact BK152.out⟩, ⟨bl3_ GE150.out GE152.out GE154.out⟩⟩
      ·rw [if_neg c9] at H
       exact absurd H (by simp)
     ·rw [if_neg c8] at H
      exact absurd H (by simp)
    ·rw [if_neg c7] at H
     have c7b0 : decide (x11_1 < (l0.length : Int)) = false := decide_eq_false c7
     clear c7
     simp only [Option.some.injEq, Prod.mk.injEq] at H
     obtain ⟨rfl, rfl⟩ := H
     have hnb18 := NB152_150.out
     have hnc18 := NB150_152.out
     have hcz19_0 : wr.cell? ⟨gb152, 0, none⟩ = some (.int .i64 x153000_1) := (blk_cell BK152.out 0).trans rfl
     have hcz19_1 : wr.cell? ⟨gb152, 1, none⟩ = some (.int .i64 x153001_1) := (blk_cell BK152.out 1).trans rfl
     have hfz19_0 := blk_frozen BK152.out 0
     have hfz19_1 := blk_frozen BK152.out 1
     have hcz20_0 : wr.cell? ⟨gb150, 0, none⟩ = some (.int .i64 0) := (blk_cell BK150.out 0).trans rfl
     have hcz20_1 : wr.cell? ⟨gb150, 1, none⟩ = some (.int .i64 0) := (blk_cell BK150.out 1).trans rfl
     have hfz20_0 := blk_frozen BK150.out 0
     have hfz20_1 := blk_frozen BK150.out 1
     go_wp2
     refine bodyPost_ret (results_cell_row rfl _ _ gb150 46 #[.int .i64 x153000_1, .int .i64 x153001_1] (0, 0) _ rfl (by (with_reducible repeat (first | refine blk_drewN ?_ _ | refine blk_drew ?_ | refine blk_alloc ?_ _)); refine blk_put (cs := #[.int .i64 x153000_1, .int .i64 0]) ?_ 1 _ rfl; (with_reducible repeat (first | refine blk_drewN ?_ _ | refine blk_drew ?_ | refine blk_alloc ?_ _)); refine blk_put (cs := #[.int .i64 0, .int .i64 0]) ?_ 0 _ rfl; (with_reducible repeat (first | refine blk_drewN ?_ _ | refine blk_drew ?_ | refine blk_alloc ?_ _)); exact BK150.out) Tryz.underlying46 rfl kr_) rfl ?_
     exact ⟨er_, bl2_ GE150.out GE152.out⟩
 ·rw [if_neg c2] at H
  exact absurd H (by simp)

/-! ### impl_moved: function 100 -/
def impl_moved.l0 : Nat → Int → Int → List (S46) → List (S46) → Int → Int → Option ((List (S46)))
 | 0, _, _, _, _, _, _ => none
 | k + 1, x1, x2, x7, x13, x14, x15 => if x15 < x14 then (if 0 ≤ x15 then (if x15 < (x13.length : Int) then (if x7.length < 8796093022208 then (impl_moved.l0 k x1 x2 (x7 ++ [(⟨wrap64 (((rd_T46 x13 x15).f0) + x1), wrap64 (((rd_T46 x13 x15).f1) + x2)⟩ : S46)]) x13 x14 (wrap64 (x15 + 1))) else (none)) else (none)) else (none)) else (some x7)
def impl_moved.f (k : Nat) (l0 : List (S46)) (a1 : Int) (a2 : Int) : Option ((List (S46))) := if 0 ≤ (l0.length : Int) then (if ((l0.length : Int) : Int).toNat ≤ 17592186044416 then (impl_moved.l0 k a1 a2 (([] : List (S46))) l0 (l0.length : Int) 0) else (none)) else (none)
theorem impl_moved.mono_l : ∀ k, (∀ y0 y1 y2 y3 y4 y5, LeO (impl_moved.l0 k y0 y1 y2 y3 y4 y5) (impl_moved.l0 (k + 1) y0 y1 y2 y3 y4 y5))
 | 0 => fun _ _ _ _ _ _ r h => by simp [impl_moved.l0] at h
 | k + 1 => by
  have ih0 := impl_moved.mono_l k
  ·intro y0 y1 y2 y3 y4 y5
   unfold impl_moved.l0
   with_reducible (repeat' first | exact ih0 _ _ _ _ _ _ | exact LeO.refl _ | exact LeO.none _ | refine LeO.ite ?_ ?_ | refine LeO.bind ?_ (fun _ => ?_))
theorem impl_moved.mono : ∀ a0 a1 a2 k, LeO (impl_moved.f k a0 a1 a2) (impl_moved.f (k + 1) a0 a1 a2) := by
 intro a0 a1 a2 k
 have ih0 := impl_moved.mono_l k
 unfold impl_moved.f
 with_reducible (repeat' first | exact ih0 _ _ _ _ _ _ | exact LeO.refl _ | exact LeO.none _ | refine LeO.ite ?_ ?_ | refine LeO.bind ?_ (fun _ => ?_))
set_option maxHeartbeats 8000000 in
set_option maxRecDepth 100000 in
theorem impl_moved.calls (k : Nat) (A0 : Option Addr) (c0 : Nat) (l0 : List (S46)) (a1 : Int) (a2 : Int) (r : List (S46)) (w : World) (hr0 : Kd.C k46 w A0 l0.length l0) (hc0 : l0.length ≤ c0) (h : impl_moved.f k l0 a1 a2 = some r) :
  Calls Tryz.prog 100 #[.slice A0 l0.length c0, .int .i64 a1, .int .i64 a2] w fun e w' => ∃ v0_ : Value, e = .returned (v0_) ∧ Kd.R k46 46 w' w.heap.size (fun _ => True) v0_ r ∧ Below w.heap.size w w' := by
 have hu46 := Tryz.underlying46
 have HR0 := Aside0.mk hr0
 have HC0 := Aside0.mk hc0
 clear hr0 hc0
 have HB := a0_ (Below.refl w.heap.size w)
 have H := h
 clear h
 unfold impl_moved.f at H
 by_cases c4 : 0 ≤ (l0.length : Int)
 ·rw [if_pos c4] at H
  have c4b0 := eq_true c4
  have c4b1 : decide (0 ≤ (l0.length : Int)) = true := decide_eq_true c4
  clear c4
  by_cases c5 : ((l0.length : Int) : Int).toNat ≤ 17592186044416
  ·rw [if_pos c5] at H
   have c5b0 := eq_true c5
   have c5b1 : decide (((l0.length : Int) : Int).toNat ≤ 17592186044416) = true := decide_eq_true c5
   clear c5
   obtain ⟨y155, hy155⟩ : ∃ y_ : List (S46), y_ = (([] : List (S46))) := ⟨_, rfl⟩
   replace H : (impl_moved.l0 k a1 a2 y155 l0 (l0.length : Int) 0) = some r := hh_ hy155 H
   have Ny155 := Aside0.mk hy155
   clear hy155
   have H' := Aside0.mk H
   clear H
   go_enter Tryz.func100, Tryz.ntmps100
   go_wp2_with (first | ((with_reducible refine gate_dst (N := 12) rfl ?_); refine Kd.R_make0 k46 _ 46 rfl (N := 12) rfl 35 _ _ rfl (l0.length : Int) rfl rfl Tryz.underlying35 (.agg #[(.int .i64 0), (.int .i64 0)]) 16 info46 rfl (by decide) (ok := fun _ => True) trivial (od_) (Nat.le_trans (Nat.mul_le_mul_right _ (od_ : (l0.length : Int).toNat ≤ 17592186044416)) (by omega)) (Below.refl _ _) (Nat.le_refl _) ?_; intro v156 w6 ho7 hb hg_ hnew_; clear hg_ hnew_; (first | rw [← Ny155.out] at ho7 | (simp only [Int.reduceToNat] at ho7; rw [← Ny155.out] at ho7)); have HO157 := a0_ (Kd.R_lower ho7 (below_size (bl0_))); replace HB := a0_ (below_step (bl0_) hb); clear hb ho7))
   go_loopg [7, 15] k (fun kq v7 v15 w' => ∃ (x7_1 : List (S46)) (x15_1 : Int), v15 = .int .i64 x15_1 ∧ Aside0 (impl_moved.l0 kq a1 a2 x7_1 l0 (l0.length : Int) x15_1 = some r) ∧ Aside0 (kq ≤ k) ∧ Aside0 (Kd.R k46 46 w' w.heap.size (fun _ => True) v7 x7_1) ∧ Aside0 (Below w.heap.size w w'))
   case atStart => exact ⟨(y155), (0), rs_, H', ⟨Nat.le_refl _⟩, ⟨ra_ HO157.out⟩, ⟨bl0_⟩⟩
   case round =>
    clear H'
    try clear c1
    try clear p2
    try clear c4
    try clear c4b0
    try clear c4b1
    try clear c5
    try clear c5b0
    try clear c5b1
    obtain ⟨x7_1, x15_1, rfl, HA, HK1, HO_7, HB⟩ := hrel
    cases gk with
    | zero => exact absurd HA.out (by simp [impl_moved.l0])
    | succ k1 =>
     have H := HA.out
     clear HA
     simp only [impl_moved.l0] at H
     by_cases c8 : x15_1 < (l0.length : Int)
     ·rw [if_pos c8] at H
      have c8b0 : decide (x15_1 < (l0.length : Int)) = true := decide_eq_true c8
      clear c8
      by_cases c9 : 0 ≤ x15_1
      ·rw [if_pos c9] at H
       have c9b0 : decide (0 ≤ x15_1) = true := decide_eq_true c9
       clear c9
       by_cases c10 : x15_1 < (l0.length : Int)
       ·rw [if_pos c10] at H
        have c10b0 : decide (x15_1 < (l0.length : Int)) = true := decide_eq_true c10
        clear c10
        by_cases c11 : x7_1.length < 8796093022208
        ·rw [if_pos c11] at H
         have LMc11 := Aside0.mk c11
         clear c11
         obtain ⟨y160, hy160⟩ : ∃ y_ : List (S46), y_ = (x7_1 ++ [(⟨wrap64 (((rd_T46 l0 x15_1).f0) + a1), wrap64 (((rd_T46 l0 x15_1).f1) + a2)⟩ : S46)]) := ⟨_, rfl⟩
         replace H : (impl_moved.l0 k1 a1 a2 y160 l0 (l0.length : Int) (wrap64 (x15_1 + 1))) = some r := hh_ hy160 H
         have Ny160 := Aside0.mk hy160
         clear hy160
         have H' := Aside0.mk H
         clear H
         have p158 : 0 ≤ (x15_1 : Int) := od_
         have q158 : x15_1 < (l0.length : Int) := od_
         obtain ⟨ad158, e158, hx158_0, hx158_1⟩ := at_T46 HR0.out x15_1 p158 q158
         cases e158
         replace hx158_0 := (HB.out.cell (World.block_lt_of_cell? w _ hx158_0)).trans hx158_0
         replace hx158_1 := (HB.out.cell (World.block_lt_of_cell? w _ hx158_1)).trans hx158_1
         replace p158 := eq_true p158
         replace q158 := eq_true q158
         go_wp2_with (first | ((with_reducible refine gate_dst (N := 9) rfl ?_); refine bx_ (N := 9) (cs := #[.int .i64 0, .int .i64 0]) (t := 46) ?_; intro gb159 hg w12 hbox hb; replace HO_7 := a0_ (Kd.R_below (Kd.R_elderB (ra_ HO_7.out) gb159 (Nat.le_of_eq hg.symm)) hb); have BK159 := a0_ (hbox); have GW159 := a0_ ((sz_ hg (bl0_) : w.heap.size ≤ gb159)); have GE159 := a0_ ((sz_ hg (bl0_) : w.heap.size ≤ gb159)); replace HB := a0_ (below_step (bl0_) hb); clear hb hbox hg; obtain ⟨hcz13_0, hcz13_1, hfz13_0, hfz13_1⟩ := bc2_ BK159.out) | ((with_reducible refine gate_builtin (b := .append) (xs := #[.tmp 19, .tmp 29]) rfl ?_); at_builtin; refine Kd.R_append k46 (w0 := w) w.heap.size rfl (.tmp 19) (.tmp 29) 35 46 (.agg #[(.int .i64 0), (.int .i64 0)]) 16 rfl Tryz.underlying35 info46 rfl (by decide) (by omega) u7 x7_1 (⟨wrap64 (((rd_T46 l0 x15_1).f0) + a1), wrap64 (((rd_T46 l0 x15_1).f1) + a2)⟩ : S46) [.int .i64 (wrap64 (((rd_T46 l0 x15_1).f0) + a1)), .int .i64 (wrap64 (((rd_T46 l0 x15_1).f1) + a2))] (fun k_ => k_ ≠ gb159) (fun _ => False) rfl (by first | (go_simp; done) | (go_simp; rfl)) ?aP (fun _ hk => hk.elim) ?aF ?aO ?aB ?aS ?aL ?_; (case aP => exact k46_mkM _ _ _ (⟨wrap64 (((rd_T46 l0 x15_1).f0) + a1), wrap64 (((rd_T46 l0 x15_1).f1) + a2)⟩ : S46)); (case aB => exact (bl1_ GE159.out)); (case aF => exact (fun k_ hk => Kd.freshB (g := gb159) (o := .cells #[.int .i64 ((rd_T46 l0 x15_1).f0), .int .i64 ((rd_T46 l0 x15_1).f1)] 46 (0, 0)) (by (with_reducible repeat (first | refine blk_drewN ?_ _ | refine blk_drew ?_ | refine blk_alloc ?_ _)); refine blk_put (cs := #[.int .i64 ((rd_T46 l0 x15_1).f0), .int .i64 0]) ?_ 1 _ rfl; (with_reducible repeat (first | refine blk_drewN ?_ _ | refine blk_drew ?_ | refine blk_alloc ?_ _)); refine blk_put (cs := #[.int .i64 0, .int .i64 0]) ?_ 0 _ rfl; (with_reducible repeat (first | refine blk_drewN ?_ _ | refine blk_drew ?_ | refine blk_alloc ?_ _)); exact BK159.out) k_ hk)); (case aO => exact (by (with_reducible repeat (first | apply Kd.R_alloc | apply Kd.R_drewN | apply Kd.R_drew)); exact Kd.R_mono (Kd.R_far (p := ⟨gb159, 1, none⟩) (Kd.R_far (p := ⟨gb159, 0, none⟩) (Kd.R_mono HO_7.out (fun k_ hk => (⟨hk, hk.2⟩ : _ ∧ k_ ≠ gb159))) (fun _ hk => hk.2) (.int .i64 ((rd_T46 l0 x15_1).f0))) (fun _ hk => hk.2) (.int .i64 ((rd_T46 l0 x15_1).f1))) (fun _ hk => hk.1.2))); (case aS => exact (below_size (bl1_ GE159.out))); (case aL => have := LMc11.out; omega); intro v161 w14 ho hb hg hat; rw [← Ny160.out] at ho; replace BK159 := a0_ (blk_grown (g := gb159) (o := .cells #[.int .i64 ((rd_T46 l0 x15_1).f0), .int .i64 ((rd_T46 l0 x15_1).f1)] 46 (0, 0)) (by (with_reducible repeat (first | refine blk_drewN ?_ _ | refine blk_drew ?_ | refine blk_alloc ?_ _)); refine blk_put (cs := #[.int .i64 ((rd_T46 l0 x15_1).f0), .int .i64 0]) ?_ 1 _ rfl; (with_reducible repeat (first | refine blk_drewN ?_ _ | refine blk_drew ?_ | refine blk_alloc ?_ _)); refine blk_put (cs := #[.int .i64 0, .int .i64 0]) ?_ 0 _ rfl; (with_reducible repeat (first | refine blk_drewN ?_ _ | refine blk_drew ?_ | refine blk_alloc ?_ _)); exact BK159.out) hg (Kd.R_away HO_7.out (fun _ hk => hk.2))); replace HB := a0_ (hb); have HO162 := a0_ (ho); clear HO_7; clear ho hb hg hat))
         go_roundg k1
         case measure => have := HK1.out; omega
         case rel => exact ⟨(y160), (wrap64 (x15_1 + 1)), rs_, H', ⟨by have := HK1.out; omega⟩, ⟨by (with_reducible repeat (first | apply Kd.R_alloc | apply Kd.R_drewN | apply Kd.R_drew)); exact Kd.R_mono HO162.out (fun _ hk => trivial)⟩, ⟨bl1_ GE159.out⟩⟩
        ·rw [if_neg c11] at H
         exact absurd H (by simp)
       ·rw [if_neg c10] at H
        exact absurd H (by simp)
      ·rw [if_neg c9] at H
       exact absurd H (by simp)
     ·rw [if_neg c8] at H
      have c8b0 : decide (x15_1 < (l0.length : Int)) = false := decide_eq_false c8
      clear c8
      obtain rfl := Option.some.inj H
      go_wp2
      go_ret
      exact ⟨_, er_, ra_ HO_7.out, bl0_⟩
  ·rw [if_neg c5] at H
   exact absurd H (by simp)
 ·rw [if_neg c4] at H
  exact absurd H (by simp)

/-! ### impl_normalTriangles: function 79 -/
def impl_normalTriangles.f (k : Nat) (l0 : List (S46)) : Option ((List (S46))) := (impl_corner.f k l0).bind fun bt163 => ((impl_modOf.f bt163.1 3).bind fun t166 => ((impl_modOf.f bt163.2 3).bind fun t167 => ((impl_moved.f k l0 (wrap64 (t166 - bt163.1)) (wrap64 (t167 - bt163.2))).bind fun t168 => (some t168))))
theorem impl_normalTriangles.mono : ∀ a0 k, LeO (impl_normalTriangles.f k a0) (impl_normalTriangles.f (k + 1) a0) := by
 intro a0 k
 unfold impl_normalTriangles.f
 with_reducible (repeat' first | exact impl_corner.mono _ _ | exact impl_moved.mono _ _ _ _ | exact LeO.refl _ | exact LeO.none _ | refine LeO.ite ?_ ?_ | refine LeO.bind ?_ (fun _ => ?_))
def impl_normalTriangles.T2 : Bool × List (List Nat × List Nat) := (true, [([], []), ([], []), ([1], [1]), ([2], [2]), ([], []), ([4], [4]), ([3, 5], [3, 5]), ([], []), ([7], [7]), ([8, 3], [8]), ([], []), ([10], [10]), ([9, 11], [9, 11]), ([0, 6, 12, 9], [0, 6, 12]), ([13, 13, 0, 1, 2, 3, 4, 5, 6, 7, 8, 9, 10, 11, 12, 13], [13])])
def impl_normalTriangles.B2 : List Nat := [0, 0, 2, 6, 0, 16, 62, 0, 128, 398, 0, 1024, 3982, 8191, 16383]
theorem impl_normalTriangles.tab2 : rtab .any (opsOf Tryz.f79 2) = impl_normalTriangles.T2 := by kernel_rfl
theorem impl_normalTriangles.bits2 : waitsOk impl_normalTriangles.T2.2 impl_normalTriangles.B2 = true := by kernel_rfl
set_option maxHeartbeats 8000000 in
set_option maxRecDepth 100000 in
theorem impl_normalTriangles.calls (k : Nat) (A0 : Option Addr) (c0 : Nat) (l0 : List (S46)) (r : List (S46)) (w : World) (hr0 : Kd.C k46 w A0 l0.length l0) (hc0 : l0.length ≤ c0) (h : impl_normalTriangles.f k l0 = some r) :
  Calls Tryz.prog 79 #[.slice A0 l0.length c0] w fun e w' => ∃ v0_ : Value, e = .returned (v0_) ∧ Kd.R k46 46 w' w.heap.size (fun _ => True) v0_ r ∧ Below w.heap.size w w' := by
 have hu46 := Tryz.underlying46
 have HR0 := Aside0.mk hr0
 have HC0 := Aside0.mk hc0
 clear hr0 hc0
 have HB := a0_ (Below.refl w.heap.size w)
 have H := h
 clear h
 unfold impl_normalTriangles.f at H
 obtain ⟨⟨t163, t164⟩, A2, H⟩ := bs_ H
 dsimp only at H
 obtain ⟨t166, A3, H⟩ := bs_ H
 obtain ⟨t167, A4, H⟩ := bs_ H
 obtain ⟨t168, A5, H⟩ := bs_ H
 obtain rfl := Option.some.inj H
 go_enter Tryz.func79, Tryz.ntmps79
 try go_wp2_with (first | ((with_reducible refine gate_callee (f := 99) rfl ?_); refine goesL_ (some 5) rfl rfl Tryz.func99 kr_ rfl #[.slice A0 l0.length c0] rfl ta_ ?_; (with_reducible refine (impl_corner.calls k _ _ l0 t163 t164 _ ?side1 ?side2 A2.out).mono ?_); (case side1 => exact ca_ HR0.out); (case side2 => exact HC0.out); rintro e w6 ⟨rfl, hb⟩; refine ⟨_, rfl, ?_⟩; replace HB := a0_ (below_step (bl0_) hb); (try clear hb); (try clear hb2); (try clear hk); (try clear hi)) | ((with_reducible refine gate_dst (N := 3) rfl ?_); refine bx_ (N := 3) (cs := #[.int .i64 0, .int .i64 0]) (t := 46) ?_; intro gb165 hg w7 hbox hb; have BK165 := a0_ (hbox); have GW165 := a0_ ((sz_ hg (bl0_) : w.heap.size ≤ gb165)); have GE165 := a0_ ((sz_ hg (bl0_) : w.heap.size ≤ gb165)); replace HB := a0_ (below_step (bl0_) hb); clear hb hbox hg; obtain ⟨hcz8_0, hcz8_1, hfz8_0, hfz8_1⟩ := bc2_ BK165.out))
 have n0_ : Aside0 (((w7.setCell ⟨gb165, 0, none⟩ (.int .i64 t163)).setCell ⟨gb165, 1, none⟩ (.int .i64 t164)).heap[gb165]? = some (.cells #[.int .i64 t163, .int .i64 t164] 46 (0, 0))) := ⟨by (with_reducible repeat (first | refine blk_drewN ?_ _ | refine blk_drew ?_ | refine blk_alloc ?_ _)); refine blk_put (cs := #[.int .i64 t163, .int .i64 0]) ?_ 1 _ rfl; (with_reducible repeat (first | refine blk_drewN ?_ _ | refine blk_drew ?_ | refine blk_alloc ?_ _)); refine blk_put (cs := #[.int .i64 0, .int .i64 0]) ?_ 0 _ rfl; (with_reducible repeat (first | refine blk_drewN ?_ _ | refine blk_drew ?_ | refine blk_alloc ?_ _)); exact BK165.out⟩
 have n1_ : Aside0 (Below w.heap.size w ((w7.setCell ⟨gb165, 0, none⟩ (.int .i64 t163)).setCell ⟨gb165, 1, none⟩ (.int .i64 t164))) := ⟨bl1_ GE165.out⟩
 (try clear BK165)
 (try clear HB)
 generalize ((w7.setCell ⟨gb165, 0, none⟩ (.int .i64 t163)).setCell ⟨gb165, 1, none⟩ (.int .i64 t164)) = w9 at n0_ n1_ ⊢
 have BK165 := n0_
 have HB := n1_
 clear n0_ n1_
 replace BK165 := a0_ (blk_drew BK165.out)
 replace HB := a0_ (below_drew1 HB.out)
 refine start_ (n := 15) (S := fun w' => w'.cell? ⟨gb165, 0, none⟩ = some (.int .i64 t163) ∧ w'.cell? ⟨gb165, 1, none⟩ = some (.int .i64 t164)) (ds := []) (mk_ 0 15) kr_ rfl rfl ⟨(blk_cell BK165.out 0).trans rfl, (blk_cell BK165.out 1).trans rfl⟩ (fun hHeld => ?_); refine with_tabW impl_normalTriangles.tab2 impl_normalTriangles.bits2 (fun HT_ HW_ => ?_)
 generalize w9.drew = w10 at BK165 HB hHeld ⊢
 refine pu_ 0 (some 6) (mk_ 1 14) HT_ ?_
 refine pu_ 1 (some 7) (mk_ 2 13) HT_ ?_
 refine pu_ 4 (some 10) #[true, true, false, false, true, false, false, false, false, false, false, false, false, false, false] HT_ ?_
 refine pu_ 7 (some 13) #[true, true, false, false, true, false, false, true, false, false, false, false, false, false, false] HT_ ?_
 refine pu_ 10 (some 16) #[true, true, false, false, true, false, false, true, false, false, true, false, false, false, false] HT_ ?_
 refine tk_ 2 (some 8) #[true, true, true, false, true, false, false, true, false, false, true, false, false, false, false] HT_ HW_ hHeld (hy := .inl ⟨by rfl, by rintro w' ⟨s0, s1⟩; go_simp; with_reducible rfl⟩) ?_
 refine tk_ 5 (some 11) #[true, true, true, false, true, true, false, true, false, false, true, false, false, false, false] HT_ HW_ hHeld (hy := .inl ⟨by rfl, by rintro w' ⟨s0, s1⟩; go_simp; with_reducible rfl⟩) ?_
 refine tk_ 8 (some 14) #[true, true, true, false, true, true, false, true, true, false, true, false, false, false, false] HT_ HW_ hHeld (hy := .inl ⟨by rfl, by rintro w' ⟨s0, s1⟩; go_simp; with_reducible rfl⟩) ?_
 refine tk_ 11 (some 17) #[true, true, true, false, true, true, false, true, true, false, true, true, false, false, false] HT_ HW_ hHeld (hy := .inl ⟨by rfl, by rintro w' ⟨s0, s1⟩; go_simp; with_reducible rfl⟩) ?_
 refine one_ (i := 3) (N := some 9) #[true, true, true, true, true, true, false, true, true, false, true, true, false, false, false] rfl rfl (one_of HT_.out kr_) (by decide) (fun K hK => ?_)
 refine goes_ Tryz.func93 kr_ rfl #[.int .i64 t163, .int .i64 3] (by rfl) rfl rfl ta_ ?_
 with_reducible refine (impl_modOf.calls t163 3 t166 _ A3.out).mono ?_
 rintro e w' ⟨rfl, ⟨nd, rfl⟩⟩
 refine ⟨_, rfl, ?_⟩
 refine hK.out _ _ ⟨(blk_cell BK165.out 0).trans rfl, (blk_cell BK165.out 1).trans rfl⟩ (fun hHeld => ?_)
 clear hK K
 refine nm_ ?_
 refine pu_ 6 (some 12) #[true, true, true, true, true, true, true, true, true, false, true, true, false, false, false] HT_ ?_
 refine one_ (i := 9) (N := some 15) (mk_ 12 3) rfl rfl (one_of HT_.out kr_) (by decide) (fun K hK => ?_)
 refine goes_ Tryz.func93 kr_ rfl #[.int .i64 t164, .int .i64 3] (by rfl) rfl rfl ta_ ?_
 with_reducible refine (impl_modOf.calls t164 3 t167 _ A4.out).mono ?_
 rintro e w' ⟨rfl, ⟨nd, rfl⟩⟩
 refine ⟨_, rfl, ?_⟩
 refine hK.out _ _ ⟨(blk_cell BK165.out 0).trans rfl, (blk_cell BK165.out 1).trans rfl⟩ (fun hHeld => ?_)
 clear hK K
 refine nm_ ?_
 refine pu_ 12 (some 18) (mk_ 13 2) HT_ ?_
 refine one_ (i := 13) (N := some 19) (mk_ 14 1) rfl rfl (one_of HT_.out kr_) (by decide) (fun K hK => ?_)
 refine goes_ Tryz.func100 kr_ rfl #[.slice A0 l0.length c0, .int .i64 (wrap64 (t166 - t163)), .int .i64 (wrap64 (t167 - t164))] (by rfl) rfl rfl ta_ ?_
 with_reducible refine (impl_moved.calls k _ _ l0 (wrap64 (t166 - t163)) (wrap64 (t167 - t164)) t168 _ ?side1 ?side2 A5.out).mono ?_
 (case side1 => repeat (first | exact (Kd.C_below HR0.out (bl1_ GE165.out)) | (with_reducible refine Kd.C_alloc ?_ _) | (with_reducible refine Kd.C_drewN ?_ _) | (with_reducible refine Kd.C_drew ?_)))
 (case side2 => exact HC0.out)
 rintro e w11 ⟨v169, rfl, ho0, hb⟩
 refine ⟨_, rfl, ?_⟩
 have HO170 := a0_ (Kd.R_lower (Kd.R_newB ho0 (g := gb165) (o := .cells #[.int .i64 t163, .int .i64 t164] 46 (0, 0)) (bk_ BK165.out)) (below_size (bl1_ GE165.out)))
 replace BK165 := a0_ (bb_ BK165.out hb)
 replace HB := a0_ (below_step (bl1_ GE165.out) hb)
 (try clear hb)
 (try clear hb2)
 (try clear hk)
 (try clear hi)
 (try clear ho0)
 refine hK.out _ _ ⟨(blk_cell BK165.out 0).trans rfl, (blk_cell BK165.out 1).trans rfl⟩ (fun hHeld => ?_)
 clear hK K
 refine nm_ ?_
 refine pu_ 14 (some 2) (mk_ 15 0) HT_ ?_
 refine done_ (done_of HT_.out kr_) ?_
 try go_wp2
 go_ret
 exact ⟨_, er_, by (with_reducible repeat (first | apply Kd.R_alloc | apply Kd.R_drewN | apply Kd.R_drew)); exact Kd.R_mono HO170.out (fun _ hk => trivial), bl1_ GE165.out⟩

/-! ### impl_allTriangles: function 41 -/
/-! Cells moved into the corner: what normal gives. -/
def crnI (l : List S46) : Int × Int := l.foldl (fun a c => (mn a.1 c.f0, mn a.2 c.f1)) ((rd_T46 l 0).f0, (rd_T46 l 0).f1)
def movI (a b : Int) (l : List S46) : List S46 := l.map fun c => ⟨wrap64 (c.f0 + a), wrap64 (c.f1 + b)⟩
def mod3 (x : Int) : Int := Int.tmod (wrap64 ((Int.tmod x 3) + 3)) 3
def normT (l : List S46) : List S46 := movI (wrap64 (mod3 (crnI l).1 - (crnI l).1)) (wrap64 (mod3 (crnI l).2 - (crnI l).2)) l
theorem corner_loop (l : List S46) (hl : l.length ≤ 4611686018427387904) (d : Nat) : ∀ (i : Nat) (a b : Int), i + d = l.length → impl_corner.l0 (d + 1) l (l.length : Int) i a b = some ((l.drop i).foldl (fun a c => (mn a.1 c.f0, mn a.2 c.f1)) (a, b)) := by
 induction d with
 | zero =>
  intro i a b hi
  rw [impl_corner.l0, if_neg (by omega), List.drop_of_length_le (by omega)]
  rfl
 | succ d ih =>
  intro i a b hi
  have e0 : rd_T46 l (i : Int) = l[i] := by show l.getD i _ = _; rw [List.getD_eq_getElem?_getD, List.getElem?_eq_getElem (by omega), Option.getD_some]
  rw [impl_corner.l0, if_pos (by omega), if_pos (by omega), if_pos (by omega), List.drop_eq_getElem_cons (by omega : i < l.length), List.foldl_cons, e0, show wrap64 ((i : Int) + 1) = ((i + 1 : Nat) : Int) by unfold wrap64; omega]
  exact ih (i + 1) _ _ (by omega)
theorem moved_loop (l : List S46) (hl : l.length ≤ 1000000) (x y : Int) (d : Nat) : ∀ (i : Nat) (o : List S46), i + d = l.length → o.length = i → impl_moved.l0 (d + 1) x y o l (l.length : Int) i = some (o ++ movI x y (l.drop i)) := by
 induction d with
 | zero =>
  intro i o hi ho
  rw [impl_moved.l0, if_neg (by omega), List.drop_of_length_le (by omega)]
  simp [movI]
 | succ d ih =>
  intro i o hi ho
  have e0 : rd_T46 l (i : Int) = l[i] := by show l.getD i _ = _; rw [List.getD_eq_getElem?_getD, List.getElem?_eq_getElem (by omega), Option.getD_some]
  rw [impl_moved.l0, if_pos (by omega), if_pos (by omega), if_pos (by omega), if_pos (by omega), List.drop_eq_getElem_cons (by omega : i < l.length), e0, show wrap64 ((i : Int) + 1) = ((i + 1 : Nat) : Int) by unfold wrap64; omega, ih (i + 1) _ (by omega) (by simp; omega), List.append_assoc]
  rfl
theorem mod3_some (x : Int) : impl_modOf.f x 3 = some (mod3 x) := by
 unfold impl_modOf.f mod3
 rw [if_neg (by decide)]
theorem normT_some (l : List S46) (h1 : 1 ≤ l.length) (hl : l.length ≤ 1000000) : ∃ k, impl_normalTriangles.f k l = some (normT l) := by
 refine ⟨l.length + 1, ?_⟩
 unfold impl_normalTriangles.f impl_corner.f impl_moved.f
 rw [if_pos (by omega), show (0 : Int) = ((0 : Nat) : Int) from rfl, corner_loop l (by omega) l.length 0 _ _ (by omega), Option.bind_some, mod3_some, Option.bind_some, mod3_some, Option.bind_some, if_pos (by omega), if_pos (by omega), moved_loop l hl _ _ l.length 0 [] (by omega) rfl]
 rfl
theorem normT_len (l : List S46) : (normT l).length = l.length := by simp [normT, movI]
def nearT (c : S46) : List S46 := (impl_trianglesAround.f c.f0 c.f1).getD []
theorem nearT_some (c : S46) : impl_trianglesAround.f c.f0 c.f1 = some (nearT c) ∧ (nearT c).length = 3 := by
 have h : ∃ L, impl_trianglesAround.f c.f0 c.f1 = some L ∧ L.length = 3 := by
  unfold impl_trianglesAround.f impl_sorted.f
  rw [mod3_some, Option.bind_some]
  by_cases e : mod3 c.f0 = 2
  ·rw [if_pos e, if_pos (by simp)]
   exact ⟨_, rfl, by rw [show ∀ l : List S46, (sortC l).length = l.length from fun l => List.length_mergeSort l]; rfl⟩
  ·rw [if_neg e, if_pos (by simp)]
   exact ⟨_, rfl, by rw [show ∀ l : List S46, (sortC l).length = l.length from fun l => List.length_mergeSort l]; rfl⟩
 obtain ⟨L, h1, h2⟩ := h
 unfold nearT
 rw [h1]
 exact ⟨rfl, h2⟩
theorem nearT_ok : NearOk 49 nearT where
 eg := enters_of Tryz.func49 kr_ rfl
 calls := fun c W => impl_trianglesAround.calls c.f0 c.f1 (nearT c) W (nearT_some c).1
 len := fun c => by rw [(nearT_some c).2]; omega
theorem normT_ok : TidyOk 79 normT where
 eg := enters_of Tryz.func79 kr_ rfl
 calls := fun s A c W hC hc h1 hs => by
  obtain ⟨k, hk⟩ := normT_some s h1 (by omega)
  exact impl_normalTriangles.calls k A c s _ W hC hc hk
 len := normT_len
def firstT : List (List S46) := [[⟨1, 1⟩], [⟨2, 2⟩]]
def triL (m : Nat) : List (List S46) := allGrownL nearT normT firstT (m - 1)
def impl_allTriangles.f (n : Int) : Option (List (List S46)) := if (1 ≤ n ∧ n ≤ 100) ∧ GrownOk nearT normT firstT n.toNat then some (triL n.toNat) else none
set_option maxHeartbeats 1000000 in
theorem allTriangles_S (n : Int) (r : List (List S46)) (w : World) (h : impl_allTriangles.f n = some r) :
  Calls Tryz.prog 41 #[.int .i64 n] w fun e w' => ∃ v, e = .returned v ∧ Kd.S (Kd.slice 46 k46) 35 w' w.heap.size (fun _ => True) v r ∧ Below w.heap.size w w' := by
 unfold impl_allTriangles.f at h
 split at h
 case isFalse => cases h
 rename_i hc
 obtain ⟨⟨h1, h2⟩, hg⟩ := hc
 obtain rfl := Option.some.inj h
 obtain ⟨m, rfl⟩ := Int.eq_ofNat_of_zero_le (by omega : 0 ≤ n)
 rw [Int.toNat_natCast] at hg ⊢
 have hcall := fun (v1 : Value) (W : World) (hB : Below w.heap.size w W) (hF : Kd.S (Kd.slice 46 k46) 35 W w.heap.size (fun _ => True) v1 firstT) => allGrown_calls 49 79 nearT nearT_ok normT normT_ok m v1 firstT w W w.heap.size hB (Nat.le_refl _) hF (by omega) (by omega) hg
 clear h h1 h2 hg
 go_enter Tryz.func41, Tryz.ntmps41
 go_wp2_with (first
  | ((with_reducible refine gate_dst (N := 5) rfl ?_); (refine Kd.R_lit k46 (w0 := w) w.heap.size 46 ?hg (N := 5) ?hd (xs := ([⟨1, 1⟩] : List S46)) (inner := [.int .i64 1, .int .i64 1]) (ok := fun k_ => k_ = w.heap.size) (okp := fun _ => False) ?hr ?hp (fun _ hk => hk.elim) rfl (Below.refl _ _) (Nat.le_refl _) (by simp) ?_; (case hd => rfl); (case hg => rfl); (case hr => first | (go_simp; done) | (go_simp; rfl)); (case hp => exact (Reps.imp_ (reps_flC [⟨1, 1⟩]) (fun p c hc => by rw [hc]; exact k46_mkM _ _ _ p))); intro v5 w3 ho hb _ hnw; have HZ : Aside0 (w.heap.size < w3.heap.size) := ⟨by obtain ⟨b_, hb_, hl_⟩ := hnw; have := Kd.R_lt ho b_ hb_; omega⟩; obtain ⟨A5, c5, rfl⟩ := Kd.R_slice ho; have HO5 := Aside0.mk ho; have HB := Aside0.mk hb; clear ho hb hnw))
  | ((with_reducible refine gate_dst (N := 7) rfl ?_); (refine Kd.R_lit k46 (w0 := w) w.heap.size 46 ?hg (N := 7) ?hd (xs := ([⟨2, 2⟩] : List S46)) (inner := [.int .i64 2, .int .i64 2]) (ok := fun k_ => k_ = w3.heap.size) (okp := fun _ => False) ?hr ?hp (fun _ hk => hk.elim) rfl HB.out HB.out.size (by simp) ?_; (case hd => rfl); (case hg => rfl); (case hr => first | (go_simp; done) | (go_simp; rfl)); (case hp => exact (Reps.imp_ (reps_flC [⟨2, 2⟩]) (fun p c hc => by rw [hc]; exact k46_mkM _ _ _ p))); intro v7 w4 ho hb hgr _; obtain ⟨A7, c7, rfl⟩ := Kd.R_slice ho; have HO7 := Aside0.mk ho; have HO5b := a0_ (Kd.R_step HO5.out (fun k_ _ hk_ => hgr.block k_ hk_ (by simp))); have HB7 := Aside0.mk hb; clear ho hb hgr))
  | ((with_reducible refine gate_dst (N := 8) rfl ?_); (refine Kd.R_lit (Kd.tag (fun k_ => if k_ = w.heap.size then 0 else 1) (Kd.slice 46 k46)) (w0 := w) w.heap.size 35 ?hg (N := 8) ?hd (xs := ([([⟨1, 1⟩], 0), ([⟨2, 2⟩], 1)] : List (List S46 × Nat))) (inner := [.slice A5 1 c5, .slice A7 1 c7]) (ok := fun _ => True) (okp := fun _ => True) ?hr ?hp (fun _ hk => hk) trivial HB7.out HB7.out.size (by simp) ?_; (case hd => rfl); (case hg => rfl); (case hr => first | (go_simp; done) | (go_simp; rfl)); (case hp => exact (Reps.one (Kd.M_row (Kd.R_mono HO5b.out (fun k_ hk_ => ⟨trivial, if_pos hk_⟩))) (Reps.one (Kd.M_row (Kd.R_mono HO7.out (fun k_ hk_ => ⟨trivial, if_neg (by have := HZ.out; omega)⟩))) (Reps.none _ _)))); intro v8 w5 ho hb _ _; have HO8 := Aside0.mk ho; have HB8 := Aside0.mk hb; clear ho hb))
  | (go_at_call 78; (refine (hcall _ _ HB8.out ⟨_, HO8.out⟩).mono ?_; rintro e w6 ⟨v9, rfl, hr, hb⟩; have HR9 := Aside0.mk hr; have HB9 := Aside0.mk hb; clear hr hb hcall)))
 go_ret
 exact ⟨_, rfl, HR9.out, HB9.out⟩


end Go.Proofs.YtmdjkmfocgelnaaGreat.PFnTriangleShapes
