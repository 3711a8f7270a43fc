/- Over the kit's printer by a driver of mine (hprint.py), with parts by hand: functions of the program as Lean functions, and that each call comes to exactly these answers. -/
import Derived.Test.YtopceddgiddhlaaDoorPFnMirroredx0
import Derived.Test.YtopceddgiddhlaaDoorPFnMirroredx7
namespace Go.Proofs.YtopceddgiddhlaaDoor.PFnMirrored
open Go.RowKit Go.Proofs.YtopceddgiddhlaaDoorW.PrintWords Go.Proofs.YtopceddgiddhlaaDoorW.PrintLast Go.Proofs.YtopceddgiddhlaaDoorW.PrintMore
attribute [local go_sem] max2_int min2_int max_two min_two max_three min_three max_four min_four   -- for this text's walks alone
set_option linter.unusedVariables false
set_option linter.unusedSimpArgs false

/-! ### impl_corner: function 97 -/
def impl_corner.l0 : Nat → List (S78) → Int → Int → Int → Int → Option (Int × Int)
 | 0, _, _, _, _, _ => none
 | k + 1, x9, x10, x11, x274000, x274001 => if x11 < x10 then (if 0 ≤ x11 then (if x11 < (x9.length : Int) then (impl_corner.l0 k x9 x10 (wrap64 (x11 + 1)) (mn x274000 ((rd_T78 x9 x11).f0)) (mn x274001 ((rd_T78 x9 x11).f1))) else (none)) else (none)) else (some (x274000, x274001))
def impl_corner.f (k : Nat) (l0 : List (S78)) : Option (Int × Int) := if 0 < (l0.length : Int) then (impl_corner.l0 k l0 (l0.length : Int) 0 ((rd_T78 l0 0).f0) ((rd_T78 l0 0).f1)) else (none)
theorem impl_corner.mono_l : ∀ k, (∀ y0 y1 y2 y3 y4, LeO (impl_corner.l0 k y0 y1 y2 y3 y4) (impl_corner.l0 (k + 1) y0 y1 y2 y3 y4))
 | 0 => fun _ _ _ _ _ r h => by simp [impl_corner.l0] at h
 | k + 1 => by
  have ih0 := impl_corner.mono_l k
  ·intro y0 y1 y2 y3 y4
   unfold impl_corner.l0
   repeat' first
   | (with_reducible exact ih0 _ _ _ _ _)
   | (with_reducible exact LeO.refl _)
   | (with_reducible exact LeO.none _)
   | (with_reducible refine LeO.ite ?_ ?_)
   | (with_reducible refine LeO.bind ?_ (fun _ => ?_))
   | exact ih0 _ _ _ _ _
   | exact LeO.none _
   | refine LeO.ite ?_ ?_
   | refine LeO.bind ?_ (fun _ => ?_)
theorem impl_corner.mono : ∀ a0 k, LeO (impl_corner.f k a0) (impl_corner.f (k + 1) a0) := by
 intro a0 k
 have ih0 := impl_corner.mono_l k
 unfold impl_corner.f
 repeat' first
   | (with_reducible exact ih0 _ _ _ _ _)
   | (with_reducible exact LeO.refl _)
   | (with_reducible exact LeO.none _)
   | (with_reducible refine LeO.ite ?_ ?_)
   | (with_reducible refine LeO.bind ?_ (fun _ => ?_))
   | exact ih0 _ _ _ _ _
   | exact LeO.none _
   | refine LeO.ite ?_ ?_
   | refine LeO.bind ?_ (fun _ => ?_)
set_option maxHeartbeats 8000000 in
set_option maxRecDepth 100000 in
theorem impl_corner.calls (k : Nat) (A0 : Option Addr) (c0 : Nat) (l0 : List (S78)) (r1 : Int) (r2 : Int) (w : World) (hr0 : Kd.C k78 w A0 l0.length l0) (hc0 : l0.length ≤ c0) (h : impl_corner.f k l0 = some (r1, r2)) :
  Calls Tryd.prog 97 #[.slice A0 l0.length c0] w fun e w' => e = .returned (.agg #[.int .i64 r1, .int .i64 r2]) ∧ Below w.heap.size w w' := by
 have hu78 := Tryd.underlying78
 have HR0 := Aside0.mk hr0
 have HC0 := Aside0.mk hc0
 clear hr0 hc0
 have HB := Aside0.mk (Below.refl w.heap.size w)
 have H : (if 0 < (l0.length : Int) then (impl_corner.l0 k l0 (l0.length : Int) 0 ((rd_T78 l0 0).f0) ((rd_T78 l0 0).f1)) else (none)) = some (r1, r2) := h
 clear h
 by_cases c2 : 0 < (l0.length : Int)
 ·rw [if_pos c2] at H
  have c2b0 : decide (0 < (l0.length : Int)) = true := decide_eq_true c2
  have c2b1 : decide (0 < l0.length) = true := decide_eq_true (by omega)
  clear c2
  have H' := Aside0.mk H
  clear H
  go_enter Tryd.func97, Tryd.ntmps97
  go_wp2_with (first | ((with_reducible refine gate_dst (N := 2) rfl ?_); refine box_event ?hg (N := 2) ?hd (cs := #[.int .i64 0, .int .i64 0]) (t := 78) ?hr ?_; (case hd => rfl); (case hg => rfl); (case hr => first | (go_simp; done) | (go_simp; rfl)); intro gb271 hg w3 hbox hb; have n0_ := Aside0.mk (below_step (bl0_) hb); have n1_ := Aside0.mk (hbox); have n2_ := Aside0.mk ((sz_ hg (bl0_) : w.heap.size ≤ gb271)); have n3_ := Aside0.mk ((sz_ hg (bl0_) : w.heap.size ≤ gb271)); clear HB; have HB := n0_; have BK271 := n1_; have GW271 := n2_; have GE271 := n3_; clear n0_ n1_ n2_ n3_; clear hb hbox hg; have p272 : 0 ≤ (0 : Int) := (by omega); have q272 : 0 < (l0.length : Int) := od_; obtain ⟨ad272, e272, hx272_0, hx272_1⟩ := at_T78 HR0.out 0 p272 q272; cases e272; have qi272 : (0 < l0.length) = True := eq_true (by omega); (try rw [show ((0 : Int)).toNat = 0 from rfl] at hx272_0); (try rw [show 0 * 2 = 0 from rfl] at hx272_0); (try rw [Addr.add_zero'] at hx272_0); (try rw [show ((0 : Int)).toNat = 0 from rfl] at hx272_1); (try rw [show 0 * 2 = 0 from rfl] at hx272_1); (try rw [Addr.add_zero'] at hx272_1); replace hx272_0 := (HB.out.cell (World.block_lt_of_cell? w _ hx272_0)).trans hx272_0; replace hx272_1 := (HB.out.cell (World.block_lt_of_cell? w _ hx272_1)).trans hx272_1; replace p272 := eq_true p272; replace q272 := eq_true q272) | ((with_reducible refine gate_dst (N := 3) rfl ?_); refine box_event ?hg (N := 3) ?hd (cs := #[.int .i64 0, .int .i64 0]) (t := 78) ?hr ?_; (case hd => rfl); (case hg => rfl); (case hr => first | (go_simp; done) | (go_simp; rfl)); intro gb273 hg w4 hbox hb; have n0_ := Aside0.mk (blk_below (g := gb271) (o := .cells #[.int .i64 0, .int .i64 0] 78 (0, 0)) (bk_ BK271.out) hb); have n1_ := Aside0.mk (below_step (bl1_ GE271.out) hb); have n2_ := Aside0.mk (hbox); have n3_ := Aside0.mk ((sz_ hg (bl1_ GE271.out) : w.heap.size ≤ gb273)); have n4_ := Aside0.mk ((sz_ hg (bl1_ GE271.out) : w.heap.size ≤ gb273)); have n5_ := Aside0.mk ((by rw [hg]; exact Nat.ne_of_lt (blk_lt (g := gb271) (o := .cells #[.int .i64 0, .int .i64 0] 78 (0, 0)) (bk_ BK271.out)) : gb271 ≠ gb273)); have n6_ := Aside0.mk ((by rw [hg]; exact Nat.ne_of_gt (blk_lt (g := gb271) (o := .cells #[.int .i64 0, .int .i64 0] 78 (0, 0)) (bk_ BK271.out)) : gb273 ≠ gb271)); clear BK271; clear HB; have BK271 := n0_; have HB := n1_; have BK273 := n2_; have GW273 := n3_; have GE273 := n4_; have NB271_273 := n5_; have NB273_271 := n6_; clear n0_ n1_ n2_ n3_ n4_ n5_ n6_; clear hb hbox hg; have hnb5 := NB273_271.out; have hnc5 := NB271_273.out; have hcz6_0 : w4.cell? ⟨gb273, 0, none⟩ = some (.int .i64 0) := (blk_cell BK273.out 0).trans rfl; have hcz6_1 : w4.cell? ⟨gb273, 1, none⟩ = some (.int .i64 0) := (blk_cell BK273.out 1).trans rfl; have hfz6_0 := blk_frozen BK273.out 0; have hfz6_1 := blk_frozen BK273.out 1))
  go_loopg [11] k (fun kq v11 w' => ∃ (x11_1 : Int) (x274000_1 : Int) (x274001_1 : Int), v11 = .int .i64 x11_1 ∧ Aside0 (impl_corner.l0 kq l0 (l0.length : Int) x11_1 x274000_1 x274001_1 = some (r1, r2)) ∧ Aside0 (kq ≤ k) ∧ Aside0 (w'.heap[gb271]? = some (.cells #[.int .i64 0, .int .i64 0] 78 (0, 0))) ∧ Aside0 (w'.heap[gb273]? = some (.cells #[.int .i64 x274000_1, .int .i64 x274001_1] 78 (0, 0))) ∧ Aside0 (Below w.heap.size w w'))
  case atStart => exact ⟨(0), ((rd_T78 l0 0).f0), ((rd_T78 l0 0).f1), rs_, H', ⟨Nat.le_refl _⟩, ⟨by (with_reducible repeat (first | refine blk_drewN ?_ _ | refine blk_drew ?_ | refine blk_alloc ?_ _)); refine blk_far ?_ NB271_273.out _; (with_reducible repeat (first | refine blk_drewN ?_ _ | refine blk_drew ?_ | refine blk_alloc ?_ _)); refine blk_far ?_ NB271_273.out _; (with_reducible repeat (first | refine blk_drewN ?_ _ | refine blk_drew ?_ | refine blk_alloc ?_ _)); exact BK271.out⟩, ⟨by (with_reducible repeat (first | refine blk_drewN ?_ _ | refine blk_drew ?_ | refine blk_alloc ?_ _)); refine blk_put (cs := #[.int .i64 ((rd_T78 l0 0).f0), .int .i64 0]) ?_ 1 _ rfl; (with_reducible repeat (first | refine blk_drewN ?_ _ | refine blk_drew ?_ | refine blk_alloc ?_ _)); refine blk_put (cs := #[.int .i64 0, .int .i64 0]) ?_ 0 _ rfl; (with_reducible repeat (first | refine blk_drewN ?_ _ | refine blk_drew ?_ | refine blk_alloc ?_ _)); exact BK273.out⟩, ⟨bl2_ GE271.out GE273.out⟩⟩
  case round =>
   clear H'
   try clear c2
   try clear c2b0
   try clear c2b1
   try clear p2
   try clear q2
   try clear hx2
   try clear qi2
   try clear c5
   try clear hcz6_0
   try clear hcz6_1
   try clear hfz6_0
   try clear hfz6_1
   try clear hx272_0
   try clear hx272_1
   try clear p272
   try clear q272
   obtain ⟨x11_1, x274000_1, x274001_1, rfl, HA, HK1, BK271, BK273, HB⟩ := hrel
   cases gk with
   | zero => exact absurd HA.out (by simp [impl_corner.l0])
   | succ k1 =>
    have H := HA.out
    clear HA
    simp only [impl_corner.l0] at H
    by_cases c7 : x11_1 < (l0.length : Int)
    ·rw [if_pos c7] at H
     have c7b0 : decide (x11_1 < (l0.length : Int)) = true := decide_eq_true c7
     clear c7
     by_cases c8 : 0 ≤ x11_1
     ·rw [if_pos c8] at H
      have c8b0 : decide (0 ≤ x11_1) = true := decide_eq_true c8
      clear c8
      by_cases c9 : x11_1 < (l0.length : Int)
      ·rw [if_pos c9] at H
       have c9b0 : decide (x11_1 < (l0.length : Int)) = true := decide_eq_true c9
       clear c9
       obtain ⟨ji10, hji10⟩ : ∃ j_ : Int, (mn x274000_1 ((rd_T78 l0 x11_1).f0)) = j_ := ⟨_, rfl⟩
       replace H : (impl_corner.l0 k1 l0 (l0.length : Int) (wrap64 (x11_1 + 1)) ji10 (mn x274001_1 ((rd_T78 l0 x11_1).f1))) = some (r1, r2) := by first | (rw [hji10] at H; exact H) | (simp only [hji10] at H ⊢; exact H)
       have hji10_ : (if ((rd_T78 l0 x11_1).f0) < x274000_1 then ((rd_T78 l0 x11_1).f0) else x274000_1) = ji10 := hji10
       obtain ⟨ji11, hji11⟩ : ∃ j_ : Int, (mn x274001_1 ((rd_T78 l0 x11_1).f1)) = j_ := ⟨_, rfl⟩
       replace H : (impl_corner.l0 k1 l0 (l0.length : Int) (wrap64 (x11_1 + 1)) ji10 ji11) = some (r1, r2) := by first | (rw [hji11] at H; exact H) | (simp only [hji11] at H ⊢; exact H)
       have hji11_ : (if ((rd_T78 l0 x11_1).f1) < x274001_1 then ((rd_T78 l0 x11_1).f1) else x274001_1) = ji11 := hji11
       have H' := Aside0.mk H
       clear H
       have p274 : 0 ≤ (x11_1 : Int) := od_
       have q274 : x11_1 < (l0.length : Int) := od_
       obtain ⟨ad274, e274, hx274_0, hx274_1⟩ := at_T78 HR0.out x11_1 p274 q274
       obtain rfl : ad272 = ad274 := (by injection e274)
       replace hx274_0 := (HB.out.cell (World.block_lt_of_cell? w _ hx274_0)).trans hx274_0
       replace hx274_1 := (HB.out.cell (World.block_lt_of_cell? w _ hx274_1)).trans hx274_1
       replace p274 := eq_true p274
       replace q274 := eq_true q274
       go_wp2_with (first | ((with_reducible refine gate_dst (N := 5) rfl ?_); refine box_event ?hg (N := 5) ?hd (cs := #[.int .i64 0, .int .i64 0]) (t := 78) ?hr ?_; (case hd => rfl); (case hg => rfl); (case hr => first | (go_simp; done) | (go_simp; rfl)); intro gb275 hg w12 hbox hb; have n0_ := Aside0.mk (blk_below (g := gb271) (o := .cells #[.int .i64 0, .int .i64 0] 78 (0, 0)) (bk_ BK271.out) hb); have n1_ := Aside0.mk (blk_below (g := gb273) (o := .cells #[.int .i64 x274000_1, .int .i64 x274001_1] 78 (0, 0)) (bk_ BK273.out) hb); have n2_ := Aside0.mk (below_step (bl2_ GE271.out GE273.out) hb); have n3_ := Aside0.mk (hbox); have n4_ := Aside0.mk ((sz_ hg (bl2_ GE271.out GE273.out) : w.heap.size ≤ gb275)); have n5_ := Aside0.mk ((sz_ hg (bl2_ GE271.out GE273.out) : w.heap.size ≤ gb275)); have n6_ := Aside0.mk ((by rw [hg]; exact Nat.ne_of_lt (blk_lt (g := gb271) (o := .cells #[.int .i64 0, .int .i64 0] 78 (0, 0)) (bk_ BK271.out)) : gb271 ≠ gb275)); have n7_ := Aside0.mk ((by rw [hg]; exact Nat.ne_of_gt (blk_lt (g := gb271) (o := .cells #[.int .i64 0, .int .i64 0] 78 (0, 0)) (bk_ BK271.out)) : gb275 ≠ gb271)); have n8_ := Aside0.mk ((by rw [hg]; exact Nat.ne_of_lt (blk_lt (g := gb273) (o := .cells #[.int .i64 x274000_1, .int .i64 x274001_1] 78 (0, 0)) (bk_ BK273.out)) : gb273 ≠ gb275)); have n9_ := Aside0.mk ((by rw [hg]; exact Nat.ne_of_gt (blk_lt (g := gb273) (o := .cells #[.int .i64 x274000_1, .int .i64 x274001_1] 78 (0, 0)) (bk_ BK273.out)) : gb275 ≠ gb273)); clear BK271; clear BK273; clear HB; have BK271 := n0_; have BK273 := n1_; have HB := n2_; have BK275 := n3_; have GW275 := n4_; have GE275 := n5_; have NB271_275 := n6_; have NB275_271 := n7_; have NB273_275 := n8_; have NB275_273 := n9_; clear n0_ n1_ n2_ n3_ n4_ n5_ n6_ n7_ n8_ n9_; clear hb hbox hg; have hnb13 := NB275_271.out; have hnc13 := NB271_275.out; have hnb14 := NB275_273.out; have hnc14 := NB273_275.out; have hcz15_0 : w12.cell? ⟨gb275, 0, none⟩ = some (.int .i64 0) := (blk_cell BK275.out 0).trans rfl; have hcz15_1 : w12.cell? ⟨gb275, 1, none⟩ = some (.int .i64 0) := (blk_cell BK275.out 1).trans rfl; have hfz15_0 := blk_frozen BK275.out 0; have hfz15_1 := blk_frozen BK275.out 1; have hnb16 := NB273_271.out; have hnc16 := NB271_273.out; have hcz17_0 : w12.cell? ⟨gb273, 0, none⟩ = some (.int .i64 x274000_1) := (blk_cell BK273.out 0).trans rfl; have hcz17_1 : w12.cell? ⟨gb273, 1, none⟩ = some (.int .i64 x274001_1) := (blk_cell BK273.out 1).trans rfl; have hfz17_0 := blk_frozen BK273.out 0; have hfz17_1 := blk_frozen BK273.out 1))
       go_roundg k1
       case measure => have := HK1.out; omega
       case rel => exact ⟨(wrap64 (x11_1 + 1)), (ji10), (ji11), rs_, H', ⟨by have := HK1.out; omega⟩, ⟨by (with_reducible repeat (first | refine blk_drewN ?_ _ | refine blk_drew ?_ | refine blk_alloc ?_ _)); refine blk_far ?_ NB271_273.out _; (with_reducible repeat (first | refine blk_drewN ?_ _ | refine blk_drew ?_ | refine blk_alloc ?_ _)); refine blk_far ?_ NB271_273.out _; (with_reducible repeat (first | refine blk_drewN ?_ _ | refine blk_drew ?_ | refine blk_alloc ?_ _)); refine blk_far ?_ NB271_275.out _; (with_reducible repeat (first | refine blk_drewN ?_ _ | refine blk_drew ?_ | refine blk_alloc ?_ _)); refine blk_far ?_ NB271_275.out _; (with_reducible repeat (first | refine blk_drewN ?_ _ | refine blk_drew ?_ | refine blk_alloc ?_ _)); exact BK271.out⟩, ⟨by (with_reducible repeat (first | refine blk_drewN ?_ _ | refine blk_drew ?_ | refine blk_alloc ?_ _)); refine blk_put (cs := #[.int .i64 ji10, .int .i64 x274001_1]) ?_ 1 _ rfl; (with_reducible repeat (first | refine blk_drewN ?_ _ | refine blk_drew ?_ | refine blk_alloc ?_ _)); refine blk_put (cs := #[.int .i64 x274000_1, .int .i64 x274001_1]) ?_ 0 _ rfl; (with_reducible repeat (first | refine blk_drewN ?_ _ | refine blk_drew ?_ | refine blk_alloc ?_ _)); refine blk_far ?_ NB273_275.out _; (with_reducible repeat (first | refine blk_drewN ?_ _ | refine blk_drew ?_ | refine blk_alloc ?_ _)); refine blk_far ?_ NB273_275.out _; (with_reducible repeat (first | refine blk_drewN ?_ _ | refine blk_drew ?_ | refine blk_alloc ?_ _)); exact BK273.out⟩, ⟨bl3_ GE271.out GE273.out GE275.out⟩⟩
      ·rw [if_neg c9] at H
       exact absurd H (by simp)
     ·rw [if_neg c8] at H
      exact absurd H (by simp)
    ·rw [if_neg c7] at H
     have c7b0 : decide (x11_1 < (l0.length : Int)) = false := decide_eq_false c7
     clear c7
     simp only [Option.some.injEq, Prod.mk.injEq] at H
     obtain ⟨rfl, rfl⟩ := H
     have hnb18 := NB273_271.out
     have hnc18 := NB271_273.out
     have hcz19_0 : wr.cell? ⟨gb273, 0, none⟩ = some (.int .i64 x274000_1) := (blk_cell BK273.out 0).trans rfl
     have hcz19_1 : wr.cell? ⟨gb273, 1, none⟩ = some (.int .i64 x274001_1) := (blk_cell BK273.out 1).trans rfl
     have hfz19_0 := blk_frozen BK273.out 0
     have hfz19_1 := blk_frozen BK273.out 1
     have hcz20_0 : wr.cell? ⟨gb271, 0, none⟩ = some (.int .i64 0) := (blk_cell BK271.out 0).trans rfl
     have hcz20_1 : wr.cell? ⟨gb271, 1, none⟩ = some (.int .i64 0) := (blk_cell BK271.out 1).trans rfl
     have hfz20_0 := blk_frozen BK271.out 0
     have hfz20_1 := blk_frozen BK271.out 1
     go_wp2
     refine bodyPost_ret (results_cell_row rfl _ _ gb271 78 #[.int .i64 x274000_1, .int .i64 x274001_1] (0, 0) _ rfl (by (with_reducible repeat (first | refine blk_drewN ?_ _ | refine blk_drew ?_ | refine blk_alloc ?_ _)); refine blk_put (cs := #[.int .i64 x274000_1, .int .i64 0]) ?_ 1 _ rfl; (with_reducible repeat (first | refine blk_drewN ?_ _ | refine blk_drew ?_ | refine blk_alloc ?_ _)); refine blk_put (cs := #[.int .i64 0, .int .i64 0]) ?_ 0 _ rfl; (with_reducible repeat (first | refine blk_drewN ?_ _ | refine blk_drew ?_ | refine blk_alloc ?_ _)); exact BK271.out) Tryd.underlying78 rfl kr_) rfl ?_
     exact ⟨er_, bl2_ GE271.out GE273.out⟩
 ·rw [if_neg c2] at H
  exact absurd H (by simp)

/-! ### impl_moved: function 98 -/
def impl_moved.l0 : Nat → Int → Int → List (S78) → List (S78) → Int → Int → Option ((List (S78)))
 | 0, _, _, _, _, _, _ => none
 | k + 1, x1, x2, x7, x13, x14, x15 => if x15 < x14 then (if 0 ≤ x15 then (if x15 < (x13.length : Int) then (if x7.length < 8796093022208 then (impl_moved.l0 k x1 x2 (x7 ++ [(⟨wrap64 (((rd_T78 x13 x15).f0) + x1), wrap64 (((rd_T78 x13 x15).f1) + x2)⟩ : S78)]) x13 x14 (wrap64 (x15 + 1))) else (none)) else (none)) else (none)) else (some x7)
def impl_moved.f (k : Nat) (l0 : List (S78)) (a1 : Int) (a2 : Int) : Option ((List (S78))) := if 0 ≤ (l0.length : Int) then (if ((l0.length : Int) : Int).toNat ≤ 17592186044416 then (impl_moved.l0 k a1 a2 (([] : List (S78))) l0 (l0.length : Int) 0) else (none)) else (none)
theorem impl_moved.mono_l : ∀ k, (∀ y0 y1 y2 y3 y4 y5, LeO (impl_moved.l0 k y0 y1 y2 y3 y4 y5) (impl_moved.l0 (k + 1) y0 y1 y2 y3 y4 y5))
 | 0 => fun _ _ _ _ _ _ r h => by simp [impl_moved.l0] at h
 | k + 1 => by
  have ih0 := impl_moved.mono_l k
  ·intro y0 y1 y2 y3 y4 y5
   unfold impl_moved.l0
   repeat' first
   | (with_reducible exact ih0 _ _ _ _ _ _)
   | (with_reducible exact LeO.refl _)
   | (with_reducible exact LeO.none _)
   | (with_reducible refine LeO.ite ?_ ?_)
   | (with_reducible refine LeO.bind ?_ (fun _ => ?_))
   | exact ih0 _ _ _ _ _ _
   | exact LeO.none _
   | refine LeO.ite ?_ ?_
   | refine LeO.bind ?_ (fun _ => ?_)
theorem impl_moved.mono : ∀ a0 a1 a2 k, LeO (impl_moved.f k a0 a1 a2) (impl_moved.f (k + 1) a0 a1 a2) := by
 intro a0 a1 a2 k
 have ih0 := impl_moved.mono_l k
 unfold impl_moved.f
 repeat' first
   | (with_reducible exact ih0 _ _ _ _ _ _)
   | (with_reducible exact LeO.refl _)
   | (with_reducible exact LeO.none _)
   | (with_reducible refine LeO.ite ?_ ?_)
   | (with_reducible refine LeO.bind ?_ (fun _ => ?_))
   | exact ih0 _ _ _ _ _ _
   | exact LeO.none _
   | refine LeO.ite ?_ ?_
   | refine LeO.bind ?_ (fun _ => ?_)
set_option maxHeartbeats 8000000 in
set_option maxRecDepth 100000 in
theorem impl_moved.calls (k : Nat) (A0 : Option Addr) (c0 : Nat) (l0 : List (S78)) (a1 : Int) (a2 : Int) (r : List (S78)) (w : World) (hr0 : Kd.C k78 w A0 l0.length l0) (hc0 : l0.length ≤ c0) (h : impl_moved.f k l0 a1 a2 = some r) :
  Calls Tryd.prog 98 #[.slice A0 l0.length c0, .int .i64 a1, .int .i64 a2] w fun e w' => ∃ v0_ : Value, e = .returned (v0_) ∧ Kd.R k78 78 w' w.heap.size (fun _ => True) v0_ r ∧ Below w.heap.size w w' := by
 have hu78 := Tryd.underlying78
 have HR0 := Aside0.mk hr0
 have HC0 := Aside0.mk hc0
 clear hr0 hc0
 have HB := Aside0.mk (Below.refl w.heap.size w)
 have H : (if 0 ≤ (l0.length : Int) then (if ((l0.length : Int) : Int).toNat ≤ 17592186044416 then (impl_moved.l0 k a1 a2 (([] : List (S78))) l0 (l0.length : Int) 0) else (none)) else (none)) = some r := h
 clear h
 by_cases c4 : 0 ≤ (l0.length : Int)
 ·rw [if_pos c4] at H
  have c4b0 := eq_true c4
  have c4b1 : decide (0 ≤ (l0.length : Int)) = true := decide_eq_true c4
  clear c4
  by_cases c5 : ((l0.length : Int) : Int).toNat ≤ 17592186044416
  ·rw [if_pos c5] at H
   have c5b0 := eq_true c5
   have c5b1 : decide (((l0.length : Int) : Int).toNat ≤ 17592186044416) = true := decide_eq_true c5
   clear c5
   obtain ⟨y276, hy276⟩ : ∃ y_ : List (S78), y_ = (([] : List (S78))) := ⟨_, rfl⟩
   replace H : (impl_moved.l0 k a1 a2 y276 l0 (l0.length : Int) 0) = some r := by first | (rw [hy276]; with_reducible exact H) | (have H2_ := (Option.bind_some _ _).symm.trans H; rw [hy276]; with_reducible exact H2_) | (have H2_ := (Option.bind_some _ _).symm.trans H; with_reducible exact H2_) | with_reducible exact H | (rw [hy276]; exact H) | exact H
   have Ny276 := Aside0.mk hy276
   clear hy276
   have H' := Aside0.mk H
   clear H
   go_enter Tryd.func98, Tryd.ntmps98
   go_wp2_with (first | ((with_reducible refine gate_dst (N := 12) rfl ?_); refine Kd.R_make0 k78 _ 78 rfl (N := 12) rfl 24 _ _ rfl (l0.length : Int) rfl rfl Tryd.underlying24 (.agg #[(.int .i64 0), (.int .i64 0)]) 16 info78 rfl (by decide) (ok := fun _ => True) trivial (od_) (Nat.le_trans (Nat.mul_le_mul_right _ (od_ : (l0.length : Int).toNat ≤ 17592186044416)) (by omega)) (Below.refl _ _) (Nat.le_refl _) ?_; intro v277 w6 ho7 hb hg_ hnew_; clear hg_ hnew_; (first | rw [← Ny276.out] at ho7 | (simp only [Int.reduceToNat] at ho7; rw [← Ny276.out] at ho7)); have n0_ := Aside0.mk (Kd.R_lower ho7 (below_size (bl0_))); have n1_ := Aside0.mk (below_step (bl0_) hb); clear HB; have HO278 := n0_; have HB := n1_; clear n0_ n1_; clear hb ho7))
   go_loopg [7, 15] k (fun kq v7 v15 w' => ∃ (x7_1 : List (S78)) (x15_1 : Int), v15 = .int .i64 x15_1 ∧ Aside0 (impl_moved.l0 kq a1 a2 x7_1 l0 (l0.length : Int) x15_1 = some r) ∧ Aside0 (kq ≤ k) ∧ Aside0 (Kd.R k78 78 w' w.heap.size (fun _ => True) v7 x7_1) ∧ Aside0 (Below w.heap.size w w'))
   case atStart => exact ⟨(y276), (0), rs_, H', ⟨Nat.le_refl _⟩, ⟨ra_ HO278.out⟩, ⟨bl0_⟩⟩
   case round =>
    clear H'
    try clear p2
    try clear c4
    try clear c4b0
    try clear c4b1
    try clear c5
    try clear c5b0
    try clear c5b1
    obtain ⟨x7_1, x15_1, rfl, HA, HK1, HO_7, HB⟩ := hrel
    cases gk with
    | zero => exact absurd HA.out (by simp [impl_moved.l0])
    | succ k1 =>
     have H := HA.out
     clear HA
     simp only [impl_moved.l0] at H
     by_cases c8 : x15_1 < (l0.length : Int)
     ·rw [if_pos c8] at H
      have c8b0 : decide (x15_1 < (l0.length : Int)) = true := decide_eq_true c8
      clear c8
      by_cases c9 : 0 ≤ x15_1
      ·rw [if_pos c9] at H
       have c9b0 : decide (0 ≤ x15_1) = true := decide_eq_true c9
       clear c9
       by_cases c10 : x15_1 < (l0.length : Int)
       ·rw [if_pos c10] at H
        have c10b0 : decide (x15_1 < (l0.length : Int)) = true := decide_eq_true c10
        clear c10
        by_cases c11 : x7_1.length < 8796093022208
        ·rw [if_pos c11] at H
         have LMc11 := Aside0.mk c11
         clear c11
         obtain ⟨y281, hy281⟩ : ∃ y_ : List (S78), y_ = (x7_1 ++ [(⟨wrap64 (((rd_T78 l0 x15_1).f0) + a1), wrap64 (((rd_T78 l0 x15_1).f1) + a2)⟩ : S78)]) := ⟨_, rfl⟩
         replace H : (impl_moved.l0 k1 a1 a2 y281 l0 (l0.length : Int) (wrap64 (x15_1 + 1))) = some r := by first | (rw [hy281]; with_reducible exact H) | (have H2_ := (Option.bind_some _ _).symm.trans H; rw [hy281]; with_reducible exact H2_) | (have H2_ := (Option.bind_some _ _).symm.trans H; with_reducible exact H2_) | with_reducible exact H | (rw [hy281]; exact H) | exact H
         have Ny281 := Aside0.mk hy281
         clear hy281
         have H' := Aside0.mk H
         clear H
         have p279 : 0 ≤ (x15_1 : Int) := od_
         have q279 : x15_1 < (l0.length : Int) := od_
         obtain ⟨ad279, e279, hx279_0, hx279_1⟩ := at_T78 HR0.out x15_1 p279 q279
         cases e279
         replace hx279_0 := (HB.out.cell (World.block_lt_of_cell? w _ hx279_0)).trans hx279_0
         replace hx279_1 := (HB.out.cell (World.block_lt_of_cell? w _ hx279_1)).trans hx279_1
         replace p279 := eq_true p279
         replace q279 := eq_true q279
         go_wp2_with (first | ((with_reducible refine gate_dst (N := 9) rfl ?_); refine box_event ?hg (N := 9) ?hd (cs := #[.int .i64 0, .int .i64 0]) (t := 78) ?hr ?_; (case hd => rfl); (case hg => rfl); (case hr => first | (go_simp; done) | (go_simp; rfl)); intro gb280 hg w12 hbox hb; have n0_ := Aside0.mk (Kd.R_below (Kd.R_elderB (ra_ HO_7.out) gb280 (Nat.le_of_eq hg.symm)) hb); have n1_ := Aside0.mk (below_step (bl0_) hb); have n2_ := Aside0.mk (hbox); have n3_ := Aside0.mk ((sz_ hg (bl0_) : w.heap.size ≤ gb280)); have n4_ := Aside0.mk ((sz_ hg (bl0_) : w.heap.size ≤ gb280)); clear HO_7; clear HB; have HO_7 := n0_; have HB := n1_; have BK280 := n2_; have GW280 := n3_; have GE280 := n4_; clear n0_ n1_ n2_ n3_ n4_; clear hb hbox hg; have hcz13_0 : w12.cell? ⟨gb280, 0, none⟩ = some (.int .i64 0) := (blk_cell BK280.out 0).trans rfl; have hcz13_1 : w12.cell? ⟨gb280, 1, none⟩ = some (.int .i64 0) := (blk_cell BK280.out 1).trans rfl; have hfz13_0 := blk_frozen BK280.out 0; have hfz13_1 := blk_frozen BK280.out 1) | ((with_reducible refine gate_builtin (b := .append) (xs := #[.tmp 19, .tmp 29]) rfl ?_); at_builtin; refine Kd.R_append k78 (w0 := w) w.heap.size rfl (.tmp 19) (.tmp 29) 24 78 (.agg #[(.int .i64 0), (.int .i64 0)]) 16 rfl Tryd.underlying24 info78 rfl (by decide) (by omega) u7 x7_1 (⟨wrap64 (((rd_T78 l0 x15_1).f0) + a1), wrap64 (((rd_T78 l0 x15_1).f1) + a2)⟩ : S78) [.int .i64 (wrap64 (((rd_T78 l0 x15_1).f0) + a1)), .int .i64 (wrap64 (((rd_T78 l0 x15_1).f1) + a2))] (fun k_ => k_ ≠ gb280) (fun _ => False) rfl (by first | (go_simp; done) | (go_simp; rfl)) ?aP (fun _ hk => hk.elim) ?aF ?aO ?aB ?aS ?aL ?_; (case aP => exact k78_mkM _ _ _ (⟨wrap64 (((rd_T78 l0 x15_1).f0) + a1), wrap64 (((rd_T78 l0 x15_1).f1) + a2)⟩ : S78)); (case aB => exact (bl1_ GE280.out)); (case aF => exact (fun k_ hk => Kd.freshB (g := gb280) (o := .cells #[.int .i64 ((rd_T78 l0 x15_1).f0), .int .i64 ((rd_T78 l0 x15_1).f1)] 78 (0, 0)) (by (with_reducible repeat (first | refine blk_drewN ?_ _ | refine blk_drew ?_ | refine blk_alloc ?_ _)); refine blk_put (cs := #[.int .i64 ((rd_T78 l0 x15_1).f0), .int .i64 0]) ?_ 1 _ rfl; (with_reducible repeat (first | refine blk_drewN ?_ _ | refine blk_drew ?_ | refine blk_alloc ?_ _)); refine blk_put (cs := #[.int .i64 0, .int .i64 0]) ?_ 0 _ rfl; (with_reducible repeat (first | refine blk_drewN ?_ _ | refine blk_drew ?_ | refine blk_alloc ?_ _)); exact BK280.out) k_ hk)); (case aO => exact (by (with_reducible repeat (first | apply Kd.R_alloc | apply Kd.R_drewN | apply Kd.R_drew)); exact Kd.R_mono (Kd.R_far (p := ⟨gb280, 1, none⟩) (Kd.R_far (p := ⟨gb280, 0, none⟩) (Kd.R_mono HO_7.out (fun k_ hk => (⟨hk, hk.2⟩ : _ ∧ k_ ≠ gb280))) (fun _ hk => hk.2) (.int .i64 ((rd_T78 l0 x15_1).f0))) (fun _ hk => hk.2) (.int .i64 ((rd_T78 l0 x15_1).f1))) (fun _ hk => hk.1.2))); (case aS => exact (below_size (bl1_ GE280.out))); (case aL => have := LMc11.out; omega); intro v282 w14 ho hb hg hat; rw [← Ny281.out] at ho; have n0_ := Aside0.mk (blk_grown (g := gb280) (o := .cells #[.int .i64 ((rd_T78 l0 x15_1).f0), .int .i64 ((rd_T78 l0 x15_1).f1)] 78 (0, 0)) (by (with_reducible repeat (first | refine blk_drewN ?_ _ | refine blk_drew ?_ | refine blk_alloc ?_ _)); refine blk_put (cs := #[.int .i64 ((rd_T78 l0 x15_1).f0), .int .i64 0]) ?_ 1 _ rfl; (with_reducible repeat (first | refine blk_drewN ?_ _ | refine blk_drew ?_ | refine blk_alloc ?_ _)); refine blk_put (cs := #[.int .i64 0, .int .i64 0]) ?_ 0 _ rfl; (with_reducible repeat (first | refine blk_drewN ?_ _ | refine blk_drew ?_ | refine blk_alloc ?_ _)); exact BK280.out) hg (Kd.R_away HO_7.out (fun _ hk => hk.2))); have n1_ := Aside0.mk (hb); have n2_ := Aside0.mk (ho); clear BK280; clear HB; clear HO_7; have BK280 := n0_; have HB := n1_; have HO283 := n2_; clear n0_ n1_ n2_; clear ho hb hg hat))
         go_roundg k1
         case measure => have := HK1.out; omega
         case rel => exact ⟨(y281), (wrap64 (x15_1 + 1)), rs_, H', ⟨by have := HK1.out; omega⟩, ⟨by (with_reducible repeat (first | apply Kd.R_alloc | apply Kd.R_drewN | apply Kd.R_drew)); exact Kd.R_mono HO283.out (fun _ hk => trivial)⟩, ⟨bl1_ GE280.out⟩⟩
        ·rw [if_neg c11] at H
         exact absurd H (by simp)
       ·rw [if_neg c10] at H
        exact absurd H (by simp)
      ·rw [if_neg c9] at H
       exact absurd H (by simp)
     ·rw [if_neg c8] at H
      have c8b0 : decide (x15_1 < (l0.length : Int)) = false := decide_eq_false c8
      clear c8
      obtain rfl := Option.some.inj H
      go_wp2
      go_ret
      exact ⟨_, er_, ra_ HO_7.out, bl0_⟩
  ·rw [if_neg c5] at H
   exact absurd H (by simp)
 ·rw [if_neg c4] at H
  exact absurd H (by simp)

/-! ### impl_normal: function 64 -/
def impl_normal.f (k : Nat) (l0 : List (S78)) : Option ((List (S78))) := (impl_corner.f k l0).bind fun bt284 => ((impl_moved.f k l0 (wrap64 (-bt284.1)) (wrap64 (-bt284.2))).bind fun t287 => (some t287))
theorem impl_normal.mono : ∀ a0 k, LeO (impl_normal.f k a0) (impl_normal.f (k + 1) a0) := by
 intro a0 k
 unfold impl_normal.f
 repeat' first
   | (with_reducible exact impl_corner.mono _ _)
   | (with_reducible exact impl_moved.mono _ _ _ _)
   | (with_reducible exact LeO.refl _)
   | (with_reducible exact LeO.none _)
   | (with_reducible refine LeO.ite ?_ ?_)
   | (with_reducible refine LeO.bind ?_ (fun _ => ?_))
   | exact impl_corner.mono _ _
   | exact impl_moved.mono _ _ _ _
   | exact LeO.none _
   | refine LeO.ite ?_ ?_
   | refine LeO.bind ?_ (fun _ => ?_)
set_option maxHeartbeats 8000000 in
set_option maxRecDepth 100000 in
theorem impl_normal.calls (k : Nat) (A0 : Option Addr) (c0 : Nat) (l0 : List (S78)) (r : List (S78)) (w : World) (hr0 : Kd.C k78 w A0 l0.length l0) (hc0 : l0.length ≤ c0) (h : impl_normal.f k l0 = some r) :
  Calls Tryd.prog 64 #[.slice A0 l0.length c0] w fun e w' => ∃ v0_ : Value, e = .returned (v0_) ∧ Kd.R k78 78 w' w.heap.size (fun _ => True) v0_ r ∧ Below w.heap.size w w' := by
 have hu78 := Tryd.underlying78
 have HR0 := Aside0.mk hr0
 have HC0 := Aside0.mk hc0
 clear hr0 hc0
 have HB := Aside0.mk (Below.refl w.heap.size w)
 have H : ((impl_corner.f k l0).bind fun bt284 => ((impl_moved.f k l0 (wrap64 (-bt284.1)) (wrap64 (-bt284.2))).bind fun t287 => (some t287))) = some r := h
 clear h
 replace H := Option.bind_eq_some_iff.mp H
 obtain ⟨⟨t284, t285⟩, A20, H⟩ := H
 replace H : ((impl_moved.f k l0 (wrap64 (-t284)) (wrap64 (-t285))).bind fun t287 => (some t287)) = some r := H
 have A2 := Aside0.mk A20
 clear A20
 replace H := Option.bind_eq_some_iff.mp H
 obtain ⟨t287, A30, H⟩ := H
 replace H : (some t287) = some r := H
 have A3 := Aside0.mk A30
 clear A30
 obtain rfl := Option.some.inj H
 go_enter Tryd.func64, Tryd.ntmps64
 go_wp2_with (first | ((with_reducible refine gate_callee (f := 97) rfl ?_); refine goesL_ (some 5) rfl rfl Tryd.func97 kr_ rfl #[.slice A0 l0.length c0] rfl ta_ ?_; (with_reducible refine (impl_corner.calls k _ _ l0 t284 t285 _ ?side1 ?side2 A2.out).mono ?_); (case side1 => exact ca_ HR0.out); (case side2 => exact HC0.out); rintro e w4 ⟨rfl, hb⟩; refine ⟨_, rfl, ?_⟩; have n0_ := Aside0.mk (below_step (bl0_) hb); clear HB; have HB := n0_; clear n0_; (try clear hb); (try clear hb2); (try clear hk); (try clear hi)) | ((with_reducible refine gate_dst (N := 3) rfl ?_); refine box_event ?hg (N := 3) ?hd (cs := #[.int .i64 0, .int .i64 0]) (t := 78) ?hr ?_; (case hd => rfl); (case hg => rfl); (case hr => first | (go_simp; done) | (go_simp; rfl)); intro gb286 hg w5 hbox hb; have n0_ := Aside0.mk (below_step (bl0_) hb); have n1_ := Aside0.mk (hbox); have n2_ := Aside0.mk ((sz_ hg (bl0_) : w.heap.size ≤ gb286)); have n3_ := Aside0.mk ((sz_ hg (bl0_) : w.heap.size ≤ gb286)); clear HB; have HB := n0_; have BK286 := n1_; have GW286 := n2_; have GE286 := n3_; clear n0_ n1_ n2_ n3_; clear hb hbox hg; have hcz6_0 : w5.cell? ⟨gb286, 0, none⟩ = some (.int .i64 0) := (blk_cell BK286.out 0).trans rfl; have hcz6_1 : w5.cell? ⟨gb286, 1, none⟩ = some (.int .i64 0) := (blk_cell BK286.out 1).trans rfl; have hfz6_0 := blk_frozen BK286.out 0; have hfz6_1 := blk_frozen BK286.out 1) | ((with_reducible refine gate_callee (f := 98) rfl ?_); refine goesL_ (some 13) rfl rfl Tryd.func98 kr_ rfl #[.slice A0 l0.length c0, .int .i64 (wrap64 (-t284)), .int .i64 (wrap64 (-t285))] rfl ta_ ?_; (with_reducible refine (impl_moved.calls k _ _ l0 (wrap64 (-t284)) (wrap64 (-t285)) t287 _ ?side1 ?side2 A3.out).mono ?_); (case side1 => exact Kd.C_below HR0.out (bl1_ GE286.out)); (case side2 => exact HC0.out); rintro e w7 ⟨v288, rfl, ho0, hb⟩; refine ⟨_, rfl, ?_⟩; have n0_ := Aside0.mk (Kd.R_lower (Kd.R_newB ho0 (g := gb286) (o := .cells #[.int .i64 t284, .int .i64 t285] 78 (0, 0)) (by (with_reducible repeat (first | refine blk_drewN ?_ _ | refine blk_drew ?_ | refine blk_alloc ?_ _)); refine blk_put (cs := #[.int .i64 t284, .int .i64 0]) ?_ 1 _ rfl; (with_reducible repeat (first | refine blk_drewN ?_ _ | refine blk_drew ?_ | refine blk_alloc ?_ _)); refine blk_put (cs := #[.int .i64 0, .int .i64 0]) ?_ 0 _ rfl; (with_reducible repeat (first | refine blk_drewN ?_ _ | refine blk_drew ?_ | refine blk_alloc ?_ _)); exact BK286.out)) (below_size (bl1_ GE286.out))); have n1_ := Aside0.mk (blk_below (g := gb286) (o := .cells #[.int .i64 t284, .int .i64 t285] 78 (0, 0)) (by (with_reducible repeat (first | refine blk_drewN ?_ _ | refine blk_drew ?_ | refine blk_alloc ?_ _)); refine blk_put (cs := #[.int .i64 t284, .int .i64 0]) ?_ 1 _ rfl; (with_reducible repeat (first | refine blk_drewN ?_ _ | refine blk_drew ?_ | refine blk_alloc ?_ _)); refine blk_put (cs := #[.int .i64 0, .int .i64 0]) ?_ 0 _ rfl; (with_reducible repeat (first | refine blk_drewN ?_ _ | refine blk_drew ?_ | refine blk_alloc ?_ _)); exact BK286.out) hb); have n2_ := Aside0.mk (below_step (bl1_ GE286.out) hb); clear BK286; clear HB; have HO289 := n0_; have BK286 := n1_; have HB := n2_; clear n0_ n1_ n2_; (try clear hb); (try clear hb2); (try clear hk); (try clear hi); (try clear ho0)))
 go_ret
 exact ⟨_, er_, by (with_reducible repeat (first | apply Kd.R_alloc | apply Kd.R_drewN | apply Kd.R_drew)); exact Kd.R_mono HO289.out (fun _ hk => trivial), bl1_ GE286.out⟩

/-! ### impl_shapeCode: function 35 -/
def impl_shapeCode.f (k : Nat) (l0 : List (S78)) : Option (Int) := (impl_IsShape.f k l0).bind fun t290 => (if t290 = true then ((impl_normal.f k l0).bind fun t291 => ((impl_IsShape.f k t291).bind fun t294 => (if t294 = true then (some 0) else (some 3)))) else (some 1))
theorem impl_shapeCode.mono : ∀ a0 k, LeO (impl_shapeCode.f k a0) (impl_shapeCode.f (k + 1) a0) := by
 intro a0 k
 unfold impl_shapeCode.f
 repeat' first
   | (with_reducible exact impl_IsShape.mono _ _)
   | (with_reducible exact impl_normal.mono _ _)
   | (with_reducible exact LeO.refl _)
   | (with_reducible exact LeO.none _)
   | (with_reducible refine LeO.ite ?_ ?_)
   | (with_reducible refine LeO.bind ?_ (fun _ => ?_))
   | exact impl_IsShape.mono _ _
   | exact impl_normal.mono _ _
   | exact LeO.none _
   | refine LeO.ite ?_ ?_
   | refine LeO.bind ?_ (fun _ => ?_)
set_option maxHeartbeats 8000000 in
set_option maxRecDepth 100000 in
theorem impl_shapeCode.calls (k : Nat) (A0 : Option Addr) (c0 : Nat) (l0 : List (S78)) (r : Int) (w : World) (hr0 : Kd.C k78 w A0 l0.length l0) (hc0 : l0.length ≤ c0) (h : impl_shapeCode.f k l0 = some r) :
  Calls Tryd.prog 35 #[.slice A0 l0.length c0] w fun e w' => e = .returned (.int .i64 r) ∧ Below w.heap.size w w' := by
 have HR0 := Aside0.mk hr0
 have HC0 := Aside0.mk hc0
 clear hr0 hc0
 have HB := Aside0.mk (Below.refl w.heap.size w)
 have H : ((impl_IsShape.f k l0).bind fun t290 => (if t290 = true then ((impl_normal.f k l0).bind fun t291 => ((impl_IsShape.f k t291).bind fun t294 => (if t294 = true then (some 0) else (some 3)))) else (some 1))) = some r := h
 clear h
 replace H := Option.bind_eq_some_iff.mp H
 obtain ⟨t290, A20, H⟩ := H
 replace H : (if t290 = true then ((impl_normal.f k l0).bind fun t291 => ((impl_IsShape.f k t291).bind fun t294 => (if t294 = true then (some 0) else (some 3)))) else (some 1)) = some r := H
 have A2 := Aside0.mk A20
 clear A20
 by_cases c3 : t290 = true
 ·subst c3
  have H1 : ((impl_normal.f k l0).bind fun t291 => ((impl_IsShape.f k t291).bind fun t294 => (if t294 = true then (some 0) else (some 3)))) = some r := by rw [if_pos rfl] at H; exact H
  clear H
  have H := H1
  clear H1
  replace H := Option.bind_eq_some_iff.mp H
  obtain ⟨t291, A40, H⟩ := H
  replace H : ((impl_IsShape.f k t291).bind fun t294 => (if t294 = true then (some 0) else (some 3))) = some r := H
  have A4 := Aside0.mk A40
  clear A40
  replace H := Option.bind_eq_some_iff.mp H
  obtain ⟨t294, A50, H⟩ := H
  replace H : (if t294 = true then (some 0) else (some 3)) = some r := H
  have A5 := Aside0.mk A50
  clear A50
  by_cases c6 : t294 = true
  ·subst c6
   have H1 : (some 0) = some r := by rw [if_pos rfl] at H; exact H
   clear H
   have H := H1
   clear H1
   obtain rfl := Option.some.inj H
   go_enter Tryd.func35, Tryd.ntmps35
   go_wp2_with (first | ((with_reducible refine gate_callee (f := 42) rfl ?_); refine goesL_ (some 4) rfl rfl Tryd.func42 kr_ rfl #[.slice A0 l0.length c0] rfl ta_ ?_; (with_reducible refine (impl_IsShape.calls k _ _ l0 true _ ?side1 ?side2 A2.out).mono ?_); (case side1 => exact ca_ HR0.out); (case side2 => exact HC0.out); rintro e w7 ⟨rfl, hb⟩; refine ⟨_, rfl, ?_⟩; have n0_ := Aside0.mk (below_step (bl0_) hb); clear HB; have HB := n0_; clear n0_; (try clear hb); (try clear hb2); (try clear hk); (try clear hi)) | ((with_reducible refine gate_callee (f := 64) rfl ?_); refine goesL_ (some 7) rfl rfl Tryd.func64 kr_ rfl #[.slice A0 l0.length c0] rfl ta_ ?_; (with_reducible refine (impl_normal.calls k _ _ l0 t291 _ ?side1 ?side2 A4.out).mono ?_); (case side1 => exact ca_ (Kd.C_below HR0.out HB.out)); (case side2 => exact HC0.out); rintro e w8 ⟨v292, rfl, ho0, hb⟩; refine ⟨_, rfl, ?_⟩; have n0_ := Aside0.mk (Kd.R_lower ho0 (below_size (bl0_))); have n1_ := Aside0.mk (below_step (bl0_) hb); clear HB; have HO293 := n0_; have HB := n1_; clear n0_ n1_; (try clear hb); (try clear hb2); (try clear hk); (try clear hi); (try clear ho0); obtain ⟨Ao9, co9, eo9⟩ := Kd.R_slice HO293.out; subst eo9) | ((with_reducible refine gate_callee (f := 42) rfl ?_); refine goesL_ (some 8) rfl rfl Tryd.func42 kr_ rfl #[.slice Ao9 t291.length co9] rfl ta_ ?_; (with_reducible refine (impl_IsShape.calls k _ _ t291 true _ ?side1 ?side2 A5.out).mono ?_); (case side1 => exact ca_ (Kd.R_reads' HO293.out).2.2); (case side2 => exact (Kd.R_reads' HO293.out).2.1); rintro e w10 ⟨rfl, hb⟩; refine ⟨_, rfl, ?_⟩; have n0_ := Aside0.mk (Kd.R_below (ra_ HO293.out) hb); have n1_ := Aside0.mk (below_step (bl0_) hb); clear HO293; clear HB; have HO293 := n0_; have HB := n1_; clear n0_ n1_; (try clear hb); (try clear hb2); (try clear hk); (try clear hi)))
   go_ret
   exact ⟨er_, bl0_⟩
  ·replace c6 := Bool.eq_false_iff.mpr c6
   subst c6
   have H1 : (some 3) = some r := by rw [if_neg (show ¬ (false = true) by decide)] at H; exact H
   clear H
   have H := H1
   clear H1
   obtain rfl := Option.some.inj H
   go_enter Tryd.func35, Tryd.ntmps35
   go_wp2_with (first | ((with_reducible refine gate_callee (f := 42) rfl ?_); refine goesL_ (some 4) rfl rfl Tryd.func42 kr_ rfl #[.slice A0 l0.length c0] rfl ta_ ?_; (with_reducible refine (impl_IsShape.calls k _ _ l0 true _ ?side1 ?side2 A2.out).mono ?_); (case side1 => exact ca_ HR0.out); (case side2 => exact HC0.out); rintro e w11 ⟨rfl, hb⟩; refine ⟨_, rfl, ?_⟩; have n0_ := Aside0.mk (below_step (bl0_) hb); clear HB; have HB := n0_; clear n0_; (try clear hb); (try clear hb2); (try clear hk); (try clear hi)) | ((with_reducible refine gate_callee (f := 64) rfl ?_); refine goesL_ (some 7) rfl rfl Tryd.func64 kr_ rfl #[.slice A0 l0.length c0] rfl ta_ ?_; (with_reducible refine (impl_normal.calls k _ _ l0 t291 _ ?side1 ?side2 A4.out).mono ?_); (case side1 => exact ca_ (Kd.C_below HR0.out HB.out)); (case side2 => exact HC0.out); rintro e w12 ⟨v292, rfl, ho0, hb⟩; refine ⟨_, rfl, ?_⟩; have n0_ := Aside0.mk (Kd.R_lower ho0 (below_size (bl0_))); have n1_ := Aside0.mk (below_step (bl0_) hb); clear HB; have HO293 := n0_; have HB := n1_; clear n0_ n1_; (try clear hb); (try clear hb2); (try clear hk); (try clear hi); (try clear ho0); obtain ⟨Ao13, co13, eo13⟩ := Kd.R_slice HO293.out; subst eo13) | ((with_reducible refine gate_callee (f := 42) rfl ?_); refine goesL_ (some 8) rfl rfl Tryd.func42 kr_ rfl #[.slice Ao13 t291.length co13] rfl ta_ ?_; (with_reducible refine (impl_IsShape.calls k _ _ t291 false _ ?side1 ?side2 A5.out).mono ?_); (case side1 => exact ca_ (Kd.R_reads' HO293.out).2.2); (case side2 => exact (Kd.R_reads' HO293.out).2.1); rintro e w14 ⟨rfl, hb⟩; refine ⟨_, rfl, ?_⟩; have n0_ := Aside0.mk (Kd.R_below (ra_ HO293.out) hb); have n1_ := Aside0.mk (below_step (bl0_) hb); clear HO293; clear HB; have HO293 := n0_; have HB := n1_; clear n0_ n1_; (try clear hb); (try clear hb2); (try clear hk); (try clear hi)))
   go_ret
   exact ⟨er_, bl0_⟩
 ·replace c3 := Bool.eq_false_iff.mpr c3
  subst c3
  have H1 : (some 1) = some r := by rw [if_neg (show ¬ (false = true) by decide)] at H; exact H
  clear H
  have H := H1
  clear H1
  obtain rfl := Option.some.inj H
  go_enter Tryd.func35, Tryd.ntmps35
  go_wp2_with (first | ((with_reducible refine gate_callee (f := 42) rfl ?_); refine goesL_ (some 4) rfl rfl Tryd.func42 kr_ rfl #[.slice A0 l0.length c0] rfl ta_ ?_; (with_reducible refine (impl_IsShape.calls k _ _ l0 false _ ?side1 ?side2 A2.out).mono ?_); (case side1 => exact ca_ HR0.out); (case side2 => exact HC0.out); rintro e w15 ⟨rfl, hb⟩; refine ⟨_, rfl, ?_⟩; have n0_ := Aside0.mk (below_step (bl0_) hb); clear HB; have HB := n0_; clear n0_; (try clear hb); (try clear hb2); (try clear hk); (try clear hi)))
  go_ret
  exact ⟨er_, bl0_⟩

/-! ### strings_Join: function 41 -/
def joined (xs : List ByteArray) (sep : ByteArray) : ByteArray := ⟨(Lib.join (xs.map (·.data.toList)) sep.data.toList).toArray⟩
def strings_Join.f (l0 : List ByteArray) (a1 : ByteArray) : Option ByteArray := if l0.length ≤ 140737488355328 ∧ (joined l0 a1).size ≤ 140737488355328 then some (joined l0 a1) else none
theorem spot_noneJ {w : World} {a : Addr} {v : Value} (h : w.cell? a = some v) : a = ⟨a.block, a.off, none⟩ := by
 obtain ⟨b, o, s⟩ := a
 cases s with
 | none => rfl
 | some z =>
  simp only [World.cell?] at h
  split at h <;> simp_all
theorem add_off (b o j : Nat) : (⟨b, o, none⟩ : Addr).add j = ⟨b, o + j, none⟩ := by
 unfold Addr.add
 split <;> simp_all
theorem strings_Join.calls (A0 : Option Addr) (c0 : Nat) (l0 : List ByteArray) (a1 : ByteArray) (r : ByteArray) (w : World) (hr0 : Kd.C Kd.string w A0 l0.length l0) (hc0 : l0.length ≤ c0) (h : strings_Join.f l0 a1 = some r) :
  Calls Tryd.prog 41 #[.slice A0 l0.length c0, .string a1] w fun e w' => e = .returned (.string r) ∧ Below w.heap.size w w' := by
 unfold strings_Join.f at h
 split at h
 ·rename_i hl
  obtain rfl := Option.some.inj h
  rcases Nat.eq_zero_or_pos l0.length with h0 | h0
  ·obtain rfl : l0 = [] := List.eq_nil_of_length_eq_zero h0
   refine (Tryd.strings_Join_none A0 c0 a1 w).mono ?_
   rintro e w' ⟨rfl, rfl⟩
   exact ⟨rfl, Below.refl _ _⟩
  ·obtain ⟨ad, rfl, hc⟩ := hr0.2.2 h0
   have hcell : ∀ (j : Nat) x, l0[j]? = some x → w.cell? (ad.add j) = some (.string x) := by
    intro j x hx
    obtain ⟨c, hc1, hc2, hc3⟩ := hc j x hx
    obtain rfl : c = [.string x] := hc2
    have := hc3 0 _ rfl
    rwa [show j * Kd.string.sz + 0 = j from Nat.mul_one j] at this
   have h00 := hcell 0 _ (List.getElem?_eq_getElem h0)
   have hs := spot_noneJ h00
   rw [show ad.add 0 = ad by simp [Addr.add]] at hs h00
   obtain ⟨b, o, s⟩ := ad
   injection hs with _ _ hs
   subst hs
   refine (Tryd.strings_Join b o c0 l0 a1 w (fun j x hx => ?_) (World.block_lt_of_cell? w _ h00) hl.1 hc0 (Nat.le_trans (Nat.le_of_eq (by show _ = (Lib.join (l0.map (·.data.toList)) a1.data.toList).toArray.size; exact List.size_toArray.symm)) hl.2)).mono ?_
   ·have := hcell j x hx
    rwa [add_off] at this
   ·rintro e w' ⟨rfl, hb⟩
    exact ⟨rfl, hb⟩
 ·cases h


/-! ### impl_reach: function 65 -/
def impl_reach.l0 : Nat → List (S78) → Int → Int → Int → Int → Option (Int × Int)
 | 0, _, _, _, _, _ => none
 | k + 1, x9, x10, x11, x298000, x298001 => if x11 < x10 then (if 0 ≤ x11 then (if x11 < (x9.length : Int) then (impl_reach.l0 k x9 x10 (wrap64 (x11 + 1)) (mx x298000 ((rd_T78 x9 x11).f0)) (mx x298001 ((rd_T78 x9 x11).f1))) else (none)) else (none)) else (some (x298000, x298001))
def impl_reach.f (k : Nat) (l0 : List (S78)) : Option (Int × Int) := if 0 < (l0.length : Int) then (impl_reach.l0 k l0 (l0.length : Int) 0 ((rd_T78 l0 0).f0) ((rd_T78 l0 0).f1)) else (none)
theorem impl_reach.mono_l : ∀ k, (∀ y0 y1 y2 y3 y4, LeO (impl_reach.l0 k y0 y1 y2 y3 y4) (impl_reach.l0 (k + 1) y0 y1 y2 y3 y4))
 | 0 => fun _ _ _ _ _ r h => by simp [impl_reach.l0] at h
 | k + 1 => by
  have ih0 := impl_reach.mono_l k
  ·intro y0 y1 y2 y3 y4
   unfold impl_reach.l0
   repeat' first
   | (with_reducible exact ih0 _ _ _ _ _)
   | (with_reducible exact LeO.refl _)
   | (with_reducible exact LeO.none _)
   | (with_reducible refine LeO.ite ?_ ?_)
   | (with_reducible refine LeO.bind ?_ (fun _ => ?_))
   | exact ih0 _ _ _ _ _
   | exact LeO.none _
   | refine LeO.ite ?_ ?_
   | refine LeO.bind ?_ (fun _ => ?_)
theorem impl_reach.mono : ∀ a0 k, LeO (impl_reach.f k a0) (impl_reach.f (k + 1) a0) := by
 intro a0 k
 have ih0 := impl_reach.mono_l k
 unfold impl_reach.f
 repeat' first
   | (with_reducible exact ih0 _ _ _ _ _)
   | (with_reducible exact LeO.refl _)
   | (with_reducible exact LeO.none _)
   | (with_reducible refine LeO.ite ?_ ?_)
   | (with_reducible refine LeO.bind ?_ (fun _ => ?_))
   | exact ih0 _ _ _ _ _
   | exact LeO.none _
   | refine LeO.ite ?_ ?_
   | refine LeO.bind ?_ (fun _ => ?_)
set_option maxHeartbeats 8000000 in
set_option maxRecDepth 100000 in
theorem impl_reach.calls (k : Nat) (A0 : Option Addr) (c0 : Nat) (l0 : List (S78)) (r1 : Int) (r2 : Int) (w : World) (hr0 : Kd.C k78 w A0 l0.length l0) (hc0 : l0.length ≤ c0) (h : impl_reach.f k l0 = some (r1, r2)) :
  Calls Tryd.prog 65 #[.slice A0 l0.length c0] w fun e w' => e = .returned (.agg #[.int .i64 r1, .int .i64 r2]) ∧ Below w.heap.size w w' := by
 have hu78 := Tryd.underlying78
 have HR0 := Aside0.mk hr0
 have HC0 := Aside0.mk hc0
 clear hr0 hc0
 have HB := Aside0.mk (Below.refl w.heap.size w)
 have H : (if 0 < (l0.length : Int) then (impl_reach.l0 k l0 (l0.length : Int) 0 ((rd_T78 l0 0).f0) ((rd_T78 l0 0).f1)) else (none)) = some (r1, r2) := h
 clear h
 by_cases c2 : 0 < (l0.length : Int)
 ·rw [if_pos c2] at H
  have c2b0 : decide (0 < (l0.length : Int)) = true := decide_eq_true c2
  have c2b1 : decide (0 < l0.length) = true := decide_eq_true (by omega)
  clear c2
  have H' := Aside0.mk H
  clear H
  go_enter Tryd.func65, Tryd.ntmps65
  go_wp2_with (first | ((with_reducible refine gate_dst (N := 2) rfl ?_); refine box_event ?hg (N := 2) ?hd (cs := #[.int .i64 0, .int .i64 0]) (t := 78) ?hr ?_; (case hd => rfl); (case hg => rfl); (case hr => first | (go_simp; done) | (go_simp; rfl)); intro gb295 hg w3 hbox hb; have n0_ := Aside0.mk (below_step (bl0_) hb); have n1_ := Aside0.mk (hbox); have n2_ := Aside0.mk ((sz_ hg (bl0_) : w.heap.size ≤ gb295)); have n3_ := Aside0.mk ((sz_ hg (bl0_) : w.heap.size ≤ gb295)); clear HB; have HB := n0_; have BK295 := n1_; have GW295 := n2_; have GE295 := n3_; clear n0_ n1_ n2_ n3_; clear hb hbox hg; have p296 : 0 ≤ (0 : Int) := (by omega); have q296 : 0 < (l0.length : Int) := od_; obtain ⟨ad296, e296, hx296_0, hx296_1⟩ := at_T78 HR0.out 0 p296 q296; cases e296; have qi296 : (0 < l0.length) = True := eq_true (by omega); (try rw [show ((0 : Int)).toNat = 0 from rfl] at hx296_0); (try rw [show 0 * 2 = 0 from rfl] at hx296_0); (try rw [Addr.add_zero'] at hx296_0); (try rw [show ((0 : Int)).toNat = 0 from rfl] at hx296_1); (try rw [show 0 * 2 = 0 from rfl] at hx296_1); (try rw [Addr.add_zero'] at hx296_1); replace hx296_0 := (HB.out.cell (World.block_lt_of_cell? w _ hx296_0)).trans hx296_0; replace hx296_1 := (HB.out.cell (World.block_lt_of_cell? w _ hx296_1)).trans hx296_1; replace p296 := eq_true p296; replace q296 := eq_true q296) | ((with_reducible refine gate_dst (N := 3) rfl ?_); refine box_event ?hg (N := 3) ?hd (cs := #[.int .i64 0, .int .i64 0]) (t := 78) ?hr ?_; (case hd => rfl); (case hg => rfl); (case hr => first | (go_simp; done) | (go_simp; rfl)); intro gb297 hg w4 hbox hb; have n0_ := Aside0.mk (blk_below (g := gb295) (o := .cells #[.int .i64 0, .int .i64 0] 78 (0, 0)) (bk_ BK295.out) hb); have n1_ := Aside0.mk (below_step (bl1_ GE295.out) hb); have n2_ := Aside0.mk (hbox); have n3_ := Aside0.mk ((sz_ hg (bl1_ GE295.out) : w.heap.size ≤ gb297)); have n4_ := Aside0.mk ((sz_ hg (bl1_ GE295.out) : w.heap.size ≤ gb297)); have n5_ := Aside0.mk ((by rw [hg]; exact Nat.ne_of_lt (blk_lt (g := gb295) (o := .cells #[.int .i64 0, .int .i64 0] 78 (0, 0)) (bk_ BK295.out)) : gb295 ≠ gb297)); have n6_ := Aside0.mk ((by rw [hg]; exact Nat.ne_of_gt (blk_lt (g := gb295) (o := .cells #[.int .i64 0, .int .i64 0] 78 (0, 0)) (bk_ BK295.out)) : gb297 ≠ gb295)); clear BK295; clear HB; have BK295 := n0_; have HB := n1_; have BK297 := n2_; have GW297 := n3_; have GE297 := n4_; have NB295_297 := n5_; have NB297_295 := n6_; clear n0_ n1_ n2_ n3_ n4_ n5_ n6_; clear hb hbox hg; have hnb5 := NB297_295.out; have hnc5 := NB295_297.out; have hcz6_0 : w4.cell? ⟨gb297, 0, none⟩ = some (.int .i64 0) := (blk_cell BK297.out 0).trans rfl; have hcz6_1 : w4.cell? ⟨gb297, 1, none⟩ = some (.int .i64 0) := (blk_cell BK297.out 1).trans rfl; have hfz6_0 := blk_frozen BK297.out 0; have hfz6_1 := blk_frozen BK297.out 1))
  go_loopg [11] k (fun kq v11 w' => ∃ (x11_1 : Int) (x298000_1 : Int) (x298001_1 : Int), v11 = .int .i64 x11_1 ∧ Aside0 (impl_reach.l0 kq l0 (l0.length : Int) x11_1 x298000_1 x298001_1 = some (r1, r2)) ∧ Aside0 (kq ≤ k) ∧ Aside0 (w'.heap[gb295]? = some (.cells #[.int .i64 0, .int .i64 0] 78 (0, 0))) ∧ Aside0 (w'.heap[gb297]? = some (.cells #[.int .i64 x298000_1, .int .i64 x298001_1] 78 (0, 0))) ∧ Aside0 (Below w.heap.size w w'))
  case atStart => exact ⟨(0), ((rd_T78 l0 0).f0), ((rd_T78 l0 0).f1), rs_, H', ⟨Nat.le_refl _⟩, ⟨by (with_reducible repeat (first | refine blk_drewN ?_ _ | refine blk_drew ?_ | refine blk_alloc ?_ _)); refine blk_far ?_ NB295_297.out _; (with_reducible repeat (first | refine blk_drewN ?_ _ | refine blk_drew ?_ | refine blk_alloc ?_ _)); refine blk_far ?_ NB295_297.out _; (with_reducible repeat (first | refine blk_drewN ?_ _ | refine blk_drew ?_ | refine blk_alloc ?_ _)); exact BK295.out⟩, ⟨by (with_reducible repeat (first | refine blk_drewN ?_ _ | refine blk_drew ?_ | refine blk_alloc ?_ _)); refine blk_put (cs := #[.int .i64 ((rd_T78 l0 0).f0), .int .i64 0]) ?_ 1 _ rfl; (with_reducible repeat (first | refine blk_drewN ?_ _ | refine blk_drew ?_ | refine blk_alloc ?_ _)); refine blk_put (cs := #[.int .i64 0, .int .i64 0]) ?_ 0 _ rfl; (with_reducible repeat (first | refine blk_drewN ?_ _ | refine blk_drew ?_ | refine blk_alloc ?_ _)); exact BK297.out⟩, ⟨bl2_ GE295.out GE297.out⟩⟩
  case round =>
   clear H'
   try clear c2
   try clear c2b0
   try clear c2b1
   try clear p2
   try clear q2
   try clear hx2
   try clear qi2
   try clear c5
   try clear c6
   try clear hcz6_0
   try clear hcz6_1
   try clear hfz6_0
   try clear hfz6_1
   try clear hx296_0
   try clear hx296_1
   try clear p296
   try clear q296
   obtain ⟨x11_1, x298000_1, x298001_1, rfl, HA, HK1, BK295, BK297, HB⟩ := hrel
   cases gk with
   | zero => exact absurd HA.out (by simp [impl_reach.l0])
   | succ k1 =>
    have H := HA.out
    clear HA
    simp only [impl_reach.l0] at H
    by_cases c7 : x11_1 < (l0.length : Int)
    ·rw [if_pos c7] at H
     have c7b0 : decide (x11_1 < (l0.length : Int)) = true := decide_eq_true c7
     clear c7
     by_cases c8 : 0 ≤ x11_1
     ·rw [if_pos c8] at H
      have c8b0 : decide (0 ≤ x11_1) = true := decide_eq_true c8
      clear c8
      by_cases c9 : x11_1 < (l0.length : Int)
      ·rw [if_pos c9] at H
       have c9b0 : decide (x11_1 < (l0.length : Int)) = true := decide_eq_true c9
       clear c9
       obtain ⟨ji10, hji10⟩ : ∃ j_ : Int, (mx x298000_1 ((rd_T78 l0 x11_1).f0)) = j_ := ⟨_, rfl⟩
       replace H : (impl_reach.l0 k1 l0 (l0.length : Int) (wrap64 (x11_1 + 1)) ji10 (mx x298001_1 ((rd_T78 l0 x11_1).f1))) = some (r1, r2) := by first | (rw [hji10] at H; exact H) | (simp only [hji10] at H ⊢; exact H)
       have hji10_ : (if x298000_1 < ((rd_T78 l0 x11_1).f0) then ((rd_T78 l0 x11_1).f0) else x298000_1) = ji10 := hji10
       obtain ⟨ji11, hji11⟩ : ∃ j_ : Int, (mx x298001_1 ((rd_T78 l0 x11_1).f1)) = j_ := ⟨_, rfl⟩
       replace H : (impl_reach.l0 k1 l0 (l0.length : Int) (wrap64 (x11_1 + 1)) ji10 ji11) = some (r1, r2) := by first | (rw [hji11] at H; exact H) | (simp only [hji11] at H ⊢; exact H)
       have hji11_ : (if x298001_1 < ((rd_T78 l0 x11_1).f1) then ((rd_T78 l0 x11_1).f1) else x298001_1) = ji11 := hji11
       have H' := Aside0.mk H
       clear H
       have p298 : 0 ≤ (x11_1 : Int) := od_
       have q298 : x11_1 < (l0.length : Int) := od_
       obtain ⟨ad298, e298, hx298_0, hx298_1⟩ := at_T78 HR0.out x11_1 p298 q298
       obtain rfl : ad296 = ad298 := (by injection e298)
       replace hx298_0 := (HB.out.cell (World.block_lt_of_cell? w _ hx298_0)).trans hx298_0
       replace hx298_1 := (HB.out.cell (World.block_lt_of_cell? w _ hx298_1)).trans hx298_1
       replace p298 := eq_true p298
       replace q298 := eq_true q298
       go_wp2_with (first | ((with_reducible refine gate_dst (N := 5) rfl ?_); refine box_event ?hg (N := 5) ?hd (cs := #[.int .i64 0, .int .i64 0]) (t := 78) ?hr ?_; (case hd => rfl); (case hg => rfl); (case hr => first | (go_simp; done) | (go_simp; rfl)); intro gb299 hg w12 hbox hb; have n0_ := Aside0.mk (blk_below (g := gb295) (o := .cells #[.int .i64 0, .int .i64 0] 78 (0, 0)) (bk_ BK295.out) hb); have n1_ := Aside0.mk (blk_below (g := gb297) (o := .cells #[.int .i64 x298000_1, .int .i64 x298001_1] 78 (0, 0)) (bk_ BK297.out) hb); have n2_ := Aside0.mk (below_step (bl2_ GE295.out GE297.out) hb); have n3_ := Aside0.mk (hbox); have n4_ := Aside0.mk ((sz_ hg (bl2_ GE295.out GE297.out) : w.heap.size ≤ gb299)); have n5_ := Aside0.mk ((sz_ hg (bl2_ GE295.out GE297.out) : w.heap.size ≤ gb299)); have n6_ := Aside0.mk ((by rw [hg]; exact Nat.ne_of_lt (blk_lt (g := gb295) (o := .cells #[.int .i64 0, .int .i64 0] 78 (0, 0)) (bk_ BK295.out)) : gb295 ≠ gb299)); have n7_ := Aside0.mk ((by rw [hg]; exact Nat.ne_of_gt (blk_lt (g := gb295) (o := .cells #[.int .i64 0, .int .i64 0] 78 (0, 0)) (bk_ BK295.out)) : gb299 ≠ gb295)); have n8_ := Aside0.mk ((by rw [hg]; exact Nat.ne_of_lt (blk_lt (g := gb297) (o := .cells #[.int .i64 x298000_1, .int .i64 x298001_1] 78 (0, 0)) (bk_ BK297.out)) : gb297 ≠ gb299)); have n9_ := Aside0.mk ((by rw [hg]; exact Nat.ne_of_gt (blk_lt (g := gb297) (o := .cells #[.int .i64 x298000_1, .int .i64 x298001_1] 78 (0, 0)) (bk_ BK297.out)) : gb299 ≠ gb297)); clear BK295; clear BK297; clear HB; have BK295 := n0_; have BK297 := n1_; have HB := n2_; have BK299 := n3_; have GW299 := n4_; have GE299 := n5_; have NB295_299 := n6_; have NB299_295 := n7_; have NB297_299 := n8_; have NB299_297 := n9_; clear n0_ n1_ n2_ n3_ n4_ n5_ n6_ n7_ n8_ n9_; clear hb hbox hg; have hnb13 := NB299_295.out; have hnc13 := NB295_299.out; have hnb14 := NB299_297.out; have hnc14 := NB297_299.out; have hcz15_0 : w12.cell? ⟨gb299, 0, none⟩ = some (.int .i64 0) := (blk_cell BK299.out 0).trans rfl; have hcz15_1 : w12.cell? ⟨gb299, 1, none⟩ = some (.int .i64 0) := (blk_cell BK299.out 1).trans rfl; have hfz15_0 := blk_frozen BK299.out 0; have hfz15_1 := blk_frozen BK299.out 1; have hnb16 := NB297_295.out; have hnc16 := NB295_297.out; have hcz17_0 : w12.cell? ⟨gb297, 0, none⟩ = some (.int .i64 x298000_1) := (blk_cell BK297.out 0).trans rfl; have hcz17_1 : w12.cell? ⟨gb297, 1, none⟩ = some (.int .i64 x298001_1) := (blk_cell BK297.out 1).trans rfl; have hfz17_0 := blk_frozen BK297.out 0; have hfz17_1 := blk_frozen BK297.out 1))
       go_roundg k1
       case measure => have := HK1.out; omega
       case rel => exact ⟨(wrap64 (x11_1 + 1)), (ji10), (ji11), rs_, H', ⟨by have := HK1.out; omega⟩, ⟨by (with_reducible repeat (first | refine blk_drewN ?_ _ | refine blk_drew ?_ | refine blk_alloc ?_ _)); refine blk_far ?_ NB295_297.out _; (with_reducible repeat (first | refine blk_drewN ?_ _ | refine blk_drew ?_ | refine blk_alloc ?_ _)); refine blk_far ?_ NB295_297.out _; (with_reducible repeat (first | refine blk_drewN ?_ _ | refine blk_drew ?_ | refine blk_alloc ?_ _)); refine blk_far ?_ NB295_299.out _; (with_reducible repeat (first | refine blk_drewN ?_ _ | refine blk_drew ?_ | refine blk_alloc ?_ _)); refine blk_far ?_ NB295_299.out _; (with_reducible repeat (first | refine blk_drewN ?_ _ | refine blk_drew ?_ | refine blk_alloc ?_ _)); exact BK295.out⟩, ⟨by (with_reducible repeat (first | refine blk_drewN ?_ _ | refine blk_drew ?_ | refine blk_alloc ?_ _)); refine blk_put (cs := #[.int .i64 ji10, .int .i64 x298001_1]) ?_ 1 _ rfl; (with_reducible repeat (first | refine blk_drewN ?_ _ | refine blk_drew ?_ | refine blk_alloc ?_ _)); refine blk_put (cs := #[.int .i64 x298000_1, .int .i64 x298001_1]) ?_ 0 _ rfl; (with_reducible repeat (first | refine blk_drewN ?_ _ | refine blk_drew ?_ | refine blk_alloc ?_ _)); refine blk_far ?_ NB297_299.out _; (with_reducible repeat (first | refine blk_drewN ?_ _ | refine blk_drew ?_ | refine blk_alloc ?_ _)); refine blk_far ?_ NB297_299.out _; (with_reducible repeat (first | refine blk_drewN ?_ _ | refine blk_drew ?_ | refine blk_alloc ?_ _)); exact BK297.out⟩, ⟨bl3_ GE295.out GE297.out GE299.out⟩⟩
      ·rw [if_neg c9] at H
       exact absurd H (by simp)
     ·rw [if_neg c8] at H
      exact absurd H (by simp)
    ·rw [if_neg c7] at H
     have c7b0 : decide (x11_1 < (l0.length : Int)) = false := decide_eq_false c7
     clear c7
     simp only [Option.some.injEq, Prod.mk.injEq] at H
     obtain ⟨rfl, rfl⟩ := H
     have hnb18 := NB297_295.out
     have hnc18 := NB295_297.out
     have hcz19_0 : wr.cell? ⟨gb297, 0, none⟩ = some (.int .i64 x298000_1) := (blk_cell BK297.out 0).trans rfl
     have hcz19_1 : wr.cell? ⟨gb297, 1, none⟩ = some (.int .i64 x298001_1) := (blk_cell BK297.out 1).trans rfl
     have hfz19_0 := blk_frozen BK297.out 0
     have hfz19_1 := blk_frozen BK297.out 1
     have hcz20_0 : wr.cell? ⟨gb295, 0, none⟩ = some (.int .i64 0) := (blk_cell BK295.out 0).trans rfl
     have hcz20_1 : wr.cell? ⟨gb295, 1, none⟩ = some (.int .i64 0) := (blk_cell BK295.out 1).trans rfl
     have hfz20_0 := blk_frozen BK295.out 0
     have hfz20_1 := blk_frozen BK295.out 1
     go_wp2
     refine bodyPost_ret (results_cell_row rfl _ _ gb295 78 #[.int .i64 x298000_1, .int .i64 x298001_1] (0, 0) _ rfl (by (with_reducible repeat (first | refine blk_drewN ?_ _ | refine blk_drew ?_ | refine blk_alloc ?_ _)); refine blk_put (cs := #[.int .i64 x298000_1, .int .i64 0]) ?_ 1 _ rfl; (with_reducible repeat (first | refine blk_drewN ?_ _ | refine blk_drew ?_ | refine blk_alloc ?_ _)); refine blk_put (cs := #[.int .i64 0, .int .i64 0]) ?_ 0 _ rfl; (with_reducible repeat (first | refine blk_drewN ?_ _ | refine blk_drew ?_ | refine blk_alloc ?_ _)); exact BK295.out) Tryd.underlying78 rfl kr_) rfl ?_
     exact ⟨er_, bl2_ GE295.out GE297.out⟩
 ·rw [if_neg c2] at H
  exact absurd H (by simp)

/-! ### impl_shapeText: function 36 -/
/-! The text of a shape: rows of dots, marked. -/
def dotsG (h m : Nat) : List (List Int) := List.replicate h (List.replicate m 46)
def markT (G : List (List Int)) (c : S78) : List (List Int) := G.set c.f1.toNat ((G.getD c.f1.toNat []).set c.f0.toNat 35)
def hashG (N : List S78) (mx my : Int) : List (List Int) := N.foldl markT (dotsG (my + 1).toNat (mx + 1).toNat)
def textT (G : List (List Int)) : ByteArray := joined (G.map strOfNums) ⟨#[47]⟩
def okT (N : List S78) (mx my : Int) : Prop := ((0 ≤ mx ∧ mx ≤ 1000) ∧ (0 ≤ my ∧ my ≤ 1000)) ∧ N.length ≤ 1000 ∧ (∀ c ∈ N, (0 ≤ c.f0 ∧ c.f0 ≤ mx) ∧ (0 ≤ c.f1 ∧ c.f1 ≤ my)) ∧ (textT (hashG N mx my)).size ≤ 140737488355328
instance (N : List S78) (mx my : Int) : Decidable (okT N mx my) := by unfold okT; infer_instance
theorem dots_bytes (m : Nat) : ((⟨(Lib.repeatL (⟨#[46]⟩ : ByteArray).data.toList m).toArray⟩ : ByteArray).data.toList.map fun b => (b.toNat : Int)) = List.replicate m 46 := by
 show (Lib.repeatL [46] m).map (fun b : UInt8 => (b.toNat : Int)) = _
 induction m with
 | zero => rfl
 | succ m ih =>
  rw [Lib.repeatL, List.map_append, ih]
  rfl
theorem dots_size (m : Nat) : (⟨(Lib.repeatL (⟨#[46]⟩ : ByteArray).data.toList m).toArray⟩ : ByteArray).size = m := by
 have h := congrArg List.length (dots_bytes m)
 rw [List.length_map, List.length_replicate] at h
 exact h
theorem infoRowT : (Tryd.prog.info? 22).map (fun i => (i.zero, i.size, i.bytes)) = some (some (.slice none 0 0), 1, 24) := by kernel_rfl
theorem infoStrT : (Tryd.prog.info? 9).map (fun i => (i.zero, i.size, i.bytes)) = some (some (.string ⟨#[]⟩), 1, 16) := by kernel_rfl
theorem made_reps (v : Value) (n : Nat) : madeCells #[v] n = (List.replicate n v).toArray := by
 apply Array.ext
 ·simp [size_madeCells]
 ·intro i h1 h2
  simp [madeCells, Nat.mod_one]
theorem rd_memT (l : List S78) (j : Nat) (h : j < l.length) : rd_T78 l (j : Int) = l[j] := by
 show l.getD j _ = _
 rw [List.getD_eq_getElem?_getD, List.getElem?_eq_getElem h, Option.getD_some]
/-- The texts, being laid: n places in block T, the first ones told. -/
def TextsT (w : World) (T n : Nat) (G : List (List Int)) : Prop := w.heap[T]? = some (.cells ((G.map fun r => Value.string (strOfNums r)) ++ List.replicate (n - G.length) (Value.string ⟨#[]⟩)).toArray 9 (0, 0))
theorem TextsT.next {w : World} {T n : Nat} {G : List (List Int)} {j : Nat} (hl : G.length = n) (hj : j < n) (h : TextsT w T n (G.take j)) :
  TextsT (w.setCell ⟨T, j, none⟩ (.string (strOfNums (G.getD j [])))) T n (G.take (j + 1)) := by
 have hlt : j < G.length := by omega
 refine blk_put h j _ ?_
 apply Array.toList_inj.1
 rw [Array.toList_setIfInBounds]
 have e : List.replicate (n - (G.take j).length) (Value.string ⟨#[]⟩) = Value.string ⟨#[]⟩ :: List.replicate (n - (G.take (j + 1)).length) (Value.string ⟨#[]⟩) := by
  rw [List.length_take, List.length_take, show n - min j G.length = (n - min (j + 1) G.length) + 1 by omega, List.replicate_succ]
 rw [e, List.set_append_right _ _ (by simp [List.length_take]; omega), show j - ((G.take j).map fun r => Value.string (strOfNums r)).length = 0 by simp [List.length_take]; omega, List.set_cons_zero, List.take_succ_eq_append_getElem hlt, List.map_append, List.getD_eq_getElem?_getD, List.getElem?_eq_getElem hlt, Option.getD_some]
 simp
set_option maxHeartbeats 4000000 in
set_option maxRecDepth 100000 in
theorem shapeText_walk (k : Nat) (A0 : Option Addr) (c0 : Nat) (l0 N : List S78) (W0 H : Nat) (w : World) (hr0 : Kd.C k78 w A0 l0.length l0) (hc0 : l0.length ≤ c0) (hN : impl_normal.f k l0 = some N) (hM : impl_reach.f k N = some ((W0 : Int), (H : Int)))
  (hH : H ≤ 1000) (hW : W0 ≤ 1000) (hl : N.length ≤ 1000) (hcs : ∀ c ∈ N, ∃ x y : Nat, (c.f0 = (x : Int) ∧ x ≤ W0) ∧ c.f1 = (y : Int) ∧ y ≤ H) (ht : (textT (N.foldl markT (dotsG (H + 1) (W0 + 1)))).size ≤ 140737488355328) :
  Calls Tryd.prog 36 #[.slice A0 l0.length c0] w fun e w' => e = .returned (.string (textT (N.foldl markT (dotsG (H + 1) (W0 + 1))))) ∧ Below w.heap.size w w' := by
 have hn := impl_normal.calls k A0 c0 l0 N w hr0 hc0 hN
 have HHW := Aside0.mk (And.intro hH hW)
 have HNL := Aside0.mk hl
 have HCS := Aside0.mk hcs
 have HT := Aside0.mk ht
 have HM := Aside0.mk hM
 obtain ⟨i0, hi, hzz⟩ := Option.map_eq_some_iff.1 infoRowT
 simp only [Prod.mk.injEq] at hzz
 obtain ⟨hz0, hz1, hz2⟩ := hzz
 have hmk : ∀ W' : World, (Instr.makeSlice 83 (.int .i64 ((H : Int) + 1)) (.int .i64 ((H : Int) + 1))).run Tryd.prog W' = .ok (.slice (some ⟨W'.heap.size, 0, none⟩) (H + 1) (H + 1)) (W'.alloc (.cells (List.replicate (H + 1) (Value.slice none 0 0)).toArray 22)) := fun W' => by
  have h := run_make (P := Tryd.prog) W' 83 22 i0 (.slice none 0 0) Tryd.underlying83 hi hz0 .i64 .i64 ((H : Int) + 1) ((H : Int) + 1) (by omega) (Int.le_refl _) (by rw [hz2]; omega) (by omega)
  rw [hz1, show ((H : Int) + 1).toNat = H + 1 by omega] at h
  simpa [made_reps, Value.cells] using h
 have hw1 : wrap64 ((H : Int) + 1) = (H : Int) + 1 := by unfold wrap64; omega
 clear hr0 hc0 hN hl hcs ht hM hi hz0 hz1 hz2 hH hW
 go_enter Tryd.func36, Tryd.ntmps36
 go_wp2_with (first | (go_at_call 64; ((with_reducible refine hn.mono ?_); rintro e w1 ⟨v, rfl, hR, hb⟩; obtain ⟨An, cn, rfl, hln, hCn⟩ := Kd.R_reads hR; have HR := Aside0.mk hR; have HB := Aside0.mk hb; have HCn := Aside0.mk (And.intro hCn hln); clear hR hb hCn hln)) | (go_at_call 65; ((refine (impl_reach.calls k An cn N _ _ _ HCn.out.1 HCn.out.2 HM.out).mono ?_); rintro e w2 ⟨rfl, hb⟩; have HB2 := Aside0.mk (below_step HB.out hb); have HC2 := Aside0.mk (Kd.C_below HCn.out.1 hb); clear hb)))
 clear hmk hw1
 obtain ⟨W3, hW3⟩ : ∃ W3, W3 = w2.alloc (.cells #[.int .i64 (W0 : Int), .int .i64 (H : Int)] 78) := ⟨_, rfl⟩
 have X3 := Aside0.mk (show W3.cell? ⟨w2.heap.size, 0, none⟩ = some (.int .i64 (W0 : Int)) from by rw [hW3]; exact (blk_cell (heap_alloc_new w2 _) 0).trans rfl)
 have C3 : Aside0 (Kd.C k78 W3 An N.length N) := ⟨by rw [hW3]; exact Kd.C_alloc HC2.out _⟩
 have B3 : Aside0 (Below w.heap.size w W3) := ⟨by rw [hW3]; exact below_alloc HB2.out _⟩
 have hs3 : w2.heap.size + 1 = W3.heap.size := by rw [hW3]; simp only [World.alloc, Array.size_push]
 rw [hs3, ← hW3]
 clear hW3 hs3 HR HB HCn HB2 HC2 hn
 generalize w2.heap.size = bx at X3 ⊢
 have R3 : Aside0 (RowsT (W3.alloc (.cells (Array.replicate (H + 1) (Value.slice none 0 0)) 22)) 22 5 W3.heap.size (H + 1) (W0 + 1) [] []) := ⟨⟨rfl, Nat.zero_le _, by simpa using heap_alloc_new W3 (.cells (Array.replicate (H + 1) (Value.slice none 0 0)) 22), fun y b hy => by simp at hy, fun r hr => absurd hr (by simp), List.nodup_nil, fun b hb => absurd hb (by simp)⟩⟩
 have Y3 := Aside0.mk (below_alloc (Below.refl W3.heap.size W3) (.cells (Array.replicate (H + 1) (Value.slice none 0 0)) 22))
 generalize W3.alloc (.cells (Array.replicate (H + 1) (Value.slice none 0 0)) 22) = W4 at R3 Y3 ⊢
 go_loopg [22] (H + 1) (fun kq v22 w' => ∃ (j : Nat) (bs : List (Nat × Nat)), v22 = .int .i64 j ∧ Aside0 (kq + j = H + 1 ∧ bs.length = j) ∧ Aside0 (RowsT w' 22 5 W3.heap.size (H + 1) (W0 + 1) bs (List.replicate j (List.replicate (W0 + 1) 46))) ∧ Aside0 (∀ b ∈ bs, W3.heap.size ≤ b.1) ∧ Aside0 (Below W3.heap.size W3 w'))
 case atStart => exact ⟨0, [], rfl, ⟨rfl, rfl⟩, R3, ⟨fun b hb => by cases hb⟩, Y3⟩
 case round =>
  clear R3 Y3
  obtain ⟨j, bs, rfl, HJ, RA, BB, HB⟩ := hrel
  cases gk with
  | succ kk =>
   have hj : j < H + 1 := by have := HJ.out; omega
   have hji : (j : Int) < (H : Int) + 1 := by omega
   have d0 : decide ((j : Int) < (H : Int) + 1) = true := decide_eq_true hji
   have hwh := HHW.out
   have hw1 : wrap64 ((W0 : Int) + 1) = (W0 : Int) + 1 := by unfold wrap64; omega
   have m0 : wr.cell? ⟨bx, 0, none⟩ = some (.int .i64 (W0 : Int)) := (HB.out.cell (World.block_lt_of_cell? W3 _ X3.out)).trans X3.out
   obtain ⟨s, hs⟩ : ∃ s : ByteArray, s = ⟨(Lib.repeatL (⟨#[46]⟩ : ByteArray).data.toList (W0 + 1)).toArray⟩ := ⟨_, rfl⟩
   have hrep : ∀ W' : World, Calls Tryd.prog 66 #[.string ⟨#[46]⟩, .int .i64 ((W0 : Int) + 1)] W' fun e w' => e = .returned (.string s) ∧ Below W'.heap.size W' w' := fun W' => by
    have h := Tryd.strings_Repeat ⟨#[46]⟩ (W0 + 1) W' (by omega) (by show 1 * (W0 + 1) ≤ _; omega)
    rw [← hs] at h
    exact h
   have hsz : s.size = W0 + 1 := by rw [hs]; exact dots_size _
   have hby : (s.data.toList.map fun b => (b.toNat : Int)) = List.replicate (W0 + 1) 46 := by rw [hs]; exact dots_bytes _
   have hcv : ∀ W' : World, (convert 9 22 (.string s)).run Tryd.prog W' = .ok (.slice (some ⟨W'.heap.size, 0, none⟩) (W0 + 1) (grownCap W' (W0 + 1) 0 5)) (Lib.bytesWorld W' 5 s) := fun W' => by
    have h := Lib.run_convert_string_bytes (P := Tryd.prog) W' 9 22 5 s Tryd.underlying9 Tryd.underlying22 Tryd.underlying5
    rw [hsz] at h
    exact h
   have HBY := Aside0.mk hby
   have HLJ := Aside0.mk hj
   clear hwh hs hsz hby hj
   go_wp2_with (go_at_call 66; ((with_reducible refine (hrep _).mono ?_); rintro e w5 ⟨rfl, hb⟩; have hbb : Below wr.heap.size wr (Lib.bytesWorld w5 5 s) := below_bytes hb hb.size _ _; obtain ⟨s1, s2⟩ := (RA.out.below hbb).spot (by rw [HJ.out.2]; exact HLJ.out); rw [HJ.out.2] at s1 s2; have hnx := RA.out.next (g := w5.heap.size) (c := grownCap w5 (W0 + 1) 0 5) (by rw [HJ.out.2]; exact HLJ.out) hbb hb.size (ByteRow.laid w5 5 s) (by rw [HBY.out, List.length_replicate]); rw [HBY.out, HJ.out.2, ← List.replicate_succ'] at hnx; have RN := Aside0.mk hnx; have QN := Aside0.mk (show ∀ b ∈ bs ++ [(w5.heap.size, grownCap w5 (W0 + 1) 0 5)], W3.heap.size ≤ b.1 from fun b hm => (by rcases List.mem_append.1 hm with h1 | h1; exact BB.out b h1; obtain rfl := List.mem_singleton.1 h1; exact Nat.le_trans HB.out.size hb.size)); have BN := Aside0.mk ((below_step HB.out hbb).setCell (p := ⟨W3.heap.size, j, none⟩) (Nat.le_refl _) (.slice (some ⟨w5.heap.size, 0, none⟩) (W0 + 1) (grownCap w5 (W0 + 1) 0 5))); clear hb hbb hnx))
   go_roundg kk
   case measure => omega
   case rel => exact ⟨j + 1, bs ++ [(w5.heap.size, grownCap w5 (W0 + 1) 0 5)], congrArg (Value.int .i64) (by have := HHW.out; have := HLJ.out; unfold wrap64; omega), ⟨by have := HJ.out; simp; omega⟩, RN, QN, BN⟩
  | zero =>
   obtain rfl : j = H + 1 := by have := HJ.out; omega
   have d9 : decide (((H + 1 : Nat) : Int) < (H : Int) + 1) = false := decide_eq_false (by omega)
   have RD : Aside0 (RowsT wr 22 5 W3.heap.size (H + 1) (W0 + 1) bs ((N.take 0).foldl markT (dotsG (H + 1) (W0 + 1)))) := ⟨RA.out⟩
   have HLB : Aside0 (bs.length = H + 1) := ⟨HJ.out.2⟩
   clear RA HJ
   go_wp2
   clear d9
   go_loopg [36] N.length (fun kq v36 w' => ∃ (j : Nat), v36 = .int .i64 j ∧ Aside0 (kq + j = N.length) ∧ Aside0 (RowsT w' 22 5 W3.heap.size (H + 1) (W0 + 1) bs ((N.take j).foldl markT (dotsG (H + 1) (W0 + 1)))) ∧ Aside0 (Below W3.heap.size W3 w'))
   case atStart => exact ⟨0, rfl, ⟨rfl⟩, RD, HB⟩
   case round =>
    clear RD HB
    obtain ⟨j, rfl, HJ, RA, HB⟩ := hrel
    cases gk with
    | succ kk =>
     have hj : j < N.length := by have := HJ.out; omega
     have d0 : decide ((j : Int) < (N.length : Int)) = true := decide_eq_true (by omega)
     have d1 : decide (j < N.length) = true := decide_eq_true hj
     have q0 : (0 ≤ (j : Int)) = True := eq_true (by omega)
     have q1 : ((j : Int) < (N.length : Int)) = True := eq_true (by omega)
     have q2 : (j < N.length) = True := eq_true hj
     obtain ⟨ad, ea, hx0, hx1⟩ := at_T78 C3.out (j : Int) (by omega) (by omega)
     cases ea
     obtain ⟨x, y, ⟨ex, hx⟩, ey, hy⟩ := HCS.out N[j] (List.getElem_mem hj)
     simp only [Int.toNat_natCast, rd_memT N j hj, ex, ey] at hx0 hx1
     replace hx0 := (HB.out.cell (World.block_lt_of_cell? W3 _ hx0)).trans hx0
     replace hx1 := (HB.out.cell (World.block_lt_of_cell? W3 _ hx1)).trans hx1
     have hG : ((N.take j).foldl markT (dotsG (H + 1) (W0 + 1))).length = H + 1 := by rw [← RA.out.len, HLB.out]
     have hstep : (N.take (j + 1)).foldl markT (dotsG (H + 1) (W0 + 1)) = ((N.take j).foldl markT (dotsG (H + 1) (W0 + 1))).set y ((((N.take j).foldl markT (dotsG (H + 1) (W0 + 1))).getD y []).set x 35) := by
      rw [List.take_succ_eq_append_getElem hj, List.foldl_append, List.foldl_cons, List.foldl_nil]
      unfold markT
      rw [ex, ey, Int.toNat_natCast, Int.toNat_natCast]
     generalize (N.take j).foldl markT (dotsG (H + 1) (W0 + 1)) = G at RA hG hstep
     have hbl := below_alloc (Below.refl wr.heap.size wr) (.cells #[.int .i64 (x : Int), .int .i64 (y : Int)] 78)
     obtain ⟨b, hb, hrow⟩ := RA.out.get (y := y) (by omega)
     have hGr : (G.getD y []).length = W0 + 1 := RA.out.wide _ (by rw [List.getD_eq_getElem?_getD, List.getElem?_eq_getElem (by omega : y < G.length)]; exact List.getElem_mem (by omega))
     have c1 := (hbl.cell (World.block_lt_of_cell? wr _ hrow)).trans hrow
     have hcy := ((RA.out.below hbl).cell y b hb)
     have c2 := hcy.cell (i := x) (by rw [hGr]; omega)
     have f2 := hcy.thaw (i := x) (by rw [hGr]; omega)
     have n0 : (wr.alloc (.cells #[.int .i64 (x : Int), .int .i64 (y : Int)] 78)).cell? ⟨wr.heap.size, 0, none⟩ = some (.int .i64 (x : Int)) := (blk_cell (heap_alloc_new wr _) 0).trans rfl
     have n1 : (wr.alloc (.cells #[.int .i64 (x : Int), .int .i64 (y : Int)] 78)).cell? ⟨wr.heap.size, 1, none⟩ = some (.int .i64 (y : Int)) := (blk_cell (heap_alloc_new wr _) 1).trans rfl
     have hput := (RA.out.below hbl.drew).put hb (x := x) (by omega) 35
     rw [← hstep] at hput
     have G2 := Aside0.mk hput
     have B2 := Aside0.mk (((HB.out.alloc HB.out.size (.cells #[.int .i64 (x : Int), .int .i64 (y : Int)] 78)).drew).setCell (p := ⟨b.1, x, none⟩) (BB.out b (List.mem_of_getElem? hb)) (.int .u8 35))
     have e1 : decide (0 ≤ (x : Int)) = true := decide_eq_true (by omega)
     have e2 : decide ((x : Int) < ((W0 + 1 : Nat) : Int)) = true := decide_eq_true (by omega)
     have e3 : decide (0 ≤ (y : Int)) = true := decide_eq_true (by omega)
     have e4 : decide ((y : Int) < ((H + 1 : Nat) : Int)) = true := decide_eq_true (by omega)
     have hxx : (x : Int) < (W0 : Int) + 1 := by omega
     have hyy : (y : Int) < (H : Int) + 1 := by omega
     have hjw : wrap64 ((j : Int) + 1) = ((j + 1 : Nat) : Int) := by have := HNL.out; unfold wrap64; omega
     have HJW := Aside0.mk hjw
     clear hbl hcy hstep hput hG hGr hrow ex ey hx hy hb hjw
     go_wp2
     go_region
     go_wp2
     go_roundg kk
     case measure => omega
     case rel => exact ⟨j + 1, congrArg (Value.int .i64) HJW.out, ⟨by have := HJ.out; omega⟩, G2, B2⟩
    | zero =>
     obtain rfl : j = N.length := by have := HJ.out; omega
     have d0 : decide ((N.length : Int) < (N.length : Int)) = false := decide_eq_false (by omega)
     have d1 : decide (N.length < N.length) = false := decide_eq_false (by omega)
     rw [List.take_length] at RA
     have hGl : (N.foldl markT (dotsG (H + 1) (W0 + 1))).length = H + 1 := by rw [← RA.out.len, HLB.out]
     have HGL := Aside0.mk hGl
     clear hGl HCS C3
     generalize hGG : N.foldl markT (dotsG (H + 1) (W0 + 1)) = G at RA HT HGL
     have HGG := Aside0.mk hGG
     clear hGG
     obtain ⟨i1, hi, hzz⟩ := Option.map_eq_some_iff.1 infoStrT
     simp only [Prod.mk.injEq] at hzz
     obtain ⟨hz0, hz1, hz2⟩ := hzz
     have hwh := HHW.out
     have hmk : ∀ W' : World, (Instr.makeSlice 52 (.int .i64 ((H : Int) + 1)) (.int .i64 ((H : Int) + 1))).run Tryd.prog W' = .ok (.slice (some ⟨W'.heap.size, 0, none⟩) (H + 1) (H + 1)) (W'.alloc (.cells (List.replicate (H + 1) (Value.string ⟨#[]⟩)).toArray 9)) := fun W' => by
      have h := run_make (P := Tryd.prog) W' 52 9 i1 (.string ⟨#[]⟩) Tryd.underlying52 hi hz0 .i64 .i64 ((H : Int) + 1) ((H : Int) + 1) (by omega) (Int.le_refl _) (by rw [hz2]; omega) (by omega)
      rw [hz1, show ((H : Int) + 1).toNat = H + 1 by omega] at h
      simpa [made_reps, Value.cells] using h
     clear hi hz0 hz1 hz2 hwh
     go_wp2
     clear hmk d0 d1
     have T5 : Aside0 (TextsT (wr.alloc (.cells (Array.replicate (H + 1) (Value.string ⟨#[]⟩)) 9)) wr.heap.size (H + 1) (G.take 0)) := ⟨by simpa [TextsT] using heap_alloc_new wr (.cells (Array.replicate (H + 1) (Value.string ⟨#[]⟩)) 9)⟩
     have Y5 := Aside0.mk (below_alloc (Below.refl wr.heap.size wr) (.cells (Array.replicate (H + 1) (Value.string ⟨#[]⟩)) 9))
     have B5 := Aside0.mk (below_step B3.out HB.out)
     generalize wr.alloc (.cells (Array.replicate (H + 1) (Value.string ⟨#[]⟩)) 9) = W6 at T5 Y5 ⊢
     clear HB BB X3
     generalize W3.heap.size = R at RA ⊢
     obtain ⟨W5, hW5⟩ : ∃ W5, W5 = wr := ⟨_, rfl⟩
     subst hW5
     go_loopg [54] (H + 1) (fun kq v54 w' => ∃ (j : Nat), v54 = .int .i64 j ∧ Aside0 (kq + j = H + 1) ∧ Aside0 (TextsT w' W5.heap.size (H + 1) (G.take j)) ∧ Aside0 (Below W5.heap.size W5 w'))
     case atStart => exact ⟨0, rfl, ⟨rfl⟩, T5, Y5⟩
     case round =>
      clear T5 Y5
      obtain ⟨j, rfl, HJ, TA, HB⟩ := hrel
      cases gk with
      | succ kk =>
       have hj : j < H + 1 := by have := HJ.out; omega
       have hji : (j : Int) < (H : Int) + 1 := by omega
       have d0 : decide ((j : Int) < (H : Int) + 1) = true := decide_eq_true hji
       obtain ⟨b, hb, hrow⟩ := RA.out.get (y := j) (by rw [HGL.out]; exact hj)
       replace hrow := (HB.out.cell (World.block_lt_of_cell? W5 _ hrow)).trans hrow
       have hGr : (G.getD j []).length = W0 + 1 := RA.out.wide _ (by rw [List.getD_eq_getElem?_getD, List.getElem?_eq_getElem (by rw [HGL.out]; exact hj)]; exact List.getElem_mem (by rw [HGL.out]; exact hj))
       have hby := (RA.out.below HB.out).cell j b hb
       have hcv : (convert 22 9 (.slice (some ⟨b.1, 0, none⟩) (W0 + 1) b.2)).run Tryd.prog wr = .ok (.string (strOfNums (G.getD j []))) wr := string_of_reads Tryd.underlying22 Tryd.underlying5 Tryd.underlying9 ⟨hGr, by have := HHW.out; omega, fun _ => ⟨_, rfl, fun x hx => by rw [add_plain]; exact hby.cell (by rw [hGr]; exact hx)⟩⟩
       have c1 : wr.cell? ⟨W5.heap.size, j, none⟩ = some (.string ⟨#[]⟩) := by
        rw [blk_cell TA.out, List.getElem?_toArray, List.getElem?_append_right (by simp [List.length_take]; omega), List.getElem?_replicate, if_pos (by simp [List.length_take, HGL.out]; omega)]
       have f1 : wr.frozen? ⟨W5.heap.size, j, none⟩ = false := blk_frozen TA.out _
       have T7 := Aside0.mk (TextsT.next HGL.out hj TA.out)
       have Y7 := Aside0.mk (HB.out.setCell (p := ⟨W5.heap.size, j, none⟩) (Nat.le_refl _) (.string (strOfNums (G.getD j []))))
       have hjw : wrap64 ((j : Int) + 1) = ((j + 1 : Nat) : Int) := by have := HHW.out; unfold wrap64; omega
       have HJW := Aside0.mk hjw
       clear hby hGr hb hjw
       generalize G.getD j [] = row at hcv T7 Y7
       go_wp2
       go_roundg kk
       case measure => omega
       case rel => exact ⟨j + 1, congrArg (Value.int .i64) HJW.out, ⟨by have := HJ.out; omega⟩, T7, Y7⟩
      | zero =>
       obtain rfl : j = H + 1 := by have := HJ.out; omega
       have d9 : decide (((H + 1 : Nat) : Int) < (H : Int) + 1) = false := decide_eq_false (by omega)
       have hT := TA.out
       rw [List.take_of_length_le (by rw [HGL.out]; omega)] at hT
       unfold TextsT at hT
       rw [HGL.out, Nat.sub_self, List.replicate_zero, List.append_nil] at hT
       have hC : Kd.C Kd.string wr (some ⟨W5.heap.size, 0, none⟩) (G.map strOfNums).length (G.map strOfNums) := ⟨rfl, by rw [List.length_map, HGL.out]; have := HHW.out; omega, fun _ => ⟨_, rfl, fun p q hp => ⟨[.string q], rfl, rfl, fun i u hu => by
        match i, hu with
        | 0, hu =>
         cases hu
         show wr.cell? ((⟨W5.heap.size, 0, none⟩ : Addr).add (p * 1 + 0)) = _
         rw [add_plain, blk_cell hT, List.getElem?_toArray, Nat.mul_one, Nat.add_zero, List.getElem?_map]
         rw [List.getElem?_map] at hp
         cases hG : G[p]? with
         | none => rw [hG] at hp; cases hp
         | some z => rw [hG] at hp; cases hp; rfl⟩⟩⟩
       have hJn : strings_Join.f (G.map strOfNums) ⟨#[47]⟩ = some (textT G) := by
        unfold strings_Join.f
        rw [if_pos ⟨by rw [List.length_map, HGL.out]; have := HHW.out; omega, HT.out⟩]
        rfl
       have hcall := strings_Join.calls (some ⟨W5.heap.size, 0, none⟩) (H + 1) (G.map strOfNums) ⟨#[47]⟩ (textT G) wr hC (by rw [List.length_map, HGL.out]; exact Nat.le_refl _) hJn
       rw [List.length_map, HGL.out] at hcall
       have Y7 := Aside0.mk (below_step B5.out HB.out)
       clear hT hC hJn
       go_wp2_with (go_at_call 41; ((with_reducible refine hcall.mono ?_); rintro e w8 ⟨rfl, hb⟩; have B8 := Aside0.mk (below_step Y7.out hb); clear hb))
       go_ret
       exact ⟨by rw [HGG.out]; rfl, B8.out⟩
def impl_shapeText.f (k : Nat) (l0 : List S78) : Option ByteArray := (impl_normal.f k l0).bind fun N => (impl_reach.f k N).bind fun m => if okT N m.1 m.2 then some (textT (hashG N m.1 m.2)) else none
theorem impl_shapeText.mono : ∀ l0 k, LeO (impl_shapeText.f k l0) (impl_shapeText.f (k + 1) l0) := by
 intro l0 k
 unfold impl_shapeText.f
 exact LeO.bind (impl_normal.mono l0 k) (fun N => LeO.bind (impl_reach.mono N k) (fun _ => LeO.refl _))
theorem impl_shapeText.calls (k : Nat) (A0 : Option Addr) (c0 : Nat) (l0 : List S78) (r : ByteArray) (w : World) (hr0 : Kd.C k78 w A0 l0.length l0) (hc0 : l0.length ≤ c0) (h : impl_shapeText.f k l0 = some r) :
  Calls Tryd.prog 36 #[.slice A0 l0.length c0] w fun e w' => e = .returned (.string r) ∧ Below w.heap.size w w' := by
 obtain ⟨N, hN, h⟩ := Option.bind_eq_some_iff.1 h
 obtain ⟨⟨mx, my⟩, hM, h⟩ := Option.bind_eq_some_iff.1 h
 simp only at h
 by_cases hok : okT N mx my
 case neg => rw [if_neg hok] at h; cases h
 rw [if_pos hok] at h
 obtain rfl := Option.some.inj h
 obtain ⟨⟨⟨w0, w1⟩, h0, h1⟩, hl, hcs, ht⟩ := hok
 obtain ⟨W0, rfl⟩ := Int.eq_ofNat_of_zero_le w0
 obtain ⟨H, rfl⟩ := Int.eq_ofNat_of_zero_le h0
 unfold hashG at ht ⊢
 rw [show ((H : Int) + 1).toNat = H + 1 by omega, show ((W0 : Int) + 1).toNat = W0 + 1 by omega] at ht ⊢
 refine shapeText_walk k A0 c0 l0 N W0 H w hr0 hc0 hN hM (by omega) (by omega) hl (fun c hc => ?_) ht
 have hh := hcs c hc
 exact ⟨c.f0.toNat, c.f1.toNat, ⟨by omega, by omega⟩, by omega, by omega⟩


end Go.Proofs.YtopceddgiddhlaaDoor.PFnMirrored
