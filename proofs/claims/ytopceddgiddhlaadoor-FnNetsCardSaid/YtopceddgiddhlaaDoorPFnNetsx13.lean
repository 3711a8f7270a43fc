/- Over the kit's printer by a driver of mine (hprint.py), with parts by hand: functions of the program as Lean functions, and that each call comes to exactly these answers. -/
import Derived.Test.YtopceddgiddhlaaDoorPFnNetsx0
namespace Go.Proofs.YtopceddgiddhlaaDoor.PFnNets
open Go.RowKit Go.Proofs.YtopceddgiddhlaaDoorW.PrintWords Go.Proofs.YtopceddgiddhlaaDoorW.PrintLast Go.Proofs.YtopceddgiddhlaaDoorW.PrintMore
attribute [local go_sem] max2_int min2_int max_two min_two max_three min_three max_four min_four   -- for this text's walks alone
set_option linter.unusedVariables false
set_option linter.unusedSimpArgs false

/-! ### spec_l01Has: function 87 -/
def spec_l01Has.l0 : Nat → List Int → Int → Int → Option (Bool)
 | 0, _, _, _ => none
 | k + 1, x0, x1, x5 => if x5 < (x0.length : Int) then (if 0 ≤ x5 then (if (rd x0 x5) = x1 then (some true) else (spec_l01Has.l0 k x0 x1 (wrap64 (x5 + 1)))) else (none)) else (some false)
def spec_l01Has.f (k : Nat) (l0 : List Int) (a1 : Int) : Option (Bool) := spec_l01Has.l0 k l0 a1 0
theorem spec_l01Has.mono_l : ∀ k, (∀ y0 y1 y2, LeO (spec_l01Has.l0 k y0 y1 y2) (spec_l01Has.l0 (k + 1) y0 y1 y2))
 | 0 => fun _ _ _ r h => by simp [spec_l01Has.l0] at h
 | k + 1 => by
  have ih0 := spec_l01Has.mono_l k
  ·intro y0 y1 y2
   unfold spec_l01Has.l0
   with_reducible (repeat' first | exact ih0 _ _ _ | exact LeO.refl _ | exact LeO.none _ | refine LeO.ite ?_ ?_ | refine LeO.bind ?_ (fun _ => ?_))
theorem spec_l01Has.mono : ∀ a0 a1 k, LeO (spec_l01Has.f k a0 a1) (spec_l01Has.f (k + 1) a0 a1) := by
 intro a0 a1 k
 have ih0 := spec_l01Has.mono_l k
 unfold spec_l01Has.f
 with_reducible (repeat' first | exact ih0 _ _ _ | exact LeO.refl _ | exact LeO.none _ | refine LeO.ite ?_ ?_ | refine LeO.bind ?_ (fun _ => ?_))
set_option maxHeartbeats 8000000 in
set_option maxRecDepth 100000 in
theorem spec_l01Has.calls (k : Nat) (A0 : Option Addr) (c0 : Nat) (l0 : List Int) (a1 : Int) (r : Bool) (w : World) (hr0 : Kd.C (Kd.int .i64) w A0 l0.length l0) (hc0 : l0.length ≤ c0) (h : spec_l01Has.f k l0 a1 = some r) :
  Calls Tryd.prog 87 #[.slice A0 l0.length c0, .int .i64 a1] w fun e w' => e = .returned (.bool r) ∧ Drawn0 w w' := by
 have HR0 := Aside0.mk hr0
 have HC0 := Aside0.mk hc0
 clear hr0 hc0
 have H : (spec_l01Has.l0 k l0 a1 0) = some r := h
 clear h
 have H' := Aside0.mk H
 clear H
 go_enter Tryd.func87, Tryd.ntmps87
 go_wp2
 go_loopg [5] k (fun kq v5 w' => ∃ (x5_1 : Int), v5 = .int .i64 x5_1 ∧ Aside0 (spec_l01Has.l0 kq l0 a1 x5_1 = some r) ∧ Aside0 (kq ≤ k) ∧ Drawn0 w w')
 case atStart => exact ⟨(0), rs_, H', ⟨Nat.le_refl _⟩, by repeat (first | exact Drawn0.refl _ | apply Drawn0.step)⟩
 case round =>
  clear H'
  try clear p2
  obtain ⟨x5_1, rfl, HA, HK1, ⟨m1, rfl⟩⟩ := hrel
  cases gk with
  | zero => exact absurd HA.out (by simp [spec_l01Has.l0])
  | succ k1 =>
   have H := HA.out
   clear HA
   simp only [spec_l01Has.l0] at H
   by_cases c3 : x5_1 < (l0.length : Int)
   ·rw [if_pos c3] at H
    have c3b0 : decide (x5_1 < (l0.length : Int)) = true := decide_eq_true c3
    clear c3
    by_cases c4 : 0 ≤ x5_1
    ·rw [if_pos c4] at H
     have c4b0 : decide (0 ≤ x5_1) = true := decide_eq_true c4
     clear c4
     by_cases c5 : (rd l0 x5_1) = a1
     ·rw [if_pos c5] at H
      have c5b0 : ((rd l0 x5_1) == a1) = true := beq_iff_eq.mpr c5
      have c5b1 : ((rd l0 x5_1) != a1) = false := bne_eq_false_iff_eq.mpr c5
      clear c5
      obtain rfl := Option.some.inj H
      have p413 : 0 ≤ (x5_1 : Int) := od_
      have q413 : x5_1 < (l0.length : Int) := od_
      obtain ⟨ad413, e413, hx413_0⟩ := Kd.at_int HR0.out x5_1 p413 q413
      cases e413
      replace p413 := eq_true p413
      replace q413 := eq_true q413
      go_wp2
      go_ret
      exact ⟨by first | rfl | (simp; done) | (simp [*]; done), by repeat (first | exact Drawn0.refl _ | apply Drawn0.step)⟩
     ·rw [if_neg c5] at H
      have c5b0 : ((rd l0 x5_1) == a1) = false := beq_eq_false_iff_ne.mpr c5
      have c5b1 : ((rd l0 x5_1) != a1) = true := bne_iff_ne.mpr c5
      have H' := Aside0.mk H
      clear H
      have p413 : 0 ≤ (x5_1 : Int) := od_
      have q413 : x5_1 < (l0.length : Int) := od_
      obtain ⟨ad413, e413, hx413_0⟩ := Kd.at_int HR0.out x5_1 p413 q413
      cases e413
      replace p413 := eq_true p413
      replace q413 := eq_true q413
      go_wp2
      go_roundg k1
      case measure => have := HK1.out; omega
      case rel => exact ⟨(wrap64 (x5_1 + 1)), rs_, H', ⟨by have := HK1.out; omega⟩, by repeat (first | exact Drawn0.refl _ | apply Drawn0.step)⟩
    ·rw [if_neg c4] at H
     exact absurd H (by simp)
   ·rw [if_neg c3] at H
    have c3b0 : decide (x5_1 < (l0.length : Int)) = false := decide_eq_false c3
    clear c3
    obtain rfl := Option.some.inj H
    go_wp2
    go_ret
    exact ⟨by first | rfl | (simp; done) | (simp [*]; done), by repeat (first | exact Drawn0.refl _ | apply Drawn0.step)⟩

/-! ### spec_l32Roll: function 88 -/
def spec_l32Roll.f (a0_0 : Int) (a0_1 : Int) (a0_2 : Int) (a1 : Int) : Option (Int × Int × Int) := if a1 = 114 then (some (a0_1, wrap64 (5 - a0_0), a0_2)) else (if a1 = 100 then (some (a0_2, a0_1, wrap64 (5 - a0_0))) else (if a1 = 108 then (some (wrap64 (5 - a0_1), a0_0, a0_2)) else (some (wrap64 (5 - a0_2), a0_1, a0_0))))
set_option maxHeartbeats 8000000 in
set_option maxRecDepth 100000 in
theorem spec_l32Roll.calls (a0_0 : Int) (a0_1 : Int) (a0_2 : Int) (a1 : Int) (r1 : Int) (r2 : Int) (r3 : Int) (w : World) (h : spec_l32Roll.f a0_0 a0_1 a0_2 a1 = some (r1, r2, r3)) :
  Calls Tryd.prog 88 #[.agg #[.int .i64 a0_0, .int .i64 a0_1, .int .i64 a0_2], .int .u8 a1] w fun e w' => e = .returned (.agg #[.int .i64 r1, .int .i64 r2, .int .i64 r3]) ∧ Below w.heap.size w w' := by
 have hu71 := Tryd.underlying71
 have HB := a0_ (Below.refl w.heap.size w)
 have H := h
 clear h
 unfold spec_l32Roll.f at H
 by_cases c3 : a1 = 114
 ·rw [if_pos c3] at H
  have c3b0 : (a1 == 114) = true := beq_iff_eq.mpr c3
  have c3b1 : (a1 != 114) = false := bne_eq_false_iff_eq.mpr c3
  clear c3
  simp only [Option.some.injEq, Prod.mk.injEq] at H
  obtain ⟨rfl, rfl, rfl⟩ := H
  go_enter Tryd.func88, Tryd.ntmps88
  go_wp2_with (first | ((with_reducible refine gate_dst (N := 2) rfl ?_); refine bx_ (N := 2) (cs := #[.int .i64 a0_0, .int .i64 a0_1, .int .i64 a0_2]) (t := 71) ?_; intro gb414 hg w4 hbox hb; have BK414 := a0_ (hbox); have GW414 := a0_ ((sz_ hg (bl0_) : w.heap.size ≤ gb414)); have GE414 := a0_ ((sz_ hg (bl0_) : w.heap.size ≤ gb414)); replace HB := a0_ (below_step (bl0_) hb); clear hb hbox hg) | ((with_reducible refine gate_dst (N := 4) rfl ?_); refine bx_ (N := 4) (cs := #[.int .i64 0, .int .i64 0, .int .i64 0]) (t := 71) ?_; intro gb415 hg w5 hbox hb; have BK415 := a0_ (hbox); have GW415 := a0_ ((sz_ hg (bl1_ GE414.out) : w.heap.size ≤ gb415)); have GE415 := a0_ ((sz_ hg (bl1_ GE414.out) : w.heap.size ≤ gb415)); replace HB := a0_ (below_step (bl1_ GE414.out) hb); have NB414_415 := a0_ ((nl_ hg BK414.out : gb414 ≠ gb415)); have NB415_414 := a0_ ((ng_ hg BK414.out : gb415 ≠ gb414)); replace BK414 := a0_ (bb_ BK414.out hb); clear hb hbox hg; have hnb6 := NB414_415.out; have hnc6 := NB415_414.out; obtain ⟨hcz7_0, hcz7_1, hcz7_2, hfz7_0, hfz7_1, hfz7_2⟩ := bc3_ BK414.out; obtain ⟨hcz8_0, hcz8_1, hcz8_2, hfz8_0, hfz8_1, hfz8_2⟩ := bc3_ BK415.out))
  refine bodyPost_ret (results_cell_row rfl _ _ gb415 71 #[.int .i64 a0_1, .int .i64 (wrap64 (5 - a0_0)), .int .i64 a0_2] (0, 0) _ rfl (by (with_reducible repeat (first | refine blk_drewN ?_ _ | refine blk_drew ?_ | refine blk_alloc ?_ _)); refine blk_put (cs := #[.int .i64 a0_1, .int .i64 (wrap64 (5 - a0_0)), .int .i64 0]) ?_ 2 _ rfl; (with_reducible repeat (first | refine blk_drewN ?_ _ | refine blk_drew ?_ | refine blk_alloc ?_ _)); refine blk_put (cs := #[.int .i64 a0_1, .int .i64 0, .int .i64 0]) ?_ 1 _ rfl; (with_reducible repeat (first | refine blk_drewN ?_ _ | refine blk_drew ?_ | refine blk_alloc ?_ _)); refine blk_put (cs := #[.int .i64 0, .int .i64 0, .int .i64 0]) ?_ 0 _ rfl; (with_reducible repeat (first | refine blk_drewN ?_ _ | refine blk_drew ?_ | refine blk_alloc ?_ _)); exact BK415.out) Tryd.underlying71 rfl kr_) rfl ?_
  exact ⟨er_, bl2_ GE414.out GE415.out⟩
 ·rw [if_neg c3] at H
  have c3b0 : (a1 == 114) = false := beq_eq_false_iff_ne.mpr c3
  have c3b1 : (a1 != 114) = true := bne_iff_ne.mpr c3
  by_cases c9 : a1 = 100
  ·rw [if_pos c9] at H
   have c9b0 : (a1 == 100) = true := beq_iff_eq.mpr c9
   have c9b1 : (a1 != 100) = false := bne_eq_false_iff_eq.mpr c9
   clear c9
   simp only [Option.some.injEq, Prod.mk.injEq] at H
   obtain ⟨rfl, rfl, rfl⟩ := H
   go_enter Tryd.func88, Tryd.ntmps88
   go_wp2_with (first | ((with_reducible refine gate_dst (N := 2) rfl ?_); refine bx_ (N := 2) (cs := #[.int .i64 a0_0, .int .i64 a0_1, .int .i64 a0_2]) (t := 71) ?_; intro gb414 hg w10 hbox hb; have BK414 := a0_ (hbox); have GW414 := a0_ ((sz_ hg (bl0_) : w.heap.size ≤ gb414)); have GE414 := a0_ ((sz_ hg (bl0_) : w.heap.size ≤ gb414)); replace HB := a0_ (below_step (bl0_) hb); clear hb hbox hg) | ((with_reducible refine gate_dst (N := 4) rfl ?_); refine bx_ (N := 4) (cs := #[.int .i64 0, .int .i64 0, .int .i64 0]) (t := 71) ?_; intro gb415 hg w11 hbox hb; have BK415 := a0_ (hbox); have GW415 := a0_ ((sz_ hg (bl1_ GE414.out) : w.heap.size ≤ gb415)); have GE415 := a0_ ((sz_ hg (bl1_ GE414.out) : w.heap.size ≤ gb415)); replace HB := a0_ (below_step (bl1_ GE414.out) hb); have NB414_415 := a0_ ((nl_ hg BK414.out : gb414 ≠ gb415)); have NB415_414 := a0_ ((ng_ hg BK414.out : gb415 ≠ gb414)); replace BK414 := a0_ (bb_ BK414.out hb); clear hb hbox hg; have hnb12 := NB414_415.out; have hnc12 := NB415_414.out; obtain ⟨hcz13_0, hcz13_1, hcz13_2, hfz13_0, hfz13_1, hfz13_2⟩ := bc3_ BK414.out; obtain ⟨hcz14_0, hcz14_1, hcz14_2, hfz14_0, hfz14_1, hfz14_2⟩ := bc3_ BK415.out))
   refine bodyPost_ret (results_cell_row rfl _ _ gb415 71 #[.int .i64 a0_2, .int .i64 a0_1, .int .i64 (wrap64 (5 - a0_0))] (0, 0) _ rfl (by (with_reducible repeat (first | refine blk_drewN ?_ _ | refine blk_drew ?_ | refine blk_alloc ?_ _)); refine blk_put (cs := #[.int .i64 a0_2, .int .i64 a0_1, .int .i64 0]) ?_ 2 _ rfl; (with_reducible repeat (first | refine blk_drewN ?_ _ | refine blk_drew ?_ | refine blk_alloc ?_ _)); refine blk_put (cs := #[.int .i64 a0_2, .int .i64 0, .int .i64 0]) ?_ 1 _ rfl; (with_reducible repeat (first | refine blk_drewN ?_ _ | refine blk_drew ?_ | refine blk_alloc ?_ _)); refine blk_put (cs := #[.int .i64 0, .int .i64 0, .int .i64 0]) ?_ 0 _ rfl; (with_reducible repeat (first | refine blk_drewN ?_ _ | refine blk_drew ?_ | refine blk_alloc ?_ _)); exact BK415.out) Tryd.underlying71 rfl kr_) rfl ?_
   exact ⟨er_, bl2_ GE414.out GE415.out⟩
  ·rw [if_neg c9] at H
   have c9b0 : (a1 == 100) = false := beq_eq_false_iff_ne.mpr c9
   have c9b1 : (a1 != 100) = true := bne_iff_ne.mpr c9
   by_cases c15 : a1 = 108
   ·rw [if_pos c15] at H
    have c15b0 : (a1 == 108) = true := beq_iff_eq.mpr c15
    have c15b1 : (a1 != 108) = false := bne_eq_false_iff_eq.mpr c15
    clear c15
    simp only [Option.some.injEq, Prod.mk.injEq] at H
    obtain ⟨rfl, rfl, rfl⟩ := H
    go_enter Tryd.func88, Tryd.ntmps88
    go_wp2_with (first | ((with_reducible refine gate_dst (N := 2) rfl ?_); refine bx_ (N := 2) (cs := #[.int .i64 a0_0, .int .i64 a0_1, .int .i64 a0_2]) (t := 71) ?_; intro gb414 hg w16 hbox hb; have BK414 := a0_ (hbox); have GW414 := a0_ ((sz_ hg (bl0_) : w.heap.size ≤ gb414)); have GE414 := a0_ ((sz_ hg (bl0_) : w.heap.size ≤ gb414)); replace HB := a0_ (below_step (bl0_) hb); clear hb hbox hg) | ((with_reducible refine gate_dst (N := 4) rfl ?_); refine bx_ (N := 4) (cs := #[.int .i64 0, .int .i64 0, .int .i64 0]) (t := 71) ?_; intro gb415 hg w17 hbox hb; have BK415 := a0_ (hbox); have GW415 := a0_ ((sz_ hg (bl1_ GE414.out) : w.heap.size ≤ gb415)); have GE415 := a0_ ((sz_ hg (bl1_ GE414.out) : w.heap.size ≤ gb415)); replace HB := a0_ (below_step (bl1_ GE414.out) hb); have NB414_415 := a0_ ((nl_ hg BK414.out : gb414 ≠ gb415)); have NB415_414 := a0_ ((ng_ hg BK414.out : gb415 ≠ gb414)); replace BK414 := a0_ (bb_ BK414.out hb); clear hb hbox hg; have hnb18 := NB414_415.out; have hnc18 := NB415_414.out; obtain ⟨hcz19_0, hcz19_1, hcz19_2, hfz19_0, hfz19_1, hfz19_2⟩ := bc3_ BK414.out; obtain ⟨hcz20_0, hcz20_1, hcz20_2, hfz20_0, hfz20_1, hfz20_2⟩ := bc3_ BK415.out))
    refine bodyPost_ret (results_cell_row rfl _ _ gb415 71 #[.int .i64 (wrap64 (5 - a0_1)), .int .i64 a0_0, .int .i64 a0_2] (0, 0) _ rfl (by (with_reducible repeat (first | refine blk_drewN ?_ _ | refine blk_drew ?_ | refine blk_alloc ?_ _)); refine blk_put (cs := #[.int .i64 (wrap64 (5 - a0_1)), .int .i64 a0_0, .int .i64 0]) ?_ 2 _ rfl; (with_reducible repeat (first | refine blk_drewN ?_ _ | refine blk_drew ?_ | refine blk_alloc ?_ _)); refine blk_put (cs := #[.int .i64 (wrap64 (5 - a0_1)), .int .i64 0, .int .i64 0]) ?_ 1 _ rfl; (with_reducible repeat (first | refine blk_drewN ?_ _ | refine blk_drew ?_ | refine blk_alloc ?_ _)); refine blk_put (cs := #[.int .i64 0, .int .i64 0, .int .i64 0]) ?_ 0 _ rfl; (with_reducible repeat (first | refine blk_drewN ?_ _ | refine blk_drew ?_ | refine blk_alloc ?_ _)); exact BK415.out) Tryd.underlying71 rfl kr_) rfl ?_
    exact ⟨er_, bl2_ GE414.out GE415.out⟩
   ·rw [if_neg c15] at H
    have c15b0 : (a1 == 108) = false := beq_eq_false_iff_ne.mpr c15
    have c15b1 : (a1 != 108) = true := bne_iff_ne.mpr c15
    simp only [Option.some.injEq, Prod.mk.injEq] at H
    obtain ⟨rfl, rfl, rfl⟩ := H
    go_enter Tryd.func88, Tryd.ntmps88
    go_wp2_with (first | ((with_reducible refine gate_dst (N := 2) rfl ?_); refine bx_ (N := 2) (cs := #[.int .i64 a0_0, .int .i64 a0_1, .int .i64 a0_2]) (t := 71) ?_; intro gb414 hg w21 hbox hb; have BK414 := a0_ (hbox); have GW414 := a0_ ((sz_ hg (bl0_) : w.heap.size ≤ gb414)); have GE414 := a0_ ((sz_ hg (bl0_) : w.heap.size ≤ gb414)); replace HB := a0_ (below_step (bl0_) hb); clear hb hbox hg) | ((with_reducible refine gate_dst (N := 4) rfl ?_); refine bx_ (N := 4) (cs := #[.int .i64 0, .int .i64 0, .int .i64 0]) (t := 71) ?_; intro gb415 hg w22 hbox hb; have BK415 := a0_ (hbox); have GW415 := a0_ ((sz_ hg (bl1_ GE414.out) : w.heap.size ≤ gb415)); have GE415 := a0_ ((sz_ hg (bl1_ GE414.out) : w.heap.size ≤ gb415)); replace HB := a0_ (below_step (bl1_ GE414.out) hb); have NB414_415 := a0_ ((nl_ hg BK414.out : gb414 ≠ gb415)); have NB415_414 := a0_ ((ng_ hg BK414.out : gb415 ≠ gb414)); replace BK414 := a0_ (bb_ BK414.out hb); clear hb hbox hg; have hnb23 := NB414_415.out; have hnc23 := NB415_414.out; obtain ⟨hcz24_0, hcz24_1, hcz24_2, hfz24_0, hfz24_1, hfz24_2⟩ := bc3_ BK414.out; obtain ⟨hcz25_0, hcz25_1, hcz25_2, hfz25_0, hfz25_1, hfz25_2⟩ := bc3_ BK415.out))
    refine bodyPost_ret (results_cell_row rfl _ _ gb415 71 #[.int .i64 (wrap64 (5 - a0_2)), .int .i64 a0_1, .int .i64 a0_0] (0, 0) _ rfl (by (with_reducible repeat (first | refine blk_drewN ?_ _ | refine blk_drew ?_ | refine blk_alloc ?_ _)); refine blk_put (cs := #[.int .i64 (wrap64 (5 - a0_2)), .int .i64 a0_1, .int .i64 0]) ?_ 2 _ rfl; (with_reducible repeat (first | refine blk_drewN ?_ _ | refine blk_drew ?_ | refine blk_alloc ?_ _)); refine blk_put (cs := #[.int .i64 (wrap64 (5 - a0_2)), .int .i64 0, .int .i64 0]) ?_ 1 _ rfl; (with_reducible repeat (first | refine blk_drewN ?_ _ | refine blk_drew ?_ | refine blk_alloc ?_ _)); refine blk_put (cs := #[.int .i64 0, .int .i64 0, .int .i64 0]) ?_ 0 _ rfl; (with_reducible repeat (first | refine blk_drewN ?_ _ | refine blk_drew ?_ | refine blk_alloc ?_ _)); exact BK415.out) Tryd.underlying71 rfl kr_) rfl ?_
    exact ⟨er_, bl2_ GE414.out GE415.out⟩

end Go.Proofs.YtopceddgiddhlaaDoor.PFnNets
