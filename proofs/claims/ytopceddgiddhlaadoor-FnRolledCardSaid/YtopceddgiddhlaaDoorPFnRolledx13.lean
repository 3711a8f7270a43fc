/- Over the kit's printer by a driver of mine (hprint.py), with parts by hand: functions of the program as Lean functions, and that each call comes to exactly these answers. -/
import Derived.Test.YtopceddgiddhlaaDoorPFnRolledx0
import Derived.Test.YtopceddgiddhlaaDoorPFnRolledx1
import Derived.Test.YtopceddgiddhlaaDoorPFnRolledx3
import Derived.Test.YtopceddgiddhlaaDoorPFnRolledx12
namespace Go.Proofs.YtopceddgiddhlaaDoor.PFnRolled
open Go.RowKit Go.Proofs.YtopceddgiddhlaaDoorW.PrintWords Go.Proofs.YtopceddgiddhlaaDoorW.PrintLast Go.Proofs.YtopceddgiddhlaaDoorW.PrintMore
attribute [local go_sem] max2_int min2_int max_two min_two max_three min_three max_four min_four   -- for this text's walks alone
set_option linter.unusedVariables false
set_option linter.unusedSimpArgs false

attribute [local go_sem high] eqA71
/-! ### spec_l23Is: function 56 -/
def spec_l23Is.l0 : Nat → ByteArray → Int → Option (Bool)
 | 0, _, _ => none
 | k + 1, x0, x3 => if x3 < (x0.size : Int) then (if 0 ≤ x3 then (if (bt x0 x3) = 114 then (spec_l23Is.l0 k x0 (wrap64 (x3 + 1))) else (if (bt x0 x3) = 100 then (spec_l23Is.l0 k x0 (wrap64 (x3 + 1))) else (if (bt x0 x3) = 108 then (spec_l23Is.l0 k x0 (wrap64 (x3 + 1))) else (if (bt x0 x3) = 117 then (spec_l23Is.l0 k x0 (wrap64 (x3 + 1))) else (some false))))) else (none)) else (some (decide ((x0.size : Int) ≤ 200)))
def spec_l23Is.f (k : Nat) (a0 : ByteArray) : Option (Bool) := spec_l23Is.l0 k a0 0
theorem spec_l23Is.mono_l : ∀ k, (∀ y0 y1, LeO (spec_l23Is.l0 k y0 y1) (spec_l23Is.l0 (k + 1) y0 y1))
 | 0 => fun _ _ r h => by simp [spec_l23Is.l0] at h
 | k + 1 => by
  have ih0 := spec_l23Is.mono_l k
  ·intro y0 y1
   unfold spec_l23Is.l0
   with_reducible (repeat' first | exact ih0 _ _ | exact LeO.refl _ | exact LeO.none _ | refine LeO.ite ?_ ?_ | refine LeO.bind ?_ (fun _ => ?_))
theorem spec_l23Is.mono : ∀ a0 k, LeO (spec_l23Is.f k a0) (spec_l23Is.f (k + 1) a0) := by
 intro a0 k
 have ih0 := spec_l23Is.mono_l k
 unfold spec_l23Is.f
 with_reducible (repeat' first | exact ih0 _ _ | exact LeO.refl _ | exact LeO.none _ | refine LeO.ite ?_ ?_ | refine LeO.bind ?_ (fun _ => ?_))
set_option maxHeartbeats 8000000 in
set_option maxRecDepth 100000 in
theorem spec_l23Is.calls (k : Nat) (a0 : ByteArray) (r : Bool) (w : World) (h : spec_l23Is.f k a0 = some r) :
  Calls Tryd.prog 56 #[.string a0] w fun e w' => e = .returned (.bool r) ∧ Drawn0 w w' := by
 have H : (spec_l23Is.l0 k a0 0) = some r := h
 clear h
 have H' := Aside0.mk H
 clear H
 go_enter Tryd.func56, Tryd.ntmps56
 go_wp2
 go_loopg [3] k (fun kq v3 w' => ∃ (x3_1 : Int), v3 = .int .i64 x3_1 ∧ Aside0 (spec_l23Is.l0 kq a0 x3_1 = some r) ∧ Aside0 (kq ≤ k) ∧ Drawn0 w w')
 case atStart => exact ⟨(0), rs_, H', ⟨Nat.le_refl _⟩, by repeat (first | exact Drawn0.refl _ | apply Drawn0.step)⟩
 case round =>
  clear H'
  obtain ⟨x3_1, rfl, HA, HK1, ⟨m1, rfl⟩⟩ := hrel
  cases gk with
  | zero => exact absurd HA.out (by simp [spec_l23Is.l0])
  | succ k1 =>
   have H := HA.out
   clear HA
   simp only [spec_l23Is.l0] at H
   by_cases c2 : x3_1 < (a0.size : Int)
   ·rw [if_pos c2] at H
    have c2b0 : decide (x3_1 < (a0.size : Int)) = true := decide_eq_true c2
    clear c2
    by_cases c3 : 0 ≤ x3_1
    ·rw [if_pos c3] at H
     have c3b0 : decide (0 ≤ x3_1) = true := decide_eq_true c3
     clear c3
     by_cases c5 : (bt a0 x3_1) = 114
     ·rw [if_pos c5] at H
      have c5b0 : ((bt a0 x3_1) == 114) = true := beq_iff_eq.mpr c5
      have c5b1 : ((bt a0 x3_1) != 114) = false := bne_eq_false_iff_eq.mpr c5
      clear c5
      have H' := Aside0.mk H
      clear H
      have p4 : 0 ≤ (x3_1 : Int) := od_
      have q4 : x3_1 < (a0.size : Int) := od_
      have hx4 := bt_at a0 x3_1
      replace p4 := eq_true p4
      replace q4 := eq_true q4
      go_wp2
      go_roundg k1
      case measure => have := HK1.out; omega
      case rel => exact ⟨(wrap64 (x3_1 + 1)), rs_, H', ⟨by have := HK1.out; omega⟩, by repeat (first | exact Drawn0.refl _ | apply Drawn0.step)⟩
     ·rw [if_neg c5] at H
      have c5b0 : ((bt a0 x3_1) == 114) = false := beq_eq_false_iff_ne.mpr c5
      have c5b1 : ((bt a0 x3_1) != 114) = true := bne_iff_ne.mpr c5
      by_cases c7 : (bt a0 x3_1) = 100
      ·rw [if_pos c7] at H
       have c7b0 : ((bt a0 x3_1) == 100) = true := beq_iff_eq.mpr c7
       have c7b1 : ((bt a0 x3_1) != 100) = false := bne_eq_false_iff_eq.mpr c7
       clear c7
       have H' := Aside0.mk H
       clear H
       have p4 : 0 ≤ (x3_1 : Int) := od_
       have q4 : x3_1 < (a0.size : Int) := od_
       have hx4 := bt_at a0 x3_1
       replace p4 := eq_true p4
       replace q4 := eq_true q4
       have p6 : 0 ≤ (x3_1 : Int) := od_
       have q6 : x3_1 < (a0.size : Int) := od_
       have hx6 := bt_at a0 x3_1
       replace p6 := eq_true p6
       replace q6 := eq_true q6
       go_wp2
       go_roundg k1
       case measure => have := HK1.out; omega
       case rel => exact ⟨(wrap64 (x3_1 + 1)), rs_, H', ⟨by have := HK1.out; omega⟩, by repeat (first | exact Drawn0.refl _ | apply Drawn0.step)⟩
      ·rw [if_neg c7] at H
       have c7b0 : ((bt a0 x3_1) == 100) = false := beq_eq_false_iff_ne.mpr c7
       have c7b1 : ((bt a0 x3_1) != 100) = true := bne_iff_ne.mpr c7
       by_cases c9 : (bt a0 x3_1) = 108
       ·rw [if_pos c9] at H
        have c9b0 : ((bt a0 x3_1) == 108) = true := beq_iff_eq.mpr c9
        have c9b1 : ((bt a0 x3_1) != 108) = false := bne_eq_false_iff_eq.mpr c9
        clear c9
        have H' := Aside0.mk H
        clear H
        have p4 : 0 ≤ (x3_1 : Int) := od_
        have q4 : x3_1 < (a0.size : Int) := od_
        have hx4 := bt_at a0 x3_1
        replace p4 := eq_true p4
        replace q4 := eq_true q4
        have p6 : 0 ≤ (x3_1 : Int) := od_
        have q6 : x3_1 < (a0.size : Int) := od_
        have hx6 := bt_at a0 x3_1
        replace p6 := eq_true p6
        replace q6 := eq_true q6
        have p8 : 0 ≤ (x3_1 : Int) := od_
        have q8 : x3_1 < (a0.size : Int) := od_
        have hx8 := bt_at a0 x3_1
        replace p8 := eq_true p8
        replace q8 := eq_true q8
        go_wp2
        go_roundg k1
        case measure => have := HK1.out; omega
        case rel => exact ⟨(wrap64 (x3_1 + 1)), rs_, H', ⟨by have := HK1.out; omega⟩, by repeat (first | exact Drawn0.refl _ | apply Drawn0.step)⟩
       ·rw [if_neg c9] at H
        have c9b0 : ((bt a0 x3_1) == 108) = false := beq_eq_false_iff_ne.mpr c9
        have c9b1 : ((bt a0 x3_1) != 108) = true := bne_iff_ne.mpr c9
        by_cases c11 : (bt a0 x3_1) = 117
        ·rw [if_pos c11] at H
         have c11b0 : ((bt a0 x3_1) == 117) = true := beq_iff_eq.mpr c11
         have c11b1 : ((bt a0 x3_1) != 117) = false := bne_eq_false_iff_eq.mpr c11
         clear c11
         have H' := Aside0.mk H
         clear H
         have p4 : 0 ≤ (x3_1 : Int) := od_
         have q4 : x3_1 < (a0.size : Int) := od_
         have hx4 := bt_at a0 x3_1
         replace p4 := eq_true p4
         replace q4 := eq_true q4
         have p6 : 0 ≤ (x3_1 : Int) := od_
         have q6 : x3_1 < (a0.size : Int) := od_
         have hx6 := bt_at a0 x3_1
         replace p6 := eq_true p6
         replace q6 := eq_true q6
         have p8 : 0 ≤ (x3_1 : Int) := od_
         have q8 : x3_1 < (a0.size : Int) := od_
         have hx8 := bt_at a0 x3_1
         replace p8 := eq_true p8
         replace q8 := eq_true q8
         have p10 : 0 ≤ (x3_1 : Int) := od_
         have q10 : x3_1 < (a0.size : Int) := od_
         have hx10 := bt_at a0 x3_1
         replace p10 := eq_true p10
         replace q10 := eq_true q10
         go_wp2
         go_roundg k1
         case measure => have := HK1.out; omega
         case rel => exact ⟨(wrap64 (x3_1 + 1)), rs_, H', ⟨by have := HK1.out; omega⟩, by repeat (first | exact Drawn0.refl _ | apply Drawn0.step)⟩
        ·rw [if_neg c11] at H
         have c11b0 : ((bt a0 x3_1) == 117) = false := beq_eq_false_iff_ne.mpr c11
         have c11b1 : ((bt a0 x3_1) != 117) = true := bne_iff_ne.mpr c11
         obtain rfl := Option.some.inj H
         have p4 : 0 ≤ (x3_1 : Int) := od_
         have q4 : x3_1 < (a0.size : Int) := od_
         have hx4 := bt_at a0 x3_1
         replace p4 := eq_true p4
         replace q4 := eq_true q4
         have p6 : 0 ≤ (x3_1 : Int) := od_
         have q6 : x3_1 < (a0.size : Int) := od_
         have hx6 := bt_at a0 x3_1
         replace p6 := eq_true p6
         replace q6 := eq_true q6
         have p8 : 0 ≤ (x3_1 : Int) := od_
         have q8 : x3_1 < (a0.size : Int) := od_
         have hx8 := bt_at a0 x3_1
         replace p8 := eq_true p8
         replace q8 := eq_true q8
         have p10 : 0 ≤ (x3_1 : Int) := od_
         have q10 : x3_1 < (a0.size : Int) := od_
         have hx10 := bt_at a0 x3_1
         replace p10 := eq_true p10
         replace q10 := eq_true q10
         go_wp2
         go_ret
         exact ⟨by first | rfl | (simp; done) | (simp [*]; done), by repeat (first | exact Drawn0.refl _ | apply Drawn0.step)⟩
    ·rw [if_neg c3] at H
     exact absurd H (by simp)
   ·rw [if_neg c2] at H
    have c2b0 : decide (x3_1 < (a0.size : Int)) = false := decide_eq_false c2
    clear c2
    obtain rfl := Option.some.inj H
    go_wp2
    go_ret
    exact ⟨by first | rfl | (simp; done) | (simp [*]; done), by repeat (first | exact Drawn0.refl _ | apply Drawn0.step)⟩

/-! ### spec_l32Roll: function 88 -/
def spec_l32Roll.f (a0_0 : Int) (a0_1 : Int) (a0_2 : Int) (a1 : Int) : Option (Int × Int × Int) := if a1 = 114 then (some (a0_1, wrap64 (5 - a0_0), a0_2)) else (if a1 = 100 then (some (a0_2, a0_1, wrap64 (5 - a0_0))) else (if a1 = 108 then (some (wrap64 (5 - a0_1), a0_0, a0_2)) else (some (wrap64 (5 - a0_2), a0_1, a0_0))))
set_option maxHeartbeats 8000000 in
set_option maxRecDepth 100000 in
theorem spec_l32Roll.calls (a0_0 : Int) (a0_1 : Int) (a0_2 : Int) (a1 : Int) (r1 : Int) (r2 : Int) (r3 : Int) (w : World) (h : spec_l32Roll.f a0_0 a0_1 a0_2 a1 = some (r1, r2, r3)) :
  Calls Tryd.prog 88 #[.agg #[.int .i64 a0_0, .int .i64 a0_1, .int .i64 a0_2], .int .u8 a1] w fun e w' => e = .returned (.agg #[.int .i64 r1, .int .i64 r2, .int .i64 r3]) ∧ Below w.heap.size w w' := by
 have hu71 := Tryd.underlying71
 have HB := a0_ (Below.refl w.heap.size w)
 have H := h
 clear h
 unfold spec_l32Roll.f at H
 by_cases c3 : a1 = 114
 ·rw [if_pos c3] at H
  have c3b0 : (a1 == 114) = true := beq_iff_eq.mpr c3
  have c3b1 : (a1 != 114) = false := bne_eq_false_iff_eq.mpr c3
  clear c3
  simp only [Option.some.injEq, Prod.mk.injEq] at H
  obtain ⟨rfl, rfl, rfl⟩ := H
  go_enter Tryd.func88, Tryd.ntmps88
  go_wp2_with (first | ((with_reducible refine gate_dst (N := 2) rfl ?_); refine bx_ (N := 2) (cs := #[.int .i64 a0_0, .int .i64 a0_1, .int .i64 a0_2]) (t := 71) ?_; intro gb345 hg w4 hbox hb; have BK345 := a0_ (hbox); have GW345 := a0_ ((sz_ hg (bl0_) : w.heap.size ≤ gb345)); have GE345 := a0_ ((sz_ hg (bl0_) : w.heap.size ≤ gb345)); replace HB := a0_ (below_step (bl0_) hb); clear hb hbox hg) | ((with_reducible refine gate_dst (N := 4) rfl ?_); refine bx_ (N := 4) (cs := #[.int .i64 0, .int .i64 0, .int .i64 0]) (t := 71) ?_; intro gb346 hg w5 hbox hb; have BK346 := a0_ (hbox); have GW346 := a0_ ((sz_ hg (bl1_ GE345.out) : w.heap.size ≤ gb346)); have GE346 := a0_ ((sz_ hg (bl1_ GE345.out) : w.heap.size ≤ gb346)); replace HB := a0_ (below_step (bl1_ GE345.out) hb); have NB345_346 := a0_ ((nl_ hg BK345.out : gb345 ≠ gb346)); have NB346_345 := a0_ ((ng_ hg BK345.out : gb346 ≠ gb345)); replace BK345 := a0_ (bb_ BK345.out hb); clear hb hbox hg; have hnb6 := NB345_346.out; have hnc6 := NB346_345.out; obtain ⟨hcz7_0, hcz7_1, hcz7_2, hfz7_0, hfz7_1, hfz7_2⟩ := bc3_ BK345.out; obtain ⟨hcz8_0, hcz8_1, hcz8_2, hfz8_0, hfz8_1, hfz8_2⟩ := bc3_ BK346.out))
  refine bodyPost_ret (results_cell_row rfl _ _ gb346 71 #[.int .i64 a0_1, .int .i64 (wrap64 (5 - a0_0)), .int .i64 a0_2] (0, 0) _ rfl (by (with_reducible repeat (first | refine blk_drewN ?_ _ | refine blk_drew ?_ | refine blk_alloc ?_ _)); refine blk_put (cs := #[.int .i64 a0_1, .int .i64 (wrap64 (5 - a0_0)), .int .i64 0]) ?_ 2 _ rfl; (with_reducible repeat (first | refine blk_drewN ?_ _ | refine blk_drew ?_ | refine blk_alloc ?_ _)); refine blk_put (cs := #[.int .i64 a0_1, .int .i64 0, .int .i64 0]) ?_ 1 _ rfl; (with_reducible repeat (first | refine blk_drewN ?_ _ | refine blk_drew ?_ | refine blk_alloc ?_ _)); refine blk_put (cs := #[.int .i64 0, .int .i64 0, .int .i64 0]) ?_ 0 _ rfl; (with_reducible repeat (first | refine blk_drewN ?_ _ | refine blk_drew ?_ | refine blk_alloc ?_ _)); exact BK346.out) Tryd.underlying71 rfl kr_) rfl ?_
  exact ⟨er_, bl2_ GE345.out GE346.out⟩
 ·rw [if_neg c3] at H
  have c3b0 : (a1 == 114) = false := beq_eq_false_iff_ne.mpr c3
  have c3b1 : (a1 != 114) = true := bne_iff_ne.mpr c3
  by_cases c9 : a1 = 100
  ·rw [if_pos c9] at H
   have c9b0 : (a1 == 100) = true := beq_iff_eq.mpr c9
   have c9b1 : (a1 != 100) = false := bne_eq_false_iff_eq.mpr c9
   clear c9
   simp only [Option.some.injEq, Prod.mk.injEq] at H
   obtain ⟨rfl, rfl, rfl⟩ := H
   go_enter Tryd.func88, Tryd.ntmps88
   go_wp2_with (first | ((with_reducible refine gate_dst (N := 2) rfl ?_); refine bx_ (N := 2) (cs := #[.int .i64 a0_0, .int .i64 a0_1, .int .i64 a0_2]) (t := 71) ?_; intro gb345 hg w10 hbox hb; have BK345 := a0_ (hbox); have GW345 := a0_ ((sz_ hg (bl0_) : w.heap.size ≤ gb345)); have GE345 := a0_ ((sz_ hg (bl0_) : w.heap.size ≤ gb345)); replace HB := a0_ (below_step (bl0_) hb); clear hb hbox hg) | ((with_reducible refine gate_dst (N := 4) rfl ?_); refine bx_ (N := 4) (cs := #[.int .i64 0, .int .i64 0, .int .i64 0]) (t := 71) ?_; intro gb346 hg w11 hbox hb; have BK346 := a0_ (hbox); have GW346 := a0_ ((sz_ hg (bl1_ GE345.out) : w.heap.size ≤ gb346)); have GE346 := a0_ ((sz_ hg (bl1_ GE345.out) : w.heap.size ≤ gb346)); replace HB := a0_ (below_step (bl1_ GE345.out) hb); have NB345_346 := a0_ ((nl_ hg BK345.out : gb345 ≠ gb346)); have NB346_345 := a0_ ((ng_ hg BK345.out : gb346 ≠ gb345)); replace BK345 := a0_ (bb_ BK345.out hb); clear hb hbox hg; have hnb12 := NB345_346.out; have hnc12 := NB346_345.out; obtain ⟨hcz13_0, hcz13_1, hcz13_2, hfz13_0, hfz13_1, hfz13_2⟩ := bc3_ BK345.out; obtain ⟨hcz14_0, hcz14_1, hcz14_2, hfz14_0, hfz14_1, hfz14_2⟩ := bc3_ BK346.out))
   refine bodyPost_ret (results_cell_row rfl _ _ gb346 71 #[.int .i64 a0_2, .int .i64 a0_1, .int .i64 (wrap64 (5 - a0_0))] (0, 0) _ rfl (by (with_reducible repeat (first | refine blk_drewN ?_ _ | refine blk_drew ?_ | refine blk_alloc ?_ _)); refine blk_put (cs := #[.int .i64 a0_2, .int .i64 a0_1, .int .i64 0]) ?_ 2 _ rfl; (with_reducible repeat (first | refine blk_drewN ?_ _ | refine blk_drew ?_ | refine blk_alloc ?_ _)); refine blk_put (cs := #[.int .i64 a0_2, .int .i64 0, .int .i64 0]) ?_ 1 _ rfl; (with_reducible repeat (first | refine blk_drewN ?_ _ | refine blk_drew ?_ | refine blk_alloc ?_ _)); refine blk_put (cs := #[.int .i64 0, .int .i64 0, .int .i64 0]) ?_ 0 _ rfl; (with_reducible repeat (first | refine blk_drewN ?_ _ | refine blk_drew ?_ | refine blk_alloc ?_ _)); exact BK346.out) Tryd.underlying71 rfl kr_) rfl ?_
   exact ⟨er_, bl2_ GE345.out GE346.out⟩
  ·rw [if_neg c9] at H
   have c9b0 : (a1 == 100) = false := beq_eq_false_iff_ne.mpr c9
   have c9b1 : (a1 != 100) = true := bne_iff_ne.mpr c9
   by_cases c15 : a1 = 108
   ·rw [if_pos c15] at H
    have c15b0 : (a1 == 108) = true := beq_iff_eq.mpr c15
    have c15b1 : (a1 != 108) = false := bne_eq_false_iff_eq.mpr c15
    clear c15
    simp only [Option.some.injEq, Prod.mk.injEq] at H
    obtain ⟨rfl, rfl, rfl⟩ := H
    go_enter Tryd.func88, Tryd.ntmps88
    go_wp2_with (first | ((with_reducible refine gate_dst (N := 2) rfl ?_); refine bx_ (N := 2) (cs := #[.int .i64 a0_0, .int .i64 a0_1, .int .i64 a0_2]) (t := 71) ?_; intro gb345 hg w16 hbox hb; have BK345 := a0_ (hbox); have GW345 := a0_ ((sz_ hg (bl0_) : w.heap.size ≤ gb345)); have GE345 := a0_ ((sz_ hg (bl0_) : w.heap.size ≤ gb345)); replace HB := a0_ (below_step (bl0_) hb); clear hb hbox hg) | ((with_reducible refine gate_dst (N := 4) rfl ?_); refine bx_ (N := 4) (cs := #[.int .i64 0, .int .i64 0, .int .i64 0]) (t := 71) ?_; intro gb346 hg w17 hbox hb; have BK346 := a0_ (hbox); have GW346 := a0_ ((sz_ hg (bl1_ GE345.out) : w.heap.size ≤ gb346)); have GE346 := a0_ ((sz_ hg (bl1_ GE345.out) : w.heap.size ≤ gb346)); replace HB := a0_ (below_step (bl1_ GE345.out) hb); have NB345_346 := a0_ ((nl_ hg BK345.out : gb345 ≠ gb346)); have NB346_345 := a0_ ((ng_ hg BK345.out : gb346 ≠ gb345)); replace BK345 := a0_ (bb_ BK345.out hb); clear hb hbox hg; have hnb18 := NB345_346.out; have hnc18 := NB346_345.out; obtain ⟨hcz19_0, hcz19_1, hcz19_2, hfz19_0, hfz19_1, hfz19_2⟩ := bc3_ BK345.out; obtain ⟨hcz20_0, hcz20_1, hcz20_2, hfz20_0, hfz20_1, hfz20_2⟩ := bc3_ BK346.out))
    refine bodyPost_ret (results_cell_row rfl _ _ gb346 71 #[.int .i64 (wrap64 (5 - a0_1)), .int .i64 a0_0, .int .i64 a0_2] (0, 0) _ rfl (by (with_reducible repeat (first | refine blk_drewN ?_ _ | refine blk_drew ?_ | refine blk_alloc ?_ _)); refine blk_put (cs := #[.int .i64 (wrap64 (5 - a0_1)), .int .i64 a0_0, .int .i64 0]) ?_ 2 _ rfl; (with_reducible repeat (first | refine blk_drewN ?_ _ | refine blk_drew ?_ | refine blk_alloc ?_ _)); refine blk_put (cs := #[.int .i64 (wrap64 (5 - a0_1)), .int .i64 0, .int .i64 0]) ?_ 1 _ rfl; (with_reducible repeat (first | refine blk_drewN ?_ _ | refine blk_drew ?_ | refine blk_alloc ?_ _)); refine blk_put (cs := #[.int .i64 0, .int .i64 0, .int .i64 0]) ?_ 0 _ rfl; (with_reducible repeat (first | refine blk_drewN ?_ _ | refine blk_drew ?_ | refine blk_alloc ?_ _)); exact BK346.out) Tryd.underlying71 rfl kr_) rfl ?_
    exact ⟨er_, bl2_ GE345.out GE346.out⟩
   ·rw [if_neg c15] at H
    have c15b0 : (a1 == 108) = false := beq_eq_false_iff_ne.mpr c15
    have c15b1 : (a1 != 108) = true := bne_iff_ne.mpr c15
    simp only [Option.some.injEq, Prod.mk.injEq] at H
    obtain ⟨rfl, rfl, rfl⟩ := H
    go_enter Tryd.func88, Tryd.ntmps88
    go_wp2_with (first | ((with_reducible refine gate_dst (N := 2) rfl ?_); refine bx_ (N := 2) (cs := #[.int .i64 a0_0, .int .i64 a0_1, .int .i64 a0_2]) (t := 71) ?_; intro gb345 hg w21 hbox hb; have BK345 := a0_ (hbox); have GW345 := a0_ ((sz_ hg (bl0_) : w.heap.size ≤ gb345)); have GE345 := a0_ ((sz_ hg (bl0_) : w.heap.size ≤ gb345)); replace HB := a0_ (below_step (bl0_) hb); clear hb hbox hg) | ((with_reducible refine gate_dst (N := 4) rfl ?_); refine bx_ (N := 4) (cs := #[.int .i64 0, .int .i64 0, .int .i64 0]) (t := 71) ?_; intro gb346 hg w22 hbox hb; have BK346 := a0_ (hbox); have GW346 := a0_ ((sz_ hg (bl1_ GE345.out) : w.heap.size ≤ gb346)); have GE346 := a0_ ((sz_ hg (bl1_ GE345.out) : w.heap.size ≤ gb346)); replace HB := a0_ (below_step (bl1_ GE345.out) hb); have NB345_346 := a0_ ((nl_ hg BK345.out : gb345 ≠ gb346)); have NB346_345 := a0_ ((ng_ hg BK345.out : gb346 ≠ gb345)); replace BK345 := a0_ (bb_ BK345.out hb); clear hb hbox hg; have hnb23 := NB345_346.out; have hnc23 := NB346_345.out; obtain ⟨hcz24_0, hcz24_1, hcz24_2, hfz24_0, hfz24_1, hfz24_2⟩ := bc3_ BK345.out; obtain ⟨hcz25_0, hcz25_1, hcz25_2, hfz25_0, hfz25_1, hfz25_2⟩ := bc3_ BK346.out))
    refine bodyPost_ret (results_cell_row rfl _ _ gb346 71 #[.int .i64 (wrap64 (5 - a0_2)), .int .i64 a0_1, .int .i64 a0_0] (0, 0) _ rfl (by (with_reducible repeat (first | refine blk_drewN ?_ _ | refine blk_drew ?_ | refine blk_alloc ?_ _)); refine blk_put (cs := #[.int .i64 (wrap64 (5 - a0_2)), .int .i64 a0_1, .int .i64 0]) ?_ 2 _ rfl; (with_reducible repeat (first | refine blk_drewN ?_ _ | refine blk_drew ?_ | refine blk_alloc ?_ _)); refine blk_put (cs := #[.int .i64 (wrap64 (5 - a0_2)), .int .i64 0, .int .i64 0]) ?_ 1 _ rfl; (with_reducible repeat (first | refine blk_drewN ?_ _ | refine blk_drew ?_ | refine blk_alloc ?_ _)); refine blk_put (cs := #[.int .i64 0, .int .i64 0, .int .i64 0]) ?_ 0 _ rfl; (with_reducible repeat (first | refine blk_drewN ?_ _ | refine blk_drew ?_ | refine blk_alloc ?_ _)); exact BK346.out) Tryd.underlying71 rfl kr_) rfl ?_
    exact ⟨er_, bl2_ GE345.out GE346.out⟩

/-! ### spec_l32Word: function 57 -/
def spec_l32Word.l0 : Nat → ByteArray → Int → Int → Int → Int → Option (Int × Int × Int)
 | 0, _, _, _, _, _ => none
 | k + 1, x1, x5, x348000, x348001, x348002 => if x5 < (x1.size : Int) then (if 0 ≤ x5 then ((spec_l32Roll.f x348000 x348001 x348002 (bt x1 x5)).bind fun bt349 => (spec_l32Word.l0 k x1 (wrap64 (x5 + 1)) bt349.1 bt349.2.1 bt349.2.2)) else (none)) else (some (x348000, x348001, x348002))
def spec_l32Word.f (k : Nat) (a0_0 : Int) (a0_1 : Int) (a0_2 : Int) (a1 : ByteArray) : Option (Int × Int × Int) := spec_l32Word.l0 k a1 0 a0_0 a0_1 a0_2
theorem spec_l32Word.mono_l : ∀ k, (∀ y0 y1 y2 y3 y4, LeO (spec_l32Word.l0 k y0 y1 y2 y3 y4) (spec_l32Word.l0 (k + 1) y0 y1 y2 y3 y4))
 | 0 => fun _ _ _ _ _ r h => by simp [spec_l32Word.l0] at h
 | k + 1 => by
  have ih0 := spec_l32Word.mono_l k
  ·intro y0 y1 y2 y3 y4
   unfold spec_l32Word.l0
   with_reducible (repeat' first | exact ih0 _ _ _ _ _ | exact LeO.refl _ | exact LeO.none _ | refine LeO.ite ?_ ?_ | refine LeO.bind ?_ (fun _ => ?_))
theorem spec_l32Word.mono : ∀ a0 a1 a2 a3 k, LeO (spec_l32Word.f k a0 a1 a2 a3) (spec_l32Word.f (k + 1) a0 a1 a2 a3) := by
 intro a0 a1 a2 a3 k
 have ih0 := spec_l32Word.mono_l k
 unfold spec_l32Word.f
 with_reducible (repeat' first | exact ih0 _ _ _ _ _ | exact LeO.refl _ | exact LeO.none _ | refine LeO.ite ?_ ?_ | refine LeO.bind ?_ (fun _ => ?_))
set_option maxHeartbeats 8000000 in
set_option maxRecDepth 100000 in
theorem spec_l32Word.calls (k : Nat) (a0_0 : Int) (a0_1 : Int) (a0_2 : Int) (a1 : ByteArray) (r1 : Int) (r2 : Int) (r3 : Int) (w : World) (h : spec_l32Word.f k a0_0 a0_1 a0_2 a1 = some (r1, r2, r3)) :
  Calls Tryd.prog 57 #[.agg #[.int .i64 a0_0, .int .i64 a0_1, .int .i64 a0_2], .string a1] w fun e w' => e = .returned (.agg #[.int .i64 r1, .int .i64 r2, .int .i64 r3]) ∧ Below w.heap.size w w' := by
 have hu71 := Tryd.underlying71
 have HB := a0_ (Below.refl w.heap.size w)
 have H : (spec_l32Word.l0 k a1 0 a0_0 a0_1 a0_2) = some (r1, r2, r3) := h
 clear h
 have H' := Aside0.mk H
 clear H
 go_enter Tryd.func57, Tryd.ntmps57
 go_wp2_with (first | ((with_reducible refine gate_dst (N := 2) rfl ?_); refine bx_ (N := 2) (cs := #[.int .i64 a0_0, .int .i64 a0_1, .int .i64 a0_2]) (t := 71) ?_; intro gb347 hg w3 hbox hb; have BK347 := a0_ (hbox); have GW347 := a0_ ((sz_ hg (bl0_) : w.heap.size ≤ gb347)); have GE347 := a0_ ((sz_ hg (bl0_) : w.heap.size ≤ gb347)); replace HB := a0_ (below_step (bl0_) hb); clear hb hbox hg) | ((with_reducible refine gate_dst (N := 4) rfl ?_); refine bx_ (N := 4) (cs := #[.int .i64 0, .int .i64 0, .int .i64 0]) (t := 71) ?_; intro gb348 hg w4 hbox hb; have BK348 := a0_ (hbox); have GW348 := a0_ ((sz_ hg (bl1_ GE347.out) : w.heap.size ≤ gb348)); have GE348 := a0_ ((sz_ hg (bl1_ GE347.out) : w.heap.size ≤ gb348)); replace HB := a0_ (below_step (bl1_ GE347.out) hb); have NB347_348 := a0_ ((nl_ hg BK347.out : gb347 ≠ gb348)); have NB348_347 := a0_ ((ng_ hg BK347.out : gb348 ≠ gb347)); replace BK347 := a0_ (bb_ BK347.out hb); clear hb hbox hg))
 go_loopg [5] k (fun kq v5 w' => ∃ (x5_1 : Int) (x348000_1 : Int) (x348001_1 : Int) (x348002_1 : Int), v5 = .int .i64 x5_1 ∧ Aside0 (spec_l32Word.l0 kq a1 x5_1 x348000_1 x348001_1 x348002_1 = some (r1, r2, r3)) ∧ Aside0 (kq ≤ k) ∧ Aside0 (w'.heap[gb347]? = some (.cells #[.int .i64 x348000_1, .int .i64 x348001_1, .int .i64 x348002_1] 71 (0, 0))) ∧ Aside0 (w'.heap[gb348]? = some (.cells #[.int .i64 0, .int .i64 0, .int .i64 0] 71 (0, 0))) ∧ Aside0 (Below w.heap.size w w'))
 case atStart => exact ⟨(0), (a0_0), (a0_1), (a0_2), rs_, H', ⟨Nat.le_refl _⟩, ⟨bk_ BK347.out⟩, ⟨bk_ BK348.out⟩, ⟨bl2_ GE347.out GE348.out⟩⟩
 case round =>
  clear H'
  try clear p2
  obtain ⟨x5_1, x348000_1, x348001_1, x348002_1, rfl, HA, HK1, BK347, BK348, HB⟩ := hrel
  cases gk with
  | zero => exact absurd HA.out (by simp [spec_l32Word.l0])
  | succ k1 =>
   have H := HA.out
   clear HA
   simp only [spec_l32Word.l0] at H
   by_cases c5 : x5_1 < (a1.size : Int)
   ·rw [if_pos c5] at H
    have c5b0 : decide (x5_1 < (a1.size : Int)) = true := decide_eq_true c5
    clear c5
    by_cases c6 : 0 ≤ x5_1
    ·rw [if_pos c6] at H
     have c6b0 : decide (0 ≤ x5_1) = true := decide_eq_true c6
     clear c6
     obtain ⟨⟨t349, t350, t351⟩, A8, H⟩ := bs_ H
     dsimp only at H
     have H' := Aside0.mk H
     clear H
     try go_wp2
     replace BK347 := a0_ (blk_drew BK347.out)
     replace BK348 := a0_ (blk_drew BK348.out)
     replace HB := a0_ (below_drew1 HB.out)
     have p7 : 0 ≤ (x5_1 : Int) := od_
     have q7 : x5_1 < (a1.size : Int) := od_
     have hx7 := bt_at a1 x5_1
     replace p7 := eq_true p7
     replace q7 := eq_true q7
     refine start_ (n := 6) (S := fun w' => w'.cell? ⟨gb347, 0, none⟩ = some (.int .i64 x348000_1) ∧ w'.cell? ⟨gb347, 1, none⟩ = some (.int .i64 x348001_1) ∧ w'.cell? ⟨gb347, 2, none⟩ = some (.int .i64 x348002_1)) (ds := [5]) (mk_ 0 6) kr_ rfl rfl ⟨(blk_cell BK347.out 0).trans rfl, (blk_cell BK347.out 1).trans rfl, (blk_cell BK347.out 2).trans rfl⟩ (fun hHeld => ?_)
     generalize wr.drew = w9 at BK347 BK348 HB hHeld ⊢
     refine pure_ (i := 1) (N := some 13) (v := ?_) (a' := ?_) #[false, true, false, false, false, false] rfl rfl kr_ (fun _ _ _ h => h) (Or.inl ⟨by rfl, ?_⟩) ?_ ?_
     rotate_left
     ·intro w'
      go_simp
      with_reducible rfl
     rotate_left
     ·simp only [sp_]
      rfl
     refine pure_ (i := 2) (N := some 14) (v := ?_) (a' := ?_) #[false, true, true, false, false, false] rfl rfl kr_ (fun _ _ _ h => h) (Or.inl ⟨by rfl, ?_⟩) ?_ ?_
     rotate_left
     ·intro w'
      go_simp
      with_reducible rfl
     rotate_left
     ·simp only [sp_]
      rfl
     refine take_ (i := 0) (N := some 12) (v := ?_) (a' := ?_) (mk_ 3 3) rfl rfl kr_ (fun _ _ _ h => h) (Or.inl ⟨by rfl, ?_⟩) hHeld ?_ ?_
     rotate_left
     ·rintro w' ⟨s0, s1, s2⟩
      go_simp
      with_reducible rfl
     rotate_left
     ·simp only [sp_]
      rfl
     refine take_ (i := 3) (N := some 15) (v := ?_) (a' := ?_) (mk_ 4 2) rfl rfl kr_ (fun _ _ _ h => h) (Or.inl ⟨by rfl, ?_⟩) hHeld ?_ ?_
     rotate_left
     ·rintro w' ⟨s0, s1, s2⟩
      go_simp
      with_reducible rfl
     rotate_left
     ·simp only [sp_]
      rfl
     refine one_ (i := 4) (N := some 16) (mk_ 5 1) rfl rfl kr_ (by decide) (fun K hK => ?_)
     refine goes_ Tryd.func88 kr_ rfl #[.agg #[.int .i64 x348000_1, .int .i64 x348001_1, .int .i64 x348002_1], .int .u8 (bt a1 x5_1)] (by rfl) rfl rfl ta_ ?_
     with_reducible refine (spec_l32Roll.calls x348000_1 x348001_1 x348002_1 (bt a1 x5_1) t349 t350 t351 _ A8.out).mono ?_
     rintro e w10 ⟨rfl, hb⟩
     refine ⟨_, rfl, ?_⟩
     replace BK347 := a0_ (bb_ BK347.out hb)
     replace BK348 := a0_ (bb_ BK348.out hb)
     replace HB := a0_ (below_step (bl2_ GE347.out GE348.out) hb)
     (try clear hb)
     (try clear hb2)
     (try clear hk)
     (try clear hi)
     refine hK.out _ _ ⟨(blk_cell BK347.out 0).trans rfl, (blk_cell BK347.out 1).trans rfl, (blk_cell BK347.out 2).trans rfl⟩ (fun hHeld => ?_)
     clear hK K
     refine nm_ ?_
     refine last_ (i := 5) (N := none) (mk_ 6 0) rfl rfl kr_ (by decide) (fun K hK => ?_)
     have hs11 : w10.cell? ⟨gb347, 0, none⟩ = some (.int .i64 x348000_1) := (blk_cell BK347.out 0).trans rfl
     have hfs11 := blk_frozen BK347.out 0
     have hns11_1 := NB348_347.out
     have hms11_1 := NB347_348.out
     have hs12 : w10.cell? ⟨gb347, 1, none⟩ = some (.int .i64 x348001_1) := (blk_cell BK347.out 1).trans rfl
     have hfs12 := blk_frozen BK347.out 1
     have hns12_1 := NB348_347.out
     have hms12_1 := NB347_348.out
     have hs13 : w10.cell? ⟨gb347, 2, none⟩ = some (.int .i64 x348002_1) := (blk_cell BK347.out 2).trans rfl
     have hfs13 := blk_frozen BK347.out 2
     have hns13_1 := NB348_347.out
     have hms13_1 := NB347_348.out
     refine skip_ (w1 := ?_) (by rfl) rfl ?_ ?_
     rotate_left
     ·go_simp
      rfl
     refine hK.out _ _ ?_
     clear hK K
     refine done_ kr_ ?_
     try go_wp2
     go_roundg k1
     case measure => have := HK1.out; omega
     case rel => exact ⟨(wrap64 (x5_1 + 1)), (t349), (t350), (t351), rs_, H', ⟨by have := HK1.out; omega⟩, ⟨by (with_reducible repeat (first | refine blk_drewN ?_ _ | refine blk_drew ?_ | refine blk_alloc ?_ _)); refine blk_put (cs := #[.int .i64 t349, .int .i64 t350, .int .i64 x348002_1]) ?_ 2 _ rfl; (with_reducible repeat (first | refine blk_drewN ?_ _ | refine blk_drew ?_ | refine blk_alloc ?_ _)); refine blk_put (cs := #[.int .i64 t349, .int .i64 x348001_1, .int .i64 x348002_1]) ?_ 1 _ rfl; (with_reducible repeat (first | refine blk_drewN ?_ _ | refine blk_drew ?_ | refine blk_alloc ?_ _)); refine blk_put (cs := #[.int .i64 x348000_1, .int .i64 x348001_1, .int .i64 x348002_1]) ?_ 0 _ rfl; (with_reducible repeat (first | refine blk_drewN ?_ _ | refine blk_drew ?_ | refine blk_alloc ?_ _)); exact BK347.out⟩, ⟨bf_ BK348.out NB348_347.out⟩, ⟨bl2_ GE347.out GE348.out⟩⟩
    ·rw [if_neg c6] at H
     exact absurd H (by simp)
   ·rw [if_neg c5] at H
    have c5b0 : decide (x5_1 < (a1.size : Int)) = false := decide_eq_false c5
    clear c5
    simp only [Option.some.injEq, Prod.mk.injEq] at H
    obtain ⟨rfl, rfl, rfl⟩ := H
    have hnb14 := NB347_348.out
    have hnc14 := NB348_347.out
    have hcz15_0 : wr.cell? ⟨gb347, 0, none⟩ = some (.int .i64 x348000_1) := (blk_cell BK347.out 0).trans rfl
    have hcz15_1 : wr.cell? ⟨gb347, 1, none⟩ = some (.int .i64 x348001_1) := (blk_cell BK347.out 1).trans rfl
    have hcz15_2 : wr.cell? ⟨gb347, 2, none⟩ = some (.int .i64 x348002_1) := (blk_cell BK347.out 2).trans rfl
    have hfz15_0 := blk_frozen BK347.out 0
    have hfz15_1 := blk_frozen BK347.out 1
    have hfz15_2 := blk_frozen BK347.out 2
    have hcz16_0 : wr.cell? ⟨gb348, 0, none⟩ = some (.int .i64 0) := (blk_cell BK348.out 0).trans rfl
    have hcz16_1 : wr.cell? ⟨gb348, 1, none⟩ = some (.int .i64 0) := (blk_cell BK348.out 1).trans rfl
    have hcz16_2 : wr.cell? ⟨gb348, 2, none⟩ = some (.int .i64 0) := (blk_cell BK348.out 2).trans rfl
    have hfz16_0 := blk_frozen BK348.out 0
    have hfz16_1 := blk_frozen BK348.out 1
    have hfz16_2 := blk_frozen BK348.out 2
    go_wp2
    refine bodyPost_ret (results_cell_row rfl _ _ gb348 71 #[.int .i64 x348000_1, .int .i64 x348001_1, .int .i64 x348002_1] (0, 0) _ rfl (by (with_reducible repeat (first | refine blk_drewN ?_ _ | refine blk_drew ?_ | refine blk_alloc ?_ _)); refine blk_put (cs := #[.int .i64 x348000_1, .int .i64 x348001_1, .int .i64 0]) ?_ 2 _ rfl; (with_reducible repeat (first | refine blk_drewN ?_ _ | refine blk_drew ?_ | refine blk_alloc ?_ _)); refine blk_put (cs := #[.int .i64 x348000_1, .int .i64 0, .int .i64 0]) ?_ 1 _ rfl; (with_reducible repeat (first | refine blk_drewN ?_ _ | refine blk_drew ?_ | refine blk_alloc ?_ _)); refine blk_put (cs := #[.int .i64 0, .int .i64 0, .int .i64 0]) ?_ 0 _ rfl; (with_reducible repeat (first | refine blk_drewN ?_ _ | refine blk_drew ?_ | refine blk_alloc ?_ _)); exact BK348.out) Tryd.underlying71 rfl kr_) rfl ?_
    exact ⟨er_, bl2_ GE347.out GE348.out⟩

/-! ### spec_RollOrder: function 23 -/
def spec_RollOrder.l0 : Nat → ByteArray → Int → Int → Int → Int → Int → Int → Int → Option (Int × Int)
 | 0, _, _, _, _, _, _, _, _ => none
 | k + 1, x0, x6, x354000, x354001, x354002, x358000, x358001, x358002 => if (!(x358000 == x354000) || (!(x358001 == x354001) || (!(x358002 == x354002)))) = true then ((spec_l32Word.f k x358000 x358001 x358002 x0).bind fun bt358 => (spec_RollOrder.l0 k x0 (wrap64 (x6 + 1)) x354000 x354001 x354002 bt358.1 bt358.2.1 bt358.2.2)) else (some (x6, 0))
def spec_RollOrder.f (k : Nat) (a0 : ByteArray) : Option (Int × Int) := (spec_l23Is.f k a0).bind fun t352 => (if t352 = true then ((spec_l32Word.f k 0 1 2 a0).bind fun bt354 => (spec_RollOrder.l0 k a0 1 0 1 2 bt354.1 bt354.2.1 bt354.2.2)) else (some (0, 6)))
theorem spec_RollOrder.mono_l : ∀ k, (∀ y0 y1 y2 y3 y4 y5 y6 y7, LeO (spec_RollOrder.l0 k y0 y1 y2 y3 y4 y5 y6 y7) (spec_RollOrder.l0 (k + 1) y0 y1 y2 y3 y4 y5 y6 y7))
 | 0 => fun _ _ _ _ _ _ _ _ r h => by simp [spec_RollOrder.l0] at h
 | k + 1 => by
  have ih0 := spec_RollOrder.mono_l k
  ·intro y0 y1 y2 y3 y4 y5 y6 y7
   unfold spec_RollOrder.l0
   with_reducible (repeat' first | exact ih0 _ _ _ _ _ _ _ _ | exact spec_l23Is.mono _ _ | exact spec_l32Word.mono _ _ _ _ _ | exact LeO.refl _ | exact LeO.none _ | refine LeO.ite ?_ ?_ | refine LeO.bind ?_ (fun _ => ?_))
theorem spec_RollOrder.mono : ∀ a0 k, LeO (spec_RollOrder.f k a0) (spec_RollOrder.f (k + 1) a0) := by
 intro a0 k
 have ih0 := spec_RollOrder.mono_l k
 unfold spec_RollOrder.f
 with_reducible (repeat' first | exact ih0 _ _ _ _ _ _ _ _ | exact spec_l23Is.mono _ _ | exact spec_l32Word.mono _ _ _ _ _ | exact LeO.refl _ | exact LeO.none _ | refine LeO.ite ?_ ?_ | refine LeO.bind ?_ (fun _ => ?_))
set_option maxHeartbeats 8000000 in
set_option maxRecDepth 100000 in
theorem spec_RollOrder.calls (k : Nat) (a0 : ByteArray) (r1 : Int) (r2 : Int) (w : World) (h : spec_RollOrder.f k a0 = some (r1, r2)) :
  Calls Tryd.prog 23 #[.string a0] w fun e w' => e = .returned (.tuple #[.int .i64 r1, .int .i64 r2]) ∧ Below w.heap.size w w' := by
 have hu71 := Tryd.underlying71
 have HB := a0_ (Below.refl w.heap.size w)
 have H := h
 clear h
 unfold spec_RollOrder.f at H
 obtain ⟨t352, A2, H⟩ := bs_ H
 by_cases c3 : t352 = true
 ·subst c3
  rw [if_pos rfl] at H
  obtain ⟨⟨t354, t355, t356⟩, A4, H⟩ := bs_ H
  dsimp only at H
  have H' := Aside0.mk H
  clear H
  go_enter Tryd.func23, Tryd.ntmps23
  go_wp2_with (first | ((with_reducible refine gate_callee (f := 56) rfl ?_); refine goesL_ (some 8) rfl rfl Tryd.func56 kr_ rfl #[.string a0] rfl ta_ ?_; (with_reducible refine (spec_l23Is.calls k a0 true _ A2.out).mono ?_); rintro e w' ⟨rfl, ⟨nd, rfl⟩⟩; refine ⟨_, rfl, ?_⟩) | ((with_reducible refine gate_dst (N := 4) rfl ?_); refine bx_ (N := 4) (cs := #[.int .i64 0, .int .i64 0, .int .i64 0]) (t := 71) ?_; intro gb353 hg w5 hbox hb; have BK353 := a0_ (hbox); have GW353 := a0_ ((sz_ hg (bl0_) : w.heap.size ≤ gb353)); have GE353 := a0_ ((sz_ hg (bl0_) : w.heap.size ≤ gb353)); replace HB := a0_ (below_step (bl0_) hb); clear hb hbox hg; obtain ⟨hcz6_0, hcz6_1, hcz6_2, hfz6_0, hfz6_1, hfz6_2⟩ := bc3_ BK353.out) | ((with_reducible refine gate_callee (f := 57) rfl ?_); refine goesL_ (some 13) rfl rfl Tryd.func57 kr_ rfl #[.agg #[.int .i64 0, .int .i64 1, .int .i64 2], .string a0] rfl ta_ ?_; (with_reducible refine (spec_l32Word.calls k 0 1 2 a0 t354 t355 t356 _ A4.out).mono ?_); rintro e w7 ⟨rfl, hb⟩; refine ⟨_, rfl, ?_⟩; replace BK353 := a0_ (blk_below (g := gb353) (o := .cells #[.int .i64 0, .int .i64 1, .int .i64 2] 71 (0, 0)) (by (with_reducible repeat (first | refine blk_drewN ?_ _ | refine blk_drew ?_ | refine blk_alloc ?_ _)); refine blk_put (cs := #[.int .i64 0, .int .i64 1, .int .i64 0]) ?_ 2 _ rfl; (with_reducible repeat (first | refine blk_drewN ?_ _ | refine blk_drew ?_ | refine blk_alloc ?_ _)); refine blk_put (cs := #[.int .i64 0, .int .i64 0, .int .i64 0]) ?_ 1 _ rfl; (with_reducible repeat (first | refine blk_drewN ?_ _ | refine blk_drew ?_ | refine blk_alloc ?_ _)); refine blk_put (cs := #[.int .i64 0, .int .i64 0, .int .i64 0]) ?_ 0 _ rfl; (with_reducible repeat (first | refine blk_drewN ?_ _ | refine blk_drew ?_ | refine blk_alloc ?_ _)); exact BK353.out) hb); replace HB := a0_ (below_step (bl1_ GE353.out) hb); (try clear hb); (try clear hb2); (try clear hk); (try clear hi)) | ((with_reducible refine gate_dst (N := 5) rfl ?_); refine bx_ (N := 5) (cs := #[.int .i64 0, .int .i64 0, .int .i64 0]) (t := 71) ?_; intro gb357 hg w8 hbox hb; have BK357 := a0_ (hbox); have GW357 := a0_ ((sz_ hg (bl1_ GE353.out) : w.heap.size ≤ gb357)); have GE357 := a0_ ((sz_ hg (bl1_ GE353.out) : w.heap.size ≤ gb357)); replace HB := a0_ (below_step (bl1_ GE353.out) hb); have NB353_357 := a0_ ((nl_ hg BK353.out : gb353 ≠ gb357)); have NB357_353 := a0_ ((ng_ hg BK353.out : gb357 ≠ gb353)); replace BK353 := a0_ (bb_ BK353.out hb); clear hb hbox hg; have hnb9 := NB357_353.out; have hnc9 := NB353_357.out; obtain ⟨hcz10_0, hcz10_1, hcz10_2, hfz10_0, hfz10_1, hfz10_2⟩ := bc3_ BK357.out))
  go_loopg [6] k (fun kq v6 w' => ∃ (x6_1 : Int) (x358000_1 : Int) (x358001_1 : Int) (x358002_1 : Int), v6 = .int .i64 x6_1 ∧ Aside0 (spec_RollOrder.l0 kq a0 x6_1 0 1 2 x358000_1 x358001_1 x358002_1 = some (r1, r2)) ∧ Aside0 (kq ≤ k) ∧ Aside0 (w'.heap[gb353]? = some (.cells #[.int .i64 0, .int .i64 1, .int .i64 2] 71 (0, 0))) ∧ Aside0 (w'.heap[gb357]? = some (.cells #[.int .i64 x358000_1, .int .i64 x358001_1, .int .i64 x358002_1] 71 (0, 0))) ∧ Aside0 (Below w.heap.size w w'))
  case atStart => exact ⟨(1), (t354), (t355), (t356), rs_, H', ⟨Nat.le_refl _⟩, ⟨bf_ BK353.out NB353_357.out⟩, ⟨by (with_reducible repeat (first | refine blk_drewN ?_ _ | refine blk_drew ?_ | refine blk_alloc ?_ _)); refine blk_put (cs := #[.int .i64 t354, .int .i64 t355, .int .i64 0]) ?_ 2 _ rfl; (with_reducible repeat (first | refine blk_drewN ?_ _ | refine blk_drew ?_ | refine blk_alloc ?_ _)); refine blk_put (cs := #[.int .i64 t354, .int .i64 0, .int .i64 0]) ?_ 1 _ rfl; (with_reducible repeat (first | refine blk_drewN ?_ _ | refine blk_drew ?_ | refine blk_alloc ?_ _)); refine blk_put (cs := #[.int .i64 0, .int .i64 0, .int .i64 0]) ?_ 0 _ rfl; (with_reducible repeat (first | refine blk_drewN ?_ _ | refine blk_drew ?_ | refine blk_alloc ?_ _)); exact BK357.out⟩, ⟨bl2_ GE353.out GE357.out⟩⟩
  case round =>
   clear H'
   try clear c2
   try clear p2
   try clear c3
   try clear c5
   try clear c9
   try clear hcz10_0
   try clear hcz10_1
   try clear hcz10_2
   try clear hcz6_0
   try clear hcz6_1
   try clear hcz6_2
   try clear hfz10_0
   try clear hfz10_1
   try clear hfz10_2
   try clear hfz6_0
   try clear hfz6_1
   try clear hfz6_2
   obtain ⟨x6_1, x358000_1, x358001_1, x358002_1, rfl, HA, HK1, BK353, BK357, HB⟩ := hrel
   cases gk with
   | zero => exact absurd HA.out (by simp [spec_RollOrder.l0])
   | succ k1 =>
    have H := HA.out
    clear HA
    simp only [spec_RollOrder.l0] at H
    by_cases c11 : (!(x358000_1 == 0) || (!(x358001_1 == 1) || (!(x358002_1 == 2)))) = true
    ·rw [if_pos c11] at H
     have c11b0 : (!(x358000_1 == 0) || (!(x358001_1 == 1) || (!(x358002_1 == 2)))) = true := c11
     clear c11
     obtain ⟨⟨t358, t359, t360⟩, A12, H⟩ := bs_ H
     dsimp only at H
     have H' := Aside0.mk H
     clear H
     have hnb13 := NB357_353.out
     have hnc13 := NB353_357.out
     have hcz14_0 : wr.cell? ⟨gb357, 0, none⟩ = some (.int .i64 x358000_1) := (blk_cell BK357.out 0).trans rfl
     have hcz14_1 : wr.cell? ⟨gb357, 1, none⟩ = some (.int .i64 x358001_1) := (blk_cell BK357.out 1).trans rfl
     have hcz14_2 : wr.cell? ⟨gb357, 2, none⟩ = some (.int .i64 x358002_1) := (blk_cell BK357.out 2).trans rfl
     have hfz14_0 := blk_frozen BK357.out 0
     have hfz14_1 := blk_frozen BK357.out 1
     have hfz14_2 := blk_frozen BK357.out 2
     have hcz15_0 : wr.cell? ⟨gb353, 0, none⟩ = some (.int .i64 0) := (blk_cell BK353.out 0).trans rfl
     have hcz15_1 : wr.cell? ⟨gb353, 1, none⟩ = some (.int .i64 1) := (blk_cell BK353.out 1).trans rfl
     have hcz15_2 : wr.cell? ⟨gb353, 2, none⟩ = some (.int .i64 2) := (blk_cell BK353.out 2).trans rfl
     have hfz15_0 := blk_frozen BK353.out 0
     have hfz15_1 := blk_frozen BK353.out 1
     have hfz15_2 := blk_frozen BK353.out 2
     go_wp2_with (first | ((with_reducible refine gate_callee (f := 57) rfl ?_); refine goesL_ (some 19) rfl rfl Tryd.func57 kr_ rfl #[.agg #[.int .i64 x358000_1, .int .i64 x358001_1, .int .i64 x358002_1], .string a0] rfl ta_ ?_; (with_reducible refine (spec_l32Word.calls k1 x358000_1 x358001_1 x358002_1 a0 t358 t359 t360 _ A12.out).mono ?_); rintro e w16 ⟨rfl, hb⟩; refine ⟨_, rfl, ?_⟩; replace BK353 := a0_ (bb_ BK353.out hb); replace BK357 := a0_ (bb_ BK357.out hb); replace HB := a0_ (below_step (bl2_ GE353.out GE357.out) hb); (try clear hb); (try clear hb2); (try clear hk); (try clear hi); obtain ⟨hcz17_0, hcz17_1, hcz17_2, hfz17_0, hfz17_1, hfz17_2⟩ := bc3_ BK357.out))
     go_roundg k1
     case measure => have := HK1.out; omega
     case rel => exact ⟨(wrap64 (x6_1 + 1)), (t358), (t359), (t360), rs_, H', ⟨by have := HK1.out; omega⟩, ⟨bf_ BK353.out NB353_357.out⟩, ⟨by (with_reducible repeat (first | refine blk_drewN ?_ _ | refine blk_drew ?_ | refine blk_alloc ?_ _)); refine blk_put (cs := #[.int .i64 t358, .int .i64 t359, .int .i64 x358002_1]) ?_ 2 _ rfl; (with_reducible repeat (first | refine blk_drewN ?_ _ | refine blk_drew ?_ | refine blk_alloc ?_ _)); refine blk_put (cs := #[.int .i64 t358, .int .i64 x358001_1, .int .i64 x358002_1]) ?_ 1 _ rfl; (with_reducible repeat (first | refine blk_drewN ?_ _ | refine blk_drew ?_ | refine blk_alloc ?_ _)); refine blk_put (cs := #[.int .i64 x358000_1, .int .i64 x358001_1, .int .i64 x358002_1]) ?_ 0 _ rfl; (with_reducible repeat (first | refine blk_drewN ?_ _ | refine blk_drew ?_ | refine blk_alloc ?_ _)); exact BK357.out⟩, ⟨bl2_ GE353.out GE357.out⟩⟩
    ·rw [if_neg c11] at H
     have c11b0 : (!(x358000_1 == 0) || (!(x358001_1 == 1) || (!(x358002_1 == 2)))) = false := by simpa using c11
     clear c11
     simp only [Option.some.injEq, Prod.mk.injEq] at H
     obtain ⟨rfl, rfl⟩ := H
     have hnb18 := NB357_353.out
     have hnc18 := NB353_357.out
     have hcz19_0 : wr.cell? ⟨gb357, 0, none⟩ = some (.int .i64 x358000_1) := (blk_cell BK357.out 0).trans rfl
     have hcz19_1 : wr.cell? ⟨gb357, 1, none⟩ = some (.int .i64 x358001_1) := (blk_cell BK357.out 1).trans rfl
     have hcz19_2 : wr.cell? ⟨gb357, 2, none⟩ = some (.int .i64 x358002_1) := (blk_cell BK357.out 2).trans rfl
     have hfz19_0 := blk_frozen BK357.out 0
     have hfz19_1 := blk_frozen BK357.out 1
     have hfz19_2 := blk_frozen BK357.out 2
     have hcz20_0 : wr.cell? ⟨gb353, 0, none⟩ = some (.int .i64 0) := (blk_cell BK353.out 0).trans rfl
     have hcz20_1 : wr.cell? ⟨gb353, 1, none⟩ = some (.int .i64 1) := (blk_cell BK353.out 1).trans rfl
     have hcz20_2 : wr.cell? ⟨gb353, 2, none⟩ = some (.int .i64 2) := (blk_cell BK353.out 2).trans rfl
     have hfz20_0 := blk_frozen BK353.out 0
     have hfz20_1 := blk_frozen BK353.out 1
     have hfz20_2 := blk_frozen BK353.out 2
     go_wp2
     go_ret2
     exact ⟨er_, bl2_ GE353.out GE357.out⟩
 ·replace c3 := Bool.eq_false_iff.mpr c3
  subst c3
  rw [if_neg (show ¬ (false = true) by decide)] at H
  simp only [Option.some.injEq, Prod.mk.injEq] at H
  obtain ⟨rfl, rfl⟩ := H
  go_enter Tryd.func23, Tryd.ntmps23
  go_wp2_with (first | ((with_reducible refine gate_callee (f := 56) rfl ?_); refine goesL_ (some 8) rfl rfl Tryd.func56 kr_ rfl #[.string a0] rfl ta_ ?_; (with_reducible refine (spec_l23Is.calls k a0 false _ A2.out).mono ?_); rintro e w' ⟨rfl, ⟨nd, rfl⟩⟩; refine ⟨_, rfl, ?_⟩))
  go_ret2
  exact ⟨er_, bl0_⟩

/-! ### impl_RollWord: function 24 -/
def impl_RollWord.f (k : Nat) (a0 : ByteArray) : Option (Int × Int) := (impl_isWord.f a0).bind fun t => if t = true then (impl_rollWord.f k 0 1 2 a0).bind fun d => some (d.1, 0) else some (0, 6)
theorem impl_RollWord.mono : ∀ a0 k, LeO (impl_RollWord.f k a0) (impl_RollWord.f (k + 1) a0) := by
 intro a0 k
 unfold impl_RollWord.f
 exact LeO.bind (LeO.refl _) (fun t => LeO.ite (LeO.bind (impl_rollWord.mono 0 1 2 a0 k) (fun _ => LeO.refl _)) (LeO.refl _))
set_option maxHeartbeats 1000000 in
theorem impl_RollWord.calls (k : Nat) (a0 : ByteArray) (r1 r2 : Int) (w : World) (h : impl_RollWord.f k a0 = some (r1, r2)) (hG : Laid w) :
  Calls Tryd.prog 24 #[.string a0] w fun e w' => e = .returned (.tuple #[.int .i64 r1, .int .i64 r2]) ∧ Below w.heap.size w w' := by
 obtain ⟨t, ht, h⟩ := Option.bind_eq_some_iff.1 h
 have hw := impl_isWord.calls a0 t w ht
 clear ht
 cases t with
 | false =>
  simp only [Bool.false_eq_true, if_false, Option.some.injEq, Prod.mk.injEq] at h
  obtain ⟨rfl, rfl⟩ := h
  go_enter Tryd.func24, Tryd.ntmps24
  go_wp2_with (go_at_call 54; refine hw.mono ?_; rintro e w' ⟨rfl, hb⟩)
  go_ret2
  exact ⟨rfl, hb⟩
 | true =>
  simp only [if_true] at h
  obtain ⟨⟨d1, d2, d3⟩, hd, h⟩ := Option.bind_eq_some_iff.1 h
  have hd' := Aside0.mk hd
  clear hd
  simp only [Option.some.injEq, Prod.mk.injEq] at h
  obtain ⟨rfl, rfl⟩ := h
  go_enter Tryd.func24, Tryd.ntmps24
  go_wp2_with (go_at_call 54; refine hw.mono ?_; rintro e w1 ⟨rfl, hb⟩; obtain ⟨g0, g1, g2⟩ := (hG.below hb).die)
  refine (impl_rollWord.calls k 0 1 2 a0 d1 d2 d3 _ hd'.out).mono ?_
  rintro e w2 ⟨rfl, hb2⟩
  have hfd : ∀ (y0 y1 y2 : Value) (W : World), (Instr.field 68 (.agg #[y0, y1, y2]) 0).run Tryd.prog W = .ok y0 W := fun _ _ _ _ => by kernel_rfl
  go_wp2
  go_ret2
  exact ⟨rfl, below_step hb hb2⟩


/-! ### spec_RollWord: function 25 -/
def spec_RollWord.f (k : Nat) (a0 : ByteArray) : Option (Int × Int) := (spec_l23Is.f k a0).bind fun t361 => (if t361 = true then ((spec_l32Word.f k 0 1 2 a0).bind fun bt362 => (some (bt362.1, 0))) else (some (0, 6)))
theorem spec_RollWord.mono : ∀ a0 k, LeO (spec_RollWord.f k a0) (spec_RollWord.f (k + 1) a0) := by
 intro a0 k
 unfold spec_RollWord.f
 with_reducible (repeat' first | exact spec_l23Is.mono _ _ | exact spec_l32Word.mono _ _ _ _ _ | exact LeO.refl _ | exact LeO.none _ | refine LeO.ite ?_ ?_ | refine LeO.bind ?_ (fun _ => ?_))
set_option maxHeartbeats 8000000 in
set_option maxRecDepth 100000 in
theorem spec_RollWord.calls (k : Nat) (a0 : ByteArray) (r1 : Int) (r2 : Int) (w : World) (h : spec_RollWord.f k a0 = some (r1, r2)) :
  Calls Tryd.prog 25 #[.string a0] w fun e w' => e = .returned (.tuple #[.int .i64 r1, .int .i64 r2]) ∧ Below w.heap.size w w' := by
 have hfd71_0 : ∀ (y0_ y1_ y2_ : Value) (W : World), (Instr.field 71 (.agg #[y0_, y1_, y2_]) 0).run Tryd.prog W = .ok (y0_) W := fun _ _ _ _ => by kernel_rfl
 have hu71 := Tryd.underlying71
 have HB := a0_ (Below.refl w.heap.size w)
 have H := h
 clear h
 unfold spec_RollWord.f at H
 obtain ⟨t361, A2, H⟩ := bs_ H
 by_cases c3 : t361 = true
 ·subst c3
  rw [if_pos rfl] at H
  obtain ⟨⟨t362, t363, t364⟩, A4, H⟩ := bs_ H
  dsimp only at H
  simp only [Option.some.injEq, Prod.mk.injEq] at H
  obtain ⟨rfl, rfl⟩ := H
  go_enter Tryd.func25, Tryd.ntmps25
  go_wp2_with (first | ((with_reducible refine gate_callee (f := 56) rfl ?_); refine goesL_ (some 5) rfl rfl Tryd.func56 kr_ rfl #[.string a0] rfl ta_ ?_; (with_reducible refine (spec_l23Is.calls k a0 true _ A2.out).mono ?_); rintro e w' ⟨rfl, ⟨nd, rfl⟩⟩; refine ⟨_, rfl, ?_⟩) | ((with_reducible refine gate_callee (f := 57) rfl ?_); refine goesL_ (some 9) rfl rfl Tryd.func57 kr_ rfl #[.agg #[.int .i64 0, .int .i64 1, .int .i64 2], .string a0] rfl ta_ ?_; (with_reducible refine (spec_l32Word.calls k 0 1 2 a0 t362 t363 t364 _ A4.out).mono ?_); rintro e w5 ⟨rfl, hb⟩; refine ⟨_, rfl, ?_⟩; replace HB := a0_ (below_step (bl0_) hb); (try clear hb); (try clear hb2); (try clear hk); (try clear hi)))
  go_ret2
  exact ⟨er_, bl0_⟩
 ·replace c3 := Bool.eq_false_iff.mpr c3
  subst c3
  rw [if_neg (show ¬ (false = true) by decide)] at H
  simp only [Option.some.injEq, Prod.mk.injEq] at H
  obtain ⟨rfl, rfl⟩ := H
  go_enter Tryd.func25, Tryd.ntmps25
  go_wp2_with (first | ((with_reducible refine gate_callee (f := 56) rfl ?_); refine goesL_ (some 5) rfl rfl Tryd.func56 kr_ rfl #[.string a0] rfl ta_ ?_; (with_reducible refine (spec_l23Is.calls k a0 false _ A2.out).mono ?_); rintro e w' ⟨rfl, ⟨nd, rfl⟩⟩; refine ⟨_, rfl, ?_⟩))
  go_ret2
  exact ⟨er_, bl0_⟩

/-! ### spec_DrawTouchingFaces: function 26 -/
def spec_DrawTouchingFaces.f (k : Nat) (l0 : List Int) : Option (Int × Int) := (spec_l01From.f k l0).bind fun bt365 => ((spec_l01Next.f bt365.1 bt365.2.1 bt365.2.2 7).bind fun bt369 => ((spec_l01Next.f bt365.1 bt369.2.1 bt369.2.2 12).bind fun bt372 => ((spec_l01Next.f bt365.1 bt372.2.1 bt372.2.2 7).bind fun bt375 => ((spec_l01Next.f bt365.1 bt375.2.1 bt375.2.2 12).bind fun bt378 => (some (wrap64 (bt369.1 - (wrap64 (Int.tdiv bt372.1 11))), wrap64 (bt375.1 - (wrap64 (Int.tdiv bt378.1 11)))))))))
theorem spec_DrawTouchingFaces.mono : ∀ a0 k, LeO (spec_DrawTouchingFaces.f k a0) (spec_DrawTouchingFaces.f (k + 1) a0) := by
 intro a0 k
 unfold spec_DrawTouchingFaces.f
 with_reducible (repeat' first | exact spec_l01From.mono _ _ | exact LeO.refl _ | exact LeO.none _ | refine LeO.ite ?_ ?_ | refine LeO.bind ?_ (fun _ => ?_))
set_option maxHeartbeats 8000000 in
set_option maxRecDepth 100000 in
theorem spec_DrawTouchingFaces.calls (k : Nat) (A0 : Option Addr) (c0 : Nat) (l0 : List Int) (r1 : Int) (r2 : Int) (w : World) (hr0 : Kd.C (Kd.int .u8) w A0 l0.length l0) (hc0 : l0.length ≤ c0) (h : spec_DrawTouchingFaces.f k l0 = some (r1, r2)) :
  Calls Tryd.prog 26 #[.slice A0 l0.length c0] w fun e w' => e = .returned (.tuple #[.int .i64 r1, .int .i64 r2]) ∧ Below w.heap.size w w' := by
 have HR0 := Aside0.mk hr0
 have HC0 := Aside0.mk hc0
 clear hr0 hc0
 have HB := a0_ (Below.refl w.heap.size w)
 have H := h
 clear h
 unfold spec_DrawTouchingFaces.f at H
 obtain ⟨⟨t365, t366, t367⟩, A2, H⟩ := bs_ H
 dsimp only at H
 obtain ⟨⟨t369, t370, t371⟩, A3, H⟩ := bs_ H
 dsimp only at H
 obtain ⟨⟨t372, t373, t374⟩, A4, H⟩ := bs_ H
 dsimp only at H
 obtain ⟨⟨t375, t376, t377⟩, A5, H⟩ := bs_ H
 dsimp only at H
 obtain ⟨⟨t378, t379, t380⟩, A6, H⟩ := bs_ H
 dsimp only at H
 simp only [Option.some.injEq, Prod.mk.injEq] at H
 obtain ⟨rfl, rfl⟩ := H
 go_enter Tryd.func26, Tryd.ntmps26
 go_wp2_with (first | ((with_reducible refine gate_callee (f := 34) rfl ?_); refine goesL_ (some 7) rfl rfl Tryd.func34 kr_ rfl #[.slice A0 l0.length c0] rfl ta_ ?_; (with_reducible refine (spec_l01From.calls k _ _ l0 t365 t366 t367 w _ ?side1 ?side2 ?side3 A2.out).mono ?_); (case side1 => repeat (first | (with_reducible first | exact HB.out | apply below_alloc | apply pw_below_drewN | apply below_drew1) | exact HB.out)); (case side2 => exact HR0.out); (case side3 => exact HC0.out); rintro e w7 ⟨g368, rfl, hi, hb, hb2⟩; refine ⟨_, rfl, ?_⟩; replace HB := a0_ (hb); have HI368 := a0_ (hi); (try clear hb); (try clear hb2); (try clear hk); (try clear hi)) | ((with_reducible refine gate_callee (f := 58) rfl ?_); refine goesL_ (some 9) rfl rfl Tryd.func58 kr_ rfl #[.pointer (some ⟨g368, 0, none⟩), .int .i64 7] rfl ta_ ?_; (with_reducible refine (spec_l01Next.calls g368 t365 t366 t367 7 t369 t370 t371 w _ ?side1 ?side2 A3.out).mono ?_); (case side1 => exact is81_ HI368.out); (case side2 => exact bl1_ (IsS81.ge HI368.out)); rintro e w8 ⟨rfl, hi, hb, hk⟩; refine ⟨_, rfl, ?_⟩; replace HB := a0_ (hb); replace HI368 := a0_ (hi); (try clear hb); (try clear hb2); (try clear hk); (try clear hi)) | ((with_reducible refine gate_callee (f := 58) rfl ?_); refine goesL_ (some 11) rfl rfl Tryd.func58 kr_ rfl #[.pointer (some ⟨g368, 0, none⟩), .int .i64 12] rfl ta_ ?_; (with_reducible refine (spec_l01Next.calls g368 t365 t370 t371 12 t372 t373 t374 w _ ?side1 ?side2 A4.out).mono ?_); (case side1 => exact is81_ HI368.out); (case side2 => exact bl1_ (IsS81.ge HI368.out)); rintro e w9 ⟨rfl, hi, hb, hk⟩; refine ⟨_, rfl, ?_⟩; replace HB := a0_ (hb); replace HI368 := a0_ (hi); (try clear hb); (try clear hb2); (try clear hk); (try clear hi)) | ((with_reducible refine gate_callee (f := 58) rfl ?_); refine goesL_ (some 16) rfl rfl Tryd.func58 kr_ rfl #[.pointer (some ⟨g368, 0, none⟩), .int .i64 7] rfl ta_ ?_; (with_reducible refine (spec_l01Next.calls g368 t365 t373 t374 7 t375 t376 t377 w _ ?side1 ?side2 A5.out).mono ?_); (case side1 => exact is81_ HI368.out); (case side2 => exact bl1_ (IsS81.ge HI368.out)); rintro e w10 ⟨rfl, hi, hb, hk⟩; refine ⟨_, rfl, ?_⟩; replace HB := a0_ (hb); replace HI368 := a0_ (hi); (try clear hb); (try clear hb2); (try clear hk); (try clear hi)) | ((with_reducible refine gate_callee (f := 58) rfl ?_); refine goesL_ (some 18) rfl rfl Tryd.func58 kr_ rfl #[.pointer (some ⟨g368, 0, none⟩), .int .i64 12] rfl ta_ ?_; (with_reducible refine (spec_l01Next.calls g368 t365 t376 t377 12 t378 t379 t380 w _ ?side1 ?side2 A6.out).mono ?_); (case side1 => exact is81_ HI368.out); (case side2 => exact bl1_ (IsS81.ge HI368.out)); rintro e w11 ⟨rfl, hi, hb, hk⟩; refine ⟨_, rfl, ?_⟩; replace HB := a0_ (hb); replace HI368 := a0_ (hi); (try clear hb); (try clear hb2); (try clear hk); (try clear hi)))
 go_ret2
 exact ⟨er_, bl1_ (IsS81.ge HI368.out)⟩

/-! ### impl_within: function 52 -/
def impl_within.f (a0 : Int) (a1 : Int) (a2 : Int) : Option (Bool) := if a0 ≥ a1 then (some (decide (a0 ≤ a2))) else (some false)
set_option maxHeartbeats 8000000 in
set_option maxRecDepth 100000 in
theorem impl_within.calls (a0 : Int) (a1 : Int) (a2 : Int) (r : Bool) (w : World) (h : impl_within.f a0 a1 a2 = some r) :
  Calls Tryd.prog 52 #[.int .i64 a0, .int .i64 a1, .int .i64 a2] w fun e w' => e = .returned (.bool r) ∧ Drawn0 w w' := by
 have H : (if a0 ≥ a1 then (some (decide (a0 ≤ a2))) else (some false)) = some r := h
 clear h
 by_cases c4 : a0 ≥ a1
 ·rw [if_pos c4] at H
  have c4b0 : decide (a1 ≤ a0) = true := decide_eq_true c4
  clear c4
  obtain rfl := Option.some.inj H
  go_enter Tryd.func52, Tryd.ntmps52
  go_wp2
  go_ret
  exact ⟨by first | rfl | (simp; done) | (simp [*]; done), by repeat (first | exact Drawn0.refl _ | apply Drawn0.step)⟩
 ·rw [if_neg c4] at H
  have c4b0 : decide (a1 ≤ a0) = false := decide_eq_false c4
  clear c4
  obtain rfl := Option.some.inj H
  go_enter Tryd.func52, Tryd.ntmps52
  go_wp2
  go_ret
  exact ⟨by first | rfl | (simp; done) | (simp [*]; done), by repeat (first | exact Drawn0.refl _ | apply Drawn0.step)⟩

/-! ### impl_TouchingFaces: function 27 -/
def impl_TouchingFaces.f (a0 : Int) (a1 : Int) : Option (Bool × Int) := (impl_within.f a0 0 5).bind fun t381 => (if t381 = true then ((impl_within.f a1 0 5).bind fun t382 => (if t382 = true then (if a0 = a1 then (some (false, 0)) else (some (((wrap64 (a0 + a1)) != 5), 0))) else (some (false, 2)))) else (some (false, 2)))
set_option maxHeartbeats 8000000 in
set_option maxRecDepth 100000 in
theorem impl_TouchingFaces.calls (a0 : Int) (a1 : Int) (r1 : Bool) (r2 : Int) (w : World) (h : impl_TouchingFaces.f a0 a1 = some (r1, r2)) :
  Calls Tryd.prog 27 #[.int .i64 a0, .int .i64 a1] w fun e w' => e = .returned (.tuple #[.bool r1, .int .i64 r2]) ∧ Drawn0 w w' := by
 have H := h
 clear h
 unfold impl_TouchingFaces.f at H
 obtain ⟨t381, A3, H⟩ := bs_ H
 by_cases c4 : t381 = true
 ·subst c4
  rw [if_pos rfl] at H
  obtain ⟨t382, A5, H⟩ := bs_ H
  by_cases c6 : t382 = true
  ·subst c6
   rw [if_pos rfl] at H
   by_cases c7 : a0 = a1
   ·rw [if_pos c7] at H
    have c7b0 : (a0 == a1) = true := beq_iff_eq.mpr c7
    have c7b1 : (a0 != a1) = false := bne_eq_false_iff_eq.mpr c7
    clear c7
    simp only [Option.some.injEq, Prod.mk.injEq] at H
    obtain ⟨rfl, rfl⟩ := H
    go_enter Tryd.func27, Tryd.ntmps27
    go_wp2_with (first | ((with_reducible refine gate_callee (f := 52) rfl ?_); refine goesL_ (some 7) rfl rfl Tryd.func52 kr_ rfl #[.int .i64 a0, .int .i64 0, .int .i64 5] rfl ta_ ?_; (with_reducible refine (impl_within.calls a0 0 5 true _ A3.out).mono ?_); rintro e w' ⟨rfl, ⟨nd, rfl⟩⟩; refine ⟨_, rfl, ?_⟩) | (go_at_call 52; (with_reducible refine (impl_within.calls a1 0 5 true _ A5.out).mono ?_); rintro e w' ⟨rfl, ⟨nd, rfl⟩⟩))
    go_ret2
    exact ⟨by first | rfl | (simp; done) | (simp [*]; done), by repeat (first | exact Drawn0.refl _ | apply Drawn0.step)⟩
   ·rw [if_neg c7] at H
    have c7b0 : (a0 == a1) = false := beq_eq_false_iff_ne.mpr c7
    have c7b1 : (a0 != a1) = true := bne_iff_ne.mpr c7
    simp only [Option.some.injEq, Prod.mk.injEq] at H
    obtain ⟨rfl, rfl⟩ := H
    go_enter Tryd.func27, Tryd.ntmps27
    go_wp2_with (first | ((with_reducible refine gate_callee (f := 52) rfl ?_); refine goesL_ (some 7) rfl rfl Tryd.func52 kr_ rfl #[.int .i64 a0, .int .i64 0, .int .i64 5] rfl ta_ ?_; (with_reducible refine (impl_within.calls a0 0 5 true _ A3.out).mono ?_); rintro e w' ⟨rfl, ⟨nd, rfl⟩⟩; refine ⟨_, rfl, ?_⟩) | (go_at_call 52; (with_reducible refine (impl_within.calls a1 0 5 true _ A5.out).mono ?_); rintro e w' ⟨rfl, ⟨nd, rfl⟩⟩))
    go_ret2
    exact ⟨by first | rfl | (simp; done) | (simp [*]; done), by repeat (first | exact Drawn0.refl _ | apply Drawn0.step)⟩
  ·replace c6 := Bool.eq_false_iff.mpr c6
   subst c6
   rw [if_neg (show ¬ (false = true) by decide)] at H
   simp only [Option.some.injEq, Prod.mk.injEq] at H
   obtain ⟨rfl, rfl⟩ := H
   go_enter Tryd.func27, Tryd.ntmps27
   go_wp2_with (first | ((with_reducible refine gate_callee (f := 52) rfl ?_); refine goesL_ (some 7) rfl rfl Tryd.func52 kr_ rfl #[.int .i64 a0, .int .i64 0, .int .i64 5] rfl ta_ ?_; (with_reducible refine (impl_within.calls a0 0 5 true _ A3.out).mono ?_); rintro e w' ⟨rfl, ⟨nd, rfl⟩⟩; refine ⟨_, rfl, ?_⟩) | (go_at_call 52; (with_reducible refine (impl_within.calls a1 0 5 false _ A5.out).mono ?_); rintro e w' ⟨rfl, ⟨nd, rfl⟩⟩))
   go_ret2
   exact ⟨by first | rfl | (simp; done) | (simp [*]; done), by repeat (first | exact Drawn0.refl _ | apply Drawn0.step)⟩
 ·replace c4 := Bool.eq_false_iff.mpr c4
  subst c4
  rw [if_neg (show ¬ (false = true) by decide)] at H
  simp only [Option.some.injEq, Prod.mk.injEq] at H
  obtain ⟨rfl, rfl⟩ := H
  go_enter Tryd.func27, Tryd.ntmps27
  go_wp2_with (first | ((with_reducible refine gate_callee (f := 52) rfl ?_); refine goesL_ (some 7) rfl rfl Tryd.func52 kr_ rfl #[.int .i64 a0, .int .i64 0, .int .i64 5] rfl ta_ ?_; (with_reducible refine (impl_within.calls a0 0 5 false _ A3.out).mono ?_); rintro e w' ⟨rfl, ⟨nd, rfl⟩⟩; refine ⟨_, rfl, ?_⟩))
  go_ret2
  exact ⟨by first | rfl | (simp; done) | (simp [*]; done), by repeat (first | exact Drawn0.refl _ | apply Drawn0.step)⟩

end Go.Proofs.YtopceddgiddhlaaDoor.PFnRolled
