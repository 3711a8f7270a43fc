/- Over the kit's printer by a driver of mine (hprint.py), with parts by hand: functions of the program as Lean functions, and that each call comes to exactly these answers. -/
import Derived.Test.YtmdjkmfocgelnaaGreatDoorPFnAllNetsx0
namespace Go.Proofs.YtmdjkmfocgelnaaGreatDoor.PFnAllNets
open Go.RowKit Go.Proofs.YtmdjkmfocgelnaaGreatDoorW.PrintWords Go.Proofs.YtmdjkmfocgelnaaGreatDoorW.PrintLast Go.Proofs.YtmdjkmfocgelnaaGreatDoorW.PrintMore
attribute [local go_sem] max2_int min2_int max_two min_two max_three min_three max_four min_four   
set_option linter.unusedVariables false
set_option linter.unusedSimpArgs false
def spec_l01In.f (a0 : Int) (a1 : Int) (a2 : Int) : Option (Bool) := if a0 ≥ a1 then (some (decide (a0 ≤ a2))) else (some false)
set_option maxHeartbeats 8000000 in
set_option maxRecDepth 100000 in
theorem spec_l01In.calls (a0 : Int) (a1 : Int) (a2 : Int) (r : Bool) (w : World) (h : spec_l01In.f a0 a1 a2 = some r) :
  Calls Tryz.prog 62 #[.int .i64 a0, .int .i64 a1, .int .i64 a2] w fun e w' => e = .returned (.bool r) ∧ Drawn0 w w' := by
 have H : (if a0 ≥ a1 then (some (decide (a0 ≤ a2))) else (some false)) = some r := h
 clear h
 by_cases c4 : a0 ≥ a1
 ·rw [if_pos c4] at H
  have c4b0 : decide (a1 ≤ a0) = true := decide_eq_true c4
  clear c4
  obtain rfl := Option.some.inj H
  go_enter Tryz.func62, Tryz.ntmps62
  go_wp2
  go_ret
  exact ⟨by first | rfl | (simp; done) | (simp [*]; done), by repeat (first | exact Drawn0.refl _ | apply Drawn0.step)⟩
 ·rw [if_neg c4] at H
  have c4b0 : decide (a1 ≤ a0) = false := decide_eq_false c4
  clear c4
  obtain rfl := Option.some.inj H
  go_enter Tryz.func62, Tryz.ntmps62
  go_wp2
  go_ret
  exact ⟨by first | rfl | (simp; done) | (simp [*]; done), by repeat (first | exact Drawn0.refl _ | apply Drawn0.step)⟩
def spec_l02Less.f (a0_0 : Int) (a0_1 : Int) (a1_0 : Int) (a1_1 : Int) : Option (Bool) := if a0_1 < a1_1 then (some true) else (if a0_1 = a1_1 then (some (decide (a0_0 < a1_0))) else (some false))
set_option maxHeartbeats 8000000 in
set_option maxRecDepth 100000 in
theorem spec_l02Less.calls (a0_0 : Int) (a0_1 : Int) (a1_0 : Int) (a1_1 : Int) (r : Bool) (w : World) (h : spec_l02Less.f a0_0 a0_1 a1_0 a1_1 = some r) :
  Calls Tryz.prog 68 #[.agg #[.int .i64 a0_0, .int .i64 a0_1], .agg #[.int .i64 a1_0, .int .i64 a1_1]] w fun e w' => e = .returned (.bool r) ∧ Below w.heap.size w w' := by
 have hu56 := Tryz.underlying56
 have HB := a0_ (Below.refl w.heap.size w)
 have H := h
 clear h
 unfold spec_l02Less.f at H
 by_cases c3 : a0_1 < a1_1
 ·rw [if_pos c3] at H
  have c3b0 : decide (a0_1 < a1_1) = true := decide_eq_true c3
  clear c3
  obtain rfl := Option.some.inj H
  go_enter Tryz.func68, Tryz.ntmps68
  go_wp2_with (first | ((with_reducible refine gate_dst (N := 2) rfl ?_); refine bx_ (N := 2) (cs := #[.int .i64 a0_0, .int .i64 a0_1]) (t := 56) ?_; intro gb101 hg w4 hbox hb; have BK101 := a0_ (hbox); have GW101 := a0_ ((sz_ hg (bl0_) : w.heap.size ≤ gb101)); have GE101 := a0_ ((sz_ hg (bl0_) : w.heap.size ≤ gb101)); replace HB := a0_ (below_step (bl0_) hb); clear hb hbox hg) | ((with_reducible refine gate_dst (N := 3) rfl ?_); refine bx_ (N := 3) (cs := #[.int .i64 a1_0, .int .i64 a1_1]) (t := 56) ?_; intro gb102 hg w5 hbox hb; have BK102 := a0_ (hbox); have GW102 := a0_ ((sz_ hg (bl1_ GE101.out) : w.heap.size ≤ gb102)); have GE102 := a0_ ((sz_ hg (bl1_ GE101.out) : w.heap.size ≤ gb102)); replace HB := a0_ (below_step (bl1_ GE101.out) hb); have NB101_102 := a0_ ((nl_ hg BK101.out : gb101 ≠ gb102)); have NB102_101 := a0_ ((ng_ hg BK101.out : gb102 ≠ gb101)); replace BK101 := a0_ (bb_ BK101.out hb); clear hb hbox hg; have hnb6 := NB101_102.out; have hnc6 := NB102_101.out; obtain ⟨hcz7_0, hcz7_1, hfz7_0, hfz7_1⟩ := bc2_ BK101.out; obtain ⟨hcz8_0, hcz8_1, hfz8_0, hfz8_1⟩ := bc2_ BK102.out))
  go_ret
  exact ⟨er_, bl2_ GE101.out GE102.out⟩
 ·rw [if_neg c3] at H
  have c3b0 : decide (a0_1 < a1_1) = false := decide_eq_false c3
  clear c3
  by_cases c9 : a0_1 = a1_1
  ·rw [if_pos c9] at H
   have c9b0 : (a0_1 == a1_1) = true := beq_iff_eq.mpr c9
   have c9b1 : (a0_1 != a1_1) = false := bne_eq_false_iff_eq.mpr c9
   clear c9
   obtain rfl := Option.some.inj H
   go_enter Tryz.func68, Tryz.ntmps68
   go_wp2_with (first | ((with_reducible refine gate_dst (N := 2) rfl ?_); refine bx_ (N := 2) (cs := #[.int .i64 a0_0, .int .i64 a0_1]) (t := 56) ?_; intro gb101 hg w10 hbox hb; have BK101 := a0_ (hbox); have GW101 := a0_ ((sz_ hg (bl0_) : w.heap.size ≤ gb101)); have GE101 := a0_ ((sz_ hg (bl0_) : w.heap.size ≤ gb101)); replace HB := a0_ (below_step (bl0_) hb); clear hb hbox hg) | ((with_reducible refine gate_dst (N := 3) rfl ?_); refine bx_ (N := 3) (cs := #[.int .i64 a1_0, .int .i64 a1_1]) (t := 56) ?_; intro gb102 hg w11 hbox hb; have BK102 := a0_ (hbox); have GW102 := a0_ ((sz_ hg (bl1_ GE101.out) : w.heap.size ≤ gb102)); have GE102 := a0_ ((sz_ hg (bl1_ GE101.out) : w.heap.size ≤ gb102)); replace HB := a0_ (below_step (bl1_ GE101.out) hb); have NB101_102 := a0_ ((nl_ hg BK101.out : gb101 ≠ gb102)); have NB102_101 := a0_ ((ng_ hg BK101.out : gb102 ≠ gb101)); replace BK101 := a0_ (bb_ BK101.out hb); clear hb hbox hg; have hnb12 := NB101_102.out; have hnc12 := NB102_101.out; obtain ⟨hcz13_0, hcz13_1, hfz13_0, hfz13_1⟩ := bc2_ BK101.out; obtain ⟨hcz14_0, hcz14_1, hfz14_0, hfz14_1⟩ := bc2_ BK102.out))
   go_ret
   exact ⟨er_, bl2_ GE101.out GE102.out⟩
  ·rw [if_neg c9] at H
   have c9b0 : (a0_1 == a1_1) = false := beq_eq_false_iff_ne.mpr c9
   have c9b1 : (a0_1 != a1_1) = true := bne_iff_ne.mpr c9
   obtain rfl := Option.some.inj H
   go_enter Tryz.func68, Tryz.ntmps68
   go_wp2_with (first | ((with_reducible refine gate_dst (N := 2) rfl ?_); refine bx_ (N := 2) (cs := #[.int .i64 a0_0, .int .i64 a0_1]) (t := 56) ?_; intro gb101 hg w15 hbox hb; have BK101 := a0_ (hbox); have GW101 := a0_ ((sz_ hg (bl0_) : w.heap.size ≤ gb101)); have GE101 := a0_ ((sz_ hg (bl0_) : w.heap.size ≤ gb101)); replace HB := a0_ (below_step (bl0_) hb); clear hb hbox hg) | ((with_reducible refine gate_dst (N := 3) rfl ?_); refine bx_ (N := 3) (cs := #[.int .i64 a1_0, .int .i64 a1_1]) (t := 56) ?_; intro gb102 hg w16 hbox hb; have BK102 := a0_ (hbox); have GW102 := a0_ ((sz_ hg (bl1_ GE101.out) : w.heap.size ≤ gb102)); have GE102 := a0_ ((sz_ hg (bl1_ GE101.out) : w.heap.size ≤ gb102)); replace HB := a0_ (below_step (bl1_ GE101.out) hb); have NB101_102 := a0_ ((nl_ hg BK101.out : gb101 ≠ gb102)); have NB102_101 := a0_ ((ng_ hg BK101.out : gb102 ≠ gb101)); replace BK101 := a0_ (bb_ BK101.out hb); clear hb hbox hg; have hnb17 := NB101_102.out; have hnc17 := NB102_101.out; obtain ⟨hcz18_0, hcz18_1, hfz18_0, hfz18_1⟩ := bc2_ BK101.out; obtain ⟨hcz19_0, hcz19_1, hfz19_0, hfz19_1⟩ := bc2_ BK102.out))
   go_ret
   exact ⟨er_, bl2_ GE101.out GE102.out⟩
def spec_l02Cell.f (a0_0 : Int) (a0_1 : Int) : Option (Bool) := (spec_l01In.f a0_0 (-100) 100).bind fun t104 => (if t104 = true then ((spec_l01In.f a0_1 (-100) 100).bind fun t105 => (some t105)) else (some false))
set_option maxHeartbeats 8000000 in
set_option maxRecDepth 100000 in
theorem spec_l02Cell.calls (a0_0 : Int) (a0_1 : Int) (r : Bool) (w : World) (h : spec_l02Cell.f a0_0 a0_1 = some r) :
  Calls Tryz.prog 84 #[.agg #[.int .i64 a0_0, .int .i64 a0_1]] w fun e w' => e = .returned (.bool r) ∧ Below w.heap.size w w' := by
 have hu56 := Tryz.underlying56
 have HB := a0_ (Below.refl w.heap.size w)
 have H := h
 clear h
 unfold spec_l02Cell.f at H
 obtain ⟨t104, A2, H⟩ := bs_ H
 by_cases c3 : t104 = true
 ·subst c3
  rw [if_pos rfl] at H
  obtain ⟨t105, A4, H⟩ := bs_ H
  obtain rfl := Option.some.inj H
  go_enter Tryz.func84, Tryz.ntmps84
  go_wp2_with (first | ((with_reducible refine gate_dst (N := 1) rfl ?_); refine bx_ (N := 1) (cs := #[.int .i64 a0_0, .int .i64 a0_1]) (t := 56) ?_; intro gb103 hg w5 hbox hb; have BK103 := a0_ (hbox); have GW103 := a0_ ((sz_ hg (bl0_) : w.heap.size ≤ gb103)); have GE103 := a0_ ((sz_ hg (bl0_) : w.heap.size ≤ gb103)); replace HB := a0_ (below_step (bl0_) hb); clear hb hbox hg; obtain ⟨hcz6_0, hcz6_1, hfz6_0, hfz6_1⟩ := bc2_ BK103.out) | ((with_reducible refine gate_callee (f := 62) rfl ?_); refine goesL_ (some 5) rfl rfl Tryz.func62 kr_ rfl #[.int .i64 a0_0, .int .i64 (-100), .int .i64 100] rfl ta_ ?_; (with_reducible refine (spec_l01In.calls a0_0 (-100) 100 true _ A2.out).mono ?_); rintro e w' ⟨rfl, ⟨nd, rfl⟩⟩; refine ⟨_, rfl, ?_⟩) | (go_at_call 62; (with_reducible refine (spec_l01In.calls a0_1 (-100) 100 t105 _ A4.out).mono ?_); rintro e w' ⟨rfl, ⟨nd, rfl⟩⟩))
  go_ret
  exact ⟨er_, bl1_ GE103.out⟩
 ·replace c3 := Bool.eq_false_iff.mpr c3
  subst c3
  rw [if_neg (show ¬ (false = true) by decide)] at H
  obtain rfl := Option.some.inj H
  go_enter Tryz.func84, Tryz.ntmps84
  go_wp2_with (first | ((with_reducible refine gate_dst (N := 1) rfl ?_); refine bx_ (N := 1) (cs := #[.int .i64 a0_0, .int .i64 a0_1]) (t := 56) ?_; intro gb103 hg w7 hbox hb; have BK103 := a0_ (hbox); have GW103 := a0_ ((sz_ hg (bl0_) : w.heap.size ≤ gb103)); have GE103 := a0_ ((sz_ hg (bl0_) : w.heap.size ≤ gb103)); replace HB := a0_ (below_step (bl0_) hb); clear hb hbox hg; obtain ⟨hcz8_0, hcz8_1, hfz8_0, hfz8_1⟩ := bc2_ BK103.out) | ((with_reducible refine gate_callee (f := 62) rfl ?_); refine goesL_ (some 5) rfl rfl Tryz.func62 kr_ rfl #[.int .i64 a0_0, .int .i64 (-100), .int .i64 100] rfl ta_ ?_; (with_reducible refine (spec_l01In.calls a0_0 (-100) 100 false _ A2.out).mono ?_); rintro e w' ⟨rfl, ⟨nd, rfl⟩⟩; refine ⟨_, rfl, ?_⟩))
  go_ret
  exact ⟨er_, bl1_ GE103.out⟩
end Go.Proofs.YtmdjkmfocgelnaaGreatDoor.PFnAllNets
