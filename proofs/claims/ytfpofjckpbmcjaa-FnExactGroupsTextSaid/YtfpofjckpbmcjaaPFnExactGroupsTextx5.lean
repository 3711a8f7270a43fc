/- Over the kit's printer by a driver of mine (hprint.py), with parts by hand: functions of the program as Lean functions, and that each call comes to exactly these answers. -/
import Derived.Test.YtfpofjckpbmcjaaPFnExactGroupsTextx0
import Derived.Test.YtfpofjckpbmcjaaPFnExactGroupsTextx4
namespace Go.Proofs.Ytfpofjckpbmcjaa.PFnExactGroupsText
open Go.RowKit Go.Proofs.YtfpofjckpbmcjaaW.PrintWords Go.Proofs.YtfpofjckpbmcjaaW.PrintLast Go.Proofs.YtfpofjckpbmcjaaW.PrintMore
attribute [local go_sem] max2_int min2_int max_two min_two max_three min_three max_four min_four   -- for this text's walks alone
set_option linter.unusedVariables false
set_option linter.unusedSimpArgs false

/-! ### spec_l31Side: function 42 -/
def spec_l31Side.f (k : Nat) (l0 : List (S57)) (l1 : List Int) (a2 : Int) (a3 : Int) : Option (Int) := if (Int.tmod (wrap64 (a2 + a3)) 2) = 0 then (some 32) else (if (Int.tmod a2 2) = 0 then ((spec_l31Apart.f k l0 l1 (wrap64 ((wrap64 (Int.tdiv a2 2)) - 1)) (wrap64 (Int.tdiv (wrap64 (a3 - 1)) 2)) (wrap64 (Int.tdiv a2 2)) (wrap64 (Int.tdiv (wrap64 (a3 - 1)) 2))).bind fun t145 => (if t145 = true then (some 124) else (some 32))) else ((spec_l31Apart.f k l0 l1 (wrap64 (Int.tdiv (wrap64 (a2 - 1)) 2)) (wrap64 ((wrap64 (Int.tdiv a3 2)) - 1)) (wrap64 (Int.tdiv (wrap64 (a2 - 1)) 2)) (wrap64 (Int.tdiv a3 2))).bind fun t146 => (if t146 = true then (some 45) else (some 32))))
theorem spec_l31Side.mono : ∀ a0 a1 a2 a3 k, LeO (spec_l31Side.f k a0 a1 a2 a3) (spec_l31Side.f (k + 1) a0 a1 a2 a3) := by
  intro a0 a1 a2 a3 k
  unfold spec_l31Side.f
  repeat' first
      | (with_reducible exact spec_l31Apart.mono _ _ _ _ _ _ _)
      | (with_reducible exact LeO.refl _)
      | (with_reducible exact LeO.none _)
      | (with_reducible refine LeO.ite ?_ ?_)
      | (with_reducible refine LeO.bind ?_ (fun _ => ?_))
      | exact spec_l31Apart.mono _ _ _ _ _ _ _
      | exact LeO.none _
      | refine LeO.ite ?_ ?_
      | refine LeO.bind ?_ (fun _ => ?_)
set_option maxHeartbeats 8000000 in
set_option maxRecDepth 100000 in
theorem spec_l31Side.calls (k : Nat) (A0 : Option Addr) (c0 : Nat) (l0 : List (S57)) (A1 : Option Addr) (c1 : Nat) (l1 : List Int) (a2 : Int) (a3 : Int) (r : Int) (w : World) (hr0 : Kd.C k57 w A0 l0.length l0) (hc0 : l0.length ≤ c0) (hr1 : Kd.C (Kd.int .i64) w A1 l1.length l1) (hc1 : l1.length ≤ c1) (h : spec_l31Side.f k l0 l1 a2 a3 = some r) :
    Calls Try.prog 42 #[.slice A0 l0.length c0, .slice A1 l1.length c1, .int .i64 a2, .int .i64 a3] w fun e w' => e = .returned (.int .u8 r) ∧ Below w.heap.size w w' := by
  have hu57 := Try.underlying57
  have HR0 := Aside0.mk hr0
  have HC0 := Aside0.mk hc0
  clear hr0 hc0
  have HR1 := Aside0.mk hr1
  have HC1 := Aside0.mk hc1
  clear hr1 hc1
  have HB := Aside0.mk (Below.refl w.heap.size w)
  have H : (if (Int.tmod (wrap64 (a2 + a3)) 2) = 0 then (some 32) else (if (Int.tmod a2 2) = 0 then ((spec_l31Apart.f k l0 l1 (wrap64 ((wrap64 (Int.tdiv a2 2)) - 1)) (wrap64 (Int.tdiv (wrap64 (a3 - 1)) 2)) (wrap64 (Int.tdiv a2 2)) (wrap64 (Int.tdiv (wrap64 (a3 - 1)) 2))).bind fun t145 => (if t145 = true then (some 124) else (some 32))) else ((spec_l31Apart.f k l0 l1 (wrap64 (Int.tdiv (wrap64 (a2 - 1)) 2)) (wrap64 ((wrap64 (Int.tdiv a3 2)) - 1)) (wrap64 (Int.tdiv (wrap64 (a2 - 1)) 2)) (wrap64 (Int.tdiv a3 2))).bind fun t146 => (if t146 = true then (some 45) else (some 32))))) = some r := h
  clear h
  by_cases c5 : (Int.tmod (wrap64 (a2 + a3)) 2) = 0
  · rw [if_pos c5] at H
    have c5b0 : ((Int.tmod (wrap64 (a2 + a3)) 2) == 0) = true := beq_iff_eq.mpr c5
    have c5b1 : ((Int.tmod (wrap64 (a2 + a3)) 2) != 0) = false := bne_eq_false_iff_eq.mpr c5
    clear c5
    obtain rfl := Option.some.inj H
    go_enter Try.func42, Try.ntmps42
    go_wp2
    go_ret
    exact ⟨by first | rfl | (simp [errW_none, errW_some] <;> rfl) | (simp [*, errW_none, errW_some] <;> rfl), by repeat (first | (with_reducible first | exact HB.out | apply below_alloc | apply pw_below_drewN | apply below_drew1) | exact HB.out)⟩
  · rw [if_neg c5] at H
    have c5b0 : ((Int.tmod (wrap64 (a2 + a3)) 2) == 0) = false := beq_eq_false_iff_ne.mpr c5
    have c5b1 : ((Int.tmod (wrap64 (a2 + a3)) 2) != 0) = true := bne_iff_ne.mpr c5
    by_cases c6 : (Int.tmod a2 2) = 0
    · rw [if_pos c6] at H
      have c6b0 : ((Int.tmod a2 2) == 0) = true := beq_iff_eq.mpr c6
      have c6b1 : ((Int.tmod a2 2) != 0) = false := bne_eq_false_iff_eq.mpr c6
      clear c6
      replace H := Option.bind_eq_some_iff.mp H
      obtain ⟨t145, A70, H⟩ := H
      replace H : (if t145 = true then (some 124) else (some 32)) = some r := H
      have A7 := Aside0.mk A70
      clear A70
      by_cases c8 : t145 = true
      · subst c8
        have H1 : (some 124) = some r := by rw [if_pos rfl] at H; exact H
        clear H
        have H := H1
        clear H1
        obtain rfl := Option.some.inj H
        go_enter Try.func42, Try.ntmps42
        go_wp2_with (first | ((with_reducible refine gate_callee (f := 53) rfl ?_); refine goesL_ (some 33) rfl rfl Try.func53 (by kernel_rfl) rfl #[.slice A0 l0.length c0, .slice A1 l1.length c1, .agg #[.int .i64 (wrap64 ((wrap64 (Int.tdiv a2 2)) - 1)), .int .i64 (wrap64 (Int.tdiv (wrap64 (a3 - 1)) 2))], .agg #[.int .i64 (wrap64 (Int.tdiv a2 2)), .int .i64 (wrap64 (Int.tdiv (wrap64 (a3 - 1)) 2))]] rfl (by (try simp only [List.map_toArray, List.map_cons, List.map_nil]); first | done | rfl | (simp only [List.length_drop, List.length_take]; rfl)) ?_; (with_reducible refine (spec_l31Apart.calls k _ _ l0 _ _ l1 (wrap64 ((wrap64 (Int.tdiv a2 2)) - 1)) (wrap64 (Int.tdiv (wrap64 (a3 - 1)) 2)) (wrap64 (Int.tdiv a2 2)) (wrap64 (Int.tdiv (wrap64 (a3 - 1)) 2)) true _ ?side1 ?side2 ?side3 ?side4 A7.out).mono ?_); (case side1 => repeat (first | exact HR0.out | (with_reducible refine Kd.C_alloc ?_ _) | (with_reducible refine Kd.C_drewN ?_ _) | (with_reducible refine Kd.C_drew ?_))); (case side2 => exact HC0.out); (case side3 => repeat (first | exact HR1.out | (with_reducible refine Kd.C_alloc ?_ _) | (with_reducible refine Kd.C_drewN ?_ _) | (with_reducible refine Kd.C_drew ?_))); (case side4 => exact HC1.out); rintro e w9 ⟨rfl, hb⟩; refine ⟨_, rfl, ?_⟩; have n0_ := Aside0.mk (below_step (by repeat (first | (with_reducible first | exact HB.out | apply below_alloc | apply pw_below_drewN | apply below_drew1) | exact HB.out)) hb); clear HB; have HB := n0_; clear n0_; (try clear hb); (try clear hb2); (try clear hk); (try clear hi)))
        go_ret
        exact ⟨by first | rfl | (simp [errW_none, errW_some] <;> rfl) | (simp [*, errW_none, errW_some] <;> rfl), by repeat (first | (with_reducible first | exact HB.out | apply below_alloc | apply pw_below_drewN | apply below_drew1) | exact HB.out)⟩
      · replace c8 := Bool.eq_false_iff.mpr c8
        subst c8
        have H1 : (some 32) = some r := by rw [if_neg (show ¬ (false = true) by decide)] at H; exact H
        clear H
        have H := H1
        clear H1
        obtain rfl := Option.some.inj H
        go_enter Try.func42, Try.ntmps42
        go_wp2_with (first | ((with_reducible refine gate_callee (f := 53) rfl ?_); refine goesL_ (some 33) rfl rfl Try.func53 (by kernel_rfl) rfl #[.slice A0 l0.length c0, .slice A1 l1.length c1, .agg #[.int .i64 (wrap64 ((wrap64 (Int.tdiv a2 2)) - 1)), .int .i64 (wrap64 (Int.tdiv (wrap64 (a3 - 1)) 2))], .agg #[.int .i64 (wrap64 (Int.tdiv a2 2)), .int .i64 (wrap64 (Int.tdiv (wrap64 (a3 - 1)) 2))]] rfl (by (try simp only [List.map_toArray, List.map_cons, List.map_nil]); first | done | rfl | (simp only [List.length_drop, List.length_take]; rfl)) ?_; (with_reducible refine (spec_l31Apart.calls k _ _ l0 _ _ l1 (wrap64 ((wrap64 (Int.tdiv a2 2)) - 1)) (wrap64 (Int.tdiv (wrap64 (a3 - 1)) 2)) (wrap64 (Int.tdiv a2 2)) (wrap64 (Int.tdiv (wrap64 (a3 - 1)) 2)) false _ ?side1 ?side2 ?side3 ?side4 A7.out).mono ?_); (case side1 => repeat (first | exact HR0.out | (with_reducible refine Kd.C_alloc ?_ _) | (with_reducible refine Kd.C_drewN ?_ _) | (with_reducible refine Kd.C_drew ?_))); (case side2 => exact HC0.out); (case side3 => repeat (first | exact HR1.out | (with_reducible refine Kd.C_alloc ?_ _) | (with_reducible refine Kd.C_drewN ?_ _) | (with_reducible refine Kd.C_drew ?_))); (case side4 => exact HC1.out); rintro e w10 ⟨rfl, hb⟩; refine ⟨_, rfl, ?_⟩; have n0_ := Aside0.mk (below_step (by repeat (first | (with_reducible first | exact HB.out | apply below_alloc | apply pw_below_drewN | apply below_drew1) | exact HB.out)) hb); clear HB; have HB := n0_; clear n0_; (try clear hb); (try clear hb2); (try clear hk); (try clear hi)))
        go_ret
        exact ⟨by first | rfl | (simp [errW_none, errW_some] <;> rfl) | (simp [*, errW_none, errW_some] <;> rfl), by repeat (first | (with_reducible first | exact HB.out | apply below_alloc | apply pw_below_drewN | apply below_drew1) | exact HB.out)⟩
    · rw [if_neg c6] at H
      have c6b0 : ((Int.tmod a2 2) == 0) = false := beq_eq_false_iff_ne.mpr c6
      have c6b1 : ((Int.tmod a2 2) != 0) = true := bne_iff_ne.mpr c6
      replace H := Option.bind_eq_some_iff.mp H
      obtain ⟨t146, A110, H⟩ := H
      replace H : (if t146 = true then (some 45) else (some 32)) = some r := H
      have A11 := Aside0.mk A110
      clear A110
      by_cases c12 : t146 = true
      · subst c12
        have H1 : (some 45) = some r := by rw [if_pos rfl] at H; exact H
        clear H
        have H := H1
        clear H1
        obtain rfl := Option.some.inj H
        go_enter Try.func42, Try.ntmps42
        go_wp2_with (first | ((with_reducible refine gate_callee (f := 53) rfl ?_); refine goesL_ (some 48) rfl rfl Try.func53 (by kernel_rfl) rfl #[.slice A0 l0.length c0, .slice A1 l1.length c1, .agg #[.int .i64 (wrap64 (Int.tdiv (wrap64 (a2 - 1)) 2)), .int .i64 (wrap64 ((wrap64 (Int.tdiv a3 2)) - 1))], .agg #[.int .i64 (wrap64 (Int.tdiv (wrap64 (a2 - 1)) 2)), .int .i64 (wrap64 (Int.tdiv a3 2))]] rfl (by (try simp only [List.map_toArray, List.map_cons, List.map_nil]); first | done | rfl | (simp only [List.length_drop, List.length_take]; rfl)) ?_; (with_reducible refine (spec_l31Apart.calls k _ _ l0 _ _ l1 (wrap64 (Int.tdiv (wrap64 (a2 - 1)) 2)) (wrap64 ((wrap64 (Int.tdiv a3 2)) - 1)) (wrap64 (Int.tdiv (wrap64 (a2 - 1)) 2)) (wrap64 (Int.tdiv a3 2)) true _ ?side1 ?side2 ?side3 ?side4 A11.out).mono ?_); (case side1 => repeat (first | exact HR0.out | (with_reducible refine Kd.C_alloc ?_ _) | (with_reducible refine Kd.C_drewN ?_ _) | (with_reducible refine Kd.C_drew ?_))); (case side2 => exact HC0.out); (case side3 => repeat (first | exact HR1.out | (with_reducible refine Kd.C_alloc ?_ _) | (with_reducible refine Kd.C_drewN ?_ _) | (with_reducible refine Kd.C_drew ?_))); (case side4 => exact HC1.out); rintro e w13 ⟨rfl, hb⟩; refine ⟨_, rfl, ?_⟩; have n0_ := Aside0.mk (below_step (by repeat (first | (with_reducible first | exact HB.out | apply below_alloc | apply pw_below_drewN | apply below_drew1) | exact HB.out)) hb); clear HB; have HB := n0_; clear n0_; (try clear hb); (try clear hb2); (try clear hk); (try clear hi)))
        go_ret
        exact ⟨by first | rfl | (simp [errW_none, errW_some] <;> rfl) | (simp [*, errW_none, errW_some] <;> rfl), by repeat (first | (with_reducible first | exact HB.out | apply below_alloc | apply pw_below_drewN | apply below_drew1) | exact HB.out)⟩
      · replace c12 := Bool.eq_false_iff.mpr c12
        subst c12
        have H1 : (some 32) = some r := by rw [if_neg (show ¬ (false = true) by decide)] at H; exact H
        clear H
        have H := H1
        clear H1
        obtain rfl := Option.some.inj H
        go_enter Try.func42, Try.ntmps42
        go_wp2_with (first | ((with_reducible refine gate_callee (f := 53) rfl ?_); refine goesL_ (some 48) rfl rfl Try.func53 (by kernel_rfl) rfl #[.slice A0 l0.length c0, .slice A1 l1.length c1, .agg #[.int .i64 (wrap64 (Int.tdiv (wrap64 (a2 - 1)) 2)), .int .i64 (wrap64 ((wrap64 (Int.tdiv a3 2)) - 1))], .agg #[.int .i64 (wrap64 (Int.tdiv (wrap64 (a2 - 1)) 2)), .int .i64 (wrap64 (Int.tdiv a3 2))]] rfl (by (try simp only [List.map_toArray, List.map_cons, List.map_nil]); first | done | rfl | (simp only [List.length_drop, List.length_take]; rfl)) ?_; (with_reducible refine (spec_l31Apart.calls k _ _ l0 _ _ l1 (wrap64 (Int.tdiv (wrap64 (a2 - 1)) 2)) (wrap64 ((wrap64 (Int.tdiv a3 2)) - 1)) (wrap64 (Int.tdiv (wrap64 (a2 - 1)) 2)) (wrap64 (Int.tdiv a3 2)) false _ ?side1 ?side2 ?side3 ?side4 A11.out).mono ?_); (case side1 => repeat (first | exact HR0.out | (with_reducible refine Kd.C_alloc ?_ _) | (with_reducible refine Kd.C_drewN ?_ _) | (with_reducible refine Kd.C_drew ?_))); (case side2 => exact HC0.out); (case side3 => repeat (first | exact HR1.out | (with_reducible refine Kd.C_alloc ?_ _) | (with_reducible refine Kd.C_drewN ?_ _) | (with_reducible refine Kd.C_drew ?_))); (case side4 => exact HC1.out); rintro e w14 ⟨rfl, hb⟩; refine ⟨_, rfl, ?_⟩; have n0_ := Aside0.mk (below_step (by repeat (first | (with_reducible first | exact HB.out | apply below_alloc | apply pw_below_drewN | apply below_drew1) | exact HB.out)) hb); clear HB; have HB := n0_; clear n0_; (try clear hb); (try clear hb2); (try clear hk); (try clear hi)))
        go_ret
        exact ⟨by first | rfl | (simp [errW_none, errW_some] <;> rfl) | (simp [*, errW_none, errW_some] <;> rfl), by repeat (first | (with_reducible first | exact HB.out | apply below_alloc | apply pw_below_drewN | apply below_drew1) | exact HB.out)⟩

end Go.Proofs.Ytfpofjckpbmcjaa.PFnExactGroupsText
