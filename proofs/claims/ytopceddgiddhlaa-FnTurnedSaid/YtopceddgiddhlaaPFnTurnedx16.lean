/- Over the kit's printer by a driver of mine (hprint.py), with parts by hand: functions of the program as Lean functions, and that each call comes to exactly these answers. -/
import Derived.Test.YtopceddgiddhlaaPFnTurnedx0
import Derived.Test.YtopceddgiddhlaaPFnTurnedx2
import Derived.Test.YtopceddgiddhlaaPFnTurnedx6
import Derived.Test.YtopceddgiddhlaaPFnTurnedx9
import Derived.Test.YtopceddgiddhlaaPFnTurnedx11
import Derived.Test.YtopceddgiddhlaaPFnTurnedx13
import Derived.Test.YtopceddgiddhlaaPFnTurnedx15
namespace Go.Proofs.Ytopceddgiddhlaa.PFnTurned
open Go.RowKit Go.Proofs.YtopceddgiddhlaaW.PrintWords Go.Proofs.YtopceddgiddhlaaW.PrintLast Go.Proofs.YtopceddgiddhlaaW.PrintMore
attribute [local go_sem] max2_int min2_int max_two min_two max_three min_three max_four min_four   -- for this text's walks alone
set_option linter.unusedVariables false
set_option linter.unusedSimpArgs false

/-! ### laws_FnTurned: function 3 -/
def laws_FnTurned.j0 : Nat → List Int → List (S47) → Int → List (S47) → Int → Bool → Option (Bool)
  | 0, _, _, _, _, _, _ => none
  | k + 1, x0, x3, x4, x5, x6, x100 => if x100 = true then (some false) else (if x6 = 0 then ((laws_roll.f k x0 301).bind fun bt459 => ((laws_dice_below.f bt459.1 bt459.2.1 bt459.2.2 8).bind fun bt463 => ((impl_ComposeTurns.f k x4 bt463.1).bind fun bt466 => ((impl_TurnShape.f k x5 bt463.1).bind fun bt468 => ((impl_TurnShape.f k x3 bt466.1).bind fun bt472 => (if bt466.2 = 0 then (if bt468.2 = 0 then (if bt472.2 = 0 then ((laws_likeCells.f k bt468.1 bt472.1).bind fun t476 => (some t476)) else (some false)) else (some false)) else (some false))))))) else (some true))
def laws_FnTurned.f (k : Nat) (l0 : List Int) : Option (Bool) := (laws_big.f l0).bind fun t435 => (if t435 = true then (some true) else ((spec_DrawTurnShape.f k l0).bind fun bt436 => ((impl_TurnShape.f k bt436.1 bt436.2).bind fun bt440 => ((spec_TurnShape.f k bt436.1 bt436.2).bind fun bt444 => ((spec_DrawComposeTurns.f k l0).bind fun bt448 => ((impl_ComposeTurns.f k bt448.1 bt448.2).bind fun bt450 => ((spec_ComposeTurns.f k bt448.1 bt448.2).bind fun bt452 => ((impl_InverseTurn.f k bt448.1).bind fun bt454 => ((spec_InverseTurn.f k bt448.1).bind fun bt456 => (if bt440.2 = bt444.2 then ((laws_likeCells.f k bt440.1 bt444.1).bind fun t458 => (if t458 = true then (if bt450.2 = bt452.2 then (if bt450.1 = bt452.1 then (if bt454.2 = bt456.2 then (laws_FnTurned.j0 k l0 bt436.1 bt436.2 bt440.1 bt440.2 (bt454.1 != bt456.1)) else (laws_FnTurned.j0 k l0 bt436.1 bt436.2 bt440.1 bt440.2 true)) else (laws_FnTurned.j0 k l0 bt436.1 bt436.2 bt440.1 bt440.2 true)) else (laws_FnTurned.j0 k l0 bt436.1 bt436.2 bt440.1 bt440.2 true)) else (laws_FnTurned.j0 k l0 bt436.1 bt436.2 bt440.1 bt440.2 true))) else (laws_FnTurned.j0 k l0 bt436.1 bt436.2 bt440.1 bt440.2 true)))))))))))
theorem laws_FnTurned.mono_l : ∀ k, (∀ y0 y1 y2 y3 y4 y5, LeO (laws_FnTurned.j0 k y0 y1 y2 y3 y4 y5) (laws_FnTurned.j0 (k + 1) y0 y1 y2 y3 y4 y5))
  | 0 => fun _ _ _ _ _ _ r h => by simp [laws_FnTurned.j0] at h
  | k + 1 => by
    have ih0 := laws_FnTurned.mono_l k
    · intro y0 y1 y2 y3 y4 y5
      unfold laws_FnTurned.j0
      repeat' first
      | (with_reducible exact ih0 _ _ _ _ _ _)
      | (with_reducible exact impl_ComposeTurns.mono _ _ _)
      | (with_reducible exact impl_InverseTurn.mono _ _)
      | (with_reducible exact impl_TurnShape.mono _ _ _)
      | (with_reducible exact laws_likeCells.mono _ _ _)
      | (with_reducible exact laws_roll.mono _ _ _)
      | (with_reducible exact spec_ComposeTurns.mono _ _ _)
      | (with_reducible exact spec_DrawComposeTurns.mono _ _)
      | (with_reducible exact spec_DrawTurnShape.mono _ _)
      | (with_reducible exact spec_InverseTurn.mono _ _)
      | (with_reducible exact spec_TurnShape.mono _ _ _)
      | (with_reducible exact LeO.refl _)
      | (with_reducible exact LeO.none _)
      | (with_reducible refine LeO.ite ?_ ?_)
      | (with_reducible refine LeO.bind ?_ (fun _ => ?_))
      | exact ih0 _ _ _ _ _ _
      | exact impl_ComposeTurns.mono _ _ _
      | exact impl_InverseTurn.mono _ _
      | exact impl_TurnShape.mono _ _ _
      | exact laws_likeCells.mono _ _ _
      | exact laws_roll.mono _ _ _
      | exact spec_ComposeTurns.mono _ _ _
      | exact spec_DrawComposeTurns.mono _ _
      | exact spec_DrawTurnShape.mono _ _
      | exact spec_InverseTurn.mono _ _
      | exact spec_TurnShape.mono _ _ _
      | exact LeO.none _
      | refine LeO.ite ?_ ?_
      | refine LeO.bind ?_ (fun _ => ?_)
theorem laws_FnTurned.mono : ∀ a0 k, LeO (laws_FnTurned.f k a0) (laws_FnTurned.f (k + 1) a0) := by
  intro a0 k
  have ih0 := laws_FnTurned.mono_l k
  unfold laws_FnTurned.f
  repeat' first
      | (with_reducible exact ih0 _ _ _ _ _ _)
      | (with_reducible exact impl_ComposeTurns.mono _ _ _)
      | (with_reducible exact impl_InverseTurn.mono _ _)
      | (with_reducible exact impl_TurnShape.mono _ _ _)
      | (with_reducible exact laws_likeCells.mono _ _ _)
      | (with_reducible exact laws_roll.mono _ _ _)
      | (with_reducible exact spec_ComposeTurns.mono _ _ _)
      | (with_reducible exact spec_DrawComposeTurns.mono _ _)
      | (with_reducible exact spec_DrawTurnShape.mono _ _)
      | (with_reducible exact spec_InverseTurn.mono _ _)
      | (with_reducible exact spec_TurnShape.mono _ _ _)
      | (with_reducible exact LeO.refl _)
      | (with_reducible exact LeO.none _)
      | (with_reducible refine LeO.ite ?_ ?_)
      | (with_reducible refine LeO.bind ?_ (fun _ => ?_))
      | exact ih0 _ _ _ _ _ _
      | exact impl_ComposeTurns.mono _ _ _
      | exact impl_InverseTurn.mono _ _
      | exact impl_TurnShape.mono _ _ _
      | exact laws_likeCells.mono _ _ _
      | exact laws_roll.mono _ _ _
      | exact spec_ComposeTurns.mono _ _ _
      | exact spec_DrawComposeTurns.mono _ _
      | exact spec_DrawTurnShape.mono _ _
      | exact spec_InverseTurn.mono _ _
      | exact spec_TurnShape.mono _ _ _
      | exact LeO.none _
      | refine LeO.ite ?_ ?_
      | refine LeO.bind ?_ (fun _ => ?_)
set_option maxHeartbeats 8000000 in
set_option maxRecDepth 100000 in
theorem laws_FnTurned.calls (k : Nat) (A0 : Option Addr) (c0 : Nat) (l0 : List Int) (r : Bool) (w : World) (hr0 : Kd.C (Kd.int .u8) w A0 l0.length l0) (hc0 : l0.length ≤ c0) (h : laws_FnTurned.f k l0 = some r) :
    Calls Try.prog 3 #[.slice A0 l0.length c0] w fun e w' => e = .returned (.bool r) ∧ Below w.heap.size w w' := by
  have HR0 := Aside0.mk hr0
  have HC0 := Aside0.mk hc0
  clear hr0 hc0
  have HB := Aside0.mk (Below.refl w.heap.size w)
  have H : ((laws_big.f l0).bind fun t435 => (if t435 = true then (some true) else ((spec_DrawTurnShape.f k l0).bind fun bt436 => ((impl_TurnShape.f k bt436.1 bt436.2).bind fun bt440 => ((spec_TurnShape.f k bt436.1 bt436.2).bind fun bt444 => ((spec_DrawComposeTurns.f k l0).bind fun bt448 => ((impl_ComposeTurns.f k bt448.1 bt448.2).bind fun bt450 => ((spec_ComposeTurns.f k bt448.1 bt448.2).bind fun bt452 => ((impl_InverseTurn.f k bt448.1).bind fun bt454 => ((spec_InverseTurn.f k bt448.1).bind fun bt456 => (if bt440.2 = bt444.2 then ((laws_likeCells.f k bt440.1 bt444.1).bind fun t458 => (if t458 = true then (if bt450.2 = bt452.2 then (if bt450.1 = bt452.1 then (if bt454.2 = bt456.2 then (laws_FnTurned.j0 k l0 bt436.1 bt436.2 bt440.1 bt440.2 (bt454.1 != bt456.1)) else (laws_FnTurned.j0 k l0 bt436.1 bt436.2 bt440.1 bt440.2 true)) else (laws_FnTurned.j0 k l0 bt436.1 bt436.2 bt440.1 bt440.2 true)) else (laws_FnTurned.j0 k l0 bt436.1 bt436.2 bt440.1 bt440.2 true)) else (laws_FnTurned.j0 k l0 bt436.1 bt436.2 bt440.1 bt440.2 true))) else (laws_FnTurned.j0 k l0 bt436.1 bt436.2 bt440.1 bt440.2 true)))))))))))) = some r := h
  clear h
  replace H := Option.bind_eq_some_iff.mp H
  obtain ⟨t435, A20, H⟩ := H
  replace H : (if t435 = true then (some true) else ((spec_DrawTurnShape.f k l0).bind fun bt436 => ((impl_TurnShape.f k bt436.1 bt436.2).bind fun bt440 => ((spec_TurnShape.f k bt436.1 bt436.2).bind fun bt444 => ((spec_DrawComposeTurns.f k l0).bind fun bt448 => ((impl_ComposeTurns.f k bt448.1 bt448.2).bind fun bt450 => ((spec_ComposeTurns.f k bt448.1 bt448.2).bind fun bt452 => ((impl_InverseTurn.f k bt448.1).bind fun bt454 => ((spec_InverseTurn.f k bt448.1).bind fun bt456 => (if bt440.2 = bt444.2 then ((laws_likeCells.f k bt440.1 bt444.1).bind fun t458 => (if t458 = true then (if bt450.2 = bt452.2 then (if bt450.1 = bt452.1 then (if bt454.2 = bt456.2 then (laws_FnTurned.j0 k l0 bt436.1 bt436.2 bt440.1 bt440.2 (bt454.1 != bt456.1)) else (laws_FnTurned.j0 k l0 bt436.1 bt436.2 bt440.1 bt440.2 true)) else (laws_FnTurned.j0 k l0 bt436.1 bt436.2 bt440.1 bt440.2 true)) else (laws_FnTurned.j0 k l0 bt436.1 bt436.2 bt440.1 bt440.2 true)) else (laws_FnTurned.j0 k l0 bt436.1 bt436.2 bt440.1 bt440.2 true))) else (laws_FnTurned.j0 k l0 bt436.1 bt436.2 bt440.1 bt440.2 true))))))))))) = some r := H
  have A2 := Aside0.mk A20
  clear A20
  by_cases c3 : t435 = true
  · subst c3
    have H1 : (some true) = some r := by rw [if_pos rfl] at H; exact H
    clear H
    have H := H1
    clear H1
    obtain rfl := Option.some.inj H
    go_enter Try.func3, Try.ntmps3
    go_wp2_with (first | ((with_reducible refine gate_callee (f := 4) rfl ?_); refine goesL_ (some 27) rfl rfl Try.func4 (by kernel_rfl) rfl #[.slice A0 l0.length c0] rfl ta_ ?_; (with_reducible refine (laws_big.calls _ _ l0 true _ ?side1 ?side2 A2.out).mono ?_); (case side1 => exact ca_ HR0.out); (case side2 => exact HC0.out); rintro e w' ⟨rfl, ⟨nd, rfl⟩⟩; refine ⟨_, rfl, ?_⟩))
    go_ret
    exact ⟨er_, bl0_⟩
  · replace c3 := Bool.eq_false_iff.mpr c3
    subst c3
    have H1 : ((spec_DrawTurnShape.f k l0).bind fun bt436 => ((impl_TurnShape.f k bt436.1 bt436.2).bind fun bt440 => ((spec_TurnShape.f k bt436.1 bt436.2).bind fun bt444 => ((spec_DrawComposeTurns.f k l0).bind fun bt448 => ((impl_ComposeTurns.f k bt448.1 bt448.2).bind fun bt450 => ((spec_ComposeTurns.f k bt448.1 bt448.2).bind fun bt452 => ((impl_InverseTurn.f k bt448.1).bind fun bt454 => ((spec_InverseTurn.f k bt448.1).bind fun bt456 => (if bt440.2 = bt444.2 then ((laws_likeCells.f k bt440.1 bt444.1).bind fun t458 => (if t458 = true then (if bt450.2 = bt452.2 then (if bt450.1 = bt452.1 then (if bt454.2 = bt456.2 then (laws_FnTurned.j0 k l0 bt436.1 bt436.2 bt440.1 bt440.2 (bt454.1 != bt456.1)) else (laws_FnTurned.j0 k l0 bt436.1 bt436.2 bt440.1 bt440.2 true)) else (laws_FnTurned.j0 k l0 bt436.1 bt436.2 bt440.1 bt440.2 true)) else (laws_FnTurned.j0 k l0 bt436.1 bt436.2 bt440.1 bt440.2 true)) else (laws_FnTurned.j0 k l0 bt436.1 bt436.2 bt440.1 bt440.2 true))) else (laws_FnTurned.j0 k l0 bt436.1 bt436.2 bt440.1 bt440.2 true)))))))))) = some r := by rw [if_neg (show ¬ (false = true) by decide)] at H; exact H
    clear H
    have H := H1
    clear H1
    replace H := Option.bind_eq_some_iff.mp H
    obtain ⟨⟨t436, t437⟩, A40, H⟩ := H
    replace H : ((impl_TurnShape.f k t436 t437).bind fun bt440 => ((spec_TurnShape.f k t436 t437).bind fun bt444 => ((spec_DrawComposeTurns.f k l0).bind fun bt448 => ((impl_ComposeTurns.f k bt448.1 bt448.2).bind fun bt450 => ((spec_ComposeTurns.f k bt448.1 bt448.2).bind fun bt452 => ((impl_InverseTurn.f k bt448.1).bind fun bt454 => ((spec_InverseTurn.f k bt448.1).bind fun bt456 => (if bt440.2 = bt444.2 then ((laws_likeCells.f k bt440.1 bt444.1).bind fun t458 => (if t458 = true then (if bt450.2 = bt452.2 then (if bt450.1 = bt452.1 then (if bt454.2 = bt456.2 then (laws_FnTurned.j0 k l0 t436 t437 bt440.1 bt440.2 (bt454.1 != bt456.1)) else (laws_FnTurned.j0 k l0 t436 t437 bt440.1 bt440.2 true)) else (laws_FnTurned.j0 k l0 t436 t437 bt440.1 bt440.2 true)) else (laws_FnTurned.j0 k l0 t436 t437 bt440.1 bt440.2 true)) else (laws_FnTurned.j0 k l0 t436 t437 bt440.1 bt440.2 true))) else (laws_FnTurned.j0 k l0 t436 t437 bt440.1 bt440.2 true))))))))) = some r := H
    have A4 := Aside0.mk A40
    clear A40
    replace H := Option.bind_eq_some_iff.mp H
    obtain ⟨⟨t440, t441⟩, A50, H⟩ := H
    replace H : ((spec_TurnShape.f k t436 t437).bind fun bt444 => ((spec_DrawComposeTurns.f k l0).bind fun bt448 => ((impl_ComposeTurns.f k bt448.1 bt448.2).bind fun bt450 => ((spec_ComposeTurns.f k bt448.1 bt448.2).bind fun bt452 => ((impl_InverseTurn.f k bt448.1).bind fun bt454 => ((spec_InverseTurn.f k bt448.1).bind fun bt456 => (if t441 = bt444.2 then ((laws_likeCells.f k t440 bt444.1).bind fun t458 => (if t458 = true then (if bt450.2 = bt452.2 then (if bt450.1 = bt452.1 then (if bt454.2 = bt456.2 then (laws_FnTurned.j0 k l0 t436 t437 t440 t441 (bt454.1 != bt456.1)) else (laws_FnTurned.j0 k l0 t436 t437 t440 t441 true)) else (laws_FnTurned.j0 k l0 t436 t437 t440 t441 true)) else (laws_FnTurned.j0 k l0 t436 t437 t440 t441 true)) else (laws_FnTurned.j0 k l0 t436 t437 t440 t441 true))) else (laws_FnTurned.j0 k l0 t436 t437 t440 t441 true)))))))) = some r := H
    have A5 := Aside0.mk A50
    clear A50
    replace H := Option.bind_eq_some_iff.mp H
    obtain ⟨⟨t444, t445⟩, A60, H⟩ := H
    replace H : ((spec_DrawComposeTurns.f k l0).bind fun bt448 => ((impl_ComposeTurns.f k bt448.1 bt448.2).bind fun bt450 => ((spec_ComposeTurns.f k bt448.1 bt448.2).bind fun bt452 => ((impl_InverseTurn.f k bt448.1).bind fun bt454 => ((spec_InverseTurn.f k bt448.1).bind fun bt456 => (if t441 = t445 then ((laws_likeCells.f k t440 t444).bind fun t458 => (if t458 = true then (if bt450.2 = bt452.2 then (if bt450.1 = bt452.1 then (if bt454.2 = bt456.2 then (laws_FnTurned.j0 k l0 t436 t437 t440 t441 (bt454.1 != bt456.1)) else (laws_FnTurned.j0 k l0 t436 t437 t440 t441 true)) else (laws_FnTurned.j0 k l0 t436 t437 t440 t441 true)) else (laws_FnTurned.j0 k l0 t436 t437 t440 t441 true)) else (laws_FnTurned.j0 k l0 t436 t437 t440 t441 true))) else (laws_FnTurned.j0 k l0 t436 t437 t440 t441 true))))))) = some r := H
    have A6 := Aside0.mk A60
    clear A60
    replace H := Option.bind_eq_some_iff.mp H
    obtain ⟨⟨t448, t449⟩, A70, H⟩ := H
    replace H : ((impl_ComposeTurns.f k t448 t449).bind fun bt450 => ((spec_ComposeTurns.f k t448 t449).bind fun bt452 => ((impl_InverseTurn.f k t448).bind fun bt454 => ((spec_InverseTurn.f k t448).bind fun bt456 => (if t441 = t445 then ((laws_likeCells.f k t440 t444).bind fun t458 => (if t458 = true then (if bt450.2 = bt452.2 then (if bt450.1 = bt452.1 then (if bt454.2 = bt456.2 then (laws_FnTurned.j0 k l0 t436 t437 t440 t441 (bt454.1 != bt456.1)) else (laws_FnTurned.j0 k l0 t436 t437 t440 t441 true)) else (laws_FnTurned.j0 k l0 t436 t437 t440 t441 true)) else (laws_FnTurned.j0 k l0 t436 t437 t440 t441 true)) else (laws_FnTurned.j0 k l0 t436 t437 t440 t441 true))) else (laws_FnTurned.j0 k l0 t436 t437 t440 t441 true)))))) = some r := H
    have A7 := Aside0.mk A70
    clear A70
    replace H := Option.bind_eq_some_iff.mp H
    obtain ⟨⟨t450, t451⟩, A80, H⟩ := H
    replace H : ((spec_ComposeTurns.f k t448 t449).bind fun bt452 => ((impl_InverseTurn.f k t448).bind fun bt454 => ((spec_InverseTurn.f k t448).bind fun bt456 => (if t441 = t445 then ((laws_likeCells.f k t440 t444).bind fun t458 => (if t458 = true then (if t451 = bt452.2 then (if t450 = bt452.1 then (if bt454.2 = bt456.2 then (laws_FnTurned.j0 k l0 t436 t437 t440 t441 (bt454.1 != bt456.1)) else (laws_FnTurned.j0 k l0 t436 t437 t440 t441 true)) else (laws_FnTurned.j0 k l0 t436 t437 t440 t441 true)) else (laws_FnTurned.j0 k l0 t436 t437 t440 t441 true)) else (laws_FnTurned.j0 k l0 t436 t437 t440 t441 true))) else (laws_FnTurned.j0 k l0 t436 t437 t440 t441 true))))) = some r := H
    have A8 := Aside0.mk A80
    clear A80
    replace H := Option.bind_eq_some_iff.mp H
    obtain ⟨⟨t452, t453⟩, A90, H⟩ := H
    replace H : ((impl_InverseTurn.f k t448).bind fun bt454 => ((spec_InverseTurn.f k t448).bind fun bt456 => (if t441 = t445 then ((laws_likeCells.f k t440 t444).bind fun t458 => (if t458 = true then (if t451 = t453 then (if t450 = t452 then (if bt454.2 = bt456.2 then (laws_FnTurned.j0 k l0 t436 t437 t440 t441 (bt454.1 != bt456.1)) else (laws_FnTurned.j0 k l0 t436 t437 t440 t441 true)) else (laws_FnTurned.j0 k l0 t436 t437 t440 t441 true)) else (laws_FnTurned.j0 k l0 t436 t437 t440 t441 true)) else (laws_FnTurned.j0 k l0 t436 t437 t440 t441 true))) else (laws_FnTurned.j0 k l0 t436 t437 t440 t441 true)))) = some r := H
    have A9 := Aside0.mk A90
    clear A90
    replace H := Option.bind_eq_some_iff.mp H
    obtain ⟨⟨t454, t455⟩, A100, H⟩ := H
    replace H : ((spec_InverseTurn.f k t448).bind fun bt456 => (if t441 = t445 then ((laws_likeCells.f k t440 t444).bind fun t458 => (if t458 = true then (if t451 = t453 then (if t450 = t452 then (if t455 = bt456.2 then (laws_FnTurned.j0 k l0 t436 t437 t440 t441 (t454 != bt456.1)) else (laws_FnTurned.j0 k l0 t436 t437 t440 t441 true)) else (laws_FnTurned.j0 k l0 t436 t437 t440 t441 true)) else (laws_FnTurned.j0 k l0 t436 t437 t440 t441 true)) else (laws_FnTurned.j0 k l0 t436 t437 t440 t441 true))) else (laws_FnTurned.j0 k l0 t436 t437 t440 t441 true))) = some r := H
    have A10 := Aside0.mk A100
    clear A100
    replace H := Option.bind_eq_some_iff.mp H
    obtain ⟨⟨t456, t457⟩, A110, H⟩ := H
    replace H : (if t441 = t445 then ((laws_likeCells.f k t440 t444).bind fun t458 => (if t458 = true then (if t451 = t453 then (if t450 = t452 then (if t455 = t457 then (laws_FnTurned.j0 k l0 t436 t437 t440 t441 (t454 != t456)) else (laws_FnTurned.j0 k l0 t436 t437 t440 t441 true)) else (laws_FnTurned.j0 k l0 t436 t437 t440 t441 true)) else (laws_FnTurned.j0 k l0 t436 t437 t440 t441 true)) else (laws_FnTurned.j0 k l0 t436 t437 t440 t441 true))) else (laws_FnTurned.j0 k l0 t436 t437 t440 t441 true)) = some r := H
    have A11 := Aside0.mk A110
    clear A110
    have HC12 := Aside0.mk H
    clear H
    go_enter Try.func3, Try.ntmps3
    go_upto_region 11 with (first | ((with_reducible refine gate_callee (f := 4) rfl ?_); refine goesL_ (some 27) rfl rfl Try.func4 (by kernel_rfl) rfl #[.slice A0 l0.length c0] rfl ta_ ?_; (with_reducible refine (laws_big.calls _ _ l0 false _ ?side1 ?side2 A2.out).mono ?_); (case side1 => exact ca_ HR0.out); (case side2 => exact HC0.out); rintro e w' ⟨rfl, ⟨nd, rfl⟩⟩; refine ⟨_, rfl, ?_⟩) | ((with_reducible refine gate_callee (f := 5) rfl ?_); refine goesL_ (some 30) rfl rfl Try.func5 (by kernel_rfl) rfl #[.slice A0 l0.length c0] rfl ta_ ?_; (with_reducible refine (spec_DrawTurnShape.calls k _ _ l0 t436 t437 _ ?side1 ?side2 A4.out).mono ?_); (case side1 => exact ca_ HR0.out); (case side2 => exact HC0.out); rintro e w13 ⟨v438, rfl, ho0, hb⟩; refine ⟨_, rfl, ?_⟩; have n0_ := Aside0.mk (Kd.R_lower ho0 (below_size (bl0_))); have n1_ := Aside0.mk (below_step (bl0_) hb); clear HB; have HO439 := n0_; have HB := n1_; clear n0_ n1_; (try clear hb); (try clear hb2); (try clear hk); (try clear hi); (try clear ho0); obtain ⟨Ao14, co14, eo14⟩ := Kd.R_slice HO439.out; subst eo14) | ((with_reducible refine gate_callee (f := 6) rfl ?_); refine goesL_ (some 36) rfl rfl Try.func6 (by kernel_rfl) rfl #[.slice Ao14 t436.length co14, .int .i64 t437] rfl ta_ ?_; (with_reducible refine (impl_TurnShape.calls k _ _ t436 t437 t440 t441 _ ?side1 ?side2 A5.out).mono ?_); (case side1 => exact ca_ (Kd.R_reads' HO439.out).2.2); (case side2 => exact (Kd.R_reads' HO439.out).2.1); rintro e w15 ⟨v442, rfl, ho0, hb⟩; refine ⟨_, rfl, ?_⟩; have n0_ := Aside0.mk (Kd.R_elder' (ra_ HO439.out) (Kd.R_base ho0) hb); have n1_ := Aside0.mk (Kd.R_lower (Kd.R_new' ho0 (Kd.R_lt (ra_ HO439.out))) (below_size (bl0_))); have n2_ := Aside0.mk (below_step (bl0_) hb); clear HO439; clear HB; have HO439 := n0_; have HO443 := n1_; have HB := n2_; clear n0_ n1_ n2_; (try clear hb); (try clear hb2); (try clear hk); (try clear hi); (try clear ho0)) | ((with_reducible refine gate_callee (f := 7) rfl ?_); refine goesL_ (some 42) rfl rfl Try.func7 (by kernel_rfl) rfl #[.slice Ao14 t436.length co14, .int .i64 t437] rfl ta_ ?_; (with_reducible refine (spec_TurnShape.calls k _ _ t436 t437 t444 t445 _ ?side1 ?side2 A6.out).mono ?_); (case side1 => exact ca_ (Kd.R_reads' HO439.out).2.2); (case side2 => exact (Kd.R_reads' HO439.out).2.1); rintro e w16 ⟨v446, rfl, ho0, hb⟩; refine ⟨_, rfl, ?_⟩; have n0_ := Aside0.mk (Kd.R_elder' (ra_ HO439.out) (Kd.R_base ho0) hb); have n1_ := Aside0.mk (Kd.R_elder' (ra_ HO443.out) (Kd.R_base ho0) hb); have n2_ := Aside0.mk (Kd.R_lower (Kd.R_new' (Kd.R_new' ho0 (Kd.R_lt (ra_ HO439.out))) (Kd.R_lt (ra_ HO443.out))) (below_size (bl0_))); have n3_ := Aside0.mk (below_step (bl0_) hb); clear HO439; clear HO443; clear HB; have HO439 := n0_; have HO443 := n1_; have HO447 := n2_; have HB := n3_; clear n0_ n1_ n2_ n3_; (try clear hb); (try clear hb2); (try clear hk); (try clear hi); (try clear ho0)) | ((with_reducible refine gate_callee (f := 8) rfl ?_); refine goesL_ (some 47) rfl rfl Try.func8 (by kernel_rfl) rfl #[.slice A0 l0.length c0] rfl ta_ ?_; (with_reducible refine (spec_DrawComposeTurns.calls k _ _ l0 t448 t449 _ ?side1 ?side2 A7.out).mono ?_); (case side1 => exact ca_ (Kd.C_below HR0.out HB.out)); (case side2 => exact HC0.out); rintro e w17 ⟨rfl, hb⟩; refine ⟨_, rfl, ?_⟩; have n0_ := Aside0.mk (Kd.R_below (ra_ HO439.out) hb); have n1_ := Aside0.mk (Kd.R_below (ra_ HO443.out) hb); have n2_ := Aside0.mk (Kd.R_below (ra_ HO447.out) hb); have n3_ := Aside0.mk (below_step (bl0_) hb); clear HO439; clear HO443; clear HO447; clear HB; have HO439 := n0_; have HO443 := n1_; have HO447 := n2_; have HB := n3_; clear n0_ n1_ n2_ n3_; (try clear hb); (try clear hb2); (try clear hk); (try clear hi)) | ((with_reducible refine gate_callee (f := 9) rfl ?_); refine goesL_ (some 53) rfl rfl Try.func9 (by kernel_rfl) rfl #[.int .i64 t448, .int .i64 t449] rfl ta_ ?_; (with_reducible refine (impl_ComposeTurns.calls k t448 t449 t450 t451 _ A8.out).mono ?_); rintro e w18 ⟨rfl, hb⟩; refine ⟨_, rfl, ?_⟩; have n0_ := Aside0.mk (Kd.R_below (ra_ HO439.out) hb); have n1_ := Aside0.mk (Kd.R_below (ra_ HO443.out) hb); have n2_ := Aside0.mk (Kd.R_below (ra_ HO447.out) hb); have n3_ := Aside0.mk (below_step (bl0_) hb); clear HO439; clear HO443; clear HO447; clear HB; have HO439 := n0_; have HO443 := n1_; have HO447 := n2_; have HB := n3_; clear n0_ n1_ n2_ n3_; (try clear hb); (try clear hb2); (try clear hk); (try clear hi)) | ((with_reducible refine gate_callee (f := 10) rfl ?_); refine goesL_ (some 59) rfl rfl Try.func10 (by kernel_rfl) rfl #[.int .i64 t448, .int .i64 t449] rfl ta_ ?_; (with_reducible refine (spec_ComposeTurns.calls k t448 t449 t452 t453 _ A9.out).mono ?_); rintro e w19 ⟨rfl, hb⟩; refine ⟨_, rfl, ?_⟩; have n0_ := Aside0.mk (Kd.R_below (ra_ HO439.out) hb); have n1_ := Aside0.mk (Kd.R_below (ra_ HO443.out) hb); have n2_ := Aside0.mk (Kd.R_below (ra_ HO447.out) hb); have n3_ := Aside0.mk (below_step (bl0_) hb); clear HO439; clear HO443; clear HO447; clear HB; have HO439 := n0_; have HO443 := n1_; have HO447 := n2_; have HB := n3_; clear n0_ n1_ n2_ n3_; (try clear hb); (try clear hb2); (try clear hk); (try clear hi)) | ((with_reducible refine gate_callee (f := 11) rfl ?_); refine goesL_ (some 64) rfl rfl Try.func11 (by kernel_rfl) rfl #[.int .i64 t448] rfl ta_ ?_; (with_reducible refine (impl_InverseTurn.calls k t448 t454 t455 _ A10.out).mono ?_); rintro e w20 ⟨rfl, hb⟩; refine ⟨_, rfl, ?_⟩; have n0_ := Aside0.mk (Kd.R_below (ra_ HO439.out) hb); have n1_ := Aside0.mk (Kd.R_below (ra_ HO443.out) hb); have n2_ := Aside0.mk (Kd.R_below (ra_ HO447.out) hb); have n3_ := Aside0.mk (below_step (bl0_) hb); clear HO439; clear HO443; clear HO447; clear HB; have HO439 := n0_; have HO443 := n1_; have HO447 := n2_; have HB := n3_; clear n0_ n1_ n2_ n3_; (try clear hb); (try clear hb2); (try clear hk); (try clear hi)) | ((with_reducible refine gate_callee (f := 12) rfl ?_); refine goesL_ (some 69) rfl rfl Try.func12 (by kernel_rfl) rfl #[.int .i64 t448] rfl ta_ ?_; (with_reducible refine (spec_InverseTurn.calls k t448 t456 t457 _ A11.out).mono ?_); rintro e w21 ⟨rfl, hb⟩; refine ⟨_, rfl, ?_⟩; have n0_ := Aside0.mk (Kd.R_below (ra_ HO439.out) hb); have n1_ := Aside0.mk (Kd.R_below (ra_ HO443.out) hb); have n2_ := Aside0.mk (Kd.R_below (ra_ HO447.out) hb); have n3_ := Aside0.mk (below_step (bl0_) hb); clear HO439; clear HO443; clear HO447; clear HB; have HO439 := n0_; have HO443 := n1_; have HO447 := n2_; have HB := n3_; clear n0_ n1_ n2_ n3_; (try clear hb); (try clear hb2); (try clear hk); (try clear hi)))
    (try simp only [Act.put, List.setIfInBounds_toArray, List.set_cons_zero, List.set_cons_succ])
    go_cut [100] (fun v100 wc => ∃ (kq : Nat) (x100_11 : Bool), v100 = .bool x100_11 ∧ Aside0 (laws_FnTurned.j0 kq l0 t436 t437 t440 t441 x100_11 = some r) ∧ Aside0 (kq ≤ k) ∧ Aside0 (Kd.R k47 47 wc w.heap.size (fun k_ => some k_ ≠ (v442 : Value).ownBlock) (.slice Ao14 t436.length co14) t436) ∧ Aside0 (Kd.R k47 47 wc w.heap.size (fun k_ => some k_ ≠ ((.slice Ao14 t436.length co14) : Value).ownBlock) v442 t440) ∧ Aside0 (Below w.heap.size w wc))
    case first =>
      have H := HC12.out
      clear HC12
      by_cases c22 : t441 = t445
      · rw [if_pos c22] at H
        have c22b0 : (t441 == t445) = true := beq_iff_eq.mpr c22
        have c22b1 : (t441 != t445) = false := bne_eq_false_iff_eq.mpr c22
        clear c22
        (first | rw [c22b0] | (simp only [i64_w, i32_w]; rw [c22b0]) | skip)
        replace H := Option.bind_eq_some_iff.mp H
        obtain ⟨t458, A230, H⟩ := H
        replace H : (if t458 = true then (if t451 = t453 then (if t450 = t452 then (if t455 = t457 then (laws_FnTurned.j0 k l0 t436 t437 t440 t441 (t454 != t456)) else (laws_FnTurned.j0 k l0 t436 t437 t440 t441 true)) else (laws_FnTurned.j0 k l0 t436 t437 t440 t441 true)) else (laws_FnTurned.j0 k l0 t436 t437 t440 t441 true)) else (laws_FnTurned.j0 k l0 t436 t437 t440 t441 true)) = some r := H
        have A23 := Aside0.mk A230
        clear A230
        by_cases c24 : t458 = true
        · subst c24
          have H1 : (if t451 = t453 then (if t450 = t452 then (if t455 = t457 then (laws_FnTurned.j0 k l0 t436 t437 t440 t441 (t454 != t456)) else (laws_FnTurned.j0 k l0 t436 t437 t440 t441 true)) else (laws_FnTurned.j0 k l0 t436 t437 t440 t441 true)) else (laws_FnTurned.j0 k l0 t436 t437 t440 t441 true)) = some r := by rw [if_pos rfl] at H; exact H
          clear H
          have H := H1
          clear H1
          by_cases c25 : t451 = t453
          · rw [if_pos c25] at H
            have c25b0 : (t451 == t453) = true := beq_iff_eq.mpr c25
            have c25b1 : (t451 != t453) = false := bne_eq_false_iff_eq.mpr c25
            clear c25
            by_cases c26 : t450 = t452
            · rw [if_pos c26] at H
              have c26b0 : (t450 == t452) = true := beq_iff_eq.mpr c26
              have c26b1 : (t450 != t452) = false := bne_eq_false_iff_eq.mpr c26
              clear c26
              by_cases c27 : t455 = t457
              · rw [if_pos c27] at H
                have c27b0 : (t455 == t457) = true := beq_iff_eq.mpr c27
                have c27b1 : (t455 != t457) = false := bne_eq_false_iff_eq.mpr c27
                clear c27
                have H' := Aside0.mk H
                clear H
                obtain ⟨Ao28, co28, eo28⟩ := Kd.R_slice HO443.out
                subst eo28
                obtain ⟨Ao29, co29, eo29⟩ := Kd.R_slice HO447.out
                subst eo29
                go_wp2_with (first | (go_at_call 13; (with_reducible refine (laws_likeCells.calls k _ _ t440 _ _ t444 true _ ?side1 ?side2 ?side3 ?side4 A23.out).mono ?_); (case side1 => exact ca_ (Kd.R_reads' HO443.out).2.2); (case side2 => exact (Kd.R_reads' HO443.out).2.1); (case side3 => exact ca_ (Kd.R_reads' HO447.out).2.2); (case side4 => exact (Kd.R_reads' HO447.out).2.1); rintro e w' ⟨rfl, ⟨nd, rfl⟩⟩))
                go_meet
                case rel => exact ⟨_, ((t454 != t456)), rs_, H', ⟨by first | omega | exact Nat.le_refl _⟩, ⟨by (with_reducible repeat (first | apply Kd.R_alloc | apply Kd.R_drewN | apply Kd.R_drew)); exact Kd.R_mono HO439.out (fun _ hk => hk.1.2)⟩, ⟨by (with_reducible repeat (first | apply Kd.R_alloc | apply Kd.R_drewN | apply Kd.R_drew)); exact Kd.R_mono HO443.out (fun _ hk => hk.1.2)⟩, ⟨bl0_⟩⟩
              · rw [if_neg c27] at H
                have c27b0 : (t455 == t457) = false := beq_eq_false_iff_ne.mpr c27
                have c27b1 : (t455 != t457) = true := bne_iff_ne.mpr c27
                have H' := Aside0.mk H
                clear H
                obtain ⟨Ao30, co30, eo30⟩ := Kd.R_slice HO443.out
                subst eo30
                obtain ⟨Ao31, co31, eo31⟩ := Kd.R_slice HO447.out
                subst eo31
                go_wp2_with (first | (go_at_call 13; (with_reducible refine (laws_likeCells.calls k _ _ t440 _ _ t444 true _ ?side1 ?side2 ?side3 ?side4 A23.out).mono ?_); (case side1 => exact ca_ (Kd.R_reads' HO443.out).2.2); (case side2 => exact (Kd.R_reads' HO443.out).2.1); (case side3 => exact ca_ (Kd.R_reads' HO447.out).2.2); (case side4 => exact (Kd.R_reads' HO447.out).2.1); rintro e w' ⟨rfl, ⟨nd, rfl⟩⟩))
                go_meet
                case rel => exact ⟨_, (true), rs_, H', ⟨by first | omega | exact Nat.le_refl _⟩, ⟨by (with_reducible repeat (first | apply Kd.R_alloc | apply Kd.R_drewN | apply Kd.R_drew)); exact Kd.R_mono HO439.out (fun _ hk => hk.1.2)⟩, ⟨by (with_reducible repeat (first | apply Kd.R_alloc | apply Kd.R_drewN | apply Kd.R_drew)); exact Kd.R_mono HO443.out (fun _ hk => hk.1.2)⟩, ⟨bl0_⟩⟩
            · rw [if_neg c26] at H
              have c26b0 : (t450 == t452) = false := beq_eq_false_iff_ne.mpr c26
              have c26b1 : (t450 != t452) = true := bne_iff_ne.mpr c26
              have H' := Aside0.mk H
              clear H
              obtain ⟨Ao32, co32, eo32⟩ := Kd.R_slice HO443.out
              subst eo32
              obtain ⟨Ao33, co33, eo33⟩ := Kd.R_slice HO447.out
              subst eo33
              go_wp2_with (first | (go_at_call 13; (with_reducible refine (laws_likeCells.calls k _ _ t440 _ _ t444 true _ ?side1 ?side2 ?side3 ?side4 A23.out).mono ?_); (case side1 => exact ca_ (Kd.R_reads' HO443.out).2.2); (case side2 => exact (Kd.R_reads' HO443.out).2.1); (case side3 => exact ca_ (Kd.R_reads' HO447.out).2.2); (case side4 => exact (Kd.R_reads' HO447.out).2.1); rintro e w' ⟨rfl, ⟨nd, rfl⟩⟩))
              go_meet
              case rel => exact ⟨_, (true), rs_, H', ⟨by first | omega | exact Nat.le_refl _⟩, ⟨by (with_reducible repeat (first | apply Kd.R_alloc | apply Kd.R_drewN | apply Kd.R_drew)); exact Kd.R_mono HO439.out (fun _ hk => hk.1.2)⟩, ⟨by (with_reducible repeat (first | apply Kd.R_alloc | apply Kd.R_drewN | apply Kd.R_drew)); exact Kd.R_mono HO443.out (fun _ hk => hk.1.2)⟩, ⟨bl0_⟩⟩
          · rw [if_neg c25] at H
            have c25b0 : (t451 == t453) = false := beq_eq_false_iff_ne.mpr c25
            have c25b1 : (t451 != t453) = true := bne_iff_ne.mpr c25
            have H' := Aside0.mk H
            clear H
            obtain ⟨Ao34, co34, eo34⟩ := Kd.R_slice HO443.out
            subst eo34
            obtain ⟨Ao35, co35, eo35⟩ := Kd.R_slice HO447.out
            subst eo35
            go_wp2_with (first | (go_at_call 13; (with_reducible refine (laws_likeCells.calls k _ _ t440 _ _ t444 true _ ?side1 ?side2 ?side3 ?side4 A23.out).mono ?_); (case side1 => exact ca_ (Kd.R_reads' HO443.out).2.2); (case side2 => exact (Kd.R_reads' HO443.out).2.1); (case side3 => exact ca_ (Kd.R_reads' HO447.out).2.2); (case side4 => exact (Kd.R_reads' HO447.out).2.1); rintro e w' ⟨rfl, ⟨nd, rfl⟩⟩))
            go_meet
            case rel => exact ⟨_, (true), rs_, H', ⟨by first | omega | exact Nat.le_refl _⟩, ⟨by (with_reducible repeat (first | apply Kd.R_alloc | apply Kd.R_drewN | apply Kd.R_drew)); exact Kd.R_mono HO439.out (fun _ hk => hk.1.2)⟩, ⟨by (with_reducible repeat (first | apply Kd.R_alloc | apply Kd.R_drewN | apply Kd.R_drew)); exact Kd.R_mono HO443.out (fun _ hk => hk.1.2)⟩, ⟨bl0_⟩⟩
        · replace c24 := Bool.eq_false_iff.mpr c24
          subst c24
          have H1 : (laws_FnTurned.j0 k l0 t436 t437 t440 t441 true) = some r := by rw [if_neg (show ¬ (false = true) by decide)] at H; exact H
          clear H
          have H := H1
          clear H1
          have H' := Aside0.mk H
          clear H
          obtain ⟨Ao36, co36, eo36⟩ := Kd.R_slice HO443.out
          subst eo36
          obtain ⟨Ao37, co37, eo37⟩ := Kd.R_slice HO447.out
          subst eo37
          go_wp2_with (first | (go_at_call 13; (with_reducible refine (laws_likeCells.calls k _ _ t440 _ _ t444 false _ ?side1 ?side2 ?side3 ?side4 A23.out).mono ?_); (case side1 => exact ca_ (Kd.R_reads' HO443.out).2.2); (case side2 => exact (Kd.R_reads' HO443.out).2.1); (case side3 => exact ca_ (Kd.R_reads' HO447.out).2.2); (case side4 => exact (Kd.R_reads' HO447.out).2.1); rintro e w' ⟨rfl, ⟨nd, rfl⟩⟩))
          go_meet
          case rel => exact ⟨_, (true), rs_, H', ⟨by first | omega | exact Nat.le_refl _⟩, ⟨by (with_reducible repeat (first | apply Kd.R_alloc | apply Kd.R_drewN | apply Kd.R_drew)); exact Kd.R_mono HO439.out (fun _ hk => hk.1.2)⟩, ⟨by (with_reducible repeat (first | apply Kd.R_alloc | apply Kd.R_drewN | apply Kd.R_drew)); exact Kd.R_mono HO443.out (fun _ hk => hk.1.2)⟩, ⟨bl0_⟩⟩
      · rw [if_neg c22] at H
        have c22b0 : (t441 == t445) = false := beq_eq_false_iff_ne.mpr c22
        have c22b1 : (t441 != t445) = true := bne_iff_ne.mpr c22
        (first | rw [c22b0] | (simp only [i64_w, i32_w]; rw [c22b0]) | skip)
        have H' := Aside0.mk H
        clear H
        go_wp2
        go_meet
        case rel => exact ⟨_, (true), rs_, H', ⟨by first | omega | exact Nat.le_refl _⟩, ⟨by (with_reducible repeat (first | apply Kd.R_alloc | apply Kd.R_drewN | apply Kd.R_drew)); exact Kd.R_mono HO439.out (fun _ hk => hk.1.2)⟩, ⟨by (with_reducible repeat (first | apply Kd.R_alloc | apply Kd.R_drewN | apply Kd.R_drew)); exact Kd.R_mono HO443.out (fun _ hk => hk.1.2)⟩, ⟨bl0_⟩⟩
    case rest =>
      clear HC12
      try clear c1
      try clear c2
      try clear p2
      try clear c3
      try clear c4
      try clear c5
      try clear c6
      try clear c7
      try clear c8
      try clear c9
      try clear c10
      try clear c11
      try clear c12
      try clear c22
      try clear c22b0
      try clear c22b1
      try clear c24
      try clear c25
      try clear c25b0
      try clear c25b1
      try clear c26
      try clear c26b0
      try clear c26b1
      try clear c27
      try clear c27b0
      try clear c27b1
      obtain ⟨kq, x100_11, rfl, HA, HJ11, HO_3, HO_5, HB⟩ := hcut
      cases kq with
      | zero => exact absurd HA.out (by simp [laws_FnTurned.j0])
      | succ kj11 =>
        have H := HA.out
        clear HA
        simp only [laws_FnTurned.j0] at H
        by_cases c38 : x100_11 = true
        · subst c38
          have H1 : (some false) = some r := by rw [if_pos rfl] at H; exact H
          clear H
          have H := H1
          clear H1
          obtain rfl := Option.some.inj H
          go_wp2
          go_ret
          exact ⟨er_, bl0_⟩
        · replace c38 := Bool.eq_false_iff.mpr c38
          subst c38
          have H1 : (if t441 = 0 then ((laws_roll.f kj11 l0 301).bind fun bt459 => ((laws_dice_below.f bt459.1 bt459.2.1 bt459.2.2 8).bind fun bt463 => ((impl_ComposeTurns.f kj11 t437 bt463.1).bind fun bt466 => ((impl_TurnShape.f kj11 t440 bt463.1).bind fun bt468 => ((impl_TurnShape.f kj11 t436 bt466.1).bind fun bt472 => (if bt466.2 = 0 then (if bt468.2 = 0 then (if bt472.2 = 0 then ((laws_likeCells.f kj11 bt468.1 bt472.1).bind fun t476 => (some t476)) else (some false)) else (some false)) else (some false))))))) else (some true)) = some r := by rw [if_neg (show ¬ (false = true) by decide)] at H; exact H
          clear H
          have H := H1
          clear H1
          by_cases c39 : t441 = 0
          · rw [if_pos c39] at H
            have c39b0 : (t441 == 0) = true := beq_iff_eq.mpr c39
            have c39b1 : (t441 != 0) = false := bne_eq_false_iff_eq.mpr c39
            clear c39
            replace H := Option.bind_eq_some_iff.mp H
            obtain ⟨⟨t459, t460, t461⟩, A400, H⟩ := H
            replace H : ((laws_dice_below.f t459 t460 t461 8).bind fun bt463 => ((impl_ComposeTurns.f kj11 t437 bt463.1).bind fun bt466 => ((impl_TurnShape.f kj11 t440 bt463.1).bind fun bt468 => ((impl_TurnShape.f kj11 t436 bt466.1).bind fun bt472 => (if bt466.2 = 0 then (if bt468.2 = 0 then (if bt472.2 = 0 then ((laws_likeCells.f kj11 bt468.1 bt472.1).bind fun t476 => (some t476)) else (some false)) else (some false)) else (some false)))))) = some r := H
            have A40 := Aside0.mk A400
            clear A400
            replace H := Option.bind_eq_some_iff.mp H
            obtain ⟨⟨t463, t464, t465⟩, A410, H⟩ := H
            replace H : ((impl_ComposeTurns.f kj11 t437 t463).bind fun bt466 => ((impl_TurnShape.f kj11 t440 t463).bind fun bt468 => ((impl_TurnShape.f kj11 t436 bt466.1).bind fun bt472 => (if bt466.2 = 0 then (if bt468.2 = 0 then (if bt472.2 = 0 then ((laws_likeCells.f kj11 bt468.1 bt472.1).bind fun t476 => (some t476)) else (some false)) else (some false)) else (some false))))) = some r := H
            have A41 := Aside0.mk A410
            clear A410
            replace H := Option.bind_eq_some_iff.mp H
            obtain ⟨⟨t466, t467⟩, A420, H⟩ := H
            replace H : ((impl_TurnShape.f kj11 t440 t463).bind fun bt468 => ((impl_TurnShape.f kj11 t436 t466).bind fun bt472 => (if t467 = 0 then (if bt468.2 = 0 then (if bt472.2 = 0 then ((laws_likeCells.f kj11 bt468.1 bt472.1).bind fun t476 => (some t476)) else (some false)) else (some false)) else (some false)))) = some r := H
            have A42 := Aside0.mk A420
            clear A420
            replace H := Option.bind_eq_some_iff.mp H
            obtain ⟨⟨t468, t469⟩, A430, H⟩ := H
            replace H : ((impl_TurnShape.f kj11 t436 t466).bind fun bt472 => (if t467 = 0 then (if t469 = 0 then (if bt472.2 = 0 then ((laws_likeCells.f kj11 t468 bt472.1).bind fun t476 => (some t476)) else (some false)) else (some false)) else (some false))) = some r := H
            have A43 := Aside0.mk A430
            clear A430
            replace H := Option.bind_eq_some_iff.mp H
            obtain ⟨⟨t472, t473⟩, A440, H⟩ := H
            replace H : (if t467 = 0 then (if t469 = 0 then (if t473 = 0 then ((laws_likeCells.f kj11 t468 t472).bind fun t476 => (some t476)) else (some false)) else (some false)) else (some false)) = some r := H
            have A44 := Aside0.mk A440
            clear A440
            by_cases c45 : t467 = 0
            · rw [if_pos c45] at H
              have c45b0 : (t467 == 0) = true := beq_iff_eq.mpr c45
              have c45b1 : (t467 != 0) = false := bne_eq_false_iff_eq.mpr c45
              clear c45
              by_cases c46 : t469 = 0
              · rw [if_pos c46] at H
                have c46b0 : (t469 == 0) = true := beq_iff_eq.mpr c46
                have c46b1 : (t469 != 0) = false := bne_eq_false_iff_eq.mpr c46
                clear c46
                by_cases c47 : t473 = 0
                · rw [if_pos c47] at H
                  have c47b0 : (t473 == 0) = true := beq_iff_eq.mpr c47
                  have c47b1 : (t473 != 0) = false := bne_eq_false_iff_eq.mpr c47
                  clear c47
                  replace H := Option.bind_eq_some_iff.mp H
                  obtain ⟨t476, A480, H⟩ := H
                  replace H : (some t476) = some r := H
                  have A48 := Aside0.mk A480
                  clear A480
                  obtain rfl := Option.some.inj H
                  go_wp2_with (first | ((with_reducible refine gate_callee (f := 14) rfl ?_); refine goesL_ (some 104) rfl rfl Try.func14 (by kernel_rfl) rfl #[.slice A0 l0.length c0, .int .u64 301] rfl ta_ ?_; (with_reducible refine (laws_roll.calls kj11 _ _ l0 301 t459 t460 t461 w _ ?side1 ?side2 ?side3 A40.out).mono ?_); (case side1 => repeat (first | (with_reducible first | exact HB.out | apply below_alloc | apply pw_below_drewN | apply below_drew1) | exact HB.out)); (case side2 => exact HR0.out); (case side3 => exact HC0.out); rintro e w49 ⟨g462, rfl, hi, hb, hb2⟩; refine ⟨_, rfl, ?_⟩; have n0_ := Aside0.mk (Kd.R_below (ra_ HO_3.out) hb2); have n1_ := Aside0.mk (Kd.R_below (ra_ HO_5.out) hb2); have n2_ := Aside0.mk (hb); have n3_ := Aside0.mk (hi); clear HO_3; clear HO_5; clear HB; have HO_3 := n0_; have HO_5 := n1_; have HB := n2_; have HI462 := n3_; clear n0_ n1_ n2_ n3_; (try clear hb); (try clear hb2); (try clear hk); (try clear hi)) | ((with_reducible refine gate_callee (f := 15) rfl ?_); refine goesL_ (some 105) rfl rfl Try.func15 (by kernel_rfl) rfl #[.pointer (some ⟨g462, 0, none⟩), .int .i64 8] rfl ta_ ?_; (with_reducible refine (laws_dice_below.calls g462 t459 t460 t461 8 t463 t464 t465 w _ ?side1 ?side2 A41.out).mono ?_); (case side1 => repeat (first | (with_reducible first | exact HI462.out | apply IsS49.alloc | apply IsS49.drewN | apply IsS49.drew | apply IsS49.set_1 | apply IsS49.set_2) | exact HI462.out)); (case side2 => repeat (first | (with_reducible first | exact HB.out | apply below_alloc | apply pw_below_drewN | apply below_drew1 | refine below_set ?_ (IsS49.ge HI462.out)) | exact HB.out)); rintro e w50 ⟨rfl, hi, hb, hk⟩; refine ⟨_, rfl, ?_⟩; have n0_ := Aside0.mk (Kd.R_mono (Kd.R_keep (IsS49.apart (show IsS49 w _ g462 t459 t460 t461 from by repeat (first | (with_reducible first | exact HI462.out | apply IsS49.alloc | apply IsS49.drewN | apply IsS49.drew | apply IsS49.set_1 | apply IsS49.set_2) | exact HI462.out)) (ra_ HO_3.out) (by decide)) hk (fun _ h => h.2)) (fun _ h => h.1)); have n1_ := Aside0.mk (Kd.R_mono (Kd.R_keep (IsS49.apart (show IsS49 w _ g462 t459 t460 t461 from by repeat (first | (with_reducible first | exact HI462.out | apply IsS49.alloc | apply IsS49.drewN | apply IsS49.drew | apply IsS49.set_1 | apply IsS49.set_2) | exact HI462.out)) (ra_ HO_5.out) (by decide)) hk (fun _ h => h.2)) (fun _ h => h.1)); have n2_ := Aside0.mk (hb); have n3_ := Aside0.mk (hi); clear HO_3; clear HO_5; clear HB; clear HI462; have HO_3 := n0_; have HO_5 := n1_; have HB := n2_; have HI462 := n3_; clear n0_ n1_ n2_ n3_; (try clear hb); (try clear hb2); (try clear hk); (try clear hi)) | ((with_reducible refine gate_callee (f := 9) rfl ?_); refine goesL_ (some 109) rfl rfl Try.func9 (by kernel_rfl) rfl #[.int .i64 t437, .int .i64 t463] rfl ta_ ?_; (with_reducible refine (impl_ComposeTurns.calls kj11 t437 t463 t466 t467 _ A42.out).mono ?_); rintro e w51 ⟨rfl, hb⟩; refine ⟨_, rfl, ?_⟩; have n0_ := Aside0.mk (Kd.R_below (ra_ HO_3.out) hb); have n1_ := Aside0.mk (Kd.R_below (ra_ HO_5.out) hb); have n2_ := Aside0.mk (IsS49.below (by repeat (first | (with_reducible first | exact HI462.out | apply IsS49.alloc | apply IsS49.drewN | apply IsS49.drew | apply IsS49.set_1 | apply IsS49.set_2) | exact HI462.out)) hb); have n3_ := Aside0.mk (below_step (by repeat (first | (with_reducible first | exact HB.out | apply below_alloc | apply pw_below_drewN | apply below_drew1 | refine below_set ?_ (IsS49.ge HI462.out)) | exact HB.out)) hb); clear HO_3; clear HO_5; clear HI462; clear HB; have HO_3 := n0_; have HO_5 := n1_; have HI462 := n2_; have HB := n3_; clear n0_ n1_ n2_ n3_; (try clear hb); (try clear hb2); (try clear hk); (try clear hi); obtain ⟨Ao52, co52, eo52⟩ := Kd.R_slice HO_5.out; subst eo52) | ((with_reducible refine gate_callee (f := 6) rfl ?_); refine goesL_ (some 115) rfl rfl Try.func6 (by kernel_rfl) rfl #[.slice Ao52 t440.length co52, .int .i64 t463] rfl ta_ ?_; (with_reducible refine (impl_TurnShape.calls kj11 _ _ t440 t463 t468 t469 _ ?side1 ?side2 A43.out).mono ?_); (case side1 => exact ca_ (Kd.R_reads' HO_5.out).2.2); (case side2 => exact (Kd.R_reads' HO_5.out).2.1); rintro e w53 ⟨v470, rfl, ho0, hb⟩; refine ⟨_, rfl, ?_⟩; have n0_ := Aside0.mk (Kd.R_elder' (ra_ HO_3.out) (Kd.R_base ho0) hb); have n1_ := Aside0.mk (Kd.R_elder' (ra_ HO_5.out) (Kd.R_base ho0) hb); have n2_ := Aside0.mk (Kd.R_lower (Kd.R_new' (Kd.R_new' ho0 (Kd.R_lt (ra_ HO_3.out))) (Kd.R_lt (ra_ HO_5.out))) (below_size (by repeat (first | (with_reducible first | exact HB.out | apply below_alloc | apply pw_below_drewN | apply below_drew1 | refine below_set ?_ (IsS49.ge HI462.out)) | exact HB.out)))); have n3_ := Aside0.mk (IsS49.below (by repeat (first | (with_reducible first | exact HI462.out | apply IsS49.alloc | apply IsS49.drewN | apply IsS49.drew | apply IsS49.set_1 | apply IsS49.set_2) | exact HI462.out)) hb); have n4_ := Aside0.mk (below_step (by repeat (first | (with_reducible first | exact HB.out | apply below_alloc | apply pw_below_drewN | apply below_drew1 | refine below_set ?_ (IsS49.ge HI462.out)) | exact HB.out)) hb); clear HO_3; clear HO_5; clear HI462; clear HB; have HO_3 := n0_; have HO_5 := n1_; have HO471 := n2_; have HI462 := n3_; have HB := n4_; clear n0_ n1_ n2_ n3_ n4_; (try clear hb); (try clear hb2); (try clear hk); (try clear hi); (try clear ho0)) | ((with_reducible refine gate_callee (f := 6) rfl ?_); refine goesL_ (some 121) rfl rfl Try.func6 (by kernel_rfl) rfl #[.slice Ao14 t436.length co14, .int .i64 t466] rfl ta_ ?_; (with_reducible refine (impl_TurnShape.calls kj11 _ _ t436 t466 t472 t473 _ ?side1 ?side2 A44.out).mono ?_); (case side1 => exact ca_ (Kd.R_reads' HO_3.out).2.2); (case side2 => exact (Kd.R_reads' HO_3.out).2.1); rintro e w54 ⟨v474, rfl, ho0, hb⟩; refine ⟨_, rfl, ?_⟩; have n0_ := Aside0.mk (Kd.R_elder' (ra_ HO_3.out) (Kd.R_base ho0) hb); have n1_ := Aside0.mk (Kd.R_elder' (ra_ HO_5.out) (Kd.R_base ho0) hb); have n2_ := Aside0.mk (Kd.R_elder' (ra_ HO471.out) (Kd.R_base ho0) hb); have n3_ := Aside0.mk (Kd.R_lower (Kd.R_new' (Kd.R_new' (Kd.R_new' ho0 (Kd.R_lt (ra_ HO_3.out))) (Kd.R_lt (ra_ HO_5.out))) (Kd.R_lt (ra_ HO471.out))) (below_size (by repeat (first | (with_reducible first | exact HB.out | apply below_alloc | apply pw_below_drewN | apply below_drew1 | refine below_set ?_ (IsS49.ge HI462.out)) | exact HB.out)))); have n4_ := Aside0.mk (IsS49.below (by repeat (first | (with_reducible first | exact HI462.out | apply IsS49.alloc | apply IsS49.drewN | apply IsS49.drew | apply IsS49.set_1 | apply IsS49.set_2) | exact HI462.out)) hb); have n5_ := Aside0.mk (below_step (by repeat (first | (with_reducible first | exact HB.out | apply below_alloc | apply pw_below_drewN | apply below_drew1 | refine below_set ?_ (IsS49.ge HI462.out)) | exact HB.out)) hb); clear HO_3; clear HO_5; clear HO471; clear HI462; clear HB; have HO_3 := n0_; have HO_5 := n1_; have HO471 := n2_; have HO475 := n3_; have HI462 := n4_; have HB := n5_; clear n0_ n1_ n2_ n3_ n4_ n5_; (try clear hb); (try clear hb2); (try clear hk); (try clear hi); (try clear ho0); obtain ⟨Ao55, co55, eo55⟩ := Kd.R_slice HO471.out; subst eo55; obtain ⟨Ao56, co56, eo56⟩ := Kd.R_slice HO475.out; subst eo56) | (go_at_call 13; (with_reducible refine (laws_likeCells.calls kj11 _ _ t468 _ _ t472 t476 _ ?side1 ?side2 ?side3 ?side4 A48.out).mono ?_); (case side1 => exact ca_ (Kd.R_reads' HO471.out).2.2); (case side2 => exact (Kd.R_reads' HO471.out).2.1); (case side3 => exact ca_ (Kd.R_reads' HO475.out).2.2); (case side4 => exact (Kd.R_reads' HO475.out).2.1); rintro e w' ⟨rfl, ⟨nd, rfl⟩⟩))
                  go_ret
                  exact ⟨er_, by repeat (first | (with_reducible first | exact HB.out | apply below_alloc | apply pw_below_drewN | apply below_drew1 | refine below_set ?_ (IsS49.ge HI462.out)) | exact HB.out)⟩
                · rw [if_neg c47] at H
                  have c47b0 : (t473 == 0) = false := beq_eq_false_iff_ne.mpr c47
                  have c47b1 : (t473 != 0) = true := bne_iff_ne.mpr c47
                  obtain rfl := Option.some.inj H
                  go_wp2_with (first | ((with_reducible refine gate_callee (f := 14) rfl ?_); refine goesL_ (some 104) rfl rfl Try.func14 (by kernel_rfl) rfl #[.slice A0 l0.length c0, .int .u64 301] rfl ta_ ?_; (with_reducible refine (laws_roll.calls kj11 _ _ l0 301 t459 t460 t461 w _ ?side1 ?side2 ?side3 A40.out).mono ?_); (case side1 => repeat (first | (with_reducible first | exact HB.out | apply below_alloc | apply pw_below_drewN | apply below_drew1) | exact HB.out)); (case side2 => exact HR0.out); (case side3 => exact HC0.out); rintro e w57 ⟨g462, rfl, hi, hb, hb2⟩; refine ⟨_, rfl, ?_⟩; have n0_ := Aside0.mk (Kd.R_below (ra_ HO_3.out) hb2); have n1_ := Aside0.mk (Kd.R_below (ra_ HO_5.out) hb2); have n2_ := Aside0.mk (hb); have n3_ := Aside0.mk (hi); clear HO_3; clear HO_5; clear HB; have HO_3 := n0_; have HO_5 := n1_; have HB := n2_; have HI462 := n3_; clear n0_ n1_ n2_ n3_; (try clear hb); (try clear hb2); (try clear hk); (try clear hi)) | ((with_reducible refine gate_callee (f := 15) rfl ?_); refine goesL_ (some 105) rfl rfl Try.func15 (by kernel_rfl) rfl #[.pointer (some ⟨g462, 0, none⟩), .int .i64 8] rfl ta_ ?_; (with_reducible refine (laws_dice_below.calls g462 t459 t460 t461 8 t463 t464 t465 w _ ?side1 ?side2 A41.out).mono ?_); (case side1 => repeat (first | (with_reducible first | exact HI462.out | apply IsS49.alloc | apply IsS49.drewN | apply IsS49.drew | apply IsS49.set_1 | apply IsS49.set_2) | exact HI462.out)); (case side2 => repeat (first | (with_reducible first | exact HB.out | apply below_alloc | apply pw_below_drewN | apply below_drew1 | refine below_set ?_ (IsS49.ge HI462.out)) | exact HB.out)); rintro e w58 ⟨rfl, hi, hb, hk⟩; refine ⟨_, rfl, ?_⟩; have n0_ := Aside0.mk (Kd.R_mono (Kd.R_keep (IsS49.apart (show IsS49 w _ g462 t459 t460 t461 from by repeat (first | (with_reducible first | exact HI462.out | apply IsS49.alloc | apply IsS49.drewN | apply IsS49.drew | apply IsS49.set_1 | apply IsS49.set_2) | exact HI462.out)) (ra_ HO_3.out) (by decide)) hk (fun _ h => h.2)) (fun _ h => h.1)); have n1_ := Aside0.mk (Kd.R_mono (Kd.R_keep (IsS49.apart (show IsS49 w _ g462 t459 t460 t461 from by repeat (first | (with_reducible first | exact HI462.out | apply IsS49.alloc | apply IsS49.drewN | apply IsS49.drew | apply IsS49.set_1 | apply IsS49.set_2) | exact HI462.out)) (ra_ HO_5.out) (by decide)) hk (fun _ h => h.2)) (fun _ h => h.1)); have n2_ := Aside0.mk (hb); have n3_ := Aside0.mk (hi); clear HO_3; clear HO_5; clear HB; clear HI462; have HO_3 := n0_; have HO_5 := n1_; have HB := n2_; have HI462 := n3_; clear n0_ n1_ n2_ n3_; (try clear hb); (try clear hb2); (try clear hk); (try clear hi)) | ((with_reducible refine gate_callee (f := 9) rfl ?_); refine goesL_ (some 109) rfl rfl Try.func9 (by kernel_rfl) rfl #[.int .i64 t437, .int .i64 t463] rfl ta_ ?_; (with_reducible refine (impl_ComposeTurns.calls kj11 t437 t463 t466 t467 _ A42.out).mono ?_); rintro e w59 ⟨rfl, hb⟩; refine ⟨_, rfl, ?_⟩; have n0_ := Aside0.mk (Kd.R_below (ra_ HO_3.out) hb); have n1_ := Aside0.mk (Kd.R_below (ra_ HO_5.out) hb); have n2_ := Aside0.mk (IsS49.below (by repeat (first | (with_reducible first | exact HI462.out | apply IsS49.alloc | apply IsS49.drewN | apply IsS49.drew | apply IsS49.set_1 | apply IsS49.set_2) | exact HI462.out)) hb); have n3_ := Aside0.mk (below_step (by repeat (first | (with_reducible first | exact HB.out | apply below_alloc | apply pw_below_drewN | apply below_drew1 | refine below_set ?_ (IsS49.ge HI462.out)) | exact HB.out)) hb); clear HO_3; clear HO_5; clear HI462; clear HB; have HO_3 := n0_; have HO_5 := n1_; have HI462 := n2_; have HB := n3_; clear n0_ n1_ n2_ n3_; (try clear hb); (try clear hb2); (try clear hk); (try clear hi); obtain ⟨Ao60, co60, eo60⟩ := Kd.R_slice HO_5.out; subst eo60) | ((with_reducible refine gate_callee (f := 6) rfl ?_); refine goesL_ (some 115) rfl rfl Try.func6 (by kernel_rfl) rfl #[.slice Ao60 t440.length co60, .int .i64 t463] rfl ta_ ?_; (with_reducible refine (impl_TurnShape.calls kj11 _ _ t440 t463 t468 t469 _ ?side1 ?side2 A43.out).mono ?_); (case side1 => exact ca_ (Kd.R_reads' HO_5.out).2.2); (case side2 => exact (Kd.R_reads' HO_5.out).2.1); rintro e w61 ⟨v470, rfl, ho0, hb⟩; refine ⟨_, rfl, ?_⟩; have n0_ := Aside0.mk (Kd.R_elder' (ra_ HO_3.out) (Kd.R_base ho0) hb); have n1_ := Aside0.mk (Kd.R_elder' (ra_ HO_5.out) (Kd.R_base ho0) hb); have n2_ := Aside0.mk (Kd.R_lower (Kd.R_new' (Kd.R_new' ho0 (Kd.R_lt (ra_ HO_3.out))) (Kd.R_lt (ra_ HO_5.out))) (below_size (by repeat (first | (with_reducible first | exact HB.out | apply below_alloc | apply pw_below_drewN | apply below_drew1 | refine below_set ?_ (IsS49.ge HI462.out)) | exact HB.out)))); have n3_ := Aside0.mk (IsS49.below (by repeat (first | (with_reducible first | exact HI462.out | apply IsS49.alloc | apply IsS49.drewN | apply IsS49.drew | apply IsS49.set_1 | apply IsS49.set_2) | exact HI462.out)) hb); have n4_ := Aside0.mk (below_step (by repeat (first | (with_reducible first | exact HB.out | apply below_alloc | apply pw_below_drewN | apply below_drew1 | refine below_set ?_ (IsS49.ge HI462.out)) | exact HB.out)) hb); clear HO_3; clear HO_5; clear HI462; clear HB; have HO_3 := n0_; have HO_5 := n1_; have HO471 := n2_; have HI462 := n3_; have HB := n4_; clear n0_ n1_ n2_ n3_ n4_; (try clear hb); (try clear hb2); (try clear hk); (try clear hi); (try clear ho0)) | ((with_reducible refine gate_callee (f := 6) rfl ?_); refine goesL_ (some 121) rfl rfl Try.func6 (by kernel_rfl) rfl #[.slice Ao14 t436.length co14, .int .i64 t466] rfl ta_ ?_; (with_reducible refine (impl_TurnShape.calls kj11 _ _ t436 t466 t472 t473 _ ?side1 ?side2 A44.out).mono ?_); (case side1 => exact ca_ (Kd.R_reads' HO_3.out).2.2); (case side2 => exact (Kd.R_reads' HO_3.out).2.1); rintro e w62 ⟨v474, rfl, ho0, hb⟩; refine ⟨_, rfl, ?_⟩; have n0_ := Aside0.mk (Kd.R_elder' (ra_ HO_3.out) (Kd.R_base ho0) hb); have n1_ := Aside0.mk (Kd.R_elder' (ra_ HO_5.out) (Kd.R_base ho0) hb); have n2_ := Aside0.mk (Kd.R_elder' (ra_ HO471.out) (Kd.R_base ho0) hb); have n3_ := Aside0.mk (Kd.R_lower (Kd.R_new' (Kd.R_new' (Kd.R_new' ho0 (Kd.R_lt (ra_ HO_3.out))) (Kd.R_lt (ra_ HO_5.out))) (Kd.R_lt (ra_ HO471.out))) (below_size (by repeat (first | (with_reducible first | exact HB.out | apply below_alloc | apply pw_below_drewN | apply below_drew1 | refine below_set ?_ (IsS49.ge HI462.out)) | exact HB.out)))); have n4_ := Aside0.mk (IsS49.below (by repeat (first | (with_reducible first | exact HI462.out | apply IsS49.alloc | apply IsS49.drewN | apply IsS49.drew | apply IsS49.set_1 | apply IsS49.set_2) | exact HI462.out)) hb); have n5_ := Aside0.mk (below_step (by repeat (first | (with_reducible first | exact HB.out | apply below_alloc | apply pw_below_drewN | apply below_drew1 | refine below_set ?_ (IsS49.ge HI462.out)) | exact HB.out)) hb); clear HO_3; clear HO_5; clear HO471; clear HI462; clear HB; have HO_3 := n0_; have HO_5 := n1_; have HO471 := n2_; have HO475 := n3_; have HI462 := n4_; have HB := n5_; clear n0_ n1_ n2_ n3_ n4_ n5_; (try clear hb); (try clear hb2); (try clear hk); (try clear hi); (try clear ho0)))
                  go_ret
                  exact ⟨er_, by repeat (first | (with_reducible first | exact HB.out | apply below_alloc | apply pw_below_drewN | apply below_drew1 | refine below_set ?_ (IsS49.ge HI462.out)) | exact HB.out)⟩
              · rw [if_neg c46] at H
                have c46b0 : (t469 == 0) = false := beq_eq_false_iff_ne.mpr c46
                have c46b1 : (t469 != 0) = true := bne_iff_ne.mpr c46
                obtain rfl := Option.some.inj H
                go_wp2_with (first | ((with_reducible refine gate_callee (f := 14) rfl ?_); refine goesL_ (some 104) rfl rfl Try.func14 (by kernel_rfl) rfl #[.slice A0 l0.length c0, .int .u64 301] rfl ta_ ?_; (with_reducible refine (laws_roll.calls kj11 _ _ l0 301 t459 t460 t461 w _ ?side1 ?side2 ?side3 A40.out).mono ?_); (case side1 => repeat (first | (with_reducible first | exact HB.out | apply below_alloc | apply pw_below_drewN | apply below_drew1) | exact HB.out)); (case side2 => exact HR0.out); (case side3 => exact HC0.out); rintro e w63 ⟨g462, rfl, hi, hb, hb2⟩; refine ⟨_, rfl, ?_⟩; have n0_ := Aside0.mk (Kd.R_below (ra_ HO_3.out) hb2); have n1_ := Aside0.mk (Kd.R_below (ra_ HO_5.out) hb2); have n2_ := Aside0.mk (hb); have n3_ := Aside0.mk (hi); clear HO_3; clear HO_5; clear HB; have HO_3 := n0_; have HO_5 := n1_; have HB := n2_; have HI462 := n3_; clear n0_ n1_ n2_ n3_; (try clear hb); (try clear hb2); (try clear hk); (try clear hi)) | ((with_reducible refine gate_callee (f := 15) rfl ?_); refine goesL_ (some 105) rfl rfl Try.func15 (by kernel_rfl) rfl #[.pointer (some ⟨g462, 0, none⟩), .int .i64 8] rfl ta_ ?_; (with_reducible refine (laws_dice_below.calls g462 t459 t460 t461 8 t463 t464 t465 w _ ?side1 ?side2 A41.out).mono ?_); (case side1 => repeat (first | (with_reducible first | exact HI462.out | apply IsS49.alloc | apply IsS49.drewN | apply IsS49.drew | apply IsS49.set_1 | apply IsS49.set_2) | exact HI462.out)); (case side2 => repeat (first | (with_reducible first | exact HB.out | apply below_alloc | apply pw_below_drewN | apply below_drew1 | refine below_set ?_ (IsS49.ge HI462.out)) | exact HB.out)); rintro e w64 ⟨rfl, hi, hb, hk⟩; refine ⟨_, rfl, ?_⟩; have n0_ := Aside0.mk (Kd.R_mono (Kd.R_keep (IsS49.apart (show IsS49 w _ g462 t459 t460 t461 from by repeat (first | (with_reducible first | exact HI462.out | apply IsS49.alloc | apply IsS49.drewN | apply IsS49.drew | apply IsS49.set_1 | apply IsS49.set_2) | exact HI462.out)) (ra_ HO_3.out) (by decide)) hk (fun _ h => h.2)) (fun _ h => h.1)); have n1_ := Aside0.mk (Kd.R_mono (Kd.R_keep (IsS49.apart (show IsS49 w _ g462 t459 t460 t461 from by repeat (first | (with_reducible first | exact HI462.out | apply IsS49.alloc | apply IsS49.drewN | apply IsS49.drew | apply IsS49.set_1 | apply IsS49.set_2) | exact HI462.out)) (ra_ HO_5.out) (by decide)) hk (fun _ h => h.2)) (fun _ h => h.1)); have n2_ := Aside0.mk (hb); have n3_ := Aside0.mk (hi); clear HO_3; clear HO_5; clear HB; clear HI462; have HO_3 := n0_; have HO_5 := n1_; have HB := n2_; have HI462 := n3_; clear n0_ n1_ n2_ n3_; (try clear hb); (try clear hb2); (try clear hk); (try clear hi)) | ((with_reducible refine gate_callee (f := 9) rfl ?_); refine goesL_ (some 109) rfl rfl Try.func9 (by kernel_rfl) rfl #[.int .i64 t437, .int .i64 t463] rfl ta_ ?_; (with_reducible refine (impl_ComposeTurns.calls kj11 t437 t463 t466 t467 _ A42.out).mono ?_); rintro e w65 ⟨rfl, hb⟩; refine ⟨_, rfl, ?_⟩; have n0_ := Aside0.mk (Kd.R_below (ra_ HO_3.out) hb); have n1_ := Aside0.mk (Kd.R_below (ra_ HO_5.out) hb); have n2_ := Aside0.mk (IsS49.below (by repeat (first | (with_reducible first | exact HI462.out | apply IsS49.alloc | apply IsS49.drewN | apply IsS49.drew | apply IsS49.set_1 | apply IsS49.set_2) | exact HI462.out)) hb); have n3_ := Aside0.mk (below_step (by repeat (first | (with_reducible first | exact HB.out | apply below_alloc | apply pw_below_drewN | apply below_drew1 | refine below_set ?_ (IsS49.ge HI462.out)) | exact HB.out)) hb); clear HO_3; clear HO_5; clear HI462; clear HB; have HO_3 := n0_; have HO_5 := n1_; have HI462 := n2_; have HB := n3_; clear n0_ n1_ n2_ n3_; (try clear hb); (try clear hb2); (try clear hk); (try clear hi); obtain ⟨Ao66, co66, eo66⟩ := Kd.R_slice HO_5.out; subst eo66) | ((with_reducible refine gate_callee (f := 6) rfl ?_); refine goesL_ (some 115) rfl rfl Try.func6 (by kernel_rfl) rfl #[.slice Ao66 t440.length co66, .int .i64 t463] rfl ta_ ?_; (with_reducible refine (impl_TurnShape.calls kj11 _ _ t440 t463 t468 t469 _ ?side1 ?side2 A43.out).mono ?_); (case side1 => exact ca_ (Kd.R_reads' HO_5.out).2.2); (case side2 => exact (Kd.R_reads' HO_5.out).2.1); rintro e w67 ⟨v470, rfl, ho0, hb⟩; refine ⟨_, rfl, ?_⟩; have n0_ := Aside0.mk (Kd.R_elder' (ra_ HO_3.out) (Kd.R_base ho0) hb); have n1_ := Aside0.mk (Kd.R_elder' (ra_ HO_5.out) (Kd.R_base ho0) hb); have n2_ := Aside0.mk (Kd.R_lower (Kd.R_new' (Kd.R_new' ho0 (Kd.R_lt (ra_ HO_3.out))) (Kd.R_lt (ra_ HO_5.out))) (below_size (by repeat (first | (with_reducible first | exact HB.out | apply below_alloc | apply pw_below_drewN | apply below_drew1 | refine below_set ?_ (IsS49.ge HI462.out)) | exact HB.out)))); have n3_ := Aside0.mk (IsS49.below (by repeat (first | (with_reducible first | exact HI462.out | apply IsS49.alloc | apply IsS49.drewN | apply IsS49.drew | apply IsS49.set_1 | apply IsS49.set_2) | exact HI462.out)) hb); have n4_ := Aside0.mk (below_step (by repeat (first | (with_reducible first | exact HB.out | apply below_alloc | apply pw_below_drewN | apply below_drew1 | refine below_set ?_ (IsS49.ge HI462.out)) | exact HB.out)) hb); clear HO_3; clear HO_5; clear HI462; clear HB; have HO_3 := n0_; have HO_5 := n1_; have HO471 := n2_; have HI462 := n3_; have HB := n4_; clear n0_ n1_ n2_ n3_ n4_; (try clear hb); (try clear hb2); (try clear hk); (try clear hi); (try clear ho0)) | ((with_reducible refine gate_callee (f := 6) rfl ?_); refine goesL_ (some 121) rfl rfl Try.func6 (by kernel_rfl) rfl #[.slice Ao14 t436.length co14, .int .i64 t466] rfl ta_ ?_; (with_reducible refine (impl_TurnShape.calls kj11 _ _ t436 t466 t472 t473 _ ?side1 ?side2 A44.out).mono ?_); (case side1 => exact ca_ (Kd.R_reads' HO_3.out).2.2); (case side2 => exact (Kd.R_reads' HO_3.out).2.1); rintro e w68 ⟨v474, rfl, ho0, hb⟩; refine ⟨_, rfl, ?_⟩; have n0_ := Aside0.mk (Kd.R_elder' (ra_ HO_3.out) (Kd.R_base ho0) hb); have n1_ := Aside0.mk (Kd.R_elder' (ra_ HO_5.out) (Kd.R_base ho0) hb); have n2_ := Aside0.mk (Kd.R_elder' (ra_ HO471.out) (Kd.R_base ho0) hb); have n3_ := Aside0.mk (Kd.R_lower (Kd.R_new' (Kd.R_new' (Kd.R_new' ho0 (Kd.R_lt (ra_ HO_3.out))) (Kd.R_lt (ra_ HO_5.out))) (Kd.R_lt (ra_ HO471.out))) (below_size (by repeat (first | (with_reducible first | exact HB.out | apply below_alloc | apply pw_below_drewN | apply below_drew1 | refine below_set ?_ (IsS49.ge HI462.out)) | exact HB.out)))); have n4_ := Aside0.mk (IsS49.below (by repeat (first | (with_reducible first | exact HI462.out | apply IsS49.alloc | apply IsS49.drewN | apply IsS49.drew | apply IsS49.set_1 | apply IsS49.set_2) | exact HI462.out)) hb); have n5_ := Aside0.mk (below_step (by repeat (first | (with_reducible first | exact HB.out | apply below_alloc | apply pw_below_drewN | apply below_drew1 | refine below_set ?_ (IsS49.ge HI462.out)) | exact HB.out)) hb); clear HO_3; clear HO_5; clear HO471; clear HI462; clear HB; have HO_3 := n0_; have HO_5 := n1_; have HO471 := n2_; have HO475 := n3_; have HI462 := n4_; have HB := n5_; clear n0_ n1_ n2_ n3_ n4_ n5_; (try clear hb); (try clear hb2); (try clear hk); (try clear hi); (try clear ho0)))
                go_ret
                exact ⟨er_, by repeat (first | (with_reducible first | exact HB.out | apply below_alloc | apply pw_below_drewN | apply below_drew1 | refine below_set ?_ (IsS49.ge HI462.out)) | exact HB.out)⟩
            · rw [if_neg c45] at H
              have c45b0 : (t467 == 0) = false := beq_eq_false_iff_ne.mpr c45
              have c45b1 : (t467 != 0) = true := bne_iff_ne.mpr c45
              obtain rfl := Option.some.inj H
              go_wp2_with (first | ((with_reducible refine gate_callee (f := 14) rfl ?_); refine goesL_ (some 104) rfl rfl Try.func14 (by kernel_rfl) rfl #[.slice A0 l0.length c0, .int .u64 301] rfl ta_ ?_; (with_reducible refine (laws_roll.calls kj11 _ _ l0 301 t459 t460 t461 w _ ?side1 ?side2 ?side3 A40.out).mono ?_); (case side1 => repeat (first | (with_reducible first | exact HB.out | apply below_alloc | apply pw_below_drewN | apply below_drew1) | exact HB.out)); (case side2 => exact HR0.out); (case side3 => exact HC0.out); rintro e w69 ⟨g462, rfl, hi, hb, hb2⟩; refine ⟨_, rfl, ?_⟩; have n0_ := Aside0.mk (Kd.R_below (ra_ HO_3.out) hb2); have n1_ := Aside0.mk (Kd.R_below (ra_ HO_5.out) hb2); have n2_ := Aside0.mk (hb); have n3_ := Aside0.mk (hi); clear HO_3; clear HO_5; clear HB; have HO_3 := n0_; have HO_5 := n1_; have HB := n2_; have HI462 := n3_; clear n0_ n1_ n2_ n3_; (try clear hb); (try clear hb2); (try clear hk); (try clear hi)) | ((with_reducible refine gate_callee (f := 15) rfl ?_); refine goesL_ (some 105) rfl rfl Try.func15 (by kernel_rfl) rfl #[.pointer (some ⟨g462, 0, none⟩), .int .i64 8] rfl ta_ ?_; (with_reducible refine (laws_dice_below.calls g462 t459 t460 t461 8 t463 t464 t465 w _ ?side1 ?side2 A41.out).mono ?_); (case side1 => repeat (first | (with_reducible first | exact HI462.out | apply IsS49.alloc | apply IsS49.drewN | apply IsS49.drew | apply IsS49.set_1 | apply IsS49.set_2) | exact HI462.out)); (case side2 => repeat (first | (with_reducible first | exact HB.out | apply below_alloc | apply pw_below_drewN | apply below_drew1 | refine below_set ?_ (IsS49.ge HI462.out)) | exact HB.out)); rintro e w70 ⟨rfl, hi, hb, hk⟩; refine ⟨_, rfl, ?_⟩; have n0_ := Aside0.mk (Kd.R_mono (Kd.R_keep (IsS49.apart (show IsS49 w _ g462 t459 t460 t461 from by repeat (first | (with_reducible first | exact HI462.out | apply IsS49.alloc | apply IsS49.drewN | apply IsS49.drew | apply IsS49.set_1 | apply IsS49.set_2) | exact HI462.out)) (ra_ HO_3.out) (by decide)) hk (fun _ h => h.2)) (fun _ h => h.1)); have n1_ := Aside0.mk (Kd.R_mono (Kd.R_keep (IsS49.apart (show IsS49 w _ g462 t459 t460 t461 from by repeat (first | (with_reducible first | exact HI462.out | apply IsS49.alloc | apply IsS49.drewN | apply IsS49.drew | apply IsS49.set_1 | apply IsS49.set_2) | exact HI462.out)) (ra_ HO_5.out) (by decide)) hk (fun _ h => h.2)) (fun _ h => h.1)); have n2_ := Aside0.mk (hb); have n3_ := Aside0.mk (hi); clear HO_3; clear HO_5; clear HB; clear HI462; have HO_3 := n0_; have HO_5 := n1_; have HB := n2_; have HI462 := n3_; clear n0_ n1_ n2_ n3_; (try clear hb); (try clear hb2); (try clear hk); (try clear hi)) | ((with_reducible refine gate_callee (f := 9) rfl ?_); refine goesL_ (some 109) rfl rfl Try.func9 (by kernel_rfl) rfl #[.int .i64 t437, .int .i64 t463] rfl ta_ ?_; (with_reducible refine (impl_ComposeTurns.calls kj11 t437 t463 t466 t467 _ A42.out).mono ?_); rintro e w71 ⟨rfl, hb⟩; refine ⟨_, rfl, ?_⟩; have n0_ := Aside0.mk (Kd.R_below (ra_ HO_3.out) hb); have n1_ := Aside0.mk (Kd.R_below (ra_ HO_5.out) hb); have n2_ := Aside0.mk (IsS49.below (by repeat (first | (with_reducible first | exact HI462.out | apply IsS49.alloc | apply IsS49.drewN | apply IsS49.drew | apply IsS49.set_1 | apply IsS49.set_2) | exact HI462.out)) hb); have n3_ := Aside0.mk (below_step (by repeat (first | (with_reducible first | exact HB.out | apply below_alloc | apply pw_below_drewN | apply below_drew1 | refine below_set ?_ (IsS49.ge HI462.out)) | exact HB.out)) hb); clear HO_3; clear HO_5; clear HI462; clear HB; have HO_3 := n0_; have HO_5 := n1_; have HI462 := n2_; have HB := n3_; clear n0_ n1_ n2_ n3_; (try clear hb); (try clear hb2); (try clear hk); (try clear hi); obtain ⟨Ao72, co72, eo72⟩ := Kd.R_slice HO_5.out; subst eo72) | ((with_reducible refine gate_callee (f := 6) rfl ?_); refine goesL_ (some 115) rfl rfl Try.func6 (by kernel_rfl) rfl #[.slice Ao72 t440.length co72, .int .i64 t463] rfl ta_ ?_; (with_reducible refine (impl_TurnShape.calls kj11 _ _ t440 t463 t468 t469 _ ?side1 ?side2 A43.out).mono ?_); (case side1 => exact ca_ (Kd.R_reads' HO_5.out).2.2); (case side2 => exact (Kd.R_reads' HO_5.out).2.1); rintro e w73 ⟨v470, rfl, ho0, hb⟩; refine ⟨_, rfl, ?_⟩; have n0_ := Aside0.mk (Kd.R_elder' (ra_ HO_3.out) (Kd.R_base ho0) hb); have n1_ := Aside0.mk (Kd.R_elder' (ra_ HO_5.out) (Kd.R_base ho0) hb); have n2_ := Aside0.mk (Kd.R_lower (Kd.R_new' (Kd.R_new' ho0 (Kd.R_lt (ra_ HO_3.out))) (Kd.R_lt (ra_ HO_5.out))) (below_size (by repeat (first | (with_reducible first | exact HB.out | apply below_alloc | apply pw_below_drewN | apply below_drew1 | refine below_set ?_ (IsS49.ge HI462.out)) | exact HB.out)))); have n3_ := Aside0.mk (IsS49.below (by repeat (first | (with_reducible first | exact HI462.out | apply IsS49.alloc | apply IsS49.drewN | apply IsS49.drew | apply IsS49.set_1 | apply IsS49.set_2) | exact HI462.out)) hb); have n4_ := Aside0.mk (below_step (by repeat (first | (with_reducible first | exact HB.out | apply below_alloc | apply pw_below_drewN | apply below_drew1 | refine below_set ?_ (IsS49.ge HI462.out)) | exact HB.out)) hb); clear HO_3; clear HO_5; clear HI462; clear HB; have HO_3 := n0_; have HO_5 := n1_; have HO471 := n2_; have HI462 := n3_; have HB := n4_; clear n0_ n1_ n2_ n3_ n4_; (try clear hb); (try clear hb2); (try clear hk); (try clear hi); (try clear ho0)) | ((with_reducible refine gate_callee (f := 6) rfl ?_); refine goesL_ (some 121) rfl rfl Try.func6 (by kernel_rfl) rfl #[.slice Ao14 t436.length co14, .int .i64 t466] rfl ta_ ?_; (with_reducible refine (impl_TurnShape.calls kj11 _ _ t436 t466 t472 t473 _ ?side1 ?side2 A44.out).mono ?_); (case side1 => exact ca_ (Kd.R_reads' HO_3.out).2.2); (case side2 => exact (Kd.R_reads' HO_3.out).2.1); rintro e w74 ⟨v474, rfl, ho0, hb⟩; refine ⟨_, rfl, ?_⟩; have n0_ := Aside0.mk (Kd.R_elder' (ra_ HO_3.out) (Kd.R_base ho0) hb); have n1_ := Aside0.mk (Kd.R_elder' (ra_ HO_5.out) (Kd.R_base ho0) hb); have n2_ := Aside0.mk (Kd.R_elder' (ra_ HO471.out) (Kd.R_base ho0) hb); have n3_ := Aside0.mk (Kd.R_lower (Kd.R_new' (Kd.R_new' (Kd.R_new' ho0 (Kd.R_lt (ra_ HO_3.out))) (Kd.R_lt (ra_ HO_5.out))) (Kd.R_lt (ra_ HO471.out))) (below_size (by repeat (first | (with_reducible first | exact HB.out | apply below_alloc | apply pw_below_drewN | apply below_drew1 | refine below_set ?_ (IsS49.ge HI462.out)) | exact HB.out)))); have n4_ := Aside0.mk (IsS49.below (by repeat (first | (with_reducible first | exact HI462.out | apply IsS49.alloc | apply IsS49.drewN | apply IsS49.drew | apply IsS49.set_1 | apply IsS49.set_2) | exact HI462.out)) hb); have n5_ := Aside0.mk (below_step (by repeat (first | (with_reducible first | exact HB.out | apply below_alloc | apply pw_below_drewN | apply below_drew1 | refine below_set ?_ (IsS49.ge HI462.out)) | exact HB.out)) hb); clear HO_3; clear HO_5; clear HO471; clear HI462; clear HB; have HO_3 := n0_; have HO_5 := n1_; have HO471 := n2_; have HO475 := n3_; have HI462 := n4_; have HB := n5_; clear n0_ n1_ n2_ n3_ n4_ n5_; (try clear hb); (try clear hb2); (try clear hk); (try clear hi); (try clear ho0)))
              go_ret
              exact ⟨er_, by repeat (first | (with_reducible first | exact HB.out | apply below_alloc | apply pw_below_drewN | apply below_drew1 | refine below_set ?_ (IsS49.ge HI462.out)) | exact HB.out)⟩
          · rw [if_neg c39] at H
            have c39b0 : (t441 == 0) = false := beq_eq_false_iff_ne.mpr c39
            have c39b1 : (t441 != 0) = true := bne_iff_ne.mpr c39
            obtain rfl := Option.some.inj H
            go_wp2
            go_ret
            exact ⟨er_, bl0_⟩

end Go.Proofs.Ytopceddgiddhlaa.PFnTurned
