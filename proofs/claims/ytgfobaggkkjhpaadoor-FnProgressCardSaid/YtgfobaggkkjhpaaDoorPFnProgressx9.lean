/- Over the kit's printer by a driver of mine (hprint.py), with parts by hand: functions of the program as Lean functions, and that each call comes to exactly these answers. -/
import Derived.Test.YtgfobaggkkjhpaaDoorPFnProgressx0
import Derived.Test.YtgfobaggkkjhpaaDoorPFnProgressx1
import Derived.Test.YtgfobaggkkjhpaaDoorPFnProgressx3
import Derived.Test.YtgfobaggkkjhpaaDoorPFnProgressx5
import Derived.Test.YtgfobaggkkjhpaaDoorPFnProgressx6
import Derived.Test.YtgfobaggkkjhpaaDoorPFnProgressx7
import Derived.Test.YtgfobaggkkjhpaaDoorPFnProgressx8
namespace Go.Proofs.YtgfobaggkkjhpaaDoor.PFnProgress
open Go.RowKit Go.Proofs.YtgfobaggkkjhpaaDoorW.PrintWords Go.Proofs.YtgfobaggkkjhpaaDoorW.PrintLast Go.Proofs.YtgfobaggkkjhpaaDoorW.PrintMore
attribute [local go_sem] max2_int min2_int max_two min_two max_three min_three max_four min_four   -- for this text's walks alone
set_option linter.unusedVariables false
set_option linter.unusedSimpArgs false

attribute [local go_sem high] eqA23
/-! ### laws_FnProgress: function 4 -/
def laws_FnProgress.j0 : Nat → List (S23) → Int → Int → Int → Bool → Option (Bool)
  | 0, _, _, _, _, _ => none
  | k + 1, x12, x13, x14, x15, x101 => if x101 = true then (some false) else (if x15 = 0 then (if (x12.length : Int) = 0 then (if x13 = 0 then (some (x14 == 1)) else (some false)) else (if 1 ≤ (x12.length : Int) then ((impl_MergeProgress.f k (x12.drop 1)).bind fun bt329 => (if bt329.2.2 = 0 then (if 0 < (x12.length : Int) then (if x13 = (wrap64 (bt329.1 + ((rd_T23 x12 0).f1))) then (some (x14 == (wrap64 (bt329.2.1 + ((rd_T23 x12 0).f2))))) else (some false)) else (none)) else (some false))) else (none))) else (some true))
def laws_FnProgress.f (k : Nat) (l0 : List Int) : Option (Bool) := (laws_big.f l0).bind fun t293 => (if t293 = true then (some true) else ((spec_DrawProgressText.f k l0).bind fun bt294 => ((impl_ProgressText.f k bt294.1 bt294.2.1 bt294.2.2).bind fun t298 => ((impl_ReadProgress.f k t298).bind fun bt299 => ((spec_DrawReadProgress.f k l0).bind fun t304 => ((impl_ReadProgress.f k t304).bind fun bt305 => ((spec_ReadProgress.f k t304).bind fun bt310 => ((spec_DrawMergeProgress.f k l0).bind fun t315 => ((impl_MergeProgress.f k t315).bind fun bt318 => ((spec_MergeProgress.f k t315).bind fun bt321 => ((spec_ProgressText.f k bt294.1 bt294.2.1 bt294.2.2).bind fun t324 => (if t298.toList = t324.toList then (if (bt299.2.2.2 != (t298.toList != ([] : List UInt8))) = true then (laws_FnProgress.j0 k t315 bt318.1 bt318.2.1 bt318.2.2 true) else (if bt299.2.2.2 = true then (if (!(bt299.1 == bt294.1) || (!(bt299.2.1 == bt294.2.1) || (!(bt299.2.2.1 == bt294.2.2)))) = true then (laws_FnProgress.j0 k t315 bt318.1 bt318.2.1 bt318.2.2 true) else (if (bt305.2.2.2 != bt310.2.2.2) = true then (laws_FnProgress.j0 k t315 bt318.1 bt318.2.1 bt318.2.2 true) else (if (!(bt305.1 == bt310.1) || (!(bt305.2.1 == bt310.2.1) || (!(bt305.2.2.1 == bt310.2.2.1)))) = true then (laws_FnProgress.j0 k t315 bt318.1 bt318.2.1 bt318.2.2 true) else (if bt318.2.2 = bt321.2.2 then (if bt318.1 = bt321.1 then (laws_FnProgress.j0 k t315 bt318.1 bt318.2.1 bt318.2.2 (bt318.2.1 != bt321.2.1)) else (laws_FnProgress.j0 k t315 bt318.1 bt318.2.1 bt318.2.2 true)) else (laws_FnProgress.j0 k t315 bt318.1 bt318.2.1 bt318.2.2 true))))) else (if (bt305.2.2.2 != bt310.2.2.2) = true then (laws_FnProgress.j0 k t315 bt318.1 bt318.2.1 bt318.2.2 true) else (if (!(bt305.1 == bt310.1) || (!(bt305.2.1 == bt310.2.1) || (!(bt305.2.2.1 == bt310.2.2.1)))) = true then (laws_FnProgress.j0 k t315 bt318.1 bt318.2.1 bt318.2.2 true) else (if bt318.2.2 = bt321.2.2 then (if bt318.1 = bt321.1 then (laws_FnProgress.j0 k t315 bt318.1 bt318.2.1 bt318.2.2 (bt318.2.1 != bt321.2.1)) else (laws_FnProgress.j0 k t315 bt318.1 bt318.2.1 bt318.2.2 true)) else (laws_FnProgress.j0 k t315 bt318.1 bt318.2.1 bt318.2.2 true)))))) else (laws_FnProgress.j0 k t315 bt318.1 bt318.2.1 bt318.2.2 true)))))))))))))
theorem laws_FnProgress.mono_l : ∀ k, (∀ y0 y1 y2 y3 y4, LeO (laws_FnProgress.j0 k y0 y1 y2 y3 y4) (laws_FnProgress.j0 (k + 1) y0 y1 y2 y3 y4))
  | 0 => fun _ _ _ _ _ r h => by simp [laws_FnProgress.j0] at h
  | k + 1 => by
    have ih0 := laws_FnProgress.mono_l k
    · intro y0 y1 y2 y3 y4
      unfold laws_FnProgress.j0
      repeat' first
      | (with_reducible exact ih0 _ _ _ _ _)
      | (with_reducible exact impl_MergeProgress.mono _ _)
      | (with_reducible exact impl_ProgressText.mono _ _ _ _)
      | (with_reducible exact impl_ReadProgress.mono _ _)
      | (with_reducible exact spec_DrawMergeProgress.mono _ _)
      | (with_reducible exact spec_DrawProgressText.mono _ _)
      | (with_reducible exact spec_DrawReadProgress.mono _ _)
      | (with_reducible exact spec_MergeProgress.mono _ _)
      | (with_reducible exact spec_ProgressText.mono _ _ _ _)
      | (with_reducible exact spec_ReadProgress.mono _ _)
      | (with_reducible exact LeO.refl _)
      | (with_reducible exact LeO.none _)
      | (with_reducible refine LeO.ite ?_ ?_)
      | (with_reducible refine LeO.bind ?_ (fun _ => ?_))
      | exact ih0 _ _ _ _ _
      | exact impl_MergeProgress.mono _ _
      | exact impl_ProgressText.mono _ _ _ _
      | exact impl_ReadProgress.mono _ _
      | exact spec_DrawMergeProgress.mono _ _
      | exact spec_DrawProgressText.mono _ _
      | exact spec_DrawReadProgress.mono _ _
      | exact spec_MergeProgress.mono _ _
      | exact spec_ProgressText.mono _ _ _ _
      | exact spec_ReadProgress.mono _ _
      | exact LeO.none _
      | refine LeO.ite ?_ ?_
      | refine LeO.bind ?_ (fun _ => ?_)
theorem laws_FnProgress.mono : ∀ a0 k, LeO (laws_FnProgress.f k a0) (laws_FnProgress.f (k + 1) a0) := by
  intro a0 k
  have ih0 := laws_FnProgress.mono_l k
  unfold laws_FnProgress.f
  repeat' first
      | (with_reducible exact ih0 _ _ _ _ _)
      | (with_reducible exact impl_MergeProgress.mono _ _)
      | (with_reducible exact impl_ProgressText.mono _ _ _ _)
      | (with_reducible exact impl_ReadProgress.mono _ _)
      | (with_reducible exact spec_DrawMergeProgress.mono _ _)
      | (with_reducible exact spec_DrawProgressText.mono _ _)
      | (with_reducible exact spec_DrawReadProgress.mono _ _)
      | (with_reducible exact spec_MergeProgress.mono _ _)
      | (with_reducible exact spec_ProgressText.mono _ _ _ _)
      | (with_reducible exact spec_ReadProgress.mono _ _)
      | (with_reducible exact LeO.refl _)
      | (with_reducible exact LeO.none _)
      | (with_reducible refine LeO.ite ?_ ?_)
      | (with_reducible refine LeO.bind ?_ (fun _ => ?_))
      | exact ih0 _ _ _ _ _
      | exact impl_MergeProgress.mono _ _
      | exact impl_ProgressText.mono _ _ _ _
      | exact impl_ReadProgress.mono _ _
      | exact spec_DrawMergeProgress.mono _ _
      | exact spec_DrawProgressText.mono _ _
      | exact spec_DrawReadProgress.mono _ _
      | exact spec_MergeProgress.mono _ _
      | exact spec_ProgressText.mono _ _ _ _
      | exact spec_ReadProgress.mono _ _
      | exact LeO.none _
      | refine LeO.ite ?_ ?_
      | refine LeO.bind ?_ (fun _ => ?_)
set_option maxHeartbeats 8000000 in
set_option maxRecDepth 100000 in
theorem laws_FnProgress.calls (k : Nat) (A0 : Option Addr) (c0 : Nat) (l0 : List Int) (r : Bool) (w : World) (hr0 : Kd.C (Kd.int .u8) w A0 l0.length l0) (hc0 : l0.length ≤ c0) (h : laws_FnProgress.f k l0 = some r) (hG : Laid w) :
    Calls Tryd.prog 4 #[.slice A0 l0.length c0] w fun e w' => e = .returned (.bool r) ∧ Below w.heap.size w w' := by
  have hu23 := Tryd.underlying23
  have HR0 := Aside0.mk hr0
  have HC0 := Aside0.mk hc0
  clear hr0 hc0
  have HB := Aside0.mk (Below.refl w.heap.size w)
  have H : ((laws_big.f l0).bind fun t293 => (if t293 = true then (some true) else ((spec_DrawProgressText.f k l0).bind fun bt294 => ((impl_ProgressText.f k bt294.1 bt294.2.1 bt294.2.2).bind fun t298 => ((impl_ReadProgress.f k t298).bind fun bt299 => ((spec_DrawReadProgress.f k l0).bind fun t304 => ((impl_ReadProgress.f k t304).bind fun bt305 => ((spec_ReadProgress.f k t304).bind fun bt310 => ((spec_DrawMergeProgress.f k l0).bind fun t315 => ((impl_MergeProgress.f k t315).bind fun bt318 => ((spec_MergeProgress.f k t315).bind fun bt321 => ((spec_ProgressText.f k bt294.1 bt294.2.1 bt294.2.2).bind fun t324 => (if t298.toList = t324.toList then (if (bt299.2.2.2 != (t298.toList != ([] : List UInt8))) = true then (laws_FnProgress.j0 k t315 bt318.1 bt318.2.1 bt318.2.2 true) else (if bt299.2.2.2 = true then (if (!(bt299.1 == bt294.1) || (!(bt299.2.1 == bt294.2.1) || (!(bt299.2.2.1 == bt294.2.2)))) = true then (laws_FnProgress.j0 k t315 bt318.1 bt318.2.1 bt318.2.2 true) else (if (bt305.2.2.2 != bt310.2.2.2) = true then (laws_FnProgress.j0 k t315 bt318.1 bt318.2.1 bt318.2.2 true) else (if (!(bt305.1 == bt310.1) || (!(bt305.2.1 == bt310.2.1) || (!(bt305.2.2.1 == bt310.2.2.1)))) = true then (laws_FnProgress.j0 k t315 bt318.1 bt318.2.1 bt318.2.2 true) else (if bt318.2.2 = bt321.2.2 then (if bt318.1 = bt321.1 then (laws_FnProgress.j0 k t315 bt318.1 bt318.2.1 bt318.2.2 (bt318.2.1 != bt321.2.1)) else (laws_FnProgress.j0 k t315 bt318.1 bt318.2.1 bt318.2.2 true)) else (laws_FnProgress.j0 k t315 bt318.1 bt318.2.1 bt318.2.2 true))))) else (if (bt305.2.2.2 != bt310.2.2.2) = true then (laws_FnProgress.j0 k t315 bt318.1 bt318.2.1 bt318.2.2 true) else (if (!(bt305.1 == bt310.1) || (!(bt305.2.1 == bt310.2.1) || (!(bt305.2.2.1 == bt310.2.2.1)))) = true then (laws_FnProgress.j0 k t315 bt318.1 bt318.2.1 bt318.2.2 true) else (if bt318.2.2 = bt321.2.2 then (if bt318.1 = bt321.1 then (laws_FnProgress.j0 k t315 bt318.1 bt318.2.1 bt318.2.2 (bt318.2.1 != bt321.2.1)) else (laws_FnProgress.j0 k t315 bt318.1 bt318.2.1 bt318.2.2 true)) else (laws_FnProgress.j0 k t315 bt318.1 bt318.2.1 bt318.2.2 true)))))) else (laws_FnProgress.j0 k t315 bt318.1 bt318.2.1 bt318.2.2 true)))))))))))))) = some r := h
  clear h
  replace H := Option.bind_eq_some_iff.mp H
  obtain ⟨t293, A20, H⟩ := H
  replace H : (if t293 = true then (some true) else ((spec_DrawProgressText.f k l0).bind fun bt294 => ((impl_ProgressText.f k bt294.1 bt294.2.1 bt294.2.2).bind fun t298 => ((impl_ReadProgress.f k t298).bind fun bt299 => ((spec_DrawReadProgress.f k l0).bind fun t304 => ((impl_ReadProgress.f k t304).bind fun bt305 => ((spec_ReadProgress.f k t304).bind fun bt310 => ((spec_DrawMergeProgress.f k l0).bind fun t315 => ((impl_MergeProgress.f k t315).bind fun bt318 => ((spec_MergeProgress.f k t315).bind fun bt321 => ((spec_ProgressText.f k bt294.1 bt294.2.1 bt294.2.2).bind fun t324 => (if t298.toList = t324.toList then (if (bt299.2.2.2 != (t298.toList != ([] : List UInt8))) = true then (laws_FnProgress.j0 k t315 bt318.1 bt318.2.1 bt318.2.2 true) else (if bt299.2.2.2 = true then (if (!(bt299.1 == bt294.1) || (!(bt299.2.1 == bt294.2.1) || (!(bt299.2.2.1 == bt294.2.2)))) = true then (laws_FnProgress.j0 k t315 bt318.1 bt318.2.1 bt318.2.2 true) else (if (bt305.2.2.2 != bt310.2.2.2) = true then (laws_FnProgress.j0 k t315 bt318.1 bt318.2.1 bt318.2.2 true) else (if (!(bt305.1 == bt310.1) || (!(bt305.2.1 == bt310.2.1) || (!(bt305.2.2.1 == bt310.2.2.1)))) = true then (laws_FnProgress.j0 k t315 bt318.1 bt318.2.1 bt318.2.2 true) else (if bt318.2.2 = bt321.2.2 then (if bt318.1 = bt321.1 then (laws_FnProgress.j0 k t315 bt318.1 bt318.2.1 bt318.2.2 (bt318.2.1 != bt321.2.1)) else (laws_FnProgress.j0 k t315 bt318.1 bt318.2.1 bt318.2.2 true)) else (laws_FnProgress.j0 k t315 bt318.1 bt318.2.1 bt318.2.2 true))))) else (if (bt305.2.2.2 != bt310.2.2.2) = true then (laws_FnProgress.j0 k t315 bt318.1 bt318.2.1 bt318.2.2 true) else (if (!(bt305.1 == bt310.1) || (!(bt305.2.1 == bt310.2.1) || (!(bt305.2.2.1 == bt310.2.2.1)))) = true then (laws_FnProgress.j0 k t315 bt318.1 bt318.2.1 bt318.2.2 true) else (if bt318.2.2 = bt321.2.2 then (if bt318.1 = bt321.1 then (laws_FnProgress.j0 k t315 bt318.1 bt318.2.1 bt318.2.2 (bt318.2.1 != bt321.2.1)) else (laws_FnProgress.j0 k t315 bt318.1 bt318.2.1 bt318.2.2 true)) else (laws_FnProgress.j0 k t315 bt318.1 bt318.2.1 bt318.2.2 true)))))) else (laws_FnProgress.j0 k t315 bt318.1 bt318.2.1 bt318.2.2 true))))))))))))) = some r := H
  have A2 := Aside0.mk A20
  clear A20
  by_cases c3 : t293 = true
  · subst c3
    have H1 : (some true) = some r := by rw [if_pos rfl] at H; exact H
    clear H
    have H := H1
    clear H1
    obtain rfl := Option.some.inj H
    go_enter Tryd.func4, Tryd.ntmps4
    go_wp2_with (first | ((with_reducible refine gate_callee (f := 8) rfl ?_); refine goesL_ (some 23) rfl rfl Tryd.func8 (by kernel_rfl) rfl #[.slice A0 l0.length c0] rfl (by (try simp only [List.map_toArray, List.map_cons, List.map_nil]); first | done | rfl | (simp only [List.length_drop, List.length_take]; rfl)) ?_; (with_reducible refine (laws_big.calls _ _ l0 true _ ?side1 ?side2 A2.out).mono ?_); (case side1 => repeat (first | exact HR0.out | (with_reducible refine Kd.C_alloc ?_ _) | (with_reducible refine Kd.C_drewN ?_ _) | (with_reducible refine Kd.C_drew ?_))); (case side2 => exact HC0.out); rintro e w' ⟨rfl, ⟨nd, rfl⟩⟩; refine ⟨_, rfl, ?_⟩))
    go_ret
    exact ⟨by first | rfl | (simp [errW_none, errW_some] <;> rfl) | (simp [*, errW_none, errW_some] <;> rfl), by repeat (first | (with_reducible first | exact HB.out | apply below_alloc | apply pw_below_drewN | apply below_drew1) | exact HB.out)⟩
  · replace c3 := Bool.eq_false_iff.mpr c3
    subst c3
    have H1 : ((spec_DrawProgressText.f k l0).bind fun bt294 => ((impl_ProgressText.f k bt294.1 bt294.2.1 bt294.2.2).bind fun t298 => ((impl_ReadProgress.f k t298).bind fun bt299 => ((spec_DrawReadProgress.f k l0).bind fun t304 => ((impl_ReadProgress.f k t304).bind fun bt305 => ((spec_ReadProgress.f k t304).bind fun bt310 => ((spec_DrawMergeProgress.f k l0).bind fun t315 => ((impl_MergeProgress.f k t315).bind fun bt318 => ((spec_MergeProgress.f k t315).bind fun bt321 => ((spec_ProgressText.f k bt294.1 bt294.2.1 bt294.2.2).bind fun t324 => (if t298.toList = t324.toList then (if (bt299.2.2.2 != (t298.toList != ([] : List UInt8))) = true then (laws_FnProgress.j0 k t315 bt318.1 bt318.2.1 bt318.2.2 true) else (if bt299.2.2.2 = true then (if (!(bt299.1 == bt294.1) || (!(bt299.2.1 == bt294.2.1) || (!(bt299.2.2.1 == bt294.2.2)))) = true then (laws_FnProgress.j0 k t315 bt318.1 bt318.2.1 bt318.2.2 true) else (if (bt305.2.2.2 != bt310.2.2.2) = true then (laws_FnProgress.j0 k t315 bt318.1 bt318.2.1 bt318.2.2 true) else (if (!(bt305.1 == bt310.1) || (!(bt305.2.1 == bt310.2.1) || (!(bt305.2.2.1 == bt310.2.2.1)))) = true then (laws_FnProgress.j0 k t315 bt318.1 bt318.2.1 bt318.2.2 true) else (if bt318.2.2 = bt321.2.2 then (if bt318.1 = bt321.1 then (laws_FnProgress.j0 k t315 bt318.1 bt318.2.1 bt318.2.2 (bt318.2.1 != bt321.2.1)) else (laws_FnProgress.j0 k t315 bt318.1 bt318.2.1 bt318.2.2 true)) else (laws_FnProgress.j0 k t315 bt318.1 bt318.2.1 bt318.2.2 true))))) else (if (bt305.2.2.2 != bt310.2.2.2) = true then (laws_FnProgress.j0 k t315 bt318.1 bt318.2.1 bt318.2.2 true) else (if (!(bt305.1 == bt310.1) || (!(bt305.2.1 == bt310.2.1) || (!(bt305.2.2.1 == bt310.2.2.1)))) = true then (laws_FnProgress.j0 k t315 bt318.1 bt318.2.1 bt318.2.2 true) else (if bt318.2.2 = bt321.2.2 then (if bt318.1 = bt321.1 then (laws_FnProgress.j0 k t315 bt318.1 bt318.2.1 bt318.2.2 (bt318.2.1 != bt321.2.1)) else (laws_FnProgress.j0 k t315 bt318.1 bt318.2.1 bt318.2.2 true)) else (laws_FnProgress.j0 k t315 bt318.1 bt318.2.1 bt318.2.2 true)))))) else (laws_FnProgress.j0 k t315 bt318.1 bt318.2.1 bt318.2.2 true)))))))))))) = some r := by rw [if_neg (show ¬ (false = true) by decide)] at H; exact H
    clear H
    have H := H1
    clear H1
    replace H := Option.bind_eq_some_iff.mp H
    obtain ⟨⟨t294, t295, t296⟩, A40, H⟩ := H
    replace H : ((impl_ProgressText.f k t294 t295 t296).bind fun t298 => ((impl_ReadProgress.f k t298).bind fun bt299 => ((spec_DrawReadProgress.f k l0).bind fun t304 => ((impl_ReadProgress.f k t304).bind fun bt305 => ((spec_ReadProgress.f k t304).bind fun bt310 => ((spec_DrawMergeProgress.f k l0).bind fun t315 => ((impl_MergeProgress.f k t315).bind fun bt318 => ((spec_MergeProgress.f k t315).bind fun bt321 => ((spec_ProgressText.f k t294 t295 t296).bind fun t324 => (if t298.toList = t324.toList then (if (bt299.2.2.2 != (t298.toList != ([] : List UInt8))) = true then (laws_FnProgress.j0 k t315 bt318.1 bt318.2.1 bt318.2.2 true) else (if bt299.2.2.2 = true then (if (!(bt299.1 == t294) || (!(bt299.2.1 == t295) || (!(bt299.2.2.1 == t296)))) = true then (laws_FnProgress.j0 k t315 bt318.1 bt318.2.1 bt318.2.2 true) else (if (bt305.2.2.2 != bt310.2.2.2) = true then (laws_FnProgress.j0 k t315 bt318.1 bt318.2.1 bt318.2.2 true) else (if (!(bt305.1 == bt310.1) || (!(bt305.2.1 == bt310.2.1) || (!(bt305.2.2.1 == bt310.2.2.1)))) = true then (laws_FnProgress.j0 k t315 bt318.1 bt318.2.1 bt318.2.2 true) else (if bt318.2.2 = bt321.2.2 then (if bt318.1 = bt321.1 then (laws_FnProgress.j0 k t315 bt318.1 bt318.2.1 bt318.2.2 (bt318.2.1 != bt321.2.1)) else (laws_FnProgress.j0 k t315 bt318.1 bt318.2.1 bt318.2.2 true)) else (laws_FnProgress.j0 k t315 bt318.1 bt318.2.1 bt318.2.2 true))))) else (if (bt305.2.2.2 != bt310.2.2.2) = true then (laws_FnProgress.j0 k t315 bt318.1 bt318.2.1 bt318.2.2 true) else (if (!(bt305.1 == bt310.1) || (!(bt305.2.1 == bt310.2.1) || (!(bt305.2.2.1 == bt310.2.2.1)))) = true then (laws_FnProgress.j0 k t315 bt318.1 bt318.2.1 bt318.2.2 true) else (if bt318.2.2 = bt321.2.2 then (if bt318.1 = bt321.1 then (laws_FnProgress.j0 k t315 bt318.1 bt318.2.1 bt318.2.2 (bt318.2.1 != bt321.2.1)) else (laws_FnProgress.j0 k t315 bt318.1 bt318.2.1 bt318.2.2 true)) else (laws_FnProgress.j0 k t315 bt318.1 bt318.2.1 bt318.2.2 true)))))) else (laws_FnProgress.j0 k t315 bt318.1 bt318.2.1 bt318.2.2 true))))))))))) = some r := H
    have A4 := Aside0.mk A40
    clear A40
    replace H := Option.bind_eq_some_iff.mp H
    obtain ⟨t298, A50, H⟩ := H
    replace H : ((impl_ReadProgress.f k t298).bind fun bt299 => ((spec_DrawReadProgress.f k l0).bind fun t304 => ((impl_ReadProgress.f k t304).bind fun bt305 => ((spec_ReadProgress.f k t304).bind fun bt310 => ((spec_DrawMergeProgress.f k l0).bind fun t315 => ((impl_MergeProgress.f k t315).bind fun bt318 => ((spec_MergeProgress.f k t315).bind fun bt321 => ((spec_ProgressText.f k t294 t295 t296).bind fun t324 => (if t298.toList = t324.toList then (if (bt299.2.2.2 != (t298.toList != ([] : List UInt8))) = true then (laws_FnProgress.j0 k t315 bt318.1 bt318.2.1 bt318.2.2 true) else (if bt299.2.2.2 = true then (if (!(bt299.1 == t294) || (!(bt299.2.1 == t295) || (!(bt299.2.2.1 == t296)))) = true then (laws_FnProgress.j0 k t315 bt318.1 bt318.2.1 bt318.2.2 true) else (if (bt305.2.2.2 != bt310.2.2.2) = true then (laws_FnProgress.j0 k t315 bt318.1 bt318.2.1 bt318.2.2 true) else (if (!(bt305.1 == bt310.1) || (!(bt305.2.1 == bt310.2.1) || (!(bt305.2.2.1 == bt310.2.2.1)))) = true then (laws_FnProgress.j0 k t315 bt318.1 bt318.2.1 bt318.2.2 true) else (if bt318.2.2 = bt321.2.2 then (if bt318.1 = bt321.1 then (laws_FnProgress.j0 k t315 bt318.1 bt318.2.1 bt318.2.2 (bt318.2.1 != bt321.2.1)) else (laws_FnProgress.j0 k t315 bt318.1 bt318.2.1 bt318.2.2 true)) else (laws_FnProgress.j0 k t315 bt318.1 bt318.2.1 bt318.2.2 true))))) else (if (bt305.2.2.2 != bt310.2.2.2) = true then (laws_FnProgress.j0 k t315 bt318.1 bt318.2.1 bt318.2.2 true) else (if (!(bt305.1 == bt310.1) || (!(bt305.2.1 == bt310.2.1) || (!(bt305.2.2.1 == bt310.2.2.1)))) = true then (laws_FnProgress.j0 k t315 bt318.1 bt318.2.1 bt318.2.2 true) else (if bt318.2.2 = bt321.2.2 then (if bt318.1 = bt321.1 then (laws_FnProgress.j0 k t315 bt318.1 bt318.2.1 bt318.2.2 (bt318.2.1 != bt321.2.1)) else (laws_FnProgress.j0 k t315 bt318.1 bt318.2.1 bt318.2.2 true)) else (laws_FnProgress.j0 k t315 bt318.1 bt318.2.1 bt318.2.2 true)))))) else (laws_FnProgress.j0 k t315 bt318.1 bt318.2.1 bt318.2.2 true)))))))))) = some r := H
    have A5 := Aside0.mk A50
    clear A50
    replace H := Option.bind_eq_some_iff.mp H
    obtain ⟨⟨t299, t300, t301, t302⟩, A60, H⟩ := H
    replace H : ((spec_DrawReadProgress.f k l0).bind fun t304 => ((impl_ReadProgress.f k t304).bind fun bt305 => ((spec_ReadProgress.f k t304).bind fun bt310 => ((spec_DrawMergeProgress.f k l0).bind fun t315 => ((impl_MergeProgress.f k t315).bind fun bt318 => ((spec_MergeProgress.f k t315).bind fun bt321 => ((spec_ProgressText.f k t294 t295 t296).bind fun t324 => (if t298.toList = t324.toList then (if (t302 != (t298.toList != ([] : List UInt8))) = true then (laws_FnProgress.j0 k t315 bt318.1 bt318.2.1 bt318.2.2 true) else (if t302 = true then (if (!(t299 == t294) || (!(t300 == t295) || (!(t301 == t296)))) = true then (laws_FnProgress.j0 k t315 bt318.1 bt318.2.1 bt318.2.2 true) else (if (bt305.2.2.2 != bt310.2.2.2) = true then (laws_FnProgress.j0 k t315 bt318.1 bt318.2.1 bt318.2.2 true) else (if (!(bt305.1 == bt310.1) || (!(bt305.2.1 == bt310.2.1) || (!(bt305.2.2.1 == bt310.2.2.1)))) = true then (laws_FnProgress.j0 k t315 bt318.1 bt318.2.1 bt318.2.2 true) else (if bt318.2.2 = bt321.2.2 then (if bt318.1 = bt321.1 then (laws_FnProgress.j0 k t315 bt318.1 bt318.2.1 bt318.2.2 (bt318.2.1 != bt321.2.1)) else (laws_FnProgress.j0 k t315 bt318.1 bt318.2.1 bt318.2.2 true)) else (laws_FnProgress.j0 k t315 bt318.1 bt318.2.1 bt318.2.2 true))))) else (if (bt305.2.2.2 != bt310.2.2.2) = true then (laws_FnProgress.j0 k t315 bt318.1 bt318.2.1 bt318.2.2 true) else (if (!(bt305.1 == bt310.1) || (!(bt305.2.1 == bt310.2.1) || (!(bt305.2.2.1 == bt310.2.2.1)))) = true then (laws_FnProgress.j0 k t315 bt318.1 bt318.2.1 bt318.2.2 true) else (if bt318.2.2 = bt321.2.2 then (if bt318.1 = bt321.1 then (laws_FnProgress.j0 k t315 bt318.1 bt318.2.1 bt318.2.2 (bt318.2.1 != bt321.2.1)) else (laws_FnProgress.j0 k t315 bt318.1 bt318.2.1 bt318.2.2 true)) else (laws_FnProgress.j0 k t315 bt318.1 bt318.2.1 bt318.2.2 true)))))) else (laws_FnProgress.j0 k t315 bt318.1 bt318.2.1 bt318.2.2 true))))))))) = some r := H
    have A6 := Aside0.mk A60
    clear A60
    replace H := Option.bind_eq_some_iff.mp H
    obtain ⟨t304, A70, H⟩ := H
    replace H : ((impl_ReadProgress.f k t304).bind fun bt305 => ((spec_ReadProgress.f k t304).bind fun bt310 => ((spec_DrawMergeProgress.f k l0).bind fun t315 => ((impl_MergeProgress.f k t315).bind fun bt318 => ((spec_MergeProgress.f k t315).bind fun bt321 => ((spec_ProgressText.f k t294 t295 t296).bind fun t324 => (if t298.toList = t324.toList then (if (t302 != (t298.toList != ([] : List UInt8))) = true then (laws_FnProgress.j0 k t315 bt318.1 bt318.2.1 bt318.2.2 true) else (if t302 = true then (if (!(t299 == t294) || (!(t300 == t295) || (!(t301 == t296)))) = true then (laws_FnProgress.j0 k t315 bt318.1 bt318.2.1 bt318.2.2 true) else (if (bt305.2.2.2 != bt310.2.2.2) = true then (laws_FnProgress.j0 k t315 bt318.1 bt318.2.1 bt318.2.2 true) else (if (!(bt305.1 == bt310.1) || (!(bt305.2.1 == bt310.2.1) || (!(bt305.2.2.1 == bt310.2.2.1)))) = true then (laws_FnProgress.j0 k t315 bt318.1 bt318.2.1 bt318.2.2 true) else (if bt318.2.2 = bt321.2.2 then (if bt318.1 = bt321.1 then (laws_FnProgress.j0 k t315 bt318.1 bt318.2.1 bt318.2.2 (bt318.2.1 != bt321.2.1)) else (laws_FnProgress.j0 k t315 bt318.1 bt318.2.1 bt318.2.2 true)) else (laws_FnProgress.j0 k t315 bt318.1 bt318.2.1 bt318.2.2 true))))) else (if (bt305.2.2.2 != bt310.2.2.2) = true then (laws_FnProgress.j0 k t315 bt318.1 bt318.2.1 bt318.2.2 true) else (if (!(bt305.1 == bt310.1) || (!(bt305.2.1 == bt310.2.1) || (!(bt305.2.2.1 == bt310.2.2.1)))) = true then (laws_FnProgress.j0 k t315 bt318.1 bt318.2.1 bt318.2.2 true) else (if bt318.2.2 = bt321.2.2 then (if bt318.1 = bt321.1 then (laws_FnProgress.j0 k t315 bt318.1 bt318.2.1 bt318.2.2 (bt318.2.1 != bt321.2.1)) else (laws_FnProgress.j0 k t315 bt318.1 bt318.2.1 bt318.2.2 true)) else (laws_FnProgress.j0 k t315 bt318.1 bt318.2.1 bt318.2.2 true)))))) else (laws_FnProgress.j0 k t315 bt318.1 bt318.2.1 bt318.2.2 true)))))))) = some r := H
    have A7 := Aside0.mk A70
    clear A70
    replace H := Option.bind_eq_some_iff.mp H
    obtain ⟨⟨t305, t306, t307, t308⟩, A80, H⟩ := H
    replace H : ((spec_ReadProgress.f k t304).bind fun bt310 => ((spec_DrawMergeProgress.f k l0).bind fun t315 => ((impl_MergeProgress.f k t315).bind fun bt318 => ((spec_MergeProgress.f k t315).bind fun bt321 => ((spec_ProgressText.f k t294 t295 t296).bind fun t324 => (if t298.toList = t324.toList then (if (t302 != (t298.toList != ([] : List UInt8))) = true then (laws_FnProgress.j0 k t315 bt318.1 bt318.2.1 bt318.2.2 true) else (if t302 = true then (if (!(t299 == t294) || (!(t300 == t295) || (!(t301 == t296)))) = true then (laws_FnProgress.j0 k t315 bt318.1 bt318.2.1 bt318.2.2 true) else (if (t308 != bt310.2.2.2) = true then (laws_FnProgress.j0 k t315 bt318.1 bt318.2.1 bt318.2.2 true) else (if (!(t305 == bt310.1) || (!(t306 == bt310.2.1) || (!(t307 == bt310.2.2.1)))) = true then (laws_FnProgress.j0 k t315 bt318.1 bt318.2.1 bt318.2.2 true) else (if bt318.2.2 = bt321.2.2 then (if bt318.1 = bt321.1 then (laws_FnProgress.j0 k t315 bt318.1 bt318.2.1 bt318.2.2 (bt318.2.1 != bt321.2.1)) else (laws_FnProgress.j0 k t315 bt318.1 bt318.2.1 bt318.2.2 true)) else (laws_FnProgress.j0 k t315 bt318.1 bt318.2.1 bt318.2.2 true))))) else (if (t308 != bt310.2.2.2) = true then (laws_FnProgress.j0 k t315 bt318.1 bt318.2.1 bt318.2.2 true) else (if (!(t305 == bt310.1) || (!(t306 == bt310.2.1) || (!(t307 == bt310.2.2.1)))) = true then (laws_FnProgress.j0 k t315 bt318.1 bt318.2.1 bt318.2.2 true) else (if bt318.2.2 = bt321.2.2 then (if bt318.1 = bt321.1 then (laws_FnProgress.j0 k t315 bt318.1 bt318.2.1 bt318.2.2 (bt318.2.1 != bt321.2.1)) else (laws_FnProgress.j0 k t315 bt318.1 bt318.2.1 bt318.2.2 true)) else (laws_FnProgress.j0 k t315 bt318.1 bt318.2.1 bt318.2.2 true)))))) else (laws_FnProgress.j0 k t315 bt318.1 bt318.2.1 bt318.2.2 true))))))) = some r := H
    have A8 := Aside0.mk A80
    clear A80
    replace H := Option.bind_eq_some_iff.mp H
    obtain ⟨⟨t310, t311, t312, t313⟩, A90, H⟩ := H
    replace H : ((spec_DrawMergeProgress.f k l0).bind fun t315 => ((impl_MergeProgress.f k t315).bind fun bt318 => ((spec_MergeProgress.f k t315).bind fun bt321 => ((spec_ProgressText.f k t294 t295 t296).bind fun t324 => (if t298.toList = t324.toList then (if (t302 != (t298.toList != ([] : List UInt8))) = true then (laws_FnProgress.j0 k t315 bt318.1 bt318.2.1 bt318.2.2 true) else (if t302 = true then (if (!(t299 == t294) || (!(t300 == t295) || (!(t301 == t296)))) = true then (laws_FnProgress.j0 k t315 bt318.1 bt318.2.1 bt318.2.2 true) else (if (t308 != t313) = true then (laws_FnProgress.j0 k t315 bt318.1 bt318.2.1 bt318.2.2 true) else (if (!(t305 == t310) || (!(t306 == t311) || (!(t307 == t312)))) = true then (laws_FnProgress.j0 k t315 bt318.1 bt318.2.1 bt318.2.2 true) else (if bt318.2.2 = bt321.2.2 then (if bt318.1 = bt321.1 then (laws_FnProgress.j0 k t315 bt318.1 bt318.2.1 bt318.2.2 (bt318.2.1 != bt321.2.1)) else (laws_FnProgress.j0 k t315 bt318.1 bt318.2.1 bt318.2.2 true)) else (laws_FnProgress.j0 k t315 bt318.1 bt318.2.1 bt318.2.2 true))))) else (if (t308 != t313) = true then (laws_FnProgress.j0 k t315 bt318.1 bt318.2.1 bt318.2.2 true) else (if (!(t305 == t310) || (!(t306 == t311) || (!(t307 == t312)))) = true then (laws_FnProgress.j0 k t315 bt318.1 bt318.2.1 bt318.2.2 true) else (if bt318.2.2 = bt321.2.2 then (if bt318.1 = bt321.1 then (laws_FnProgress.j0 k t315 bt318.1 bt318.2.1 bt318.2.2 (bt318.2.1 != bt321.2.1)) else (laws_FnProgress.j0 k t315 bt318.1 bt318.2.1 bt318.2.2 true)) else (laws_FnProgress.j0 k t315 bt318.1 bt318.2.1 bt318.2.2 true)))))) else (laws_FnProgress.j0 k t315 bt318.1 bt318.2.1 bt318.2.2 true)))))) = some r := H
    have A9 := Aside0.mk A90
    clear A90
    replace H := Option.bind_eq_some_iff.mp H
    obtain ⟨t315, A100, H⟩ := H
    replace H : ((impl_MergeProgress.f k t315).bind fun bt318 => ((spec_MergeProgress.f k t315).bind fun bt321 => ((spec_ProgressText.f k t294 t295 t296).bind fun t324 => (if t298.toList = t324.toList then (if (t302 != (t298.toList != ([] : List UInt8))) = true then (laws_FnProgress.j0 k t315 bt318.1 bt318.2.1 bt318.2.2 true) else (if t302 = true then (if (!(t299 == t294) || (!(t300 == t295) || (!(t301 == t296)))) = true then (laws_FnProgress.j0 k t315 bt318.1 bt318.2.1 bt318.2.2 true) else (if (t308 != t313) = true then (laws_FnProgress.j0 k t315 bt318.1 bt318.2.1 bt318.2.2 true) else (if (!(t305 == t310) || (!(t306 == t311) || (!(t307 == t312)))) = true then (laws_FnProgress.j0 k t315 bt318.1 bt318.2.1 bt318.2.2 true) else (if bt318.2.2 = bt321.2.2 then (if bt318.1 = bt321.1 then (laws_FnProgress.j0 k t315 bt318.1 bt318.2.1 bt318.2.2 (bt318.2.1 != bt321.2.1)) else (laws_FnProgress.j0 k t315 bt318.1 bt318.2.1 bt318.2.2 true)) else (laws_FnProgress.j0 k t315 bt318.1 bt318.2.1 bt318.2.2 true))))) else (if (t308 != t313) = true then (laws_FnProgress.j0 k t315 bt318.1 bt318.2.1 bt318.2.2 true) else (if (!(t305 == t310) || (!(t306 == t311) || (!(t307 == t312)))) = true then (laws_FnProgress.j0 k t315 bt318.1 bt318.2.1 bt318.2.2 true) else (if bt318.2.2 = bt321.2.2 then (if bt318.1 = bt321.1 then (laws_FnProgress.j0 k t315 bt318.1 bt318.2.1 bt318.2.2 (bt318.2.1 != bt321.2.1)) else (laws_FnProgress.j0 k t315 bt318.1 bt318.2.1 bt318.2.2 true)) else (laws_FnProgress.j0 k t315 bt318.1 bt318.2.1 bt318.2.2 true)))))) else (laws_FnProgress.j0 k t315 bt318.1 bt318.2.1 bt318.2.2 true))))) = some r := H
    have A10 := Aside0.mk A100
    clear A100
    replace H := Option.bind_eq_some_iff.mp H
    obtain ⟨⟨t318, t319, t320⟩, A110, H⟩ := H
    replace H : ((spec_MergeProgress.f k t315).bind fun bt321 => ((spec_ProgressText.f k t294 t295 t296).bind fun t324 => (if t298.toList = t324.toList then (if (t302 != (t298.toList != ([] : List UInt8))) = true then (laws_FnProgress.j0 k t315 t318 t319 t320 true) else (if t302 = true then (if (!(t299 == t294) || (!(t300 == t295) || (!(t301 == t296)))) = true then (laws_FnProgress.j0 k t315 t318 t319 t320 true) else (if (t308 != t313) = true then (laws_FnProgress.j0 k t315 t318 t319 t320 true) else (if (!(t305 == t310) || (!(t306 == t311) || (!(t307 == t312)))) = true then (laws_FnProgress.j0 k t315 t318 t319 t320 true) else (if t320 = bt321.2.2 then (if t318 = bt321.1 then (laws_FnProgress.j0 k t315 t318 t319 t320 (t319 != bt321.2.1)) else (laws_FnProgress.j0 k t315 t318 t319 t320 true)) else (laws_FnProgress.j0 k t315 t318 t319 t320 true))))) else (if (t308 != t313) = true then (laws_FnProgress.j0 k t315 t318 t319 t320 true) else (if (!(t305 == t310) || (!(t306 == t311) || (!(t307 == t312)))) = true then (laws_FnProgress.j0 k t315 t318 t319 t320 true) else (if t320 = bt321.2.2 then (if t318 = bt321.1 then (laws_FnProgress.j0 k t315 t318 t319 t320 (t319 != bt321.2.1)) else (laws_FnProgress.j0 k t315 t318 t319 t320 true)) else (laws_FnProgress.j0 k t315 t318 t319 t320 true)))))) else (laws_FnProgress.j0 k t315 t318 t319 t320 true)))) = some r := H
    have A11 := Aside0.mk A110
    clear A110
    replace H := Option.bind_eq_some_iff.mp H
    obtain ⟨⟨t321, t322, t323⟩, A120, H⟩ := H
    replace H : ((spec_ProgressText.f k t294 t295 t296).bind fun t324 => (if t298.toList = t324.toList then (if (t302 != (t298.toList != ([] : List UInt8))) = true then (laws_FnProgress.j0 k t315 t318 t319 t320 true) else (if t302 = true then (if (!(t299 == t294) || (!(t300 == t295) || (!(t301 == t296)))) = true then (laws_FnProgress.j0 k t315 t318 t319 t320 true) else (if (t308 != t313) = true then (laws_FnProgress.j0 k t315 t318 t319 t320 true) else (if (!(t305 == t310) || (!(t306 == t311) || (!(t307 == t312)))) = true then (laws_FnProgress.j0 k t315 t318 t319 t320 true) else (if t320 = t323 then (if t318 = t321 then (laws_FnProgress.j0 k t315 t318 t319 t320 (t319 != t322)) else (laws_FnProgress.j0 k t315 t318 t319 t320 true)) else (laws_FnProgress.j0 k t315 t318 t319 t320 true))))) else (if (t308 != t313) = true then (laws_FnProgress.j0 k t315 t318 t319 t320 true) else (if (!(t305 == t310) || (!(t306 == t311) || (!(t307 == t312)))) = true then (laws_FnProgress.j0 k t315 t318 t319 t320 true) else (if t320 = t323 then (if t318 = t321 then (laws_FnProgress.j0 k t315 t318 t319 t320 (t319 != t322)) else (laws_FnProgress.j0 k t315 t318 t319 t320 true)) else (laws_FnProgress.j0 k t315 t318 t319 t320 true)))))) else (laws_FnProgress.j0 k t315 t318 t319 t320 true))) = some r := H
    have A12 := Aside0.mk A120
    clear A120
    have HC13 := Aside0.mk H
    clear H
    go_enter Tryd.func4, Tryd.ntmps4
    go_upto_region 12 with (first | ((with_reducible refine gate_callee (f := 8) rfl ?_); refine goesL_ (some 23) rfl rfl Tryd.func8 (by kernel_rfl) rfl #[.slice A0 l0.length c0] rfl (by (try simp only [List.map_toArray, List.map_cons, List.map_nil]); first | done | rfl | (simp only [List.length_drop, List.length_take]; rfl)) ?_; (with_reducible refine (laws_big.calls _ _ l0 false _ ?side1 ?side2 A2.out).mono ?_); (case side1 => repeat (first | exact HR0.out | (with_reducible refine Kd.C_alloc ?_ _) | (with_reducible refine Kd.C_drewN ?_ _) | (with_reducible refine Kd.C_drew ?_))); (case side2 => exact HC0.out); rintro e w' ⟨rfl, ⟨nd, rfl⟩⟩; refine ⟨_, rfl, ?_⟩) | ((with_reducible refine gate_callee (f := 9) rfl ?_); refine goesL_ (some 25) rfl rfl Tryd.func9 (by kernel_rfl) rfl #[.slice A0 l0.length c0] rfl (by (try simp only [List.map_toArray, List.map_cons, List.map_nil]); first | done | rfl | (simp only [List.length_drop, List.length_take]; rfl)) ?_; (with_reducible refine (spec_DrawProgressText.calls k _ _ l0 t294 t295 t296 _ ?side1 ?side2 A4.out).mono ?_); (case side1 => repeat (first | exact HR0.out | (with_reducible refine Kd.C_alloc ?_ _) | (with_reducible refine Kd.C_drewN ?_ _) | (with_reducible refine Kd.C_drew ?_))); (case side2 => exact HC0.out); rintro e w14 ⟨rfl, hb⟩; refine ⟨_, rfl, ?_⟩; have n0_ := Aside0.mk (below_step (by repeat (first | (with_reducible first | exact HB.out | apply below_alloc | apply pw_below_drewN | apply below_drew1) | exact HB.out)) hb); clear HB; have HB := n0_; clear n0_; (try clear hb); (try clear hb2); (try clear hk); (try clear hi)) | ((with_reducible refine gate_dst (N := 3) rfl ?_); (try (refine gate_guard (by rfl) ?_; dsimp only)); refine box_event ?hg (N := 3) ?hd (cs := #[.int .i64 0, .int .i64 0, .int .i64 0]) (t := 23) ?hr ?_; (case hd => rfl); (case hg => rfl); (case hr => first | (go_simp; done) | (go_simp; rfl)); intro gb297 hg w15 hbox hb; have n0_ := Aside0.mk (below_step (by repeat (first | (with_reducible first | exact HB.out | apply below_alloc | apply pw_below_drewN | apply below_drew1) | exact HB.out)) hb); have n1_ := Aside0.mk (hbox); have n2_ := Aside0.mk ((by rw [hg]; exact (below_size (by repeat (first | (with_reducible first | exact HB.out | apply below_alloc | apply pw_below_drewN | apply below_drew1) | exact HB.out))) : w.heap.size ≤ gb297)); have n3_ := Aside0.mk ((by rw [hg]; exact (below_size (by repeat (first | (with_reducible first | exact HB.out | apply below_alloc | apply pw_below_drewN | apply below_drew1) | exact HB.out))) : w.heap.size ≤ gb297)); clear HB; have HB := n0_; have BK297 := n1_; have GW297 := n2_; have GE297 := n3_; clear n0_ n1_ n2_ n3_; clear hb hbox hg; have hcz16_0 : w15.cell? ⟨gb297, 0, none⟩ = some (.int .i64 0) := (blk_cell BK297.out 0).trans rfl; have hcz16_1 : w15.cell? ⟨gb297, 1, none⟩ = some (.int .i64 0) := (blk_cell BK297.out 1).trans rfl; have hcz16_2 : w15.cell? ⟨gb297, 2, none⟩ = some (.int .i64 0) := (blk_cell BK297.out 2).trans rfl; have hfz16_0 := blk_frozen BK297.out 0; have hfz16_1 := blk_frozen BK297.out 1; have hfz16_2 := blk_frozen BK297.out 2) | ((with_reducible refine gate_callee (f := 10) rfl ?_); refine goesL_ (some 27) rfl rfl Tryd.func10 (by kernel_rfl) rfl #[.agg #[.int .i64 t294, .int .i64 t295, .int .i64 t296]] rfl (by (try simp only [List.map_toArray, List.map_cons, List.map_nil]); first | done | rfl | (simp only [List.length_drop, List.length_take]; rfl)) ?_; (with_reducible refine (impl_ProgressText.calls k t294 t295 t296 t298 _ A5.out (Laid.below hG (by repeat (first | exact HB.out | exact Below.refl _ _ | apply below_alloc | apply pw_below_drewN | apply below_drew1 | refine below_set ?_ GE297.out | refine below_set ?_ GE303.out | refine below_set ?_ GE309.out | refine below_set ?_ GE314.out)))).mono ?_); rintro e w17 ⟨rfl, hb⟩; refine ⟨_, rfl, ?_⟩; have n0_ := Aside0.mk (blk_below (g := gb297) (o := .cells #[.int .i64 t294, .int .i64 t295, .int .i64 t296] 23 (0, 0)) (by (with_reducible repeat (first | refine blk_drewN ?_ _ | refine blk_drew ?_ | refine blk_alloc ?_ _)); refine blk_put (cs := #[.int .i64 t294, .int .i64 t295, .int .i64 0]) ?_ 2 _ rfl; (with_reducible repeat (first | refine blk_drewN ?_ _ | refine blk_drew ?_ | refine blk_alloc ?_ _)); refine blk_put (cs := #[.int .i64 t294, .int .i64 0, .int .i64 0]) ?_ 1 _ rfl; (with_reducible repeat (first | refine blk_drewN ?_ _ | refine blk_drew ?_ | refine blk_alloc ?_ _)); refine blk_put (cs := #[.int .i64 0, .int .i64 0, .int .i64 0]) ?_ 0 _ rfl; (with_reducible repeat (first | refine blk_drewN ?_ _ | refine blk_drew ?_ | refine blk_alloc ?_ _)); exact BK297.out) hb); have n1_ := Aside0.mk (below_step (by repeat (first | (with_reducible first | exact HB.out | apply below_alloc | apply pw_below_drewN | apply below_drew1 | refine below_set ?_ GE297.out) | exact HB.out)) hb); clear BK297; clear HB; have BK297 := n0_; have HB := n1_; clear n0_ n1_; (try clear hb); (try clear hb2); (try clear hk); (try clear hi)) | ((with_reducible refine gate_callee (f := 6) rfl ?_); refine goesL_ (some 30) rfl rfl Tryd.func6 (by kernel_rfl) rfl #[.string t298] rfl (by (try simp only [List.map_toArray, List.map_cons, List.map_nil]); first | done | rfl | (simp only [List.length_drop, List.length_take]; rfl)) ?_; (with_reducible refine (impl_ReadProgress.calls k t298 t299 t300 t301 t302 _ A6.out (Laid.below hG (by repeat (first | exact HB.out | exact Below.refl _ _ | apply below_alloc | apply pw_below_drewN | apply below_drew1 | refine below_set ?_ GE297.out | refine below_set ?_ GE303.out | refine below_set ?_ GE309.out | refine below_set ?_ GE314.out)))).mono ?_); rintro e w18 ⟨rfl, hb⟩; refine ⟨_, rfl, ?_⟩; have n0_ := Aside0.mk (blk_below (g := gb297) (o := .cells #[.int .i64 t294, .int .i64 t295, .int .i64 t296] 23 (0, 0)) (by (with_reducible repeat (first | refine blk_drewN ?_ _ | refine blk_drew ?_ | refine blk_alloc ?_ _)); exact BK297.out) hb); have n1_ := Aside0.mk (below_step (by repeat (first | (with_reducible first | exact HB.out | apply below_alloc | apply pw_below_drewN | apply below_drew1 | refine below_set ?_ GE297.out) | exact HB.out)) hb); clear BK297; clear HB; have BK297 := n0_; have HB := n1_; clear n0_ n1_; (try clear hb); (try clear hb2); (try clear hk); (try clear hi)) | ((with_reducible refine gate_dst (N := 5) rfl ?_); (try (refine gate_guard (by rfl) ?_; dsimp only)); refine box_event ?hg (N := 5) ?hd (cs := #[.int .i64 0, .int .i64 0, .int .i64 0]) (t := 23) ?hr ?_; (case hd => rfl); (case hg => rfl); (case hr => first | (go_simp; done) | (go_simp; rfl)); intro gb303 hg w19 hbox hb; have n0_ := Aside0.mk (blk_below (g := gb297) (o := .cells #[.int .i64 t294, .int .i64 t295, .int .i64 t296] 23 (0, 0)) (by (with_reducible repeat (first | refine blk_drewN ?_ _ | refine blk_drew ?_ | refine blk_alloc ?_ _)); exact BK297.out) hb); have n1_ := Aside0.mk (below_step (by repeat (first | (with_reducible first | exact HB.out | apply below_alloc | apply pw_below_drewN | apply below_drew1 | refine below_set ?_ GE297.out) | exact HB.out)) hb); have n2_ := Aside0.mk (hbox); have n3_ := Aside0.mk ((by rw [hg]; exact (below_size (by repeat (first | (with_reducible first | exact HB.out | apply below_alloc | apply pw_below_drewN | apply below_drew1 | refine below_set ?_ GE297.out) | exact HB.out))) : w.heap.size ≤ gb303)); have n4_ := Aside0.mk ((by rw [hg]; exact (below_size (by repeat (first | (with_reducible first | exact HB.out | apply below_alloc | apply pw_below_drewN | apply below_drew1 | refine below_set ?_ GE297.out) | exact HB.out))) : w.heap.size ≤ gb303)); have n5_ := Aside0.mk ((by rw [hg]; exact Nat.ne_of_lt (blk_lt (g := gb297) (o := .cells #[.int .i64 t294, .int .i64 t295, .int .i64 t296] 23 (0, 0)) (by (with_reducible repeat (first | refine blk_drewN ?_ _ | refine blk_drew ?_ | refine blk_alloc ?_ _)); exact BK297.out)) : gb297 ≠ gb303)); have n6_ := Aside0.mk ((by rw [hg]; exact Nat.ne_of_gt (blk_lt (g := gb297) (o := .cells #[.int .i64 t294, .int .i64 t295, .int .i64 t296] 23 (0, 0)) (by (with_reducible repeat (first | refine blk_drewN ?_ _ | refine blk_drew ?_ | refine blk_alloc ?_ _)); exact BK297.out)) : gb303 ≠ gb297)); clear BK297; clear HB; have BK297 := n0_; have HB := n1_; have BK303 := n2_; have GW303 := n3_; have GE303 := n4_; have NB297_303 := n5_; have NB303_297 := n6_; clear n0_ n1_ n2_ n3_ n4_ n5_ n6_; clear hb hbox hg; have hnb20 := NB303_297.out; have hnc20 := NB297_303.out; have hcz21_0 : w19.cell? ⟨gb303, 0, none⟩ = some (.int .i64 0) := (blk_cell BK303.out 0).trans rfl; have hcz21_1 : w19.cell? ⟨gb303, 1, none⟩ = some (.int .i64 0) := (blk_cell BK303.out 1).trans rfl; have hcz21_2 : w19.cell? ⟨gb303, 2, none⟩ = some (.int .i64 0) := (blk_cell BK303.out 2).trans rfl; have hfz21_0 := blk_frozen BK303.out 0; have hfz21_1 := blk_frozen BK303.out 1; have hfz21_2 := blk_frozen BK303.out 2) | ((with_reducible refine gate_callee (f := 11) rfl ?_); refine goesL_ (some 34) rfl rfl Tryd.func11 (by kernel_rfl) rfl #[.slice A0 l0.length c0] rfl (by (try simp only [List.map_toArray, List.map_cons, List.map_nil]); first | done | rfl | (simp only [List.length_drop, List.length_take]; rfl)) ?_; (with_reducible refine (spec_DrawReadProgress.calls k _ _ l0 t304 _ ?side1 ?side2 A7.out).mono ?_); (case side1 => exact Kd.C_below HR0.out (by repeat (first | (with_reducible first | exact HB.out | apply below_alloc | apply pw_below_drewN | apply below_drew1 | refine below_set ?_ GE297.out | refine below_set ?_ GE303.out) | exact HB.out))); (case side2 => exact HC0.out); rintro e w22 ⟨rfl, hb⟩; refine ⟨_, rfl, ?_⟩; have n0_ := Aside0.mk (blk_below (g := gb297) (o := .cells #[.int .i64 t294, .int .i64 t295, .int .i64 t296] 23 (0, 0)) (by (with_reducible repeat (first | refine blk_drewN ?_ _ | refine blk_drew ?_ | refine blk_alloc ?_ _)); refine blk_far ?_ NB297_303.out _; (with_reducible repeat (first | refine blk_drewN ?_ _ | refine blk_drew ?_ | refine blk_alloc ?_ _)); refine blk_far ?_ NB297_303.out _; (with_reducible repeat (first | refine blk_drewN ?_ _ | refine blk_drew ?_ | refine blk_alloc ?_ _)); refine blk_far ?_ NB297_303.out _; (with_reducible repeat (first | refine blk_drewN ?_ _ | refine blk_drew ?_ | refine blk_alloc ?_ _)); exact BK297.out) hb); have n1_ := Aside0.mk (blk_below (g := gb303) (o := .cells #[.int .i64 t299, .int .i64 t300, .int .i64 t301] 23 (0, 0)) (by (with_reducible repeat (first | refine blk_drewN ?_ _ | refine blk_drew ?_ | refine blk_alloc ?_ _)); refine blk_put (cs := #[.int .i64 t299, .int .i64 t300, .int .i64 0]) ?_ 2 _ rfl; (with_reducible repeat (first | refine blk_drewN ?_ _ | refine blk_drew ?_ | refine blk_alloc ?_ _)); refine blk_put (cs := #[.int .i64 t299, .int .i64 0, .int .i64 0]) ?_ 1 _ rfl; (with_reducible repeat (first | refine blk_drewN ?_ _ | refine blk_drew ?_ | refine blk_alloc ?_ _)); refine blk_put (cs := #[.int .i64 0, .int .i64 0, .int .i64 0]) ?_ 0 _ rfl; (with_reducible repeat (first | refine blk_drewN ?_ _ | refine blk_drew ?_ | refine blk_alloc ?_ _)); exact BK303.out) hb); have n2_ := Aside0.mk (below_step (by repeat (first | (with_reducible first | exact HB.out | apply below_alloc | apply pw_below_drewN | apply below_drew1 | refine below_set ?_ GE297.out | refine below_set ?_ GE303.out) | exact HB.out)) hb); clear BK297; clear BK303; clear HB; have BK297 := n0_; have BK303 := n1_; have HB := n2_; clear n0_ n1_ n2_; (try clear hb); (try clear hb2); (try clear hk); (try clear hi)) | ((with_reducible refine gate_callee (f := 6) rfl ?_); refine goesL_ (some 37) rfl rfl Tryd.func6 (by kernel_rfl) rfl #[.string t304] rfl (by (try simp only [List.map_toArray, List.map_cons, List.map_nil]); first | done | rfl | (simp only [List.length_drop, List.length_take]; rfl)) ?_; (with_reducible refine (impl_ReadProgress.calls k t304 t305 t306 t307 t308 _ A8.out (Laid.below hG (by repeat (first | exact HB.out | exact Below.refl _ _ | apply below_alloc | apply pw_below_drewN | apply below_drew1 | refine below_set ?_ GE297.out | refine below_set ?_ GE303.out | refine below_set ?_ GE309.out | refine below_set ?_ GE314.out)))).mono ?_); rintro e w23 ⟨rfl, hb⟩; refine ⟨_, rfl, ?_⟩; have n0_ := Aside0.mk (blk_below (g := gb297) (o := .cells #[.int .i64 t294, .int .i64 t295, .int .i64 t296] 23 (0, 0)) (by (with_reducible repeat (first | refine blk_drewN ?_ _ | refine blk_drew ?_ | refine blk_alloc ?_ _)); exact BK297.out) hb); have n1_ := Aside0.mk (blk_below (g := gb303) (o := .cells #[.int .i64 t299, .int .i64 t300, .int .i64 t301] 23 (0, 0)) (by (with_reducible repeat (first | refine blk_drewN ?_ _ | refine blk_drew ?_ | refine blk_alloc ?_ _)); exact BK303.out) hb); have n2_ := Aside0.mk (below_step (by repeat (first | (with_reducible first | exact HB.out | apply below_alloc | apply pw_below_drewN | apply below_drew1 | refine below_set ?_ GE297.out | refine below_set ?_ GE303.out) | exact HB.out)) hb); clear BK297; clear BK303; clear HB; have BK297 := n0_; have BK303 := n1_; have HB := n2_; clear n0_ n1_ n2_; (try clear hb); (try clear hb2); (try clear hk); (try clear hi)) | ((with_reducible refine gate_dst (N := 8) rfl ?_); (try (refine gate_guard (by rfl) ?_; dsimp only)); refine box_event ?hg (N := 8) ?hd (cs := #[.int .i64 0, .int .i64 0, .int .i64 0]) (t := 23) ?hr ?_; (case hd => rfl); (case hg => rfl); (case hr => first | (go_simp; done) | (go_simp; rfl)); intro gb309 hg w24 hbox hb; have n0_ := Aside0.mk (blk_below (g := gb297) (o := .cells #[.int .i64 t294, .int .i64 t295, .int .i64 t296] 23 (0, 0)) (by (with_reducible repeat (first | refine blk_drewN ?_ _ | refine blk_drew ?_ | refine blk_alloc ?_ _)); exact BK297.out) hb); have n1_ := Aside0.mk (blk_below (g := gb303) (o := .cells #[.int .i64 t299, .int .i64 t300, .int .i64 t301] 23 (0, 0)) (by (with_reducible repeat (first | refine blk_drewN ?_ _ | refine blk_drew ?_ | refine blk_alloc ?_ _)); exact BK303.out) hb); have n2_ := Aside0.mk (below_step (by repeat (first | (with_reducible first | exact HB.out | apply below_alloc | apply pw_below_drewN | apply below_drew1 | refine below_set ?_ GE297.out | refine below_set ?_ GE303.out) | exact HB.out)) hb); have n3_ := Aside0.mk (hbox); have n4_ := Aside0.mk ((by rw [hg]; exact (below_size (by repeat (first | (with_reducible first | exact HB.out | apply below_alloc | apply pw_below_drewN | apply below_drew1 | refine below_set ?_ GE297.out | refine below_set ?_ GE303.out) | exact HB.out))) : w.heap.size ≤ gb309)); have n5_ := Aside0.mk ((by rw [hg]; exact (below_size (by repeat (first | (with_reducible first | exact HB.out | apply below_alloc | apply pw_below_drewN | apply below_drew1 | refine below_set ?_ GE297.out | refine below_set ?_ GE303.out) | exact HB.out))) : w.heap.size ≤ gb309)); have n6_ := Aside0.mk ((by rw [hg]; exact Nat.ne_of_lt (blk_lt (g := gb297) (o := .cells #[.int .i64 t294, .int .i64 t295, .int .i64 t296] 23 (0, 0)) (by (with_reducible repeat (first | refine blk_drewN ?_ _ | refine blk_drew ?_ | refine blk_alloc ?_ _)); exact BK297.out)) : gb297 ≠ gb309)); have n7_ := Aside0.mk ((by rw [hg]; exact Nat.ne_of_gt (blk_lt (g := gb297) (o := .cells #[.int .i64 t294, .int .i64 t295, .int .i64 t296] 23 (0, 0)) (by (with_reducible repeat (first | refine blk_drewN ?_ _ | refine blk_drew ?_ | refine blk_alloc ?_ _)); exact BK297.out)) : gb309 ≠ gb297)); have n8_ := Aside0.mk ((by rw [hg]; exact Nat.ne_of_lt (blk_lt (g := gb303) (o := .cells #[.int .i64 t299, .int .i64 t300, .int .i64 t301] 23 (0, 0)) (by (with_reducible repeat (first | refine blk_drewN ?_ _ | refine blk_drew ?_ | refine blk_alloc ?_ _)); exact BK303.out)) : gb303 ≠ gb309)); have n9_ := Aside0.mk ((by rw [hg]; exact Nat.ne_of_gt (blk_lt (g := gb303) (o := .cells #[.int .i64 t299, .int .i64 t300, .int .i64 t301] 23 (0, 0)) (by (with_reducible repeat (first | refine blk_drewN ?_ _ | refine blk_drew ?_ | refine blk_alloc ?_ _)); exact BK303.out)) : gb309 ≠ gb303)); clear BK297; clear BK303; clear HB; have BK297 := n0_; have BK303 := n1_; have HB := n2_; have BK309 := n3_; have GW309 := n4_; have GE309 := n5_; have NB297_309 := n6_; have NB309_297 := n7_; have NB303_309 := n8_; have NB309_303 := n9_; clear n0_ n1_ n2_ n3_ n4_ n5_ n6_ n7_ n8_ n9_; clear hb hbox hg; have hnb25 := NB309_297.out; have hnc25 := NB297_309.out; have hnb26 := NB309_303.out; have hnc26 := NB303_309.out; have hcz27_0 : w24.cell? ⟨gb309, 0, none⟩ = some (.int .i64 0) := (blk_cell BK309.out 0).trans rfl; have hcz27_1 : w24.cell? ⟨gb309, 1, none⟩ = some (.int .i64 0) := (blk_cell BK309.out 1).trans rfl; have hcz27_2 : w24.cell? ⟨gb309, 2, none⟩ = some (.int .i64 0) := (blk_cell BK309.out 2).trans rfl; have hfz27_0 := blk_frozen BK309.out 0; have hfz27_1 := blk_frozen BK309.out 1; have hfz27_2 := blk_frozen BK309.out 2) | ((with_reducible refine gate_callee (f := 5) rfl ?_); refine goesL_ (some 42) rfl rfl Tryd.func5 (by kernel_rfl) rfl #[.string t304] rfl (by (try simp only [List.map_toArray, List.map_cons, List.map_nil]); first | done | rfl | (simp only [List.length_drop, List.length_take]; rfl)) ?_; (with_reducible refine (spec_ReadProgress.calls k t304 t310 t311 t312 t313 _ A9.out).mono ?_); rintro e w28 ⟨rfl, hb⟩; refine ⟨_, rfl, ?_⟩; have n0_ := Aside0.mk (blk_below (g := gb297) (o := .cells #[.int .i64 t294, .int .i64 t295, .int .i64 t296] 23 (0, 0)) (by (with_reducible repeat (first | refine blk_drewN ?_ _ | refine blk_drew ?_ | refine blk_alloc ?_ _)); refine blk_far ?_ NB297_309.out _; (with_reducible repeat (first | refine blk_drewN ?_ _ | refine blk_drew ?_ | refine blk_alloc ?_ _)); refine blk_far ?_ NB297_309.out _; (with_reducible repeat (first | refine blk_drewN ?_ _ | refine blk_drew ?_ | refine blk_alloc ?_ _)); refine blk_far ?_ NB297_309.out _; (with_reducible repeat (first | refine blk_drewN ?_ _ | refine blk_drew ?_ | refine blk_alloc ?_ _)); exact BK297.out) hb); have n1_ := Aside0.mk (blk_below (g := gb303) (o := .cells #[.int .i64 t299, .int .i64 t300, .int .i64 t301] 23 (0, 0)) (by (with_reducible repeat (first | refine blk_drewN ?_ _ | refine blk_drew ?_ | refine blk_alloc ?_ _)); refine blk_far ?_ NB303_309.out _; (with_reducible repeat (first | refine blk_drewN ?_ _ | refine blk_drew ?_ | refine blk_alloc ?_ _)); refine blk_far ?_ NB303_309.out _; (with_reducible repeat (first | refine blk_drewN ?_ _ | refine blk_drew ?_ | refine blk_alloc ?_ _)); refine blk_far ?_ NB303_309.out _; (with_reducible repeat (first | refine blk_drewN ?_ _ | refine blk_drew ?_ | refine blk_alloc ?_ _)); exact BK303.out) hb); have n2_ := Aside0.mk (blk_below (g := gb309) (o := .cells #[.int .i64 t305, .int .i64 t306, .int .i64 t307] 23 (0, 0)) (by (with_reducible repeat (first | refine blk_drewN ?_ _ | refine blk_drew ?_ | refine blk_alloc ?_ _)); refine blk_put (cs := #[.int .i64 t305, .int .i64 t306, .int .i64 0]) ?_ 2 _ rfl; (with_reducible repeat (first | refine blk_drewN ?_ _ | refine blk_drew ?_ | refine blk_alloc ?_ _)); refine blk_put (cs := #[.int .i64 t305, .int .i64 0, .int .i64 0]) ?_ 1 _ rfl; (with_reducible repeat (first | refine blk_drewN ?_ _ | refine blk_drew ?_ | refine blk_alloc ?_ _)); refine blk_put (cs := #[.int .i64 0, .int .i64 0, .int .i64 0]) ?_ 0 _ rfl; (with_reducible repeat (first | refine blk_drewN ?_ _ | refine blk_drew ?_ | refine blk_alloc ?_ _)); exact BK309.out) hb); have n3_ := Aside0.mk (below_step (by repeat (first | (with_reducible first | exact HB.out | apply below_alloc | apply pw_below_drewN | apply below_drew1 | refine below_set ?_ GE297.out | refine below_set ?_ GE303.out | refine below_set ?_ GE309.out) | exact HB.out)) hb); clear BK297; clear BK303; clear BK309; clear HB; have BK297 := n0_; have BK303 := n1_; have BK309 := n2_; have HB := n3_; clear n0_ n1_ n2_ n3_; (try clear hb); (try clear hb2); (try clear hk); (try clear hi)) | ((with_reducible refine gate_dst (N := 10) rfl ?_); (try (refine gate_guard (by rfl) ?_; dsimp only)); refine box_event ?hg (N := 10) ?hd (cs := #[.int .i64 0, .int .i64 0, .int .i64 0]) (t := 23) ?hr ?_; (case hd => rfl); (case hg => rfl); (case hr => first | (go_simp; done) | (go_simp; rfl)); intro gb314 hg w29 hbox hb; have n0_ := Aside0.mk (blk_below (g := gb297) (o := .cells #[.int .i64 t294, .int .i64 t295, .int .i64 t296] 23 (0, 0)) (by (with_reducible repeat (first | refine blk_drewN ?_ _ | refine blk_drew ?_ | refine blk_alloc ?_ _)); exact BK297.out) hb); have n1_ := Aside0.mk (blk_below (g := gb303) (o := .cells #[.int .i64 t299, .int .i64 t300, .int .i64 t301] 23 (0, 0)) (by (with_reducible repeat (first | refine blk_drewN ?_ _ | refine blk_drew ?_ | refine blk_alloc ?_ _)); exact BK303.out) hb); have n2_ := Aside0.mk (blk_below (g := gb309) (o := .cells #[.int .i64 t305, .int .i64 t306, .int .i64 t307] 23 (0, 0)) (by (with_reducible repeat (first | refine blk_drewN ?_ _ | refine blk_drew ?_ | refine blk_alloc ?_ _)); exact BK309.out) hb); have n3_ := Aside0.mk (below_step (by repeat (first | (with_reducible first | exact HB.out | apply below_alloc | apply pw_below_drewN | apply below_drew1 | refine below_set ?_ GE297.out | refine below_set ?_ GE303.out | refine below_set ?_ GE309.out) | exact HB.out)) hb); have n4_ := Aside0.mk (hbox); have n5_ := Aside0.mk ((by rw [hg]; exact (below_size (by repeat (first | (with_reducible first | exact HB.out | apply below_alloc | apply pw_below_drewN | apply below_drew1 | refine below_set ?_ GE297.out | refine below_set ?_ GE303.out | refine below_set ?_ GE309.out) | exact HB.out))) : w.heap.size ≤ gb314)); have n6_ := Aside0.mk ((by rw [hg]; exact (below_size (by repeat (first | (with_reducible first | exact HB.out | apply below_alloc | apply pw_below_drewN | apply below_drew1 | refine below_set ?_ GE297.out | refine below_set ?_ GE303.out | refine below_set ?_ GE309.out) | exact HB.out))) : w.heap.size ≤ gb314)); have n7_ := Aside0.mk ((by rw [hg]; exact Nat.ne_of_lt (blk_lt (g := gb297) (o := .cells #[.int .i64 t294, .int .i64 t295, .int .i64 t296] 23 (0, 0)) (by (with_reducible repeat (first | refine blk_drewN ?_ _ | refine blk_drew ?_ | refine blk_alloc ?_ _)); exact BK297.out)) : gb297 ≠ gb314)); have n8_ := Aside0.mk ((by rw [hg]; exact Nat.ne_of_gt (blk_lt (g := gb297) (o := .cells #[.int .i64 t294, .int .i64 t295, .int .i64 t296] 23 (0, 0)) (by (with_reducible repeat (first | refine blk_drewN ?_ _ | refine blk_drew ?_ | refine blk_alloc ?_ _)); exact BK297.out)) : gb314 ≠ gb297)); have n9_ := Aside0.mk ((by rw [hg]; exact Nat.ne_of_lt (blk_lt (g := gb303) (o := .cells #[.int .i64 t299, .int .i64 t300, .int .i64 t301] 23 (0, 0)) (by (with_reducible repeat (first | refine blk_drewN ?_ _ | refine blk_drew ?_ | refine blk_alloc ?_ _)); exact BK303.out)) : gb303 ≠ gb314)); have n10_ := Aside0.mk ((by rw [hg]; exact Nat.ne_of_gt (blk_lt (g := gb303) (o := .cells #[.int .i64 t299, .int .i64 t300, .int .i64 t301] 23 (0, 0)) (by (with_reducible repeat (first | refine blk_drewN ?_ _ | refine blk_drew ?_ | refine blk_alloc ?_ _)); exact BK303.out)) : gb314 ≠ gb303)); have n11_ := Aside0.mk ((by rw [hg]; exact Nat.ne_of_lt (blk_lt (g := gb309) (o := .cells #[.int .i64 t305, .int .i64 t306, .int .i64 t307] 23 (0, 0)) (by (with_reducible repeat (first | refine blk_drewN ?_ _ | refine blk_drew ?_ | refine blk_alloc ?_ _)); exact BK309.out)) : gb309 ≠ gb314)); have n12_ := Aside0.mk ((by rw [hg]; exact Nat.ne_of_gt (blk_lt (g := gb309) (o := .cells #[.int .i64 t305, .int .i64 t306, .int .i64 t307] 23 (0, 0)) (by (with_reducible repeat (first | refine blk_drewN ?_ _ | refine blk_drew ?_ | refine blk_alloc ?_ _)); exact BK309.out)) : gb314 ≠ gb309)); clear BK297; clear BK303; clear BK309; clear HB; have BK297 := n0_; have BK303 := n1_; have BK309 := n2_; have HB := n3_; have BK314 := n4_; have GW314 := n5_; have GE314 := n6_; have NB297_314 := n7_; have NB314_297 := n8_; have NB303_314 := n9_; have NB314_303 := n10_; have NB309_314 := n11_; have NB314_309 := n12_; clear n0_ n1_ n2_ n3_ n4_ n5_ n6_ n7_ n8_ n9_ n10_ n11_ n12_; clear hb hbox hg; have hnb30 := NB314_297.out; have hnc30 := NB297_314.out; have hnb31 := NB314_303.out; have hnc31 := NB303_314.out; have hnb32 := NB314_309.out; have hnc32 := NB309_314.out; have hcz33_0 : w29.cell? ⟨gb314, 0, none⟩ = some (.int .i64 0) := (blk_cell BK314.out 0).trans rfl; have hcz33_1 : w29.cell? ⟨gb314, 1, none⟩ = some (.int .i64 0) := (blk_cell BK314.out 1).trans rfl; have hcz33_2 : w29.cell? ⟨gb314, 2, none⟩ = some (.int .i64 0) := (blk_cell BK314.out 2).trans rfl; have hfz33_0 := blk_frozen BK314.out 0; have hfz33_1 := blk_frozen BK314.out 1; have hfz33_2 := blk_frozen BK314.out 2) | ((with_reducible refine gate_callee (f := 12) rfl ?_); refine goesL_ (some 46) rfl rfl Tryd.func12 (by kernel_rfl) rfl #[.slice A0 l0.length c0] rfl (by (try simp only [List.map_toArray, List.map_cons, List.map_nil]); first | done | rfl | (simp only [List.length_drop, List.length_take]; rfl)) ?_; (with_reducible refine (spec_DrawMergeProgress.calls k _ _ l0 t315 _ ?side1 ?side2 A10.out).mono ?_); (case side1 => exact Kd.C_below HR0.out (by repeat (first | (with_reducible first | exact HB.out | apply below_alloc | apply pw_below_drewN | apply below_drew1 | refine below_set ?_ GE297.out | refine below_set ?_ GE303.out | refine below_set ?_ GE309.out | refine below_set ?_ GE314.out) | exact HB.out))); (case side2 => exact HC0.out); rintro e w34 ⟨v316, rfl, ho0, hb⟩; refine ⟨_, rfl, ?_⟩; have n0_ := Aside0.mk (Kd.R_lower (Kd.R_newB (Kd.R_newB (Kd.R_newB (Kd.R_newB ho0 (g := gb297) (o := .cells #[.int .i64 t294, .int .i64 t295, .int .i64 t296] 23 (0, 0)) (by (with_reducible repeat (first | refine blk_drewN ?_ _ | refine blk_drew ?_ | refine blk_alloc ?_ _)); refine blk_far ?_ NB297_314.out _; (with_reducible repeat (first | refine blk_drewN ?_ _ | refine blk_drew ?_ | refine blk_alloc ?_ _)); refine blk_far ?_ NB297_314.out _; (with_reducible repeat (first | refine blk_drewN ?_ _ | refine blk_drew ?_ | refine blk_alloc ?_ _)); refine blk_far ?_ NB297_314.out _; (with_reducible repeat (first | refine blk_drewN ?_ _ | refine blk_drew ?_ | refine blk_alloc ?_ _)); exact BK297.out)) (g := gb303) (o := .cells #[.int .i64 t299, .int .i64 t300, .int .i64 t301] 23 (0, 0)) (by (with_reducible repeat (first | refine blk_drewN ?_ _ | refine blk_drew ?_ | refine blk_alloc ?_ _)); refine blk_far ?_ NB303_314.out _; (with_reducible repeat (first | refine blk_drewN ?_ _ | refine blk_drew ?_ | refine blk_alloc ?_ _)); refine blk_far ?_ NB303_314.out _; (with_reducible repeat (first | refine blk_drewN ?_ _ | refine blk_drew ?_ | refine blk_alloc ?_ _)); refine blk_far ?_ NB303_314.out _; (with_reducible repeat (first | refine blk_drewN ?_ _ | refine blk_drew ?_ | refine blk_alloc ?_ _)); exact BK303.out)) (g := gb309) (o := .cells #[.int .i64 t305, .int .i64 t306, .int .i64 t307] 23 (0, 0)) (by (with_reducible repeat (first | refine blk_drewN ?_ _ | refine blk_drew ?_ | refine blk_alloc ?_ _)); refine blk_far ?_ NB309_314.out _; (with_reducible repeat (first | refine blk_drewN ?_ _ | refine blk_drew ?_ | refine blk_alloc ?_ _)); refine blk_far ?_ NB309_314.out _; (with_reducible repeat (first | refine blk_drewN ?_ _ | refine blk_drew ?_ | refine blk_alloc ?_ _)); refine blk_far ?_ NB309_314.out _; (with_reducible repeat (first | refine blk_drewN ?_ _ | refine blk_drew ?_ | refine blk_alloc ?_ _)); exact BK309.out)) (g := gb314) (o := .cells #[.int .i64 t310, .int .i64 t311, .int .i64 t312] 23 (0, 0)) (by (with_reducible repeat (first | refine blk_drewN ?_ _ | refine blk_drew ?_ | refine blk_alloc ?_ _)); refine blk_put (cs := #[.int .i64 t310, .int .i64 t311, .int .i64 0]) ?_ 2 _ rfl; (with_reducible repeat (first | refine blk_drewN ?_ _ | refine blk_drew ?_ | refine blk_alloc ?_ _)); refine blk_put (cs := #[.int .i64 t310, .int .i64 0, .int .i64 0]) ?_ 1 _ rfl; (with_reducible repeat (first | refine blk_drewN ?_ _ | refine blk_drew ?_ | refine blk_alloc ?_ _)); refine blk_put (cs := #[.int .i64 0, .int .i64 0, .int .i64 0]) ?_ 0 _ rfl; (with_reducible repeat (first | refine blk_drewN ?_ _ | refine blk_drew ?_ | refine blk_alloc ?_ _)); exact BK314.out)) (below_size (by repeat (first | (with_reducible first | exact HB.out | apply below_alloc | apply pw_below_drewN | apply below_drew1 | refine below_set ?_ GE297.out | refine below_set ?_ GE303.out | refine below_set ?_ GE309.out | refine below_set ?_ GE314.out) | exact HB.out)))); have n1_ := Aside0.mk (blk_below (g := gb297) (o := .cells #[.int .i64 t294, .int .i64 t295, .int .i64 t296] 23 (0, 0)) (by (with_reducible repeat (first | refine blk_drewN ?_ _ | refine blk_drew ?_ | refine blk_alloc ?_ _)); refine blk_far ?_ NB297_314.out _; (with_reducible repeat (first | refine blk_drewN ?_ _ | refine blk_drew ?_ | refine blk_alloc ?_ _)); refine blk_far ?_ NB297_314.out _; (with_reducible repeat (first | refine blk_drewN ?_ _ | refine blk_drew ?_ | refine blk_alloc ?_ _)); refine blk_far ?_ NB297_314.out _; (with_reducible repeat (first | refine blk_drewN ?_ _ | refine blk_drew ?_ | refine blk_alloc ?_ _)); exact BK297.out) hb); have n2_ := Aside0.mk (blk_below (g := gb303) (o := .cells #[.int .i64 t299, .int .i64 t300, .int .i64 t301] 23 (0, 0)) (by (with_reducible repeat (first | refine blk_drewN ?_ _ | refine blk_drew ?_ | refine blk_alloc ?_ _)); refine blk_far ?_ NB303_314.out _; (with_reducible repeat (first | refine blk_drewN ?_ _ | refine blk_drew ?_ | refine blk_alloc ?_ _)); refine blk_far ?_ NB303_314.out _; (with_reducible repeat (first | refine blk_drewN ?_ _ | refine blk_drew ?_ | refine blk_alloc ?_ _)); refine blk_far ?_ NB303_314.out _; (with_reducible repeat (first | refine blk_drewN ?_ _ | refine blk_drew ?_ | refine blk_alloc ?_ _)); exact BK303.out) hb); have n3_ := Aside0.mk (blk_below (g := gb309) (o := .cells #[.int .i64 t305, .int .i64 t306, .int .i64 t307] 23 (0, 0)) (by (with_reducible repeat (first | refine blk_drewN ?_ _ | refine blk_drew ?_ | refine blk_alloc ?_ _)); refine blk_far ?_ NB309_314.out _; (with_reducible repeat (first | refine blk_drewN ?_ _ | refine blk_drew ?_ | refine blk_alloc ?_ _)); refine blk_far ?_ NB309_314.out _; (with_reducible repeat (first | refine blk_drewN ?_ _ | refine blk_drew ?_ | refine blk_alloc ?_ _)); refine blk_far ?_ NB309_314.out _; (with_reducible repeat (first | refine blk_drewN ?_ _ | refine blk_drew ?_ | refine blk_alloc ?_ _)); exact BK309.out) hb); have n4_ := Aside0.mk (blk_below (g := gb314) (o := .cells #[.int .i64 t310, .int .i64 t311, .int .i64 t312] 23 (0, 0)) (by (with_reducible repeat (first | refine blk_drewN ?_ _ | refine blk_drew ?_ | refine blk_alloc ?_ _)); refine blk_put (cs := #[.int .i64 t310, .int .i64 t311, .int .i64 0]) ?_ 2 _ rfl; (with_reducible repeat (first | refine blk_drewN ?_ _ | refine blk_drew ?_ | refine blk_alloc ?_ _)); refine blk_put (cs := #[.int .i64 t310, .int .i64 0, .int .i64 0]) ?_ 1 _ rfl; (with_reducible repeat (first | refine blk_drewN ?_ _ | refine blk_drew ?_ | refine blk_alloc ?_ _)); refine blk_put (cs := #[.int .i64 0, .int .i64 0, .int .i64 0]) ?_ 0 _ rfl; (with_reducible repeat (first | refine blk_drewN ?_ _ | refine blk_drew ?_ | refine blk_alloc ?_ _)); exact BK314.out) hb); have n5_ := Aside0.mk (below_step (by repeat (first | (with_reducible first | exact HB.out | apply below_alloc | apply pw_below_drewN | apply below_drew1 | refine below_set ?_ GE297.out | refine below_set ?_ GE303.out | refine below_set ?_ GE309.out | refine below_set ?_ GE314.out) | exact HB.out)) hb); clear BK297; clear BK303; clear BK309; clear BK314; clear HB; have HO317 := n0_; have BK297 := n1_; have BK303 := n2_; have BK309 := n3_; have BK314 := n4_; have HB := n5_; clear n0_ n1_ n2_ n3_ n4_ n5_; (try clear hb); (try clear hb2); (try clear hk); (try clear hi); (try clear ho0); obtain ⟨Ao35, co35, eo35⟩ := Kd.R_slice HO317.out; subst eo35) | ((with_reducible refine gate_callee (f := 13) rfl ?_); refine goesL_ (some 49) rfl rfl Tryd.func13 (by kernel_rfl) rfl #[.slice Ao35 t315.length co35] rfl (by (try simp only [List.map_toArray, List.map_cons, List.map_nil]); first | done | rfl | (simp only [List.length_drop, List.length_take]; rfl)) ?_; (with_reducible refine (impl_MergeProgress.calls k _ _ t315 t318 t319 t320 _ ?side1 ?side2 A11.out).mono ?_); (case side1 => repeat (first | exact (Kd.R_reads' HO317.out).2.2 | (with_reducible refine Kd.C_alloc ?_ _) | (with_reducible refine Kd.C_drewN ?_ _) | (with_reducible refine Kd.C_drew ?_))); (case side2 => exact (Kd.R_reads' HO317.out).2.1); rintro e w36 ⟨rfl, hb⟩; refine ⟨_, rfl, ?_⟩; have n0_ := Aside0.mk (Kd.R_below (by (with_reducible repeat (first | apply Kd.R_alloc | apply Kd.R_drewN | apply Kd.R_drew)); exact HO317.out) hb); have n1_ := Aside0.mk (blk_below (g := gb297) (o := .cells #[.int .i64 t294, .int .i64 t295, .int .i64 t296] 23 (0, 0)) (by (with_reducible repeat (first | refine blk_drewN ?_ _ | refine blk_drew ?_ | refine blk_alloc ?_ _)); exact BK297.out) hb); have n2_ := Aside0.mk (blk_below (g := gb303) (o := .cells #[.int .i64 t299, .int .i64 t300, .int .i64 t301] 23 (0, 0)) (by (with_reducible repeat (first | refine blk_drewN ?_ _ | refine blk_drew ?_ | refine blk_alloc ?_ _)); exact BK303.out) hb); have n3_ := Aside0.mk (blk_below (g := gb309) (o := .cells #[.int .i64 t305, .int .i64 t306, .int .i64 t307] 23 (0, 0)) (by (with_reducible repeat (first | refine blk_drewN ?_ _ | refine blk_drew ?_ | refine blk_alloc ?_ _)); exact BK309.out) hb); have n4_ := Aside0.mk (blk_below (g := gb314) (o := .cells #[.int .i64 t310, .int .i64 t311, .int .i64 t312] 23 (0, 0)) (by (with_reducible repeat (first | refine blk_drewN ?_ _ | refine blk_drew ?_ | refine blk_alloc ?_ _)); exact BK314.out) hb); have n5_ := Aside0.mk (below_step (by repeat (first | (with_reducible first | exact HB.out | apply below_alloc | apply pw_below_drewN | apply below_drew1 | refine below_set ?_ GE297.out | refine below_set ?_ GE303.out | refine below_set ?_ GE309.out | refine below_set ?_ GE314.out) | exact HB.out)) hb); clear HO317; clear BK297; clear BK303; clear BK309; clear BK314; clear HB; have HO317 := n0_; have BK297 := n1_; have BK303 := n2_; have BK309 := n3_; have BK314 := n4_; have HB := n5_; clear n0_ n1_ n2_ n3_ n4_ n5_; (try clear hb); (try clear hb2); (try clear hk); (try clear hi)) | ((with_reducible refine gate_callee (f := 14) rfl ?_); refine goesL_ (some 55) rfl rfl Tryd.func14 (by kernel_rfl) rfl #[.slice Ao35 t315.length co35] rfl (by (try simp only [List.map_toArray, List.map_cons, List.map_nil]); first | done | rfl | (simp only [List.length_drop, List.length_take]; rfl)) ?_; (with_reducible refine (spec_MergeProgress.calls k _ _ t315 t321 t322 t323 _ ?side1 ?side2 A12.out).mono ?_); (case side1 => repeat (first | exact (Kd.R_reads' HO317.out).2.2 | (with_reducible refine Kd.C_alloc ?_ _) | (with_reducible refine Kd.C_drewN ?_ _) | (with_reducible refine Kd.C_drew ?_))); (case side2 => exact (Kd.R_reads' HO317.out).2.1); rintro e w37 ⟨rfl, hb⟩; refine ⟨_, rfl, ?_⟩; have n0_ := Aside0.mk (Kd.R_below (by (with_reducible repeat (first | apply Kd.R_alloc | apply Kd.R_drewN | apply Kd.R_drew)); exact HO317.out) hb); have n1_ := Aside0.mk (blk_below (g := gb297) (o := .cells #[.int .i64 t294, .int .i64 t295, .int .i64 t296] 23 (0, 0)) (by (with_reducible repeat (first | refine blk_drewN ?_ _ | refine blk_drew ?_ | refine blk_alloc ?_ _)); exact BK297.out) hb); have n2_ := Aside0.mk (blk_below (g := gb303) (o := .cells #[.int .i64 t299, .int .i64 t300, .int .i64 t301] 23 (0, 0)) (by (with_reducible repeat (first | refine blk_drewN ?_ _ | refine blk_drew ?_ | refine blk_alloc ?_ _)); exact BK303.out) hb); have n3_ := Aside0.mk (blk_below (g := gb309) (o := .cells #[.int .i64 t305, .int .i64 t306, .int .i64 t307] 23 (0, 0)) (by (with_reducible repeat (first | refine blk_drewN ?_ _ | refine blk_drew ?_ | refine blk_alloc ?_ _)); exact BK309.out) hb); have n4_ := Aside0.mk (blk_below (g := gb314) (o := .cells #[.int .i64 t310, .int .i64 t311, .int .i64 t312] 23 (0, 0)) (by (with_reducible repeat (first | refine blk_drewN ?_ _ | refine blk_drew ?_ | refine blk_alloc ?_ _)); exact BK314.out) hb); have n5_ := Aside0.mk (below_step (by repeat (first | (with_reducible first | exact HB.out | apply below_alloc | apply pw_below_drewN | apply below_drew1 | refine below_set ?_ GE297.out | refine below_set ?_ GE303.out | refine below_set ?_ GE309.out | refine below_set ?_ GE314.out) | exact HB.out)) hb); clear HO317; clear BK297; clear BK303; clear BK309; clear BK314; clear HB; have HO317 := n0_; have BK297 := n1_; have BK303 := n2_; have BK309 := n3_; have BK314 := n4_; have HB := n5_; clear n0_ n1_ n2_ n3_ n4_ n5_; (try clear hb); (try clear hb2); (try clear hk); (try clear hi)))
    (try simp only [Act.put, List.setIfInBounds_toArray, List.set_cons_zero, List.set_cons_succ])
    go_cut [101] (fun v101 wc => ∃ (kq : Nat) (x101_12 : Bool), v101 = .bool x101_12 ∧ Aside0 (laws_FnProgress.j0 kq t315 t318 t319 t320 x101_12 = some r) ∧ Aside0 (kq ≤ k) ∧ Aside0 (Kd.R k23 23 wc w.heap.size (fun k_ => k_ ≠ gb297 ∧ k_ ≠ gb303 ∧ k_ ≠ gb309 ∧ k_ ≠ gb314) (.slice Ao35 t315.length co35) t315) ∧ Aside0 (wc.heap[gb297]? = some (.cells #[.int .i64 t294, .int .i64 t295, .int .i64 t296] 23 (0, 0))) ∧ Aside0 (wc.heap[gb303]? = some (.cells #[.int .i64 t299, .int .i64 t300, .int .i64 t301] 23 (0, 0))) ∧ Aside0 (wc.heap[gb309]? = some (.cells #[.int .i64 t305, .int .i64 t306, .int .i64 t307] 23 (0, 0))) ∧ Aside0 (wc.heap[gb314]? = some (.cells #[.int .i64 t310, .int .i64 t311, .int .i64 t312] 23 (0, 0))) ∧ Aside0 (Below w.heap.size w wc))
    case first =>
      have H := HC13.out
      clear HC13
      replace H := Option.bind_eq_some_iff.mp H
      obtain ⟨t324, A380, H⟩ := H
      replace H : (if t298.toList = t324.toList then (if (t302 != (t298.toList != ([] : List UInt8))) = true then (laws_FnProgress.j0 k t315 t318 t319 t320 true) else (if t302 = true then (if (!(t299 == t294) || (!(t300 == t295) || (!(t301 == t296)))) = true then (laws_FnProgress.j0 k t315 t318 t319 t320 true) else (if (t308 != t313) = true then (laws_FnProgress.j0 k t315 t318 t319 t320 true) else (if (!(t305 == t310) || (!(t306 == t311) || (!(t307 == t312)))) = true then (laws_FnProgress.j0 k t315 t318 t319 t320 true) else (if t320 = t323 then (if t318 = t321 then (laws_FnProgress.j0 k t315 t318 t319 t320 (t319 != t322)) else (laws_FnProgress.j0 k t315 t318 t319 t320 true)) else (laws_FnProgress.j0 k t315 t318 t319 t320 true))))) else (if (t308 != t313) = true then (laws_FnProgress.j0 k t315 t318 t319 t320 true) else (if (!(t305 == t310) || (!(t306 == t311) || (!(t307 == t312)))) = true then (laws_FnProgress.j0 k t315 t318 t319 t320 true) else (if t320 = t323 then (if t318 = t321 then (laws_FnProgress.j0 k t315 t318 t319 t320 (t319 != t322)) else (laws_FnProgress.j0 k t315 t318 t319 t320 true)) else (laws_FnProgress.j0 k t315 t318 t319 t320 true)))))) else (laws_FnProgress.j0 k t315 t318 t319 t320 true)) = some r := H
      have A38 := Aside0.mk A380
      clear A380
      by_cases c39 : t298.toList = t324.toList
      · rw [if_pos c39] at H
        have c39b0 : (t298.toList == t324.toList) = true := beq_iff_eq.mpr c39
        have c39b1 : (t298.toList != t324.toList) = false := bne_eq_false_iff_eq.mpr c39
        clear c39
        (first | rw [c39b0] | (simp only [i64_w, i32_w]; rw [c39b0]) | skip)
        by_cases c40 : (t302 != (t298.toList != ([] : List UInt8))) = true
        · rw [if_pos c40] at H
          have c40b0 : (t302 != (t298.toList != ([] : List UInt8))) = true := c40
          (try (have c40b1 : decide (t302 = (t298.toList != ([] : List UInt8))) = false := by simpa using c40))
          (try (have c40b2 : (t302 == (t298.toList != ([] : List UInt8))) = false := by simpa using c40))
          (try (have c40b3 : ¬ (t302 = (t298.toList != ([] : List UInt8))) := by simpa using c40))
          have c40e : (t302 = !t298.toList.isEmpty) = False := eq_false (by have hz_ := c40; rw [(show (t298.toList != ([] : List UInt8)) = !t298.toList.isEmpty by cases t298.toList <;> rfl)] at hz_; simpa using hz_)
          clear c40
          have H' := Aside0.mk H
          clear H
          have hnb41 := NB297_303.out
          have hnc41 := NB303_297.out
          have hnb42 := NB297_309.out
          have hnc42 := NB309_297.out
          have hnb43 := NB297_314.out
          have hnc43 := NB314_297.out
          have hcz44_0 : w37.cell? ⟨gb297, 0, none⟩ = some (.int .i64 t294) := (blk_cell BK297.out 0).trans rfl
          have hcz44_1 : w37.cell? ⟨gb297, 1, none⟩ = some (.int .i64 t295) := (blk_cell BK297.out 1).trans rfl
          have hcz44_2 : w37.cell? ⟨gb297, 2, none⟩ = some (.int .i64 t296) := (blk_cell BK297.out 2).trans rfl
          have hfz44_0 := blk_frozen BK297.out 0
          have hfz44_1 := blk_frozen BK297.out 1
          have hfz44_2 := blk_frozen BK297.out 2
          go_wp2_with (first | ((with_reducible refine gate_callee (f := 15) rfl ?_); refine goesL_ (some 61) rfl rfl Tryd.func15 (by kernel_rfl) rfl #[.agg #[.int .i64 t294, .int .i64 t295, .int .i64 t296]] rfl (by (try simp only [List.map_toArray, List.map_cons, List.map_nil]); first | done | rfl | (simp only [List.length_drop, List.length_take]; rfl)) ?_; (with_reducible refine (spec_ProgressText.calls k t294 t295 t296 t324 _ A38.out).mono ?_); rintro e w45 ⟨rfl, hb⟩; refine ⟨_, rfl, ?_⟩; have n0_ := Aside0.mk (Kd.R_below (by (with_reducible repeat (first | apply Kd.R_alloc | apply Kd.R_drewN | apply Kd.R_drew)); exact HO317.out) hb); have n1_ := Aside0.mk (blk_below (g := gb297) (o := .cells #[.int .i64 t294, .int .i64 t295, .int .i64 t296] 23 (0, 0)) (by (with_reducible repeat (first | refine blk_drewN ?_ _ | refine blk_drew ?_ | refine blk_alloc ?_ _)); exact BK297.out) hb); have n2_ := Aside0.mk (blk_below (g := gb303) (o := .cells #[.int .i64 t299, .int .i64 t300, .int .i64 t301] 23 (0, 0)) (by (with_reducible repeat (first | refine blk_drewN ?_ _ | refine blk_drew ?_ | refine blk_alloc ?_ _)); exact BK303.out) hb); have n3_ := Aside0.mk (blk_below (g := gb309) (o := .cells #[.int .i64 t305, .int .i64 t306, .int .i64 t307] 23 (0, 0)) (by (with_reducible repeat (first | refine blk_drewN ?_ _ | refine blk_drew ?_ | refine blk_alloc ?_ _)); exact BK309.out) hb); have n4_ := Aside0.mk (blk_below (g := gb314) (o := .cells #[.int .i64 t310, .int .i64 t311, .int .i64 t312] 23 (0, 0)) (by (with_reducible repeat (first | refine blk_drewN ?_ _ | refine blk_drew ?_ | refine blk_alloc ?_ _)); exact BK314.out) hb); have n5_ := Aside0.mk (below_step (by repeat (first | (with_reducible first | exact HB.out | apply below_alloc | apply pw_below_drewN | apply below_drew1 | refine below_set ?_ GE297.out | refine below_set ?_ GE303.out | refine below_set ?_ GE309.out | refine below_set ?_ GE314.out) | exact HB.out)) hb); clear HO317; clear BK297; clear BK303; clear BK309; clear BK314; clear HB; have HO317 := n0_; have BK297 := n1_; have BK303 := n2_; have BK309 := n3_; have BK314 := n4_; have HB := n5_; clear n0_ n1_ n2_ n3_ n4_ n5_; (try clear hb); (try clear hb2); (try clear hk); (try clear hi); have hpc297_0 : w45.cell? ⟨gb297, 0, none⟩ = some (.int .i64 t294) := (blk_cell BK297.out 0).trans rfl; have hpc297_1 : w45.cell? ⟨gb297, 1, none⟩ = some (.int .i64 t295) := (blk_cell BK297.out 1).trans rfl; have hpc297_2 : w45.cell? ⟨gb297, 2, none⟩ = some (.int .i64 t296) := (blk_cell BK297.out 2).trans rfl; have hpc303_0 : w45.cell? ⟨gb303, 0, none⟩ = some (.int .i64 t299) := (blk_cell BK303.out 0).trans rfl; have hpc303_1 : w45.cell? ⟨gb303, 1, none⟩ = some (.int .i64 t300) := (blk_cell BK303.out 1).trans rfl; have hpc303_2 : w45.cell? ⟨gb303, 2, none⟩ = some (.int .i64 t301) := (blk_cell BK303.out 2).trans rfl; have hpc309_0 : w45.cell? ⟨gb309, 0, none⟩ = some (.int .i64 t305) := (blk_cell BK309.out 0).trans rfl; have hpc309_1 : w45.cell? ⟨gb309, 1, none⟩ = some (.int .i64 t306) := (blk_cell BK309.out 1).trans rfl; have hpc309_2 : w45.cell? ⟨gb309, 2, none⟩ = some (.int .i64 t307) := (blk_cell BK309.out 2).trans rfl; have hpc314_0 : w45.cell? ⟨gb314, 0, none⟩ = some (.int .i64 t310) := (blk_cell BK314.out 0).trans rfl; have hpc314_1 : w45.cell? ⟨gb314, 1, none⟩ = some (.int .i64 t311) := (blk_cell BK314.out 1).trans rfl; have hpc314_2 : w45.cell? ⟨gb314, 2, none⟩ = some (.int .i64 t312) := (blk_cell BK314.out 2).trans rfl))
          go_meet
          case rel => exact ⟨_, (true), (by first | rfl | (simp; done) | (simp [*]; done)), H', ⟨by first | omega | exact Nat.le_refl _⟩, ⟨by (with_reducible repeat (first | apply Kd.R_alloc | apply Kd.R_drewN | apply Kd.R_drew)); exact Kd.R_mono HO317.out (fun _ hk => ⟨hk.1.1.1.2, ⟨hk.1.1.2, ⟨hk.1.2, hk.2⟩⟩⟩)⟩, ⟨by (with_reducible repeat (first | refine blk_drewN ?_ _ | refine blk_drew ?_ | refine blk_alloc ?_ _)); exact BK297.out⟩, ⟨by (with_reducible repeat (first | refine blk_drewN ?_ _ | refine blk_drew ?_ | refine blk_alloc ?_ _)); exact BK303.out⟩, ⟨by (with_reducible repeat (first | refine blk_drewN ?_ _ | refine blk_drew ?_ | refine blk_alloc ?_ _)); exact BK309.out⟩, ⟨by (with_reducible repeat (first | refine blk_drewN ?_ _ | refine blk_drew ?_ | refine blk_alloc ?_ _)); exact BK314.out⟩, ⟨by repeat (first | (with_reducible first | exact HB.out | apply below_alloc | apply pw_below_drewN | apply below_drew1 | refine below_set ?_ GE297.out | refine below_set ?_ GE303.out | refine below_set ?_ GE309.out | refine below_set ?_ GE314.out) | exact HB.out)⟩⟩
        · rw [if_neg c40] at H
          have c40b0 : (t302 != (t298.toList != ([] : List UInt8))) = false := by simpa using c40
          (try (have c40b1 : decide (t302 = (t298.toList != ([] : List UInt8))) = true := by simpa using c40))
          (try (have c40b2 : (t302 == (t298.toList != ([] : List UInt8))) = true := by simpa using c40))
          have c40e : (t302 = !t298.toList.isEmpty) = True := eq_true (by have hz_ := c40; rw [(show (t298.toList != ([] : List UInt8)) = !t298.toList.isEmpty by cases t298.toList <;> rfl)] at hz_; revert hz_; generalize (!t298.toList.isEmpty) = b_; cases t302 <;> cases b_ <;> simp)
          have c40f : (t298.toList = []) = (t302 = false) := by rw [of_eq_true c40e]; cases t298.toList <;> simp
          clear c40
          by_cases c46 : t302 = true
          · subst c46
            have H1 : (if (!(t299 == t294) || (!(t300 == t295) || (!(t301 == t296)))) = true then (laws_FnProgress.j0 k t315 t318 t319 t320 true) else (if (t308 != t313) = true then (laws_FnProgress.j0 k t315 t318 t319 t320 true) else (if (!(t305 == t310) || (!(t306 == t311) || (!(t307 == t312)))) = true then (laws_FnProgress.j0 k t315 t318 t319 t320 true) else (if t320 = t323 then (if t318 = t321 then (laws_FnProgress.j0 k t315 t318 t319 t320 (t319 != t322)) else (laws_FnProgress.j0 k t315 t318 t319 t320 true)) else (laws_FnProgress.j0 k t315 t318 t319 t320 true))))) = some r := by rw [if_pos rfl] at H; exact H
            clear H
            have H := H1
            clear H1
            by_cases c47 : (!(t299 == t294) || (!(t300 == t295) || (!(t301 == t296)))) = true
            · rw [if_pos c47] at H
              have c47b0 : (!(t299 == t294) || (!(t300 == t295) || (!(t301 == t296)))) = true := c47
              clear c47
              have H' := Aside0.mk H
              clear H
              have hnb48 := NB297_303.out
              have hnc48 := NB303_297.out
              have hnb49 := NB297_309.out
              have hnc49 := NB309_297.out
              have hnb50 := NB297_314.out
              have hnc50 := NB314_297.out
              have hcz51_0 : w37.cell? ⟨gb297, 0, none⟩ = some (.int .i64 t294) := (blk_cell BK297.out 0).trans rfl
              have hcz51_1 : w37.cell? ⟨gb297, 1, none⟩ = some (.int .i64 t295) := (blk_cell BK297.out 1).trans rfl
              have hcz51_2 : w37.cell? ⟨gb297, 2, none⟩ = some (.int .i64 t296) := (blk_cell BK297.out 2).trans rfl
              have hfz51_0 := blk_frozen BK297.out 0
              have hfz51_1 := blk_frozen BK297.out 1
              have hfz51_2 := blk_frozen BK297.out 2
              go_wp2_with (first | ((with_reducible refine gate_callee (f := 15) rfl ?_); refine goesL_ (some 61) rfl rfl Tryd.func15 (by kernel_rfl) rfl #[.agg #[.int .i64 t294, .int .i64 t295, .int .i64 t296]] rfl (by (try simp only [List.map_toArray, List.map_cons, List.map_nil]); first | done | rfl | (simp only [List.length_drop, List.length_take]; rfl)) ?_; (with_reducible refine (spec_ProgressText.calls k t294 t295 t296 t324 _ A38.out).mono ?_); rintro e w52 ⟨rfl, hb⟩; refine ⟨_, rfl, ?_⟩; have n0_ := Aside0.mk (Kd.R_below (by (with_reducible repeat (first | apply Kd.R_alloc | apply Kd.R_drewN | apply Kd.R_drew)); exact HO317.out) hb); have n1_ := Aside0.mk (blk_below (g := gb297) (o := .cells #[.int .i64 t294, .int .i64 t295, .int .i64 t296] 23 (0, 0)) (by (with_reducible repeat (first | refine blk_drewN ?_ _ | refine blk_drew ?_ | refine blk_alloc ?_ _)); exact BK297.out) hb); have n2_ := Aside0.mk (blk_below (g := gb303) (o := .cells #[.int .i64 t299, .int .i64 t300, .int .i64 t301] 23 (0, 0)) (by (with_reducible repeat (first | refine blk_drewN ?_ _ | refine blk_drew ?_ | refine blk_alloc ?_ _)); exact BK303.out) hb); have n3_ := Aside0.mk (blk_below (g := gb309) (o := .cells #[.int .i64 t305, .int .i64 t306, .int .i64 t307] 23 (0, 0)) (by (with_reducible repeat (first | refine blk_drewN ?_ _ | refine blk_drew ?_ | refine blk_alloc ?_ _)); exact BK309.out) hb); have n4_ := Aside0.mk (blk_below (g := gb314) (o := .cells #[.int .i64 t310, .int .i64 t311, .int .i64 t312] 23 (0, 0)) (by (with_reducible repeat (first | refine blk_drewN ?_ _ | refine blk_drew ?_ | refine blk_alloc ?_ _)); exact BK314.out) hb); have n5_ := Aside0.mk (below_step (by repeat (first | (with_reducible first | exact HB.out | apply below_alloc | apply pw_below_drewN | apply below_drew1 | refine below_set ?_ GE297.out | refine below_set ?_ GE303.out | refine below_set ?_ GE309.out | refine below_set ?_ GE314.out) | exact HB.out)) hb); clear HO317; clear BK297; clear BK303; clear BK309; clear BK314; clear HB; have HO317 := n0_; have BK297 := n1_; have BK303 := n2_; have BK309 := n3_; have BK314 := n4_; have HB := n5_; clear n0_ n1_ n2_ n3_ n4_ n5_; (try clear hb); (try clear hb2); (try clear hk); (try clear hi); have hnb53 := NB303_309.out; have hnc53 := NB309_303.out; have hnb54 := NB303_314.out; have hnc54 := NB314_303.out; have hcz55_0 : w52.cell? ⟨gb303, 0, none⟩ = some (.int .i64 t299) := (blk_cell BK303.out 0).trans rfl; have hcz55_1 : w52.cell? ⟨gb303, 1, none⟩ = some (.int .i64 t300) := (blk_cell BK303.out 1).trans rfl; have hcz55_2 : w52.cell? ⟨gb303, 2, none⟩ = some (.int .i64 t301) := (blk_cell BK303.out 2).trans rfl; have hfz55_0 := blk_frozen BK303.out 0; have hfz55_1 := blk_frozen BK303.out 1; have hfz55_2 := blk_frozen BK303.out 2; have hcz56_0 : w52.cell? ⟨gb297, 0, none⟩ = some (.int .i64 t294) := (blk_cell BK297.out 0).trans rfl; have hcz56_1 : w52.cell? ⟨gb297, 1, none⟩ = some (.int .i64 t295) := (blk_cell BK297.out 1).trans rfl; have hcz56_2 : w52.cell? ⟨gb297, 2, none⟩ = some (.int .i64 t296) := (blk_cell BK297.out 2).trans rfl; have hfz56_0 := blk_frozen BK297.out 0; have hfz56_1 := blk_frozen BK297.out 1; have hfz56_2 := blk_frozen BK297.out 2; have hpc297_0 : w52.cell? ⟨gb297, 0, none⟩ = some (.int .i64 t294) := (blk_cell BK297.out 0).trans rfl; have hpc297_1 : w52.cell? ⟨gb297, 1, none⟩ = some (.int .i64 t295) := (blk_cell BK297.out 1).trans rfl; have hpc297_2 : w52.cell? ⟨gb297, 2, none⟩ = some (.int .i64 t296) := (blk_cell BK297.out 2).trans rfl; have hpc303_0 : w52.cell? ⟨gb303, 0, none⟩ = some (.int .i64 t299) := (blk_cell BK303.out 0).trans rfl; have hpc303_1 : w52.cell? ⟨gb303, 1, none⟩ = some (.int .i64 t300) := (blk_cell BK303.out 1).trans rfl; have hpc303_2 : w52.cell? ⟨gb303, 2, none⟩ = some (.int .i64 t301) := (blk_cell BK303.out 2).trans rfl; have hpc309_0 : w52.cell? ⟨gb309, 0, none⟩ = some (.int .i64 t305) := (blk_cell BK309.out 0).trans rfl; have hpc309_1 : w52.cell? ⟨gb309, 1, none⟩ = some (.int .i64 t306) := (blk_cell BK309.out 1).trans rfl; have hpc309_2 : w52.cell? ⟨gb309, 2, none⟩ = some (.int .i64 t307) := (blk_cell BK309.out 2).trans rfl; have hpc314_0 : w52.cell? ⟨gb314, 0, none⟩ = some (.int .i64 t310) := (blk_cell BK314.out 0).trans rfl; have hpc314_1 : w52.cell? ⟨gb314, 1, none⟩ = some (.int .i64 t311) := (blk_cell BK314.out 1).trans rfl; have hpc314_2 : w52.cell? ⟨gb314, 2, none⟩ = some (.int .i64 t312) := (blk_cell BK314.out 2).trans rfl))
              go_meet
              case rel => exact ⟨_, (true), (by first | rfl | (simp; done) | (simp [*]; done)), H', ⟨by first | omega | exact Nat.le_refl _⟩, ⟨by (with_reducible repeat (first | apply Kd.R_alloc | apply Kd.R_drewN | apply Kd.R_drew)); exact Kd.R_mono HO317.out (fun _ hk => ⟨hk.1.1.1.2, ⟨hk.1.1.2, ⟨hk.1.2, hk.2⟩⟩⟩)⟩, ⟨by (with_reducible repeat (first | refine blk_drewN ?_ _ | refine blk_drew ?_ | refine blk_alloc ?_ _)); exact BK297.out⟩, ⟨by (with_reducible repeat (first | refine blk_drewN ?_ _ | refine blk_drew ?_ | refine blk_alloc ?_ _)); exact BK303.out⟩, ⟨by (with_reducible repeat (first | refine blk_drewN ?_ _ | refine blk_drew ?_ | refine blk_alloc ?_ _)); exact BK309.out⟩, ⟨by (with_reducible repeat (first | refine blk_drewN ?_ _ | refine blk_drew ?_ | refine blk_alloc ?_ _)); exact BK314.out⟩, ⟨by repeat (first | (with_reducible first | exact HB.out | apply below_alloc | apply pw_below_drewN | apply below_drew1 | refine below_set ?_ GE297.out | refine below_set ?_ GE303.out | refine below_set ?_ GE309.out | refine below_set ?_ GE314.out) | exact HB.out)⟩⟩
            · rw [if_neg c47] at H
              have c47b0 : (!(t299 == t294) || (!(t300 == t295) || (!(t301 == t296)))) = false := by simpa using c47
              clear c47
              by_cases c57 : (t308 != t313) = true
              · rw [if_pos c57] at H
                have c57b0 : (t308 != t313) = true := c57
                (try (have c57b1 : decide (t308 = t313) = false := by simpa using c57))
                (try (have c57b2 : (t308 == t313) = false := by simpa using c57))
                (try (have c57b3 : ¬ (t308 = t313) := by simpa using c57))
                clear c57
                have H' := Aside0.mk H
                clear H
                have hnb58 := NB297_303.out
                have hnc58 := NB303_297.out
                have hnb59 := NB297_309.out
                have hnc59 := NB309_297.out
                have hnb60 := NB297_314.out
                have hnc60 := NB314_297.out
                have hcz61_0 : w37.cell? ⟨gb297, 0, none⟩ = some (.int .i64 t294) := (blk_cell BK297.out 0).trans rfl
                have hcz61_1 : w37.cell? ⟨gb297, 1, none⟩ = some (.int .i64 t295) := (blk_cell BK297.out 1).trans rfl
                have hcz61_2 : w37.cell? ⟨gb297, 2, none⟩ = some (.int .i64 t296) := (blk_cell BK297.out 2).trans rfl
                have hfz61_0 := blk_frozen BK297.out 0
                have hfz61_1 := blk_frozen BK297.out 1
                have hfz61_2 := blk_frozen BK297.out 2
                go_wp2_with (first | ((with_reducible refine gate_callee (f := 15) rfl ?_); refine goesL_ (some 61) rfl rfl Tryd.func15 (by kernel_rfl) rfl #[.agg #[.int .i64 t294, .int .i64 t295, .int .i64 t296]] rfl (by (try simp only [List.map_toArray, List.map_cons, List.map_nil]); first | done | rfl | (simp only [List.length_drop, List.length_take]; rfl)) ?_; (with_reducible refine (spec_ProgressText.calls k t294 t295 t296 t324 _ A38.out).mono ?_); rintro e w62 ⟨rfl, hb⟩; refine ⟨_, rfl, ?_⟩; have n0_ := Aside0.mk (Kd.R_below (by (with_reducible repeat (first | apply Kd.R_alloc | apply Kd.R_drewN | apply Kd.R_drew)); exact HO317.out) hb); have n1_ := Aside0.mk (blk_below (g := gb297) (o := .cells #[.int .i64 t294, .int .i64 t295, .int .i64 t296] 23 (0, 0)) (by (with_reducible repeat (first | refine blk_drewN ?_ _ | refine blk_drew ?_ | refine blk_alloc ?_ _)); exact BK297.out) hb); have n2_ := Aside0.mk (blk_below (g := gb303) (o := .cells #[.int .i64 t299, .int .i64 t300, .int .i64 t301] 23 (0, 0)) (by (with_reducible repeat (first | refine blk_drewN ?_ _ | refine blk_drew ?_ | refine blk_alloc ?_ _)); exact BK303.out) hb); have n3_ := Aside0.mk (blk_below (g := gb309) (o := .cells #[.int .i64 t305, .int .i64 t306, .int .i64 t307] 23 (0, 0)) (by (with_reducible repeat (first | refine blk_drewN ?_ _ | refine blk_drew ?_ | refine blk_alloc ?_ _)); exact BK309.out) hb); have n4_ := Aside0.mk (blk_below (g := gb314) (o := .cells #[.int .i64 t310, .int .i64 t311, .int .i64 t312] 23 (0, 0)) (by (with_reducible repeat (first | refine blk_drewN ?_ _ | refine blk_drew ?_ | refine blk_alloc ?_ _)); exact BK314.out) hb); have n5_ := Aside0.mk (below_step (by repeat (first | (with_reducible first | exact HB.out | apply below_alloc | apply pw_below_drewN | apply below_drew1 | refine below_set ?_ GE297.out | refine below_set ?_ GE303.out | refine below_set ?_ GE309.out | refine below_set ?_ GE314.out) | exact HB.out)) hb); clear HO317; clear BK297; clear BK303; clear BK309; clear BK314; clear HB; have HO317 := n0_; have BK297 := n1_; have BK303 := n2_; have BK309 := n3_; have BK314 := n4_; have HB := n5_; clear n0_ n1_ n2_ n3_ n4_ n5_; (try clear hb); (try clear hb2); (try clear hk); (try clear hi); have hnb63 := NB303_309.out; have hnc63 := NB309_303.out; have hnb64 := NB303_314.out; have hnc64 := NB314_303.out; have hcz65_0 : w62.cell? ⟨gb303, 0, none⟩ = some (.int .i64 t299) := (blk_cell BK303.out 0).trans rfl; have hcz65_1 : w62.cell? ⟨gb303, 1, none⟩ = some (.int .i64 t300) := (blk_cell BK303.out 1).trans rfl; have hcz65_2 : w62.cell? ⟨gb303, 2, none⟩ = some (.int .i64 t301) := (blk_cell BK303.out 2).trans rfl; have hfz65_0 := blk_frozen BK303.out 0; have hfz65_1 := blk_frozen BK303.out 1; have hfz65_2 := blk_frozen BK303.out 2; have hcz66_0 : w62.cell? ⟨gb297, 0, none⟩ = some (.int .i64 t294) := (blk_cell BK297.out 0).trans rfl; have hcz66_1 : w62.cell? ⟨gb297, 1, none⟩ = some (.int .i64 t295) := (blk_cell BK297.out 1).trans rfl; have hcz66_2 : w62.cell? ⟨gb297, 2, none⟩ = some (.int .i64 t296) := (blk_cell BK297.out 2).trans rfl; have hfz66_0 := blk_frozen BK297.out 0; have hfz66_1 := blk_frozen BK297.out 1; have hfz66_2 := blk_frozen BK297.out 2; have hpc297_0 : w62.cell? ⟨gb297, 0, none⟩ = some (.int .i64 t294) := (blk_cell BK297.out 0).trans rfl; have hpc297_1 : w62.cell? ⟨gb297, 1, none⟩ = some (.int .i64 t295) := (blk_cell BK297.out 1).trans rfl; have hpc297_2 : w62.cell? ⟨gb297, 2, none⟩ = some (.int .i64 t296) := (blk_cell BK297.out 2).trans rfl; have hpc303_0 : w62.cell? ⟨gb303, 0, none⟩ = some (.int .i64 t299) := (blk_cell BK303.out 0).trans rfl; have hpc303_1 : w62.cell? ⟨gb303, 1, none⟩ = some (.int .i64 t300) := (blk_cell BK303.out 1).trans rfl; have hpc303_2 : w62.cell? ⟨gb303, 2, none⟩ = some (.int .i64 t301) := (blk_cell BK303.out 2).trans rfl; have hpc309_0 : w62.cell? ⟨gb309, 0, none⟩ = some (.int .i64 t305) := (blk_cell BK309.out 0).trans rfl; have hpc309_1 : w62.cell? ⟨gb309, 1, none⟩ = some (.int .i64 t306) := (blk_cell BK309.out 1).trans rfl; have hpc309_2 : w62.cell? ⟨gb309, 2, none⟩ = some (.int .i64 t307) := (blk_cell BK309.out 2).trans rfl; have hpc314_0 : w62.cell? ⟨gb314, 0, none⟩ = some (.int .i64 t310) := (blk_cell BK314.out 0).trans rfl; have hpc314_1 : w62.cell? ⟨gb314, 1, none⟩ = some (.int .i64 t311) := (blk_cell BK314.out 1).trans rfl; have hpc314_2 : w62.cell? ⟨gb314, 2, none⟩ = some (.int .i64 t312) := (blk_cell BK314.out 2).trans rfl))
                go_meet
                case rel => exact ⟨_, (true), (by first | rfl | (simp; done) | (simp [*]; done)), H', ⟨by first | omega | exact Nat.le_refl _⟩, ⟨by (with_reducible repeat (first | apply Kd.R_alloc | apply Kd.R_drewN | apply Kd.R_drew)); exact Kd.R_mono HO317.out (fun _ hk => ⟨hk.1.1.1.2, ⟨hk.1.1.2, ⟨hk.1.2, hk.2⟩⟩⟩)⟩, ⟨by (with_reducible repeat (first | refine blk_drewN ?_ _ | refine blk_drew ?_ | refine blk_alloc ?_ _)); exact BK297.out⟩, ⟨by (with_reducible repeat (first | refine blk_drewN ?_ _ | refine blk_drew ?_ | refine blk_alloc ?_ _)); exact BK303.out⟩, ⟨by (with_reducible repeat (first | refine blk_drewN ?_ _ | refine blk_drew ?_ | refine blk_alloc ?_ _)); exact BK309.out⟩, ⟨by (with_reducible repeat (first | refine blk_drewN ?_ _ | refine blk_drew ?_ | refine blk_alloc ?_ _)); exact BK314.out⟩, ⟨by repeat (first | (with_reducible first | exact HB.out | apply below_alloc | apply pw_below_drewN | apply below_drew1 | refine below_set ?_ GE297.out | refine below_set ?_ GE303.out | refine below_set ?_ GE309.out | refine below_set ?_ GE314.out) | exact HB.out)⟩⟩
              · rw [if_neg c57] at H
                have c57b0 : (t308 != t313) = false := by simpa using c57
                (try (have c57b1 : decide (t308 = t313) = true := by simpa using c57))
                (try (have c57b2 : (t308 == t313) = true := by simpa using c57))
                clear c57
                by_cases c67 : (!(t305 == t310) || (!(t306 == t311) || (!(t307 == t312)))) = true
                · rw [if_pos c67] at H
                  have c67b0 : (!(t305 == t310) || (!(t306 == t311) || (!(t307 == t312)))) = true := c67
                  clear c67
                  have H' := Aside0.mk H
                  clear H
                  have hnb68 := NB297_303.out
                  have hnc68 := NB303_297.out
                  have hnb69 := NB297_309.out
                  have hnc69 := NB309_297.out
                  have hnb70 := NB297_314.out
                  have hnc70 := NB314_297.out
                  have hcz71_0 : w37.cell? ⟨gb297, 0, none⟩ = some (.int .i64 t294) := (blk_cell BK297.out 0).trans rfl
                  have hcz71_1 : w37.cell? ⟨gb297, 1, none⟩ = some (.int .i64 t295) := (blk_cell BK297.out 1).trans rfl
                  have hcz71_2 : w37.cell? ⟨gb297, 2, none⟩ = some (.int .i64 t296) := (blk_cell BK297.out 2).trans rfl
                  have hfz71_0 := blk_frozen BK297.out 0
                  have hfz71_1 := blk_frozen BK297.out 1
                  have hfz71_2 := blk_frozen BK297.out 2
                  go_wp2_with (first | ((with_reducible refine gate_callee (f := 15) rfl ?_); refine goesL_ (some 61) rfl rfl Tryd.func15 (by kernel_rfl) rfl #[.agg #[.int .i64 t294, .int .i64 t295, .int .i64 t296]] rfl (by (try simp only [List.map_toArray, List.map_cons, List.map_nil]); first | done | rfl | (simp only [List.length_drop, List.length_take]; rfl)) ?_; (with_reducible refine (spec_ProgressText.calls k t294 t295 t296 t324 _ A38.out).mono ?_); rintro e w72 ⟨rfl, hb⟩; refine ⟨_, rfl, ?_⟩; have n0_ := Aside0.mk (Kd.R_below (by (with_reducible repeat (first | apply Kd.R_alloc | apply Kd.R_drewN | apply Kd.R_drew)); exact HO317.out) hb); have n1_ := Aside0.mk (blk_below (g := gb297) (o := .cells #[.int .i64 t294, .int .i64 t295, .int .i64 t296] 23 (0, 0)) (by (with_reducible repeat (first | refine blk_drewN ?_ _ | refine blk_drew ?_ | refine blk_alloc ?_ _)); exact BK297.out) hb); have n2_ := Aside0.mk (blk_below (g := gb303) (o := .cells #[.int .i64 t299, .int .i64 t300, .int .i64 t301] 23 (0, 0)) (by (with_reducible repeat (first | refine blk_drewN ?_ _ | refine blk_drew ?_ | refine blk_alloc ?_ _)); exact BK303.out) hb); have n3_ := Aside0.mk (blk_below (g := gb309) (o := .cells #[.int .i64 t305, .int .i64 t306, .int .i64 t307] 23 (0, 0)) (by (with_reducible repeat (first | refine blk_drewN ?_ _ | refine blk_drew ?_ | refine blk_alloc ?_ _)); exact BK309.out) hb); have n4_ := Aside0.mk (blk_below (g := gb314) (o := .cells #[.int .i64 t310, .int .i64 t311, .int .i64 t312] 23 (0, 0)) (by (with_reducible repeat (first | refine blk_drewN ?_ _ | refine blk_drew ?_ | refine blk_alloc ?_ _)); exact BK314.out) hb); have n5_ := Aside0.mk (below_step (by repeat (first | (with_reducible first | exact HB.out | apply below_alloc | apply pw_below_drewN | apply below_drew1 | refine below_set ?_ GE297.out | refine below_set ?_ GE303.out | refine below_set ?_ GE309.out | refine below_set ?_ GE314.out) | exact HB.out)) hb); clear HO317; clear BK297; clear BK303; clear BK309; clear BK314; clear HB; have HO317 := n0_; have BK297 := n1_; have BK303 := n2_; have BK309 := n3_; have BK314 := n4_; have HB := n5_; clear n0_ n1_ n2_ n3_ n4_ n5_; (try clear hb); (try clear hb2); (try clear hk); (try clear hi); have hnb73 := NB303_309.out; have hnc73 := NB309_303.out; have hnb74 := NB303_314.out; have hnc74 := NB314_303.out; have hcz75_0 : w72.cell? ⟨gb303, 0, none⟩ = some (.int .i64 t299) := (blk_cell BK303.out 0).trans rfl; have hcz75_1 : w72.cell? ⟨gb303, 1, none⟩ = some (.int .i64 t300) := (blk_cell BK303.out 1).trans rfl; have hcz75_2 : w72.cell? ⟨gb303, 2, none⟩ = some (.int .i64 t301) := (blk_cell BK303.out 2).trans rfl; have hfz75_0 := blk_frozen BK303.out 0; have hfz75_1 := blk_frozen BK303.out 1; have hfz75_2 := blk_frozen BK303.out 2; have hcz76_0 : w72.cell? ⟨gb297, 0, none⟩ = some (.int .i64 t294) := (blk_cell BK297.out 0).trans rfl; have hcz76_1 : w72.cell? ⟨gb297, 1, none⟩ = some (.int .i64 t295) := (blk_cell BK297.out 1).trans rfl; have hcz76_2 : w72.cell? ⟨gb297, 2, none⟩ = some (.int .i64 t296) := (blk_cell BK297.out 2).trans rfl; have hfz76_0 := blk_frozen BK297.out 0; have hfz76_1 := blk_frozen BK297.out 1; have hfz76_2 := blk_frozen BK297.out 2; have hnb77 := NB309_314.out; have hnc77 := NB314_309.out; have hcz78_0 : w72.cell? ⟨gb309, 0, none⟩ = some (.int .i64 t305) := (blk_cell BK309.out 0).trans rfl; have hcz78_1 : w72.cell? ⟨gb309, 1, none⟩ = some (.int .i64 t306) := (blk_cell BK309.out 1).trans rfl; have hcz78_2 : w72.cell? ⟨gb309, 2, none⟩ = some (.int .i64 t307) := (blk_cell BK309.out 2).trans rfl; have hfz78_0 := blk_frozen BK309.out 0; have hfz78_1 := blk_frozen BK309.out 1; have hfz78_2 := blk_frozen BK309.out 2; have hcz79_0 : w72.cell? ⟨gb314, 0, none⟩ = some (.int .i64 t310) := (blk_cell BK314.out 0).trans rfl; have hcz79_1 : w72.cell? ⟨gb314, 1, none⟩ = some (.int .i64 t311) := (blk_cell BK314.out 1).trans rfl; have hcz79_2 : w72.cell? ⟨gb314, 2, none⟩ = some (.int .i64 t312) := (blk_cell BK314.out 2).trans rfl; have hfz79_0 := blk_frozen BK314.out 0; have hfz79_1 := blk_frozen BK314.out 1; have hfz79_2 := blk_frozen BK314.out 2; have hpc297_0 : w72.cell? ⟨gb297, 0, none⟩ = some (.int .i64 t294) := (blk_cell BK297.out 0).trans rfl; have hpc297_1 : w72.cell? ⟨gb297, 1, none⟩ = some (.int .i64 t295) := (blk_cell BK297.out 1).trans rfl; have hpc297_2 : w72.cell? ⟨gb297, 2, none⟩ = some (.int .i64 t296) := (blk_cell BK297.out 2).trans rfl; have hpc303_0 : w72.cell? ⟨gb303, 0, none⟩ = some (.int .i64 t299) := (blk_cell BK303.out 0).trans rfl; have hpc303_1 : w72.cell? ⟨gb303, 1, none⟩ = some (.int .i64 t300) := (blk_cell BK303.out 1).trans rfl; have hpc303_2 : w72.cell? ⟨gb303, 2, none⟩ = some (.int .i64 t301) := (blk_cell BK303.out 2).trans rfl; have hpc309_0 : w72.cell? ⟨gb309, 0, none⟩ = some (.int .i64 t305) := (blk_cell BK309.out 0).trans rfl; have hpc309_1 : w72.cell? ⟨gb309, 1, none⟩ = some (.int .i64 t306) := (blk_cell BK309.out 1).trans rfl; have hpc309_2 : w72.cell? ⟨gb309, 2, none⟩ = some (.int .i64 t307) := (blk_cell BK309.out 2).trans rfl; have hpc314_0 : w72.cell? ⟨gb314, 0, none⟩ = some (.int .i64 t310) := (blk_cell BK314.out 0).trans rfl; have hpc314_1 : w72.cell? ⟨gb314, 1, none⟩ = some (.int .i64 t311) := (blk_cell BK314.out 1).trans rfl; have hpc314_2 : w72.cell? ⟨gb314, 2, none⟩ = some (.int .i64 t312) := (blk_cell BK314.out 2).trans rfl))
                  go_meet
                  case rel => exact ⟨_, (true), (by first | rfl | (simp; done) | (simp [*]; done)), H', ⟨by first | omega | exact Nat.le_refl _⟩, ⟨by (with_reducible repeat (first | apply Kd.R_alloc | apply Kd.R_drewN | apply Kd.R_drew)); exact Kd.R_mono HO317.out (fun _ hk => ⟨hk.1.1.1.2, ⟨hk.1.1.2, ⟨hk.1.2, hk.2⟩⟩⟩)⟩, ⟨by (with_reducible repeat (first | refine blk_drewN ?_ _ | refine blk_drew ?_ | refine blk_alloc ?_ _)); exact BK297.out⟩, ⟨by (with_reducible repeat (first | refine blk_drewN ?_ _ | refine blk_drew ?_ | refine blk_alloc ?_ _)); exact BK303.out⟩, ⟨by (with_reducible repeat (first | refine blk_drewN ?_ _ | refine blk_drew ?_ | refine blk_alloc ?_ _)); exact BK309.out⟩, ⟨by (with_reducible repeat (first | refine blk_drewN ?_ _ | refine blk_drew ?_ | refine blk_alloc ?_ _)); exact BK314.out⟩, ⟨by repeat (first | (with_reducible first | exact HB.out | apply below_alloc | apply pw_below_drewN | apply below_drew1 | refine below_set ?_ GE297.out | refine below_set ?_ GE303.out | refine below_set ?_ GE309.out | refine below_set ?_ GE314.out) | exact HB.out)⟩⟩
                · rw [if_neg c67] at H
                  have c67b0 : (!(t305 == t310) || (!(t306 == t311) || (!(t307 == t312)))) = false := by simpa using c67
                  clear c67
                  by_cases c80 : t320 = t323
                  · rw [if_pos c80] at H
                    have c80b0 : (t320 == t323) = true := beq_iff_eq.mpr c80
                    have c80b1 : (t320 != t323) = false := bne_eq_false_iff_eq.mpr c80
                    clear c80
                    by_cases c81 : t318 = t321
                    · rw [if_pos c81] at H
                      have c81b0 : (t318 == t321) = true := beq_iff_eq.mpr c81
                      have c81b1 : (t318 != t321) = false := bne_eq_false_iff_eq.mpr c81
                      clear c81
                      have H' := Aside0.mk H
                      clear H
                      have hnb82 := NB297_303.out
                      have hnc82 := NB303_297.out
                      have hnb83 := NB297_309.out
                      have hnc83 := NB309_297.out
                      have hnb84 := NB297_314.out
                      have hnc84 := NB314_297.out
                      have hcz85_0 : w37.cell? ⟨gb297, 0, none⟩ = some (.int .i64 t294) := (blk_cell BK297.out 0).trans rfl
                      have hcz85_1 : w37.cell? ⟨gb297, 1, none⟩ = some (.int .i64 t295) := (blk_cell BK297.out 1).trans rfl
                      have hcz85_2 : w37.cell? ⟨gb297, 2, none⟩ = some (.int .i64 t296) := (blk_cell BK297.out 2).trans rfl
                      have hfz85_0 := blk_frozen BK297.out 0
                      have hfz85_1 := blk_frozen BK297.out 1
                      have hfz85_2 := blk_frozen BK297.out 2
                      go_wp2_with (first | ((with_reducible refine gate_callee (f := 15) rfl ?_); refine goesL_ (some 61) rfl rfl Tryd.func15 (by kernel_rfl) rfl #[.agg #[.int .i64 t294, .int .i64 t295, .int .i64 t296]] rfl (by (try simp only [List.map_toArray, List.map_cons, List.map_nil]); first | done | rfl | (simp only [List.length_drop, List.length_take]; rfl)) ?_; (with_reducible refine (spec_ProgressText.calls k t294 t295 t296 t324 _ A38.out).mono ?_); rintro e w86 ⟨rfl, hb⟩; refine ⟨_, rfl, ?_⟩; have n0_ := Aside0.mk (Kd.R_below (by (with_reducible repeat (first | apply Kd.R_alloc | apply Kd.R_drewN | apply Kd.R_drew)); exact HO317.out) hb); have n1_ := Aside0.mk (blk_below (g := gb297) (o := .cells #[.int .i64 t294, .int .i64 t295, .int .i64 t296] 23 (0, 0)) (by (with_reducible repeat (first | refine blk_drewN ?_ _ | refine blk_drew ?_ | refine blk_alloc ?_ _)); exact BK297.out) hb); have n2_ := Aside0.mk (blk_below (g := gb303) (o := .cells #[.int .i64 t299, .int .i64 t300, .int .i64 t301] 23 (0, 0)) (by (with_reducible repeat (first | refine blk_drewN ?_ _ | refine blk_drew ?_ | refine blk_alloc ?_ _)); exact BK303.out) hb); have n3_ := Aside0.mk (blk_below (g := gb309) (o := .cells #[.int .i64 t305, .int .i64 t306, .int .i64 t307] 23 (0, 0)) (by (with_reducible repeat (first | refine blk_drewN ?_ _ | refine blk_drew ?_ | refine blk_alloc ?_ _)); exact BK309.out) hb); have n4_ := Aside0.mk (blk_below (g := gb314) (o := .cells #[.int .i64 t310, .int .i64 t311, .int .i64 t312] 23 (0, 0)) (by (with_reducible repeat (first | refine blk_drewN ?_ _ | refine blk_drew ?_ | refine blk_alloc ?_ _)); exact BK314.out) hb); have n5_ := Aside0.mk (below_step (by repeat (first | (with_reducible first | exact HB.out | apply below_alloc | apply pw_below_drewN | apply below_drew1 | refine below_set ?_ GE297.out | refine below_set ?_ GE303.out | refine below_set ?_ GE309.out | refine below_set ?_ GE314.out) | exact HB.out)) hb); clear HO317; clear BK297; clear BK303; clear BK309; clear BK314; clear HB; have HO317 := n0_; have BK297 := n1_; have BK303 := n2_; have BK309 := n3_; have BK314 := n4_; have HB := n5_; clear n0_ n1_ n2_ n3_ n4_ n5_; (try clear hb); (try clear hb2); (try clear hk); (try clear hi); have hnb87 := NB303_309.out; have hnc87 := NB309_303.out; have hnb88 := NB303_314.out; have hnc88 := NB314_303.out; have hcz89_0 : w86.cell? ⟨gb303, 0, none⟩ = some (.int .i64 t299) := (blk_cell BK303.out 0).trans rfl; have hcz89_1 : w86.cell? ⟨gb303, 1, none⟩ = some (.int .i64 t300) := (blk_cell BK303.out 1).trans rfl; have hcz89_2 : w86.cell? ⟨gb303, 2, none⟩ = some (.int .i64 t301) := (blk_cell BK303.out 2).trans rfl; have hfz89_0 := blk_frozen BK303.out 0; have hfz89_1 := blk_frozen BK303.out 1; have hfz89_2 := blk_frozen BK303.out 2; have hcz90_0 : w86.cell? ⟨gb297, 0, none⟩ = some (.int .i64 t294) := (blk_cell BK297.out 0).trans rfl; have hcz90_1 : w86.cell? ⟨gb297, 1, none⟩ = some (.int .i64 t295) := (blk_cell BK297.out 1).trans rfl; have hcz90_2 : w86.cell? ⟨gb297, 2, none⟩ = some (.int .i64 t296) := (blk_cell BK297.out 2).trans rfl; have hfz90_0 := blk_frozen BK297.out 0; have hfz90_1 := blk_frozen BK297.out 1; have hfz90_2 := blk_frozen BK297.out 2; have hnb91 := NB309_314.out; have hnc91 := NB314_309.out; have hcz92_0 : w86.cell? ⟨gb309, 0, none⟩ = some (.int .i64 t305) := (blk_cell BK309.out 0).trans rfl; have hcz92_1 : w86.cell? ⟨gb309, 1, none⟩ = some (.int .i64 t306) := (blk_cell BK309.out 1).trans rfl; have hcz92_2 : w86.cell? ⟨gb309, 2, none⟩ = some (.int .i64 t307) := (blk_cell BK309.out 2).trans rfl; have hfz92_0 := blk_frozen BK309.out 0; have hfz92_1 := blk_frozen BK309.out 1; have hfz92_2 := blk_frozen BK309.out 2; have hcz93_0 : w86.cell? ⟨gb314, 0, none⟩ = some (.int .i64 t310) := (blk_cell BK314.out 0).trans rfl; have hcz93_1 : w86.cell? ⟨gb314, 1, none⟩ = some (.int .i64 t311) := (blk_cell BK314.out 1).trans rfl; have hcz93_2 : w86.cell? ⟨gb314, 2, none⟩ = some (.int .i64 t312) := (blk_cell BK314.out 2).trans rfl; have hfz93_0 := blk_frozen BK314.out 0; have hfz93_1 := blk_frozen BK314.out 1; have hfz93_2 := blk_frozen BK314.out 2; have hpc297_0 : w86.cell? ⟨gb297, 0, none⟩ = some (.int .i64 t294) := (blk_cell BK297.out 0).trans rfl; have hpc297_1 : w86.cell? ⟨gb297, 1, none⟩ = some (.int .i64 t295) := (blk_cell BK297.out 1).trans rfl; have hpc297_2 : w86.cell? ⟨gb297, 2, none⟩ = some (.int .i64 t296) := (blk_cell BK297.out 2).trans rfl; have hpc303_0 : w86.cell? ⟨gb303, 0, none⟩ = some (.int .i64 t299) := (blk_cell BK303.out 0).trans rfl; have hpc303_1 : w86.cell? ⟨gb303, 1, none⟩ = some (.int .i64 t300) := (blk_cell BK303.out 1).trans rfl; have hpc303_2 : w86.cell? ⟨gb303, 2, none⟩ = some (.int .i64 t301) := (blk_cell BK303.out 2).trans rfl; have hpc309_0 : w86.cell? ⟨gb309, 0, none⟩ = some (.int .i64 t305) := (blk_cell BK309.out 0).trans rfl; have hpc309_1 : w86.cell? ⟨gb309, 1, none⟩ = some (.int .i64 t306) := (blk_cell BK309.out 1).trans rfl; have hpc309_2 : w86.cell? ⟨gb309, 2, none⟩ = some (.int .i64 t307) := (blk_cell BK309.out 2).trans rfl; have hpc314_0 : w86.cell? ⟨gb314, 0, none⟩ = some (.int .i64 t310) := (blk_cell BK314.out 0).trans rfl; have hpc314_1 : w86.cell? ⟨gb314, 1, none⟩ = some (.int .i64 t311) := (blk_cell BK314.out 1).trans rfl; have hpc314_2 : w86.cell? ⟨gb314, 2, none⟩ = some (.int .i64 t312) := (blk_cell BK314.out 2).trans rfl))
                      go_meet
                      case rel => exact ⟨_, ((t319 != t322)), (by first | rfl | (simp; done) | (simp [*]; done)), H', ⟨by first | omega | exact Nat.le_refl _⟩, ⟨by (with_reducible repeat (first | apply Kd.R_alloc | apply Kd.R_drewN | apply Kd.R_drew)); exact Kd.R_mono HO317.out (fun _ hk => ⟨hk.1.1.1.2, ⟨hk.1.1.2, ⟨hk.1.2, hk.2⟩⟩⟩)⟩, ⟨by (with_reducible repeat (first | refine blk_drewN ?_ _ | refine blk_drew ?_ | refine blk_alloc ?_ _)); exact BK297.out⟩, ⟨by (with_reducible repeat (first | refine blk_drewN ?_ _ | refine blk_drew ?_ | refine blk_alloc ?_ _)); exact BK303.out⟩, ⟨by (with_reducible repeat (first | refine blk_drewN ?_ _ | refine blk_drew ?_ | refine blk_alloc ?_ _)); exact BK309.out⟩, ⟨by (with_reducible repeat (first | refine blk_drewN ?_ _ | refine blk_drew ?_ | refine blk_alloc ?_ _)); exact BK314.out⟩, ⟨by repeat (first | (with_reducible first | exact HB.out | apply below_alloc | apply pw_below_drewN | apply below_drew1 | refine below_set ?_ GE297.out | refine below_set ?_ GE303.out | refine below_set ?_ GE309.out | refine below_set ?_ GE314.out) | exact HB.out)⟩⟩
                    · rw [if_neg c81] at H
                      have c81b0 : (t318 == t321) = false := beq_eq_false_iff_ne.mpr c81
                      have c81b1 : (t318 != t321) = true := bne_iff_ne.mpr c81
                      have H' := Aside0.mk H
                      clear H
                      have hnb94 := NB297_303.out
                      have hnc94 := NB303_297.out
                      have hnb95 := NB297_309.out
                      have hnc95 := NB309_297.out
                      have hnb96 := NB297_314.out
                      have hnc96 := NB314_297.out
                      have hcz97_0 : w37.cell? ⟨gb297, 0, none⟩ = some (.int .i64 t294) := (blk_cell BK297.out 0).trans rfl
                      have hcz97_1 : w37.cell? ⟨gb297, 1, none⟩ = some (.int .i64 t295) := (blk_cell BK297.out 1).trans rfl
                      have hcz97_2 : w37.cell? ⟨gb297, 2, none⟩ = some (.int .i64 t296) := (blk_cell BK297.out 2).trans rfl
                      have hfz97_0 := blk_frozen BK297.out 0
                      have hfz97_1 := blk_frozen BK297.out 1
                      have hfz97_2 := blk_frozen BK297.out 2
                      go_wp2_with (first | ((with_reducible refine gate_callee (f := 15) rfl ?_); refine goesL_ (some 61) rfl rfl Tryd.func15 (by kernel_rfl) rfl #[.agg #[.int .i64 t294, .int .i64 t295, .int .i64 t296]] rfl (by (try simp only [List.map_toArray, List.map_cons, List.map_nil]); first | done | rfl | (simp only [List.length_drop, List.length_take]; rfl)) ?_; (with_reducible refine (spec_ProgressText.calls k t294 t295 t296 t324 _ A38.out).mono ?_); rintro e w98 ⟨rfl, hb⟩; refine ⟨_, rfl, ?_⟩; have n0_ := Aside0.mk (Kd.R_below (by (with_reducible repeat (first | apply Kd.R_alloc | apply Kd.R_drewN | apply Kd.R_drew)); exact HO317.out) hb); have n1_ := Aside0.mk (blk_below (g := gb297) (o := .cells #[.int .i64 t294, .int .i64 t295, .int .i64 t296] 23 (0, 0)) (by (with_reducible repeat (first | refine blk_drewN ?_ _ | refine blk_drew ?_ | refine blk_alloc ?_ _)); exact BK297.out) hb); have n2_ := Aside0.mk (blk_below (g := gb303) (o := .cells #[.int .i64 t299, .int .i64 t300, .int .i64 t301] 23 (0, 0)) (by (with_reducible repeat (first | refine blk_drewN ?_ _ | refine blk_drew ?_ | refine blk_alloc ?_ _)); exact BK303.out) hb); have n3_ := Aside0.mk (blk_below (g := gb309) (o := .cells #[.int .i64 t305, .int .i64 t306, .int .i64 t307] 23 (0, 0)) (by (with_reducible repeat (first | refine blk_drewN ?_ _ | refine blk_drew ?_ | refine blk_alloc ?_ _)); exact BK309.out) hb); have n4_ := Aside0.mk (blk_below (g := gb314) (o := .cells #[.int .i64 t310, .int .i64 t311, .int .i64 t312] 23 (0, 0)) (by (with_reducible repeat (first | refine blk_drewN ?_ _ | refine blk_drew ?_ | refine blk_alloc ?_ _)); exact BK314.out) hb); have n5_ := Aside0.mk (below_step (by repeat (first | (with_reducible first | exact HB.out | apply below_alloc | apply pw_below_drewN | apply below_drew1 | refine below_set ?_ GE297.out | refine below_set ?_ GE303.out | refine below_set ?_ GE309.out | refine below_set ?_ GE314.out) | exact HB.out)) hb); clear HO317; clear BK297; clear BK303; clear BK309; clear BK314; clear HB; have HO317 := n0_; have BK297 := n1_; have BK303 := n2_; have BK309 := n3_; have BK314 := n4_; have HB := n5_; clear n0_ n1_ n2_ n3_ n4_ n5_; (try clear hb); (try clear hb2); (try clear hk); (try clear hi); have hnb99 := NB303_309.out; have hnc99 := NB309_303.out; have hnb100 := NB303_314.out; have hnc100 := NB314_303.out; have hcz101_0 : w98.cell? ⟨gb303, 0, none⟩ = some (.int .i64 t299) := (blk_cell BK303.out 0).trans rfl; have hcz101_1 : w98.cell? ⟨gb303, 1, none⟩ = some (.int .i64 t300) := (blk_cell BK303.out 1).trans rfl; have hcz101_2 : w98.cell? ⟨gb303, 2, none⟩ = some (.int .i64 t301) := (blk_cell BK303.out 2).trans rfl; have hfz101_0 := blk_frozen BK303.out 0; have hfz101_1 := blk_frozen BK303.out 1; have hfz101_2 := blk_frozen BK303.out 2; have hcz102_0 : w98.cell? ⟨gb297, 0, none⟩ = some (.int .i64 t294) := (blk_cell BK297.out 0).trans rfl; have hcz102_1 : w98.cell? ⟨gb297, 1, none⟩ = some (.int .i64 t295) := (blk_cell BK297.out 1).trans rfl; have hcz102_2 : w98.cell? ⟨gb297, 2, none⟩ = some (.int .i64 t296) := (blk_cell BK297.out 2).trans rfl; have hfz102_0 := blk_frozen BK297.out 0; have hfz102_1 := blk_frozen BK297.out 1; have hfz102_2 := blk_frozen BK297.out 2; have hnb103 := NB309_314.out; have hnc103 := NB314_309.out; have hcz104_0 : w98.cell? ⟨gb309, 0, none⟩ = some (.int .i64 t305) := (blk_cell BK309.out 0).trans rfl; have hcz104_1 : w98.cell? ⟨gb309, 1, none⟩ = some (.int .i64 t306) := (blk_cell BK309.out 1).trans rfl; have hcz104_2 : w98.cell? ⟨gb309, 2, none⟩ = some (.int .i64 t307) := (blk_cell BK309.out 2).trans rfl; have hfz104_0 := blk_frozen BK309.out 0; have hfz104_1 := blk_frozen BK309.out 1; have hfz104_2 := blk_frozen BK309.out 2; have hcz105_0 : w98.cell? ⟨gb314, 0, none⟩ = some (.int .i64 t310) := (blk_cell BK314.out 0).trans rfl; have hcz105_1 : w98.cell? ⟨gb314, 1, none⟩ = some (.int .i64 t311) := (blk_cell BK314.out 1).trans rfl; have hcz105_2 : w98.cell? ⟨gb314, 2, none⟩ = some (.int .i64 t312) := (blk_cell BK314.out 2).trans rfl; have hfz105_0 := blk_frozen BK314.out 0; have hfz105_1 := blk_frozen BK314.out 1; have hfz105_2 := blk_frozen BK314.out 2; have hpc297_0 : w98.cell? ⟨gb297, 0, none⟩ = some (.int .i64 t294) := (blk_cell BK297.out 0).trans rfl; have hpc297_1 : w98.cell? ⟨gb297, 1, none⟩ = some (.int .i64 t295) := (blk_cell BK297.out 1).trans rfl; have hpc297_2 : w98.cell? ⟨gb297, 2, none⟩ = some (.int .i64 t296) := (blk_cell BK297.out 2).trans rfl; have hpc303_0 : w98.cell? ⟨gb303, 0, none⟩ = some (.int .i64 t299) := (blk_cell BK303.out 0).trans rfl; have hpc303_1 : w98.cell? ⟨gb303, 1, none⟩ = some (.int .i64 t300) := (blk_cell BK303.out 1).trans rfl; have hpc303_2 : w98.cell? ⟨gb303, 2, none⟩ = some (.int .i64 t301) := (blk_cell BK303.out 2).trans rfl; have hpc309_0 : w98.cell? ⟨gb309, 0, none⟩ = some (.int .i64 t305) := (blk_cell BK309.out 0).trans rfl; have hpc309_1 : w98.cell? ⟨gb309, 1, none⟩ = some (.int .i64 t306) := (blk_cell BK309.out 1).trans rfl; have hpc309_2 : w98.cell? ⟨gb309, 2, none⟩ = some (.int .i64 t307) := (blk_cell BK309.out 2).trans rfl; have hpc314_0 : w98.cell? ⟨gb314, 0, none⟩ = some (.int .i64 t310) := (blk_cell BK314.out 0).trans rfl; have hpc314_1 : w98.cell? ⟨gb314, 1, none⟩ = some (.int .i64 t311) := (blk_cell BK314.out 1).trans rfl; have hpc314_2 : w98.cell? ⟨gb314, 2, none⟩ = some (.int .i64 t312) := (blk_cell BK314.out 2).trans rfl))
                      go_meet
                      case rel => exact ⟨_, (true), (by first | rfl | (simp; done) | (simp [*]; done)), H', ⟨by first | omega | exact Nat.le_refl _⟩, ⟨by (with_reducible repeat (first | apply Kd.R_alloc | apply Kd.R_drewN | apply Kd.R_drew)); exact Kd.R_mono HO317.out (fun _ hk => ⟨hk.1.1.1.2, ⟨hk.1.1.2, ⟨hk.1.2, hk.2⟩⟩⟩)⟩, ⟨by (with_reducible repeat (first | refine blk_drewN ?_ _ | refine blk_drew ?_ | refine blk_alloc ?_ _)); exact BK297.out⟩, ⟨by (with_reducible repeat (first | refine blk_drewN ?_ _ | refine blk_drew ?_ | refine blk_alloc ?_ _)); exact BK303.out⟩, ⟨by (with_reducible repeat (first | refine blk_drewN ?_ _ | refine blk_drew ?_ | refine blk_alloc ?_ _)); exact BK309.out⟩, ⟨by (with_reducible repeat (first | refine blk_drewN ?_ _ | refine blk_drew ?_ | refine blk_alloc ?_ _)); exact BK314.out⟩, ⟨by repeat (first | (with_reducible first | exact HB.out | apply below_alloc | apply pw_below_drewN | apply below_drew1 | refine below_set ?_ GE297.out | refine below_set ?_ GE303.out | refine below_set ?_ GE309.out | refine below_set ?_ GE314.out) | exact HB.out)⟩⟩
                  · rw [if_neg c80] at H
                    have c80b0 : (t320 == t323) = false := beq_eq_false_iff_ne.mpr c80
                    have c80b1 : (t320 != t323) = true := bne_iff_ne.mpr c80
                    have H' := Aside0.mk H
                    clear H
                    have hnb106 := NB297_303.out
                    have hnc106 := NB303_297.out
                    have hnb107 := NB297_309.out
                    have hnc107 := NB309_297.out
                    have hnb108 := NB297_314.out
                    have hnc108 := NB314_297.out
                    have hcz109_0 : w37.cell? ⟨gb297, 0, none⟩ = some (.int .i64 t294) := (blk_cell BK297.out 0).trans rfl
                    have hcz109_1 : w37.cell? ⟨gb297, 1, none⟩ = some (.int .i64 t295) := (blk_cell BK297.out 1).trans rfl
                    have hcz109_2 : w37.cell? ⟨gb297, 2, none⟩ = some (.int .i64 t296) := (blk_cell BK297.out 2).trans rfl
                    have hfz109_0 := blk_frozen BK297.out 0
                    have hfz109_1 := blk_frozen BK297.out 1
                    have hfz109_2 := blk_frozen BK297.out 2
                    go_wp2_with (first | ((with_reducible refine gate_callee (f := 15) rfl ?_); refine goesL_ (some 61) rfl rfl Tryd.func15 (by kernel_rfl) rfl #[.agg #[.int .i64 t294, .int .i64 t295, .int .i64 t296]] rfl (by (try simp only [List.map_toArray, List.map_cons, List.map_nil]); first | done | rfl | (simp only [List.length_drop, List.length_take]; rfl)) ?_; (with_reducible refine (spec_ProgressText.calls k t294 t295 t296 t324 _ A38.out).mono ?_); rintro e w110 ⟨rfl, hb⟩; refine ⟨_, rfl, ?_⟩; have n0_ := Aside0.mk (Kd.R_below (by (with_reducible repeat (first | apply Kd.R_alloc | apply Kd.R_drewN | apply Kd.R_drew)); exact HO317.out) hb); have n1_ := Aside0.mk (blk_below (g := gb297) (o := .cells #[.int .i64 t294, .int .i64 t295, .int .i64 t296] 23 (0, 0)) (by (with_reducible repeat (first | refine blk_drewN ?_ _ | refine blk_drew ?_ | refine blk_alloc ?_ _)); exact BK297.out) hb); have n2_ := Aside0.mk (blk_below (g := gb303) (o := .cells #[.int .i64 t299, .int .i64 t300, .int .i64 t301] 23 (0, 0)) (by (with_reducible repeat (first | refine blk_drewN ?_ _ | refine blk_drew ?_ | refine blk_alloc ?_ _)); exact BK303.out) hb); have n3_ := Aside0.mk (blk_below (g := gb309) (o := .cells #[.int .i64 t305, .int .i64 t306, .int .i64 t307] 23 (0, 0)) (by (with_reducible repeat (first | refine blk_drewN ?_ _ | refine blk_drew ?_ | refine blk_alloc ?_ _)); exact BK309.out) hb); have n4_ := Aside0.mk (blk_below (g := gb314) (o := .cells #[.int .i64 t310, .int .i64 t311, .int .i64 t312] 23 (0, 0)) (by (with_reducible repeat (first | refine blk_drewN ?_ _ | refine blk_drew ?_ | refine blk_alloc ?_ _)); exact BK314.out) hb); have n5_ := Aside0.mk (below_step (by repeat (first | (with_reducible first | exact HB.out | apply below_alloc | apply pw_below_drewN | apply below_drew1 | refine below_set ?_ GE297.out | refine below_set ?_ GE303.out | refine below_set ?_ GE309.out | refine below_set ?_ GE314.out) | exact HB.out)) hb); clear HO317; clear BK297; clear BK303; clear BK309; clear BK314; clear HB; have HO317 := n0_; have BK297 := n1_; have BK303 := n2_; have BK309 := n3_; have BK314 := n4_; have HB := n5_; clear n0_ n1_ n2_ n3_ n4_ n5_; (try clear hb); (try clear hb2); (try clear hk); (try clear hi); have hnb111 := NB303_309.out; have hnc111 := NB309_303.out; have hnb112 := NB303_314.out; have hnc112 := NB314_303.out; have hcz113_0 : w110.cell? ⟨gb303, 0, none⟩ = some (.int .i64 t299) := (blk_cell BK303.out 0).trans rfl; have hcz113_1 : w110.cell? ⟨gb303, 1, none⟩ = some (.int .i64 t300) := (blk_cell BK303.out 1).trans rfl; have hcz113_2 : w110.cell? ⟨gb303, 2, none⟩ = some (.int .i64 t301) := (blk_cell BK303.out 2).trans rfl; have hfz113_0 := blk_frozen BK303.out 0; have hfz113_1 := blk_frozen BK303.out 1; have hfz113_2 := blk_frozen BK303.out 2; have hcz114_0 : w110.cell? ⟨gb297, 0, none⟩ = some (.int .i64 t294) := (blk_cell BK297.out 0).trans rfl; have hcz114_1 : w110.cell? ⟨gb297, 1, none⟩ = some (.int .i64 t295) := (blk_cell BK297.out 1).trans rfl; have hcz114_2 : w110.cell? ⟨gb297, 2, none⟩ = some (.int .i64 t296) := (blk_cell BK297.out 2).trans rfl; have hfz114_0 := blk_frozen BK297.out 0; have hfz114_1 := blk_frozen BK297.out 1; have hfz114_2 := blk_frozen BK297.out 2; have hnb115 := NB309_314.out; have hnc115 := NB314_309.out; have hcz116_0 : w110.cell? ⟨gb309, 0, none⟩ = some (.int .i64 t305) := (blk_cell BK309.out 0).trans rfl; have hcz116_1 : w110.cell? ⟨gb309, 1, none⟩ = some (.int .i64 t306) := (blk_cell BK309.out 1).trans rfl; have hcz116_2 : w110.cell? ⟨gb309, 2, none⟩ = some (.int .i64 t307) := (blk_cell BK309.out 2).trans rfl; have hfz116_0 := blk_frozen BK309.out 0; have hfz116_1 := blk_frozen BK309.out 1; have hfz116_2 := blk_frozen BK309.out 2; have hcz117_0 : w110.cell? ⟨gb314, 0, none⟩ = some (.int .i64 t310) := (blk_cell BK314.out 0).trans rfl; have hcz117_1 : w110.cell? ⟨gb314, 1, none⟩ = some (.int .i64 t311) := (blk_cell BK314.out 1).trans rfl; have hcz117_2 : w110.cell? ⟨gb314, 2, none⟩ = some (.int .i64 t312) := (blk_cell BK314.out 2).trans rfl; have hfz117_0 := blk_frozen BK314.out 0; have hfz117_1 := blk_frozen BK314.out 1; have hfz117_2 := blk_frozen BK314.out 2; have hpc297_0 : w110.cell? ⟨gb297, 0, none⟩ = some (.int .i64 t294) := (blk_cell BK297.out 0).trans rfl; have hpc297_1 : w110.cell? ⟨gb297, 1, none⟩ = some (.int .i64 t295) := (blk_cell BK297.out 1).trans rfl; have hpc297_2 : w110.cell? ⟨gb297, 2, none⟩ = some (.int .i64 t296) := (blk_cell BK297.out 2).trans rfl; have hpc303_0 : w110.cell? ⟨gb303, 0, none⟩ = some (.int .i64 t299) := (blk_cell BK303.out 0).trans rfl; have hpc303_1 : w110.cell? ⟨gb303, 1, none⟩ = some (.int .i64 t300) := (blk_cell BK303.out 1).trans rfl; have hpc303_2 : w110.cell? ⟨gb303, 2, none⟩ = some (.int .i64 t301) := (blk_cell BK303.out 2).trans rfl; have hpc309_0 : w110.cell? ⟨gb309, 0, none⟩ = some (.int .i64 t305) := (blk_cell BK309.out 0).trans rfl; have hpc309_1 : w110.cell? ⟨gb309, 1, none⟩ = some (.int .i64 t306) := (blk_cell BK309.out 1).trans rfl; have hpc309_2 : w110.cell? ⟨gb309, 2, none⟩ = some (.int .i64 t307) := (blk_cell BK309.out 2).trans rfl; have hpc314_0 : w110.cell? ⟨gb314, 0, none⟩ = some (.int .i64 t310) := (blk_cell BK314.out 0).trans rfl; have hpc314_1 : w110.cell? ⟨gb314, 1, none⟩ = some (.int .i64 t311) := (blk_cell BK314.out 1).trans rfl; have hpc314_2 : w110.cell? ⟨gb314, 2, none⟩ = some (.int .i64 t312) := (blk_cell BK314.out 2).trans rfl))
                    go_meet
                    case rel => exact ⟨_, (true), (by first | rfl | (simp; done) | (simp [*]; done)), H', ⟨by first | omega | exact Nat.le_refl _⟩, ⟨by (with_reducible repeat (first | apply Kd.R_alloc | apply Kd.R_drewN | apply Kd.R_drew)); exact Kd.R_mono HO317.out (fun _ hk => ⟨hk.1.1.1.2, ⟨hk.1.1.2, ⟨hk.1.2, hk.2⟩⟩⟩)⟩, ⟨by (with_reducible repeat (first | refine blk_drewN ?_ _ | refine blk_drew ?_ | refine blk_alloc ?_ _)); exact BK297.out⟩, ⟨by (with_reducible repeat (first | refine blk_drewN ?_ _ | refine blk_drew ?_ | refine blk_alloc ?_ _)); exact BK303.out⟩, ⟨by (with_reducible repeat (first | refine blk_drewN ?_ _ | refine blk_drew ?_ | refine blk_alloc ?_ _)); exact BK309.out⟩, ⟨by (with_reducible repeat (first | refine blk_drewN ?_ _ | refine blk_drew ?_ | refine blk_alloc ?_ _)); exact BK314.out⟩, ⟨by repeat (first | (with_reducible first | exact HB.out | apply below_alloc | apply pw_below_drewN | apply below_drew1 | refine below_set ?_ GE297.out | refine below_set ?_ GE303.out | refine below_set ?_ GE309.out | refine below_set ?_ GE314.out) | exact HB.out)⟩⟩
          · replace c46 := Bool.eq_false_iff.mpr c46
            subst c46
            have H1 : (if (t308 != t313) = true then (laws_FnProgress.j0 k t315 t318 t319 t320 true) else (if (!(t305 == t310) || (!(t306 == t311) || (!(t307 == t312)))) = true then (laws_FnProgress.j0 k t315 t318 t319 t320 true) else (if t320 = t323 then (if t318 = t321 then (laws_FnProgress.j0 k t315 t318 t319 t320 (t319 != t322)) else (laws_FnProgress.j0 k t315 t318 t319 t320 true)) else (laws_FnProgress.j0 k t315 t318 t319 t320 true)))) = some r := by rw [if_neg (show ¬ (false = true) by decide)] at H; exact H
            clear H
            have H := H1
            clear H1
            by_cases c118 : (t308 != t313) = true
            · rw [if_pos c118] at H
              have c118b0 : (t308 != t313) = true := c118
              (try (have c118b1 : decide (t308 = t313) = false := by simpa using c118))
              (try (have c118b2 : (t308 == t313) = false := by simpa using c118))
              (try (have c118b3 : ¬ (t308 = t313) := by simpa using c118))
              clear c118
              have H' := Aside0.mk H
              clear H
              have hnb119 := NB297_303.out
              have hnc119 := NB303_297.out
              have hnb120 := NB297_309.out
              have hnc120 := NB309_297.out
              have hnb121 := NB297_314.out
              have hnc121 := NB314_297.out
              have hcz122_0 : w37.cell? ⟨gb297, 0, none⟩ = some (.int .i64 t294) := (blk_cell BK297.out 0).trans rfl
              have hcz122_1 : w37.cell? ⟨gb297, 1, none⟩ = some (.int .i64 t295) := (blk_cell BK297.out 1).trans rfl
              have hcz122_2 : w37.cell? ⟨gb297, 2, none⟩ = some (.int .i64 t296) := (blk_cell BK297.out 2).trans rfl
              have hfz122_0 := blk_frozen BK297.out 0
              have hfz122_1 := blk_frozen BK297.out 1
              have hfz122_2 := blk_frozen BK297.out 2
              go_wp2_with (first | ((with_reducible refine gate_callee (f := 15) rfl ?_); refine goesL_ (some 61) rfl rfl Tryd.func15 (by kernel_rfl) rfl #[.agg #[.int .i64 t294, .int .i64 t295, .int .i64 t296]] rfl (by (try simp only [List.map_toArray, List.map_cons, List.map_nil]); first | done | rfl | (simp only [List.length_drop, List.length_take]; rfl)) ?_; (with_reducible refine (spec_ProgressText.calls k t294 t295 t296 t324 _ A38.out).mono ?_); rintro e w123 ⟨rfl, hb⟩; refine ⟨_, rfl, ?_⟩; have n0_ := Aside0.mk (Kd.R_below (by (with_reducible repeat (first | apply Kd.R_alloc | apply Kd.R_drewN | apply Kd.R_drew)); exact HO317.out) hb); have n1_ := Aside0.mk (blk_below (g := gb297) (o := .cells #[.int .i64 t294, .int .i64 t295, .int .i64 t296] 23 (0, 0)) (by (with_reducible repeat (first | refine blk_drewN ?_ _ | refine blk_drew ?_ | refine blk_alloc ?_ _)); exact BK297.out) hb); have n2_ := Aside0.mk (blk_below (g := gb303) (o := .cells #[.int .i64 t299, .int .i64 t300, .int .i64 t301] 23 (0, 0)) (by (with_reducible repeat (first | refine blk_drewN ?_ _ | refine blk_drew ?_ | refine blk_alloc ?_ _)); exact BK303.out) hb); have n3_ := Aside0.mk (blk_below (g := gb309) (o := .cells #[.int .i64 t305, .int .i64 t306, .int .i64 t307] 23 (0, 0)) (by (with_reducible repeat (first | refine blk_drewN ?_ _ | refine blk_drew ?_ | refine blk_alloc ?_ _)); exact BK309.out) hb); have n4_ := Aside0.mk (blk_below (g := gb314) (o := .cells #[.int .i64 t310, .int .i64 t311, .int .i64 t312] 23 (0, 0)) (by (with_reducible repeat (first | refine blk_drewN ?_ _ | refine blk_drew ?_ | refine blk_alloc ?_ _)); exact BK314.out) hb); have n5_ := Aside0.mk (below_step (by repeat (first | (with_reducible first | exact HB.out | apply below_alloc | apply pw_below_drewN | apply below_drew1 | refine below_set ?_ GE297.out | refine below_set ?_ GE303.out | refine below_set ?_ GE309.out | refine below_set ?_ GE314.out) | exact HB.out)) hb); clear HO317; clear BK297; clear BK303; clear BK309; clear BK314; clear HB; have HO317 := n0_; have BK297 := n1_; have BK303 := n2_; have BK309 := n3_; have BK314 := n4_; have HB := n5_; clear n0_ n1_ n2_ n3_ n4_ n5_; (try clear hb); (try clear hb2); (try clear hk); (try clear hi); have hpc297_0 : w123.cell? ⟨gb297, 0, none⟩ = some (.int .i64 t294) := (blk_cell BK297.out 0).trans rfl; have hpc297_1 : w123.cell? ⟨gb297, 1, none⟩ = some (.int .i64 t295) := (blk_cell BK297.out 1).trans rfl; have hpc297_2 : w123.cell? ⟨gb297, 2, none⟩ = some (.int .i64 t296) := (blk_cell BK297.out 2).trans rfl; have hpc303_0 : w123.cell? ⟨gb303, 0, none⟩ = some (.int .i64 t299) := (blk_cell BK303.out 0).trans rfl; have hpc303_1 : w123.cell? ⟨gb303, 1, none⟩ = some (.int .i64 t300) := (blk_cell BK303.out 1).trans rfl; have hpc303_2 : w123.cell? ⟨gb303, 2, none⟩ = some (.int .i64 t301) := (blk_cell BK303.out 2).trans rfl; have hpc309_0 : w123.cell? ⟨gb309, 0, none⟩ = some (.int .i64 t305) := (blk_cell BK309.out 0).trans rfl; have hpc309_1 : w123.cell? ⟨gb309, 1, none⟩ = some (.int .i64 t306) := (blk_cell BK309.out 1).trans rfl; have hpc309_2 : w123.cell? ⟨gb309, 2, none⟩ = some (.int .i64 t307) := (blk_cell BK309.out 2).trans rfl; have hpc314_0 : w123.cell? ⟨gb314, 0, none⟩ = some (.int .i64 t310) := (blk_cell BK314.out 0).trans rfl; have hpc314_1 : w123.cell? ⟨gb314, 1, none⟩ = some (.int .i64 t311) := (blk_cell BK314.out 1).trans rfl; have hpc314_2 : w123.cell? ⟨gb314, 2, none⟩ = some (.int .i64 t312) := (blk_cell BK314.out 2).trans rfl))
              go_meet
              case rel => exact ⟨_, (true), (by first | rfl | (simp; done) | (simp [*]; done)), H', ⟨by first | omega | exact Nat.le_refl _⟩, ⟨by (with_reducible repeat (first | apply Kd.R_alloc | apply Kd.R_drewN | apply Kd.R_drew)); exact Kd.R_mono HO317.out (fun _ hk => ⟨hk.1.1.1.2, ⟨hk.1.1.2, ⟨hk.1.2, hk.2⟩⟩⟩)⟩, ⟨by (with_reducible repeat (first | refine blk_drewN ?_ _ | refine blk_drew ?_ | refine blk_alloc ?_ _)); exact BK297.out⟩, ⟨by (with_reducible repeat (first | refine blk_drewN ?_ _ | refine blk_drew ?_ | refine blk_alloc ?_ _)); exact BK303.out⟩, ⟨by (with_reducible repeat (first | refine blk_drewN ?_ _ | refine blk_drew ?_ | refine blk_alloc ?_ _)); exact BK309.out⟩, ⟨by (with_reducible repeat (first | refine blk_drewN ?_ _ | refine blk_drew ?_ | refine blk_alloc ?_ _)); exact BK314.out⟩, ⟨by repeat (first | (with_reducible first | exact HB.out | apply below_alloc | apply pw_below_drewN | apply below_drew1 | refine below_set ?_ GE297.out | refine below_set ?_ GE303.out | refine below_set ?_ GE309.out | refine below_set ?_ GE314.out) | exact HB.out)⟩⟩
            · rw [if_neg c118] at H
              have c118b0 : (t308 != t313) = false := by simpa using c118
              (try (have c118b1 : decide (t308 = t313) = true := by simpa using c118))
              (try (have c118b2 : (t308 == t313) = true := by simpa using c118))
              clear c118
              by_cases c124 : (!(t305 == t310) || (!(t306 == t311) || (!(t307 == t312)))) = true
              · rw [if_pos c124] at H
                have c124b0 : (!(t305 == t310) || (!(t306 == t311) || (!(t307 == t312)))) = true := c124
                clear c124
                have H' := Aside0.mk H
                clear H
                have hnb125 := NB297_303.out
                have hnc125 := NB303_297.out
                have hnb126 := NB297_309.out
                have hnc126 := NB309_297.out
                have hnb127 := NB297_314.out
                have hnc127 := NB314_297.out
                have hcz128_0 : w37.cell? ⟨gb297, 0, none⟩ = some (.int .i64 t294) := (blk_cell BK297.out 0).trans rfl
                have hcz128_1 : w37.cell? ⟨gb297, 1, none⟩ = some (.int .i64 t295) := (blk_cell BK297.out 1).trans rfl
                have hcz128_2 : w37.cell? ⟨gb297, 2, none⟩ = some (.int .i64 t296) := (blk_cell BK297.out 2).trans rfl
                have hfz128_0 := blk_frozen BK297.out 0
                have hfz128_1 := blk_frozen BK297.out 1
                have hfz128_2 := blk_frozen BK297.out 2
                go_wp2_with (first | ((with_reducible refine gate_callee (f := 15) rfl ?_); refine goesL_ (some 61) rfl rfl Tryd.func15 (by kernel_rfl) rfl #[.agg #[.int .i64 t294, .int .i64 t295, .int .i64 t296]] rfl (by (try simp only [List.map_toArray, List.map_cons, List.map_nil]); first | done | rfl | (simp only [List.length_drop, List.length_take]; rfl)) ?_; (with_reducible refine (spec_ProgressText.calls k t294 t295 t296 t324 _ A38.out).mono ?_); rintro e w129 ⟨rfl, hb⟩; refine ⟨_, rfl, ?_⟩; have n0_ := Aside0.mk (Kd.R_below (by (with_reducible repeat (first | apply Kd.R_alloc | apply Kd.R_drewN | apply Kd.R_drew)); exact HO317.out) hb); have n1_ := Aside0.mk (blk_below (g := gb297) (o := .cells #[.int .i64 t294, .int .i64 t295, .int .i64 t296] 23 (0, 0)) (by (with_reducible repeat (first | refine blk_drewN ?_ _ | refine blk_drew ?_ | refine blk_alloc ?_ _)); exact BK297.out) hb); have n2_ := Aside0.mk (blk_below (g := gb303) (o := .cells #[.int .i64 t299, .int .i64 t300, .int .i64 t301] 23 (0, 0)) (by (with_reducible repeat (first | refine blk_drewN ?_ _ | refine blk_drew ?_ | refine blk_alloc ?_ _)); exact BK303.out) hb); have n3_ := Aside0.mk (blk_below (g := gb309) (o := .cells #[.int .i64 t305, .int .i64 t306, .int .i64 t307] 23 (0, 0)) (by (with_reducible repeat (first | refine blk_drewN ?_ _ | refine blk_drew ?_ | refine blk_alloc ?_ _)); exact BK309.out) hb); have n4_ := Aside0.mk (blk_below (g := gb314) (o := .cells #[.int .i64 t310, .int .i64 t311, .int .i64 t312] 23 (0, 0)) (by (with_reducible repeat (first | refine blk_drewN ?_ _ | refine blk_drew ?_ | refine blk_alloc ?_ _)); exact BK314.out) hb); have n5_ := Aside0.mk (below_step (by repeat (first | (with_reducible first | exact HB.out | apply below_alloc | apply pw_below_drewN | apply below_drew1 | refine below_set ?_ GE297.out | refine below_set ?_ GE303.out | refine below_set ?_ GE309.out | refine below_set ?_ GE314.out) | exact HB.out)) hb); clear HO317; clear BK297; clear BK303; clear BK309; clear BK314; clear HB; have HO317 := n0_; have BK297 := n1_; have BK303 := n2_; have BK309 := n3_; have BK314 := n4_; have HB := n5_; clear n0_ n1_ n2_ n3_ n4_ n5_; (try clear hb); (try clear hb2); (try clear hk); (try clear hi); have hnb130 := NB309_303.out; have hnc130 := NB303_309.out; have hnb131 := NB309_314.out; have hnc131 := NB314_309.out; have hcz132_0 : w129.cell? ⟨gb309, 0, none⟩ = some (.int .i64 t305) := (blk_cell BK309.out 0).trans rfl; have hcz132_1 : w129.cell? ⟨gb309, 1, none⟩ = some (.int .i64 t306) := (blk_cell BK309.out 1).trans rfl; have hcz132_2 : w129.cell? ⟨gb309, 2, none⟩ = some (.int .i64 t307) := (blk_cell BK309.out 2).trans rfl; have hfz132_0 := blk_frozen BK309.out 0; have hfz132_1 := blk_frozen BK309.out 1; have hfz132_2 := blk_frozen BK309.out 2; have hnb133 := NB314_303.out; have hnc133 := NB303_314.out; have hcz134_0 : w129.cell? ⟨gb314, 0, none⟩ = some (.int .i64 t310) := (blk_cell BK314.out 0).trans rfl; have hcz134_1 : w129.cell? ⟨gb314, 1, none⟩ = some (.int .i64 t311) := (blk_cell BK314.out 1).trans rfl; have hcz134_2 : w129.cell? ⟨gb314, 2, none⟩ = some (.int .i64 t312) := (blk_cell BK314.out 2).trans rfl; have hfz134_0 := blk_frozen BK314.out 0; have hfz134_1 := blk_frozen BK314.out 1; have hfz134_2 := blk_frozen BK314.out 2; have hpc297_0 : w129.cell? ⟨gb297, 0, none⟩ = some (.int .i64 t294) := (blk_cell BK297.out 0).trans rfl; have hpc297_1 : w129.cell? ⟨gb297, 1, none⟩ = some (.int .i64 t295) := (blk_cell BK297.out 1).trans rfl; have hpc297_2 : w129.cell? ⟨gb297, 2, none⟩ = some (.int .i64 t296) := (blk_cell BK297.out 2).trans rfl; have hpc303_0 : w129.cell? ⟨gb303, 0, none⟩ = some (.int .i64 t299) := (blk_cell BK303.out 0).trans rfl; have hpc303_1 : w129.cell? ⟨gb303, 1, none⟩ = some (.int .i64 t300) := (blk_cell BK303.out 1).trans rfl; have hpc303_2 : w129.cell? ⟨gb303, 2, none⟩ = some (.int .i64 t301) := (blk_cell BK303.out 2).trans rfl; have hpc309_0 : w129.cell? ⟨gb309, 0, none⟩ = some (.int .i64 t305) := (blk_cell BK309.out 0).trans rfl; have hpc309_1 : w129.cell? ⟨gb309, 1, none⟩ = some (.int .i64 t306) := (blk_cell BK309.out 1).trans rfl; have hpc309_2 : w129.cell? ⟨gb309, 2, none⟩ = some (.int .i64 t307) := (blk_cell BK309.out 2).trans rfl; have hpc314_0 : w129.cell? ⟨gb314, 0, none⟩ = some (.int .i64 t310) := (blk_cell BK314.out 0).trans rfl; have hpc314_1 : w129.cell? ⟨gb314, 1, none⟩ = some (.int .i64 t311) := (blk_cell BK314.out 1).trans rfl; have hpc314_2 : w129.cell? ⟨gb314, 2, none⟩ = some (.int .i64 t312) := (blk_cell BK314.out 2).trans rfl))
                go_meet
                case rel => exact ⟨_, (true), (by first | rfl | (simp; done) | (simp [*]; done)), H', ⟨by first | omega | exact Nat.le_refl _⟩, ⟨by (with_reducible repeat (first | apply Kd.R_alloc | apply Kd.R_drewN | apply Kd.R_drew)); exact Kd.R_mono HO317.out (fun _ hk => ⟨hk.1.1.1.2, ⟨hk.1.1.2, ⟨hk.1.2, hk.2⟩⟩⟩)⟩, ⟨by (with_reducible repeat (first | refine blk_drewN ?_ _ | refine blk_drew ?_ | refine blk_alloc ?_ _)); exact BK297.out⟩, ⟨by (with_reducible repeat (first | refine blk_drewN ?_ _ | refine blk_drew ?_ | refine blk_alloc ?_ _)); exact BK303.out⟩, ⟨by (with_reducible repeat (first | refine blk_drewN ?_ _ | refine blk_drew ?_ | refine blk_alloc ?_ _)); exact BK309.out⟩, ⟨by (with_reducible repeat (first | refine blk_drewN ?_ _ | refine blk_drew ?_ | refine blk_alloc ?_ _)); exact BK314.out⟩, ⟨by repeat (first | (with_reducible first | exact HB.out | apply below_alloc | apply pw_below_drewN | apply below_drew1 | refine below_set ?_ GE297.out | refine below_set ?_ GE303.out | refine below_set ?_ GE309.out | refine below_set ?_ GE314.out) | exact HB.out)⟩⟩
              · rw [if_neg c124] at H
                have c124b0 : (!(t305 == t310) || (!(t306 == t311) || (!(t307 == t312)))) = false := by simpa using c124
                clear c124
                by_cases c135 : t320 = t323
                · rw [if_pos c135] at H
                  have c135b0 : (t320 == t323) = true := beq_iff_eq.mpr c135
                  have c135b1 : (t320 != t323) = false := bne_eq_false_iff_eq.mpr c135
                  clear c135
                  by_cases c136 : t318 = t321
                  · rw [if_pos c136] at H
                    have c136b0 : (t318 == t321) = true := beq_iff_eq.mpr c136
                    have c136b1 : (t318 != t321) = false := bne_eq_false_iff_eq.mpr c136
                    clear c136
                    have H' := Aside0.mk H
                    clear H
                    have hnb137 := NB297_303.out
                    have hnc137 := NB303_297.out
                    have hnb138 := NB297_309.out
                    have hnc138 := NB309_297.out
                    have hnb139 := NB297_314.out
                    have hnc139 := NB314_297.out
                    have hcz140_0 : w37.cell? ⟨gb297, 0, none⟩ = some (.int .i64 t294) := (blk_cell BK297.out 0).trans rfl
                    have hcz140_1 : w37.cell? ⟨gb297, 1, none⟩ = some (.int .i64 t295) := (blk_cell BK297.out 1).trans rfl
                    have hcz140_2 : w37.cell? ⟨gb297, 2, none⟩ = some (.int .i64 t296) := (blk_cell BK297.out 2).trans rfl
                    have hfz140_0 := blk_frozen BK297.out 0
                    have hfz140_1 := blk_frozen BK297.out 1
                    have hfz140_2 := blk_frozen BK297.out 2
                    go_wp2_with (first | ((with_reducible refine gate_callee (f := 15) rfl ?_); refine goesL_ (some 61) rfl rfl Tryd.func15 (by kernel_rfl) rfl #[.agg #[.int .i64 t294, .int .i64 t295, .int .i64 t296]] rfl (by (try simp only [List.map_toArray, List.map_cons, List.map_nil]); first | done | rfl | (simp only [List.length_drop, List.length_take]; rfl)) ?_; (with_reducible refine (spec_ProgressText.calls k t294 t295 t296 t324 _ A38.out).mono ?_); rintro e w141 ⟨rfl, hb⟩; refine ⟨_, rfl, ?_⟩; have n0_ := Aside0.mk (Kd.R_below (by (with_reducible repeat (first | apply Kd.R_alloc | apply Kd.R_drewN | apply Kd.R_drew)); exact HO317.out) hb); have n1_ := Aside0.mk (blk_below (g := gb297) (o := .cells #[.int .i64 t294, .int .i64 t295, .int .i64 t296] 23 (0, 0)) (by (with_reducible repeat (first | refine blk_drewN ?_ _ | refine blk_drew ?_ | refine blk_alloc ?_ _)); exact BK297.out) hb); have n2_ := Aside0.mk (blk_below (g := gb303) (o := .cells #[.int .i64 t299, .int .i64 t300, .int .i64 t301] 23 (0, 0)) (by (with_reducible repeat (first | refine blk_drewN ?_ _ | refine blk_drew ?_ | refine blk_alloc ?_ _)); exact BK303.out) hb); have n3_ := Aside0.mk (blk_below (g := gb309) (o := .cells #[.int .i64 t305, .int .i64 t306, .int .i64 t307] 23 (0, 0)) (by (with_reducible repeat (first | refine blk_drewN ?_ _ | refine blk_drew ?_ | refine blk_alloc ?_ _)); exact BK309.out) hb); have n4_ := Aside0.mk (blk_below (g := gb314) (o := .cells #[.int .i64 t310, .int .i64 t311, .int .i64 t312] 23 (0, 0)) (by (with_reducible repeat (first | refine blk_drewN ?_ _ | refine blk_drew ?_ | refine blk_alloc ?_ _)); exact BK314.out) hb); have n5_ := Aside0.mk (below_step (by repeat (first | (with_reducible first | exact HB.out | apply below_alloc | apply pw_below_drewN | apply below_drew1 | refine below_set ?_ GE297.out | refine below_set ?_ GE303.out | refine below_set ?_ GE309.out | refine below_set ?_ GE314.out) | exact HB.out)) hb); clear HO317; clear BK297; clear BK303; clear BK309; clear BK314; clear HB; have HO317 := n0_; have BK297 := n1_; have BK303 := n2_; have BK309 := n3_; have BK314 := n4_; have HB := n5_; clear n0_ n1_ n2_ n3_ n4_ n5_; (try clear hb); (try clear hb2); (try clear hk); (try clear hi); have hnb142 := NB309_303.out; have hnc142 := NB303_309.out; have hnb143 := NB309_314.out; have hnc143 := NB314_309.out; have hcz144_0 : w141.cell? ⟨gb309, 0, none⟩ = some (.int .i64 t305) := (blk_cell BK309.out 0).trans rfl; have hcz144_1 : w141.cell? ⟨gb309, 1, none⟩ = some (.int .i64 t306) := (blk_cell BK309.out 1).trans rfl; have hcz144_2 : w141.cell? ⟨gb309, 2, none⟩ = some (.int .i64 t307) := (blk_cell BK309.out 2).trans rfl; have hfz144_0 := blk_frozen BK309.out 0; have hfz144_1 := blk_frozen BK309.out 1; have hfz144_2 := blk_frozen BK309.out 2; have hnb145 := NB314_303.out; have hnc145 := NB303_314.out; have hcz146_0 : w141.cell? ⟨gb314, 0, none⟩ = some (.int .i64 t310) := (blk_cell BK314.out 0).trans rfl; have hcz146_1 : w141.cell? ⟨gb314, 1, none⟩ = some (.int .i64 t311) := (blk_cell BK314.out 1).trans rfl; have hcz146_2 : w141.cell? ⟨gb314, 2, none⟩ = some (.int .i64 t312) := (blk_cell BK314.out 2).trans rfl; have hfz146_0 := blk_frozen BK314.out 0; have hfz146_1 := blk_frozen BK314.out 1; have hfz146_2 := blk_frozen BK314.out 2; have hpc297_0 : w141.cell? ⟨gb297, 0, none⟩ = some (.int .i64 t294) := (blk_cell BK297.out 0).trans rfl; have hpc297_1 : w141.cell? ⟨gb297, 1, none⟩ = some (.int .i64 t295) := (blk_cell BK297.out 1).trans rfl; have hpc297_2 : w141.cell? ⟨gb297, 2, none⟩ = some (.int .i64 t296) := (blk_cell BK297.out 2).trans rfl; have hpc303_0 : w141.cell? ⟨gb303, 0, none⟩ = some (.int .i64 t299) := (blk_cell BK303.out 0).trans rfl; have hpc303_1 : w141.cell? ⟨gb303, 1, none⟩ = some (.int .i64 t300) := (blk_cell BK303.out 1).trans rfl; have hpc303_2 : w141.cell? ⟨gb303, 2, none⟩ = some (.int .i64 t301) := (blk_cell BK303.out 2).trans rfl; have hpc309_0 : w141.cell? ⟨gb309, 0, none⟩ = some (.int .i64 t305) := (blk_cell BK309.out 0).trans rfl; have hpc309_1 : w141.cell? ⟨gb309, 1, none⟩ = some (.int .i64 t306) := (blk_cell BK309.out 1).trans rfl; have hpc309_2 : w141.cell? ⟨gb309, 2, none⟩ = some (.int .i64 t307) := (blk_cell BK309.out 2).trans rfl; have hpc314_0 : w141.cell? ⟨gb314, 0, none⟩ = some (.int .i64 t310) := (blk_cell BK314.out 0).trans rfl; have hpc314_1 : w141.cell? ⟨gb314, 1, none⟩ = some (.int .i64 t311) := (blk_cell BK314.out 1).trans rfl; have hpc314_2 : w141.cell? ⟨gb314, 2, none⟩ = some (.int .i64 t312) := (blk_cell BK314.out 2).trans rfl))
                    go_meet
                    case rel => exact ⟨_, ((t319 != t322)), (by first | rfl | (simp; done) | (simp [*]; done)), H', ⟨by first | omega | exact Nat.le_refl _⟩, ⟨by (with_reducible repeat (first | apply Kd.R_alloc | apply Kd.R_drewN | apply Kd.R_drew)); exact Kd.R_mono HO317.out (fun _ hk => ⟨hk.1.1.1.2, ⟨hk.1.1.2, ⟨hk.1.2, hk.2⟩⟩⟩)⟩, ⟨by (with_reducible repeat (first | refine blk_drewN ?_ _ | refine blk_drew ?_ | refine blk_alloc ?_ _)); exact BK297.out⟩, ⟨by (with_reducible repeat (first | refine blk_drewN ?_ _ | refine blk_drew ?_ | refine blk_alloc ?_ _)); exact BK303.out⟩, ⟨by (with_reducible repeat (first | refine blk_drewN ?_ _ | refine blk_drew ?_ | refine blk_alloc ?_ _)); exact BK309.out⟩, ⟨by (with_reducible repeat (first | refine blk_drewN ?_ _ | refine blk_drew ?_ | refine blk_alloc ?_ _)); exact BK314.out⟩, ⟨by repeat (first | (with_reducible first | exact HB.out | apply below_alloc | apply pw_below_drewN | apply below_drew1 | refine below_set ?_ GE297.out | refine below_set ?_ GE303.out | refine below_set ?_ GE309.out | refine below_set ?_ GE314.out) | exact HB.out)⟩⟩
                  · rw [if_neg c136] at H
                    have c136b0 : (t318 == t321) = false := beq_eq_false_iff_ne.mpr c136
                    have c136b1 : (t318 != t321) = true := bne_iff_ne.mpr c136
                    have H' := Aside0.mk H
                    clear H
                    have hnb147 := NB297_303.out
                    have hnc147 := NB303_297.out
                    have hnb148 := NB297_309.out
                    have hnc148 := NB309_297.out
                    have hnb149 := NB297_314.out
                    have hnc149 := NB314_297.out
                    have hcz150_0 : w37.cell? ⟨gb297, 0, none⟩ = some (.int .i64 t294) := (blk_cell BK297.out 0).trans rfl
                    have hcz150_1 : w37.cell? ⟨gb297, 1, none⟩ = some (.int .i64 t295) := (blk_cell BK297.out 1).trans rfl
                    have hcz150_2 : w37.cell? ⟨gb297, 2, none⟩ = some (.int .i64 t296) := (blk_cell BK297.out 2).trans rfl
                    have hfz150_0 := blk_frozen BK297.out 0
                    have hfz150_1 := blk_frozen BK297.out 1
                    have hfz150_2 := blk_frozen BK297.out 2
                    go_wp2_with (first | ((with_reducible refine gate_callee (f := 15) rfl ?_); refine goesL_ (some 61) rfl rfl Tryd.func15 (by kernel_rfl) rfl #[.agg #[.int .i64 t294, .int .i64 t295, .int .i64 t296]] rfl (by (try simp only [List.map_toArray, List.map_cons, List.map_nil]); first | done | rfl | (simp only [List.length_drop, List.length_take]; rfl)) ?_; (with_reducible refine (spec_ProgressText.calls k t294 t295 t296 t324 _ A38.out).mono ?_); rintro e w151 ⟨rfl, hb⟩; refine ⟨_, rfl, ?_⟩; have n0_ := Aside0.mk (Kd.R_below (by (with_reducible repeat (first | apply Kd.R_alloc | apply Kd.R_drewN | apply Kd.R_drew)); exact HO317.out) hb); have n1_ := Aside0.mk (blk_below (g := gb297) (o := .cells #[.int .i64 t294, .int .i64 t295, .int .i64 t296] 23 (0, 0)) (by (with_reducible repeat (first | refine blk_drewN ?_ _ | refine blk_drew ?_ | refine blk_alloc ?_ _)); exact BK297.out) hb); have n2_ := Aside0.mk (blk_below (g := gb303) (o := .cells #[.int .i64 t299, .int .i64 t300, .int .i64 t301] 23 (0, 0)) (by (with_reducible repeat (first | refine blk_drewN ?_ _ | refine blk_drew ?_ | refine blk_alloc ?_ _)); exact BK303.out) hb); have n3_ := Aside0.mk (blk_below (g := gb309) (o := .cells #[.int .i64 t305, .int .i64 t306, .int .i64 t307] 23 (0, 0)) (by (with_reducible repeat (first | refine blk_drewN ?_ _ | refine blk_drew ?_ | refine blk_alloc ?_ _)); exact BK309.out) hb); have n4_ := Aside0.mk (blk_below (g := gb314) (o := .cells #[.int .i64 t310, .int .i64 t311, .int .i64 t312] 23 (0, 0)) (by (with_reducible repeat (first | refine blk_drewN ?_ _ | refine blk_drew ?_ | refine blk_alloc ?_ _)); exact BK314.out) hb); have n5_ := Aside0.mk (below_step (by repeat (first | (with_reducible first | exact HB.out | apply below_alloc | apply pw_below_drewN | apply below_drew1 | refine below_set ?_ GE297.out | refine below_set ?_ GE303.out | refine below_set ?_ GE309.out | refine below_set ?_ GE314.out) | exact HB.out)) hb); clear HO317; clear BK297; clear BK303; clear BK309; clear BK314; clear HB; have HO317 := n0_; have BK297 := n1_; have BK303 := n2_; have BK309 := n3_; have BK314 := n4_; have HB := n5_; clear n0_ n1_ n2_ n3_ n4_ n5_; (try clear hb); (try clear hb2); (try clear hk); (try clear hi); have hnb152 := NB309_303.out; have hnc152 := NB303_309.out; have hnb153 := NB309_314.out; have hnc153 := NB314_309.out; have hcz154_0 : w151.cell? ⟨gb309, 0, none⟩ = some (.int .i64 t305) := (blk_cell BK309.out 0).trans rfl; have hcz154_1 : w151.cell? ⟨gb309, 1, none⟩ = some (.int .i64 t306) := (blk_cell BK309.out 1).trans rfl; have hcz154_2 : w151.cell? ⟨gb309, 2, none⟩ = some (.int .i64 t307) := (blk_cell BK309.out 2).trans rfl; have hfz154_0 := blk_frozen BK309.out 0; have hfz154_1 := blk_frozen BK309.out 1; have hfz154_2 := blk_frozen BK309.out 2; have hnb155 := NB314_303.out; have hnc155 := NB303_314.out; have hcz156_0 : w151.cell? ⟨gb314, 0, none⟩ = some (.int .i64 t310) := (blk_cell BK314.out 0).trans rfl; have hcz156_1 : w151.cell? ⟨gb314, 1, none⟩ = some (.int .i64 t311) := (blk_cell BK314.out 1).trans rfl; have hcz156_2 : w151.cell? ⟨gb314, 2, none⟩ = some (.int .i64 t312) := (blk_cell BK314.out 2).trans rfl; have hfz156_0 := blk_frozen BK314.out 0; have hfz156_1 := blk_frozen BK314.out 1; have hfz156_2 := blk_frozen BK314.out 2; have hpc297_0 : w151.cell? ⟨gb297, 0, none⟩ = some (.int .i64 t294) := (blk_cell BK297.out 0).trans rfl; have hpc297_1 : w151.cell? ⟨gb297, 1, none⟩ = some (.int .i64 t295) := (blk_cell BK297.out 1).trans rfl; have hpc297_2 : w151.cell? ⟨gb297, 2, none⟩ = some (.int .i64 t296) := (blk_cell BK297.out 2).trans rfl; have hpc303_0 : w151.cell? ⟨gb303, 0, none⟩ = some (.int .i64 t299) := (blk_cell BK303.out 0).trans rfl; have hpc303_1 : w151.cell? ⟨gb303, 1, none⟩ = some (.int .i64 t300) := (blk_cell BK303.out 1).trans rfl; have hpc303_2 : w151.cell? ⟨gb303, 2, none⟩ = some (.int .i64 t301) := (blk_cell BK303.out 2).trans rfl; have hpc309_0 : w151.cell? ⟨gb309, 0, none⟩ = some (.int .i64 t305) := (blk_cell BK309.out 0).trans rfl; have hpc309_1 : w151.cell? ⟨gb309, 1, none⟩ = some (.int .i64 t306) := (blk_cell BK309.out 1).trans rfl; have hpc309_2 : w151.cell? ⟨gb309, 2, none⟩ = some (.int .i64 t307) := (blk_cell BK309.out 2).trans rfl; have hpc314_0 : w151.cell? ⟨gb314, 0, none⟩ = some (.int .i64 t310) := (blk_cell BK314.out 0).trans rfl; have hpc314_1 : w151.cell? ⟨gb314, 1, none⟩ = some (.int .i64 t311) := (blk_cell BK314.out 1).trans rfl; have hpc314_2 : w151.cell? ⟨gb314, 2, none⟩ = some (.int .i64 t312) := (blk_cell BK314.out 2).trans rfl))
                    go_meet
                    case rel => exact ⟨_, (true), (by first | rfl | (simp; done) | (simp [*]; done)), H', ⟨by first | omega | exact Nat.le_refl _⟩, ⟨by (with_reducible repeat (first | apply Kd.R_alloc | apply Kd.R_drewN | apply Kd.R_drew)); exact Kd.R_mono HO317.out (fun _ hk => ⟨hk.1.1.1.2, ⟨hk.1.1.2, ⟨hk.1.2, hk.2⟩⟩⟩)⟩, ⟨by (with_reducible repeat (first | refine blk_drewN ?_ _ | refine blk_drew ?_ | refine blk_alloc ?_ _)); exact BK297.out⟩, ⟨by (with_reducible repeat (first | refine blk_drewN ?_ _ | refine blk_drew ?_ | refine blk_alloc ?_ _)); exact BK303.out⟩, ⟨by (with_reducible repeat (first | refine blk_drewN ?_ _ | refine blk_drew ?_ | refine blk_alloc ?_ _)); exact BK309.out⟩, ⟨by (with_reducible repeat (first | refine blk_drewN ?_ _ | refine blk_drew ?_ | refine blk_alloc ?_ _)); exact BK314.out⟩, ⟨by repeat (first | (with_reducible first | exact HB.out | apply below_alloc | apply pw_below_drewN | apply below_drew1 | refine below_set ?_ GE297.out | refine below_set ?_ GE303.out | refine below_set ?_ GE309.out | refine below_set ?_ GE314.out) | exact HB.out)⟩⟩
                · rw [if_neg c135] at H
                  have c135b0 : (t320 == t323) = false := beq_eq_false_iff_ne.mpr c135
                  have c135b1 : (t320 != t323) = true := bne_iff_ne.mpr c135
                  have H' := Aside0.mk H
                  clear H
                  have hnb157 := NB297_303.out
                  have hnc157 := NB303_297.out
                  have hnb158 := NB297_309.out
                  have hnc158 := NB309_297.out
                  have hnb159 := NB297_314.out
                  have hnc159 := NB314_297.out
                  have hcz160_0 : w37.cell? ⟨gb297, 0, none⟩ = some (.int .i64 t294) := (blk_cell BK297.out 0).trans rfl
                  have hcz160_1 : w37.cell? ⟨gb297, 1, none⟩ = some (.int .i64 t295) := (blk_cell BK297.out 1).trans rfl
                  have hcz160_2 : w37.cell? ⟨gb297, 2, none⟩ = some (.int .i64 t296) := (blk_cell BK297.out 2).trans rfl
                  have hfz160_0 := blk_frozen BK297.out 0
                  have hfz160_1 := blk_frozen BK297.out 1
                  have hfz160_2 := blk_frozen BK297.out 2
                  go_wp2_with (first | ((with_reducible refine gate_callee (f := 15) rfl ?_); refine goesL_ (some 61) rfl rfl Tryd.func15 (by kernel_rfl) rfl #[.agg #[.int .i64 t294, .int .i64 t295, .int .i64 t296]] rfl (by (try simp only [List.map_toArray, List.map_cons, List.map_nil]); first | done | rfl | (simp only [List.length_drop, List.length_take]; rfl)) ?_; (with_reducible refine (spec_ProgressText.calls k t294 t295 t296 t324 _ A38.out).mono ?_); rintro e w161 ⟨rfl, hb⟩; refine ⟨_, rfl, ?_⟩; have n0_ := Aside0.mk (Kd.R_below (by (with_reducible repeat (first | apply Kd.R_alloc | apply Kd.R_drewN | apply Kd.R_drew)); exact HO317.out) hb); have n1_ := Aside0.mk (blk_below (g := gb297) (o := .cells #[.int .i64 t294, .int .i64 t295, .int .i64 t296] 23 (0, 0)) (by (with_reducible repeat (first | refine blk_drewN ?_ _ | refine blk_drew ?_ | refine blk_alloc ?_ _)); exact BK297.out) hb); have n2_ := Aside0.mk (blk_below (g := gb303) (o := .cells #[.int .i64 t299, .int .i64 t300, .int .i64 t301] 23 (0, 0)) (by (with_reducible repeat (first | refine blk_drewN ?_ _ | refine blk_drew ?_ | refine blk_alloc ?_ _)); exact BK303.out) hb); have n3_ := Aside0.mk (blk_below (g := gb309) (o := .cells #[.int .i64 t305, .int .i64 t306, .int .i64 t307] 23 (0, 0)) (by (with_reducible repeat (first | refine blk_drewN ?_ _ | refine blk_drew ?_ | refine blk_alloc ?_ _)); exact BK309.out) hb); have n4_ := Aside0.mk (blk_below (g := gb314) (o := .cells #[.int .i64 t310, .int .i64 t311, .int .i64 t312] 23 (0, 0)) (by (with_reducible repeat (first | refine blk_drewN ?_ _ | refine blk_drew ?_ | refine blk_alloc ?_ _)); exact BK314.out) hb); have n5_ := Aside0.mk (below_step (by repeat (first | (with_reducible first | exact HB.out | apply below_alloc | apply pw_below_drewN | apply below_drew1 | refine below_set ?_ GE297.out | refine below_set ?_ GE303.out | refine below_set ?_ GE309.out | refine below_set ?_ GE314.out) | exact HB.out)) hb); clear HO317; clear BK297; clear BK303; clear BK309; clear BK314; clear HB; have HO317 := n0_; have BK297 := n1_; have BK303 := n2_; have BK309 := n3_; have BK314 := n4_; have HB := n5_; clear n0_ n1_ n2_ n3_ n4_ n5_; (try clear hb); (try clear hb2); (try clear hk); (try clear hi); have hnb162 := NB309_303.out; have hnc162 := NB303_309.out; have hnb163 := NB309_314.out; have hnc163 := NB314_309.out; have hcz164_0 : w161.cell? ⟨gb309, 0, none⟩ = some (.int .i64 t305) := (blk_cell BK309.out 0).trans rfl; have hcz164_1 : w161.cell? ⟨gb309, 1, none⟩ = some (.int .i64 t306) := (blk_cell BK309.out 1).trans rfl; have hcz164_2 : w161.cell? ⟨gb309, 2, none⟩ = some (.int .i64 t307) := (blk_cell BK309.out 2).trans rfl; have hfz164_0 := blk_frozen BK309.out 0; have hfz164_1 := blk_frozen BK309.out 1; have hfz164_2 := blk_frozen BK309.out 2; have hnb165 := NB314_303.out; have hnc165 := NB303_314.out; have hcz166_0 : w161.cell? ⟨gb314, 0, none⟩ = some (.int .i64 t310) := (blk_cell BK314.out 0).trans rfl; have hcz166_1 : w161.cell? ⟨gb314, 1, none⟩ = some (.int .i64 t311) := (blk_cell BK314.out 1).trans rfl; have hcz166_2 : w161.cell? ⟨gb314, 2, none⟩ = some (.int .i64 t312) := (blk_cell BK314.out 2).trans rfl; have hfz166_0 := blk_frozen BK314.out 0; have hfz166_1 := blk_frozen BK314.out 1; have hfz166_2 := blk_frozen BK314.out 2; have hpc297_0 : w161.cell? ⟨gb297, 0, none⟩ = some (.int .i64 t294) := (blk_cell BK297.out 0).trans rfl; have hpc297_1 : w161.cell? ⟨gb297, 1, none⟩ = some (.int .i64 t295) := (blk_cell BK297.out 1).trans rfl; have hpc297_2 : w161.cell? ⟨gb297, 2, none⟩ = some (.int .i64 t296) := (blk_cell BK297.out 2).trans rfl; have hpc303_0 : w161.cell? ⟨gb303, 0, none⟩ = some (.int .i64 t299) := (blk_cell BK303.out 0).trans rfl; have hpc303_1 : w161.cell? ⟨gb303, 1, none⟩ = some (.int .i64 t300) := (blk_cell BK303.out 1).trans rfl; have hpc303_2 : w161.cell? ⟨gb303, 2, none⟩ = some (.int .i64 t301) := (blk_cell BK303.out 2).trans rfl; have hpc309_0 : w161.cell? ⟨gb309, 0, none⟩ = some (.int .i64 t305) := (blk_cell BK309.out 0).trans rfl; have hpc309_1 : w161.cell? ⟨gb309, 1, none⟩ = some (.int .i64 t306) := (blk_cell BK309.out 1).trans rfl; have hpc309_2 : w161.cell? ⟨gb309, 2, none⟩ = some (.int .i64 t307) := (blk_cell BK309.out 2).trans rfl; have hpc314_0 : w161.cell? ⟨gb314, 0, none⟩ = some (.int .i64 t310) := (blk_cell BK314.out 0).trans rfl; have hpc314_1 : w161.cell? ⟨gb314, 1, none⟩ = some (.int .i64 t311) := (blk_cell BK314.out 1).trans rfl; have hpc314_2 : w161.cell? ⟨gb314, 2, none⟩ = some (.int .i64 t312) := (blk_cell BK314.out 2).trans rfl))
                  go_meet
                  case rel => exact ⟨_, (true), (by first | rfl | (simp; done) | (simp [*]; done)), H', ⟨by first | omega | exact Nat.le_refl _⟩, ⟨by (with_reducible repeat (first | apply Kd.R_alloc | apply Kd.R_drewN | apply Kd.R_drew)); exact Kd.R_mono HO317.out (fun _ hk => ⟨hk.1.1.1.2, ⟨hk.1.1.2, ⟨hk.1.2, hk.2⟩⟩⟩)⟩, ⟨by (with_reducible repeat (first | refine blk_drewN ?_ _ | refine blk_drew ?_ | refine blk_alloc ?_ _)); exact BK297.out⟩, ⟨by (with_reducible repeat (first | refine blk_drewN ?_ _ | refine blk_drew ?_ | refine blk_alloc ?_ _)); exact BK303.out⟩, ⟨by (with_reducible repeat (first | refine blk_drewN ?_ _ | refine blk_drew ?_ | refine blk_alloc ?_ _)); exact BK309.out⟩, ⟨by (with_reducible repeat (first | refine blk_drewN ?_ _ | refine blk_drew ?_ | refine blk_alloc ?_ _)); exact BK314.out⟩, ⟨by repeat (first | (with_reducible first | exact HB.out | apply below_alloc | apply pw_below_drewN | apply below_drew1 | refine below_set ?_ GE297.out | refine below_set ?_ GE303.out | refine below_set ?_ GE309.out | refine below_set ?_ GE314.out) | exact HB.out)⟩⟩
      · rw [if_neg c39] at H
        have c39b0 : (t298.toList == t324.toList) = false := beq_eq_false_iff_ne.mpr c39
        have c39b1 : (t298.toList != t324.toList) = true := bne_iff_ne.mpr c39
        (first | rw [c39b0] | (simp only [i64_w, i32_w]; rw [c39b0]) | skip)
        have H' := Aside0.mk H
        clear H
        have hnb167 := NB297_303.out
        have hnc167 := NB303_297.out
        have hnb168 := NB297_309.out
        have hnc168 := NB309_297.out
        have hnb169 := NB297_314.out
        have hnc169 := NB314_297.out
        have hcz170_0 : w37.cell? ⟨gb297, 0, none⟩ = some (.int .i64 t294) := (blk_cell BK297.out 0).trans rfl
        have hcz170_1 : w37.cell? ⟨gb297, 1, none⟩ = some (.int .i64 t295) := (blk_cell BK297.out 1).trans rfl
        have hcz170_2 : w37.cell? ⟨gb297, 2, none⟩ = some (.int .i64 t296) := (blk_cell BK297.out 2).trans rfl
        have hfz170_0 := blk_frozen BK297.out 0
        have hfz170_1 := blk_frozen BK297.out 1
        have hfz170_2 := blk_frozen BK297.out 2
        go_wp2_with (first | ((with_reducible refine gate_callee (f := 15) rfl ?_); refine goesL_ (some 61) rfl rfl Tryd.func15 (by kernel_rfl) rfl #[.agg #[.int .i64 t294, .int .i64 t295, .int .i64 t296]] rfl (by (try simp only [List.map_toArray, List.map_cons, List.map_nil]); first | done | rfl | (simp only [List.length_drop, List.length_take]; rfl)) ?_; (with_reducible refine (spec_ProgressText.calls k t294 t295 t296 t324 _ A38.out).mono ?_); rintro e w171 ⟨rfl, hb⟩; refine ⟨_, rfl, ?_⟩; have n0_ := Aside0.mk (Kd.R_below (by (with_reducible repeat (first | apply Kd.R_alloc | apply Kd.R_drewN | apply Kd.R_drew)); exact HO317.out) hb); have n1_ := Aside0.mk (blk_below (g := gb297) (o := .cells #[.int .i64 t294, .int .i64 t295, .int .i64 t296] 23 (0, 0)) (by (with_reducible repeat (first | refine blk_drewN ?_ _ | refine blk_drew ?_ | refine blk_alloc ?_ _)); exact BK297.out) hb); have n2_ := Aside0.mk (blk_below (g := gb303) (o := .cells #[.int .i64 t299, .int .i64 t300, .int .i64 t301] 23 (0, 0)) (by (with_reducible repeat (first | refine blk_drewN ?_ _ | refine blk_drew ?_ | refine blk_alloc ?_ _)); exact BK303.out) hb); have n3_ := Aside0.mk (blk_below (g := gb309) (o := .cells #[.int .i64 t305, .int .i64 t306, .int .i64 t307] 23 (0, 0)) (by (with_reducible repeat (first | refine blk_drewN ?_ _ | refine blk_drew ?_ | refine blk_alloc ?_ _)); exact BK309.out) hb); have n4_ := Aside0.mk (blk_below (g := gb314) (o := .cells #[.int .i64 t310, .int .i64 t311, .int .i64 t312] 23 (0, 0)) (by (with_reducible repeat (first | refine blk_drewN ?_ _ | refine blk_drew ?_ | refine blk_alloc ?_ _)); exact BK314.out) hb); have n5_ := Aside0.mk (below_step (by repeat (first | (with_reducible first | exact HB.out | apply below_alloc | apply pw_below_drewN | apply below_drew1 | refine below_set ?_ GE297.out | refine below_set ?_ GE303.out | refine below_set ?_ GE309.out | refine below_set ?_ GE314.out) | exact HB.out)) hb); clear HO317; clear BK297; clear BK303; clear BK309; clear BK314; clear HB; have HO317 := n0_; have BK297 := n1_; have BK303 := n2_; have BK309 := n3_; have BK314 := n4_; have HB := n5_; clear n0_ n1_ n2_ n3_ n4_ n5_; (try clear hb); (try clear hb2); (try clear hk); (try clear hi); have hpc297_0 : w171.cell? ⟨gb297, 0, none⟩ = some (.int .i64 t294) := (blk_cell BK297.out 0).trans rfl; have hpc297_1 : w171.cell? ⟨gb297, 1, none⟩ = some (.int .i64 t295) := (blk_cell BK297.out 1).trans rfl; have hpc297_2 : w171.cell? ⟨gb297, 2, none⟩ = some (.int .i64 t296) := (blk_cell BK297.out 2).trans rfl; have hpc303_0 : w171.cell? ⟨gb303, 0, none⟩ = some (.int .i64 t299) := (blk_cell BK303.out 0).trans rfl; have hpc303_1 : w171.cell? ⟨gb303, 1, none⟩ = some (.int .i64 t300) := (blk_cell BK303.out 1).trans rfl; have hpc303_2 : w171.cell? ⟨gb303, 2, none⟩ = some (.int .i64 t301) := (blk_cell BK303.out 2).trans rfl; have hpc309_0 : w171.cell? ⟨gb309, 0, none⟩ = some (.int .i64 t305) := (blk_cell BK309.out 0).trans rfl; have hpc309_1 : w171.cell? ⟨gb309, 1, none⟩ = some (.int .i64 t306) := (blk_cell BK309.out 1).trans rfl; have hpc309_2 : w171.cell? ⟨gb309, 2, none⟩ = some (.int .i64 t307) := (blk_cell BK309.out 2).trans rfl; have hpc314_0 : w171.cell? ⟨gb314, 0, none⟩ = some (.int .i64 t310) := (blk_cell BK314.out 0).trans rfl; have hpc314_1 : w171.cell? ⟨gb314, 1, none⟩ = some (.int .i64 t311) := (blk_cell BK314.out 1).trans rfl; have hpc314_2 : w171.cell? ⟨gb314, 2, none⟩ = some (.int .i64 t312) := (blk_cell BK314.out 2).trans rfl))
        go_meet
        case rel => exact ⟨_, (true), (by first | rfl | (simp; done) | (simp [*]; done)), H', ⟨by first | omega | exact Nat.le_refl _⟩, ⟨by (with_reducible repeat (first | apply Kd.R_alloc | apply Kd.R_drewN | apply Kd.R_drew)); exact Kd.R_mono HO317.out (fun _ hk => ⟨hk.1.1.1.2, ⟨hk.1.1.2, ⟨hk.1.2, hk.2⟩⟩⟩)⟩, ⟨by (with_reducible repeat (first | refine blk_drewN ?_ _ | refine blk_drew ?_ | refine blk_alloc ?_ _)); exact BK297.out⟩, ⟨by (with_reducible repeat (first | refine blk_drewN ?_ _ | refine blk_drew ?_ | refine blk_alloc ?_ _)); exact BK303.out⟩, ⟨by (with_reducible repeat (first | refine blk_drewN ?_ _ | refine blk_drew ?_ | refine blk_alloc ?_ _)); exact BK309.out⟩, ⟨by (with_reducible repeat (first | refine blk_drewN ?_ _ | refine blk_drew ?_ | refine blk_alloc ?_ _)); exact BK314.out⟩, ⟨by repeat (first | (with_reducible first | exact HB.out | apply below_alloc | apply pw_below_drewN | apply below_drew1 | refine below_set ?_ GE297.out | refine below_set ?_ GE303.out | refine below_set ?_ GE309.out | refine below_set ?_ GE314.out) | exact HB.out)⟩⟩
    case rest =>
      clear HC13
      try clear c1
      try clear c2
      try clear p2
      try clear c3
      try clear c4
      try clear c5
      try clear c6
      try clear c7
      try clear c8
      try clear c9
      try clear c10
      try clear c11
      try clear c12
      try clear c13
      try clear c14
      try clear c15
      try clear c16
      try clear c20
      try clear c25
      try clear c26
      try clear c30
      try clear c31
      try clear c32
      try clear c39
      try clear c39b0
      try clear c39b1
      try clear c40
      try clear c40b0
      try clear c40b1
      try clear c40b2
      try clear c41
      try clear c42
      try clear c43
      try clear c46
      try clear c47
      try clear c47b0
      try clear c48
      try clear c49
      try clear c50
      try clear c53
      try clear c54
      try clear c57
      try clear c57b0
      try clear c57b1
      try clear c57b2
      try clear c58
      try clear c59
      try clear c60
      try clear c63
      try clear c64
      try clear c67
      try clear c67b0
      try clear c68
      try clear c69
      try clear c70
      try clear c73
      try clear c74
      try clear c77
      try clear c80
      try clear c80b0
      try clear c80b1
      try clear c81
      try clear c81b0
      try clear c81b1
      try clear c82
      try clear c83
      try clear c84
      try clear c87
      try clear c88
      try clear c91
      try clear c94
      try clear c95
      try clear c96
      try clear c99
      try clear c100
      try clear c103
      try clear c106
      try clear c107
      try clear c108
      try clear c111
      try clear c112
      try clear c115
      try clear c118
      try clear c118b0
      try clear c118b1
      try clear c118b2
      try clear c119
      try clear c120
      try clear c121
      try clear c124
      try clear c124b0
      try clear c125
      try clear c126
      try clear c127
      try clear c130
      try clear c131
      try clear c133
      try clear c135
      try clear c135b0
      try clear c135b1
      try clear c136
      try clear c136b0
      try clear c136b1
      try clear c137
      try clear c138
      try clear c139
      try clear c142
      try clear c143
      try clear c145
      try clear c147
      try clear c148
      try clear c149
      try clear c152
      try clear c153
      try clear c155
      try clear c157
      try clear c158
      try clear c159
      try clear c162
      try clear c163
      try clear c165
      try clear c167
      try clear c168
      try clear c169
      try clear hcz101_0
      try clear hcz101_1
      try clear hcz101_2
      try clear hcz102_0
      try clear hcz102_1
      try clear hcz102_2
      try clear hcz104_0
      try clear hcz104_1
      try clear hcz104_2
      try clear hcz105_0
      try clear hcz105_1
      try clear hcz105_2
      try clear hcz109_0
      try clear hcz109_1
      try clear hcz109_2
      try clear hcz113_0
      try clear hcz113_1
      try clear hcz113_2
      try clear hcz114_0
      try clear hcz114_1
      try clear hcz114_2
      try clear hcz116_0
      try clear hcz116_1
      try clear hcz116_2
      try clear hcz117_0
      try clear hcz117_1
      try clear hcz117_2
      try clear hcz122_0
      try clear hcz122_1
      try clear hcz122_2
      try clear hcz128_0
      try clear hcz128_1
      try clear hcz128_2
      try clear hcz132_0
      try clear hcz132_1
      try clear hcz132_2
      try clear hcz134_0
      try clear hcz134_1
      try clear hcz134_2
      try clear hcz140_0
      try clear hcz140_1
      try clear hcz140_2
      try clear hcz144_0
      try clear hcz144_1
      try clear hcz144_2
      try clear hcz146_0
      try clear hcz146_1
      try clear hcz146_2
      try clear hcz150_0
      try clear hcz150_1
      try clear hcz150_2
      try clear hcz154_0
      try clear hcz154_1
      try clear hcz154_2
      try clear hcz156_0
      try clear hcz156_1
      try clear hcz156_2
      try clear hcz160_0
      try clear hcz160_1
      try clear hcz160_2
      try clear hcz164_0
      try clear hcz164_1
      try clear hcz164_2
      try clear hcz166_0
      try clear hcz166_1
      try clear hcz166_2
      try clear hcz16_0
      try clear hcz16_1
      try clear hcz16_2
      try clear hcz170_0
      try clear hcz170_1
      try clear hcz170_2
      try clear hcz21_0
      try clear hcz21_1
      try clear hcz21_2
      try clear hcz27_0
      try clear hcz27_1
      try clear hcz27_2
      try clear hcz33_0
      try clear hcz33_1
      try clear hcz33_2
      try clear hcz44_0
      try clear hcz44_1
      try clear hcz44_2
      try clear hcz51_0
      try clear hcz51_1
      try clear hcz51_2
      try clear hcz55_0
      try clear hcz55_1
      try clear hcz55_2
      try clear hcz56_0
      try clear hcz56_1
      try clear hcz56_2
      try clear hcz61_0
      try clear hcz61_1
      try clear hcz61_2
      try clear hcz65_0
      try clear hcz65_1
      try clear hcz65_2
      try clear hcz66_0
      try clear hcz66_1
      try clear hcz66_2
      try clear hcz71_0
      try clear hcz71_1
      try clear hcz71_2
      try clear hcz75_0
      try clear hcz75_1
      try clear hcz75_2
      try clear hcz76_0
      try clear hcz76_1
      try clear hcz76_2
      try clear hcz78_0
      try clear hcz78_1
      try clear hcz78_2
      try clear hcz79_0
      try clear hcz79_1
      try clear hcz79_2
      try clear hcz85_0
      try clear hcz85_1
      try clear hcz85_2
      try clear hcz89_0
      try clear hcz89_1
      try clear hcz89_2
      try clear hcz90_0
      try clear hcz90_1
      try clear hcz90_2
      try clear hcz92_0
      try clear hcz92_1
      try clear hcz92_2
      try clear hcz93_0
      try clear hcz93_1
      try clear hcz93_2
      try clear hcz97_0
      try clear hcz97_1
      try clear hcz97_2
      try clear hfz101_0
      try clear hfz101_1
      try clear hfz101_2
      try clear hfz102_0
      try clear hfz102_1
      try clear hfz102_2
      try clear hfz104_0
      try clear hfz104_1
      try clear hfz104_2
      try clear hfz105_0
      try clear hfz105_1
      try clear hfz105_2
      try clear hfz109_0
      try clear hfz109_1
      try clear hfz109_2
      try clear hfz113_0
      try clear hfz113_1
      try clear hfz113_2
      try clear hfz114_0
      try clear hfz114_1
      try clear hfz114_2
      try clear hfz116_0
      try clear hfz116_1
      try clear hfz116_2
      try clear hfz117_0
      try clear hfz117_1
      try clear hfz117_2
      try clear hfz122_0
      try clear hfz122_1
      try clear hfz122_2
      try clear hfz128_0
      try clear hfz128_1
      try clear hfz128_2
      try clear hfz132_0
      try clear hfz132_1
      try clear hfz132_2
      try clear hfz134_0
      try clear hfz134_1
      try clear hfz134_2
      try clear hfz140_0
      try clear hfz140_1
      try clear hfz140_2
      try clear hfz144_0
      try clear hfz144_1
      try clear hfz144_2
      try clear hfz146_0
      try clear hfz146_1
      try clear hfz146_2
      try clear hfz150_0
      try clear hfz150_1
      try clear hfz150_2
      try clear hfz154_0
      try clear hfz154_1
      try clear hfz154_2
      try clear hfz156_0
      try clear hfz156_1
      try clear hfz156_2
      try clear hfz160_0
      try clear hfz160_1
      try clear hfz160_2
      try clear hfz164_0
      try clear hfz164_1
      try clear hfz164_2
      try clear hfz166_0
      try clear hfz166_1
      try clear hfz166_2
      try clear hfz16_0
      try clear hfz16_1
      try clear hfz16_2
      try clear hfz170_0
      try clear hfz170_1
      try clear hfz170_2
      try clear hfz21_0
      try clear hfz21_1
      try clear hfz21_2
      try clear hfz27_0
      try clear hfz27_1
      try clear hfz27_2
      try clear hfz33_0
      try clear hfz33_1
      try clear hfz33_2
      try clear hfz44_0
      try clear hfz44_1
      try clear hfz44_2
      try clear hfz51_0
      try clear hfz51_1
      try clear hfz51_2
      try clear hfz55_0
      try clear hfz55_1
      try clear hfz55_2
      try clear hfz56_0
      try clear hfz56_1
      try clear hfz56_2
      try clear hfz61_0
      try clear hfz61_1
      try clear hfz61_2
      try clear hfz65_0
      try clear hfz65_1
      try clear hfz65_2
      try clear hfz66_0
      try clear hfz66_1
      try clear hfz66_2
      try clear hfz71_0
      try clear hfz71_1
      try clear hfz71_2
      try clear hfz75_0
      try clear hfz75_1
      try clear hfz75_2
      try clear hfz76_0
      try clear hfz76_1
      try clear hfz76_2
      try clear hfz78_0
      try clear hfz78_1
      try clear hfz78_2
      try clear hfz79_0
      try clear hfz79_1
      try clear hfz79_2
      try clear hfz85_0
      try clear hfz85_1
      try clear hfz85_2
      try clear hfz89_0
      try clear hfz89_1
      try clear hfz89_2
      try clear hfz90_0
      try clear hfz90_1
      try clear hfz90_2
      try clear hfz92_0
      try clear hfz92_1
      try clear hfz92_2
      try clear hfz93_0
      try clear hfz93_1
      try clear hfz93_2
      try clear hfz97_0
      try clear hfz97_1
      try clear hfz97_2
      obtain ⟨kq, x101_12, rfl, HA, HJ12, HO_12, BK297, BK303, BK309, BK314, HB⟩ := hcut
      cases kq with
      | zero => exact absurd HA.out (by simp [laws_FnProgress.j0])
      | succ kj12 =>
        have H := HA.out
        clear HA
        simp only [laws_FnProgress.j0] at H
        by_cases c172 : x101_12 = true
        · subst c172
          have H1 : (some false) = some r := by rw [if_pos rfl] at H; exact H
          clear H
          have H := H1
          clear H1
          obtain rfl := Option.some.inj H
          go_wp2
          go_ret
          exact ⟨by first | rfl | (simp [errW_none, errW_some] <;> rfl) | (simp [*, errW_none, errW_some] <;> rfl), by repeat (first | (with_reducible first | exact HB.out | apply below_alloc | apply pw_below_drewN | apply below_drew1 | refine below_set ?_ GE297.out | refine below_set ?_ GE303.out | refine below_set ?_ GE309.out | refine below_set ?_ GE314.out) | exact HB.out)⟩
        · replace c172 := Bool.eq_false_iff.mpr c172
          subst c172
          have H1 : (if t320 = 0 then (if (t315.length : Int) = 0 then (if t318 = 0 then (some (t319 == 1)) else (some false)) else (if 1 ≤ (t315.length : Int) then ((impl_MergeProgress.f kj12 (t315.drop 1)).bind fun bt329 => (if bt329.2.2 = 0 then (if 0 < (t315.length : Int) then (if t318 = (wrap64 (bt329.1 + ((rd_T23 t315 0).f1))) then (some (t319 == (wrap64 (bt329.2.1 + ((rd_T23 t315 0).f2))))) else (some false)) else (none)) else (some false))) else (none))) else (some true)) = some r := by rw [if_neg (show ¬ (false = true) by decide)] at H; exact H
          clear H
          have H := H1
          clear H1
          by_cases c173 : t320 = 0
          · rw [if_pos c173] at H
            have c173b0 : (t320 == 0) = true := beq_iff_eq.mpr c173
            have c173b1 : (t320 != 0) = false := bne_eq_false_iff_eq.mpr c173
            clear c173
            by_cases c174 : (t315.length : Int) = 0
            · rw [if_pos c174] at H
              have c174b0 : ((t315.length : Int) == 0) = true := beq_iff_eq.mpr c174
              have c174b1 : ((t315.length : Int) != 0) = false := bne_eq_false_iff_eq.mpr c174
              clear c174
              by_cases c175 : t318 = 0
              · rw [if_pos c175] at H
                have c175b0 : (t318 == 0) = true := beq_iff_eq.mpr c175
                have c175b1 : (t318 != 0) = false := bne_eq_false_iff_eq.mpr c175
                clear c175
                obtain rfl := Option.some.inj H
                go_wp2
                go_ret
                exact ⟨by first | rfl | (simp [errW_none, errW_some] <;> rfl) | (simp [*, errW_none, errW_some] <;> rfl), by repeat (first | (with_reducible first | exact HB.out | apply below_alloc | apply pw_below_drewN | apply below_drew1 | refine below_set ?_ GE297.out | refine below_set ?_ GE303.out | refine below_set ?_ GE309.out | refine below_set ?_ GE314.out) | exact HB.out)⟩
              · rw [if_neg c175] at H
                have c175b0 : (t318 == 0) = false := beq_eq_false_iff_ne.mpr c175
                have c175b1 : (t318 != 0) = true := bne_iff_ne.mpr c175
                obtain rfl := Option.some.inj H
                go_wp2
                go_ret
                exact ⟨by first | rfl | (simp [errW_none, errW_some] <;> rfl) | (simp [*, errW_none, errW_some] <;> rfl), by repeat (first | (with_reducible first | exact HB.out | apply below_alloc | apply pw_below_drewN | apply below_drew1 | refine below_set ?_ GE297.out | refine below_set ?_ GE303.out | refine below_set ?_ GE309.out | refine below_set ?_ GE314.out) | exact HB.out)⟩
            · rw [if_neg c174] at H
              have c174b0 : ((t315.length : Int) == 0) = false := beq_eq_false_iff_ne.mpr c174
              have c174b1 : ((t315.length : Int) != 0) = true := bne_iff_ne.mpr c174
              have c174b2 : ¬ (t315 = []) := fun h_ => c174 (by rw [h_]; rfl)
              by_cases c176 : 1 ≤ (t315.length : Int)
              · rw [if_pos c176] at H
                have c176b0 := eq_true c176
                have c176b1 : decide (1 ≤ (t315.length : Int)) = true := decide_eq_true c176
                clear c176
                obtain ⟨y325, hy325⟩ : ∃ y_ : List (S23), y_ = (t315.drop 1) := ⟨_, rfl⟩
                replace H : ((impl_MergeProgress.f kj12 y325).bind fun bt329 => (if bt329.2.2 = 0 then (if 0 < (t315.length : Int) then (if t318 = (wrap64 (bt329.1 + ((rd_T23 t315 0).f1))) then (some (t319 == (wrap64 (bt329.2.1 + ((rd_T23 t315 0).f2))))) else (some false)) else (none)) else (some false))) = some r := by first | (rw [hy325]; with_reducible exact H) | (have H2_ := (Option.bind_some _ _).symm.trans H; rw [hy325]; with_reducible exact H2_) | (have H2_ := (Option.bind_some _ _).symm.trans H; with_reducible exact H2_) | with_reducible exact H | (rw [hy325]; exact H) | exact H
                have Ny325 := Aside0.mk hy325
                clear hy325
                replace H := Option.bind_eq_some_iff.mp H
                obtain ⟨⟨t329, t330, t331⟩, A1770, H⟩ := H
                replace H : (if t331 = 0 then (if 0 < (t315.length : Int) then (if t318 = (wrap64 (t329 + ((rd_T23 t315 0).f1))) then (some (t319 == (wrap64 (t330 + ((rd_T23 t315 0).f2))))) else (some false)) else (none)) else (some false)) = some r := H
                have A177 := Aside0.mk A1770
                clear A1770
                by_cases c178 : t331 = 0
                · rw [if_pos c178] at H
                  have c178b0 : (t331 == 0) = true := beq_iff_eq.mpr c178
                  have c178b1 : (t331 != 0) = false := bne_eq_false_iff_eq.mpr c178
                  clear c178
                  by_cases c179 : 0 < (t315.length : Int)
                  · rw [if_pos c179] at H
                    have c179b0 : decide (0 < (t315.length : Int)) = true := decide_eq_true c179
                    have c179b1 : decide (0 < t315.length) = true := decide_eq_true (by omega)
                    clear c179
                    by_cases c180 : t318 = (wrap64 (t329 + ((rd_T23 t315 0).f1)))
                    · rw [if_pos c180] at H
                      have c180b0 : (t318 == (wrap64 (t329 + ((rd_T23 t315 0).f1)))) = true := beq_iff_eq.mpr c180
                      have c180b1 : (t318 != (wrap64 (t329 + ((rd_T23 t315 0).f1)))) = false := bne_eq_false_iff_eq.mpr c180
                      clear c180
                      obtain rfl := Option.some.inj H
                      have q181 : (1 : Int) ≤ ((t315.length : Int) : Int) := of_decide_eq_true (by first | (with_reducible assumption) | assumption)
                      obtain ⟨i0181, hi0181, _, hsz181, _⟩ := info_parts info23
                      have hroom181 : t315.length ≤ co35 := (Kd.R_reads' HO_12.out).2.1
                      have hC181 : Kd.C k23 _ Ao35 t315.length t315 := (Kd.R_reads' HO_12.out).2.2
                      have hcut181 := cut_from (P := Tryd.prog) 33 23 .i64 Tryd.underlying33 hi0181 3 hsz181 Ao35 t315.length co35 1 (by omega) q181
                      have hr181 := Kd.C_drop (m := (1 : Int).toNat) (c := co35) hC181 (by omega) hroom181
                      obtain ⟨A181, hA181⟩ : ∃ A1, A1 = (if co35 = (1 : Int).toNat then Ao35 else (Ao35 : Option Addr).map (·.add ((1 : Int).toNat * 3))) := ⟨_, rfl⟩
                      obtain ⟨c181, hc181⟩ : ∃ c1, c1 = co35 - (1 : Int).toNat := ⟨_, rfl⟩
                      have hy181 : y325.length = t315.length - (1 : Int).toNat := (by rw [Ny325.out, List.length_drop] <;> omega)
                      rw [show (t315).drop (1 : Int).toNat = y325 from Ny325.out.symm] at hr181
                      replace hr181 : Kd.C k23 _ A181 y325.length y325 := (by rw [hA181]; exact hr181)
                      rw [← hy181, ← hA181, ← hc181] at hcut181
                      have HR328 := Aside0.mk hr181
                      have HC328 := Aside0.mk (show y325.length ≤ c181 from by rw [hy181, hc181]; exact Nat.sub_le_sub_right hroom181 _)
                      clear hr181 hC181 hroom181 hi0181 hsz181 hc181
                      have KY181 := Aside0.mk hy181
                      have KA181 := Aside0.mk hA181
                      clear hy181 hA181
                      have KL181 := Aside0.mk (show 1 ≤ t315.length from by omega)
                      replace q181 := eq_true q181
                      go_wp2_with (first | ((with_reducible refine gate_callee (f := 13) rfl ?_); refine goesL_ (some 122) rfl rfl Tryd.func13 (by kernel_rfl) rfl #[.slice A181 y325.length c181] rfl (by (try simp only [List.map_toArray, List.map_cons, List.map_nil]); first | done | rfl | (simp only [List.length_drop, List.length_take]; rfl)) ?_; (with_reducible refine (impl_MergeProgress.calls kj12 _ _ y325 t329 t330 t331 _ ?side1 ?side2 A177.out).mono ?_); (case side1 => repeat (first | exact (by repeat (first | (with_reducible exact HR328.out) | (with_reducible refine Kd.C_alloc ?_ _) | (with_reducible refine Kd.C_drewN ?_ _) | (with_reducible refine Kd.C_drew ?_) | exact HR328.out)) | (with_reducible refine Kd.C_alloc ?_ _) | (with_reducible refine Kd.C_drewN ?_ _) | (with_reducible refine Kd.C_drew ?_))); (case side2 => exact HC328.out); rintro e w182 ⟨rfl, hb⟩; refine ⟨_, rfl, ?_⟩; have n0_ := Aside0.mk (Kd.R_below (by (with_reducible repeat (first | apply Kd.R_alloc | apply Kd.R_drewN | apply Kd.R_drew)); exact HO_12.out) hb); have n1_ := Aside0.mk (blk_below (g := gb297) (o := .cells #[.int .i64 t294, .int .i64 t295, .int .i64 t296] 23 (0, 0)) (by (with_reducible repeat (first | refine blk_drewN ?_ _ | refine blk_drew ?_ | refine blk_alloc ?_ _)); exact BK297.out) hb); have n2_ := Aside0.mk (blk_below (g := gb303) (o := .cells #[.int .i64 t299, .int .i64 t300, .int .i64 t301] 23 (0, 0)) (by (with_reducible repeat (first | refine blk_drewN ?_ _ | refine blk_drew ?_ | refine blk_alloc ?_ _)); exact BK303.out) hb); have n3_ := Aside0.mk (blk_below (g := gb309) (o := .cells #[.int .i64 t305, .int .i64 t306, .int .i64 t307] 23 (0, 0)) (by (with_reducible repeat (first | refine blk_drewN ?_ _ | refine blk_drew ?_ | refine blk_alloc ?_ _)); exact BK309.out) hb); have n4_ := Aside0.mk (blk_below (g := gb314) (o := .cells #[.int .i64 t310, .int .i64 t311, .int .i64 t312] 23 (0, 0)) (by (with_reducible repeat (first | refine blk_drewN ?_ _ | refine blk_drew ?_ | refine blk_alloc ?_ _)); exact BK314.out) hb); have n5_ := Aside0.mk (Kd.C_below (by repeat (first | (with_reducible exact HR328.out) | (with_reducible refine Kd.C_alloc ?_ _) | (with_reducible refine Kd.C_drewN ?_ _) | (with_reducible refine Kd.C_drew ?_) | exact HR328.out)) hb); have n6_ := Aside0.mk (below_step (by repeat (first | (with_reducible first | exact HB.out | apply below_alloc | apply pw_below_drewN | apply below_drew1 | refine below_set ?_ GE297.out | refine below_set ?_ GE303.out | refine below_set ?_ GE309.out | refine below_set ?_ GE314.out) | exact HB.out)) hb); clear HO_12; clear BK297; clear BK303; clear BK309; clear BK314; clear HR328; clear HB; have HO_12 := n0_; have BK297 := n1_; have BK303 := n2_; have BK309 := n3_; have BK314 := n4_; have HR328 := n5_; have HB := n6_; clear n0_ n1_ n2_ n3_ n4_ n5_ n6_; (try clear hb); (try clear hb2); (try clear hk); (try clear hi); have p332 : 0 ≤ (0 : Int) := (by omega); have q332 : 0 < (t315.length : Int) := of_decide_eq_true (by first | (with_reducible assumption) | assumption); obtain ⟨ad332, e332, hx332_0, hx332_1, hx332_2⟩ := at_T23 (Kd.R_reads' HO_12.out).2.2 0 p332 q332; cases e332; have qi332 : (0 < t315.length) = True := eq_true (by omega); (try rw [show ((0 : Int)).toNat = 0 from rfl] at hx332_0); (try rw [show 0 * 3 = 0 from rfl] at hx332_0); (try rw [Addr.add_zero'] at hx332_0); (try rw [show ((0 : Int)).toNat = 0 from rfl] at hx332_1); (try rw [show 0 * 3 = 0 from rfl] at hx332_1); (try rw [Addr.add_zero'] at hx332_1); (try rw [show ((0 : Int)).toNat = 0 from rfl] at hx332_2); (try rw [show 0 * 3 = 0 from rfl] at hx332_2); (try rw [Addr.add_zero'] at hx332_2); replace p332 := eq_true p332; replace q332 := eq_true q332; have p333 : 0 ≤ (0 : Int) := (by omega); have q333 : 0 < (t315.length : Int) := of_decide_eq_true (by first | (with_reducible assumption) | assumption); obtain ⟨ad333, e333, hx333_0, hx333_1, hx333_2⟩ := at_T23 (Kd.R_reads' HO_12.out).2.2 0 p333 q333; obtain rfl : ad332 = ad333 := (by injection e333); have qi333 : (0 < t315.length) = True := eq_true (by omega); (try rw [show ((0 : Int)).toNat = 0 from rfl] at hx333_0); (try rw [show 0 * 3 = 0 from rfl] at hx333_0); (try rw [Addr.add_zero'] at hx333_0); (try rw [show ((0 : Int)).toNat = 0 from rfl] at hx333_1); (try rw [show 0 * 3 = 0 from rfl] at hx333_1); (try rw [Addr.add_zero'] at hx333_1); (try rw [show ((0 : Int)).toNat = 0 from rfl] at hx333_2); (try rw [show 0 * 3 = 0 from rfl] at hx333_2); (try rw [Addr.add_zero'] at hx333_2); replace p333 := eq_true p333; replace q333 := eq_true q333; have hpc297_0 : w182.cell? ⟨gb297, 0, none⟩ = some (.int .i64 t294) := (blk_cell BK297.out 0).trans rfl; have hpc297_1 : w182.cell? ⟨gb297, 1, none⟩ = some (.int .i64 t295) := (blk_cell BK297.out 1).trans rfl; have hpc297_2 : w182.cell? ⟨gb297, 2, none⟩ = some (.int .i64 t296) := (blk_cell BK297.out 2).trans rfl; have hpc303_0 : w182.cell? ⟨gb303, 0, none⟩ = some (.int .i64 t299) := (blk_cell BK303.out 0).trans rfl; have hpc303_1 : w182.cell? ⟨gb303, 1, none⟩ = some (.int .i64 t300) := (blk_cell BK303.out 1).trans rfl; have hpc303_2 : w182.cell? ⟨gb303, 2, none⟩ = some (.int .i64 t301) := (blk_cell BK303.out 2).trans rfl; have hpc309_0 : w182.cell? ⟨gb309, 0, none⟩ = some (.int .i64 t305) := (blk_cell BK309.out 0).trans rfl; have hpc309_1 : w182.cell? ⟨gb309, 1, none⟩ = some (.int .i64 t306) := (blk_cell BK309.out 1).trans rfl; have hpc309_2 : w182.cell? ⟨gb309, 2, none⟩ = some (.int .i64 t307) := (blk_cell BK309.out 2).trans rfl; have hpc314_0 : w182.cell? ⟨gb314, 0, none⟩ = some (.int .i64 t310) := (blk_cell BK314.out 0).trans rfl; have hpc314_1 : w182.cell? ⟨gb314, 1, none⟩ = some (.int .i64 t311) := (blk_cell BK314.out 1).trans rfl; have hpc314_2 : w182.cell? ⟨gb314, 2, none⟩ = some (.int .i64 t312) := (blk_cell BK314.out 2).trans rfl))
                      go_ret
                      exact ⟨by first | rfl | (simp [errW_none, errW_some] <;> rfl) | (simp [*, errW_none, errW_some] <;> rfl), by repeat (first | (with_reducible first | exact HB.out | apply below_alloc | apply pw_below_drewN | apply below_drew1 | refine below_set ?_ GE297.out | refine below_set ?_ GE303.out | refine below_set ?_ GE309.out | refine below_set ?_ GE314.out) | exact HB.out)⟩
                    · rw [if_neg c180] at H
                      have c180b0 : (t318 == (wrap64 (t329 + ((rd_T23 t315 0).f1)))) = false := beq_eq_false_iff_ne.mpr c180
                      have c180b1 : (t318 != (wrap64 (t329 + ((rd_T23 t315 0).f1)))) = true := bne_iff_ne.mpr c180
                      obtain rfl := Option.some.inj H
                      have q183 : (1 : Int) ≤ ((t315.length : Int) : Int) := of_decide_eq_true (by first | (with_reducible assumption) | assumption)
                      obtain ⟨i0183, hi0183, _, hsz183, _⟩ := info_parts info23
                      have hroom183 : t315.length ≤ co35 := (Kd.R_reads' HO_12.out).2.1
                      have hC183 : Kd.C k23 _ Ao35 t315.length t315 := (Kd.R_reads' HO_12.out).2.2
                      have hcut183 := cut_from (P := Tryd.prog) 33 23 .i64 Tryd.underlying33 hi0183 3 hsz183 Ao35 t315.length co35 1 (by omega) q183
                      have hr183 := Kd.C_drop (m := (1 : Int).toNat) (c := co35) hC183 (by omega) hroom183
                      obtain ⟨A183, hA183⟩ : ∃ A1, A1 = (if co35 = (1 : Int).toNat then Ao35 else (Ao35 : Option Addr).map (·.add ((1 : Int).toNat * 3))) := ⟨_, rfl⟩
                      obtain ⟨c183, hc183⟩ : ∃ c1, c1 = co35 - (1 : Int).toNat := ⟨_, rfl⟩
                      have hy183 : y325.length = t315.length - (1 : Int).toNat := (by rw [Ny325.out, List.length_drop] <;> omega)
                      rw [show (t315).drop (1 : Int).toNat = y325 from Ny325.out.symm] at hr183
                      replace hr183 : Kd.C k23 _ A183 y325.length y325 := (by rw [hA183]; exact hr183)
                      rw [← hy183, ← hA183, ← hc183] at hcut183
                      have HR328 := Aside0.mk hr183
                      have HC328 := Aside0.mk (show y325.length ≤ c183 from by rw [hy183, hc183]; exact Nat.sub_le_sub_right hroom183 _)
                      clear hr183 hC183 hroom183 hi0183 hsz183 hc183
                      have KY183 := Aside0.mk hy183
                      have KA183 := Aside0.mk hA183
                      clear hy183 hA183
                      have KL183 := Aside0.mk (show 1 ≤ t315.length from by omega)
                      replace q183 := eq_true q183
                      go_wp2_with (first | ((with_reducible refine gate_callee (f := 13) rfl ?_); refine goesL_ (some 122) rfl rfl Tryd.func13 (by kernel_rfl) rfl #[.slice A183 y325.length c183] rfl (by (try simp only [List.map_toArray, List.map_cons, List.map_nil]); first | done | rfl | (simp only [List.length_drop, List.length_take]; rfl)) ?_; (with_reducible refine (impl_MergeProgress.calls kj12 _ _ y325 t329 t330 t331 _ ?side1 ?side2 A177.out).mono ?_); (case side1 => repeat (first | exact (by repeat (first | (with_reducible exact HR328.out) | (with_reducible refine Kd.C_alloc ?_ _) | (with_reducible refine Kd.C_drewN ?_ _) | (with_reducible refine Kd.C_drew ?_) | exact HR328.out)) | (with_reducible refine Kd.C_alloc ?_ _) | (with_reducible refine Kd.C_drewN ?_ _) | (with_reducible refine Kd.C_drew ?_))); (case side2 => exact HC328.out); rintro e w184 ⟨rfl, hb⟩; refine ⟨_, rfl, ?_⟩; have n0_ := Aside0.mk (Kd.R_below (by (with_reducible repeat (first | apply Kd.R_alloc | apply Kd.R_drewN | apply Kd.R_drew)); exact HO_12.out) hb); have n1_ := Aside0.mk (blk_below (g := gb297) (o := .cells #[.int .i64 t294, .int .i64 t295, .int .i64 t296] 23 (0, 0)) (by (with_reducible repeat (first | refine blk_drewN ?_ _ | refine blk_drew ?_ | refine blk_alloc ?_ _)); exact BK297.out) hb); have n2_ := Aside0.mk (blk_below (g := gb303) (o := .cells #[.int .i64 t299, .int .i64 t300, .int .i64 t301] 23 (0, 0)) (by (with_reducible repeat (first | refine blk_drewN ?_ _ | refine blk_drew ?_ | refine blk_alloc ?_ _)); exact BK303.out) hb); have n3_ := Aside0.mk (blk_below (g := gb309) (o := .cells #[.int .i64 t305, .int .i64 t306, .int .i64 t307] 23 (0, 0)) (by (with_reducible repeat (first | refine blk_drewN ?_ _ | refine blk_drew ?_ | refine blk_alloc ?_ _)); exact BK309.out) hb); have n4_ := Aside0.mk (blk_below (g := gb314) (o := .cells #[.int .i64 t310, .int .i64 t311, .int .i64 t312] 23 (0, 0)) (by (with_reducible repeat (first | refine blk_drewN ?_ _ | refine blk_drew ?_ | refine blk_alloc ?_ _)); exact BK314.out) hb); have n5_ := Aside0.mk (Kd.C_below (by repeat (first | (with_reducible exact HR328.out) | (with_reducible refine Kd.C_alloc ?_ _) | (with_reducible refine Kd.C_drewN ?_ _) | (with_reducible refine Kd.C_drew ?_) | exact HR328.out)) hb); have n6_ := Aside0.mk (below_step (by repeat (first | (with_reducible first | exact HB.out | apply below_alloc | apply pw_below_drewN | apply below_drew1 | refine below_set ?_ GE297.out | refine below_set ?_ GE303.out | refine below_set ?_ GE309.out | refine below_set ?_ GE314.out) | exact HB.out)) hb); clear HO_12; clear BK297; clear BK303; clear BK309; clear BK314; clear HR328; clear HB; have HO_12 := n0_; have BK297 := n1_; have BK303 := n2_; have BK309 := n3_; have BK314 := n4_; have HR328 := n5_; have HB := n6_; clear n0_ n1_ n2_ n3_ n4_ n5_ n6_; (try clear hb); (try clear hb2); (try clear hk); (try clear hi); have p332 : 0 ≤ (0 : Int) := (by omega); have q332 : 0 < (t315.length : Int) := of_decide_eq_true (by first | (with_reducible assumption) | assumption); obtain ⟨ad332, e332, hx332_0, hx332_1, hx332_2⟩ := at_T23 (Kd.R_reads' HO_12.out).2.2 0 p332 q332; cases e332; have qi332 : (0 < t315.length) = True := eq_true (by omega); (try rw [show ((0 : Int)).toNat = 0 from rfl] at hx332_0); (try rw [show 0 * 3 = 0 from rfl] at hx332_0); (try rw [Addr.add_zero'] at hx332_0); (try rw [show ((0 : Int)).toNat = 0 from rfl] at hx332_1); (try rw [show 0 * 3 = 0 from rfl] at hx332_1); (try rw [Addr.add_zero'] at hx332_1); (try rw [show ((0 : Int)).toNat = 0 from rfl] at hx332_2); (try rw [show 0 * 3 = 0 from rfl] at hx332_2); (try rw [Addr.add_zero'] at hx332_2); replace p332 := eq_true p332; replace q332 := eq_true q332; have hpc297_0 : w184.cell? ⟨gb297, 0, none⟩ = some (.int .i64 t294) := (blk_cell BK297.out 0).trans rfl; have hpc297_1 : w184.cell? ⟨gb297, 1, none⟩ = some (.int .i64 t295) := (blk_cell BK297.out 1).trans rfl; have hpc297_2 : w184.cell? ⟨gb297, 2, none⟩ = some (.int .i64 t296) := (blk_cell BK297.out 2).trans rfl; have hpc303_0 : w184.cell? ⟨gb303, 0, none⟩ = some (.int .i64 t299) := (blk_cell BK303.out 0).trans rfl; have hpc303_1 : w184.cell? ⟨gb303, 1, none⟩ = some (.int .i64 t300) := (blk_cell BK303.out 1).trans rfl; have hpc303_2 : w184.cell? ⟨gb303, 2, none⟩ = some (.int .i64 t301) := (blk_cell BK303.out 2).trans rfl; have hpc309_0 : w184.cell? ⟨gb309, 0, none⟩ = some (.int .i64 t305) := (blk_cell BK309.out 0).trans rfl; have hpc309_1 : w184.cell? ⟨gb309, 1, none⟩ = some (.int .i64 t306) := (blk_cell BK309.out 1).trans rfl; have hpc309_2 : w184.cell? ⟨gb309, 2, none⟩ = some (.int .i64 t307) := (blk_cell BK309.out 2).trans rfl; have hpc314_0 : w184.cell? ⟨gb314, 0, none⟩ = some (.int .i64 t310) := (blk_cell BK314.out 0).trans rfl; have hpc314_1 : w184.cell? ⟨gb314, 1, none⟩ = some (.int .i64 t311) := (blk_cell BK314.out 1).trans rfl; have hpc314_2 : w184.cell? ⟨gb314, 2, none⟩ = some (.int .i64 t312) := (blk_cell BK314.out 2).trans rfl))
                      go_ret
                      exact ⟨by first | rfl | (simp [errW_none, errW_some] <;> rfl) | (simp [*, errW_none, errW_some] <;> rfl), by repeat (first | (with_reducible first | exact HB.out | apply below_alloc | apply pw_below_drewN | apply below_drew1 | refine below_set ?_ GE297.out | refine below_set ?_ GE303.out | refine below_set ?_ GE309.out | refine below_set ?_ GE314.out) | exact HB.out)⟩
                  · rw [if_neg c179] at H
                    exact absurd H (by simp)
                · rw [if_neg c178] at H
                  have c178b0 : (t331 == 0) = false := beq_eq_false_iff_ne.mpr c178
                  have c178b1 : (t331 != 0) = true := bne_iff_ne.mpr c178
                  obtain rfl := Option.some.inj H
                  have q185 : (1 : Int) ≤ ((t315.length : Int) : Int) := of_decide_eq_true (by first | (with_reducible assumption) | assumption)
                  obtain ⟨i0185, hi0185, _, hsz185, _⟩ := info_parts info23
                  have hroom185 : t315.length ≤ co35 := (Kd.R_reads' HO_12.out).2.1
                  have hC185 : Kd.C k23 _ Ao35 t315.length t315 := (Kd.R_reads' HO_12.out).2.2
                  have hcut185 := cut_from (P := Tryd.prog) 33 23 .i64 Tryd.underlying33 hi0185 3 hsz185 Ao35 t315.length co35 1 (by omega) q185
                  have hr185 := Kd.C_drop (m := (1 : Int).toNat) (c := co35) hC185 (by omega) hroom185
                  obtain ⟨A185, hA185⟩ : ∃ A1, A1 = (if co35 = (1 : Int).toNat then Ao35 else (Ao35 : Option Addr).map (·.add ((1 : Int).toNat * 3))) := ⟨_, rfl⟩
                  obtain ⟨c185, hc185⟩ : ∃ c1, c1 = co35 - (1 : Int).toNat := ⟨_, rfl⟩
                  have hy185 : y325.length = t315.length - (1 : Int).toNat := (by rw [Ny325.out, List.length_drop] <;> omega)
                  rw [show (t315).drop (1 : Int).toNat = y325 from Ny325.out.symm] at hr185
                  replace hr185 : Kd.C k23 _ A185 y325.length y325 := (by rw [hA185]; exact hr185)
                  rw [← hy185, ← hA185, ← hc185] at hcut185
                  have HR328 := Aside0.mk hr185
                  have HC328 := Aside0.mk (show y325.length ≤ c185 from by rw [hy185, hc185]; exact Nat.sub_le_sub_right hroom185 _)
                  clear hr185 hC185 hroom185 hi0185 hsz185 hc185
                  have KY185 := Aside0.mk hy185
                  have KA185 := Aside0.mk hA185
                  clear hy185 hA185
                  have KL185 := Aside0.mk (show 1 ≤ t315.length from by omega)
                  replace q185 := eq_true q185
                  go_wp2_with (first | ((with_reducible refine gate_callee (f := 13) rfl ?_); refine goesL_ (some 122) rfl rfl Tryd.func13 (by kernel_rfl) rfl #[.slice A185 y325.length c185] rfl (by (try simp only [List.map_toArray, List.map_cons, List.map_nil]); first | done | rfl | (simp only [List.length_drop, List.length_take]; rfl)) ?_; (with_reducible refine (impl_MergeProgress.calls kj12 _ _ y325 t329 t330 t331 _ ?side1 ?side2 A177.out).mono ?_); (case side1 => repeat (first | exact (by repeat (first | (with_reducible exact HR328.out) | (with_reducible refine Kd.C_alloc ?_ _) | (with_reducible refine Kd.C_drewN ?_ _) | (with_reducible refine Kd.C_drew ?_) | exact HR328.out)) | (with_reducible refine Kd.C_alloc ?_ _) | (with_reducible refine Kd.C_drewN ?_ _) | (with_reducible refine Kd.C_drew ?_))); (case side2 => exact HC328.out); rintro e w186 ⟨rfl, hb⟩; refine ⟨_, rfl, ?_⟩; have n0_ := Aside0.mk (Kd.R_below (by (with_reducible repeat (first | apply Kd.R_alloc | apply Kd.R_drewN | apply Kd.R_drew)); exact HO_12.out) hb); have n1_ := Aside0.mk (blk_below (g := gb297) (o := .cells #[.int .i64 t294, .int .i64 t295, .int .i64 t296] 23 (0, 0)) (by (with_reducible repeat (first | refine blk_drewN ?_ _ | refine blk_drew ?_ | refine blk_alloc ?_ _)); exact BK297.out) hb); have n2_ := Aside0.mk (blk_below (g := gb303) (o := .cells #[.int .i64 t299, .int .i64 t300, .int .i64 t301] 23 (0, 0)) (by (with_reducible repeat (first | refine blk_drewN ?_ _ | refine blk_drew ?_ | refine blk_alloc ?_ _)); exact BK303.out) hb); have n3_ := Aside0.mk (blk_below (g := gb309) (o := .cells #[.int .i64 t305, .int .i64 t306, .int .i64 t307] 23 (0, 0)) (by (with_reducible repeat (first | refine blk_drewN ?_ _ | refine blk_drew ?_ | refine blk_alloc ?_ _)); exact BK309.out) hb); have n4_ := Aside0.mk (blk_below (g := gb314) (o := .cells #[.int .i64 t310, .int .i64 t311, .int .i64 t312] 23 (0, 0)) (by (with_reducible repeat (first | refine blk_drewN ?_ _ | refine blk_drew ?_ | refine blk_alloc ?_ _)); exact BK314.out) hb); have n5_ := Aside0.mk (Kd.C_below (by repeat (first | (with_reducible exact HR328.out) | (with_reducible refine Kd.C_alloc ?_ _) | (with_reducible refine Kd.C_drewN ?_ _) | (with_reducible refine Kd.C_drew ?_) | exact HR328.out)) hb); have n6_ := Aside0.mk (below_step (by repeat (first | (with_reducible first | exact HB.out | apply below_alloc | apply pw_below_drewN | apply below_drew1 | refine below_set ?_ GE297.out | refine below_set ?_ GE303.out | refine below_set ?_ GE309.out | refine below_set ?_ GE314.out) | exact HB.out)) hb); clear HO_12; clear BK297; clear BK303; clear BK309; clear BK314; clear HR328; clear HB; have HO_12 := n0_; have BK297 := n1_; have BK303 := n2_; have BK309 := n3_; have BK314 := n4_; have HR328 := n5_; have HB := n6_; clear n0_ n1_ n2_ n3_ n4_ n5_ n6_; (try clear hb); (try clear hb2); (try clear hk); (try clear hi); have hpc297_0 : w186.cell? ⟨gb297, 0, none⟩ = some (.int .i64 t294) := (blk_cell BK297.out 0).trans rfl; have hpc297_1 : w186.cell? ⟨gb297, 1, none⟩ = some (.int .i64 t295) := (blk_cell BK297.out 1).trans rfl; have hpc297_2 : w186.cell? ⟨gb297, 2, none⟩ = some (.int .i64 t296) := (blk_cell BK297.out 2).trans rfl; have hpc303_0 : w186.cell? ⟨gb303, 0, none⟩ = some (.int .i64 t299) := (blk_cell BK303.out 0).trans rfl; have hpc303_1 : w186.cell? ⟨gb303, 1, none⟩ = some (.int .i64 t300) := (blk_cell BK303.out 1).trans rfl; have hpc303_2 : w186.cell? ⟨gb303, 2, none⟩ = some (.int .i64 t301) := (blk_cell BK303.out 2).trans rfl; have hpc309_0 : w186.cell? ⟨gb309, 0, none⟩ = some (.int .i64 t305) := (blk_cell BK309.out 0).trans rfl; have hpc309_1 : w186.cell? ⟨gb309, 1, none⟩ = some (.int .i64 t306) := (blk_cell BK309.out 1).trans rfl; have hpc309_2 : w186.cell? ⟨gb309, 2, none⟩ = some (.int .i64 t307) := (blk_cell BK309.out 2).trans rfl; have hpc314_0 : w186.cell? ⟨gb314, 0, none⟩ = some (.int .i64 t310) := (blk_cell BK314.out 0).trans rfl; have hpc314_1 : w186.cell? ⟨gb314, 1, none⟩ = some (.int .i64 t311) := (blk_cell BK314.out 1).trans rfl; have hpc314_2 : w186.cell? ⟨gb314, 2, none⟩ = some (.int .i64 t312) := (blk_cell BK314.out 2).trans rfl))
                  go_ret
                  exact ⟨by first | rfl | (simp [errW_none, errW_some] <;> rfl) | (simp [*, errW_none, errW_some] <;> rfl), by repeat (first | (with_reducible first | exact HB.out | apply below_alloc | apply pw_below_drewN | apply below_drew1 | refine below_set ?_ GE297.out | refine below_set ?_ GE303.out | refine below_set ?_ GE309.out | refine below_set ?_ GE314.out) | exact HB.out)⟩
              · rw [if_neg c176] at H
                exact absurd H (by simp)
          · rw [if_neg c173] at H
            have c173b0 : (t320 == 0) = false := beq_eq_false_iff_ne.mpr c173
            have c173b1 : (t320 != 0) = true := bne_iff_ne.mpr c173
            obtain rfl := Option.some.inj H
            go_wp2
            go_ret
            exact ⟨by first | rfl | (simp [errW_none, errW_some] <;> rfl) | (simp [*, errW_none, errW_some] <;> rfl), by repeat (first | (with_reducible first | exact HB.out | apply below_alloc | apply pw_below_drewN | apply below_drew1 | refine below_set ?_ GE297.out | refine below_set ?_ GE303.out | refine below_set ?_ GE309.out | refine below_set ?_ GE314.out) | exact HB.out)⟩

end Go.Proofs.YtgfobaggkkjhpaaDoor.PFnProgress
