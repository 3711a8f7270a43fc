/- Over the kit's printer by a driver of mine (hprint.py), with parts by hand: functions of the program as Lean functions, and that each call comes to exactly these answers. -/
import Derived.Test.YtopceddgiddhlaaDoorPFnRolledx0
import Derived.Test.YtopceddgiddhlaaDoorPFnRolledx3
import Derived.Test.YtopceddgiddhlaaDoorPFnRolledx12
import Derived.Test.YtopceddgiddhlaaDoorPFnRolledx13
import Derived.Test.YtopceddgiddhlaaDoorPFnRolledx14
import Derived.Test.YtopceddgiddhlaaDoorPFnRolledx16
import Derived.Test.YtopceddgiddhlaaDoorPFnRolledx19
import Derived.Test.YtopceddgiddhlaaDoorPFnRolledx21
namespace Go.Proofs.YtopceddgiddhlaaDoor.PFnRolled
open Go.RowKit Go.Proofs.YtopceddgiddhlaaDoorW.PrintWords Go.Proofs.YtopceddgiddhlaaDoorW.PrintLast Go.Proofs.YtopceddgiddhlaaDoorW.PrintMore
attribute [local go_sem] max2_int min2_int max_two min_two max_three min_three max_four min_four   -- for this text's walks alone
set_option linter.unusedVariables false
set_option linter.unusedSimpArgs false

/-! ### laws_FnRolled: function 5 -/
mutual
def laws_FnRolled.j0 : Nat → ByteArray → Int → Int → Int → Bool → Option (Bool)
 | 0, _, _, _, _, _ => none
 | k + 1, x3, x4, x5, x6, x122 => if x122 = true then (some false) else (if x5 = 0 then ((impl_BackWord.f x3).bind fun bt552 => (if bt552.2 = 0 then (laws_FnRolled.j1 k x3 x4 x6 bt552.1 bt552.2 (decide ((x3.size : Int) > 50))) else (laws_FnRolled.j1 k x3 x4 x6 bt552.1 bt552.2 true))) else (some true))
def laws_FnRolled.j1 : Nat → ByteArray → Int → Int → ByteArray → Int → Bool → Option (Bool)
 | 0, _, _, _, _, _, _ => none
 | k + 1, x3, x4, x6, x23, x24, x136 => if x136 = true then (some (x24 == 0)) else (if x3.size + x23.size ≤ 9223372036854775807 then ((impl_RollOrder.f k (x3 ++ x23)).bind fun bt554 => (laws_FnRolled.l0 k x3 x4 x6 bt554.1 bt554.2 (⟨#[]⟩ : ByteArray) 0)) else (none))
def laws_FnRolled.l0 : Nat → ByteArray → Int → Int → Int → Int → ByteArray → Int → Option (Bool)
 | 0, _, _, _, _, _, _, _ => none
 | k + 1, x3, x4, x6, x25, x26, x27, x28 => if x28 < x6 then (if x28 < 4 then (if x27.size + x3.size ≤ 9223372036854775807 then (laws_FnRolled.l0 k x3 x4 x6 x25 x26 (x27 ++ x3) (wrap64 (x28 + 1))) else (none)) else ((impl_RollWord.f k x27).bind fun bt556 => (if x26 = 0 then (if x25 = 1 then (if bt556.2 = 0 then (if x4 ≥ 1 then (if x4 ≤ 4 then (some (bt556.1 == 0)) else (some false)) else (some false)) else (some false)) else (some false)) else (some false)))) else ((impl_RollWord.f k x27).bind fun bt558 => (if x26 = 0 then (if x25 = 1 then (if bt558.2 = 0 then (if x4 ≥ 1 then (if x4 ≤ 4 then (some (bt558.1 == 0)) else (some false)) else (some false)) else (some false)) else (some false)) else (some false)))
end
def laws_FnRolled.f (k : Nat) (l0 : List Int) : Option (Bool) := (laws_big.f l0).bind fun t524 => (if t524 = true then (some true) else ((spec_DrawRollOrder.f k l0).bind fun t525 => ((impl_RollOrder.f k t525).bind fun bt526 => ((spec_RollOrder.f k t525).bind fun bt528 => ((impl_RollWord.f k t525).bind fun bt530 => ((spec_RollWord.f k t525).bind fun bt532 => ((spec_DrawTouchingFaces.f k l0).bind fun bt534 => ((impl_TouchingFaces.f bt534.1 bt534.2).bind fun bt536 => ((spec_TouchingFaces.f bt534.1 bt534.2).bind fun bt538 => ((spec_DrawFacesOf.f k l0).bind fun t540 => ((impl_FacesOf.f k t540).bind fun bt543 => ((spec_FacesOf.f k t540).bind fun bt547 => (if bt526.2 = bt528.2 then (if bt526.1 = bt528.1 then (if bt530.2 = bt532.2 then (if bt530.1 = bt532.1 then (if bt536.2 = bt538.2 then (if (bt536.1 != bt538.1) = true then (laws_FnRolled.j0 k t525 bt526.1 bt526.2 bt528.1 true) else (if bt543.2 = bt547.2 then ((laws_likeInts.f k bt543.1 bt547.1).bind fun t551 => (laws_FnRolled.j0 k t525 bt526.1 bt526.2 bt528.1 (!t551))) else (laws_FnRolled.j0 k t525 bt526.1 bt526.2 bt528.1 true))) else (laws_FnRolled.j0 k t525 bt526.1 bt526.2 bt528.1 true)) else (laws_FnRolled.j0 k t525 bt526.1 bt526.2 bt528.1 true)) else (laws_FnRolled.j0 k t525 bt526.1 bt526.2 bt528.1 true)) else (laws_FnRolled.j0 k t525 bt526.1 bt526.2 bt528.1 true)) else (laws_FnRolled.j0 k t525 bt526.1 bt526.2 bt528.1 true))))))))))))))
theorem laws_FnRolled.mono_l : ∀ k, (∀ y0 y1 y2 y3 y4, LeO (laws_FnRolled.j0 k y0 y1 y2 y3 y4) (laws_FnRolled.j0 (k + 1) y0 y1 y2 y3 y4)) ∧ (∀ y0 y1 y2 y3 y4 y5, LeO (laws_FnRolled.j1 k y0 y1 y2 y3 y4 y5) (laws_FnRolled.j1 (k + 1) y0 y1 y2 y3 y4 y5)) ∧ (∀ y0 y1 y2 y3 y4 y5 y6, LeO (laws_FnRolled.l0 k y0 y1 y2 y3 y4 y5 y6) (laws_FnRolled.l0 (k + 1) y0 y1 y2 y3 y4 y5 y6))
 | 0 => ⟨fun _ _ _ _ _ r h => by simp [laws_FnRolled.j0] at h, fun _ _ _ _ _ _ r h => by simp [laws_FnRolled.j1] at h, fun _ _ _ _ _ _ _ r h => by simp [laws_FnRolled.l0] at h⟩
 | k + 1 => by
  obtain ⟨ih0, ih1, ih2⟩ := laws_FnRolled.mono_l k
  refine ⟨?_, ?_, ?_⟩
  ·intro y0 y1 y2 y3 y4
   unfold laws_FnRolled.j0
   with_reducible (repeat' first | exact ih0 _ _ _ _ _ | exact ih1 _ _ _ _ _ _ | exact ih2 _ _ _ _ _ _ _ | exact impl_FacesOf.mono _ _ | exact impl_RollOrder.mono _ _ | exact impl_RollWord.mono _ _ | exact laws_likeInts.mono _ _ _ | exact spec_DrawFacesOf.mono _ _ | exact spec_DrawRollOrder.mono _ _ | exact spec_DrawTouchingFaces.mono _ _ | exact spec_FacesOf.mono _ _ | exact spec_RollOrder.mono _ _ | exact spec_RollWord.mono _ _ | exact LeO.refl _ | exact LeO.none _ | refine LeO.ite ?_ ?_ | refine LeO.bind ?_ (fun _ => ?_))
  ·intro y0 y1 y2 y3 y4 y5
   unfold laws_FnRolled.j1
   with_reducible (repeat' first | exact ih0 _ _ _ _ _ | exact ih1 _ _ _ _ _ _ | exact ih2 _ _ _ _ _ _ _ | exact impl_FacesOf.mono _ _ | exact impl_RollOrder.mono _ _ | exact impl_RollWord.mono _ _ | exact laws_likeInts.mono _ _ _ | exact spec_DrawFacesOf.mono _ _ | exact spec_DrawRollOrder.mono _ _ | exact spec_DrawTouchingFaces.mono _ _ | exact spec_FacesOf.mono _ _ | exact spec_RollOrder.mono _ _ | exact spec_RollWord.mono _ _ | exact LeO.refl _ | exact LeO.none _ | refine LeO.ite ?_ ?_ | refine LeO.bind ?_ (fun _ => ?_))
  ·intro y0 y1 y2 y3 y4 y5 y6
   unfold laws_FnRolled.l0
   with_reducible (repeat' first | exact ih0 _ _ _ _ _ | exact ih1 _ _ _ _ _ _ | exact ih2 _ _ _ _ _ _ _ | exact impl_FacesOf.mono _ _ | exact impl_RollOrder.mono _ _ | exact impl_RollWord.mono _ _ | exact laws_likeInts.mono _ _ _ | exact spec_DrawFacesOf.mono _ _ | exact spec_DrawRollOrder.mono _ _ | exact spec_DrawTouchingFaces.mono _ _ | exact spec_FacesOf.mono _ _ | exact spec_RollOrder.mono _ _ | exact spec_RollWord.mono _ _ | exact LeO.refl _ | exact LeO.none _ | refine LeO.ite ?_ ?_ | refine LeO.bind ?_ (fun _ => ?_))
theorem laws_FnRolled.mono : ∀ a0 k, LeO (laws_FnRolled.f k a0) (laws_FnRolled.f (k + 1) a0) := by
 intro a0 k
 obtain ⟨ih0, ih1, ih2⟩ := laws_FnRolled.mono_l k
 unfold laws_FnRolled.f
 with_reducible (repeat' first | exact ih0 _ _ _ _ _ | exact ih1 _ _ _ _ _ _ | exact ih2 _ _ _ _ _ _ _ | exact impl_FacesOf.mono _ _ | exact impl_RollOrder.mono _ _ | exact impl_RollWord.mono _ _ | exact laws_likeInts.mono _ _ _ | exact spec_DrawFacesOf.mono _ _ | exact spec_DrawRollOrder.mono _ _ | exact spec_DrawTouchingFaces.mono _ _ | exact spec_FacesOf.mono _ _ | exact spec_RollOrder.mono _ _ | exact spec_RollWord.mono _ _ | exact LeO.refl _ | exact LeO.none _ | refine LeO.ite ?_ ?_ | refine LeO.bind ?_ (fun _ => ?_))
set_option maxHeartbeats 8000000 in
set_option maxRecDepth 100000 in
theorem laws_FnRolled.calls (k : Nat) (A0 : Option Addr) (c0 : Nat) (l0 : List Int) (r : Bool) (w : World) (hr0 : Kd.C (Kd.int .u8) w A0 l0.length l0) (hc0 : l0.length ≤ c0) (h : laws_FnRolled.f k l0 = some r) (hG : Laid w) :
  Calls Tryd.prog 5 #[.slice A0 l0.length c0] w fun e w' => e = .returned (.bool r) ∧ Below w.heap.size w w' := by
 have HR0 := Aside0.mk hr0
 have HC0 := Aside0.mk hc0
 clear hr0 hc0
 have HB := a0_ (Below.refl w.heap.size w)
 have H := h
 clear h
 unfold laws_FnRolled.f at H
 obtain ⟨t524, A2, H⟩ := bs_ H
 by_cases c3 : t524 = true
 ·subst c3
  rw [if_pos rfl] at H
  obtain rfl := Option.some.inj H
  go_enter Tryd.func5, Tryd.ntmps5
  go_wp2_with (first | ((with_reducible refine gate_callee (f := 6) rfl ?_); refine goesL_ (some 32) rfl rfl Tryd.func6 kr_ rfl #[.slice A0 l0.length c0] rfl ta_ ?_; (with_reducible refine (laws_big.calls _ _ l0 true _ ?side1 ?side2 A2.out).mono ?_); (case side1 => exact ca_ HR0.out); (case side2 => exact HC0.out); rintro e w' ⟨rfl, ⟨nd, rfl⟩⟩; refine ⟨_, rfl, ?_⟩))
  go_ret
  exact ⟨er_, bl0_⟩
 ·replace c3 := Bool.eq_false_iff.mpr c3
  subst c3
  rw [if_neg (show ¬ (false = true) by decide)] at H
  obtain ⟨t525, A4, H⟩ := bs_ H
  obtain ⟨⟨t526, t527⟩, A5, H⟩ := bs_ H
  dsimp only at H
  obtain ⟨⟨t528, t529⟩, A6, H⟩ := bs_ H
  dsimp only at H
  obtain ⟨⟨t530, t531⟩, A7, H⟩ := bs_ H
  dsimp only at H
  obtain ⟨⟨t532, t533⟩, A8, H⟩ := bs_ H
  dsimp only at H
  obtain ⟨⟨t534, t535⟩, A9, H⟩ := bs_ H
  dsimp only at H
  obtain ⟨⟨t536, t537⟩, A10, H⟩ := bs_ H
  dsimp only at H
  obtain ⟨⟨t538, t539⟩, A11, H⟩ := bs_ H
  dsimp only at H
  obtain ⟨t540, A12, H⟩ := bs_ H
  obtain ⟨⟨t543, t544⟩, A13, H⟩ := bs_ H
  dsimp only at H
  obtain ⟨⟨t547, t548⟩, A14, H⟩ := bs_ H
  dsimp only at H
  have HC15 := Aside0.mk H
  clear H
  go_enter Tryd.func5, Tryd.ntmps5
  go_upto_region 14 with (first | ((with_reducible refine gate_callee (f := 6) rfl ?_); refine goesL_ (some 32) rfl rfl Tryd.func6 kr_ rfl #[.slice A0 l0.length c0] rfl ta_ ?_; (with_reducible refine (laws_big.calls _ _ l0 false _ ?side1 ?side2 A2.out).mono ?_); (case side1 => exact ca_ HR0.out); (case side2 => exact HC0.out); rintro e w' ⟨rfl, ⟨nd, rfl⟩⟩; refine ⟨_, rfl, ?_⟩) | ((with_reducible refine gate_callee (f := 21) rfl ?_); refine goesL_ (some 34) rfl rfl Tryd.func21 kr_ rfl #[.slice A0 l0.length c0] rfl ta_ ?_; (with_reducible refine (spec_DrawRollOrder.calls k _ _ l0 t525 _ ?side1 ?side2 A4.out).mono ?_); (case side1 => exact ca_ HR0.out); (case side2 => exact HC0.out); rintro e w16 ⟨rfl, hb⟩; refine ⟨_, rfl, ?_⟩; replace HB := a0_ (below_step (bl0_) hb); (try clear hb); (try clear hb2); (try clear hk); (try clear hi)) | ((with_reducible refine gate_callee (f := 22) rfl ?_); refine goesL_ (some 37) rfl rfl Tryd.func22 kr_ rfl #[.string t525] rfl ta_ ?_; (with_reducible refine (impl_RollOrder.calls k t525 t526 t527 _ A5.out (Laid.below hG (by repeat (first | exact HB.out | exact Below.refl _ _ | apply below_alloc | apply pw_below_drewN | apply below_drew1)))).mono ?_); rintro e w17 ⟨rfl, hb⟩; refine ⟨_, rfl, ?_⟩; replace HB := a0_ (below_step (bl0_) hb); (try clear hb); (try clear hb2); (try clear hk); (try clear hi)) | ((with_reducible refine gate_callee (f := 23) rfl ?_); refine goesL_ (some 42) rfl rfl Tryd.func23 kr_ rfl #[.string t525] rfl ta_ ?_; (with_reducible refine (spec_RollOrder.calls k t525 t528 t529 _ A6.out).mono ?_); rintro e w18 ⟨rfl, hb⟩; refine ⟨_, rfl, ?_⟩; replace HB := a0_ (below_step (bl0_) hb); (try clear hb); (try clear hb2); (try clear hk); (try clear hi)) | ((with_reducible refine gate_callee (f := 24) rfl ?_); refine goesL_ (some 47) rfl rfl Tryd.func24 kr_ rfl #[.string t525] rfl ta_ ?_; (with_reducible refine (impl_RollWord.calls k t525 t530 t531 _ A7.out (Laid.below hG (by repeat (first | exact HB.out | exact Below.refl _ _ | apply below_alloc | apply pw_below_drewN | apply below_drew1)))).mono ?_); rintro e w19 ⟨rfl, hb⟩; refine ⟨_, rfl, ?_⟩; replace HB := a0_ (below_step (bl0_) hb); (try clear hb); (try clear hb2); (try clear hk); (try clear hi)) | ((with_reducible refine gate_callee (f := 25) rfl ?_); refine goesL_ (some 52) rfl rfl Tryd.func25 kr_ rfl #[.string t525] rfl ta_ ?_; (with_reducible refine (spec_RollWord.calls k t525 t532 t533 _ A8.out).mono ?_); rintro e w20 ⟨rfl, hb⟩; refine ⟨_, rfl, ?_⟩; replace HB := a0_ (below_step (bl0_) hb); (try clear hb); (try clear hb2); (try clear hk); (try clear hi)) | ((with_reducible refine gate_callee (f := 26) rfl ?_); refine goesL_ (some 57) rfl rfl Tryd.func26 kr_ rfl #[.slice A0 l0.length c0] rfl ta_ ?_; (with_reducible refine (spec_DrawTouchingFaces.calls k _ _ l0 t534 t535 _ ?side1 ?side2 A9.out).mono ?_); (case side1 => exact ca_ (Kd.C_below HR0.out HB.out)); (case side2 => exact HC0.out); rintro e w21 ⟨rfl, hb⟩; refine ⟨_, rfl, ?_⟩; replace HB := a0_ (below_step (bl0_) hb); (try clear hb); (try clear hb2); (try clear hk); (try clear hi)) | ((with_reducible refine gate_callee (f := 27) rfl ?_); refine goesL_ (some 63) rfl rfl Tryd.func27 kr_ rfl #[.int .i64 t534, .int .i64 t535] rfl ta_ ?_; (with_reducible refine (impl_TouchingFaces.calls t534 t535 t536 t537 _ A10.out).mono ?_); rintro e w' ⟨rfl, ⟨nd, rfl⟩⟩; refine ⟨_, rfl, ?_⟩) | ((with_reducible refine gate_callee (f := 28) rfl ?_); refine goesL_ (some 69) rfl rfl Tryd.func28 kr_ rfl #[.int .i64 t534, .int .i64 t535] rfl ta_ ?_; (with_reducible refine (spec_TouchingFaces.calls t534 t535 t538 t539 _ A11.out).mono ?_); rintro e w' ⟨rfl, ⟨nd, rfl⟩⟩; refine ⟨_, rfl, ?_⟩) | ((with_reducible refine gate_callee (f := 29) rfl ?_); refine goesL_ (some 73) rfl rfl Tryd.func29 kr_ rfl #[.slice A0 l0.length c0] rfl ta_ ?_; (with_reducible refine (spec_DrawFacesOf.calls k _ _ l0 t540 _ ?side1 ?side2 A12.out).mono ?_); (case side1 => repeat (first | exact (Kd.C_below HR0.out (bl0_)) | (with_reducible refine Kd.C_alloc ?_ _) | (with_reducible refine Kd.C_drewN ?_ _) | (with_reducible refine Kd.C_drew ?_))); (case side2 => exact HC0.out); rintro e w22 ⟨v541, rfl, ho0, hb⟩; refine ⟨_, rfl, ?_⟩; have HO542 := a0_ (Kd.R_lower ho0 (below_size (bl0_))); replace HB := a0_ (below_step (bl0_) hb); (try clear hb); (try clear hb2); (try clear hk); (try clear hi); (try clear ho0); obtain ⟨Ao23, co23, eo23⟩ := Kd.R_slice HO542.out; subst eo23) | ((with_reducible refine gate_callee (f := 30) rfl ?_); refine goesL_ (some 76) rfl rfl Tryd.func30 kr_ rfl #[.slice Ao23 t540.length co23] rfl ta_ ?_; (with_reducible refine (impl_FacesOf.calls k _ _ t540 t543 t544 _ ?side1 ?side2 A13.out (Laid.below hG (by repeat (first | exact HB.out | exact Below.refl _ _ | apply below_alloc | apply pw_below_drewN | apply below_drew1)))).mono ?_); (case side1 => exact ca_ (Kd.R_reads' HO542.out).2.2); (case side2 => exact (Kd.R_reads' HO542.out).2.1); rintro e w24 ⟨v545, rfl, ho0, hb⟩; refine ⟨_, rfl, ?_⟩; replace HO542 := a0_ (Kd.R_below (ra_ HO542.out) hb); have HO546 := a0_ (Kd.R_lower ho0 (below_size (bl0_))); replace HB := a0_ (below_step (bl0_) hb); (try clear hb); (try clear hb2); (try clear hk); (try clear hi); (try clear ho0)) | ((with_reducible refine gate_callee (f := 31) rfl ?_); refine goesL_ (some 81) rfl rfl Tryd.func31 kr_ rfl #[.slice Ao23 t540.length co23] rfl ta_ ?_; (with_reducible refine (spec_FacesOf.calls k _ _ t540 t547 t548 _ ?side1 ?side2 A14.out).mono ?_); (case side1 => exact ca_ (Kd.R_reads' HO542.out).2.2); (case side2 => exact (Kd.R_reads' HO542.out).2.1); rintro e w25 ⟨v549, rfl, ho0, hb⟩; refine ⟨_, rfl, ?_⟩; replace HO542 := a0_ (Kd.R_below (ra_ HO542.out) hb); have HO550 := a0_ (Kd.R_lower (Kd.R_new' ho0 (Kd.R_lt (ra_ HO546.out))) (below_size (bl0_))); replace HO546 := a0_ (Kd.R_elder' (ra_ HO546.out) (Kd.R_base ho0) hb); replace HB := a0_ (below_step (bl0_) hb); (try clear hb); (try clear hb2); (try clear hk); (try clear hi); (try clear ho0)))
  (try simp only [Act.put, List.setIfInBounds_toArray, List.set_cons_zero, List.set_cons_succ])
  go_cut [122] (fun v122 wc => ∃ (kq : Nat) (x122_14 : Bool), v122 = .bool x122_14 ∧ Aside0 (laws_FnRolled.j0 kq t525 t526 t527 t528 x122_14 = some r) ∧ Aside0 (kq ≤ k) ∧ Aside0 (Below w.heap.size w wc))
  case first =>
   have H := HC15.out
   clear HC15
   by_cases c26 : t527 = t529
   ·rw [if_pos c26] at H
    have c26b0 : (t527 == t529) = true := beq_iff_eq.mpr c26
    have c26b1 : (t527 != t529) = false := bne_eq_false_iff_eq.mpr c26
    clear c26
    (first | rw [c26b0] | (simp only [i64_w, i32_w]; rw [c26b0]) | skip)
    by_cases c27 : t526 = t528
    ·rw [if_pos c27] at H
     have c27b0 : (t526 == t528) = true := beq_iff_eq.mpr c27
     have c27b1 : (t526 != t528) = false := bne_eq_false_iff_eq.mpr c27
     clear c27
     by_cases c28 : t531 = t533
     ·rw [if_pos c28] at H
      have c28b0 : (t531 == t533) = true := beq_iff_eq.mpr c28
      have c28b1 : (t531 != t533) = false := bne_eq_false_iff_eq.mpr c28
      clear c28
      by_cases c29 : t530 = t532
      ·rw [if_pos c29] at H
       have c29b0 : (t530 == t532) = true := beq_iff_eq.mpr c29
       have c29b1 : (t530 != t532) = false := bne_eq_false_iff_eq.mpr c29
       clear c29
       by_cases c30 : t537 = t539
       ·rw [if_pos c30] at H
        have c30b0 : (t537 == t539) = true := beq_iff_eq.mpr c30
        have c30b1 : (t537 != t539) = false := bne_eq_false_iff_eq.mpr c30
        clear c30
        by_cases c31 : (t536 != t538) = true
        ·rw [if_pos c31] at H
         have c31b0 : (t536 != t538) = true := c31
         (try (have c31b1 : decide (t536 = t538) = false := by simpa using c31))
         (try (have c31b2 : (t536 == t538) = false := by simpa using c31))
         (try (have c31b3 : ¬ (t536 = t538) := by simpa using c31))
         clear c31
         have H' := Aside0.mk H
         clear H
         go_wp2
         go_meet
         case rel => exact ⟨_, (true), rs_, H', ⟨by first | omega | exact Nat.le_refl _⟩, ⟨bl0_⟩⟩
        ·rw [if_neg c31] at H
         have c31b0 : (t536 != t538) = false := by simpa using c31
         (try (have c31b1 : decide (t536 = t538) = true := by simpa using c31))
         (try (have c31b2 : (t536 == t538) = true := by simpa using c31))
         clear c31
         by_cases c32 : t544 = t548
         ·rw [if_pos c32] at H
          have c32b0 : (t544 == t548) = true := beq_iff_eq.mpr c32
          have c32b1 : (t544 != t548) = false := bne_eq_false_iff_eq.mpr c32
          clear c32
          obtain ⟨t551, A33, H⟩ := bs_ H
          have H' := Aside0.mk H
          clear H
          obtain ⟨Ao34, co34, eo34⟩ := Kd.R_slice HO546.out
          subst eo34
          obtain ⟨Ao35, co35, eo35⟩ := Kd.R_slice HO550.out
          subst eo35
          go_wp2_with (first | (go_at_call 15; (with_reducible refine (laws_likeInts.calls k _ _ t543 _ _ t547 t551 _ ?side1 ?side2 ?side3 ?side4 A33.out).mono ?_); (case side1 => exact ca_ (Kd.R_reads' HO546.out).2.2); (case side2 => exact (Kd.R_reads' HO546.out).2.1); (case side3 => exact ca_ (Kd.R_reads' HO550.out).2.2); (case side4 => exact (Kd.R_reads' HO550.out).2.1); rintro e w' ⟨rfl, ⟨nd, rfl⟩⟩))
          go_meet
          case rel => exact ⟨_, (!t551), rs_, H', ⟨by first | omega | exact Nat.le_refl _⟩, ⟨bl0_⟩⟩
         ·rw [if_neg c32] at H
          have c32b0 : (t544 == t548) = false := beq_eq_false_iff_ne.mpr c32
          have c32b1 : (t544 != t548) = true := bne_iff_ne.mpr c32
          have H' := Aside0.mk H
          clear H
          go_wp2
          go_meet
          case rel => exact ⟨_, (true), rs_, H', ⟨by first | omega | exact Nat.le_refl _⟩, ⟨bl0_⟩⟩
       ·rw [if_neg c30] at H
        have c30b0 : (t537 == t539) = false := beq_eq_false_iff_ne.mpr c30
        have c30b1 : (t537 != t539) = true := bne_iff_ne.mpr c30
        have H' := Aside0.mk H
        clear H
        go_wp2
        go_meet
        case rel => exact ⟨_, (true), rs_, H', ⟨by first | omega | exact Nat.le_refl _⟩, ⟨bl0_⟩⟩
      ·rw [if_neg c29] at H
       have c29b0 : (t530 == t532) = false := beq_eq_false_iff_ne.mpr c29
       have c29b1 : (t530 != t532) = true := bne_iff_ne.mpr c29
       have H' := Aside0.mk H
       clear H
       go_wp2
       go_meet
       case rel => exact ⟨_, (true), rs_, H', ⟨by first | omega | exact Nat.le_refl _⟩, ⟨bl0_⟩⟩
     ·rw [if_neg c28] at H
      have c28b0 : (t531 == t533) = false := beq_eq_false_iff_ne.mpr c28
      have c28b1 : (t531 != t533) = true := bne_iff_ne.mpr c28
      have H' := Aside0.mk H
      clear H
      go_wp2
      go_meet
      case rel => exact ⟨_, (true), rs_, H', ⟨by first | omega | exact Nat.le_refl _⟩, ⟨bl0_⟩⟩
    ·rw [if_neg c27] at H
     have c27b0 : (t526 == t528) = false := beq_eq_false_iff_ne.mpr c27
     have c27b1 : (t526 != t528) = true := bne_iff_ne.mpr c27
     have H' := Aside0.mk H
     clear H
     go_wp2
     go_meet
     case rel => exact ⟨_, (true), rs_, H', ⟨by first | omega | exact Nat.le_refl _⟩, ⟨bl0_⟩⟩
   ·rw [if_neg c26] at H
    have c26b0 : (t527 == t529) = false := beq_eq_false_iff_ne.mpr c26
    have c26b1 : (t527 != t529) = true := bne_iff_ne.mpr c26
    (first | rw [c26b0] | (simp only [i64_w, i32_w]; rw [c26b0]) | skip)
    have H' := Aside0.mk H
    clear H
    go_wp2
    go_meet
    case rel => exact ⟨_, (true), rs_, H', ⟨by first | omega | exact Nat.le_refl _⟩, ⟨bl0_⟩⟩
  case rest =>
   clear HC15
   try clear c2
   try clear p2
   try clear c3
   try clear c5
   try clear c6
   try clear c21
   try clear c22
   try clear c23
   try clear c24
   try clear c25
   try clear c26
   try clear c26b0
   try clear c26b1
   try clear c27
   try clear c27b0
   try clear c27b1
   try clear c28
   try clear c28b0
   try clear c28b1
   try clear c29
   try clear c29b0
   try clear c29b1
   try clear c30
   try clear c30b0
   try clear c30b1
   try clear c31
   try clear c31b0
   try clear c31b1
   try clear c31b2
   try clear c32
   try clear c32b0
   try clear c32b1
   obtain ⟨kq, x122_14, rfl, HA, HJ14, HB⟩ := hcut
   cases kq with
   | zero => exact absurd HA.out (by simp [laws_FnRolled.j0])
   | succ kj14 =>
    have H := HA.out
    clear HA
    simp only [laws_FnRolled.j0] at H
    by_cases c36 : x122_14 = true
    ·subst c36
     rw [if_pos rfl] at H
     obtain rfl := Option.some.inj H
     go_wp2
     go_ret
     exact ⟨er_, bl0_⟩
    ·replace c36 := Bool.eq_false_iff.mpr c36
     subst c36
     rw [if_neg (show ¬ (false = true) by decide)] at H
     by_cases c37 : t527 = 0
     ·rw [if_pos c37] at H
      have c37b0 : (t527 == 0) = true := beq_iff_eq.mpr c37
      have c37b1 : (t527 != 0) = false := bne_eq_false_iff_eq.mpr c37
      clear c37
      obtain ⟨⟨t552, t553⟩, A38, H⟩ := bs_ H
      dsimp only at H
      have HC39 := Aside0.mk H
      clear H
      go_upto_region 19 with (first | ((with_reducible refine gate_callee (f := 32) rfl ?_); refine goesL_ (some 127) rfl rfl Tryd.func32 kr_ rfl #[.string t525] rfl ta_ ?_; (with_reducible refine (impl_BackWord.calls t525 t552 t553 _ A38.out).mono ?_); rintro e w40 ⟨rfl, hb⟩; refine ⟨_, rfl, ?_⟩; replace HB := a0_ (below_step (bl0_) hb); (try clear hb); (try clear hb2); (try clear hk); (try clear hi)))
      (try simp only [Act.put, List.setIfInBounds_toArray, List.set_cons_zero, List.set_cons_succ])
      go_cut [136] (fun v136 wc => ∃ (kq : Nat) (x136_38 : Bool), v136 = .bool x136_38 ∧ Aside0 (laws_FnRolled.j1 kq t525 t526 t528 t552 t553 x136_38 = some r) ∧ Aside0 (kq ≤ kj14) ∧ Aside0 (Below w.heap.size w wc))
      case first =>
       have H := HC39.out
       clear HC39
       by_cases c41 : t553 = 0
       ·rw [if_pos c41] at H
        have c41b0 : (t553 == 0) = true := beq_iff_eq.mpr c41
        have c41b1 : (t553 != 0) = false := bne_eq_false_iff_eq.mpr c41
        clear c41
        (first | rw [c41b0] | (simp only [i64_w, i32_w]; rw [c41b0]) | skip)
        have H' := Aside0.mk H
        clear H
        go_wp2
        go_meet
        case rel => exact ⟨_, (decide ((t525.size : Int) > 50)), rs_, H', ⟨by have := HJ14.out; first | omega | exact Nat.le_refl _⟩, ⟨bl0_⟩⟩
       ·rw [if_neg c41] at H
        have c41b0 : (t553 == 0) = false := beq_eq_false_iff_ne.mpr c41
        have c41b1 : (t553 != 0) = true := bne_iff_ne.mpr c41
        (first | rw [c41b0] | (simp only [i64_w, i32_w]; rw [c41b0]) | skip)
        have H' := Aside0.mk H
        clear H
        go_wp2
        go_meet
        case rel => exact ⟨_, (true), rs_, H', ⟨by have := HJ14.out; first | omega | exact Nat.le_refl _⟩, ⟨bl0_⟩⟩
      case rest =>
       clear HC39
       try clear c2
       try clear p2
       try clear c3
       try clear c4
       try clear c5
       try clear c6
       try clear c21
       try clear c22
       try clear c23
       try clear c24
       try clear c25
       try clear c26
       try clear c26b0
       try clear c26b1
       try clear c27
       try clear c27b0
       try clear c27b1
       try clear c28
       try clear c28b0
       try clear c28b1
       try clear c29
       try clear c29b0
       try clear c29b1
       try clear c30
       try clear c30b0
       try clear c30b1
       try clear c31
       try clear c31b0
       try clear c31b1
       try clear c31b2
       try clear c32
       try clear c32b0
       try clear c32b1
       try clear c36
       try clear c37
       try clear c37b0
       try clear c37b1
       try clear c41
       try clear c41b0
       try clear c41b1
       try clear p2
       obtain ⟨kq, x136_38, rfl, HA, HJ38, HB⟩ := hcut
       cases kq with
       | zero => exact absurd HA.out (by simp [laws_FnRolled.j1])
       | succ kj38 =>
        have H := HA.out
        clear HA
        simp only [laws_FnRolled.j1] at H
        by_cases c42 : x136_38 = true
        ·subst c42
         rw [if_pos rfl] at H
         obtain rfl := Option.some.inj H
         go_wp2
         go_ret
         exact ⟨er_, bl0_⟩
        ·replace c42 := Bool.eq_false_iff.mpr c42
         subst c42
         rw [if_neg (show ¬ (false = true) by decide)] at H
         by_cases c43 : t525.size + t552.size ≤ 9223372036854775807
         ·rw [if_pos c43] at H
          have c43b0 := eq_true c43
          have c43b1 : decide (t525.size + t552.size ≤ 9223372036854775807) = true := decide_eq_true c43
          try have c43b2 : (9223372036854775807 < t525.size + t552.size) = False := eq_false (Nat.not_lt.2 c43)
          obtain ⟨⟨t554, t555⟩, A44, H⟩ := bs_ H
          dsimp only at H
          have H' := Aside0.mk H
          clear H
          go_wp2_with (first | ((with_reducible refine gate_callee (f := 22) rfl ?_); refine goesL_ (some 143) rfl rfl Tryd.func22 kr_ rfl #[.string (t525 ++ t552)] rfl ta_ ?_; (with_reducible refine (impl_RollOrder.calls kj38 (t525 ++ t552) t554 t555 _ A44.out (Laid.below hG (by repeat (first | exact HB.out | exact Below.refl _ _ | apply below_alloc | apply pw_below_drewN | apply below_drew1)))).mono ?_); rintro e w45 ⟨rfl, hb⟩; refine ⟨_, rfl, ?_⟩; replace HB := a0_ (below_step (bl0_) hb); (try clear hb); (try clear hb2); (try clear hk); (try clear hi)))
          go_loopg [27, 28] kj38 (fun kq v27 v28 w' => ∃ (x27_3 : ByteArray) (x28_3 : Int), v27 = .string x27_3 ∧ v28 = .int .i64 x28_3 ∧ Aside0 (laws_FnRolled.l0 kq t525 t526 t528 t554 t555 x27_3 x28_3 = some r) ∧ Aside0 (kq ≤ kj38) ∧ Aside0 (Below w.heap.size w w'))
          case atStart => exact ⟨((⟨#[]⟩ : ByteArray)), (0), rs_, rs_, H', ⟨Nat.le_refl _⟩, ⟨bl0_⟩⟩
          case round =>
           clear H'
           try clear c2
           try clear p2
           try clear c3
           try clear c4
           try clear c5
           try clear c6
           try clear c21
           try clear c22
           try clear c23
           try clear c24
           try clear c25
           try clear c26
           try clear c26b0
           try clear c26b1
           try clear c27
           try clear c27b0
           try clear c27b1
           try clear c28
           try clear c28b0
           try clear c28b1
           try clear c29
           try clear c29b0
           try clear c29b1
           try clear c30
           try clear c30b0
           try clear c30b1
           try clear c31
           try clear c31b0
           try clear c31b1
           try clear c31b2
           try clear c32
           try clear c32b0
           try clear c32b1
           try clear c36
           try clear c37
           try clear c37b0
           try clear c37b1
           try clear c41
           try clear c41b0
           try clear c41b1
           try clear c42
           try clear c43
           try clear c43b0
           try clear c43b1
           try clear c43b2
           try clear p2
           obtain ⟨x27_3, x28_3, rfl, rfl, HA, HK3, HB⟩ := hrel
           cases gk with
           | zero => exact absurd HA.out (by simp [laws_FnRolled.l0])
           | succ k3 =>
            have H := HA.out
            clear HA
            simp only [laws_FnRolled.l0] at H
            by_cases c46 : x28_3 < t528
            ·rw [if_pos c46] at H
             have c46b0 : decide (x28_3 < t528) = true := decide_eq_true c46
             clear c46
             by_cases c47 : x28_3 < 4
             ·rw [if_pos c47] at H
              have c47b0 : decide (x28_3 < 4) = true := decide_eq_true c47
              clear c47
              by_cases c48 : x27_3.size + t525.size ≤ 9223372036854775807
              ·rw [if_pos c48] at H
               have c48b0 := eq_true c48
               have c48b1 : decide (x27_3.size + t525.size ≤ 9223372036854775807) = true := decide_eq_true c48
               try have c48b2 : (9223372036854775807 < x27_3.size + t525.size) = False := eq_false (Nat.not_lt.2 c48)
               have H' := Aside0.mk H
               clear H
               go_wp2
               go_roundg k3
               case measure => have := HJ14.out; have := HJ38.out; have := HK3.out; omega
               case rel => exact ⟨(x27_3 ++ t525), (wrap64 (x28_3 + 1)), rs_, rs_, H', ⟨by have := HJ14.out; have := HJ38.out; have := HK3.out; omega⟩, ⟨bl0_⟩⟩
              ·rw [if_neg c48] at H
               exact absurd H (by simp)
             ·rw [if_neg c47] at H
              have c47b0 : decide (x28_3 < 4) = false := decide_eq_false c47
              clear c47
              obtain ⟨⟨t556, t557⟩, A49, H⟩ := bs_ H
              dsimp only at H
              by_cases c50 : t555 = 0
              ·rw [if_pos c50] at H
               have c50b0 : (t555 == 0) = true := beq_iff_eq.mpr c50
               have c50b1 : (t555 != 0) = false := bne_eq_false_iff_eq.mpr c50
               clear c50
               by_cases c51 : t554 = 1
               ·rw [if_pos c51] at H
                have c51b0 : (t554 == 1) = true := beq_iff_eq.mpr c51
                have c51b1 : (t554 != 1) = false := bne_eq_false_iff_eq.mpr c51
                clear c51
                by_cases c52 : t557 = 0
                ·rw [if_pos c52] at H
                 have c52b0 : (t557 == 0) = true := beq_iff_eq.mpr c52
                 have c52b1 : (t557 != 0) = false := bne_eq_false_iff_eq.mpr c52
                 clear c52
                 by_cases c53 : t526 ≥ 1
                 ·rw [if_pos c53] at H
                  have c53b0 : decide (1 ≤ t526) = true := decide_eq_true c53
                  clear c53
                  by_cases c54 : t526 ≤ 4
                  ·rw [if_pos c54] at H
                   have c54b0 : decide (t526 ≤ 4) = true := decide_eq_true c54
                   clear c54
                   obtain rfl := Option.some.inj H
                   go_wp2_with (first | ((with_reducible refine gate_callee (f := 24) rfl ?_); refine goesL_ (some 160) rfl rfl Tryd.func24 kr_ rfl #[.string x27_3] rfl ta_ ?_; (with_reducible refine (impl_RollWord.calls k3 x27_3 t556 t557 _ A49.out (Laid.below hG (by repeat (first | exact HB.out | exact Below.refl _ _ | apply below_alloc | apply pw_below_drewN | apply below_drew1)))).mono ?_); rintro e w55 ⟨rfl, hb⟩; refine ⟨_, rfl, ?_⟩; replace HB := a0_ (below_step (bl0_) hb); (try clear hb); (try clear hb2); (try clear hk); (try clear hi)))
                   go_ret
                   exact ⟨er_, bl0_⟩
                  ·rw [if_neg c54] at H
                   have c54b0 : decide (t526 ≤ 4) = false := decide_eq_false c54
                   clear c54
                   obtain rfl := Option.some.inj H
                   go_wp2_with (first | ((with_reducible refine gate_callee (f := 24) rfl ?_); refine goesL_ (some 160) rfl rfl Tryd.func24 kr_ rfl #[.string x27_3] rfl ta_ ?_; (with_reducible refine (impl_RollWord.calls k3 x27_3 t556 t557 _ A49.out (Laid.below hG (by repeat (first | exact HB.out | exact Below.refl _ _ | apply below_alloc | apply pw_below_drewN | apply below_drew1)))).mono ?_); rintro e w56 ⟨rfl, hb⟩; refine ⟨_, rfl, ?_⟩; replace HB := a0_ (below_step (bl0_) hb); (try clear hb); (try clear hb2); (try clear hk); (try clear hi)))
                   go_ret
                   exact ⟨er_, bl0_⟩
                 ·rw [if_neg c53] at H
                  have c53b0 : decide (1 ≤ t526) = false := decide_eq_false c53
                  clear c53
                  obtain rfl := Option.some.inj H
                  go_wp2_with (first | ((with_reducible refine gate_callee (f := 24) rfl ?_); refine goesL_ (some 160) rfl rfl Tryd.func24 kr_ rfl #[.string x27_3] rfl ta_ ?_; (with_reducible refine (impl_RollWord.calls k3 x27_3 t556 t557 _ A49.out (Laid.below hG (by repeat (first | exact HB.out | exact Below.refl _ _ | apply below_alloc | apply pw_below_drewN | apply below_drew1)))).mono ?_); rintro e w57 ⟨rfl, hb⟩; refine ⟨_, rfl, ?_⟩; replace HB := a0_ (below_step (bl0_) hb); (try clear hb); (try clear hb2); (try clear hk); (try clear hi)))
                  go_ret
                  exact ⟨er_, bl0_⟩
                ·rw [if_neg c52] at H
                 have c52b0 : (t557 == 0) = false := beq_eq_false_iff_ne.mpr c52
                 have c52b1 : (t557 != 0) = true := bne_iff_ne.mpr c52
                 obtain rfl := Option.some.inj H
                 go_wp2_with (first | ((with_reducible refine gate_callee (f := 24) rfl ?_); refine goesL_ (some 160) rfl rfl Tryd.func24 kr_ rfl #[.string x27_3] rfl ta_ ?_; (with_reducible refine (impl_RollWord.calls k3 x27_3 t556 t557 _ A49.out (Laid.below hG (by repeat (first | exact HB.out | exact Below.refl _ _ | apply below_alloc | apply pw_below_drewN | apply below_drew1)))).mono ?_); rintro e w58 ⟨rfl, hb⟩; refine ⟨_, rfl, ?_⟩; replace HB := a0_ (below_step (bl0_) hb); (try clear hb); (try clear hb2); (try clear hk); (try clear hi)))
                 go_ret
                 exact ⟨er_, bl0_⟩
               ·rw [if_neg c51] at H
                have c51b0 : (t554 == 1) = false := beq_eq_false_iff_ne.mpr c51
                have c51b1 : (t554 != 1) = true := bne_iff_ne.mpr c51
                obtain rfl := Option.some.inj H
                go_wp2_with (first | ((with_reducible refine gate_callee (f := 24) rfl ?_); refine goesL_ (some 160) rfl rfl Tryd.func24 kr_ rfl #[.string x27_3] rfl ta_ ?_; (with_reducible refine (impl_RollWord.calls k3 x27_3 t556 t557 _ A49.out (Laid.below hG (by repeat (first | exact HB.out | exact Below.refl _ _ | apply below_alloc | apply pw_below_drewN | apply below_drew1)))).mono ?_); rintro e w59 ⟨rfl, hb⟩; refine ⟨_, rfl, ?_⟩; replace HB := a0_ (below_step (bl0_) hb); (try clear hb); (try clear hb2); (try clear hk); (try clear hi)))
                go_ret
                exact ⟨er_, bl0_⟩
              ·rw [if_neg c50] at H
               have c50b0 : (t555 == 0) = false := beq_eq_false_iff_ne.mpr c50
               have c50b1 : (t555 != 0) = true := bne_iff_ne.mpr c50
               obtain rfl := Option.some.inj H
               go_wp2_with (first | ((with_reducible refine gate_callee (f := 24) rfl ?_); refine goesL_ (some 160) rfl rfl Tryd.func24 kr_ rfl #[.string x27_3] rfl ta_ ?_; (with_reducible refine (impl_RollWord.calls k3 x27_3 t556 t557 _ A49.out (Laid.below hG (by repeat (first | exact HB.out | exact Below.refl _ _ | apply below_alloc | apply pw_below_drewN | apply below_drew1)))).mono ?_); rintro e w60 ⟨rfl, hb⟩; refine ⟨_, rfl, ?_⟩; replace HB := a0_ (below_step (bl0_) hb); (try clear hb); (try clear hb2); (try clear hk); (try clear hi)))
               go_ret
               exact ⟨er_, bl0_⟩
            ·rw [if_neg c46] at H
             have c46b0 : decide (x28_3 < t528) = false := decide_eq_false c46
             clear c46
             obtain ⟨⟨t558, t559⟩, A61, H⟩ := bs_ H
             dsimp only at H
             by_cases c62 : t555 = 0
             ·rw [if_pos c62] at H
              have c62b0 : (t555 == 0) = true := beq_iff_eq.mpr c62
              have c62b1 : (t555 != 0) = false := bne_eq_false_iff_eq.mpr c62
              clear c62
              by_cases c63 : t554 = 1
              ·rw [if_pos c63] at H
               have c63b0 : (t554 == 1) = true := beq_iff_eq.mpr c63
               have c63b1 : (t554 != 1) = false := bne_eq_false_iff_eq.mpr c63
               clear c63
               by_cases c64 : t559 = 0
               ·rw [if_pos c64] at H
                have c64b0 : (t559 == 0) = true := beq_iff_eq.mpr c64
                have c64b1 : (t559 != 0) = false := bne_eq_false_iff_eq.mpr c64
                clear c64
                by_cases c65 : t526 ≥ 1
                ·rw [if_pos c65] at H
                 have c65b0 : decide (1 ≤ t526) = true := decide_eq_true c65
                 clear c65
                 by_cases c66 : t526 ≤ 4
                 ·rw [if_pos c66] at H
                  have c66b0 : decide (t526 ≤ 4) = true := decide_eq_true c66
                  clear c66
                  obtain rfl := Option.some.inj H
                  go_wp2_with (first | ((with_reducible refine gate_callee (f := 24) rfl ?_); refine goesL_ (some 160) rfl rfl Tryd.func24 kr_ rfl #[.string x27_3] rfl ta_ ?_; (with_reducible refine (impl_RollWord.calls k3 x27_3 t558 t559 _ A61.out (Laid.below hG (by repeat (first | exact HB.out | exact Below.refl _ _ | apply below_alloc | apply pw_below_drewN | apply below_drew1)))).mono ?_); rintro e w67 ⟨rfl, hb⟩; refine ⟨_, rfl, ?_⟩; replace HB := a0_ (below_step (bl0_) hb); (try clear hb); (try clear hb2); (try clear hk); (try clear hi)))
                  go_ret
                  exact ⟨er_, bl0_⟩
                 ·rw [if_neg c66] at H
                  have c66b0 : decide (t526 ≤ 4) = false := decide_eq_false c66
                  clear c66
                  obtain rfl := Option.some.inj H
                  go_wp2_with (first | ((with_reducible refine gate_callee (f := 24) rfl ?_); refine goesL_ (some 160) rfl rfl Tryd.func24 kr_ rfl #[.string x27_3] rfl ta_ ?_; (with_reducible refine (impl_RollWord.calls k3 x27_3 t558 t559 _ A61.out (Laid.below hG (by repeat (first | exact HB.out | exact Below.refl _ _ | apply below_alloc | apply pw_below_drewN | apply below_drew1)))).mono ?_); rintro e w68 ⟨rfl, hb⟩; refine ⟨_, rfl, ?_⟩; replace HB := a0_ (below_step (bl0_) hb); (try clear hb); (try clear hb2); (try clear hk); (try clear hi)))
                  go_ret
                  exact ⟨er_, bl0_⟩
                ·rw [if_neg c65] at H
                 have c65b0 : decide (1 ≤ t526) = false := decide_eq_false c65
                 clear c65
                 obtain rfl := Option.some.inj H
                 go_wp2_with (first | ((with_reducible refine gate_callee (f := 24) rfl ?_); refine goesL_ (some 160) rfl rfl Tryd.func24 kr_ rfl #[.string x27_3] rfl ta_ ?_; (with_reducible refine (impl_RollWord.calls k3 x27_3 t558 t559 _ A61.out (Laid.below hG (by repeat (first | exact HB.out | exact Below.refl _ _ | apply below_alloc | apply pw_below_drewN | apply below_drew1)))).mono ?_); rintro e w69 ⟨rfl, hb⟩; refine ⟨_, rfl, ?_⟩; replace HB := a0_ (below_step (bl0_) hb); (try clear hb); (try clear hb2); (try clear hk); (try clear hi)))
                 go_ret
                 exact ⟨er_, bl0_⟩
               ·rw [if_neg c64] at H
                have c64b0 : (t559 == 0) = false := beq_eq_false_iff_ne.mpr c64
                have c64b1 : (t559 != 0) = true := bne_iff_ne.mpr c64
                obtain rfl := Option.some.inj H
                go_wp2_with (first | ((with_reducible refine gate_callee (f := 24) rfl ?_); refine goesL_ (some 160) rfl rfl Tryd.func24 kr_ rfl #[.string x27_3] rfl ta_ ?_; (with_reducible refine (impl_RollWord.calls k3 x27_3 t558 t559 _ A61.out (Laid.below hG (by repeat (first | exact HB.out | exact Below.refl _ _ | apply below_alloc | apply pw_below_drewN | apply below_drew1)))).mono ?_); rintro e w70 ⟨rfl, hb⟩; refine ⟨_, rfl, ?_⟩; replace HB := a0_ (below_step (bl0_) hb); (try clear hb); (try clear hb2); (try clear hk); (try clear hi)))
                go_ret
                exact ⟨er_, bl0_⟩
              ·rw [if_neg c63] at H
               have c63b0 : (t554 == 1) = false := beq_eq_false_iff_ne.mpr c63
               have c63b1 : (t554 != 1) = true := bne_iff_ne.mpr c63
               obtain rfl := Option.some.inj H
               go_wp2_with (first | ((with_reducible refine gate_callee (f := 24) rfl ?_); refine goesL_ (some 160) rfl rfl Tryd.func24 kr_ rfl #[.string x27_3] rfl ta_ ?_; (with_reducible refine (impl_RollWord.calls k3 x27_3 t558 t559 _ A61.out (Laid.below hG (by repeat (first | exact HB.out | exact Below.refl _ _ | apply below_alloc | apply pw_below_drewN | apply below_drew1)))).mono ?_); rintro e w71 ⟨rfl, hb⟩; refine ⟨_, rfl, ?_⟩; replace HB := a0_ (below_step (bl0_) hb); (try clear hb); (try clear hb2); (try clear hk); (try clear hi)))
               go_ret
               exact ⟨er_, bl0_⟩
             ·rw [if_neg c62] at H
              have c62b0 : (t555 == 0) = false := beq_eq_false_iff_ne.mpr c62
              have c62b1 : (t555 != 0) = true := bne_iff_ne.mpr c62
              obtain rfl := Option.some.inj H
              go_wp2_with (first | ((with_reducible refine gate_callee (f := 24) rfl ?_); refine goesL_ (some 160) rfl rfl Tryd.func24 kr_ rfl #[.string x27_3] rfl ta_ ?_; (with_reducible refine (impl_RollWord.calls k3 x27_3 t558 t559 _ A61.out (Laid.below hG (by repeat (first | exact HB.out | exact Below.refl _ _ | apply below_alloc | apply pw_below_drewN | apply below_drew1)))).mono ?_); rintro e w72 ⟨rfl, hb⟩; refine ⟨_, rfl, ?_⟩; replace HB := a0_ (below_step (bl0_) hb); (try clear hb); (try clear hb2); (try clear hk); (try clear hi)))
              go_ret
              exact ⟨er_, bl0_⟩
         ·rw [if_neg c43] at H
          exact absurd H (by simp)
     ·rw [if_neg c37] at H
      have c37b0 : (t527 == 0) = false := beq_eq_false_iff_ne.mpr c37
      have c37b1 : (t527 != 0) = true := bne_iff_ne.mpr c37
      obtain rfl := Option.some.inj H
      go_wp2
      go_ret
      exact ⟨er_, bl0_⟩

end Go.Proofs.YtopceddgiddhlaaDoor.PFnRolled
