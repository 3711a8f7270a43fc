/- Over the kit's printer by a driver of mine (hprint.py), with parts by hand: functions of the program as Lean functions, and that each call comes to exactly these answers. -/
import Derived.Test.YtmdjkmfocgelnaaGreatPFnListedx0
import Derived.Test.YtmdjkmfocgelnaaGreatPFnListedx2
import Derived.Test.YtmdjkmfocgelnaaGreatPFnListedx3
import Derived.Test.YtmdjkmfocgelnaaGreatPFnListedx7
import Derived.Test.YtmdjkmfocgelnaaGreatPFnListedx11
import Derived.Test.YtmdjkmfocgelnaaGreatPFnListedx14
import Derived.Test.YtmdjkmfocgelnaaGreatPFnListedx16
import Derived.Test.YtmdjkmfocgelnaaGreatPFnListedx19
namespace Go.Proofs.YtmdjkmfocgelnaaGreat.PFnListed
open Go.RowKit Go.Proofs.YtmdjkmfocgelnaaGreatW.PrintWords Go.Proofs.YtmdjkmfocgelnaaGreatW.PrintLast Go.Proofs.YtmdjkmfocgelnaaGreatW.PrintMore
attribute [local go_sem] max2_int min2_int max_two min_two max_three min_three max_four min_four   -- for this text's walks alone
set_option linter.unusedVariables false
set_option linter.unusedSimpArgs false

/-! ### laws_FnListed: function 4 -/
def laws_FnListed.j0 : Nat → List Int → Int → List (List (S46)) → Bool → Option (Bool)
 | 0, _, _, _, _ => none
 | k + 1, x0, x5, x6, x60 => if x60 = true then (some false) else (if x5 = 0 then ((laws_roll.f k x0 501).bind fun bt489 => ((laws_dice_below.f bt489.1 bt489.2.1 bt489.2.2 (x6.length : Int)).bind fun bt493 => (if 0 ≤ bt493.1 then (if bt493.1 < (x6.length : Int) then ((impl_RankOf.f k (rd_L3 x6 bt493.1)).bind fun bt497 => (if bt497.2 = 0 then (if bt497.1 = bt493.1 then ((impl_IsConnected.f k (rd_L3 x6 bt493.1)).bind fun t500 => (some t500)) else (some false)) else (some false))) else (none)) else (none)))) else (some true))
def laws_FnListed.f (k : Nat) (l0 : List Int) : Option (Bool) := (laws_big.f l0).bind fun t471 => (if t471 = true then (some true) else ((spec_DrawFixedShapes.f k l0).bind fun t472 => ((impl_FixedShapes.f t472).bind fun bt473 => ((spec_FixedShapes.f k t472).bind fun bt477 => ((spec_DrawRankOf.f k l0).bind fun t481 => ((impl_RankOf.f k t481).bind fun bt484 => ((spec_RankOf.f k t481).bind fun bt486 => (if bt473.2 = bt477.2 then ((laws_likeShapes.f k bt473.1 bt477.1).bind fun t488 => (if t488 = true then (if bt484.2 = bt486.2 then (laws_FnListed.j0 k l0 bt473.2 bt477.1 (bt484.1 != bt486.1)) else (laws_FnListed.j0 k l0 bt473.2 bt477.1 true)) else (laws_FnListed.j0 k l0 bt473.2 bt477.1 true))) else (laws_FnListed.j0 k l0 bt473.2 bt477.1 true)))))))))
theorem laws_FnListed.mono_l : ∀ k, (∀ y0 y1 y2 y3, LeO (laws_FnListed.j0 k y0 y1 y2 y3) (laws_FnListed.j0 (k + 1) y0 y1 y2 y3))
 | 0 => fun _ _ _ _ r h => by simp [laws_FnListed.j0] at h
 | k + 1 => by
  have ih0 := laws_FnListed.mono_l k
  ·intro y0 y1 y2 y3
   unfold laws_FnListed.j0
   with_reducible (repeat' first | exact ih0 _ _ _ _ | exact impl_IsConnected.mono _ _ | exact impl_RankOf.mono _ _ | exact laws_likeShapes.mono _ _ _ | exact laws_roll.mono _ _ _ | exact spec_DrawFixedShapes.mono _ _ | exact spec_DrawRankOf.mono _ _ | exact spec_FixedShapes.mono _ _ | exact spec_RankOf.mono _ _ | exact LeO.refl _ | exact LeO.none _ | refine LeO.ite ?_ ?_ | refine LeO.bind ?_ (fun _ => ?_))
theorem laws_FnListed.mono : ∀ a0 k, LeO (laws_FnListed.f k a0) (laws_FnListed.f (k + 1) a0) := by
 intro a0 k
 have ih0 := laws_FnListed.mono_l k
 unfold laws_FnListed.f
 with_reducible (repeat' first | exact ih0 _ _ _ _ | exact impl_IsConnected.mono _ _ | exact impl_RankOf.mono _ _ | exact laws_likeShapes.mono _ _ _ | exact laws_roll.mono _ _ _ | exact spec_DrawFixedShapes.mono _ _ | exact spec_DrawRankOf.mono _ _ | exact spec_FixedShapes.mono _ _ | exact spec_RankOf.mono _ _ | exact LeO.refl _ | exact LeO.none _ | refine LeO.ite ?_ ?_ | refine LeO.bind ?_ (fun _ => ?_))
set_option maxHeartbeats 8000000 in
set_option maxRecDepth 100000 in
theorem laws_FnListed.calls (k : Nat) (A0 : Option Addr) (c0 : Nat) (l0 : List Int) (r : Bool) (w : World) (hr0 : Kd.C (Kd.int .u8) w A0 l0.length l0) (hc0 : l0.length ≤ c0) (h : laws_FnListed.f k l0 = some r) :
  Calls Tryz.prog 4 #[.slice A0 l0.length c0] w fun e w' => e = .returned (.bool r) ∧ Below w.heap.size w w' := by
 have HR0 := Aside0.mk hr0
 have HC0 := Aside0.mk hc0
 clear hr0 hc0
 have HB := a0_ (Below.refl w.heap.size w)
 have H := h
 clear h
 unfold laws_FnListed.f at H
 obtain ⟨t471, A2, H⟩ := bs_ H
 by_cases c3 : t471 = true
 ·subst c3
  rw [if_pos rfl] at H
  obtain rfl := Option.some.inj H
  go_enter Tryz.func4, Tryz.ntmps4
  go_wp2_with (first | ((with_reducible refine gate_callee (f := 6) rfl ?_); refine goesL_ (some 17) rfl rfl Tryz.func6 kr_ rfl #[.slice A0 l0.length c0] rfl ta_ ?_; (with_reducible refine (laws_big.calls _ _ l0 true _ ?side1 ?side2 A2.out).mono ?_); (case side1 => exact ca_ HR0.out); (case side2 => exact HC0.out); rintro e w' ⟨rfl, ⟨nd, rfl⟩⟩; refine ⟨_, rfl, ?_⟩))
  go_ret
  exact ⟨er_, bl0_⟩
 ·replace c3 := Bool.eq_false_iff.mpr c3
  subst c3
  rw [if_neg (show ¬ (false = true) by decide)] at H
  obtain ⟨t472, A4, H⟩ := bs_ H
  obtain ⟨⟨t473, t476⟩, A5, H⟩ := bs_ H
  dsimp only at H
  obtain ⟨⟨t477, t480⟩, A6, H⟩ := bs_ H
  dsimp only at H
  obtain ⟨t481, A7, H⟩ := bs_ H
  obtain ⟨⟨t484, t485⟩, A8, H⟩ := bs_ H
  dsimp only at H
  obtain ⟨⟨t486, t487⟩, A9, H⟩ := bs_ H
  dsimp only at H
  have HC10 := Aside0.mk H
  clear H
  go_enter Tryz.func4, Tryz.ntmps4
  go_upto_region 9 with (first | ((with_reducible refine gate_callee (f := 6) rfl ?_); refine goesL_ (some 17) rfl rfl Tryz.func6 kr_ rfl #[.slice A0 l0.length c0] rfl ta_ ?_; (with_reducible refine (laws_big.calls _ _ l0 false _ ?side1 ?side2 A2.out).mono ?_); (case side1 => exact ca_ HR0.out); (case side2 => exact HC0.out); rintro e w' ⟨rfl, ⟨nd, rfl⟩⟩; refine ⟨_, rfl, ?_⟩) | ((with_reducible refine gate_callee (f := 17) rfl ?_); refine goesL_ (some 19) rfl rfl Tryz.func17 kr_ rfl #[.slice A0 l0.length c0] rfl ta_ ?_; (with_reducible refine (spec_DrawFixedShapes.calls k _ _ l0 t472 _ ?side1 ?side2 A4.out).mono ?_); (case side1 => exact ca_ HR0.out); (case side2 => exact HC0.out); rintro e w11 ⟨rfl, hb⟩; refine ⟨_, rfl, ?_⟩; replace HB := a0_ (below_step (bl0_) hb); (try clear hb); (try clear hb2); (try clear hk); (try clear hi)) | ((with_reducible refine gate_callee (f := 18) rfl ?_); refine goesL_ (some 22) rfl rfl Tryz.func18 kr_ rfl #[.int .i64 t472] rfl ta_ ?_; (with_reducible refine (impl_FixedShapes.calls t472 t473 t476 _ A5.out).mono ?_); rintro e w12 ⟨v474, rfl, ho0, hb⟩; refine ⟨_, rfl, ?_⟩; have HO475 := a0_ (Kd.V_lower (Kd.V_mono (ok' := fun k_ => True) ho0 (fun k_ hk_ => trivial)) (below_size (bl0_))); replace HB := a0_ (below_step (bl0_) hb); (try clear hb); (try clear hb2); (try clear hk); (try clear hi); (try clear ho0)) | ((with_reducible refine gate_callee (f := 19) rfl ?_); refine goesL_ (some 27) rfl rfl Tryz.func19 kr_ rfl #[.int .i64 t472] rfl ta_ ?_; (with_reducible refine (spec_FixedShapes.calls k t472 t477 t480 _ A6.out).mono ?_); rintro e w13 ⟨v478, rfl, ho0, hb⟩; refine ⟨_, rfl, ?_⟩; replace HO475 := a0_ (Kd.V_below (va_ HO475.out) hb); have HO479 := a0_ (Kd.V_lower (Kd.V_mono (ok' := fun k_ => True) ho0 (fun k_ hk_ => trivial)) (below_size (bl0_))); replace HB := a0_ (below_step (bl0_) hb); (try clear hb); (try clear hb2); (try clear hk); (try clear hi); (try clear ho0)) | ((with_reducible refine gate_callee (f := 20) rfl ?_); refine goesL_ (some 31) rfl rfl Tryz.func20 kr_ rfl #[.slice A0 l0.length c0] rfl ta_ ?_; (with_reducible refine (spec_DrawRankOf.calls k _ _ l0 t481 _ ?side1 ?side2 A7.out).mono ?_); (case side1 => exact ca_ (Kd.C_below HR0.out HB.out)); (case side2 => exact HC0.out); rintro e w14 ⟨v482, rfl, ho0, hb⟩; refine ⟨_, rfl, ?_⟩; replace HO475 := a0_ (Kd.V_elder' (va_ HO475.out) (Kd.R_base ho0) hb); replace HO479 := a0_ (Kd.V_elder' (va_ HO479.out) (Kd.R_base ho0) hb); have HO483 := a0_ (Kd.R_lower ho0 (below_size (bl0_))); replace HB := a0_ (below_step (bl0_) hb); (try clear hb); (try clear hb2); (try clear hk); (try clear hi); (try clear ho0); obtain ⟨Ao15, co15, eo15⟩ := Kd.R_slice HO483.out; subst eo15) | ((with_reducible refine gate_callee (f := 21) rfl ?_); refine goesL_ (some 34) rfl rfl Tryz.func21 kr_ rfl #[.slice Ao15 t481.length co15] rfl ta_ ?_; (with_reducible refine (impl_RankOf.calls k _ _ t481 t484 t485 _ ?side1 ?side2 A8.out).mono ?_); (case side1 => exact ca_ (Kd.R_reads' HO483.out).2.2); (case side2 => exact (Kd.R_reads' HO483.out).2.1); rintro e w16 ⟨rfl, hb⟩; refine ⟨_, rfl, ?_⟩; replace HO475 := a0_ (Kd.V_below (va_ HO475.out) hb); replace HO479 := a0_ (Kd.V_below (va_ HO479.out) hb); replace HO483 := a0_ (Kd.R_below (ra_ HO483.out) hb); replace HB := a0_ (below_step (bl0_) hb); (try clear hb); (try clear hb2); (try clear hk); (try clear hi)) | ((with_reducible refine gate_callee (f := 22) rfl ?_); refine goesL_ (some 39) rfl rfl Tryz.func22 kr_ rfl #[.slice Ao15 t481.length co15] rfl ta_ ?_; (with_reducible refine (spec_RankOf.calls k _ _ t481 t486 t487 _ ?side1 ?side2 A9.out).mono ?_); (case side1 => exact ca_ (Kd.R_reads' HO483.out).2.2); (case side2 => exact (Kd.R_reads' HO483.out).2.1); rintro e w17 ⟨rfl, hb⟩; refine ⟨_, rfl, ?_⟩; replace HO475 := a0_ (Kd.V_below (va_ HO475.out) hb); replace HO479 := a0_ (Kd.V_below (va_ HO479.out) hb); replace HO483 := a0_ (Kd.R_below (ra_ HO483.out) hb); replace HB := a0_ (below_step (bl0_) hb); (try clear hb); (try clear hb2); (try clear hk); (try clear hi)))
  (try simp only [Act.put, List.setIfInBounds_toArray, List.set_cons_zero, List.set_cons_succ])
  go_cut [60] (fun v60 wc => ∃ (kq : Nat) (x60_9 : Bool), v60 = .bool x60_9 ∧ Aside0 (laws_FnListed.j0 kq l0 t476 t477 x60_9 = some r) ∧ Aside0 (kq ≤ k) ∧ Aside0 (Kd.V (Kd.slice 46 k46) 35 wc w.heap.size (fun _ => True) v478 t477) ∧ Aside0 (Below w.heap.size w wc))
  case first =>
   have H := HC10.out
   clear HC10
   by_cases c18 : t476 = t480
   ·rw [if_pos c18] at H
    have c18b0 : (t476 == t480) = true := beq_iff_eq.mpr c18
    have c18b1 : (t476 != t480) = false := bne_eq_false_iff_eq.mpr c18
    clear c18
    (first | rw [c18b0] | (simp only [i64_w, i32_w]; rw [c18b0]) | skip)
    obtain ⟨t488, A19, H⟩ := bs_ H
    by_cases c20 : t488 = true
    ·subst c20
     rw [if_pos rfl] at H
     by_cases c21 : t485 = t487
     ·rw [if_pos c21] at H
      have c21b0 : (t485 == t487) = true := beq_iff_eq.mpr c21
      have c21b1 : (t485 != t487) = false := bne_eq_false_iff_eq.mpr c21
      clear c21
      have H' := Aside0.mk H
      clear H
      obtain ⟨Ao22, co22, eo22⟩ := Kd.V_slice HO475.out
      subst eo22
      obtain ⟨Ao23, co23, eo23⟩ := Kd.V_slice HO479.out
      subst eo23
      go_wp2_with (first | (go_at_call 10; (with_reducible refine (laws_likeShapes.calls k _ _ t473 _ _ t477 true _ ?side1 ?side2 ?side3 ?side4 A19.out).mono ?_); (case side1 => exact ca_ (Kd.V_reads' HO475.out).2.2); (case side2 => exact (Kd.V_reads' HO475.out).2.1); (case side3 => exact ca_ (Kd.V_reads' HO479.out).2.2); (case side4 => exact (Kd.V_reads' HO479.out).2.1); rintro e w' ⟨rfl, ⟨nd, rfl⟩⟩))
      go_meet
      case rel => exact ⟨_, ((t484 != t486)), rs_, H', ⟨by first | omega | exact Nat.le_refl _⟩, ⟨by (with_reducible repeat (first | apply Kd.V_alloc | apply Kd.V_drewN | apply Kd.V_drew)); exact Kd.V_mono HO479.out (fun _ hk => trivial)⟩, ⟨bl0_⟩⟩
     ·rw [if_neg c21] at H
      have c21b0 : (t485 == t487) = false := beq_eq_false_iff_ne.mpr c21
      have c21b1 : (t485 != t487) = true := bne_iff_ne.mpr c21
      have H' := Aside0.mk H
      clear H
      obtain ⟨Ao24, co24, eo24⟩ := Kd.V_slice HO475.out
      subst eo24
      obtain ⟨Ao25, co25, eo25⟩ := Kd.V_slice HO479.out
      subst eo25
      go_wp2_with (first | (go_at_call 10; (with_reducible refine (laws_likeShapes.calls k _ _ t473 _ _ t477 true _ ?side1 ?side2 ?side3 ?side4 A19.out).mono ?_); (case side1 => exact ca_ (Kd.V_reads' HO475.out).2.2); (case side2 => exact (Kd.V_reads' HO475.out).2.1); (case side3 => exact ca_ (Kd.V_reads' HO479.out).2.2); (case side4 => exact (Kd.V_reads' HO479.out).2.1); rintro e w' ⟨rfl, ⟨nd, rfl⟩⟩))
      go_meet
      case rel => exact ⟨_, (true), rs_, H', ⟨by first | omega | exact Nat.le_refl _⟩, ⟨by (with_reducible repeat (first | apply Kd.V_alloc | apply Kd.V_drewN | apply Kd.V_drew)); exact Kd.V_mono HO479.out (fun _ hk => trivial)⟩, ⟨bl0_⟩⟩
    ·replace c20 := Bool.eq_false_iff.mpr c20
     subst c20
     rw [if_neg (show ¬ (false = true) by decide)] at H
     have H' := Aside0.mk H
     clear H
     obtain ⟨Ao26, co26, eo26⟩ := Kd.V_slice HO475.out
     subst eo26
     obtain ⟨Ao27, co27, eo27⟩ := Kd.V_slice HO479.out
     subst eo27
     go_wp2_with (first | (go_at_call 10; (with_reducible refine (laws_likeShapes.calls k _ _ t473 _ _ t477 false _ ?side1 ?side2 ?side3 ?side4 A19.out).mono ?_); (case side1 => exact ca_ (Kd.V_reads' HO475.out).2.2); (case side2 => exact (Kd.V_reads' HO475.out).2.1); (case side3 => exact ca_ (Kd.V_reads' HO479.out).2.2); (case side4 => exact (Kd.V_reads' HO479.out).2.1); rintro e w' ⟨rfl, ⟨nd, rfl⟩⟩))
     go_meet
     case rel => exact ⟨_, (true), rs_, H', ⟨by first | omega | exact Nat.le_refl _⟩, ⟨by (with_reducible repeat (first | apply Kd.V_alloc | apply Kd.V_drewN | apply Kd.V_drew)); exact Kd.V_mono HO479.out (fun _ hk => trivial)⟩, ⟨bl0_⟩⟩
   ·rw [if_neg c18] at H
    have c18b0 : (t476 == t480) = false := beq_eq_false_iff_ne.mpr c18
    have c18b1 : (t476 != t480) = true := bne_iff_ne.mpr c18
    (first | rw [c18b0] | (simp only [i64_w, i32_w]; rw [c18b0]) | skip)
    have H' := Aside0.mk H
    clear H
    go_wp2
    go_meet
    case rel => exact ⟨_, (true), rs_, H', ⟨by first | omega | exact Nat.le_refl _⟩, ⟨by (with_reducible repeat (first | apply Kd.V_alloc | apply Kd.V_drewN | apply Kd.V_drew)); exact Kd.V_mono HO479.out (fun _ hk => trivial)⟩, ⟨bl0_⟩⟩
  case rest =>
   clear HC10
   try clear c1
   try clear c2
   try clear p2
   try clear c3
   try clear c4
   try clear c6
   try clear c17
   try clear c18
   try clear c18b0
   try clear c18b1
   try clear c19
   try clear c20
   try clear c21
   try clear c21b0
   try clear c21b1
   try clear c22
   obtain ⟨kq, x60_9, rfl, HA, HJ9, HO_6, HB⟩ := hcut
   cases kq with
   | zero => exact absurd HA.out (by simp [laws_FnListed.j0])
   | succ kj9 =>
    have H := HA.out
    clear HA
    simp only [laws_FnListed.j0] at H
    by_cases c28 : x60_9 = true
    ·subst c28
     rw [if_pos rfl] at H
     obtain rfl := Option.some.inj H
     go_wp2
     go_ret
     exact ⟨er_, bl0_⟩
    ·replace c28 := Bool.eq_false_iff.mpr c28
     subst c28
     rw [if_neg (show ¬ (false = true) by decide)] at H
     by_cases c29 : t476 = 0
     ·rw [if_pos c29] at H
      have c29b0 : (t476 == 0) = true := beq_iff_eq.mpr c29
      have c29b1 : (t476 != 0) = false := bne_eq_false_iff_eq.mpr c29
      clear c29
      obtain ⟨⟨t489, t490, t491⟩, A30, H⟩ := bs_ H
      dsimp only at H
      obtain ⟨⟨t493, t494, t495⟩, A31, H⟩ := bs_ H
      dsimp only at H
      by_cases c32 : 0 ≤ t493
      ·rw [if_pos c32] at H
       have c32b0 : decide (0 ≤ t493) = true := decide_eq_true c32
       clear c32
       by_cases c33 : t493 < (t477.length : Int)
       ·rw [if_pos c33] at H
        have c33b0 : decide (t493 < (t477.length : Int)) = true := decide_eq_true c33
        clear c33
        obtain ⟨⟨t497, t498⟩, A34, H⟩ := bs_ H
        dsimp only at H
        by_cases c35 : t498 = 0
        ·rw [if_pos c35] at H
         have c35b0 : (t498 == 0) = true := beq_iff_eq.mpr c35
         have c35b1 : (t498 != 0) = false := bne_eq_false_iff_eq.mpr c35
         clear c35
         by_cases c36 : t497 = t493
         ·rw [if_pos c36] at H
          have c36b0 : (t497 == t493) = true := beq_iff_eq.mpr c36
          have c36b1 : (t497 != t493) = false := bne_eq_false_iff_eq.mpr c36
          clear c36
          obtain ⟨t500, A37, H⟩ := bs_ H
          obtain rfl := Option.some.inj H
          go_wp2_with (first | ((with_reducible refine gate_callee (f := 12) rfl ?_); refine goesL_ (some 64) rfl rfl Tryz.func12 kr_ rfl #[.slice A0 l0.length c0, .int .u64 501] rfl ta_ ?_; (with_reducible refine ((fun W_ (hb_ : Below w.heap.size w W_) => laws_roll.calls kj9 _ _ l0 501 t489 t490 t491 W_ W_ (Below.refl _ _) (Kd.C_below HR0.out hb_) HC0.out A30.out) _ ?side1).mono ?_); (case side1 => repeat (first | (with_reducible first | exact HB.out | apply below_alloc | apply pw_below_drewN | apply below_drew1) | exact HB.out)); rintro e w38 ⟨g492, rfl, hi, hb, hb2⟩; refine ⟨_, rfl, ?_⟩; replace HO_6 := a0_ (Kd.V_below (Kd.V_elderB (va_ HO_6.out) g492 (IsS63.ge hi)) hb2); have HBU492 := a0_ (bl0_); replace HB := a0_ (below_step (bl0_) hb2); have HBV492 := a0_ (hb); have HI492 := a0_ (hi); (try clear hb); (try clear hb2); (try clear hk); (try clear hi); obtain ⟨Ao39, co39, eo39⟩ := Kd.V_slice HO_6.out; subst eo39) | ((with_reducible refine gate_callee (f := 13) rfl ?_); refine goesL_ (some 67) rfl rfl Tryz.func13 kr_ rfl #[.pointer (some ⟨g492, 0, none⟩), .int .i64 (t477.length : Int)] rfl ta_ ?_; (with_reducible refine (laws_dice_below.calls g492 t489 t490 t491 (t477.length : Int) t493 t494 t495 _ _ HI492.out HBV492.out A31.out).mono ?_); rintro e w40 ⟨rfl, hi, hb, hk⟩; refine ⟨_, rfl, ?_⟩; replace HO_6 := a0_ (Kd.V_mono (Kd.V_keep (Kd.V_mono (ok := fun k_ => (True ∧ k_ ≠ g492)) (va_ HO_6.out) (fun k_ hk_ => (⟨hk_, hk_.2⟩ : _ ∧ k_ ≠ g492))) hk (fun _ h => h.2)) (fun _ h => h.1)); replace HB := a0_ (below_step HBU492.out hb); replace HI492 := a0_ (hi); replace HBV492 := a0_ (hb); (try clear hb); (try clear hb2); (try clear hk); (try clear hi); have p496 : 0 ≤ (t493 : Int) := od_; have q496 : t493 < (t477.length : Int) := od_; obtain ⟨ad496, A496_0, c496_0, e496, hx496_0, hl496_0, hi496_0⟩ := at_L3 (Kd.V_reads' HO_6.out).2.2 t493 p496 q496; cases e496; obtain ⟨ce496, hce496, hMe496, hcc496⟩ := Kd.V_get HO_6.out [] t493 p496 (by first | exact q496 | exact od_ | (have e_ := (Kd.V_reads' HO_6.out).1; omega)); obtain ⟨ua496_0, uc496_0, rfl, ul496_0, ge496_0⟩ := Kd.FK_slice_open hMe496; have hv496_0 := hcc496 0 _ rfl; rw [Nat.add_zero, show ((Kd.slice 46 k46)).sz = 1 from rfl, Nat.mul_one] at hv496_0; replace hv496_0 := Option.some.inj (hv496_0.symm.trans hx496_0); injection hv496_0 with hva_ hvn_ hvc_; rw [hva_] at ge496_0; rw [hvc_] at ul496_0; have HL496_0 := a0_ (show Kd.V k46 46 _ w.heap.size _ _ (rd_L3 t477 t493) from Kd.V_mk ul496_0 ge496_0); clear hva_ hvn_ hvc_ ge496_0 ul496_0; clear hcc496 hce496; have HR496_0 := Aside0.mk hi496_0; have HC496_0 := Aside0.mk hl496_0; clear hi496_0 hl496_0; replace p496 := eq_true p496; replace q496 := eq_true q496) | ((with_reducible refine gate_callee (f := 21) rfl ?_); refine goesL_ (some 73) rfl rfl Tryz.func21 kr_ rfl #[.slice A496_0 (rd_L3 t477 t493).length c496_0] rfl ta_ ?_; (with_reducible refine (impl_RankOf.calls kj9 _ _ (rd_L3 t477 t493) t497 t498 _ ?side1 ?side2 A34.out).mono ?_); (case side1 => repeat (first | exact (by repeat (first | (with_reducible exact HR496_0.out) | (with_reducible refine Kd.C_alloc ?_ _) | (with_reducible refine Kd.C_drewN ?_ _) | (with_reducible refine Kd.C_drew ?_) | exact HR496_0.out)) | (with_reducible refine Kd.C_alloc ?_ _) | (with_reducible refine Kd.C_drewN ?_ _) | (with_reducible refine Kd.C_drew ?_))); (case side2 => exact HC496_0.out); rintro e w41 ⟨rfl, hb⟩; refine ⟨_, rfl, ?_⟩; replace HO_6 := a0_ (Kd.V_below (va_ HO_6.out) hb); replace HL496_0 := a0_ (Kd.V_below (va_ HL496_0.out) hb); replace HR496_0 := a0_ (Kd.C_below (by repeat (first | (with_reducible exact HR496_0.out) | (with_reducible refine Kd.C_alloc ?_ _) | (with_reducible refine Kd.C_drewN ?_ _) | (with_reducible refine Kd.C_drew ?_) | exact HR496_0.out)) hb); replace HB := a0_ (below_step (bl1_ (IsS63.ge HI492.out)) hb); replace HI492 := a0_ (IsS63.below (is63_ HI492.out) hb); (try clear hb); (try clear hb2); (try clear hk); (try clear hi); have p499 : 0 ≤ (t493 : Int) := od_; have q499 : t493 < (t477.length : Int) := od_; obtain ⟨ad499, A499_0, c499_0, e499, hx499_0, hl499_0, hi499_0⟩ := at_L3 (Kd.V_reads' HO_6.out).2.2 t493 p499 q499; obtain rfl : ad496 = ad499 := (by injection e499); obtain ⟨ce499, hce499, hMe499, hcc499⟩ := Kd.V_get HO_6.out [] t493 p499 (by first | exact q499 | exact od_ | (have e_ := (Kd.V_reads' HO_6.out).1; omega)); obtain ⟨ua499_0, uc499_0, rfl, ul499_0, ge499_0⟩ := Kd.FK_slice_open hMe499; have hv499_0 := hcc499 0 _ rfl; rw [Nat.add_zero, show ((Kd.slice 46 k46)).sz = 1 from rfl, Nat.mul_one] at hv499_0; replace hv499_0 := Option.some.inj (hv499_0.symm.trans hx499_0); injection hv499_0 with hva_ hvn_ hvc_; rw [hva_] at ge499_0; rw [hvc_] at ul499_0; have HL499_0 := a0_ (show Kd.V k46 46 _ w.heap.size _ _ (rd_L3 t477 t493) from Kd.V_mk ul499_0 ge499_0); clear hva_ hvn_ hvc_ ge499_0 ul499_0; clear hcc499 hce499; have HR499_0 := Aside0.mk hi499_0; have HC499_0 := Aside0.mk hl499_0; clear hi499_0 hl499_0; replace p499 := eq_true p499; replace q499 := eq_true q499) | (go_at_call 23; (with_reducible refine (impl_IsConnected.calls kj9 _ _ (rd_L3 t477 t493) t500 _ ?side1 ?side2 A37.out).mono ?_); (case side1 => repeat (first | exact (by repeat (first | (with_reducible exact HR499_0.out) | (with_reducible refine Kd.C_alloc ?_ _) | (with_reducible refine Kd.C_drewN ?_ _) | (with_reducible refine Kd.C_drew ?_) | exact HR499_0.out)) | (with_reducible refine Kd.C_alloc ?_ _) | (with_reducible refine Kd.C_drewN ?_ _) | (with_reducible refine Kd.C_drew ?_))); (case side2 => exact HC499_0.out); rintro e w42 ⟨rfl, hb⟩; replace HO_6 := a0_ (Kd.V_below (va_ HO_6.out) hb); replace HL496_0 := a0_ (Kd.V_below (va_ HL496_0.out) hb); replace HL499_0 := a0_ (Kd.V_below (va_ HL499_0.out) hb); replace HR496_0 := a0_ (Kd.C_below (by repeat (first | (with_reducible exact HR496_0.out) | (with_reducible refine Kd.C_alloc ?_ _) | (with_reducible refine Kd.C_drewN ?_ _) | (with_reducible refine Kd.C_drew ?_) | exact HR496_0.out)) hb); replace HR499_0 := a0_ (Kd.C_below (by repeat (first | (with_reducible exact HR499_0.out) | (with_reducible refine Kd.C_alloc ?_ _) | (with_reducible refine Kd.C_drewN ?_ _) | (with_reducible refine Kd.C_drew ?_) | exact HR499_0.out)) hb); replace HB := a0_ (below_step (bl1_ (IsS63.ge HI492.out)) hb); replace HI492 := a0_ (IsS63.below (is63_ HI492.out) hb); (try clear hb); (try clear hb2); (try clear hk); (try clear hi)))
          go_ret
          exact ⟨er_, bl1_ (IsS63.ge HI492.out)⟩
         ·rw [if_neg c36] at H
          have c36b0 : (t497 == t493) = false := beq_eq_false_iff_ne.mpr c36
          have c36b1 : (t497 != t493) = true := bne_iff_ne.mpr c36
          obtain rfl := Option.some.inj H
          go_wp2_with (first | ((with_reducible refine gate_callee (f := 12) rfl ?_); refine goesL_ (some 64) rfl rfl Tryz.func12 kr_ rfl #[.slice A0 l0.length c0, .int .u64 501] rfl ta_ ?_; (with_reducible refine ((fun W_ (hb_ : Below w.heap.size w W_) => laws_roll.calls kj9 _ _ l0 501 t489 t490 t491 W_ W_ (Below.refl _ _) (Kd.C_below HR0.out hb_) HC0.out A30.out) _ ?side1).mono ?_); (case side1 => repeat (first | (with_reducible first | exact HB.out | apply below_alloc | apply pw_below_drewN | apply below_drew1) | exact HB.out)); rintro e w43 ⟨g492, rfl, hi, hb, hb2⟩; refine ⟨_, rfl, ?_⟩; replace HO_6 := a0_ (Kd.V_below (Kd.V_elderB (va_ HO_6.out) g492 (IsS63.ge hi)) hb2); have HBU492 := a0_ (bl0_); replace HB := a0_ (below_step (bl0_) hb2); have HBV492 := a0_ (hb); have HI492 := a0_ (hi); (try clear hb); (try clear hb2); (try clear hk); (try clear hi); obtain ⟨Ao44, co44, eo44⟩ := Kd.V_slice HO_6.out; subst eo44) | ((with_reducible refine gate_callee (f := 13) rfl ?_); refine goesL_ (some 67) rfl rfl Tryz.func13 kr_ rfl #[.pointer (some ⟨g492, 0, none⟩), .int .i64 (t477.length : Int)] rfl ta_ ?_; (with_reducible refine (laws_dice_below.calls g492 t489 t490 t491 (t477.length : Int) t493 t494 t495 _ _ HI492.out HBV492.out A31.out).mono ?_); rintro e w45 ⟨rfl, hi, hb, hk⟩; refine ⟨_, rfl, ?_⟩; replace HO_6 := a0_ (Kd.V_mono (Kd.V_keep (Kd.V_mono (ok := fun k_ => (True ∧ k_ ≠ g492)) (va_ HO_6.out) (fun k_ hk_ => (⟨hk_, hk_.2⟩ : _ ∧ k_ ≠ g492))) hk (fun _ h => h.2)) (fun _ h => h.1)); replace HB := a0_ (below_step HBU492.out hb); replace HI492 := a0_ (hi); replace HBV492 := a0_ (hb); (try clear hb); (try clear hb2); (try clear hk); (try clear hi); have p496 : 0 ≤ (t493 : Int) := od_; have q496 : t493 < (t477.length : Int) := od_; obtain ⟨ad496, A496_0, c496_0, e496, hx496_0, hl496_0, hi496_0⟩ := at_L3 (Kd.V_reads' HO_6.out).2.2 t493 p496 q496; cases e496; obtain ⟨ce496, hce496, hMe496, hcc496⟩ := Kd.V_get HO_6.out [] t493 p496 (by first | exact q496 | exact od_ | (have e_ := (Kd.V_reads' HO_6.out).1; omega)); obtain ⟨ua496_0, uc496_0, rfl, ul496_0, ge496_0⟩ := Kd.FK_slice_open hMe496; have hv496_0 := hcc496 0 _ rfl; rw [Nat.add_zero, show ((Kd.slice 46 k46)).sz = 1 from rfl, Nat.mul_one] at hv496_0; replace hv496_0 := Option.some.inj (hv496_0.symm.trans hx496_0); injection hv496_0 with hva_ hvn_ hvc_; rw [hva_] at ge496_0; rw [hvc_] at ul496_0; have HL496_0 := a0_ (show Kd.V k46 46 _ w.heap.size _ _ (rd_L3 t477 t493) from Kd.V_mk ul496_0 ge496_0); clear hva_ hvn_ hvc_ ge496_0 ul496_0; clear hcc496 hce496; have HR496_0 := Aside0.mk hi496_0; have HC496_0 := Aside0.mk hl496_0; clear hi496_0 hl496_0; replace p496 := eq_true p496; replace q496 := eq_true q496) | ((with_reducible refine gate_callee (f := 21) rfl ?_); refine goesL_ (some 73) rfl rfl Tryz.func21 kr_ rfl #[.slice A496_0 (rd_L3 t477 t493).length c496_0] rfl ta_ ?_; (with_reducible refine (impl_RankOf.calls kj9 _ _ (rd_L3 t477 t493) t497 t498 _ ?side1 ?side2 A34.out).mono ?_); (case side1 => repeat (first | exact (by repeat (first | (with_reducible exact HR496_0.out) | (with_reducible refine Kd.C_alloc ?_ _) | (with_reducible refine Kd.C_drewN ?_ _) | (with_reducible refine Kd.C_drew ?_) | exact HR496_0.out)) | (with_reducible refine Kd.C_alloc ?_ _) | (with_reducible refine Kd.C_drewN ?_ _) | (with_reducible refine Kd.C_drew ?_))); (case side2 => exact HC496_0.out); rintro e w46 ⟨rfl, hb⟩; refine ⟨_, rfl, ?_⟩; replace HO_6 := a0_ (Kd.V_below (va_ HO_6.out) hb); replace HL496_0 := a0_ (Kd.V_below (va_ HL496_0.out) hb); replace HR496_0 := a0_ (Kd.C_below (by repeat (first | (with_reducible exact HR496_0.out) | (with_reducible refine Kd.C_alloc ?_ _) | (with_reducible refine Kd.C_drewN ?_ _) | (with_reducible refine Kd.C_drew ?_) | exact HR496_0.out)) hb); replace HB := a0_ (below_step (bl1_ (IsS63.ge HI492.out)) hb); replace HI492 := a0_ (IsS63.below (is63_ HI492.out) hb); (try clear hb); (try clear hb2); (try clear hk); (try clear hi)))
          go_ret
          exact ⟨er_, bl1_ (IsS63.ge HI492.out)⟩
        ·rw [if_neg c35] at H
         have c35b0 : (t498 == 0) = false := beq_eq_false_iff_ne.mpr c35
         have c35b1 : (t498 != 0) = true := bne_iff_ne.mpr c35
         obtain rfl := Option.some.inj H
         go_wp2_with (first | ((with_reducible refine gate_callee (f := 12) rfl ?_); refine goesL_ (some 64) rfl rfl Tryz.func12 kr_ rfl #[.slice A0 l0.length c0, .int .u64 501] rfl ta_ ?_; (with_reducible refine ((fun W_ (hb_ : Below w.heap.size w W_) => laws_roll.calls kj9 _ _ l0 501 t489 t490 t491 W_ W_ (Below.refl _ _) (Kd.C_below HR0.out hb_) HC0.out A30.out) _ ?side1).mono ?_); (case side1 => repeat (first | (with_reducible first | exact HB.out | apply below_alloc | apply pw_below_drewN | apply below_drew1) | exact HB.out)); rintro e w47 ⟨g492, rfl, hi, hb, hb2⟩; refine ⟨_, rfl, ?_⟩; replace HO_6 := a0_ (Kd.V_below (Kd.V_elderB (va_ HO_6.out) g492 (IsS63.ge hi)) hb2); have HBU492 := a0_ (bl0_); replace HB := a0_ (below_step (bl0_) hb2); have HBV492 := a0_ (hb); have HI492 := a0_ (hi); (try clear hb); (try clear hb2); (try clear hk); (try clear hi); obtain ⟨Ao48, co48, eo48⟩ := Kd.V_slice HO_6.out; subst eo48) | ((with_reducible refine gate_callee (f := 13) rfl ?_); refine goesL_ (some 67) rfl rfl Tryz.func13 kr_ rfl #[.pointer (some ⟨g492, 0, none⟩), .int .i64 (t477.length : Int)] rfl ta_ ?_; (with_reducible refine (laws_dice_below.calls g492 t489 t490 t491 (t477.length : Int) t493 t494 t495 _ _ HI492.out HBV492.out A31.out).mono ?_); rintro e w49 ⟨rfl, hi, hb, hk⟩; refine ⟨_, rfl, ?_⟩; replace HO_6 := a0_ (Kd.V_mono (Kd.V_keep (Kd.V_mono (ok := fun k_ => (True ∧ k_ ≠ g492)) (va_ HO_6.out) (fun k_ hk_ => (⟨hk_, hk_.2⟩ : _ ∧ k_ ≠ g492))) hk (fun _ h => h.2)) (fun _ h => h.1)); replace HB := a0_ (below_step HBU492.out hb); replace HI492 := a0_ (hi); replace HBV492 := a0_ (hb); (try clear hb); (try clear hb2); (try clear hk); (try clear hi); have p496 : 0 ≤ (t493 : Int) := od_; have q496 : t493 < (t477.length : Int) := od_; obtain ⟨ad496, A496_0, c496_0, e496, hx496_0, hl496_0, hi496_0⟩ := at_L3 (Kd.V_reads' HO_6.out).2.2 t493 p496 q496; cases e496; obtain ⟨ce496, hce496, hMe496, hcc496⟩ := Kd.V_get HO_6.out [] t493 p496 (by first | exact q496 | exact od_ | (have e_ := (Kd.V_reads' HO_6.out).1; omega)); obtain ⟨ua496_0, uc496_0, rfl, ul496_0, ge496_0⟩ := Kd.FK_slice_open hMe496; have hv496_0 := hcc496 0 _ rfl; rw [Nat.add_zero, show ((Kd.slice 46 k46)).sz = 1 from rfl, Nat.mul_one] at hv496_0; replace hv496_0 := Option.some.inj (hv496_0.symm.trans hx496_0); injection hv496_0 with hva_ hvn_ hvc_; rw [hva_] at ge496_0; rw [hvc_] at ul496_0; have HL496_0 := a0_ (show Kd.V k46 46 _ w.heap.size _ _ (rd_L3 t477 t493) from Kd.V_mk ul496_0 ge496_0); clear hva_ hvn_ hvc_ ge496_0 ul496_0; clear hcc496 hce496; have HR496_0 := Aside0.mk hi496_0; have HC496_0 := Aside0.mk hl496_0; clear hi496_0 hl496_0; replace p496 := eq_true p496; replace q496 := eq_true q496) | ((with_reducible refine gate_callee (f := 21) rfl ?_); refine goesL_ (some 73) rfl rfl Tryz.func21 kr_ rfl #[.slice A496_0 (rd_L3 t477 t493).length c496_0] rfl ta_ ?_; (with_reducible refine (impl_RankOf.calls kj9 _ _ (rd_L3 t477 t493) t497 t498 _ ?side1 ?side2 A34.out).mono ?_); (case side1 => repeat (first | exact (by repeat (first | (with_reducible exact HR496_0.out) | (with_reducible refine Kd.C_alloc ?_ _) | (with_reducible refine Kd.C_drewN ?_ _) | (with_reducible refine Kd.C_drew ?_) | exact HR496_0.out)) | (with_reducible refine Kd.C_alloc ?_ _) | (with_reducible refine Kd.C_drewN ?_ _) | (with_reducible refine Kd.C_drew ?_))); (case side2 => exact HC496_0.out); rintro e w50 ⟨rfl, hb⟩; refine ⟨_, rfl, ?_⟩; replace HO_6 := a0_ (Kd.V_below (va_ HO_6.out) hb); replace HL496_0 := a0_ (Kd.V_below (va_ HL496_0.out) hb); replace HR496_0 := a0_ (Kd.C_below (by repeat (first | (with_reducible exact HR496_0.out) | (with_reducible refine Kd.C_alloc ?_ _) | (with_reducible refine Kd.C_drewN ?_ _) | (with_reducible refine Kd.C_drew ?_) | exact HR496_0.out)) hb); replace HB := a0_ (below_step (bl1_ (IsS63.ge HI492.out)) hb); replace HI492 := a0_ (IsS63.below (is63_ HI492.out) hb); (try clear hb); (try clear hb2); (try clear hk); (try clear hi)))
         go_ret
         exact ⟨er_, bl1_ (IsS63.ge HI492.out)⟩
       ·rw [if_neg c33] at H
        exact absurd H (by simp)
      ·rw [if_neg c32] at H
       exact absurd H (by simp)
     ·rw [if_neg c29] at H
      have c29b0 : (t476 == 0) = false := beq_eq_false_iff_ne.mpr c29
      have c29b1 : (t476 != 0) = true := bne_iff_ne.mpr c29
      obtain rfl := Option.some.inj H
      go_wp2
      go_ret
      exact ⟨er_, bl0_⟩

end Go.Proofs.YtmdjkmfocgelnaaGreat.PFnListed
