/- Over the kit's printer by a driver of mine (hprint.py), with parts by hand: functions of the program as Lean functions, and that each call comes to exactly these answers. -/
import Derived.Test.YtaaodakmelihaaaGreatPFnPiecesx0
import Derived.Test.YtaaodakmelihaaaGreatPFnPiecesx2
import Derived.Test.YtaaodakmelihaaaGreatPFnPiecesx11
import Derived.Test.YtaaodakmelihaaaGreatPFnPiecesx13
import Derived.Test.YtaaodakmelihaaaGreatPFnPiecesx16
import Derived.Test.YtaaodakmelihaaaGreatPFnPiecesx18
import Derived.Test.YtaaodakmelihaaaGreatPFnPiecesx19
import Derived.Test.YtaaodakmelihaaaGreatPFnPiecesx20
namespace Go.Proofs.YtaaodakmelihaaaGreat.PFnPieces
open Go.RowKit Go.Proofs.YtaaodakmelihaaaGreatW.PrintWords Go.Proofs.YtaaodakmelihaaaGreatW.PrintLast Go.Proofs.YtaaodakmelihaaaGreatW.PrintMore
attribute [local go_sem] max2_int min2_int max_two min_two max_three min_three max_four min_four   -- for this text's walks alone
set_option linter.unusedVariables false
set_option linter.unusedSimpArgs false

/-! ### laws_FnPieces: function 3 -/
def laws_FnPieces.j0 : Nat → List Int → List (List (S60)) → Int → List (List (S60)) → Bool → List (S60) → Int → Bool → Option (Bool)
 | 0, _, _, _, _, _, _, _, _ => none
 | k + 1, x0, x7, x8, x9, x64, x580000, x580001, x580002 => if x64 = true then (some false) else (if x8 = 0 then (if x580002 = true then ((laws_roll.f k x0 1101).bind fun bt592 => ((laws_dice_below.f bt592.1 bt592.2.1 bt592.2.2 (x9.length : Int)).bind fun bt596 => (if (x7.length : Int) ≤ 8 then (if (x7.length : Int) = 0 then (none) else (if ((8 : Int) % (x7.length : Int)) = 0 then (if 0 ≤ bt596.1 then (if bt596.1 < (x9.length : Int) then ((impl_AreAlike.f k x580000 x580001 x580002 (rd_L3 x9 bt596.1) 1 x580002).bind fun t600 => (some t600)) else (none)) else (none)) else (some false))) else (some false)))) else ((laws_roll.f k x0 1101).bind fun bt601 => ((laws_dice_below.f bt601.1 bt601.2.1 bt601.2.2 (x9.length : Int)).bind fun bt605 => (if (x7.length : Int) ≤ 4 then (if (x7.length : Int) = 0 then (none) else (if ((4 : Int) % (x7.length : Int)) = 0 then (if 0 ≤ bt605.1 then (if bt605.1 < (x9.length : Int) then ((impl_AreAlike.f k x580000 x580001 x580002 (rd_L3 x9 bt605.1) 1 x580002).bind fun t609 => (some t609)) else (none)) else (none)) else (some false))) else (some false))))) else (some true))
def laws_FnPieces.f (k : Nat) (l0 : List Int) : Option (Bool) := (laws_big.f l0).bind fun t560 => (if t560 = true then (some true) else ((spec_DrawAreAlike.f k l0).bind fun bt561 => ((impl_AreAlike.f k bt561.1 bt561.2.1 bt561.2.2.1 bt561.2.2.2.1 bt561.2.2.2.2.1 bt561.2.2.2.2.2).bind fun t573 => ((spec_DrawFormsOfPiece.f k l0).bind fun bt574 => ((impl_FormsOfPiece.f k bt574.1 bt574.2.1 bt574.2.2).bind fun bt580 => ((spec_FormsOfPiece.f k bt574.1 bt574.2.1 bt574.2.2).bind fun bt584 => ((spec_AreAlike.f k bt561.1 bt561.2.1 bt561.2.2.1 bt561.2.2.2.1 bt561.2.2.2.2.1 bt561.2.2.2.2.2).bind fun t588 => (if (t573 != t588) = true then (laws_FnPieces.j0 k l0 bt580.1 bt580.2 bt584.1 true bt574.1 bt574.2.1 bt574.2.2) else ((impl_AreAlike.f k bt561.2.2.2.1 bt561.2.2.2.2.1 bt561.2.2.2.2.2 bt561.1 bt561.2.1 bt561.2.2.1).bind fun t589 => (if (t589 != t573) = true then (laws_FnPieces.j0 k l0 bt580.1 bt580.2 bt584.1 true bt574.1 bt574.2.1 bt574.2.2) else (if bt580.2 = bt584.2 then ((laws_likeShapes.f k bt580.1 bt584.1).bind fun t590 => (if t590 = true then ((impl_IsPiece.f k bt574.1 bt574.2.1 bt574.2.2).bind fun t591 => (laws_FnPieces.j0 k l0 bt580.1 bt580.2 bt584.1 (t591 != (bt584.2 == 0)) bt574.1 bt574.2.1 bt574.2.2)) else (laws_FnPieces.j0 k l0 bt580.1 bt580.2 bt584.1 true bt574.1 bt574.2.1 bt574.2.2))) else (laws_FnPieces.j0 k l0 bt580.1 bt580.2 bt584.1 true bt574.1 bt574.2.1 bt574.2.2))))))))))))
theorem laws_FnPieces.mono_l : ∀ k, (∀ y0 y1 y2 y3 y4 y5 y6 y7, LeO (laws_FnPieces.j0 k y0 y1 y2 y3 y4 y5 y6 y7) (laws_FnPieces.j0 (k + 1) y0 y1 y2 y3 y4 y5 y6 y7))
 | 0 => fun _ _ _ _ _ _ _ _ r h => by simp [laws_FnPieces.j0] at h
 | k + 1 => by
  have ih0 := laws_FnPieces.mono_l k
  ·intro y0 y1 y2 y3 y4 y5 y6 y7
   unfold laws_FnPieces.j0
   with_reducible (repeat' first | exact ih0 _ _ _ _ _ _ _ _ | exact impl_AreAlike.mono _ _ _ _ _ _ _ | exact impl_FormsOfPiece.mono _ _ _ _ | exact impl_IsPiece.mono _ _ _ _ | exact laws_likeShapes.mono _ _ _ | exact laws_roll.mono _ _ _ | exact spec_AreAlike.mono _ _ _ _ _ _ _ | exact spec_DrawAreAlike.mono _ _ | exact spec_DrawFormsOfPiece.mono _ _ | exact spec_FormsOfPiece.mono _ _ _ _ | exact LeO.refl _ | exact LeO.none _ | refine LeO.ite ?_ ?_ | refine LeO.bind ?_ (fun _ => ?_))
theorem laws_FnPieces.mono : ∀ a0 k, LeO (laws_FnPieces.f k a0) (laws_FnPieces.f (k + 1) a0) := by
 intro a0 k
 have ih0 := laws_FnPieces.mono_l k
 unfold laws_FnPieces.f
 with_reducible (repeat' first | exact ih0 _ _ _ _ _ _ _ _ | exact impl_AreAlike.mono _ _ _ _ _ _ _ | exact impl_FormsOfPiece.mono _ _ _ _ | exact impl_IsPiece.mono _ _ _ _ | exact laws_likeShapes.mono _ _ _ | exact laws_roll.mono _ _ _ | exact spec_AreAlike.mono _ _ _ _ _ _ _ | exact spec_DrawAreAlike.mono _ _ | exact spec_DrawFormsOfPiece.mono _ _ | exact spec_FormsOfPiece.mono _ _ _ _ | exact LeO.refl _ | exact LeO.none _ | refine LeO.ite ?_ ?_ | refine LeO.bind ?_ (fun _ => ?_))
def laws_FnPieces.T16 : Bool × List (List Nat × List Nat) := (true, [([], []), ([0], [0]), ([], []), ([1, 2], [1, 2]), ([3], [3]), ([4], [4]), ([4], [4]), ([6, 4], [4, 6]), ([5, 7, 4], [4, 5, 7]), ([8, 4], [4, 8]), ([4, 9], [4, 9]), ([10, 4], [10]), ([11], [11]), ([11], [11]), ([11], [11]), ([13, 14, 11], [11, 13, 14]), ([15, 11], [11, 15]), ([11], [11]), ([17, 11], [11, 17]), ([16, 18, 11], [11, 16, 18]), ([12, 19, 11, 11], [11, 12, 19]), ([11, 20], [11, 20]), ([21, 20, 0, 1, 2, 3, 4, 5, 6, 7, 8, 9, 10, 11, 12, 13, 14, 15, 16, 17, 18, 19, 20, 21], [21])])
def laws_FnPieces.B16 : List Nat := [0, 1, 0, 7, 15, 31, 31, 95, 255, 511, 1023, 2047, 4095, 4095, 4095, 28671, 61439, 4095, 135167, 520191, 1048575, 2097151, 4194303]
theorem laws_FnPieces.tab16 : rtab .any (opsOf Tryz.f3 16) = laws_FnPieces.T16 := by kernel_rfl
theorem laws_FnPieces.bits16 : waitsOk laws_FnPieces.T16.2 laws_FnPieces.B16 = true := by kernel_rfl
set_option maxHeartbeats 8000000 in
set_option maxRecDepth 100000 in
theorem laws_FnPieces.calls (k : Nat) (A0 : Option Addr) (c0 : Nat) (l0 : List Int) (r : Bool) (w : World) (hr0 : Kd.C (Kd.int .u8) w A0 l0.length l0) (hc0 : l0.length ≤ c0) (h : laws_FnPieces.f k l0 = some r) :
  Calls Tryz.prog 3 #[.slice A0 l0.length c0] w fun e w' => e = .returned (.bool r) ∧ Below w.heap.size w w' := by
 have hu26 := Tryz.underlying26
 have HR0 := Aside0.mk hr0
 have HC0 := Aside0.mk hc0
 clear hr0 hc0
 have HB := a0_ (Below.refl w.heap.size w)
 have H := h
 clear h
 unfold laws_FnPieces.f at H
 obtain ⟨t560, A2, H⟩ := bs_ H
 by_cases c3 : t560 = true
 ·subst c3
  rw [if_pos rfl] at H
  obtain rfl := Option.some.inj H
  go_enter Tryz.func3, Tryz.ntmps3
  go_wp2_with (first | ((with_reducible refine gate_callee (f := 4) rfl ?_); refine goesL_ (some 14) rfl rfl Tryz.func4 kr_ rfl #[.slice A0 l0.length c0] rfl ta_ ?_; (with_reducible refine (laws_big.calls _ _ l0 true _ ?side1 ?side2 A2.out).mono ?_); (case side1 => exact ca_ HR0.out); (case side2 => exact HC0.out); rintro e w' ⟨rfl, ⟨nd, rfl⟩⟩; refine ⟨_, rfl, ?_⟩))
  go_ret
  exact ⟨er_, bl0_⟩
 ·replace c3 := Bool.eq_false_iff.mpr c3
  subst c3
  rw [if_neg (show ¬ (false = true) by decide)] at H
  obtain ⟨⟨t561, t564, t565, t566, t569, t570⟩, A4, H⟩ := bs_ H
  dsimp only at H
  obtain ⟨t573, A5, H⟩ := bs_ H
  obtain ⟨⟨t574, t577, t578⟩, A6, H⟩ := bs_ H
  dsimp only at H
  obtain ⟨⟨t580, t583⟩, A7, H⟩ := bs_ H
  dsimp only at H
  obtain ⟨⟨t584, t587⟩, A8, H⟩ := bs_ H
  dsimp only at H
  have HC9 := Aside0.mk H
  clear H
  go_enter Tryz.func3, Tryz.ntmps3
  go_upto_region 8 with (first | ((with_reducible refine gate_callee (f := 4) rfl ?_); refine goesL_ (some 14) rfl rfl Tryz.func4 kr_ rfl #[.slice A0 l0.length c0] rfl ta_ ?_; (with_reducible refine (laws_big.calls _ _ l0 false _ ?side1 ?side2 A2.out).mono ?_); (case side1 => exact ca_ HR0.out); (case side2 => exact HC0.out); rintro e w' ⟨rfl, ⟨nd, rfl⟩⟩; refine ⟨_, rfl, ?_⟩) | ((with_reducible refine gate_callee (f := 5) rfl ?_); refine goesL_ (some 17) rfl rfl Tryz.func5 kr_ rfl #[.slice A0 l0.length c0] rfl ta_ ?_; (with_reducible refine (spec_DrawAreAlike.calls k _ _ l0 t561 t564 t565 t566 t569 t570 _ ?side1 ?side2 A4.out).mono ?_); (case side1 => exact ca_ HR0.out); (case side2 => exact HC0.out); rintro e w10 ⟨v562, v567, rfl, ho0, ho1, hb⟩; refine ⟨_, rfl, ?_⟩; have HO563 := a0_ (Kd.R_lower ho0 (below_size (bl0_))); have HO568 := a0_ (Kd.R_lower ho1 (below_size (bl0_))); replace HB := a0_ (below_step (bl0_) hb); (try clear hb); (try clear hb2); (try clear hk); (try clear hi); (try clear ho0); (try clear ho1)) | ((with_reducible refine gate_dst (N := 3) rfl ?_); (try (refine gate_guard (by rfl) ?_; dsimp only)); refine bx_ (N := 3) (cs := #[.slice none 0 0, .int .i64 0, .bool false]) (t := 26) ?_; intro gb571 hg w11 hbox hb; replace HO563 := a0_ (Kd.R_below (ra_ HO563.out) hb); replace HO568 := a0_ (Kd.R_below (ra_ HO568.out) hb); have BK571 := a0_ (hbox); have GW571 := a0_ ((sz_ hg (bl0_) : w.heap.size ≤ gb571)); have GE571 := a0_ ((sz_ hg (bl0_) : w.heap.size ≤ gb571)); replace HB := a0_ (below_step (bl0_) hb); clear hb hbox hg) | ((with_reducible refine gate_dst (N := 4) rfl ?_); (try (refine gate_guard (by rfl) ?_; dsimp only)); refine bx_ (N := 4) (cs := #[.slice none 0 0, .int .i64 0, .bool false]) (t := 26) ?_; intro gb572 hg w12 hbox hb; replace HO563 := a0_ (Kd.R_below (ra_ HO563.out) hb); replace HO568 := a0_ (Kd.R_below (ra_ HO568.out) hb); have BK572 := a0_ (hbox); have GW572 := a0_ ((sz_ hg (bl1_ GE571.out) : w.heap.size ≤ gb572)); have GE572 := a0_ ((sz_ hg (bl1_ GE571.out) : w.heap.size ≤ gb572)); replace HB := a0_ (below_step (bl1_ GE571.out) hb); have NB571_572 := a0_ ((nl_ hg BK571.out : gb571 ≠ gb572)); have NB572_571 := a0_ ((ng_ hg BK571.out : gb572 ≠ gb571)); replace BK571 := a0_ (bb_ BK571.out hb); clear hb hbox hg; obtain ⟨Ao13, co13, eo13⟩ := Kd.R_slice HO563.out; subst eo13; have hnb14 := NB571_572.out; have hnc14 := NB572_571.out; obtain ⟨hcz15_0, hcz15_1, hcz15_2, hfz15_0, hfz15_1, hfz15_2⟩ := bc3_ BK571.out; obtain ⟨Ao16, co16, eo16⟩ := Kd.R_slice HO568.out; subst eo16; obtain ⟨hcz17_0, hcz17_1, hcz17_2, hfz17_0, hfz17_1, hfz17_2⟩ := bc3_ BK572.out) | ((with_reducible refine gate_callee (f := 6) rfl ?_); refine goesL_ (some 22) rfl rfl Tryz.func6 kr_ rfl #[.agg #[.slice Ao13 t561.length co13, .int .i64 t564, .bool t565], .agg #[.slice Ao16 t566.length co16, .int .i64 t569, .bool t570]] rfl ta_ ?_; (with_reducible refine (impl_AreAlike.calls k _ _ t561 t564 t565 _ _ t566 t569 t570 t573 _ ?side1 ?side2 ?side3 ?side4 A5.out).mono ?_); (case side1 => refine (Kd.R_reads' (e := 60) (base := w.heap.size) (ok := fun k_ => some k_ ≠ (.slice Ao16 t566.length co16 : Value).ownBlock) (n := t561.length) (c := co13) ?_).2.2; exact (by (with_reducible repeat (first | apply Kd.R_alloc | apply Kd.R_drewN | apply Kd.R_drew)); exact (Kd.R_mono (Kd.R_mono (Kd.R_far (p := ⟨gb572, 2, none⟩) (Kd.R_far (p := ⟨gb572, 1, none⟩) (Kd.R_far (p := ⟨gb572, 0, none⟩) (Kd.R_far (p := ⟨gb571, 2, none⟩) (Kd.R_far (p := ⟨gb571, 1, none⟩) (Kd.R_far (p := ⟨gb571, 0, none⟩) (Kd.R_types (Kd.R_types HO563.out BK571.out (by decide)) BK572.out (by decide)) (fun _ hk => hk.1.2) (.slice Ao13 t561.length co13)) (fun _ hk => hk.1.2) (.int .i64 t564)) (fun _ hk => hk.1.2) (.bool t565)) (fun _ hk => hk.2) (.slice Ao16 t566.length co16)) (fun _ hk => hk.2) (.int .i64 t569)) (fun _ hk => hk.2) (.bool t570)) (fun _ h_ => h_.1)) (fun _ h_ => h_.1)))); (case side2 => exact (Kd.R_reads' HO563.out).2.1); (case side3 => refine (Kd.R_reads' (e := 60) (base := w.heap.size) (ok := fun k_ => some k_ ≠ (.slice Ao13 t561.length co13 : Value).ownBlock) (n := t566.length) (c := co16) ?_).2.2; exact (by (with_reducible repeat (first | apply Kd.R_alloc | apply Kd.R_drewN | apply Kd.R_drew)); exact (Kd.R_mono (Kd.R_mono (Kd.R_far (p := ⟨gb572, 2, none⟩) (Kd.R_far (p := ⟨gb572, 1, none⟩) (Kd.R_far (p := ⟨gb572, 0, none⟩) (Kd.R_far (p := ⟨gb571, 2, none⟩) (Kd.R_far (p := ⟨gb571, 1, none⟩) (Kd.R_far (p := ⟨gb571, 0, none⟩) (Kd.R_types (Kd.R_types HO568.out BK571.out (by decide)) BK572.out (by decide)) (fun _ hk => hk.1.2) (.slice Ao13 t561.length co13)) (fun _ hk => hk.1.2) (.int .i64 t564)) (fun _ hk => hk.1.2) (.bool t565)) (fun _ hk => hk.2) (.slice Ao16 t566.length co16)) (fun _ hk => hk.2) (.int .i64 t569)) (fun _ hk => hk.2) (.bool t570)) (fun _ h_ => h_.1)) (fun _ h_ => h_.1)))); (case side4 => exact (Kd.R_reads' HO568.out).2.1); rintro e w18 ⟨rfl, hb⟩; refine ⟨_, rfl, ?_⟩; replace HO563 := a0_ (Kd.R_below (by (with_reducible repeat (first | apply Kd.R_alloc | apply Kd.R_drewN | apply Kd.R_drew)); exact (Kd.R_mono (Kd.R_mono (Kd.R_far (p := ⟨gb572, 2, none⟩) (Kd.R_far (p := ⟨gb572, 1, none⟩) (Kd.R_far (p := ⟨gb572, 0, none⟩) (Kd.R_far (p := ⟨gb571, 2, none⟩) (Kd.R_far (p := ⟨gb571, 1, none⟩) (Kd.R_far (p := ⟨gb571, 0, none⟩) (Kd.R_types (Kd.R_types HO563.out BK571.out (by decide)) BK572.out (by decide)) (fun _ hk => hk.1.2) (.slice Ao13 t561.length co13)) (fun _ hk => hk.1.2) (.int .i64 t564)) (fun _ hk => hk.1.2) (.bool t565)) (fun _ hk => hk.2) (.slice Ao16 t566.length co16)) (fun _ hk => hk.2) (.int .i64 t569)) (fun _ hk => hk.2) (.bool t570)) (fun _ h_ => h_.1)) (fun _ h_ => h_.1))) hb); replace HO568 := a0_ (Kd.R_below (by (with_reducible repeat (first | apply Kd.R_alloc | apply Kd.R_drewN | apply Kd.R_drew)); exact (Kd.R_mono (Kd.R_mono (Kd.R_far (p := ⟨gb572, 2, none⟩) (Kd.R_far (p := ⟨gb572, 1, none⟩) (Kd.R_far (p := ⟨gb572, 0, none⟩) (Kd.R_far (p := ⟨gb571, 2, none⟩) (Kd.R_far (p := ⟨gb571, 1, none⟩) (Kd.R_far (p := ⟨gb571, 0, none⟩) (Kd.R_types (Kd.R_types HO568.out BK571.out (by decide)) BK572.out (by decide)) (fun _ hk => hk.1.2) (.slice Ao13 t561.length co13)) (fun _ hk => hk.1.2) (.int .i64 t564)) (fun _ hk => hk.1.2) (.bool t565)) (fun _ hk => hk.2) (.slice Ao16 t566.length co16)) (fun _ hk => hk.2) (.int .i64 t569)) (fun _ hk => hk.2) (.bool t570)) (fun _ h_ => h_.1)) (fun _ h_ => h_.1))) hb); replace BK571 := a0_ (blk_below (g := gb571) (o := .cells #[.slice Ao13 t561.length co13, .int .i64 t564, .bool t565] 26 (0, 0)) (by (with_reducible repeat (first | refine blk_drewN ?_ _ | refine blk_drew ?_ | refine blk_alloc ?_ _)); refine blk_far ?_ NB571_572.out _; (with_reducible repeat (first | refine blk_drewN ?_ _ | refine blk_drew ?_ | refine blk_alloc ?_ _)); refine blk_far ?_ NB571_572.out _; (with_reducible repeat (first | refine blk_drewN ?_ _ | refine blk_drew ?_ | refine blk_alloc ?_ _)); refine blk_far ?_ NB571_572.out _; (with_reducible repeat (first | refine blk_drewN ?_ _ | refine blk_drew ?_ | refine blk_alloc ?_ _)); refine blk_put (cs := #[.slice Ao13 t561.length co13, .int .i64 t564, .bool false]) ?_ 2 _ rfl; (with_reducible repeat (first | refine blk_drewN ?_ _ | refine blk_drew ?_ | refine blk_alloc ?_ _)); refine blk_put (cs := #[.slice Ao13 t561.length co13, .int .i64 0, .bool false]) ?_ 1 _ rfl; (with_reducible repeat (first | refine blk_drewN ?_ _ | refine blk_drew ?_ | refine blk_alloc ?_ _)); refine blk_put (cs := #[.slice none 0 0, .int .i64 0, .bool false]) ?_ 0 _ rfl; (with_reducible repeat (first | refine blk_drewN ?_ _ | refine blk_drew ?_ | refine blk_alloc ?_ _)); exact BK571.out) hb); replace BK572 := a0_ (blk_below (g := gb572) (o := .cells #[.slice Ao16 t566.length co16, .int .i64 t569, .bool t570] 26 (0, 0)) (by (with_reducible repeat (first | refine blk_drewN ?_ _ | refine blk_drew ?_ | refine blk_alloc ?_ _)); refine blk_put (cs := #[.slice Ao16 t566.length co16, .int .i64 t569, .bool false]) ?_ 2 _ rfl; (with_reducible repeat (first | refine blk_drewN ?_ _ | refine blk_drew ?_ | refine blk_alloc ?_ _)); refine blk_put (cs := #[.slice Ao16 t566.length co16, .int .i64 0, .bool false]) ?_ 1 _ rfl; (with_reducible repeat (first | refine blk_drewN ?_ _ | refine blk_drew ?_ | refine blk_alloc ?_ _)); refine blk_put (cs := #[.slice none 0 0, .int .i64 0, .bool false]) ?_ 0 _ rfl; (with_reducible repeat (first | refine blk_drewN ?_ _ | refine blk_drew ?_ | refine blk_alloc ?_ _)); refine blk_far ?_ NB572_571.out _; (with_reducible repeat (first | refine blk_drewN ?_ _ | refine blk_drew ?_ | refine blk_alloc ?_ _)); refine blk_far ?_ NB572_571.out _; (with_reducible repeat (first | refine blk_drewN ?_ _ | refine blk_drew ?_ | refine blk_alloc ?_ _)); refine blk_far ?_ NB572_571.out _; (with_reducible repeat (first | refine blk_drewN ?_ _ | refine blk_drew ?_ | refine blk_alloc ?_ _)); exact BK572.out) hb); replace HB := a0_ (below_step (bl2_ GE571.out GE572.out) hb); (try clear hb); (try clear hb2); (try clear hk); (try clear hi)) | ((with_reducible refine gate_callee (f := 7) rfl ?_); refine goesL_ (some 24) rfl rfl Tryz.func7 kr_ rfl #[.slice A0 l0.length c0] rfl ta_ ?_; (with_reducible refine (spec_DrawFormsOfPiece.calls k _ _ l0 t574 t577 t578 _ ?side1 ?side2 A6.out).mono ?_); (case side1 => exact ca_ (Kd.C_below HR0.out HB.out)); (case side2 => exact HC0.out); rintro e w19 ⟨v575, rfl, ho0, hb⟩; refine ⟨_, rfl, ?_⟩; have HO576 := a0_ (Kd.R_lower (Kd.R_new' (Kd.R_new' ho0 (Kd.R_lt (ra_ HO563.out))) (Kd.R_lt (ra_ HO568.out))) (below_size (bl2_ GE571.out GE572.out))); replace HO563 := a0_ (Kd.R_elder' (ra_ HO563.out) (Kd.R_base ho0) hb); replace HO568 := a0_ (Kd.R_elder' (ra_ HO568.out) (Kd.R_base ho0) hb); replace BK571 := a0_ (bb_ BK571.out hb); replace BK572 := a0_ (bb_ BK572.out hb); replace HB := a0_ (below_step (bl2_ GE571.out GE572.out) hb); (try clear hb); (try clear hb2); (try clear hk); (try clear hi); (try clear ho0)) | ((with_reducible refine gate_dst (N := 6) rfl ?_); (try (refine gate_guard (by rfl) ?_; dsimp only)); refine bx_ (N := 6) (cs := #[.slice none 0 0, .int .i64 0, .bool false]) (t := 26) ?_; intro gb579 hg w20 hbox hb; replace HO563 := a0_ (Kd.R_below (ra_ HO563.out) hb); replace HO568 := a0_ (Kd.R_below (ra_ HO568.out) hb); replace HO576 := a0_ (Kd.R_below (ra_ HO576.out) hb); have BK579 := a0_ (hbox); have GW579 := a0_ ((sz_ hg (bl2_ GE571.out GE572.out) : w.heap.size ≤ gb579)); have GE579 := a0_ ((sz_ hg (bl2_ GE571.out GE572.out) : w.heap.size ≤ gb579)); replace HB := a0_ (below_step (bl2_ GE571.out GE572.out) hb); have NB571_579 := a0_ ((nl_ hg BK571.out : gb571 ≠ gb579)); have NB579_571 := a0_ ((ng_ hg BK571.out : gb579 ≠ gb571)); replace BK571 := a0_ (bb_ BK571.out hb); have NB572_579 := a0_ ((nl_ hg BK572.out : gb572 ≠ gb579)); have NB579_572 := a0_ ((ng_ hg BK572.out : gb579 ≠ gb572)); replace BK572 := a0_ (bb_ BK572.out hb); clear hb hbox hg; obtain ⟨Ao21, co21, eo21⟩ := Kd.R_slice HO576.out; subst eo21; have hnb22 := NB579_571.out; have hnc22 := NB571_579.out; have hnb23 := NB579_572.out; have hnc23 := NB572_579.out; obtain ⟨hcz24_0, hcz24_1, hcz24_2, hfz24_0, hfz24_1, hfz24_2⟩ := bc3_ BK579.out) | ((with_reducible refine gate_callee (f := 8) rfl ?_); refine goesL_ (some 27) rfl rfl Tryz.func8 kr_ rfl #[.agg #[.slice Ao21 t574.length co21, .int .i64 t577, .bool t578]] rfl ta_ ?_; (with_reducible refine (impl_FormsOfPiece.calls k _ _ t574 t577 t578 t580 t583 _ ?side1 ?side2 A7.out).mono ?_); (case side1 => refine (Kd.R_reads' (e := 60) (base := w.heap.size) (ok := fun k_ => ((True ∧ some k_ ≠ (.slice Ao13 t561.length co13 : Value).ownBlock) ∧ some k_ ≠ (.slice Ao16 t566.length co16 : Value).ownBlock)) (n := t574.length) (c := co21) ?_).2.2; exact (by (with_reducible repeat (first | apply Kd.R_alloc | apply Kd.R_drewN | apply Kd.R_drew)); exact (Kd.R_mono (Kd.R_far (p := ⟨gb579, 2, none⟩) (Kd.R_far (p := ⟨gb579, 1, none⟩) (Kd.R_far (p := ⟨gb579, 0, none⟩) (Kd.R_types HO576.out BK579.out (by decide)) (fun _ hk => hk.2) (.slice Ao21 t574.length co21)) (fun _ hk => hk.2) (.int .i64 t577)) (fun _ hk => hk.2) (.bool t578)) (fun _ h_ => h_.1)))); (case side2 => exact (Kd.R_reads' HO576.out).2.1); rintro e w25 ⟨v581, rfl, ho0, hb⟩; refine ⟨_, rfl, ?_⟩; have HO582 := a0_ (Kd.V_lower (Kd.V_mono (ok' := fun k_ => some k_ ≠ (.slice Ao13 t561.length co13 : Value).ownBlock ∧ some k_ ≠ (.slice Ao16 t566.length co16 : Value).ownBlock ∧ some k_ ≠ (.slice Ao21 t574.length co21 : Value).ownBlock ∧ k_ ≠ gb571 ∧ k_ ≠ gb572 ∧ k_ ≠ gb579) ho0 (fun k_ hk_ => ⟨(Kd.fresh' (Kd.R_lt (by (with_reducible repeat (first | apply Kd.R_alloc | apply Kd.R_drewN | apply Kd.R_drew)); exact (Kd.R_mono (Kd.R_far (p := ⟨gb579, 2, none⟩) (Kd.R_far (p := ⟨gb579, 1, none⟩) (Kd.R_far (p := ⟨gb579, 0, none⟩) (Kd.R_types HO563.out BK579.out (by decide)) (fun _ hk => hk.2) (.slice Ao21 t574.length co21)) (fun _ hk => hk.2) (.int .i64 t577)) (fun _ hk => hk.2) (.bool t578)) (fun _ h_ => h_.1)))) k_ hk_), (Kd.fresh' (Kd.R_lt (by (with_reducible repeat (first | apply Kd.R_alloc | apply Kd.R_drewN | apply Kd.R_drew)); exact (Kd.R_mono (Kd.R_far (p := ⟨gb579, 2, none⟩) (Kd.R_far (p := ⟨gb579, 1, none⟩) (Kd.R_far (p := ⟨gb579, 0, none⟩) (Kd.R_types HO568.out BK579.out (by decide)) (fun _ hk => hk.2) (.slice Ao21 t574.length co21)) (fun _ hk => hk.2) (.int .i64 t577)) (fun _ hk => hk.2) (.bool t578)) (fun _ h_ => h_.1)))) k_ hk_), (Kd.fresh' (Kd.R_lt (by (with_reducible repeat (first | apply Kd.R_alloc | apply Kd.R_drewN | apply Kd.R_drew)); exact (Kd.R_mono (Kd.R_far (p := ⟨gb579, 2, none⟩) (Kd.R_far (p := ⟨gb579, 1, none⟩) (Kd.R_far (p := ⟨gb579, 0, none⟩) (Kd.R_types HO576.out BK579.out (by decide)) (fun _ hk => hk.2) (.slice Ao21 t574.length co21)) (fun _ hk => hk.2) (.int .i64 t577)) (fun _ hk => hk.2) (.bool t578)) (fun _ h_ => h_.1)))) k_ hk_), (Kd.freshB (g := gb571) (o := .cells #[.slice Ao13 t561.length co13, .int .i64 t564, .bool t565] 26 (0, 0)) (bf_ BK571.out NB571_579.out) k_ hk_), (Kd.freshB (g := gb572) (o := .cells #[.slice Ao16 t566.length co16, .int .i64 t569, .bool t570] 26 (0, 0)) (bf_ BK572.out NB572_579.out) k_ hk_), (Kd.freshB (g := gb579) (o := .cells #[.slice Ao21 t574.length co21, .int .i64 t577, .bool t578] 26 (0, 0)) (by (with_reducible repeat (first | refine blk_drewN ?_ _ | refine blk_drew ?_ | refine blk_alloc ?_ _)); refine blk_put (cs := #[.slice Ao21 t574.length co21, .int .i64 t577, .bool false]) ?_ 2 _ rfl; (with_reducible repeat (first | refine blk_drewN ?_ _ | refine blk_drew ?_ | refine blk_alloc ?_ _)); refine blk_put (cs := #[.slice Ao21 t574.length co21, .int .i64 0, .bool false]) ?_ 1 _ rfl; (with_reducible repeat (first | refine blk_drewN ?_ _ | refine blk_drew ?_ | refine blk_alloc ?_ _)); refine blk_put (cs := #[.slice none 0 0, .int .i64 0, .bool false]) ?_ 0 _ rfl; (with_reducible repeat (first | refine blk_drewN ?_ _ | refine blk_drew ?_ | refine blk_alloc ?_ _)); exact BK579.out) k_ hk_)⟩)) (below_size (bl3_ GE571.out GE572.out GE579.out))); replace HO563 := a0_ (Kd.R_below (by (with_reducible repeat (first | apply Kd.R_alloc | apply Kd.R_drewN | apply Kd.R_drew)); exact (Kd.R_mono (Kd.R_far (p := ⟨gb579, 2, none⟩) (Kd.R_far (p := ⟨gb579, 1, none⟩) (Kd.R_far (p := ⟨gb579, 0, none⟩) (Kd.R_types HO563.out BK579.out (by decide)) (fun _ hk => hk.2) (.slice Ao21 t574.length co21)) (fun _ hk => hk.2) (.int .i64 t577)) (fun _ hk => hk.2) (.bool t578)) (fun _ h_ => h_.1))) hb); replace HO568 := a0_ (Kd.R_below (by (with_reducible repeat (first | apply Kd.R_alloc | apply Kd.R_drewN | apply Kd.R_drew)); exact (Kd.R_mono (Kd.R_far (p := ⟨gb579, 2, none⟩) (Kd.R_far (p := ⟨gb579, 1, none⟩) (Kd.R_far (p := ⟨gb579, 0, none⟩) (Kd.R_types HO568.out BK579.out (by decide)) (fun _ hk => hk.2) (.slice Ao21 t574.length co21)) (fun _ hk => hk.2) (.int .i64 t577)) (fun _ hk => hk.2) (.bool t578)) (fun _ h_ => h_.1))) hb); replace HO576 := a0_ (Kd.R_below (by (with_reducible repeat (first | apply Kd.R_alloc | apply Kd.R_drewN | apply Kd.R_drew)); exact (Kd.R_mono (Kd.R_far (p := ⟨gb579, 2, none⟩) (Kd.R_far (p := ⟨gb579, 1, none⟩) (Kd.R_far (p := ⟨gb579, 0, none⟩) (Kd.R_types HO576.out BK579.out (by decide)) (fun _ hk => hk.2) (.slice Ao21 t574.length co21)) (fun _ hk => hk.2) (.int .i64 t577)) (fun _ hk => hk.2) (.bool t578)) (fun _ h_ => h_.1))) hb); replace BK571 := a0_ (blk_below (g := gb571) (o := .cells #[.slice Ao13 t561.length co13, .int .i64 t564, .bool t565] 26 (0, 0)) (bf_ BK571.out NB571_579.out) hb); replace BK572 := a0_ (blk_below (g := gb572) (o := .cells #[.slice Ao16 t566.length co16, .int .i64 t569, .bool t570] 26 (0, 0)) (bf_ BK572.out NB572_579.out) hb); replace BK579 := a0_ (blk_below (g := gb579) (o := .cells #[.slice Ao21 t574.length co21, .int .i64 t577, .bool t578] 26 (0, 0)) (by (with_reducible repeat (first | refine blk_drewN ?_ _ | refine blk_drew ?_ | refine blk_alloc ?_ _)); refine blk_put (cs := #[.slice Ao21 t574.length co21, .int .i64 t577, .bool false]) ?_ 2 _ rfl; (with_reducible repeat (first | refine blk_drewN ?_ _ | refine blk_drew ?_ | refine blk_alloc ?_ _)); refine blk_put (cs := #[.slice Ao21 t574.length co21, .int .i64 0, .bool false]) ?_ 1 _ rfl; (with_reducible repeat (first | refine blk_drewN ?_ _ | refine blk_drew ?_ | refine blk_alloc ?_ _)); refine blk_put (cs := #[.slice none 0 0, .int .i64 0, .bool false]) ?_ 0 _ rfl; (with_reducible repeat (first | refine blk_drewN ?_ _ | refine blk_drew ?_ | refine blk_alloc ?_ _)); exact BK579.out) hb); replace HB := a0_ (below_step (bl3_ GE571.out GE572.out GE579.out) hb); (try clear hb); (try clear hb2); (try clear hk); (try clear hi); (try clear ho0); obtain ⟨hcz26_0, hcz26_1, hcz26_2, hfz26_0, hfz26_1, hfz26_2⟩ := bc3_ BK579.out) | ((with_reducible refine gate_callee (f := 9) rfl ?_); refine goesL_ (some 32) rfl rfl Tryz.func9 kr_ rfl #[.agg #[.slice Ao21 t574.length co21, .int .i64 t577, .bool t578]] rfl ta_ ?_; (with_reducible refine (spec_FormsOfPiece.calls k _ _ t574 t577 t578 t584 t587 _ ?side1 ?side2 A8.out).mono ?_); (case side1 => exact ca_ (Kd.R_reads' HO576.out).2.2); (case side2 => exact (Kd.R_reads' HO576.out).2.1); rintro e w27 ⟨v585, rfl, ho0, hb⟩; refine ⟨_, rfl, ?_⟩; replace HO582 := a0_ (Kd.V_below (va_ HO582.out) hb); have HO586 := a0_ (Kd.V_lower (Kd.V_mono (ok' := fun k_ => some k_ ≠ (.slice Ao13 t561.length co13 : Value).ownBlock ∧ some k_ ≠ (.slice Ao16 t566.length co16 : Value).ownBlock ∧ some k_ ≠ (.slice Ao21 t574.length co21 : Value).ownBlock ∧ k_ ≠ gb571 ∧ k_ ≠ gb572 ∧ k_ ≠ gb579) ho0 (fun k_ hk_ => ⟨(Kd.fresh' (Kd.R_lt (ra_ HO563.out)) k_ hk_), (Kd.fresh' (Kd.R_lt (ra_ HO568.out)) k_ hk_), (Kd.fresh' (Kd.R_lt (ra_ HO576.out)) k_ hk_), (Kd.freshB (g := gb571) (o := .cells #[.slice Ao13 t561.length co13, .int .i64 t564, .bool t565] 26 (0, 0)) (bk_ BK571.out) k_ hk_), (Kd.freshB (g := gb572) (o := .cells #[.slice Ao16 t566.length co16, .int .i64 t569, .bool t570] 26 (0, 0)) (bk_ BK572.out) k_ hk_), (Kd.freshB (g := gb579) (o := .cells #[.slice Ao21 t574.length co21, .int .i64 t577, .bool t578] 26 (0, 0)) (bk_ BK579.out) k_ hk_)⟩)) (below_size (bl3_ GE571.out GE572.out GE579.out))); replace HO563 := a0_ (Kd.R_below (ra_ HO563.out) hb); replace HO568 := a0_ (Kd.R_below (ra_ HO568.out) hb); replace HO576 := a0_ (Kd.R_below (ra_ HO576.out) hb); replace BK571 := a0_ (bb_ BK571.out hb); replace BK572 := a0_ (bb_ BK572.out hb); replace BK579 := a0_ (bb_ BK579.out hb); replace HB := a0_ (below_step (bl3_ GE571.out GE572.out GE579.out) hb); (try clear hb); (try clear hb2); (try clear hk); (try clear hi); (try clear ho0)))
  (try simp only [Act.put, List.setIfInBounds_toArray, List.set_cons_zero, List.set_cons_succ])
  go_cut [64] (fun v64 wc => ∃ (kq : Nat) (x64_8 : Bool), v64 = .bool x64_8 ∧ Aside0 (laws_FnPieces.j0 kq l0 t580 t583 t584 x64_8 t574 t577 t578 = some r) ∧ Aside0 (kq ≤ k) ∧ Aside0 (Kd.V (Kd.slice 60 k60) 24 wc w.heap.size (fun k_ => some k_ ≠ ((.slice Ao13 t561.length co13) : Value).ownBlock ∧ some k_ ≠ ((.slice Ao16 t566.length co16) : Value).ownBlock ∧ some k_ ≠ ((.slice Ao21 t574.length co21) : Value).ownBlock ∧ k_ ≠ gb571 ∧ k_ ≠ gb572 ∧ k_ ≠ gb579) v581 t580) ∧ Aside0 (Kd.V (Kd.slice 60 k60) 24 wc w.heap.size (fun k_ => some k_ ≠ ((.slice Ao13 t561.length co13) : Value).ownBlock ∧ some k_ ≠ ((.slice Ao16 t566.length co16) : Value).ownBlock ∧ some k_ ≠ ((.slice Ao21 t574.length co21) : Value).ownBlock ∧ k_ ≠ gb571 ∧ k_ ≠ gb572 ∧ k_ ≠ gb579) v585 t584) ∧ Aside0 (Kd.R k60 60 wc w.heap.size (fun k_ => some k_ ≠ ((.slice Ao16 t566.length co16) : Value).ownBlock ∧ some k_ ≠ ((.slice Ao21 t574.length co21) : Value).ownBlock) (.slice Ao13 t561.length co13) t561) ∧ Aside0 (Kd.R k60 60 wc w.heap.size (fun k_ => some k_ ≠ ((.slice Ao13 t561.length co13) : Value).ownBlock ∧ some k_ ≠ ((.slice Ao21 t574.length co21) : Value).ownBlock) (.slice Ao16 t566.length co16) t566) ∧ Aside0 (Kd.R k60 60 wc w.heap.size (fun k_ => some k_ ≠ ((.slice Ao13 t561.length co13) : Value).ownBlock ∧ some k_ ≠ ((.slice Ao16 t566.length co16) : Value).ownBlock) (.slice Ao21 t574.length co21) t574) ∧ Aside0 (wc.heap[gb571]? = some (.cells #[(.slice Ao13 t561.length co13), .int .i64 t564, .bool t565] 26 (0, 0))) ∧ Aside0 (wc.heap[gb572]? = some (.cells #[(.slice Ao16 t566.length co16), .int .i64 t569, .bool t570] 26 (0, 0))) ∧ Aside0 (wc.heap[gb579]? = some (.cells #[(.slice Ao21 t574.length co21), .int .i64 t577, .bool t578] 26 (0, 0))) ∧ Aside0 (Below w.heap.size w wc))
  case first =>
   have H := HC9.out
   clear HC9
   obtain ⟨t588, A28, H⟩ := bs_ H
   by_cases c29 : (t573 != t588) = true
   ·rw [if_pos c29] at H
    have c29b0 : (t573 != t588) = true := c29
    (try (have c29b1 : decide (t573 = t588) = false := by simpa using c29))
    (try (have c29b2 : (t573 == t588) = false := by simpa using c29))
    (try (have c29b3 : ¬ (t573 = t588) := by simpa using c29))
    clear c29
    (first | rw [c29b0] | (simp only [i64_w, i32_w]; rw [c29b0]) | skip)
    have H' := Aside0.mk H
    clear H
    have hnb30 := NB571_572.out
    have hnc30 := NB572_571.out
    have hnb31 := NB571_579.out
    have hnc31 := NB579_571.out
    have hcz32_0 : w27.cell? ⟨gb571, 0, none⟩ = some (.slice Ao13 t561.length co13) := (blk_cell BK571.out 0).trans rfl
    have hcz32_1 : w27.cell? ⟨gb571, 1, none⟩ = some (.int .i64 t564) := (blk_cell BK571.out 1).trans rfl
    have hcz32_2 : w27.cell? ⟨gb571, 2, none⟩ = some (.bool t565) := (blk_cell BK571.out 2).trans rfl
    have hfz32_0 := blk_frozen BK571.out 0
    have hfz32_1 := blk_frozen BK571.out 1
    have hfz32_2 := blk_frozen BK571.out 2
    have hnb33 := NB572_579.out
    have hnc33 := NB579_572.out
    have hcz34_0 : w27.cell? ⟨gb572, 0, none⟩ = some (.slice Ao16 t566.length co16) := (blk_cell BK572.out 0).trans rfl
    have hcz34_1 : w27.cell? ⟨gb572, 1, none⟩ = some (.int .i64 t569) := (blk_cell BK572.out 1).trans rfl
    have hcz34_2 : w27.cell? ⟨gb572, 2, none⟩ = some (.bool t570) := (blk_cell BK572.out 2).trans rfl
    have hfz34_0 := blk_frozen BK572.out 0
    have hfz34_1 := blk_frozen BK572.out 1
    have hfz34_2 := blk_frozen BK572.out 2
    go_wp2_with (first | ((with_reducible refine gate_callee (f := 10) rfl ?_); refine goesL_ (some 38) rfl rfl Tryz.func10 kr_ rfl #[.agg #[.slice Ao13 t561.length co13, .int .i64 t564, .bool t565], .agg #[.slice Ao16 t566.length co16, .int .i64 t569, .bool t570]] rfl ta_ ?_; (with_reducible refine (spec_AreAlike.calls k _ _ t561 t564 t565 _ _ t566 t569 t570 t588 _ ?side1 ?side2 ?side3 ?side4 A28.out).mono ?_); (case side1 => exact ca_ (Kd.R_reads' HO563.out).2.2); (case side2 => exact (Kd.R_reads' HO563.out).2.1); (case side3 => exact ca_ (Kd.R_reads' HO568.out).2.2); (case side4 => exact (Kd.R_reads' HO568.out).2.1); rintro e w35 ⟨rfl, hb⟩; refine ⟨_, rfl, ?_⟩; replace HO563 := a0_ (Kd.R_below (ra_ HO563.out) hb); replace HO568 := a0_ (Kd.R_below (ra_ HO568.out) hb); replace HO576 := a0_ (Kd.R_below (ra_ HO576.out) hb); replace HO582 := a0_ (Kd.V_below (va_ HO582.out) hb); replace HO586 := a0_ (Kd.V_below (va_ HO586.out) hb); replace BK571 := a0_ (bb_ BK571.out hb); replace BK572 := a0_ (bb_ BK572.out hb); replace BK579 := a0_ (bb_ BK579.out hb); replace HB := a0_ (below_step (bl3_ GE571.out GE572.out GE579.out) hb); (try clear hb); (try clear hb2); (try clear hk); (try clear hi)))
    go_meet
    case rel => exact ⟨_, (true), rs_, H', ⟨by first | omega | exact Nat.le_refl _⟩, ⟨va_ HO582.out⟩, ⟨va_ HO586.out⟩, ⟨ra_ HO563.out⟩, ⟨ra_ HO568.out⟩, ⟨by (with_reducible repeat (first | apply Kd.R_alloc | apply Kd.R_drewN | apply Kd.R_drew)); exact Kd.R_mono HO576.out (fun _ hk => ⟨hk.1.2, hk.2⟩)⟩, ⟨bk_ BK571.out⟩, ⟨bk_ BK572.out⟩, ⟨bk_ BK579.out⟩, ⟨bl3_ GE571.out GE572.out GE579.out⟩⟩
   ·rw [if_neg c29] at H
    have c29b0 : (t573 != t588) = false := by simpa using c29
    (try (have c29b1 : decide (t573 = t588) = true := by simpa using c29))
    (try (have c29b2 : (t573 == t588) = true := by simpa using c29))
    clear c29
    (first | rw [c29b0] | (simp only [i64_w, i32_w]; rw [c29b0]) | skip)
    obtain ⟨t589, A36, H⟩ := bs_ H
    by_cases c37 : (t589 != t573) = true
    ·rw [if_pos c37] at H
     have c37b0 : (t589 != t573) = true := c37
     (try (have c37b1 : decide (t589 = t573) = false := by simpa using c37))
     (try (have c37b2 : (t589 == t573) = false := by simpa using c37))
     (try (have c37b3 : ¬ (t589 = t573) := by simpa using c37))
     clear c37
     have H' := Aside0.mk H
     clear H
     have hnb38 := NB571_572.out
     have hnc38 := NB572_571.out
     have hnb39 := NB571_579.out
     have hnc39 := NB579_571.out
     have hcz40_0 : w27.cell? ⟨gb571, 0, none⟩ = some (.slice Ao13 t561.length co13) := (blk_cell BK571.out 0).trans rfl
     have hcz40_1 : w27.cell? ⟨gb571, 1, none⟩ = some (.int .i64 t564) := (blk_cell BK571.out 1).trans rfl
     have hcz40_2 : w27.cell? ⟨gb571, 2, none⟩ = some (.bool t565) := (blk_cell BK571.out 2).trans rfl
     have hfz40_0 := blk_frozen BK571.out 0
     have hfz40_1 := blk_frozen BK571.out 1
     have hfz40_2 := blk_frozen BK571.out 2
     have hnb41 := NB572_579.out
     have hnc41 := NB579_572.out
     have hcz42_0 : w27.cell? ⟨gb572, 0, none⟩ = some (.slice Ao16 t566.length co16) := (blk_cell BK572.out 0).trans rfl
     have hcz42_1 : w27.cell? ⟨gb572, 1, none⟩ = some (.int .i64 t569) := (blk_cell BK572.out 1).trans rfl
     have hcz42_2 : w27.cell? ⟨gb572, 2, none⟩ = some (.bool t570) := (blk_cell BK572.out 2).trans rfl
     have hfz42_0 := blk_frozen BK572.out 0
     have hfz42_1 := blk_frozen BK572.out 1
     have hfz42_2 := blk_frozen BK572.out 2
     go_wp2_with (first | ((with_reducible refine gate_callee (f := 10) rfl ?_); refine goesL_ (some 38) rfl rfl Tryz.func10 kr_ rfl #[.agg #[.slice Ao13 t561.length co13, .int .i64 t564, .bool t565], .agg #[.slice Ao16 t566.length co16, .int .i64 t569, .bool t570]] rfl ta_ ?_; (with_reducible refine (spec_AreAlike.calls k _ _ t561 t564 t565 _ _ t566 t569 t570 t588 _ ?side1 ?side2 ?side3 ?side4 A28.out).mono ?_); (case side1 => exact ca_ (Kd.R_reads' HO563.out).2.2); (case side2 => exact (Kd.R_reads' HO563.out).2.1); (case side3 => exact ca_ (Kd.R_reads' HO568.out).2.2); (case side4 => exact (Kd.R_reads' HO568.out).2.1); rintro e w43 ⟨rfl, hb⟩; refine ⟨_, rfl, ?_⟩; replace HO563 := a0_ (Kd.R_below (ra_ HO563.out) hb); replace HO568 := a0_ (Kd.R_below (ra_ HO568.out) hb); replace HO576 := a0_ (Kd.R_below (ra_ HO576.out) hb); replace HO582 := a0_ (Kd.V_below (va_ HO582.out) hb); replace HO586 := a0_ (Kd.V_below (va_ HO586.out) hb); replace BK571 := a0_ (bb_ BK571.out hb); replace BK572 := a0_ (bb_ BK572.out hb); replace BK579 := a0_ (bb_ BK579.out hb); replace HB := a0_ (below_step (bl3_ GE571.out GE572.out GE579.out) hb); (try clear hb); (try clear hb2); (try clear hk); (try clear hi); obtain ⟨hcz44_0, hcz44_1, hcz44_2, hfz44_0, hfz44_1, hfz44_2⟩ := bc3_ BK572.out; obtain ⟨hcz45_0, hcz45_1, hcz45_2, hfz45_0, hfz45_1, hfz45_2⟩ := bc3_ BK571.out) | (go_at_call 6; (with_reducible refine (impl_AreAlike.calls k _ _ t566 t569 t570 _ _ t561 t564 t565 t589 _ ?side1 ?side2 ?side3 ?side4 A36.out).mono ?_); (case side1 => exact ca_ (Kd.R_reads' HO568.out).2.2); (case side2 => exact (Kd.R_reads' HO568.out).2.1); (case side3 => exact ca_ (Kd.R_reads' HO563.out).2.2); (case side4 => exact (Kd.R_reads' HO563.out).2.1); rintro e w46 ⟨rfl, hb⟩; replace HO563 := a0_ (Kd.R_below (ra_ HO563.out) hb); replace HO568 := a0_ (Kd.R_below (ra_ HO568.out) hb); replace HO576 := a0_ (Kd.R_below (ra_ HO576.out) hb); replace HO582 := a0_ (Kd.V_below (va_ HO582.out) hb); replace HO586 := a0_ (Kd.V_below (va_ HO586.out) hb); replace BK571 := a0_ (bb_ BK571.out hb); replace BK572 := a0_ (bb_ BK572.out hb); replace BK579 := a0_ (bb_ BK579.out hb); replace HB := a0_ (below_step (bl3_ GE571.out GE572.out GE579.out) hb); (try clear hb); (try clear hb2); (try clear hk); (try clear hi)))
     go_meet
     case rel => exact ⟨_, (true), rs_, H', ⟨by first | omega | exact Nat.le_refl _⟩, ⟨va_ HO582.out⟩, ⟨va_ HO586.out⟩, ⟨ra_ HO563.out⟩, ⟨ra_ HO568.out⟩, ⟨by (with_reducible repeat (first | apply Kd.R_alloc | apply Kd.R_drewN | apply Kd.R_drew)); exact Kd.R_mono HO576.out (fun _ hk => ⟨hk.1.2, hk.2⟩)⟩, ⟨bk_ BK571.out⟩, ⟨bk_ BK572.out⟩, ⟨bk_ BK579.out⟩, ⟨bl3_ GE571.out GE572.out GE579.out⟩⟩
    ·rw [if_neg c37] at H
     have c37b0 : (t589 != t573) = false := by simpa using c37
     (try (have c37b1 : decide (t589 = t573) = true := by simpa using c37))
     (try (have c37b2 : (t589 == t573) = true := by simpa using c37))
     clear c37
     by_cases c47 : t583 = t587
     ·rw [if_pos c47] at H
      have c47b0 : (t583 == t587) = true := beq_iff_eq.mpr c47
      have c47b1 : (t583 != t587) = false := bne_eq_false_iff_eq.mpr c47
      clear c47
      obtain ⟨t590, A48, H⟩ := bs_ H
      by_cases c49 : t590 = true
      ·subst c49
       rw [if_pos rfl] at H
       obtain ⟨t591, A50, H⟩ := bs_ H
       have H' := Aside0.mk H
       clear H
       have hnb51 := NB571_572.out
       have hnc51 := NB572_571.out
       have hnb52 := NB571_579.out
       have hnc52 := NB579_571.out
       have hcz53_0 : w27.cell? ⟨gb571, 0, none⟩ = some (.slice Ao13 t561.length co13) := (blk_cell BK571.out 0).trans rfl
       have hcz53_1 : w27.cell? ⟨gb571, 1, none⟩ = some (.int .i64 t564) := (blk_cell BK571.out 1).trans rfl
       have hcz53_2 : w27.cell? ⟨gb571, 2, none⟩ = some (.bool t565) := (blk_cell BK571.out 2).trans rfl
       have hfz53_0 := blk_frozen BK571.out 0
       have hfz53_1 := blk_frozen BK571.out 1
       have hfz53_2 := blk_frozen BK571.out 2
       have hnb54 := NB572_579.out
       have hnc54 := NB579_572.out
       have hcz55_0 : w27.cell? ⟨gb572, 0, none⟩ = some (.slice Ao16 t566.length co16) := (blk_cell BK572.out 0).trans rfl
       have hcz55_1 : w27.cell? ⟨gb572, 1, none⟩ = some (.int .i64 t569) := (blk_cell BK572.out 1).trans rfl
       have hcz55_2 : w27.cell? ⟨gb572, 2, none⟩ = some (.bool t570) := (blk_cell BK572.out 2).trans rfl
       have hfz55_0 := blk_frozen BK572.out 0
       have hfz55_1 := blk_frozen BK572.out 1
       have hfz55_2 := blk_frozen BK572.out 2
       go_wp2_with (first | ((with_reducible refine gate_callee (f := 10) rfl ?_); refine goesL_ (some 38) rfl rfl Tryz.func10 kr_ rfl #[.agg #[.slice Ao13 t561.length co13, .int .i64 t564, .bool t565], .agg #[.slice Ao16 t566.length co16, .int .i64 t569, .bool t570]] rfl ta_ ?_; (with_reducible refine (spec_AreAlike.calls k _ _ t561 t564 t565 _ _ t566 t569 t570 t588 _ ?side1 ?side2 ?side3 ?side4 A28.out).mono ?_); (case side1 => exact ca_ (Kd.R_reads' HO563.out).2.2); (case side2 => exact (Kd.R_reads' HO563.out).2.1); (case side3 => exact ca_ (Kd.R_reads' HO568.out).2.2); (case side4 => exact (Kd.R_reads' HO568.out).2.1); rintro e w56 ⟨rfl, hb⟩; refine ⟨_, rfl, ?_⟩; replace HO563 := a0_ (Kd.R_below (ra_ HO563.out) hb); replace HO568 := a0_ (Kd.R_below (ra_ HO568.out) hb); replace HO576 := a0_ (Kd.R_below (ra_ HO576.out) hb); replace HO582 := a0_ (Kd.V_below (va_ HO582.out) hb); replace HO586 := a0_ (Kd.V_below (va_ HO586.out) hb); replace BK571 := a0_ (bb_ BK571.out hb); replace BK572 := a0_ (bb_ BK572.out hb); replace BK579 := a0_ (bb_ BK579.out hb); replace HB := a0_ (below_step (bl3_ GE571.out GE572.out GE579.out) hb); (try clear hb); (try clear hb2); (try clear hk); (try clear hi); obtain ⟨hcz57_0, hcz57_1, hcz57_2, hfz57_0, hfz57_1, hfz57_2⟩ := bc3_ BK572.out; obtain ⟨hcz58_0, hcz58_1, hcz58_2, hfz58_0, hfz58_1, hfz58_2⟩ := bc3_ BK571.out) | (go_at_call 6; (with_reducible refine (impl_AreAlike.calls k _ _ t566 t569 t570 _ _ t561 t564 t565 t589 _ ?side1 ?side2 ?side3 ?side4 A36.out).mono ?_); (case side1 => exact ca_ (Kd.R_reads' HO568.out).2.2); (case side2 => exact (Kd.R_reads' HO568.out).2.1); (case side3 => exact ca_ (Kd.R_reads' HO563.out).2.2); (case side4 => exact (Kd.R_reads' HO563.out).2.1); rintro e w59 ⟨rfl, hb⟩; replace HO563 := a0_ (Kd.R_below (ra_ HO563.out) hb); replace HO568 := a0_ (Kd.R_below (ra_ HO568.out) hb); replace HO576 := a0_ (Kd.R_below (ra_ HO576.out) hb); replace HO582 := a0_ (Kd.V_below (va_ HO582.out) hb); replace HO586 := a0_ (Kd.V_below (va_ HO586.out) hb); replace BK571 := a0_ (bb_ BK571.out hb); replace BK572 := a0_ (bb_ BK572.out hb); replace BK579 := a0_ (bb_ BK579.out hb); replace HB := a0_ (below_step (bl3_ GE571.out GE572.out GE579.out) hb); (try clear hb); (try clear hb2); (try clear hk); (try clear hi); obtain ⟨Ao60, co60, eo60⟩ := Kd.V_slice HO582.out; subst eo60; obtain ⟨Ao61, co61, eo61⟩ := Kd.V_slice HO586.out; subst eo61) | (go_at_call 11; (with_reducible refine (laws_likeShapes.calls k _ _ t580 _ _ t584 true _ ?side1 ?side2 ?side3 ?side4 A48.out).mono ?_); (case side1 => exact ca_ (Kd.V_reads' HO582.out).2.2); (case side2 => exact (Kd.V_reads' HO582.out).2.1); (case side3 => exact ca_ (Kd.V_reads' HO586.out).2.2); (case side4 => exact (Kd.V_reads' HO586.out).2.1); rintro e w' ⟨rfl, ⟨nd, rfl⟩⟩; obtain ⟨hcz62_0, hcz62_1, hcz62_2, hfz62_0, hfz62_1, hfz62_2⟩ := bc3_ BK579.out) | (go_at_call 12; (with_reducible refine (impl_IsPiece.calls k _ _ t574 t577 t578 t591 _ ?side1 ?side2 A50.out).mono ?_); (case side1 => exact ca_ (Kd.R_reads' HO576.out).2.2); (case side2 => exact (Kd.R_reads' HO576.out).2.1); rintro e w63 ⟨rfl, hb⟩; replace HO563 := a0_ (Kd.R_below (ra_ HO563.out) hb); replace HO568 := a0_ (Kd.R_below (ra_ HO568.out) hb); replace HO576 := a0_ (Kd.R_below (ra_ HO576.out) hb); replace HO582 := a0_ (Kd.V_below (va_ HO582.out) hb); replace HO586 := a0_ (Kd.V_below (va_ HO586.out) hb); replace BK571 := a0_ (bb_ BK571.out hb); replace BK572 := a0_ (bb_ BK572.out hb); replace BK579 := a0_ (bb_ BK579.out hb); replace HB := a0_ (below_step (bl3_ GE571.out GE572.out GE579.out) hb); (try clear hb); (try clear hb2); (try clear hk); (try clear hi)))
       go_meet
       case rel => exact ⟨_, ((t591 != (t587 == 0))), rs_, H', ⟨by first | omega | exact Nat.le_refl _⟩, ⟨va_ HO582.out⟩, ⟨va_ HO586.out⟩, ⟨ra_ HO563.out⟩, ⟨ra_ HO568.out⟩, ⟨by (with_reducible repeat (first | apply Kd.R_alloc | apply Kd.R_drewN | apply Kd.R_drew)); exact Kd.R_mono HO576.out (fun _ hk => ⟨hk.1.2, hk.2⟩)⟩, ⟨bk_ BK571.out⟩, ⟨bk_ BK572.out⟩, ⟨bk_ BK579.out⟩, ⟨bl3_ GE571.out GE572.out GE579.out⟩⟩
      ·replace c49 := Bool.eq_false_iff.mpr c49
       subst c49
       rw [if_neg (show ¬ (false = true) by decide)] at H
       have H' := Aside0.mk H
       clear H
       have hnb64 := NB571_572.out
       have hnc64 := NB572_571.out
       have hnb65 := NB571_579.out
       have hnc65 := NB579_571.out
       have hcz66_0 : w27.cell? ⟨gb571, 0, none⟩ = some (.slice Ao13 t561.length co13) := (blk_cell BK571.out 0).trans rfl
       have hcz66_1 : w27.cell? ⟨gb571, 1, none⟩ = some (.int .i64 t564) := (blk_cell BK571.out 1).trans rfl
       have hcz66_2 : w27.cell? ⟨gb571, 2, none⟩ = some (.bool t565) := (blk_cell BK571.out 2).trans rfl
       have hfz66_0 := blk_frozen BK571.out 0
       have hfz66_1 := blk_frozen BK571.out 1
       have hfz66_2 := blk_frozen BK571.out 2
       have hnb67 := NB572_579.out
       have hnc67 := NB579_572.out
       have hcz68_0 : w27.cell? ⟨gb572, 0, none⟩ = some (.slice Ao16 t566.length co16) := (blk_cell BK572.out 0).trans rfl
       have hcz68_1 : w27.cell? ⟨gb572, 1, none⟩ = some (.int .i64 t569) := (blk_cell BK572.out 1).trans rfl
       have hcz68_2 : w27.cell? ⟨gb572, 2, none⟩ = some (.bool t570) := (blk_cell BK572.out 2).trans rfl
       have hfz68_0 := blk_frozen BK572.out 0
       have hfz68_1 := blk_frozen BK572.out 1
       have hfz68_2 := blk_frozen BK572.out 2
       go_wp2_with (first | ((with_reducible refine gate_callee (f := 10) rfl ?_); refine goesL_ (some 38) rfl rfl Tryz.func10 kr_ rfl #[.agg #[.slice Ao13 t561.length co13, .int .i64 t564, .bool t565], .agg #[.slice Ao16 t566.length co16, .int .i64 t569, .bool t570]] rfl ta_ ?_; (with_reducible refine (spec_AreAlike.calls k _ _ t561 t564 t565 _ _ t566 t569 t570 t588 _ ?side1 ?side2 ?side3 ?side4 A28.out).mono ?_); (case side1 => exact ca_ (Kd.R_reads' HO563.out).2.2); (case side2 => exact (Kd.R_reads' HO563.out).2.1); (case side3 => exact ca_ (Kd.R_reads' HO568.out).2.2); (case side4 => exact (Kd.R_reads' HO568.out).2.1); rintro e w69 ⟨rfl, hb⟩; refine ⟨_, rfl, ?_⟩; replace HO563 := a0_ (Kd.R_below (ra_ HO563.out) hb); replace HO568 := a0_ (Kd.R_below (ra_ HO568.out) hb); replace HO576 := a0_ (Kd.R_below (ra_ HO576.out) hb); replace HO582 := a0_ (Kd.V_below (va_ HO582.out) hb); replace HO586 := a0_ (Kd.V_below (va_ HO586.out) hb); replace BK571 := a0_ (bb_ BK571.out hb); replace BK572 := a0_ (bb_ BK572.out hb); replace BK579 := a0_ (bb_ BK579.out hb); replace HB := a0_ (below_step (bl3_ GE571.out GE572.out GE579.out) hb); (try clear hb); (try clear hb2); (try clear hk); (try clear hi); obtain ⟨hcz70_0, hcz70_1, hcz70_2, hfz70_0, hfz70_1, hfz70_2⟩ := bc3_ BK572.out; obtain ⟨hcz71_0, hcz71_1, hcz71_2, hfz71_0, hfz71_1, hfz71_2⟩ := bc3_ BK571.out) | (go_at_call 6; (with_reducible refine (impl_AreAlike.calls k _ _ t566 t569 t570 _ _ t561 t564 t565 t589 _ ?side1 ?side2 ?side3 ?side4 A36.out).mono ?_); (case side1 => exact ca_ (Kd.R_reads' HO568.out).2.2); (case side2 => exact (Kd.R_reads' HO568.out).2.1); (case side3 => exact ca_ (Kd.R_reads' HO563.out).2.2); (case side4 => exact (Kd.R_reads' HO563.out).2.1); rintro e w72 ⟨rfl, hb⟩; replace HO563 := a0_ (Kd.R_below (ra_ HO563.out) hb); replace HO568 := a0_ (Kd.R_below (ra_ HO568.out) hb); replace HO576 := a0_ (Kd.R_below (ra_ HO576.out) hb); replace HO582 := a0_ (Kd.V_below (va_ HO582.out) hb); replace HO586 := a0_ (Kd.V_below (va_ HO586.out) hb); replace BK571 := a0_ (bb_ BK571.out hb); replace BK572 := a0_ (bb_ BK572.out hb); replace BK579 := a0_ (bb_ BK579.out hb); replace HB := a0_ (below_step (bl3_ GE571.out GE572.out GE579.out) hb); (try clear hb); (try clear hb2); (try clear hk); (try clear hi); obtain ⟨Ao73, co73, eo73⟩ := Kd.V_slice HO582.out; subst eo73; obtain ⟨Ao74, co74, eo74⟩ := Kd.V_slice HO586.out; subst eo74) | (go_at_call 11; (with_reducible refine (laws_likeShapes.calls k _ _ t580 _ _ t584 false _ ?side1 ?side2 ?side3 ?side4 A48.out).mono ?_); (case side1 => exact ca_ (Kd.V_reads' HO582.out).2.2); (case side2 => exact (Kd.V_reads' HO582.out).2.1); (case side3 => exact ca_ (Kd.V_reads' HO586.out).2.2); (case side4 => exact (Kd.V_reads' HO586.out).2.1); rintro e w' ⟨rfl, ⟨nd, rfl⟩⟩))
       go_meet
       case rel => exact ⟨_, (true), rs_, H', ⟨by first | omega | exact Nat.le_refl _⟩, ⟨va_ HO582.out⟩, ⟨va_ HO586.out⟩, ⟨ra_ HO563.out⟩, ⟨ra_ HO568.out⟩, ⟨by (with_reducible repeat (first | apply Kd.R_alloc | apply Kd.R_drewN | apply Kd.R_drew)); exact Kd.R_mono HO576.out (fun _ hk => ⟨hk.1.2, hk.2⟩)⟩, ⟨bk_ BK571.out⟩, ⟨bk_ BK572.out⟩, ⟨bk_ BK579.out⟩, ⟨bl3_ GE571.out GE572.out GE579.out⟩⟩
     ·rw [if_neg c47] at H
      have c47b0 : (t583 == t587) = false := beq_eq_false_iff_ne.mpr c47
      have c47b1 : (t583 != t587) = true := bne_iff_ne.mpr c47
      have H' := Aside0.mk H
      clear H
      have hnb75 := NB571_572.out
      have hnc75 := NB572_571.out
      have hnb76 := NB571_579.out
      have hnc76 := NB579_571.out
      have hcz77_0 : w27.cell? ⟨gb571, 0, none⟩ = some (.slice Ao13 t561.length co13) := (blk_cell BK571.out 0).trans rfl
      have hcz77_1 : w27.cell? ⟨gb571, 1, none⟩ = some (.int .i64 t564) := (blk_cell BK571.out 1).trans rfl
      have hcz77_2 : w27.cell? ⟨gb571, 2, none⟩ = some (.bool t565) := (blk_cell BK571.out 2).trans rfl
      have hfz77_0 := blk_frozen BK571.out 0
      have hfz77_1 := blk_frozen BK571.out 1
      have hfz77_2 := blk_frozen BK571.out 2
      have hnb78 := NB572_579.out
      have hnc78 := NB579_572.out
      have hcz79_0 : w27.cell? ⟨gb572, 0, none⟩ = some (.slice Ao16 t566.length co16) := (blk_cell BK572.out 0).trans rfl
      have hcz79_1 : w27.cell? ⟨gb572, 1, none⟩ = some (.int .i64 t569) := (blk_cell BK572.out 1).trans rfl
      have hcz79_2 : w27.cell? ⟨gb572, 2, none⟩ = some (.bool t570) := (blk_cell BK572.out 2).trans rfl
      have hfz79_0 := blk_frozen BK572.out 0
      have hfz79_1 := blk_frozen BK572.out 1
      have hfz79_2 := blk_frozen BK572.out 2
      go_wp2_with (first | ((with_reducible refine gate_callee (f := 10) rfl ?_); refine goesL_ (some 38) rfl rfl Tryz.func10 kr_ rfl #[.agg #[.slice Ao13 t561.length co13, .int .i64 t564, .bool t565], .agg #[.slice Ao16 t566.length co16, .int .i64 t569, .bool t570]] rfl ta_ ?_; (with_reducible refine (spec_AreAlike.calls k _ _ t561 t564 t565 _ _ t566 t569 t570 t588 _ ?side1 ?side2 ?side3 ?side4 A28.out).mono ?_); (case side1 => exact ca_ (Kd.R_reads' HO563.out).2.2); (case side2 => exact (Kd.R_reads' HO563.out).2.1); (case side3 => exact ca_ (Kd.R_reads' HO568.out).2.2); (case side4 => exact (Kd.R_reads' HO568.out).2.1); rintro e w80 ⟨rfl, hb⟩; refine ⟨_, rfl, ?_⟩; replace HO563 := a0_ (Kd.R_below (ra_ HO563.out) hb); replace HO568 := a0_ (Kd.R_below (ra_ HO568.out) hb); replace HO576 := a0_ (Kd.R_below (ra_ HO576.out) hb); replace HO582 := a0_ (Kd.V_below (va_ HO582.out) hb); replace HO586 := a0_ (Kd.V_below (va_ HO586.out) hb); replace BK571 := a0_ (bb_ BK571.out hb); replace BK572 := a0_ (bb_ BK572.out hb); replace BK579 := a0_ (bb_ BK579.out hb); replace HB := a0_ (below_step (bl3_ GE571.out GE572.out GE579.out) hb); (try clear hb); (try clear hb2); (try clear hk); (try clear hi); obtain ⟨hcz81_0, hcz81_1, hcz81_2, hfz81_0, hfz81_1, hfz81_2⟩ := bc3_ BK572.out; obtain ⟨hcz82_0, hcz82_1, hcz82_2, hfz82_0, hfz82_1, hfz82_2⟩ := bc3_ BK571.out) | (go_at_call 6; (with_reducible refine (impl_AreAlike.calls k _ _ t566 t569 t570 _ _ t561 t564 t565 t589 _ ?side1 ?side2 ?side3 ?side4 A36.out).mono ?_); (case side1 => exact ca_ (Kd.R_reads' HO568.out).2.2); (case side2 => exact (Kd.R_reads' HO568.out).2.1); (case side3 => exact ca_ (Kd.R_reads' HO563.out).2.2); (case side4 => exact (Kd.R_reads' HO563.out).2.1); rintro e w83 ⟨rfl, hb⟩; replace HO563 := a0_ (Kd.R_below (ra_ HO563.out) hb); replace HO568 := a0_ (Kd.R_below (ra_ HO568.out) hb); replace HO576 := a0_ (Kd.R_below (ra_ HO576.out) hb); replace HO582 := a0_ (Kd.V_below (va_ HO582.out) hb); replace HO586 := a0_ (Kd.V_below (va_ HO586.out) hb); replace BK571 := a0_ (bb_ BK571.out hb); replace BK572 := a0_ (bb_ BK572.out hb); replace BK579 := a0_ (bb_ BK579.out hb); replace HB := a0_ (below_step (bl3_ GE571.out GE572.out GE579.out) hb); (try clear hb); (try clear hb2); (try clear hk); (try clear hi)))
      go_meet
      case rel => exact ⟨_, (true), rs_, H', ⟨by first | omega | exact Nat.le_refl _⟩, ⟨va_ HO582.out⟩, ⟨va_ HO586.out⟩, ⟨ra_ HO563.out⟩, ⟨ra_ HO568.out⟩, ⟨by (with_reducible repeat (first | apply Kd.R_alloc | apply Kd.R_drewN | apply Kd.R_drew)); exact Kd.R_mono HO576.out (fun _ hk => ⟨hk.1.2, hk.2⟩)⟩, ⟨bk_ BK571.out⟩, ⟨bk_ BK572.out⟩, ⟨bk_ BK579.out⟩, ⟨bl3_ GE571.out GE572.out GE579.out⟩⟩
  case rest =>
   clear HC9
   try clear c1
   try clear c2
   try clear p2
   try clear c3
   try clear c4
   try clear c5
   try clear c6
   try clear c7
   try clear c8
   try clear c9
   try clear c10
   try clear c14
   try clear c22
   try clear c23
   try clear c29
   try clear c29b0
   try clear c29b1
   try clear c29b2
   try clear c30
   try clear c31
   try clear c33
   try clear c37
   try clear c37b0
   try clear c37b1
   try clear c37b2
   try clear c38
   try clear c39
   try clear c41
   try clear c47
   try clear c47b0
   try clear c47b1
   try clear c49
   try clear c51
   try clear c52
   try clear c54
   try clear c64
   try clear c65
   try clear c67
   try clear c75
   try clear c76
   try clear c78
   try clear hcz15_0
   try clear hcz15_1
   try clear hcz15_2
   try clear hcz17_0
   try clear hcz17_1
   try clear hcz17_2
   try clear hcz24_0
   try clear hcz24_1
   try clear hcz24_2
   try clear hcz26_0
   try clear hcz26_1
   try clear hcz26_2
   try clear hcz32_0
   try clear hcz32_1
   try clear hcz32_2
   try clear hcz34_0
   try clear hcz34_1
   try clear hcz34_2
   try clear hcz40_0
   try clear hcz40_1
   try clear hcz40_2
   try clear hcz42_0
   try clear hcz42_1
   try clear hcz42_2
   try clear hcz44_0
   try clear hcz44_1
   try clear hcz44_2
   try clear hcz45_0
   try clear hcz45_1
   try clear hcz45_2
   try clear hcz53_0
   try clear hcz53_1
   try clear hcz53_2
   try clear hcz55_0
   try clear hcz55_1
   try clear hcz55_2
   try clear hcz57_0
   try clear hcz57_1
   try clear hcz57_2
   try clear hcz58_0
   try clear hcz58_1
   try clear hcz58_2
   try clear hcz62_0
   try clear hcz62_1
   try clear hcz62_2
   try clear hcz66_0
   try clear hcz66_1
   try clear hcz66_2
   try clear hcz68_0
   try clear hcz68_1
   try clear hcz68_2
   try clear hcz70_0
   try clear hcz70_1
   try clear hcz70_2
   try clear hcz71_0
   try clear hcz71_1
   try clear hcz71_2
   try clear hcz77_0
   try clear hcz77_1
   try clear hcz77_2
   try clear hcz79_0
   try clear hcz79_1
   try clear hcz79_2
   try clear hcz81_0
   try clear hcz81_1
   try clear hcz81_2
   try clear hcz82_0
   try clear hcz82_1
   try clear hcz82_2
   try clear hfz15_0
   try clear hfz15_1
   try clear hfz15_2
   try clear hfz17_0
   try clear hfz17_1
   try clear hfz17_2
   try clear hfz24_0
   try clear hfz24_1
   try clear hfz24_2
   try clear hfz26_0
   try clear hfz26_1
   try clear hfz26_2
   try clear hfz32_0
   try clear hfz32_1
   try clear hfz32_2
   try clear hfz34_0
   try clear hfz34_1
   try clear hfz34_2
   try clear hfz40_0
   try clear hfz40_1
   try clear hfz40_2
   try clear hfz42_0
   try clear hfz42_1
   try clear hfz42_2
   try clear hfz44_0
   try clear hfz44_1
   try clear hfz44_2
   try clear hfz45_0
   try clear hfz45_1
   try clear hfz45_2
   try clear hfz53_0
   try clear hfz53_1
   try clear hfz53_2
   try clear hfz55_0
   try clear hfz55_1
   try clear hfz55_2
   try clear hfz57_0
   try clear hfz57_1
   try clear hfz57_2
   try clear hfz58_0
   try clear hfz58_1
   try clear hfz58_2
   try clear hfz62_0
   try clear hfz62_1
   try clear hfz62_2
   try clear hfz66_0
   try clear hfz66_1
   try clear hfz66_2
   try clear hfz68_0
   try clear hfz68_1
   try clear hfz68_2
   try clear hfz70_0
   try clear hfz70_1
   try clear hfz70_2
   try clear hfz71_0
   try clear hfz71_1
   try clear hfz71_2
   try clear hfz77_0
   try clear hfz77_1
   try clear hfz77_2
   try clear hfz79_0
   try clear hfz79_1
   try clear hfz79_2
   try clear hfz81_0
   try clear hfz81_1
   try clear hfz81_2
   try clear hfz82_0
   try clear hfz82_1
   try clear hfz82_2
   obtain ⟨kq, x64_8, rfl, HA, HJ8, HO_7, HO_9, HO_572000, HO_573000, HO_580000, BK571, BK572, BK579, HB⟩ := hcut
   cases kq with
   | zero => exact absurd HA.out (by simp [laws_FnPieces.j0])
   | succ kj8 =>
    have H := HA.out
    clear HA
    simp only [laws_FnPieces.j0] at H
    by_cases c84 : x64_8 = true
    ·subst c84
     rw [if_pos rfl] at H
     obtain rfl := Option.some.inj H
     go_wp2
     go_ret
     exact ⟨er_, bl3_ GE571.out GE572.out GE579.out⟩
    ·replace c84 := Bool.eq_false_iff.mpr c84
     subst c84
     rw [if_neg (show ¬ (false = true) by decide)] at H
     by_cases c85 : t583 = 0
     ·rw [if_pos c85] at H
      have c85b0 : (t583 == 0) = true := beq_iff_eq.mpr c85
      have c85b1 : (t583 != 0) = false := bne_eq_false_iff_eq.mpr c85
      clear c85
      by_cases c86 : t578 = true
      ·subst c86
       rw [if_pos rfl] at H
       obtain ⟨⟨t592, t593, t594⟩, A87, H⟩ := bs_ H
       dsimp only at H
       obtain ⟨⟨t596, t597, t598⟩, A88, H⟩ := bs_ H
       dsimp only at H
       by_cases c89 : (t580.length : Int) ≤ 8
       ·rw [if_pos c89] at H
        have c89b0 : decide ((t580.length : Int) ≤ 8) = true := decide_eq_true c89
        have c89b1 : decide (t580.length ≤ 8) = true := decide_eq_true (by omega)
        clear c89
        by_cases c90 : (t580.length : Int) = 0
        ·rw [if_pos c90] at H
         exact absurd H (by simp)
        ·rw [if_neg c90] at H
         have c90b0 : ((t580.length : Int) == 0) = false := beq_eq_false_iff_ne.mpr c90
         have c90b1 : ((t580.length : Int) != 0) = true := bne_iff_ne.mpr c90
         have c90b2 : ¬ (t580 = []) := fun h_ => c90 (by rw [h_]; rfl)
         by_cases c91 : ((8 : Int) % (t580.length : Int)) = 0
         ·rw [if_pos c91] at H
          have c91b0 : (((8 : Int) % (t580.length : Int)) == 0) = true := beq_iff_eq.mpr c91
          have c91t0 : (Int.tmod (8 : Int) (t580.length : Int) == 0) = true := by rw [Int.tmod_eq_emod_of_nonneg (by decide)]; exact c91b0
          have c91b1 : (((8 : Int) % (t580.length : Int)) != 0) = false := bne_eq_false_iff_eq.mpr c91
          clear c91
          by_cases c92 : 0 ≤ t596
          ·rw [if_pos c92] at H
           have c92b0 : decide (0 ≤ t596) = true := decide_eq_true c92
           clear c92
           by_cases c93 : t596 < (t584.length : Int)
           ·rw [if_pos c93] at H
            have c93b0 : decide (t596 < (t584.length : Int)) = true := decide_eq_true c93
            clear c93
            obtain ⟨t600, A94, H⟩ := bs_ H
            obtain rfl := Option.some.inj H
            have hnb95 := NB579_571.out
            have hnc95 := NB571_579.out
            have hnb96 := NB579_572.out
            have hnc96 := NB572_579.out
            have hcz97_0 : wc.cell? ⟨gb579, 0, none⟩ = some (.slice Ao21 t574.length co21) := (blk_cell BK579.out 0).trans rfl
            have hcz97_1 : wc.cell? ⟨gb579, 1, none⟩ = some (.int .i64 t577) := (blk_cell BK579.out 1).trans rfl
            have hcz97_2 : wc.cell? ⟨gb579, 2, none⟩ = some (.bool true) := (blk_cell BK579.out 2).trans rfl
            have hfz97_0 := blk_frozen BK579.out 0
            have hfz97_1 := blk_frozen BK579.out 1
            have hfz97_2 := blk_frozen BK579.out 2
            try go_wp2_with (first | ((with_reducible refine gate_callee (f := 13) rfl ?_); refine goesL_ (some 70) rfl rfl Tryz.func13 kr_ rfl #[.slice A0 l0.length c0, .int .u64 1101] rfl ta_ ?_; (with_reducible refine ((fun W_ (hb_ : Below w.heap.size w W_) => laws_roll.calls kj8 _ _ l0 1101 t592 t593 t594 W_ W_ (Below.refl _ _) (Kd.C_below HR0.out hb_) HC0.out A87.out) _ ?side1).mono ?_); (case side1 => exact bl3_ GE571.out GE572.out GE579.out); rintro e w98 ⟨g595, rfl, hi, hb, hb2⟩; refine ⟨_, rfl, ?_⟩; replace HO_7 := a0_ (Kd.V_below (Kd.V_elderB (va_ HO_7.out) g595 (IsS52.ge hi)) hb2); replace HO_9 := a0_ (Kd.V_below (Kd.V_elderB (va_ HO_9.out) g595 (IsS52.ge hi)) hb2); replace HO_572000 := a0_ (Kd.R_below (ra_ HO_572000.out) hb2); replace HO_573000 := a0_ (Kd.R_below (ra_ HO_573000.out) hb2); replace HO_580000 := a0_ (Kd.R_below (ra_ HO_580000.out) hb2); have HBU595 := a0_ (bl3_ GE571.out GE572.out GE579.out); replace HB := a0_ (below_step (bl3_ GE571.out GE572.out GE579.out) hb2); have HBV595 := a0_ (hb); have HI595 := a0_ (hi); have NB595_571 := a0_ (IsS52.ne_blk hi (bb_ BK571.out hb2) (by decide)); have NB571_595 := a0_ (Ne.symm (IsS52.ne_blk hi (bb_ BK571.out hb2) (by decide))); replace BK571 := a0_ (bb_ BK571.out hb2); have NB595_572 := a0_ (IsS52.ne_blk hi (bb_ BK572.out hb2) (by decide)); have NB572_595 := a0_ (Ne.symm (IsS52.ne_blk hi (bb_ BK572.out hb2) (by decide))); replace BK572 := a0_ (bb_ BK572.out hb2); have NB595_579 := a0_ (IsS52.ne_blk hi (bb_ BK579.out hb2) (by decide)); have NB579_595 := a0_ (Ne.symm (IsS52.ne_blk hi (bb_ BK579.out hb2) (by decide))); replace BK579 := a0_ (bb_ BK579.out hb2); (try clear hb); (try clear hb2); (try clear hk); (try clear hi); obtain ⟨Ao99, co99, eo99⟩ := Kd.V_slice HO_9.out; subst eo99) | ((with_reducible refine gate_callee (f := 14) rfl ?_); refine goesL_ (some 73) rfl rfl Tryz.func14 kr_ rfl #[.pointer (some ⟨g595, 0, none⟩), .int .i64 (t584.length : Int)] rfl ta_ ?_; (with_reducible refine (laws_dice_below.calls g595 t592 t593 t594 (t584.length : Int) t596 t597 t598 _ _ HI595.out HBV595.out A88.out).mono ?_); rintro e w100 ⟨rfl, hi, hb, hk⟩; refine ⟨_, rfl, ?_⟩; replace HO_7 := a0_ (Kd.V_mono (Kd.V_keep (Kd.V_mono (ok := fun k_ => ((some k_ ≠ (.slice Ao13 t561.length co13 : Value).ownBlock ∧ (some k_ ≠ (.slice Ao16 t566.length co16 : Value).ownBlock ∧ (some k_ ≠ (.slice Ao21 t574.length co21 : Value).ownBlock ∧ (k_ ≠ gb571 ∧ (k_ ≠ gb572 ∧ k_ ≠ gb579))))) ∧ k_ ≠ g595)) (va_ HO_7.out) (fun k_ hk_ => (⟨hk_, hk_.2⟩ : _ ∧ k_ ≠ g595))) hk (fun _ h => h.2)) (fun _ h => h.1)); replace HO_9 := a0_ (Kd.V_mono (Kd.V_keep (Kd.V_mono (ok := fun k_ => ((some k_ ≠ (.slice Ao13 t561.length co13 : Value).ownBlock ∧ (some k_ ≠ (.slice Ao16 t566.length co16 : Value).ownBlock ∧ (some k_ ≠ (.slice Ao21 t574.length co21 : Value).ownBlock ∧ (k_ ≠ gb571 ∧ (k_ ≠ gb572 ∧ k_ ≠ gb579))))) ∧ k_ ≠ g595)) (va_ HO_9.out) (fun k_ hk_ => (⟨hk_, hk_.2⟩ : _ ∧ k_ ≠ g595))) hk (fun _ h => h.2)) (fun _ h => h.1)); replace HO_572000 := a0_ (Kd.R_mono (Kd.R_keep (IsS52.apart (show IsS52 _ _ g595 t592 t593 t594 from by repeat (first | (with_reducible first | exact HI595.out | apply IsS52.alloc | apply IsS52.drewN | apply IsS52.drew | apply IsS52.set_1 | apply IsS52.set_2 | refine IsS52.far ?_ NB595_571.out _ | refine IsS52.far ?_ NB595_572.out _ | refine IsS52.far ?_ NB595_579.out _) | exact HI595.out)) (ra_ HO_572000.out) (by decide)) hk (fun _ h => h.2)) (fun _ h => h.1)); replace HO_573000 := a0_ (Kd.R_mono (Kd.R_keep (IsS52.apart (show IsS52 _ _ g595 t592 t593 t594 from by repeat (first | (with_reducible first | exact HI595.out | apply IsS52.alloc | apply IsS52.drewN | apply IsS52.drew | apply IsS52.set_1 | apply IsS52.set_2 | refine IsS52.far ?_ NB595_571.out _ | refine IsS52.far ?_ NB595_572.out _ | refine IsS52.far ?_ NB595_579.out _) | exact HI595.out)) (ra_ HO_573000.out) (by decide)) hk (fun _ h => h.2)) (fun _ h => h.1)); replace HO_580000 := a0_ (Kd.R_mono (Kd.R_keep (IsS52.apart (show IsS52 _ _ g595 t592 t593 t594 from by repeat (first | (with_reducible first | exact HI595.out | apply IsS52.alloc | apply IsS52.drewN | apply IsS52.drew | apply IsS52.set_1 | apply IsS52.set_2 | refine IsS52.far ?_ NB595_571.out _ | refine IsS52.far ?_ NB595_572.out _ | refine IsS52.far ?_ NB595_579.out _) | exact HI595.out)) (ra_ HO_580000.out) (by decide)) hk (fun _ h => h.2)) (fun _ h => h.1)); replace BK571 := a0_ (KeepBut.blk hk (g' := gb571) (o := .cells #[.slice Ao13 t561.length co13, .int .i64 t564, .bool t565] 26 (0, 0)) (bk_ BK571.out) NB571_595.out (by simp)); replace BK572 := a0_ (KeepBut.blk hk (g' := gb572) (o := .cells #[.slice Ao16 t566.length co16, .int .i64 t569, .bool t570] 26 (0, 0)) (bk_ BK572.out) NB572_595.out (by simp)); replace BK579 := a0_ (KeepBut.blk hk (g' := gb579) (o := .cells #[.slice Ao21 t574.length co21, .int .i64 t577, .bool true] 26 (0, 0)) (bk_ BK579.out) NB579_595.out (by simp)); replace HB := a0_ (below_step HBU595.out hb); replace HI595 := a0_ (hi); replace HBV595 := a0_ (hb); (try clear hb); (try clear hb2); (try clear hk); (try clear hi)))
            replace HO_7 := a0_ (Kd.V_drew HO_7.out)
            replace HO_9 := a0_ (Kd.V_drew HO_9.out)
            replace HO_572000 := a0_ (Kd.R_drew HO_572000.out)
            replace HO_573000 := a0_ (Kd.R_drew HO_573000.out)
            replace HO_580000 := a0_ (Kd.R_drew HO_580000.out)
            replace BK571 := a0_ (blk_drew BK571.out)
            replace BK572 := a0_ (blk_drew BK572.out)
            replace BK579 := a0_ (blk_drew BK579.out)
            replace HI595 := a0_ (IsS52.drew HI595.out)
            replace HB := a0_ (below_drew1 HB.out)
            obtain ⟨Ao102, co102, eo102⟩ := Kd.V_slice HO_7.out
            (first | subst eo102 | (injection eo102 with f1_ f2_ f3_; have f4_ := f1_.symm; have f5_ := f3_.symm; clear f1_ f2_ f3_; subst f4_; subst f5_))
            have p599 : 0 ≤ (t596 : Int) := od_
            have q599 : t596 < (t584.length : Int) := od_
            obtain ⟨ad599, A599_0, c599_0, e599, hx599_0, hl599_0, hi599_0⟩ := at_L3 (Kd.V_reads' HO_9.out).2.2 t596 p599 q599
            cases e599
            obtain ⟨ce599, hce599, hMe599, hcc599⟩ := Kd.V_get HO_9.out [] t596 p599 (by first | exact q599 | exact od_ | (have e_ := (Kd.V_reads' HO_9.out).1; omega))
            obtain ⟨ua599_0, uc599_0, rfl, ul599_0, ge599_0⟩ := Kd.FK_slice_open hMe599
            have hv599_0 := hcc599 0 _ rfl
            rw [Nat.add_zero, show ((Kd.slice 60 k60)).sz = 1 from rfl, Nat.mul_one] at hv599_0
            replace hv599_0 := Option.some.inj (hv599_0.symm.trans hx599_0)
            injection hv599_0 with hva_ hvn_ hvc_
            rw [hva_] at ge599_0
            rw [hvc_] at ul599_0
            have HL599_0 := a0_ (show Kd.V k60 60 _ w.heap.size _ _ (rd_L3 t584 t596) from Kd.V_mk ul599_0 ge599_0)
            clear hva_ hvn_ hvc_ ge599_0 ul599_0
            clear hcc599 hce599
            have HR599_0 := Aside0.mk hi599_0
            have HC599_0 := Aside0.mk hl599_0
            clear hi599_0 hl599_0
            replace p599 := eq_true p599
            replace q599 := eq_true q599
            refine start_ (n := 23) (S := fun w' => w'.cell? ⟨gb579, 0, none⟩ = some (.slice Ao21 t574.length co21) ∧ w'.cell? ⟨gb579, 1, none⟩ = some (.int .i64 t577) ∧ w'.cell? ⟨gb579, 2, none⟩ = some (.bool true) ∧ w'.cell? (ad599.add (t596).toNat) = some (.slice A599_0 (rd_L3 t584 t596).length c599_0)) (ds := []) (mk_ 0 23) kr_ rfl rfl ⟨(blk_cell BK579.out 0).trans rfl, (blk_cell BK579.out 1).trans rfl, (blk_cell BK579.out 2).trans rfl, hx599_0⟩ (fun hHeld => ?_); refine with_tabW laws_FnPieces.tab16 laws_FnPieces.bits16 (fun HT_ HW_ => ?_)
            generalize w100.drew = w101 at HO_7 HO_9 HO_572000 HO_573000 HO_580000 BK571 BK572 BK579 HI595 HB HL599_0 HR599_0 hx599_0 hHeld ⊢
            refine pu_ 0 (some 74) (mk_ 1 22) HT_ ?_
            refine pu_ 1 (some 75) (mk_ 2 21) HT_ ?_
            refine pu_ 2 (some 76) (mk_ 3 20) HT_ ?_
            refine pu_ 3 (some 77) (mk_ 4 19) HT_ ?_
            refine pu_ 4 (some 78) (mk_ 5 18) HT_ ?_
            refine pu_ 5 (some 79) (mk_ 6 17) HT_ ?_
            refine pu_ 6 (some 80) (mk_ 7 16) HT_ ?_
            refine pu_ 7 (some 81) (mk_ 8 15) HT_ ?_
            refine pu_ 8 (some 82) (mk_ 9 14) HT_ ?_
            refine pu_ 9 (some 83) (mk_ 10 13) HT_ ?_
            refine pu_ 10 (some 84) (mk_ 11 12) HT_ ?_
            refine pu_ 11 (some 85) (mk_ 12 11) HT_ ?_
            refine pu_ 13 (some 87) #[true, true, true, true, true, true, true, true, true, true, true, true, false, true, false, false, false, false, false, false, false, false, false] HT_ ?_
            refine pu_ 14 (some 88) #[true, true, true, true, true, true, true, true, true, true, true, true, false, true, true, false, false, false, false, false, false, false, false] HT_ ?_
            refine pu_ 15 (some 89) #[true, true, true, true, true, true, true, true, true, true, true, true, false, true, true, true, false, false, false, false, false, false, false] HT_ ?_
            refine pu_ 17 (some 91) #[true, true, true, true, true, true, true, true, true, true, true, true, false, true, true, true, false, true, false, false, false, false, false] HT_ ?_
            refine tk_ 12 (some 86) #[true, true, true, true, true, true, true, true, true, true, true, true, true, true, true, true, false, true, false, false, false, false, false] HT_ HW_ hHeld (hy := .inl ⟨by rfl, by rintro w' ⟨s0, s1, s2, s3⟩; go_simp; with_reducible rfl⟩) ?_
            refine tk_ 16 (some 90) (mk_ 18 5) HT_ HW_ hHeld (hy := .inl ⟨by rfl, by rintro w' ⟨s0, s1, s2, s3⟩; go_simp; with_reducible rfl⟩) ?_
            refine tk_ 18 (some 92) (mk_ 19 4) HT_ HW_ hHeld (hy := .inl ⟨by rfl, by rintro w' ⟨s0, s1, s2, s3⟩; go_simp; with_reducible rfl⟩) ?_
            refine pu_ 19 (some 93) (mk_ 20 3) HT_ ?_
            refine one_ (i := 20) (N := some 94) (mk_ 21 2) rfl rfl (one_of HT_.out kr_) (by decide) (fun K hK => ?_)
            refine goes_ Tryz.func6 kr_ rfl #[.agg #[.slice Ao21 t574.length co21, .int .i64 t577, .bool true], .agg #[.slice A599_0 (rd_L3 t584 t596).length c599_0, .int .i64 1, .bool true]] (by rfl) rfl rfl ta_ ?_
            with_reducible refine (impl_AreAlike.calls kj8 _ _ t574 t577 true _ _ (rd_L3 t584 t596) 1 true t600 _ ?side1 ?side2 ?side3 ?side4 A94.out).mono ?_
            (case side1 => exact ca_ (Kd.R_reads' HO_580000.out).2.2)
            (case side2 => exact (Kd.R_reads' HO_580000.out).2.1)
            (case side3 => repeat (first | exact (by repeat (first | (with_reducible exact HR599_0.out) | (with_reducible refine Kd.C_alloc ?_ _) | (with_reducible refine Kd.C_drewN ?_ _) | (with_reducible refine Kd.C_drew ?_) | exact HR599_0.out)) | (with_reducible refine Kd.C_alloc ?_ _) | (with_reducible refine Kd.C_drewN ?_ _) | (with_reducible refine Kd.C_drew ?_)))
            (case side4 => exact HC599_0.out)
            rintro e w103 ⟨rfl, hb⟩
            have HS3_ := (hb.cell (World.block_lt_of_cell? _ _ (hHeld.2.2.2))).trans (hHeld.2.2.2)
            refine ⟨_, rfl, ?_⟩
            replace HO_7 := a0_ (Kd.V_below (va_ HO_7.out) hb)
            replace HO_9 := a0_ (Kd.V_below (va_ HO_9.out) hb)
            replace HO_572000 := a0_ (Kd.R_below (ra_ HO_572000.out) hb)
            replace HO_573000 := a0_ (Kd.R_below (ra_ HO_573000.out) hb)
            replace HO_580000 := a0_ (Kd.R_below (ra_ HO_580000.out) hb)
            replace HL599_0 := a0_ (Kd.V_below (va_ HL599_0.out) hb)
            replace BK571 := a0_ (bb_ BK571.out hb)
            replace BK572 := a0_ (bb_ BK572.out hb)
            replace BK579 := a0_ (bb_ BK579.out hb)
            replace HR599_0 := a0_ (Kd.C_below (by repeat (first | (with_reducible exact HR599_0.out) | (with_reducible refine Kd.C_alloc ?_ _) | (with_reducible refine Kd.C_drewN ?_ _) | (with_reducible refine Kd.C_drew ?_) | exact HR599_0.out)) hb)
            replace HB := a0_ (below_step (by repeat (first | (with_reducible first | exact HB.out | apply below_alloc | apply pw_below_drewN | apply below_drew1 | refine below_set ?_ (IsS52.ge HI595.out) | refine below_set ?_ GE571.out | refine below_set ?_ GE572.out | refine below_set ?_ GE579.out) | exact HB.out)) hb)
            replace HI595 := a0_ (IsS52.below (by repeat (first | (with_reducible first | exact HI595.out | apply IsS52.alloc | apply IsS52.drewN | apply IsS52.drew | apply IsS52.set_1 | apply IsS52.set_2 | refine IsS52.far ?_ NB595_571.out _ | refine IsS52.far ?_ NB595_572.out _ | refine IsS52.far ?_ NB595_579.out _) | exact HI595.out)) hb)
            (try clear hb)
            (try clear hb2)
            (try clear hk)
            (try clear hi)
            refine hK.out _ _ ⟨(blk_cell BK579.out 0).trans rfl, (blk_cell BK579.out 1).trans rfl, (blk_cell BK579.out 2).trans rfl, HS3_⟩ (fun hHeld => ?_)
            clear hK K
            refine nm_ ?_
            refine pu_ 21 (some 95) (mk_ 22 1) HT_ ?_
            refine pu_ 22 (some 2) (mk_ 23 0) HT_ ?_
            refine done_ (done_of HT_.out kr_) ?_
            try go_wp2
            go_ret
            exact ⟨er_, by repeat (first | (with_reducible first | exact HB.out | apply below_alloc | apply pw_below_drewN | apply below_drew1 | refine below_set ?_ (IsS52.ge HI595.out) | refine below_set ?_ GE571.out | refine below_set ?_ GE572.out | refine below_set ?_ GE579.out) | exact HB.out)⟩
           ·rw [if_neg c93] at H
            exact absurd H (by simp)
          ·rw [if_neg c92] at H
           exact absurd H (by simp)
         ·rw [if_neg c91] at H
          have c91b0 : (((8 : Int) % (t580.length : Int)) == 0) = false := beq_eq_false_iff_ne.mpr c91
          have c91t0 : (Int.tmod (8 : Int) (t580.length : Int) == 0) = false := by rw [Int.tmod_eq_emod_of_nonneg (by decide)]; exact c91b0
          have c91b1 : (((8 : Int) % (t580.length : Int)) != 0) = true := bne_iff_ne.mpr c91
          obtain rfl := Option.some.inj H
          have hnb104 := NB579_571.out
          have hnc104 := NB571_579.out
          have hnb105 := NB579_572.out
          have hnc105 := NB572_579.out
          have hcz106_0 : wc.cell? ⟨gb579, 0, none⟩ = some (.slice Ao21 t574.length co21) := (blk_cell BK579.out 0).trans rfl
          have hcz106_1 : wc.cell? ⟨gb579, 1, none⟩ = some (.int .i64 t577) := (blk_cell BK579.out 1).trans rfl
          have hcz106_2 : wc.cell? ⟨gb579, 2, none⟩ = some (.bool true) := (blk_cell BK579.out 2).trans rfl
          have hfz106_0 := blk_frozen BK579.out 0
          have hfz106_1 := blk_frozen BK579.out 1
          have hfz106_2 := blk_frozen BK579.out 2
          try go_wp2_with (first | ((with_reducible refine gate_callee (f := 13) rfl ?_); refine goesL_ (some 70) rfl rfl Tryz.func13 kr_ rfl #[.slice A0 l0.length c0, .int .u64 1101] rfl ta_ ?_; (with_reducible refine ((fun W_ (hb_ : Below w.heap.size w W_) => laws_roll.calls kj8 _ _ l0 1101 t592 t593 t594 W_ W_ (Below.refl _ _) (Kd.C_below HR0.out hb_) HC0.out A87.out) _ ?side1).mono ?_); (case side1 => exact bl3_ GE571.out GE572.out GE579.out); rintro e w107 ⟨g595, rfl, hi, hb, hb2⟩; refine ⟨_, rfl, ?_⟩; replace HO_7 := a0_ (Kd.V_below (Kd.V_elderB (va_ HO_7.out) g595 (IsS52.ge hi)) hb2); replace HO_9 := a0_ (Kd.V_below (Kd.V_elderB (va_ HO_9.out) g595 (IsS52.ge hi)) hb2); replace HO_572000 := a0_ (Kd.R_below (ra_ HO_572000.out) hb2); replace HO_573000 := a0_ (Kd.R_below (ra_ HO_573000.out) hb2); replace HO_580000 := a0_ (Kd.R_below (ra_ HO_580000.out) hb2); have HBU595 := a0_ (bl3_ GE571.out GE572.out GE579.out); replace HB := a0_ (below_step (bl3_ GE571.out GE572.out GE579.out) hb2); have HBV595 := a0_ (hb); have HI595 := a0_ (hi); have NB595_571 := a0_ (IsS52.ne_blk hi (bb_ BK571.out hb2) (by decide)); have NB571_595 := a0_ (Ne.symm (IsS52.ne_blk hi (bb_ BK571.out hb2) (by decide))); replace BK571 := a0_ (bb_ BK571.out hb2); have NB595_572 := a0_ (IsS52.ne_blk hi (bb_ BK572.out hb2) (by decide)); have NB572_595 := a0_ (Ne.symm (IsS52.ne_blk hi (bb_ BK572.out hb2) (by decide))); replace BK572 := a0_ (bb_ BK572.out hb2); have NB595_579 := a0_ (IsS52.ne_blk hi (bb_ BK579.out hb2) (by decide)); have NB579_595 := a0_ (Ne.symm (IsS52.ne_blk hi (bb_ BK579.out hb2) (by decide))); replace BK579 := a0_ (bb_ BK579.out hb2); (try clear hb); (try clear hb2); (try clear hk); (try clear hi); obtain ⟨Ao108, co108, eo108⟩ := Kd.V_slice HO_9.out; subst eo108) | ((with_reducible refine gate_callee (f := 14) rfl ?_); refine goesL_ (some 73) rfl rfl Tryz.func14 kr_ rfl #[.pointer (some ⟨g595, 0, none⟩), .int .i64 (t584.length : Int)] rfl ta_ ?_; (with_reducible refine (laws_dice_below.calls g595 t592 t593 t594 (t584.length : Int) t596 t597 t598 _ _ HI595.out HBV595.out A88.out).mono ?_); rintro e w109 ⟨rfl, hi, hb, hk⟩; refine ⟨_, rfl, ?_⟩; replace HO_7 := a0_ (Kd.V_mono (Kd.V_keep (Kd.V_mono (ok := fun k_ => ((some k_ ≠ (.slice Ao13 t561.length co13 : Value).ownBlock ∧ (some k_ ≠ (.slice Ao16 t566.length co16 : Value).ownBlock ∧ (some k_ ≠ (.slice Ao21 t574.length co21 : Value).ownBlock ∧ (k_ ≠ gb571 ∧ (k_ ≠ gb572 ∧ k_ ≠ gb579))))) ∧ k_ ≠ g595)) (va_ HO_7.out) (fun k_ hk_ => (⟨hk_, hk_.2⟩ : _ ∧ k_ ≠ g595))) hk (fun _ h => h.2)) (fun _ h => h.1)); replace HO_9 := a0_ (Kd.V_mono (Kd.V_keep (Kd.V_mono (ok := fun k_ => ((some k_ ≠ (.slice Ao13 t561.length co13 : Value).ownBlock ∧ (some k_ ≠ (.slice Ao16 t566.length co16 : Value).ownBlock ∧ (some k_ ≠ (.slice Ao21 t574.length co21 : Value).ownBlock ∧ (k_ ≠ gb571 ∧ (k_ ≠ gb572 ∧ k_ ≠ gb579))))) ∧ k_ ≠ g595)) (va_ HO_9.out) (fun k_ hk_ => (⟨hk_, hk_.2⟩ : _ ∧ k_ ≠ g595))) hk (fun _ h => h.2)) (fun _ h => h.1)); replace HO_572000 := a0_ (Kd.R_mono (Kd.R_keep (IsS52.apart (show IsS52 _ _ g595 t592 t593 t594 from by repeat (first | (with_reducible first | exact HI595.out | apply IsS52.alloc | apply IsS52.drewN | apply IsS52.drew | apply IsS52.set_1 | apply IsS52.set_2 | refine IsS52.far ?_ NB595_571.out _ | refine IsS52.far ?_ NB595_572.out _ | refine IsS52.far ?_ NB595_579.out _) | exact HI595.out)) (ra_ HO_572000.out) (by decide)) hk (fun _ h => h.2)) (fun _ h => h.1)); replace HO_573000 := a0_ (Kd.R_mono (Kd.R_keep (IsS52.apart (show IsS52 _ _ g595 t592 t593 t594 from by repeat (first | (with_reducible first | exact HI595.out | apply IsS52.alloc | apply IsS52.drewN | apply IsS52.drew | apply IsS52.set_1 | apply IsS52.set_2 | refine IsS52.far ?_ NB595_571.out _ | refine IsS52.far ?_ NB595_572.out _ | refine IsS52.far ?_ NB595_579.out _) | exact HI595.out)) (ra_ HO_573000.out) (by decide)) hk (fun _ h => h.2)) (fun _ h => h.1)); replace HO_580000 := a0_ (Kd.R_mono (Kd.R_keep (IsS52.apart (show IsS52 _ _ g595 t592 t593 t594 from by repeat (first | (with_reducible first | exact HI595.out | apply IsS52.alloc | apply IsS52.drewN | apply IsS52.drew | apply IsS52.set_1 | apply IsS52.set_2 | refine IsS52.far ?_ NB595_571.out _ | refine IsS52.far ?_ NB595_572.out _ | refine IsS52.far ?_ NB595_579.out _) | exact HI595.out)) (ra_ HO_580000.out) (by decide)) hk (fun _ h => h.2)) (fun _ h => h.1)); replace BK571 := a0_ (KeepBut.blk hk (g' := gb571) (o := .cells #[.slice Ao13 t561.length co13, .int .i64 t564, .bool t565] 26 (0, 0)) (bk_ BK571.out) NB571_595.out (by simp)); replace BK572 := a0_ (KeepBut.blk hk (g' := gb572) (o := .cells #[.slice Ao16 t566.length co16, .int .i64 t569, .bool t570] 26 (0, 0)) (bk_ BK572.out) NB572_595.out (by simp)); replace BK579 := a0_ (KeepBut.blk hk (g' := gb579) (o := .cells #[.slice Ao21 t574.length co21, .int .i64 t577, .bool true] 26 (0, 0)) (bk_ BK579.out) NB579_595.out (by simp)); replace HB := a0_ (below_step HBU595.out hb); replace HI595 := a0_ (hi); replace HBV595 := a0_ (hb); (try clear hb); (try clear hb2); (try clear hk); (try clear hi)))
          replace HO_7 := a0_ (Kd.V_drew HO_7.out)
          replace HO_9 := a0_ (Kd.V_drew HO_9.out)
          replace HO_572000 := a0_ (Kd.R_drew HO_572000.out)
          replace HO_573000 := a0_ (Kd.R_drew HO_573000.out)
          replace HO_580000 := a0_ (Kd.R_drew HO_580000.out)
          replace BK571 := a0_ (blk_drew BK571.out)
          replace BK572 := a0_ (blk_drew BK572.out)
          replace BK579 := a0_ (blk_drew BK579.out)
          replace HI595 := a0_ (IsS52.drew HI595.out)
          replace HB := a0_ (below_drew1 HB.out)
          obtain ⟨Ao111, co111, eo111⟩ := Kd.V_slice HO_7.out
          (first | subst eo111 | (injection eo111 with f1_ f2_ f3_; have f4_ := f1_.symm; have f5_ := f3_.symm; clear f1_ f2_ f3_; subst f4_; subst f5_))
          refine start_ (n := 23) (S := fun w' => True) (ds := []) (mk_ 0 23) kr_ rfl rfl trivial (fun hHeld => ?_); refine with_tabW laws_FnPieces.tab16 laws_FnPieces.bits16 (fun HT_ HW_ => ?_)
          generalize w109.drew = w110 at HO_7 HO_9 HO_572000 HO_573000 HO_580000 BK571 BK572 BK579 HI595 HB hHeld ⊢
          refine pu_ 0 (some 74) (mk_ 1 22) HT_ ?_
          refine pu_ 1 (some 75) (mk_ 2 21) HT_ ?_
          refine pu_ 2 (some 76) (mk_ 3 20) HT_ ?_
          refine pu_ 3 (some 77) (mk_ 4 19) HT_ ?_
          refine pu_ 4 (some 78) (mk_ 5 18) HT_ ?_
          refine pu_ 5 (some 79) (mk_ 6 17) HT_ ?_
          refine pu_ 6 (some 80) (mk_ 7 16) HT_ ?_
          refine pu_ 7 (some 81) (mk_ 8 15) HT_ ?_
          refine pu_ 8 (some 82) (mk_ 9 14) HT_ ?_
          refine pu_ 9 (some 83) (mk_ 10 13) HT_ ?_
          refine pu_ 10 (some 84) (mk_ 11 12) HT_ ?_
          refine pu_ 11 (some 85) (mk_ 12 11) HT_ ?_
          refine pn_ 12 (some 86) (mk_ 13 10) HT_ ?_
          refine pn_ 13 (some 87) (mk_ 14 9) HT_ ?_
          refine pn_ 14 (some 88) (mk_ 15 8) HT_ ?_
          refine pn_ 15 (some 89) (mk_ 16 7) HT_ ?_
          refine pn_ 16 (some 90) (mk_ 17 6) HT_ ?_
          refine pn_ 17 (some 91) (mk_ 18 5) HT_ ?_
          refine pn_ 18 (some 92) (mk_ 19 4) HT_ ?_
          refine pn_ 19 (some 93) (mk_ 20 3) HT_ ?_
          refine pn_ 20 (some 94) (mk_ 21 2) HT_ ?_
          refine pu_ 21 (some 95) (mk_ 22 1) HT_ ?_
          refine pu_ 22 (some 2) (mk_ 23 0) HT_ ?_
          refine done_ (done_of HT_.out kr_) ?_
          try go_wp2
          go_ret
          exact ⟨er_, by repeat (first | (with_reducible first | exact HB.out | apply below_alloc | apply pw_below_drewN | apply below_drew1 | refine below_set ?_ (IsS52.ge HI595.out) | refine below_set ?_ GE571.out | refine below_set ?_ GE572.out | refine below_set ?_ GE579.out) | exact HB.out)⟩
       ·rw [if_neg c89] at H
        have c89b0 : decide ((t580.length : Int) ≤ 8) = false := decide_eq_false c89
        have c89b1 : decide (t580.length ≤ 8) = false := decide_eq_false (by omega)
        clear c89
        obtain rfl := Option.some.inj H
        have hnb112 := NB579_571.out
        have hnc112 := NB571_579.out
        have hnb113 := NB579_572.out
        have hnc113 := NB572_579.out
        have hcz114_0 : wc.cell? ⟨gb579, 0, none⟩ = some (.slice Ao21 t574.length co21) := (blk_cell BK579.out 0).trans rfl
        have hcz114_1 : wc.cell? ⟨gb579, 1, none⟩ = some (.int .i64 t577) := (blk_cell BK579.out 1).trans rfl
        have hcz114_2 : wc.cell? ⟨gb579, 2, none⟩ = some (.bool true) := (blk_cell BK579.out 2).trans rfl
        have hfz114_0 := blk_frozen BK579.out 0
        have hfz114_1 := blk_frozen BK579.out 1
        have hfz114_2 := blk_frozen BK579.out 2
        try go_wp2_with (first | ((with_reducible refine gate_callee (f := 13) rfl ?_); refine goesL_ (some 70) rfl rfl Tryz.func13 kr_ rfl #[.slice A0 l0.length c0, .int .u64 1101] rfl ta_ ?_; (with_reducible refine ((fun W_ (hb_ : Below w.heap.size w W_) => laws_roll.calls kj8 _ _ l0 1101 t592 t593 t594 W_ W_ (Below.refl _ _) (Kd.C_below HR0.out hb_) HC0.out A87.out) _ ?side1).mono ?_); (case side1 => exact bl3_ GE571.out GE572.out GE579.out); rintro e w115 ⟨g595, rfl, hi, hb, hb2⟩; refine ⟨_, rfl, ?_⟩; replace HO_7 := a0_ (Kd.V_below (Kd.V_elderB (va_ HO_7.out) g595 (IsS52.ge hi)) hb2); replace HO_9 := a0_ (Kd.V_below (Kd.V_elderB (va_ HO_9.out) g595 (IsS52.ge hi)) hb2); replace HO_572000 := a0_ (Kd.R_below (ra_ HO_572000.out) hb2); replace HO_573000 := a0_ (Kd.R_below (ra_ HO_573000.out) hb2); replace HO_580000 := a0_ (Kd.R_below (ra_ HO_580000.out) hb2); have HBU595 := a0_ (bl3_ GE571.out GE572.out GE579.out); replace HB := a0_ (below_step (bl3_ GE571.out GE572.out GE579.out) hb2); have HBV595 := a0_ (hb); have HI595 := a0_ (hi); have NB595_571 := a0_ (IsS52.ne_blk hi (bb_ BK571.out hb2) (by decide)); have NB571_595 := a0_ (Ne.symm (IsS52.ne_blk hi (bb_ BK571.out hb2) (by decide))); replace BK571 := a0_ (bb_ BK571.out hb2); have NB595_572 := a0_ (IsS52.ne_blk hi (bb_ BK572.out hb2) (by decide)); have NB572_595 := a0_ (Ne.symm (IsS52.ne_blk hi (bb_ BK572.out hb2) (by decide))); replace BK572 := a0_ (bb_ BK572.out hb2); have NB595_579 := a0_ (IsS52.ne_blk hi (bb_ BK579.out hb2) (by decide)); have NB579_595 := a0_ (Ne.symm (IsS52.ne_blk hi (bb_ BK579.out hb2) (by decide))); replace BK579 := a0_ (bb_ BK579.out hb2); (try clear hb); (try clear hb2); (try clear hk); (try clear hi); obtain ⟨Ao116, co116, eo116⟩ := Kd.V_slice HO_9.out; subst eo116) | ((with_reducible refine gate_callee (f := 14) rfl ?_); refine goesL_ (some 73) rfl rfl Tryz.func14 kr_ rfl #[.pointer (some ⟨g595, 0, none⟩), .int .i64 (t584.length : Int)] rfl ta_ ?_; (with_reducible refine (laws_dice_below.calls g595 t592 t593 t594 (t584.length : Int) t596 t597 t598 _ _ HI595.out HBV595.out A88.out).mono ?_); rintro e w117 ⟨rfl, hi, hb, hk⟩; refine ⟨_, rfl, ?_⟩; replace HO_7 := a0_ (Kd.V_mono (Kd.V_keep (Kd.V_mono (ok := fun k_ => ((some k_ ≠ (.slice Ao13 t561.length co13 : Value).ownBlock ∧ (some k_ ≠ (.slice Ao16 t566.length co16 : Value).ownBlock ∧ (some k_ ≠ (.slice Ao21 t574.length co21 : Value).ownBlock ∧ (k_ ≠ gb571 ∧ (k_ ≠ gb572 ∧ k_ ≠ gb579))))) ∧ k_ ≠ g595)) (va_ HO_7.out) (fun k_ hk_ => (⟨hk_, hk_.2⟩ : _ ∧ k_ ≠ g595))) hk (fun _ h => h.2)) (fun _ h => h.1)); replace HO_9 := a0_ (Kd.V_mono (Kd.V_keep (Kd.V_mono (ok := fun k_ => ((some k_ ≠ (.slice Ao13 t561.length co13 : Value).ownBlock ∧ (some k_ ≠ (.slice Ao16 t566.length co16 : Value).ownBlock ∧ (some k_ ≠ (.slice Ao21 t574.length co21 : Value).ownBlock ∧ (k_ ≠ gb571 ∧ (k_ ≠ gb572 ∧ k_ ≠ gb579))))) ∧ k_ ≠ g595)) (va_ HO_9.out) (fun k_ hk_ => (⟨hk_, hk_.2⟩ : _ ∧ k_ ≠ g595))) hk (fun _ h => h.2)) (fun _ h => h.1)); replace HO_572000 := a0_ (Kd.R_mono (Kd.R_keep (IsS52.apart (show IsS52 _ _ g595 t592 t593 t594 from by repeat (first | (with_reducible first | exact HI595.out | apply IsS52.alloc | apply IsS52.drewN | apply IsS52.drew | apply IsS52.set_1 | apply IsS52.set_2 | refine IsS52.far ?_ NB595_571.out _ | refine IsS52.far ?_ NB595_572.out _ | refine IsS52.far ?_ NB595_579.out _) | exact HI595.out)) (ra_ HO_572000.out) (by decide)) hk (fun _ h => h.2)) (fun _ h => h.1)); replace HO_573000 := a0_ (Kd.R_mono (Kd.R_keep (IsS52.apart (show IsS52 _ _ g595 t592 t593 t594 from by repeat (first | (with_reducible first | exact HI595.out | apply IsS52.alloc | apply IsS52.drewN | apply IsS52.drew | apply IsS52.set_1 | apply IsS52.set_2 | refine IsS52.far ?_ NB595_571.out _ | refine IsS52.far ?_ NB595_572.out _ | refine IsS52.far ?_ NB595_579.out _) | exact HI595.out)) (ra_ HO_573000.out) (by decide)) hk (fun _ h => h.2)) (fun _ h => h.1)); replace HO_580000 := a0_ (Kd.R_mono (Kd.R_keep (IsS52.apart (show IsS52 _ _ g595 t592 t593 t594 from by repeat (first | (with_reducible first | exact HI595.out | apply IsS52.alloc | apply IsS52.drewN | apply IsS52.drew | apply IsS52.set_1 | apply IsS52.set_2 | refine IsS52.far ?_ NB595_571.out _ | refine IsS52.far ?_ NB595_572.out _ | refine IsS52.far ?_ NB595_579.out _) | exact HI595.out)) (ra_ HO_580000.out) (by decide)) hk (fun _ h => h.2)) (fun _ h => h.1)); replace BK571 := a0_ (KeepBut.blk hk (g' := gb571) (o := .cells #[.slice Ao13 t561.length co13, .int .i64 t564, .bool t565] 26 (0, 0)) (bk_ BK571.out) NB571_595.out (by simp)); replace BK572 := a0_ (KeepBut.blk hk (g' := gb572) (o := .cells #[.slice Ao16 t566.length co16, .int .i64 t569, .bool t570] 26 (0, 0)) (bk_ BK572.out) NB572_595.out (by simp)); replace BK579 := a0_ (KeepBut.blk hk (g' := gb579) (o := .cells #[.slice Ao21 t574.length co21, .int .i64 t577, .bool true] 26 (0, 0)) (bk_ BK579.out) NB579_595.out (by simp)); replace HB := a0_ (below_step HBU595.out hb); replace HI595 := a0_ (hi); replace HBV595 := a0_ (hb); (try clear hb); (try clear hb2); (try clear hk); (try clear hi)))
        replace HO_7 := a0_ (Kd.V_drew HO_7.out)
        replace HO_9 := a0_ (Kd.V_drew HO_9.out)
        replace HO_572000 := a0_ (Kd.R_drew HO_572000.out)
        replace HO_573000 := a0_ (Kd.R_drew HO_573000.out)
        replace HO_580000 := a0_ (Kd.R_drew HO_580000.out)
        replace BK571 := a0_ (blk_drew BK571.out)
        replace BK572 := a0_ (blk_drew BK572.out)
        replace BK579 := a0_ (blk_drew BK579.out)
        replace HI595 := a0_ (IsS52.drew HI595.out)
        replace HB := a0_ (below_drew1 HB.out)
        obtain ⟨Ao119, co119, eo119⟩ := Kd.V_slice HO_7.out
        (first | subst eo119 | (injection eo119 with f1_ f2_ f3_; have f4_ := f1_.symm; have f5_ := f3_.symm; clear f1_ f2_ f3_; subst f4_; subst f5_))
        refine start_ (n := 23) (S := fun w' => True) (ds := []) (mk_ 0 23) kr_ rfl rfl trivial (fun hHeld => ?_); refine with_tabW laws_FnPieces.tab16 laws_FnPieces.bits16 (fun HT_ HW_ => ?_)
        generalize w117.drew = w118 at HO_7 HO_9 HO_572000 HO_573000 HO_580000 BK571 BK572 BK579 HI595 HB hHeld ⊢
        refine pu_ 0 (some 74) (mk_ 1 22) HT_ ?_
        refine pu_ 1 (some 75) (mk_ 2 21) HT_ ?_
        refine pu_ 2 (some 76) (mk_ 3 20) HT_ ?_
        refine pu_ 3 (some 77) (mk_ 4 19) HT_ ?_
        refine pu_ 4 (some 78) (mk_ 5 18) HT_ ?_
        refine pn_ 5 (some 79) (mk_ 6 17) HT_ ?_
        refine pn_ 6 (some 80) (mk_ 7 16) HT_ ?_
        refine pn_ 7 (some 81) (mk_ 8 15) HT_ ?_
        refine pn_ 8 (some 82) (mk_ 9 14) HT_ ?_
        refine pn_ 9 (some 83) (mk_ 10 13) HT_ ?_
        refine pu_ 10 (some 84) (mk_ 11 12) HT_ ?_
        refine pu_ 11 (some 85) (mk_ 12 11) HT_ ?_
        refine pn_ 12 (some 86) (mk_ 13 10) HT_ ?_
        refine pn_ 13 (some 87) (mk_ 14 9) HT_ ?_
        refine pn_ 14 (some 88) (mk_ 15 8) HT_ ?_
        refine pn_ 15 (some 89) (mk_ 16 7) HT_ ?_
        refine pn_ 16 (some 90) (mk_ 17 6) HT_ ?_
        refine pn_ 17 (some 91) (mk_ 18 5) HT_ ?_
        refine pn_ 18 (some 92) (mk_ 19 4) HT_ ?_
        refine pn_ 19 (some 93) (mk_ 20 3) HT_ ?_
        refine pn_ 20 (some 94) (mk_ 21 2) HT_ ?_
        refine pu_ 21 (some 95) (mk_ 22 1) HT_ ?_
        refine pu_ 22 (some 2) (mk_ 23 0) HT_ ?_
        refine done_ (done_of HT_.out kr_) ?_
        try go_wp2
        go_ret
        exact ⟨er_, by repeat (first | (with_reducible first | exact HB.out | apply below_alloc | apply pw_below_drewN | apply below_drew1 | refine below_set ?_ (IsS52.ge HI595.out) | refine below_set ?_ GE571.out | refine below_set ?_ GE572.out | refine below_set ?_ GE579.out) | exact HB.out)⟩
      ·replace c86 := Bool.eq_false_iff.mpr c86
       subst c86
       rw [if_neg (show ¬ (false = true) by decide)] at H
       obtain ⟨⟨t601, t602, t603⟩, A120, H⟩ := bs_ H
       dsimp only at H
       obtain ⟨⟨t605, t606, t607⟩, A121, H⟩ := bs_ H
       dsimp only at H
       by_cases c122 : (t580.length : Int) ≤ 4
       ·rw [if_pos c122] at H
        have c122b0 : decide ((t580.length : Int) ≤ 4) = true := decide_eq_true c122
        have c122b1 : decide (t580.length ≤ 4) = true := decide_eq_true (by omega)
        clear c122
        by_cases c123 : (t580.length : Int) = 0
        ·rw [if_pos c123] at H
         exact absurd H (by simp)
        ·rw [if_neg c123] at H
         have c123b0 : ((t580.length : Int) == 0) = false := beq_eq_false_iff_ne.mpr c123
         have c123b1 : ((t580.length : Int) != 0) = true := bne_iff_ne.mpr c123
         have c123b2 : ¬ (t580 = []) := fun h_ => c123 (by rw [h_]; rfl)
         by_cases c124 : ((4 : Int) % (t580.length : Int)) = 0
         ·rw [if_pos c124] at H
          have c124b0 : (((4 : Int) % (t580.length : Int)) == 0) = true := beq_iff_eq.mpr c124
          have c124t0 : (Int.tmod (4 : Int) (t580.length : Int) == 0) = true := by rw [Int.tmod_eq_emod_of_nonneg (by decide)]; exact c124b0
          have c124b1 : (((4 : Int) % (t580.length : Int)) != 0) = false := bne_eq_false_iff_eq.mpr c124
          clear c124
          by_cases c125 : 0 ≤ t605
          ·rw [if_pos c125] at H
           have c125b0 : decide (0 ≤ t605) = true := decide_eq_true c125
           clear c125
           by_cases c126 : t605 < (t584.length : Int)
           ·rw [if_pos c126] at H
            have c126b0 : decide (t605 < (t584.length : Int)) = true := decide_eq_true c126
            clear c126
            obtain ⟨t609, A127, H⟩ := bs_ H
            obtain rfl := Option.some.inj H
            have hnb128 := NB579_571.out
            have hnc128 := NB571_579.out
            have hnb129 := NB579_572.out
            have hnc129 := NB572_579.out
            have hcz130_0 : wc.cell? ⟨gb579, 0, none⟩ = some (.slice Ao21 t574.length co21) := (blk_cell BK579.out 0).trans rfl
            have hcz130_1 : wc.cell? ⟨gb579, 1, none⟩ = some (.int .i64 t577) := (blk_cell BK579.out 1).trans rfl
            have hcz130_2 : wc.cell? ⟨gb579, 2, none⟩ = some (.bool false) := (blk_cell BK579.out 2).trans rfl
            have hfz130_0 := blk_frozen BK579.out 0
            have hfz130_1 := blk_frozen BK579.out 1
            have hfz130_2 := blk_frozen BK579.out 2
            try go_wp2_with (first | ((with_reducible refine gate_callee (f := 13) rfl ?_); refine goesL_ (some 70) rfl rfl Tryz.func13 kr_ rfl #[.slice A0 l0.length c0, .int .u64 1101] rfl ta_ ?_; (with_reducible refine ((fun W_ (hb_ : Below w.heap.size w W_) => laws_roll.calls kj8 _ _ l0 1101 t601 t602 t603 W_ W_ (Below.refl _ _) (Kd.C_below HR0.out hb_) HC0.out A120.out) _ ?side1).mono ?_); (case side1 => exact bl3_ GE571.out GE572.out GE579.out); rintro e w131 ⟨g604, rfl, hi, hb, hb2⟩; refine ⟨_, rfl, ?_⟩; replace HO_7 := a0_ (Kd.V_below (Kd.V_elderB (va_ HO_7.out) g604 (IsS52.ge hi)) hb2); replace HO_9 := a0_ (Kd.V_below (Kd.V_elderB (va_ HO_9.out) g604 (IsS52.ge hi)) hb2); replace HO_572000 := a0_ (Kd.R_below (ra_ HO_572000.out) hb2); replace HO_573000 := a0_ (Kd.R_below (ra_ HO_573000.out) hb2); replace HO_580000 := a0_ (Kd.R_below (ra_ HO_580000.out) hb2); have HBU604 := a0_ (bl3_ GE571.out GE572.out GE579.out); replace HB := a0_ (below_step (bl3_ GE571.out GE572.out GE579.out) hb2); have HBV604 := a0_ (hb); have HI604 := a0_ (hi); have NB604_571 := a0_ (IsS52.ne_blk hi (bb_ BK571.out hb2) (by decide)); have NB571_604 := a0_ (Ne.symm (IsS52.ne_blk hi (bb_ BK571.out hb2) (by decide))); replace BK571 := a0_ (bb_ BK571.out hb2); have NB604_572 := a0_ (IsS52.ne_blk hi (bb_ BK572.out hb2) (by decide)); have NB572_604 := a0_ (Ne.symm (IsS52.ne_blk hi (bb_ BK572.out hb2) (by decide))); replace BK572 := a0_ (bb_ BK572.out hb2); have NB604_579 := a0_ (IsS52.ne_blk hi (bb_ BK579.out hb2) (by decide)); have NB579_604 := a0_ (Ne.symm (IsS52.ne_blk hi (bb_ BK579.out hb2) (by decide))); replace BK579 := a0_ (bb_ BK579.out hb2); (try clear hb); (try clear hb2); (try clear hk); (try clear hi); obtain ⟨Ao132, co132, eo132⟩ := Kd.V_slice HO_9.out; subst eo132) | ((with_reducible refine gate_callee (f := 14) rfl ?_); refine goesL_ (some 73) rfl rfl Tryz.func14 kr_ rfl #[.pointer (some ⟨g604, 0, none⟩), .int .i64 (t584.length : Int)] rfl ta_ ?_; (with_reducible refine (laws_dice_below.calls g604 t601 t602 t603 (t584.length : Int) t605 t606 t607 _ _ HI604.out HBV604.out A121.out).mono ?_); rintro e w133 ⟨rfl, hi, hb, hk⟩; refine ⟨_, rfl, ?_⟩; replace HO_7 := a0_ (Kd.V_mono (Kd.V_keep (Kd.V_mono (ok := fun k_ => ((some k_ ≠ (.slice Ao13 t561.length co13 : Value).ownBlock ∧ (some k_ ≠ (.slice Ao16 t566.length co16 : Value).ownBlock ∧ (some k_ ≠ (.slice Ao21 t574.length co21 : Value).ownBlock ∧ (k_ ≠ gb571 ∧ (k_ ≠ gb572 ∧ k_ ≠ gb579))))) ∧ k_ ≠ g604)) (va_ HO_7.out) (fun k_ hk_ => (⟨hk_, hk_.2⟩ : _ ∧ k_ ≠ g604))) hk (fun _ h => h.2)) (fun _ h => h.1)); replace HO_9 := a0_ (Kd.V_mono (Kd.V_keep (Kd.V_mono (ok := fun k_ => ((some k_ ≠ (.slice Ao13 t561.length co13 : Value).ownBlock ∧ (some k_ ≠ (.slice Ao16 t566.length co16 : Value).ownBlock ∧ (some k_ ≠ (.slice Ao21 t574.length co21 : Value).ownBlock ∧ (k_ ≠ gb571 ∧ (k_ ≠ gb572 ∧ k_ ≠ gb579))))) ∧ k_ ≠ g604)) (va_ HO_9.out) (fun k_ hk_ => (⟨hk_, hk_.2⟩ : _ ∧ k_ ≠ g604))) hk (fun _ h => h.2)) (fun _ h => h.1)); replace HO_572000 := a0_ (Kd.R_mono (Kd.R_keep (IsS52.apart (show IsS52 _ _ g604 t601 t602 t603 from by repeat (first | (with_reducible first | exact HI604.out | apply IsS52.alloc | apply IsS52.drewN | apply IsS52.drew | apply IsS52.set_1 | apply IsS52.set_2 | refine IsS52.far ?_ NB604_571.out _ | refine IsS52.far ?_ NB604_572.out _ | refine IsS52.far ?_ NB604_579.out _) | exact HI604.out)) (ra_ HO_572000.out) (by decide)) hk (fun _ h => h.2)) (fun _ h => h.1)); replace HO_573000 := a0_ (Kd.R_mono (Kd.R_keep (IsS52.apart (show IsS52 _ _ g604 t601 t602 t603 from by repeat (first | (with_reducible first | exact HI604.out | apply IsS52.alloc | apply IsS52.drewN | apply IsS52.drew | apply IsS52.set_1 | apply IsS52.set_2 | refine IsS52.far ?_ NB604_571.out _ | refine IsS52.far ?_ NB604_572.out _ | refine IsS52.far ?_ NB604_579.out _) | exact HI604.out)) (ra_ HO_573000.out) (by decide)) hk (fun _ h => h.2)) (fun _ h => h.1)); replace HO_580000 := a0_ (Kd.R_mono (Kd.R_keep (IsS52.apart (show IsS52 _ _ g604 t601 t602 t603 from by repeat (first | (with_reducible first | exact HI604.out | apply IsS52.alloc | apply IsS52.drewN | apply IsS52.drew | apply IsS52.set_1 | apply IsS52.set_2 | refine IsS52.far ?_ NB604_571.out _ | refine IsS52.far ?_ NB604_572.out _ | refine IsS52.far ?_ NB604_579.out _) | exact HI604.out)) (ra_ HO_580000.out) (by decide)) hk (fun _ h => h.2)) (fun _ h => h.1)); replace BK571 := a0_ (KeepBut.blk hk (g' := gb571) (o := .cells #[.slice Ao13 t561.length co13, .int .i64 t564, .bool t565] 26 (0, 0)) (bk_ BK571.out) NB571_604.out (by simp)); replace BK572 := a0_ (KeepBut.blk hk (g' := gb572) (o := .cells #[.slice Ao16 t566.length co16, .int .i64 t569, .bool t570] 26 (0, 0)) (bk_ BK572.out) NB572_604.out (by simp)); replace BK579 := a0_ (KeepBut.blk hk (g' := gb579) (o := .cells #[.slice Ao21 t574.length co21, .int .i64 t577, .bool false] 26 (0, 0)) (bk_ BK579.out) NB579_604.out (by simp)); replace HB := a0_ (below_step HBU604.out hb); replace HI604 := a0_ (hi); replace HBV604 := a0_ (hb); (try clear hb); (try clear hb2); (try clear hk); (try clear hi)))
            replace HO_7 := a0_ (Kd.V_drew HO_7.out)
            replace HO_9 := a0_ (Kd.V_drew HO_9.out)
            replace HO_572000 := a0_ (Kd.R_drew HO_572000.out)
            replace HO_573000 := a0_ (Kd.R_drew HO_573000.out)
            replace HO_580000 := a0_ (Kd.R_drew HO_580000.out)
            replace BK571 := a0_ (blk_drew BK571.out)
            replace BK572 := a0_ (blk_drew BK572.out)
            replace BK579 := a0_ (blk_drew BK579.out)
            replace HI604 := a0_ (IsS52.drew HI604.out)
            replace HB := a0_ (below_drew1 HB.out)
            obtain ⟨Ao135, co135, eo135⟩ := Kd.V_slice HO_7.out
            (first | subst eo135 | (injection eo135 with f1_ f2_ f3_; have f4_ := f1_.symm; have f5_ := f3_.symm; clear f1_ f2_ f3_; subst f4_; subst f5_))
            have p608 : 0 ≤ (t605 : Int) := od_
            have q608 : t605 < (t584.length : Int) := od_
            obtain ⟨ad608, A608_0, c608_0, e608, hx608_0, hl608_0, hi608_0⟩ := at_L3 (Kd.V_reads' HO_9.out).2.2 t605 p608 q608
            cases e608
            obtain ⟨ce608, hce608, hMe608, hcc608⟩ := Kd.V_get HO_9.out [] t605 p608 (by first | exact q608 | exact od_ | (have e_ := (Kd.V_reads' HO_9.out).1; omega))
            obtain ⟨ua608_0, uc608_0, rfl, ul608_0, ge608_0⟩ := Kd.FK_slice_open hMe608
            have hv608_0 := hcc608 0 _ rfl
            rw [Nat.add_zero, show ((Kd.slice 60 k60)).sz = 1 from rfl, Nat.mul_one] at hv608_0
            replace hv608_0 := Option.some.inj (hv608_0.symm.trans hx608_0)
            injection hv608_0 with hva_ hvn_ hvc_
            rw [hva_] at ge608_0
            rw [hvc_] at ul608_0
            have HL608_0 := a0_ (show Kd.V k60 60 _ w.heap.size _ _ (rd_L3 t584 t605) from Kd.V_mk ul608_0 ge608_0)
            clear hva_ hvn_ hvc_ ge608_0 ul608_0
            clear hcc608 hce608
            have HR608_0 := Aside0.mk hi608_0
            have HC608_0 := Aside0.mk hl608_0
            clear hi608_0 hl608_0
            replace p608 := eq_true p608
            replace q608 := eq_true q608
            refine start_ (n := 23) (S := fun w' => w'.cell? ⟨gb579, 0, none⟩ = some (.slice Ao21 t574.length co21) ∧ w'.cell? ⟨gb579, 1, none⟩ = some (.int .i64 t577) ∧ w'.cell? ⟨gb579, 2, none⟩ = some (.bool false) ∧ w'.cell? (ad608.add (t605).toNat) = some (.slice A608_0 (rd_L3 t584 t605).length c608_0)) (ds := []) (mk_ 0 23) kr_ rfl rfl ⟨(blk_cell BK579.out 0).trans rfl, (blk_cell BK579.out 1).trans rfl, (blk_cell BK579.out 2).trans rfl, hx608_0⟩ (fun hHeld => ?_); refine with_tabW laws_FnPieces.tab16 laws_FnPieces.bits16 (fun HT_ HW_ => ?_)
            generalize w133.drew = w134 at HO_7 HO_9 HO_572000 HO_573000 HO_580000 BK571 BK572 BK579 HI604 HB HL608_0 HR608_0 hx608_0 hHeld ⊢
            refine pu_ 0 (some 74) (mk_ 1 22) HT_ ?_
            refine pu_ 1 (some 75) (mk_ 2 21) HT_ ?_
            refine pu_ 2 (some 76) (mk_ 3 20) HT_ ?_
            refine pu_ 3 (some 77) (mk_ 4 19) HT_ ?_
            refine pu_ 4 (some 78) (mk_ 5 18) HT_ ?_
            refine pu_ 5 (some 79) (mk_ 6 17) HT_ ?_
            refine pu_ 6 (some 80) (mk_ 7 16) HT_ ?_
            refine pu_ 7 (some 81) (mk_ 8 15) HT_ ?_
            refine pu_ 8 (some 82) (mk_ 9 14) HT_ ?_
            refine pu_ 9 (some 83) (mk_ 10 13) HT_ ?_
            refine pu_ 10 (some 84) (mk_ 11 12) HT_ ?_
            refine pu_ 11 (some 85) (mk_ 12 11) HT_ ?_
            refine pu_ 13 (some 87) #[true, true, true, true, true, true, true, true, true, true, true, true, false, true, false, false, false, false, false, false, false, false, false] HT_ ?_
            refine pu_ 14 (some 88) #[true, true, true, true, true, true, true, true, true, true, true, true, false, true, true, false, false, false, false, false, false, false, false] HT_ ?_
            refine pu_ 15 (some 89) #[true, true, true, true, true, true, true, true, true, true, true, true, false, true, true, true, false, false, false, false, false, false, false] HT_ ?_
            refine pu_ 17 (some 91) #[true, true, true, true, true, true, true, true, true, true, true, true, false, true, true, true, false, true, false, false, false, false, false] HT_ ?_
            refine tk_ 12 (some 86) #[true, true, true, true, true, true, true, true, true, true, true, true, true, true, true, true, false, true, false, false, false, false, false] HT_ HW_ hHeld (hy := .inl ⟨by rfl, by rintro w' ⟨s0, s1, s2, s3⟩; go_simp; with_reducible rfl⟩) ?_
            refine tk_ 16 (some 90) (mk_ 18 5) HT_ HW_ hHeld (hy := .inl ⟨by rfl, by rintro w' ⟨s0, s1, s2, s3⟩; go_simp; with_reducible rfl⟩) ?_
            refine tk_ 18 (some 92) (mk_ 19 4) HT_ HW_ hHeld (hy := .inl ⟨by rfl, by rintro w' ⟨s0, s1, s2, s3⟩; go_simp; with_reducible rfl⟩) ?_
            refine pu_ 19 (some 93) (mk_ 20 3) HT_ ?_
            refine one_ (i := 20) (N := some 94) (mk_ 21 2) rfl rfl (one_of HT_.out kr_) (by decide) (fun K hK => ?_)
            refine goes_ Tryz.func6 kr_ rfl #[.agg #[.slice Ao21 t574.length co21, .int .i64 t577, .bool false], .agg #[.slice A608_0 (rd_L3 t584 t605).length c608_0, .int .i64 1, .bool false]] (by rfl) rfl rfl ta_ ?_
            with_reducible refine (impl_AreAlike.calls kj8 _ _ t574 t577 false _ _ (rd_L3 t584 t605) 1 false t609 _ ?side1 ?side2 ?side3 ?side4 A127.out).mono ?_
            (case side1 => exact ca_ (Kd.R_reads' HO_580000.out).2.2)
            (case side2 => exact (Kd.R_reads' HO_580000.out).2.1)
            (case side3 => repeat (first | exact (by repeat (first | (with_reducible exact HR608_0.out) | (with_reducible refine Kd.C_alloc ?_ _) | (with_reducible refine Kd.C_drewN ?_ _) | (with_reducible refine Kd.C_drew ?_) | exact HR608_0.out)) | (with_reducible refine Kd.C_alloc ?_ _) | (with_reducible refine Kd.C_drewN ?_ _) | (with_reducible refine Kd.C_drew ?_)))
            (case side4 => exact HC608_0.out)
            rintro e w136 ⟨rfl, hb⟩
            have HS3_ := (hb.cell (World.block_lt_of_cell? _ _ (hHeld.2.2.2))).trans (hHeld.2.2.2)
            refine ⟨_, rfl, ?_⟩
            replace HO_7 := a0_ (Kd.V_below (va_ HO_7.out) hb)
            replace HO_9 := a0_ (Kd.V_below (va_ HO_9.out) hb)
            replace HO_572000 := a0_ (Kd.R_below (ra_ HO_572000.out) hb)
            replace HO_573000 := a0_ (Kd.R_below (ra_ HO_573000.out) hb)
            replace HO_580000 := a0_ (Kd.R_below (ra_ HO_580000.out) hb)
            replace HL608_0 := a0_ (Kd.V_below (va_ HL608_0.out) hb)
            replace BK571 := a0_ (bb_ BK571.out hb)
            replace BK572 := a0_ (bb_ BK572.out hb)
            replace BK579 := a0_ (bb_ BK579.out hb)
            replace HR608_0 := a0_ (Kd.C_below (by repeat (first | (with_reducible exact HR608_0.out) | (with_reducible refine Kd.C_alloc ?_ _) | (with_reducible refine Kd.C_drewN ?_ _) | (with_reducible refine Kd.C_drew ?_) | exact HR608_0.out)) hb)
            replace HB := a0_ (below_step (by repeat (first | (with_reducible first | exact HB.out | apply below_alloc | apply pw_below_drewN | apply below_drew1 | refine below_set ?_ (IsS52.ge HI604.out) | refine below_set ?_ GE571.out | refine below_set ?_ GE572.out | refine below_set ?_ GE579.out) | exact HB.out)) hb)
            replace HI604 := a0_ (IsS52.below (by repeat (first | (with_reducible first | exact HI604.out | apply IsS52.alloc | apply IsS52.drewN | apply IsS52.drew | apply IsS52.set_1 | apply IsS52.set_2 | refine IsS52.far ?_ NB604_571.out _ | refine IsS52.far ?_ NB604_572.out _ | refine IsS52.far ?_ NB604_579.out _) | exact HI604.out)) hb)
            (try clear hb)
            (try clear hb2)
            (try clear hk)
            (try clear hi)
            refine hK.out _ _ ⟨(blk_cell BK579.out 0).trans rfl, (blk_cell BK579.out 1).trans rfl, (blk_cell BK579.out 2).trans rfl, HS3_⟩ (fun hHeld => ?_)
            clear hK K
            refine nm_ ?_
            refine pu_ 21 (some 95) (mk_ 22 1) HT_ ?_
            refine pu_ 22 (some 2) (mk_ 23 0) HT_ ?_
            refine done_ (done_of HT_.out kr_) ?_
            try go_wp2
            go_ret
            exact ⟨er_, by repeat (first | (with_reducible first | exact HB.out | apply below_alloc | apply pw_below_drewN | apply below_drew1 | refine below_set ?_ (IsS52.ge HI604.out) | refine below_set ?_ GE571.out | refine below_set ?_ GE572.out | refine below_set ?_ GE579.out) | exact HB.out)⟩
           ·rw [if_neg c126] at H
            exact absurd H (by simp)
          ·rw [if_neg c125] at H
           exact absurd H (by simp)
         ·rw [if_neg c124] at H
          have c124b0 : (((4 : Int) % (t580.length : Int)) == 0) = false := beq_eq_false_iff_ne.mpr c124
          have c124t0 : (Int.tmod (4 : Int) (t580.length : Int) == 0) = false := by rw [Int.tmod_eq_emod_of_nonneg (by decide)]; exact c124b0
          have c124b1 : (((4 : Int) % (t580.length : Int)) != 0) = true := bne_iff_ne.mpr c124
          obtain rfl := Option.some.inj H
          have hnb137 := NB579_571.out
          have hnc137 := NB571_579.out
          have hnb138 := NB579_572.out
          have hnc138 := NB572_579.out
          have hcz139_0 : wc.cell? ⟨gb579, 0, none⟩ = some (.slice Ao21 t574.length co21) := (blk_cell BK579.out 0).trans rfl
          have hcz139_1 : wc.cell? ⟨gb579, 1, none⟩ = some (.int .i64 t577) := (blk_cell BK579.out 1).trans rfl
          have hcz139_2 : wc.cell? ⟨gb579, 2, none⟩ = some (.bool false) := (blk_cell BK579.out 2).trans rfl
          have hfz139_0 := blk_frozen BK579.out 0
          have hfz139_1 := blk_frozen BK579.out 1
          have hfz139_2 := blk_frozen BK579.out 2
          try go_wp2_with (first | ((with_reducible refine gate_callee (f := 13) rfl ?_); refine goesL_ (some 70) rfl rfl Tryz.func13 kr_ rfl #[.slice A0 l0.length c0, .int .u64 1101] rfl ta_ ?_; (with_reducible refine ((fun W_ (hb_ : Below w.heap.size w W_) => laws_roll.calls kj8 _ _ l0 1101 t601 t602 t603 W_ W_ (Below.refl _ _) (Kd.C_below HR0.out hb_) HC0.out A120.out) _ ?side1).mono ?_); (case side1 => exact bl3_ GE571.out GE572.out GE579.out); rintro e w140 ⟨g604, rfl, hi, hb, hb2⟩; refine ⟨_, rfl, ?_⟩; replace HO_7 := a0_ (Kd.V_below (Kd.V_elderB (va_ HO_7.out) g604 (IsS52.ge hi)) hb2); replace HO_9 := a0_ (Kd.V_below (Kd.V_elderB (va_ HO_9.out) g604 (IsS52.ge hi)) hb2); replace HO_572000 := a0_ (Kd.R_below (ra_ HO_572000.out) hb2); replace HO_573000 := a0_ (Kd.R_below (ra_ HO_573000.out) hb2); replace HO_580000 := a0_ (Kd.R_below (ra_ HO_580000.out) hb2); have HBU604 := a0_ (bl3_ GE571.out GE572.out GE579.out); replace HB := a0_ (below_step (bl3_ GE571.out GE572.out GE579.out) hb2); have HBV604 := a0_ (hb); have HI604 := a0_ (hi); have NB604_571 := a0_ (IsS52.ne_blk hi (bb_ BK571.out hb2) (by decide)); have NB571_604 := a0_ (Ne.symm (IsS52.ne_blk hi (bb_ BK571.out hb2) (by decide))); replace BK571 := a0_ (bb_ BK571.out hb2); have NB604_572 := a0_ (IsS52.ne_blk hi (bb_ BK572.out hb2) (by decide)); have NB572_604 := a0_ (Ne.symm (IsS52.ne_blk hi (bb_ BK572.out hb2) (by decide))); replace BK572 := a0_ (bb_ BK572.out hb2); have NB604_579 := a0_ (IsS52.ne_blk hi (bb_ BK579.out hb2) (by decide)); have NB579_604 := a0_ (Ne.symm (IsS52.ne_blk hi (bb_ BK579.out hb2) (by decide))); replace BK579 := a0_ (bb_ BK579.out hb2); (try clear hb); (try clear hb2); (try clear hk); (try clear hi); obtain ⟨Ao141, co141, eo141⟩ := Kd.V_slice HO_9.out; subst eo141) | ((with_reducible refine gate_callee (f := 14) rfl ?_); refine goesL_ (some 73) rfl rfl Tryz.func14 kr_ rfl #[.pointer (some ⟨g604, 0, none⟩), .int .i64 (t584.length : Int)] rfl ta_ ?_; (with_reducible refine (laws_dice_below.calls g604 t601 t602 t603 (t584.length : Int) t605 t606 t607 _ _ HI604.out HBV604.out A121.out).mono ?_); rintro e w142 ⟨rfl, hi, hb, hk⟩; refine ⟨_, rfl, ?_⟩; replace HO_7 := a0_ (Kd.V_mono (Kd.V_keep (Kd.V_mono (ok := fun k_ => ((some k_ ≠ (.slice Ao13 t561.length co13 : Value).ownBlock ∧ (some k_ ≠ (.slice Ao16 t566.length co16 : Value).ownBlock ∧ (some k_ ≠ (.slice Ao21 t574.length co21 : Value).ownBlock ∧ (k_ ≠ gb571 ∧ (k_ ≠ gb572 ∧ k_ ≠ gb579))))) ∧ k_ ≠ g604)) (va_ HO_7.out) (fun k_ hk_ => (⟨hk_, hk_.2⟩ : _ ∧ k_ ≠ g604))) hk (fun _ h => h.2)) (fun _ h => h.1)); replace HO_9 := a0_ (Kd.V_mono (Kd.V_keep (Kd.V_mono (ok := fun k_ => ((some k_ ≠ (.slice Ao13 t561.length co13 : Value).ownBlock ∧ (some k_ ≠ (.slice Ao16 t566.length co16 : Value).ownBlock ∧ (some k_ ≠ (.slice Ao21 t574.length co21 : Value).ownBlock ∧ (k_ ≠ gb571 ∧ (k_ ≠ gb572 ∧ k_ ≠ gb579))))) ∧ k_ ≠ g604)) (va_ HO_9.out) (fun k_ hk_ => (⟨hk_, hk_.2⟩ : _ ∧ k_ ≠ g604))) hk (fun _ h => h.2)) (fun _ h => h.1)); replace HO_572000 := a0_ (Kd.R_mono (Kd.R_keep (IsS52.apart (show IsS52 _ _ g604 t601 t602 t603 from by repeat (first | (with_reducible first | exact HI604.out | apply IsS52.alloc | apply IsS52.drewN | apply IsS52.drew | apply IsS52.set_1 | apply IsS52.set_2 | refine IsS52.far ?_ NB604_571.out _ | refine IsS52.far ?_ NB604_572.out _ | refine IsS52.far ?_ NB604_579.out _) | exact HI604.out)) (ra_ HO_572000.out) (by decide)) hk (fun _ h => h.2)) (fun _ h => h.1)); replace HO_573000 := a0_ (Kd.R_mono (Kd.R_keep (IsS52.apart (show IsS52 _ _ g604 t601 t602 t603 from by repeat (first | (with_reducible first | exact HI604.out | apply IsS52.alloc | apply IsS52.drewN | apply IsS52.drew | apply IsS52.set_1 | apply IsS52.set_2 | refine IsS52.far ?_ NB604_571.out _ | refine IsS52.far ?_ NB604_572.out _ | refine IsS52.far ?_ NB604_579.out _) | exact HI604.out)) (ra_ HO_573000.out) (by decide)) hk (fun _ h => h.2)) (fun _ h => h.1)); replace HO_580000 := a0_ (Kd.R_mono (Kd.R_keep (IsS52.apart (show IsS52 _ _ g604 t601 t602 t603 from by repeat (first | (with_reducible first | exact HI604.out | apply IsS52.alloc | apply IsS52.drewN | apply IsS52.drew | apply IsS52.set_1 | apply IsS52.set_2 | refine IsS52.far ?_ NB604_571.out _ | refine IsS52.far ?_ NB604_572.out _ | refine IsS52.far ?_ NB604_579.out _) | exact HI604.out)) (ra_ HO_580000.out) (by decide)) hk (fun _ h => h.2)) (fun _ h => h.1)); replace BK571 := a0_ (KeepBut.blk hk (g' := gb571) (o := .cells #[.slice Ao13 t561.length co13, .int .i64 t564, .bool t565] 26 (0, 0)) (bk_ BK571.out) NB571_604.out (by simp)); replace BK572 := a0_ (KeepBut.blk hk (g' := gb572) (o := .cells #[.slice Ao16 t566.length co16, .int .i64 t569, .bool t570] 26 (0, 0)) (bk_ BK572.out) NB572_604.out (by simp)); replace BK579 := a0_ (KeepBut.blk hk (g' := gb579) (o := .cells #[.slice Ao21 t574.length co21, .int .i64 t577, .bool false] 26 (0, 0)) (bk_ BK579.out) NB579_604.out (by simp)); replace HB := a0_ (below_step HBU604.out hb); replace HI604 := a0_ (hi); replace HBV604 := a0_ (hb); (try clear hb); (try clear hb2); (try clear hk); (try clear hi)))
          replace HO_7 := a0_ (Kd.V_drew HO_7.out)
          replace HO_9 := a0_ (Kd.V_drew HO_9.out)
          replace HO_572000 := a0_ (Kd.R_drew HO_572000.out)
          replace HO_573000 := a0_ (Kd.R_drew HO_573000.out)
          replace HO_580000 := a0_ (Kd.R_drew HO_580000.out)
          replace BK571 := a0_ (blk_drew BK571.out)
          replace BK572 := a0_ (blk_drew BK572.out)
          replace BK579 := a0_ (blk_drew BK579.out)
          replace HI604 := a0_ (IsS52.drew HI604.out)
          replace HB := a0_ (below_drew1 HB.out)
          obtain ⟨Ao144, co144, eo144⟩ := Kd.V_slice HO_7.out
          (first | subst eo144 | (injection eo144 with f1_ f2_ f3_; have f4_ := f1_.symm; have f5_ := f3_.symm; clear f1_ f2_ f3_; subst f4_; subst f5_))
          refine start_ (n := 23) (S := fun w' => True) (ds := []) (mk_ 0 23) kr_ rfl rfl trivial (fun hHeld => ?_); refine with_tabW laws_FnPieces.tab16 laws_FnPieces.bits16 (fun HT_ HW_ => ?_)
          generalize w142.drew = w143 at HO_7 HO_9 HO_572000 HO_573000 HO_580000 BK571 BK572 BK579 HI604 HB hHeld ⊢
          refine pu_ 0 (some 74) (mk_ 1 22) HT_ ?_
          refine pu_ 1 (some 75) (mk_ 2 21) HT_ ?_
          refine pu_ 2 (some 76) (mk_ 3 20) HT_ ?_
          refine pu_ 3 (some 77) (mk_ 4 19) HT_ ?_
          refine pu_ 4 (some 78) (mk_ 5 18) HT_ ?_
          refine pu_ 5 (some 79) (mk_ 6 17) HT_ ?_
          refine pu_ 6 (some 80) (mk_ 7 16) HT_ ?_
          refine pu_ 7 (some 81) (mk_ 8 15) HT_ ?_
          refine pu_ 8 (some 82) (mk_ 9 14) HT_ ?_
          refine pu_ 9 (some 83) (mk_ 10 13) HT_ ?_
          refine pu_ 10 (some 84) (mk_ 11 12) HT_ ?_
          refine pu_ 11 (some 85) (mk_ 12 11) HT_ ?_
          refine pn_ 12 (some 86) (mk_ 13 10) HT_ ?_
          refine pn_ 13 (some 87) (mk_ 14 9) HT_ ?_
          refine pn_ 14 (some 88) (mk_ 15 8) HT_ ?_
          refine pn_ 15 (some 89) (mk_ 16 7) HT_ ?_
          refine pn_ 16 (some 90) (mk_ 17 6) HT_ ?_
          refine pn_ 17 (some 91) (mk_ 18 5) HT_ ?_
          refine pn_ 18 (some 92) (mk_ 19 4) HT_ ?_
          refine pn_ 19 (some 93) (mk_ 20 3) HT_ ?_
          refine pn_ 20 (some 94) (mk_ 21 2) HT_ ?_
          refine pu_ 21 (some 95) (mk_ 22 1) HT_ ?_
          refine pu_ 22 (some 2) (mk_ 23 0) HT_ ?_
          refine done_ (done_of HT_.out kr_) ?_
          try go_wp2
          go_ret
          exact ⟨er_, by repeat (first | (with_reducible first | exact HB.out | apply below_alloc | apply pw_below_drewN | apply below_drew1 | refine below_set ?_ (IsS52.ge HI604.out) | refine below_set ?_ GE571.out | refine below_set ?_ GE572.out | refine below_set ?_ GE579.out) | exact HB.out)⟩
       ·rw [if_neg c122] at H
        have c122b0 : decide ((t580.length : Int) ≤ 4) = false := decide_eq_false c122
        have c122b1 : decide (t580.length ≤ 4) = false := decide_eq_false (by omega)
        clear c122
        obtain rfl := Option.some.inj H
        have hnb145 := NB579_571.out
        have hnc145 := NB571_579.out
        have hnb146 := NB579_572.out
        have hnc146 := NB572_579.out
        have hcz147_0 : wc.cell? ⟨gb579, 0, none⟩ = some (.slice Ao21 t574.length co21) := (blk_cell BK579.out 0).trans rfl
        have hcz147_1 : wc.cell? ⟨gb579, 1, none⟩ = some (.int .i64 t577) := (blk_cell BK579.out 1).trans rfl
        have hcz147_2 : wc.cell? ⟨gb579, 2, none⟩ = some (.bool false) := (blk_cell BK579.out 2).trans rfl
        have hfz147_0 := blk_frozen BK579.out 0
        have hfz147_1 := blk_frozen BK579.out 1
        have hfz147_2 := blk_frozen BK579.out 2
        try go_wp2_with (first | ((with_reducible refine gate_callee (f := 13) rfl ?_); refine goesL_ (some 70) rfl rfl Tryz.func13 kr_ rfl #[.slice A0 l0.length c0, .int .u64 1101] rfl ta_ ?_; (with_reducible refine ((fun W_ (hb_ : Below w.heap.size w W_) => laws_roll.calls kj8 _ _ l0 1101 t601 t602 t603 W_ W_ (Below.refl _ _) (Kd.C_below HR0.out hb_) HC0.out A120.out) _ ?side1).mono ?_); (case side1 => exact bl3_ GE571.out GE572.out GE579.out); rintro e w148 ⟨g604, rfl, hi, hb, hb2⟩; refine ⟨_, rfl, ?_⟩; replace HO_7 := a0_ (Kd.V_below (Kd.V_elderB (va_ HO_7.out) g604 (IsS52.ge hi)) hb2); replace HO_9 := a0_ (Kd.V_below (Kd.V_elderB (va_ HO_9.out) g604 (IsS52.ge hi)) hb2); replace HO_572000 := a0_ (Kd.R_below (ra_ HO_572000.out) hb2); replace HO_573000 := a0_ (Kd.R_below (ra_ HO_573000.out) hb2); replace HO_580000 := a0_ (Kd.R_below (ra_ HO_580000.out) hb2); have HBU604 := a0_ (bl3_ GE571.out GE572.out GE579.out); replace HB := a0_ (below_step (bl3_ GE571.out GE572.out GE579.out) hb2); have HBV604 := a0_ (hb); have HI604 := a0_ (hi); have NB604_571 := a0_ (IsS52.ne_blk hi (bb_ BK571.out hb2) (by decide)); have NB571_604 := a0_ (Ne.symm (IsS52.ne_blk hi (bb_ BK571.out hb2) (by decide))); replace BK571 := a0_ (bb_ BK571.out hb2); have NB604_572 := a0_ (IsS52.ne_blk hi (bb_ BK572.out hb2) (by decide)); have NB572_604 := a0_ (Ne.symm (IsS52.ne_blk hi (bb_ BK572.out hb2) (by decide))); replace BK572 := a0_ (bb_ BK572.out hb2); have NB604_579 := a0_ (IsS52.ne_blk hi (bb_ BK579.out hb2) (by decide)); have NB579_604 := a0_ (Ne.symm (IsS52.ne_blk hi (bb_ BK579.out hb2) (by decide))); replace BK579 := a0_ (bb_ BK579.out hb2); (try clear hb); (try clear hb2); (try clear hk); (try clear hi); obtain ⟨Ao149, co149, eo149⟩ := Kd.V_slice HO_9.out; subst eo149) | ((with_reducible refine gate_callee (f := 14) rfl ?_); refine goesL_ (some 73) rfl rfl Tryz.func14 kr_ rfl #[.pointer (some ⟨g604, 0, none⟩), .int .i64 (t584.length : Int)] rfl ta_ ?_; (with_reducible refine (laws_dice_below.calls g604 t601 t602 t603 (t584.length : Int) t605 t606 t607 _ _ HI604.out HBV604.out A121.out).mono ?_); rintro e w150 ⟨rfl, hi, hb, hk⟩; refine ⟨_, rfl, ?_⟩; replace HO_7 := a0_ (Kd.V_mono (Kd.V_keep (Kd.V_mono (ok := fun k_ => ((some k_ ≠ (.slice Ao13 t561.length co13 : Value).ownBlock ∧ (some k_ ≠ (.slice Ao16 t566.length co16 : Value).ownBlock ∧ (some k_ ≠ (.slice Ao21 t574.length co21 : Value).ownBlock ∧ (k_ ≠ gb571 ∧ (k_ ≠ gb572 ∧ k_ ≠ gb579))))) ∧ k_ ≠ g604)) (va_ HO_7.out) (fun k_ hk_ => (⟨hk_, hk_.2⟩ : _ ∧ k_ ≠ g604))) hk (fun _ h => h.2)) (fun _ h => h.1)); replace HO_9 := a0_ (Kd.V_mono (Kd.V_keep (Kd.V_mono (ok := fun k_ => ((some k_ ≠ (.slice Ao13 t561.length co13 : Value).ownBlock ∧ (some k_ ≠ (.slice Ao16 t566.length co16 : Value).ownBlock ∧ (some k_ ≠ (.slice Ao21 t574.length co21 : Value).ownBlock ∧ (k_ ≠ gb571 ∧ (k_ ≠ gb572 ∧ k_ ≠ gb579))))) ∧ k_ ≠ g604)) (va_ HO_9.out) (fun k_ hk_ => (⟨hk_, hk_.2⟩ : _ ∧ k_ ≠ g604))) hk (fun _ h => h.2)) (fun _ h => h.1)); replace HO_572000 := a0_ (Kd.R_mono (Kd.R_keep (IsS52.apart (show IsS52 _ _ g604 t601 t602 t603 from by repeat (first | (with_reducible first | exact HI604.out | apply IsS52.alloc | apply IsS52.drewN | apply IsS52.drew | apply IsS52.set_1 | apply IsS52.set_2 | refine IsS52.far ?_ NB604_571.out _ | refine IsS52.far ?_ NB604_572.out _ | refine IsS52.far ?_ NB604_579.out _) | exact HI604.out)) (ra_ HO_572000.out) (by decide)) hk (fun _ h => h.2)) (fun _ h => h.1)); replace HO_573000 := a0_ (Kd.R_mono (Kd.R_keep (IsS52.apart (show IsS52 _ _ g604 t601 t602 t603 from by repeat (first | (with_reducible first | exact HI604.out | apply IsS52.alloc | apply IsS52.drewN | apply IsS52.drew | apply IsS52.set_1 | apply IsS52.set_2 | refine IsS52.far ?_ NB604_571.out _ | refine IsS52.far ?_ NB604_572.out _ | refine IsS52.far ?_ NB604_579.out _) | exact HI604.out)) (ra_ HO_573000.out) (by decide)) hk (fun _ h => h.2)) (fun _ h => h.1)); replace HO_580000 := a0_ (Kd.R_mono (Kd.R_keep (IsS52.apart (show IsS52 _ _ g604 t601 t602 t603 from by repeat (first | (with_reducible first | exact HI604.out | apply IsS52.alloc | apply IsS52.drewN | apply IsS52.drew | apply IsS52.set_1 | apply IsS52.set_2 | refine IsS52.far ?_ NB604_571.out _ | refine IsS52.far ?_ NB604_572.out _ | refine IsS52.far ?_ NB604_579.out _) | exact HI604.out)) (ra_ HO_580000.out) (by decide)) hk (fun _ h => h.2)) (fun _ h => h.1)); replace BK571 := a0_ (KeepBut.blk hk (g' := gb571) (o := .cells #[.slice Ao13 t561.length co13, .int .i64 t564, .bool t565] 26 (0, 0)) (bk_ BK571.out) NB571_604.out (by simp)); replace BK572 := a0_ (KeepBut.blk hk (g' := gb572) (o := .cells #[.slice Ao16 t566.length co16, .int .i64 t569, .bool t570] 26 (0, 0)) (bk_ BK572.out) NB572_604.out (by simp)); replace BK579 := a0_ (KeepBut.blk hk (g' := gb579) (o := .cells #[.slice Ao21 t574.length co21, .int .i64 t577, .bool false] 26 (0, 0)) (bk_ BK579.out) NB579_604.out (by simp)); replace HB := a0_ (below_step HBU604.out hb); replace HI604 := a0_ (hi); replace HBV604 := a0_ (hb); (try clear hb); (try clear hb2); (try clear hk); (try clear hi)))
        replace HO_7 := a0_ (Kd.V_drew HO_7.out)
        replace HO_9 := a0_ (Kd.V_drew HO_9.out)
        replace HO_572000 := a0_ (Kd.R_drew HO_572000.out)
        replace HO_573000 := a0_ (Kd.R_drew HO_573000.out)
        replace HO_580000 := a0_ (Kd.R_drew HO_580000.out)
        replace BK571 := a0_ (blk_drew BK571.out)
        replace BK572 := a0_ (blk_drew BK572.out)
        replace BK579 := a0_ (blk_drew BK579.out)
        replace HI604 := a0_ (IsS52.drew HI604.out)
        replace HB := a0_ (below_drew1 HB.out)
        obtain ⟨Ao152, co152, eo152⟩ := Kd.V_slice HO_7.out
        (first | subst eo152 | (injection eo152 with f1_ f2_ f3_; have f4_ := f1_.symm; have f5_ := f3_.symm; clear f1_ f2_ f3_; subst f4_; subst f5_))
        refine start_ (n := 23) (S := fun w' => True) (ds := []) (mk_ 0 23) kr_ rfl rfl trivial (fun hHeld => ?_); refine with_tabW laws_FnPieces.tab16 laws_FnPieces.bits16 (fun HT_ HW_ => ?_)
        generalize w150.drew = w151 at HO_7 HO_9 HO_572000 HO_573000 HO_580000 BK571 BK572 BK579 HI604 HB hHeld ⊢
        refine pu_ 0 (some 74) (mk_ 1 22) HT_ ?_
        refine pu_ 1 (some 75) (mk_ 2 21) HT_ ?_
        refine pu_ 2 (some 76) (mk_ 3 20) HT_ ?_
        refine pu_ 3 (some 77) (mk_ 4 19) HT_ ?_
        refine pu_ 4 (some 78) (mk_ 5 18) HT_ ?_
        refine pn_ 5 (some 79) (mk_ 6 17) HT_ ?_
        refine pn_ 6 (some 80) (mk_ 7 16) HT_ ?_
        refine pn_ 7 (some 81) (mk_ 8 15) HT_ ?_
        refine pn_ 8 (some 82) (mk_ 9 14) HT_ ?_
        refine pn_ 9 (some 83) (mk_ 10 13) HT_ ?_
        refine pu_ 10 (some 84) (mk_ 11 12) HT_ ?_
        refine pu_ 11 (some 85) (mk_ 12 11) HT_ ?_
        refine pn_ 12 (some 86) (mk_ 13 10) HT_ ?_
        refine pn_ 13 (some 87) (mk_ 14 9) HT_ ?_
        refine pn_ 14 (some 88) (mk_ 15 8) HT_ ?_
        refine pn_ 15 (some 89) (mk_ 16 7) HT_ ?_
        refine pn_ 16 (some 90) (mk_ 17 6) HT_ ?_
        refine pn_ 17 (some 91) (mk_ 18 5) HT_ ?_
        refine pn_ 18 (some 92) (mk_ 19 4) HT_ ?_
        refine pn_ 19 (some 93) (mk_ 20 3) HT_ ?_
        refine pn_ 20 (some 94) (mk_ 21 2) HT_ ?_
        refine pu_ 21 (some 95) (mk_ 22 1) HT_ ?_
        refine pu_ 22 (some 2) (mk_ 23 0) HT_ ?_
        refine done_ (done_of HT_.out kr_) ?_
        try go_wp2
        go_ret
        exact ⟨er_, by repeat (first | (with_reducible first | exact HB.out | apply below_alloc | apply pw_below_drewN | apply below_drew1 | refine below_set ?_ (IsS52.ge HI604.out) | refine below_set ?_ GE571.out | refine below_set ?_ GE572.out | refine below_set ?_ GE579.out) | exact HB.out)⟩
     ·rw [if_neg c85] at H
      have c85b0 : (t583 == 0) = false := beq_eq_false_iff_ne.mpr c85
      have c85b1 : (t583 != 0) = true := bne_iff_ne.mpr c85
      obtain rfl := Option.some.inj H
      go_wp2
      go_ret
      exact ⟨er_, bl3_ GE571.out GE572.out GE579.out⟩

end Go.Proofs.YtaaodakmelihaaaGreat.PFnPieces
