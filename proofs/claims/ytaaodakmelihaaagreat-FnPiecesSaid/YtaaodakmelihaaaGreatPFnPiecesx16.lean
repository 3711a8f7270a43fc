/- Over the kit's printer by a driver of mine (hprint.py), with parts by hand: functions of the program as Lean functions, and that each call comes to exactly these answers. -/
import Derived.Test.YtaaodakmelihaaaGreatPFnPiecesx0
import Derived.Test.YtaaodakmelihaaaGreatPFnPiecesx2
import Derived.Test.YtaaodakmelihaaaGreatPFnPiecesx6
import Derived.Test.YtaaodakmelihaaaGreatPFnPiecesx13
import Derived.Test.YtaaodakmelihaaaGreatPFnPiecesx14
import Derived.Test.YtaaodakmelihaaaGreatPFnPiecesx15
namespace Go.Proofs.YtaaodakmelihaaaGreat.PFnPieces
open Go.RowKit Go.Proofs.YtaaodakmelihaaaGreatW.PrintWords Go.Proofs.YtaaodakmelihaaaGreatW.PrintLast Go.Proofs.YtaaodakmelihaaaGreatW.PrintMore
attribute [local go_sem] max2_int min2_int max_two min_two max_three min_three max_four min_four   -- for this text's walks alone
set_option linter.unusedVariables false
set_option linter.unusedSimpArgs false

/-! ### impl_normal: function 75 -/
def impl_normal.f (k : Nat) (l0 : List (S60)) : Option ((List (S60))) := (impl_corner.f k l0).bind fun bt433 => ((impl_moved.f k l0 (wrap64 (-bt433.1)) (wrap64 (-bt433.2))).bind fun t436 => (some t436))
theorem impl_normal.mono : ∀ a0 k, LeO (impl_normal.f k a0) (impl_normal.f (k + 1) a0) := by
 intro a0 k
 unfold impl_normal.f
 with_reducible (repeat' first | exact impl_corner.mono _ _ | exact impl_moved.mono _ _ _ _ | exact LeO.refl _ | exact LeO.none _ | refine LeO.ite ?_ ?_ | refine LeO.bind ?_ (fun _ => ?_))
set_option maxHeartbeats 8000000 in
set_option maxRecDepth 100000 in
theorem impl_normal.calls (k : Nat) (A0 : Option Addr) (c0 : Nat) (l0 : List (S60)) (r : List (S60)) (w : World) (hr0 : Kd.C k60 w A0 l0.length l0) (hc0 : l0.length ≤ c0) (h : impl_normal.f k l0 = some r) :
  Calls Tryz.prog 75 #[.slice A0 l0.length c0] w fun e w' => ∃ v0_ : Value, e = .returned (v0_) ∧ Kd.R k60 60 w' w.heap.size (fun _ => True) v0_ r ∧ Below w.heap.size w w' := by
 have hu60 := Tryz.underlying60
 have HR0 := Aside0.mk hr0
 have HC0 := Aside0.mk hc0
 clear hr0 hc0
 have HB := a0_ (Below.refl w.heap.size w)
 have H := h
 clear h
 unfold impl_normal.f at H
 obtain ⟨⟨t433, t434⟩, A2, H⟩ := bs_ H
 dsimp only at H
 obtain ⟨t436, A3, H⟩ := bs_ H
 obtain rfl := Option.some.inj H
 go_enter Tryz.func75, Tryz.ntmps75
 go_wp2_with (first | ((with_reducible refine gate_callee (f := 46) rfl ?_); refine goesL_ (some 5) rfl rfl Tryz.func46 kr_ rfl #[.slice A0 l0.length c0] rfl ta_ ?_; (with_reducible refine (impl_corner.calls k _ _ l0 t433 t434 _ ?side1 ?side2 A2.out).mono ?_); (case side1 => exact ca_ HR0.out); (case side2 => exact HC0.out); rintro e w4 ⟨rfl, hb⟩; refine ⟨_, rfl, ?_⟩; replace HB := a0_ (below_step (bl0_) hb); (try clear hb); (try clear hb2); (try clear hk); (try clear hi)) | ((with_reducible refine gate_dst (N := 3) rfl ?_); refine bx_ (N := 3) (cs := #[.int .i64 0, .int .i64 0]) (t := 60) ?_; intro gb435 hg w5 hbox hb; have BK435 := a0_ (hbox); have GW435 := a0_ ((sz_ hg (bl0_) : w.heap.size ≤ gb435)); have GE435 := a0_ ((sz_ hg (bl0_) : w.heap.size ≤ gb435)); replace HB := a0_ (below_step (bl0_) hb); clear hb hbox hg; obtain ⟨hcz6_0, hcz6_1, hfz6_0, hfz6_1⟩ := bc2_ BK435.out) | ((with_reducible refine gate_callee (f := 88) rfl ?_); refine goesL_ (some 13) rfl rfl Tryz.func88 kr_ rfl #[.slice A0 l0.length c0, .int .i64 (wrap64 (-t433)), .int .i64 (wrap64 (-t434))] rfl ta_ ?_; (with_reducible refine (impl_moved.calls k _ _ l0 (wrap64 (-t433)) (wrap64 (-t434)) t436 _ ?side1 ?side2 A3.out).mono ?_); (case side1 => exact Kd.C_below HR0.out (bl1_ GE435.out)); (case side2 => exact HC0.out); rintro e w7 ⟨v437, rfl, ho0, hb⟩; refine ⟨_, rfl, ?_⟩; have HO438 := a0_ (Kd.R_lower (Kd.R_newB ho0 (g := gb435) (o := .cells #[.int .i64 t433, .int .i64 t434] 60 (0, 0)) (by (with_reducible repeat (first | refine blk_drewN ?_ _ | refine blk_drew ?_ | refine blk_alloc ?_ _)); refine blk_put (cs := #[.int .i64 t433, .int .i64 0]) ?_ 1 _ rfl; (with_reducible repeat (first | refine blk_drewN ?_ _ | refine blk_drew ?_ | refine blk_alloc ?_ _)); refine blk_put (cs := #[.int .i64 0, .int .i64 0]) ?_ 0 _ rfl; (with_reducible repeat (first | refine blk_drewN ?_ _ | refine blk_drew ?_ | refine blk_alloc ?_ _)); exact BK435.out)) (below_size (bl1_ GE435.out))); replace BK435 := a0_ (blk_below (g := gb435) (o := .cells #[.int .i64 t433, .int .i64 t434] 60 (0, 0)) (by (with_reducible repeat (first | refine blk_drewN ?_ _ | refine blk_drew ?_ | refine blk_alloc ?_ _)); refine blk_put (cs := #[.int .i64 t433, .int .i64 0]) ?_ 1 _ rfl; (with_reducible repeat (first | refine blk_drewN ?_ _ | refine blk_drew ?_ | refine blk_alloc ?_ _)); refine blk_put (cs := #[.int .i64 0, .int .i64 0]) ?_ 0 _ rfl; (with_reducible repeat (first | refine blk_drewN ?_ _ | refine blk_drew ?_ | refine blk_alloc ?_ _)); exact BK435.out) hb); replace HB := a0_ (below_step (bl1_ GE435.out) hb); (try clear hb); (try clear hb2); (try clear hk); (try clear hi); (try clear ho0)))
 go_ret
 exact ⟨_, er_, by (with_reducible repeat (first | apply Kd.R_alloc | apply Kd.R_drewN | apply Kd.R_drew)); exact Kd.R_mono HO438.out (fun _ hk => trivial), bl1_ GE435.out⟩

/-! ### impl_form: function 63 -/
def impl_form.l0 : Nat → Int → List (S60) → List (S60) → Int → Int → Option ((List (S60)))
 | 0, _, _, _, _, _ => none
 | k + 1, x1, x5, x11, x12, x13 => if x13 < x12 then (if 0 ≤ x13 then (if x13 < (x11.length : Int) then ((impl_turnCell.f k ((rd_T60 x11 x13).f0) ((rd_T60 x11 x13).f1) x1).bind fun bt444 => (if x5.length < 8796093022208 then (impl_form.l0 k x1 (x5 ++ [(⟨bt444.1, bt444.2⟩ : S60)]) x11 x12 (wrap64 (x13 + 1))) else (none))) else (none)) else (none)) else ((impl_sorted.f x5).bind fun t449 => ((impl_normal.f k t449).bind fun t452 => (some t452)))
def impl_form.f (k : Nat) (l0 : List (S60)) (a1 : Int) : Option ((List (S60))) := if 0 ≤ (l0.length : Int) then (if ((l0.length : Int) : Int).toNat ≤ 17592186044416 then (impl_form.l0 k a1 (([] : List (S60))) l0 (l0.length : Int) 0) else (none)) else (none)
theorem impl_form.mono_l : ∀ k, (∀ y0 y1 y2 y3 y4, LeO (impl_form.l0 k y0 y1 y2 y3 y4) (impl_form.l0 (k + 1) y0 y1 y2 y3 y4))
 | 0 => fun _ _ _ _ _ r h => by simp [impl_form.l0] at h
 | k + 1 => by
  have ih0 := impl_form.mono_l k
  ·intro y0 y1 y2 y3 y4
   unfold impl_form.l0
   with_reducible (repeat' first | exact ih0 _ _ _ _ _ | exact impl_normal.mono _ _ | exact impl_turnCell.mono _ _ _ _ | exact LeO.refl _ | exact LeO.none _ | refine LeO.ite ?_ ?_ | refine LeO.bind ?_ (fun _ => ?_))
theorem impl_form.mono : ∀ a0 a1 k, LeO (impl_form.f k a0 a1) (impl_form.f (k + 1) a0 a1) := by
 intro a0 a1 k
 have ih0 := impl_form.mono_l k
 unfold impl_form.f
 with_reducible (repeat' first | exact ih0 _ _ _ _ _ | exact impl_normal.mono _ _ | exact impl_turnCell.mono _ _ _ _ | exact LeO.refl _ | exact LeO.none _ | refine LeO.ite ?_ ?_ | refine LeO.bind ?_ (fun _ => ?_))
set_option maxHeartbeats 8000000 in
set_option maxRecDepth 100000 in
theorem impl_form.calls (k : Nat) (A0 : Option Addr) (c0 : Nat) (l0 : List (S60)) (a1 : Int) (r : List (S60)) (w : World) (hr0 : Kd.C k60 w A0 l0.length l0) (hc0 : l0.length ≤ c0) (h : impl_form.f k l0 a1 = some r) :
  Calls Tryz.prog 63 #[.slice A0 l0.length c0, .int .i64 a1] w fun e w' => ∃ v0_ : Value, e = .returned (v0_) ∧ Kd.R k60 60 w' w.heap.size (fun _ => True) v0_ r ∧ Below w.heap.size w w' := by
 have hu60 := Tryz.underlying60
 have HR0 := Aside0.mk hr0
 have HC0 := Aside0.mk hc0
 clear hr0 hc0
 have HB := a0_ (Below.refl w.heap.size w)
 have H := h
 clear h
 unfold impl_form.f at H
 by_cases c3 : 0 ≤ (l0.length : Int)
 ·rw [if_pos c3] at H
  have c3b0 := eq_true c3
  have c3b1 : decide (0 ≤ (l0.length : Int)) = true := decide_eq_true c3
  clear c3
  by_cases c4 : ((l0.length : Int) : Int).toNat ≤ 17592186044416
  ·rw [if_pos c4] at H
   have c4b0 := eq_true c4
   have c4b1 : decide (((l0.length : Int) : Int).toNat ≤ 17592186044416) = true := decide_eq_true c4
   clear c4
   obtain ⟨y439, hy439⟩ : ∃ y_ : List (S60), y_ = (([] : List (S60))) := ⟨_, rfl⟩
   replace H : (impl_form.l0 k a1 y439 l0 (l0.length : Int) 0) = some r := hh_ hy439 H
   have Ny439 := Aside0.mk hy439
   clear hy439
   have H' := Aside0.mk H
   clear H
   go_enter Tryz.func63, Tryz.ntmps63
   go_wp2_with (first | ((with_reducible refine gate_dst (N := 10) rfl ?_); refine Kd.R_make0 k60 _ 60 rfl (N := 10) rfl 24 _ _ rfl (l0.length : Int) rfl rfl Tryz.underlying24 (.agg #[(.int .i64 0), (.int .i64 0)]) 16 info60 rfl (by decide) (ok := fun _ => True) trivial (od_) (Nat.le_trans (Nat.mul_le_mul_right _ (od_ : (l0.length : Int).toNat ≤ 17592186044416)) (by omega)) (Below.refl _ _) (Nat.le_refl _) ?_; intro v440 w5 ho6 hb hg_ hnew_; clear hg_ hnew_; (first | rw [← Ny439.out] at ho6 | (simp only [Int.reduceToNat] at ho6; rw [← Ny439.out] at ho6)); have HO441 := a0_ (Kd.R_lower ho6 (below_size (bl0_))); replace HB := a0_ (below_step (bl0_) hb); clear hb ho6))
   go_loopg [5, 13] k (fun kq v5 v13 w' => ∃ (x5_1 : List (S60)) (x13_1 : Int), v13 = .int .i64 x13_1 ∧ Aside0 (impl_form.l0 kq a1 x5_1 l0 (l0.length : Int) x13_1 = some r) ∧ Aside0 (kq ≤ k) ∧ Aside0 (Kd.R k60 60 w' w.heap.size (fun _ => True) v5 x5_1) ∧ Aside0 (Below w.heap.size w w'))
   case atStart => exact ⟨(y439), (0), rs_, H', ⟨Nat.le_refl _⟩, ⟨ra_ HO441.out⟩, ⟨bl0_⟩⟩
   case round =>
    clear H'
    try clear p2
    try clear c3
    try clear c3b0
    try clear c3b1
    try clear c4
    try clear c4b0
    try clear c4b1
    try clear c6
    obtain ⟨x5_1, x13_1, rfl, HA, HK1, HO_5, HB⟩ := hrel
    cases gk with
    | zero => exact absurd HA.out (by simp [impl_form.l0])
    | succ k1 =>
     have H := HA.out
     clear HA
     simp only [impl_form.l0] at H
     by_cases c7 : x13_1 < (l0.length : Int)
     ·rw [if_pos c7] at H
      have c7b0 : decide (x13_1 < (l0.length : Int)) = true := decide_eq_true c7
      clear c7
      by_cases c8 : 0 ≤ x13_1
      ·rw [if_pos c8] at H
       have c8b0 : decide (0 ≤ x13_1) = true := decide_eq_true c8
       clear c8
       by_cases c9 : x13_1 < (l0.length : Int)
       ·rw [if_pos c9] at H
        have c9b0 : decide (x13_1 < (l0.length : Int)) = true := decide_eq_true c9
        clear c9
        obtain ⟨⟨t444, t445⟩, A10, H⟩ := bs_ H
        dsimp only at H
        by_cases c11 : x5_1.length < 8796093022208
        ·rw [if_pos c11] at H
         have LMc11 := Aside0.mk c11
         clear c11
         obtain ⟨y446, hy446⟩ : ∃ y_ : List (S60), y_ = (x5_1 ++ [(⟨t444, t445⟩ : S60)]) := ⟨_, rfl⟩
         replace H : (impl_form.l0 k1 a1 y446 l0 (l0.length : Int) (wrap64 (x13_1 + 1))) = some r := hh_ hy446 H
         have Ny446 := Aside0.mk hy446
         clear hy446
         have H' := Aside0.mk H
         clear H
         have p442 : 0 ≤ (x13_1 : Int) := od_
         have q442 : x13_1 < (l0.length : Int) := od_
         obtain ⟨ad442, e442, hx442_0, hx442_1⟩ := at_T60 HR0.out x13_1 p442 q442
         cases e442
         replace hx442_0 := (HB.out.cell (World.block_lt_of_cell? w _ hx442_0)).trans hx442_0
         replace hx442_1 := (HB.out.cell (World.block_lt_of_cell? w _ hx442_1)).trans hx442_1
         replace p442 := eq_true p442
         replace q442 := eq_true q442
         go_wp2_with (first | ((with_reducible refine gate_dst (N := 7) rfl ?_); refine bx_ (N := 7) (cs := #[.int .i64 0, .int .i64 0]) (t := 60) ?_; intro gb443 hg w12 hbox hb; replace HO_5 := a0_ (Kd.R_below (Kd.R_elderB (ra_ HO_5.out) gb443 (Nat.le_of_eq hg.symm)) hb); have BK443 := a0_ (hbox); have GW443 := a0_ ((sz_ hg (bl0_) : w.heap.size ≤ gb443)); have GE443 := a0_ ((sz_ hg (bl0_) : w.heap.size ≤ gb443)); replace HB := a0_ (below_step (bl0_) hb); clear hb hbox hg; obtain ⟨hcz13_0, hcz13_1, hfz13_0, hfz13_1⟩ := bc2_ BK443.out) | ((with_reducible refine gate_callee (f := 74) rfl ?_); refine goesL_ (some 20) rfl rfl Tryz.func74 kr_ rfl #[.agg #[.int .i64 ((rd_T60 l0 x13_1).f0), .int .i64 ((rd_T60 l0 x13_1).f1)], .int .i64 a1] rfl ta_ ?_; (with_reducible refine (impl_turnCell.calls k1 ((rd_T60 l0 x13_1).f0) ((rd_T60 l0 x13_1).f1) a1 t444 t445 _ A10.out).mono ?_); rintro e w14 ⟨rfl, hb⟩; refine ⟨_, rfl, ?_⟩; replace HO_5 := a0_ (Kd.R_below (by (with_reducible repeat (first | apply Kd.R_alloc | apply Kd.R_drewN | apply Kd.R_drew)); exact (Kd.R_mono (Kd.R_far (p := ⟨gb443, 1, none⟩) (Kd.R_far (p := ⟨gb443, 0, none⟩) (Kd.R_mono HO_5.out (fun k_ hk => (⟨hk, hk.2⟩ : _ ∧ k_ ≠ gb443))) (fun _ hk => hk.2) (.int .i64 ((rd_T60 l0 x13_1).f0))) (fun _ hk => hk.2) (.int .i64 ((rd_T60 l0 x13_1).f1))) (fun _ h_ => h_.1))) hb); replace BK443 := a0_ (blk_below (g := gb443) (o := .cells #[.int .i64 ((rd_T60 l0 x13_1).f0), .int .i64 ((rd_T60 l0 x13_1).f1)] 60 (0, 0)) (by (with_reducible repeat (first | refine blk_drewN ?_ _ | refine blk_drew ?_ | refine blk_alloc ?_ _)); refine blk_put (cs := #[.int .i64 ((rd_T60 l0 x13_1).f0), .int .i64 0]) ?_ 1 _ rfl; (with_reducible repeat (first | refine blk_drewN ?_ _ | refine blk_drew ?_ | refine blk_alloc ?_ _)); refine blk_put (cs := #[.int .i64 0, .int .i64 0]) ?_ 0 _ rfl; (with_reducible repeat (first | refine blk_drewN ?_ _ | refine blk_drew ?_ | refine blk_alloc ?_ _)); exact BK443.out) hb); replace HB := a0_ (below_step (bl1_ GE443.out) hb); (try clear hb); (try clear hb2); (try clear hk); (try clear hi)) | ((with_reducible refine gate_builtin (b := .append) (xs := #[.tmp 17, .tmp 21]) rfl ?_); at_builtin; refine Kd.R_append k60 (w0 := w) w.heap.size rfl (.tmp 17) (.tmp 21) 24 60 (.agg #[(.int .i64 0), (.int .i64 0)]) 16 rfl Tryz.underlying24 info60 rfl (by decide) (by omega) u5 x5_1 (⟨t444, t445⟩ : S60) [.int .i64 t444, .int .i64 t445] (fun k_ => k_ ≠ gb443) (fun _ => False) rfl rfl ?aP (fun _ hk => hk.elim) ?aF ?aO ?aB ?aS ?aL ?_; (case aP => exact k60_mkM _ _ _ (⟨t444, t445⟩ : S60)); (case aB => exact (bl1_ GE443.out)); (case aF => exact (fun k_ hk => Kd.freshB (g := gb443) (o := .cells #[.int .i64 ((rd_T60 l0 x13_1).f0), .int .i64 ((rd_T60 l0 x13_1).f1)] 60 (0, 0)) (bk_ BK443.out) k_ hk)); (case aO => exact (by (with_reducible repeat (first | apply Kd.R_alloc | apply Kd.R_drewN | apply Kd.R_drew)); exact Kd.R_mono HO_5.out (fun _ hk => hk.2))); (case aS => exact (below_size (bl1_ GE443.out))); (case aL => have := LMc11.out; omega); intro v447 w15 ho hb hg hat; rw [← Ny446.out] at ho; replace BK443 := a0_ (blk_grown (g := gb443) (o := .cells #[.int .i64 ((rd_T60 l0 x13_1).f0), .int .i64 ((rd_T60 l0 x13_1).f1)] 60 (0, 0)) (bk_ BK443.out) hg (Kd.R_away HO_5.out (fun _ hk => hk.2))); replace HB := a0_ (hb); have HO448 := a0_ (ho); clear HO_5; clear ho hb hg hat))
         go_roundg k1
         case measure => have := HK1.out; omega
         case rel => exact ⟨(y446), (wrap64 (x13_1 + 1)), rs_, H', ⟨by have := HK1.out; omega⟩, ⟨by (with_reducible repeat (first | apply Kd.R_alloc | apply Kd.R_drewN | apply Kd.R_drew)); exact Kd.R_mono HO448.out (fun _ hk => trivial)⟩, ⟨bl1_ GE443.out⟩⟩
        ·rw [if_neg c11] at H
         exact absurd H (by simp)
       ·rw [if_neg c9] at H
        exact absurd H (by simp)
      ·rw [if_neg c8] at H
       exact absurd H (by simp)
     ·rw [if_neg c7] at H
      have c7b0 : decide (x13_1 < (l0.length : Int)) = false := decide_eq_false c7
      clear c7
      obtain ⟨t449, A16, H⟩ := bs_ H
      obtain ⟨t452, A17, H⟩ := bs_ H
      obtain rfl := Option.some.inj H
      obtain ⟨Ao18, co18, eo18⟩ := Kd.R_slice HO_5.out
      subst eo18
      go_wp2_with (first | ((with_reducible refine gate_callee (f := 76) rfl ?_); refine goesL_ (some 25) rfl rfl Tryz.func76 kr_ rfl #[.slice Ao18 x5_1.length co18] rfl ta_ ?_; (with_reducible refine (impl_sorted.calls _ _ x5_1 t449 _ ?side1 ?side2 A16.out).mono ?_); (case side1 => exact ca_ (Kd.R_reads' HO_5.out).2.2); (case side2 => exact (Kd.R_reads' HO_5.out).2.1); rintro e w19 ⟨v450, rfl, ho0, hb⟩; refine ⟨_, rfl, ?_⟩; have HO451 := a0_ (Kd.R_lower (Kd.R_new' ho0 (Kd.R_lt (ra_ HO_5.out))) (below_size (bl0_))); replace HO_5 := a0_ (Kd.R_elder' (ra_ HO_5.out) (Kd.R_base ho0) hb); replace HB := a0_ (below_step (bl0_) hb); (try clear hb); (try clear hb2); (try clear hk); (try clear hi); (try clear ho0); obtain ⟨Ao20, co20, eo20⟩ := Kd.R_slice HO451.out; subst eo20) | ((with_reducible refine gate_callee (f := 75) rfl ?_); refine goesL_ (some 26) rfl rfl Tryz.func75 kr_ rfl #[.slice Ao20 t449.length co20] rfl ta_ ?_; (with_reducible refine (impl_normal.calls k1 _ _ t449 t452 _ ?side1 ?side2 A17.out).mono ?_); (case side1 => exact ca_ (Kd.R_reads' HO451.out).2.2); (case side2 => exact (Kd.R_reads' HO451.out).2.1); rintro e w21 ⟨v453, rfl, ho0, hb⟩; refine ⟨_, rfl, ?_⟩; have HO454 := a0_ (Kd.R_lower (Kd.R_new' (Kd.R_new' ho0 (Kd.R_lt (ra_ HO_5.out))) (Kd.R_lt (ra_ HO451.out))) (below_size (bl0_))); replace HO_5 := a0_ (Kd.R_elder' (ra_ HO_5.out) (Kd.R_base ho0) hb); replace HO451 := a0_ (Kd.R_elder' (ra_ HO451.out) (Kd.R_base ho0) hb); replace HB := a0_ (below_step (bl0_) hb); (try clear hb); (try clear hb2); (try clear hk); (try clear hi); (try clear ho0)))
      go_ret
      exact ⟨_, er_, by (with_reducible repeat (first | apply Kd.R_alloc | apply Kd.R_drewN | apply Kd.R_drew)); exact Kd.R_mono HO454.out (fun _ hk => trivial), bl0_⟩
  ·rw [if_neg c4] at H
   exact absurd H (by simp)
 ·rw [if_neg c3] at H
  exact absurd H (by simp)

/-! ### impl_forms: function 42 -/
def impl_forms.l0 : Nat → List (S60) → List (List (S60)) → Int → Int → Option ((List (List (S60))))
 | 0, _, _, _, _ => none
 | k + 1, x0, x5, x8, x9 => if x9 < x8 then ((impl_form.f k x0 x9).bind fun t458 => (if x5.length < 5864062014805 then (impl_forms.l0 k x0 (x5 ++ [t458]) x8 (wrap64 (x9 + 1))) else (none))) else (some x5)
def impl_forms.f (k : Nat) (l0 : List (S60)) (a1 : Int) : Option ((List (List (S60)))) := impl_forms.l0 k l0 (([] : List (List (S60)))) a1 0
theorem impl_forms.mono_l : ∀ k, (∀ y0 y1 y2 y3, LeO (impl_forms.l0 k y0 y1 y2 y3) (impl_forms.l0 (k + 1) y0 y1 y2 y3))
 | 0 => fun _ _ _ _ r h => by simp [impl_forms.l0] at h
 | k + 1 => by
  have ih0 := impl_forms.mono_l k
  ·intro y0 y1 y2 y3
   unfold impl_forms.l0
   with_reducible (repeat' first | exact ih0 _ _ _ _ | exact impl_form.mono _ _ _ | exact LeO.refl _ | exact LeO.none _ | refine LeO.ite ?_ ?_ | refine LeO.bind ?_ (fun _ => ?_))
theorem impl_forms.mono : ∀ a0 a1 k, LeO (impl_forms.f k a0 a1) (impl_forms.f (k + 1) a0 a1) := by
 intro a0 a1 k
 have ih0 := impl_forms.mono_l k
 unfold impl_forms.f
 with_reducible (repeat' first | exact ih0 _ _ _ _ | exact impl_form.mono _ _ _ | exact LeO.refl _ | exact LeO.none _ | refine LeO.ite ?_ ?_ | refine LeO.bind ?_ (fun _ => ?_))
set_option maxHeartbeats 8000000 in
set_option maxRecDepth 100000 in
theorem impl_forms.calls (k : Nat) (A0 : Option Addr) (c0 : Nat) (l0 : List (S60)) (a1 : Int) (r : List (List (S60))) (w : World) (hr0 : Kd.C k60 w A0 l0.length l0) (hc0 : l0.length ≤ c0) (h : impl_forms.f k l0 a1 = some r) :
  Calls Tryz.prog 42 #[.slice A0 l0.length c0, .int .i64 a1] w fun e w' => ∃ v0_ : Value, e = .returned (v0_) ∧ Kd.S (Kd.slice 60 k60) 24 w' w.heap.size (fun _ => True) v0_ r ∧ Below w.heap.size w w' := by
 have HR0 := Aside0.mk hr0
 have HC0 := Aside0.mk hc0
 clear hr0 hc0
 have HB := a0_ (Below.refl w.heap.size w)
 have H : (impl_forms.l0 k l0 (([] : List (List (S60)))) a1 0) = some r := h
 clear h
 obtain ⟨y455, hy455⟩ : ∃ y_ : List (List (S60)), y_ = (([] : List (List (S60)))) := ⟨_, rfl⟩
 replace H : (impl_forms.l0 k l0 y455 a1 0) = some r := hh_ hy455 H
 have Ny455 := Aside0.mk hy455
 clear hy455
 have H' := Aside0.mk H
 clear H
 go_enter Tryz.func42, Tryz.ntmps42
 go_wp2_with (first | ((with_reducible refine gate_dst (N := 7) rfl ?_); refine Kd.S_lit (Kd.slice 60 k60) _ 24 ?hg (N := 7) ?hd (xs := ([] : List (List (S60)))) (inner := []) (ok := fun _ => True) (okp := fun _ => True) ?hr ?hp (fun _ hk => hk) trivial (Below.refl _ _) (Nat.le_refl _) (by simp) ?_; (case hd => rfl); (case hg => rfl); (case hr => first | (go_simp; done) | (go_simp; rfl)); (case hp => exact (Reps.none _ _)); intro v456 w3 ho4 hb hg_ hnew_; clear hg_ hnew_; (first | rw [← Ny455.out] at ho4 | (simp only [Int.reduceToNat] at ho4; rw [← Ny455.out] at ho4)); have HO457 := a0_ (Kd.S_lower ho4 (below_size (bl0_))); replace HB := a0_ (below_step (bl0_) hb); clear hb ho4))
 go_loopg [5, 9] k (fun kq v5 v9 w' => ∃ (x5_1 : List (List (S60))) (x9_1 : Int), v9 = .int .i64 x9_1 ∧ Aside0 (impl_forms.l0 kq l0 x5_1 a1 x9_1 = some r) ∧ Aside0 (kq ≤ k) ∧ Aside0 (Kd.S (Kd.slice 60 k60) 24 w' w.heap.size (fun _ => True) v5 x5_1) ∧ Aside0 (Below w.heap.size w w'))
 case atStart => exact ⟨(y455), (0), rs_, H', ⟨Nat.le_refl _⟩, ⟨sa_ HO457.out⟩, ⟨bl0_⟩⟩
 case round =>
  clear H'
  try clear p2
  try clear c4
  obtain ⟨x5_1, x9_1, rfl, HA, HK1, HO_5, HB⟩ := hrel
  cases gk with
  | zero => exact absurd HA.out (by simp [impl_forms.l0])
  | succ k1 =>
   have H := HA.out
   clear HA
   simp only [impl_forms.l0] at H
   by_cases c5 : x9_1 < a1
   ·rw [if_pos c5] at H
    have c5b0 : decide (x9_1 < a1) = true := decide_eq_true c5
    clear c5
    obtain ⟨t458, A6, H⟩ := bs_ H
    by_cases c7 : x5_1.length < 5864062014805
    ·rw [if_pos c7] at H
     have LMc7 := Aside0.mk c7
     clear c7
     obtain ⟨y461, hy461⟩ : ∃ y_ : List (List (S60)), y_ = (x5_1 ++ [t458]) := ⟨_, rfl⟩
     replace H : (impl_forms.l0 k1 l0 y461 a1 (wrap64 (x9_1 + 1))) = some r := hh_ hy461 H
     have Ny461 := Aside0.mk hy461
     clear hy461
     have H' := Aside0.mk H
     clear H
     go_wp2_with (first | ((with_reducible refine gate_callee (f := 63) rfl ?_); refine goesL_ (some 15) rfl rfl Tryz.func63 kr_ rfl #[.slice A0 l0.length c0, .int .i64 x9_1] rfl ta_ ?_; (with_reducible refine (impl_form.calls k1 _ _ l0 x9_1 t458 _ ?side1 ?side2 A6.out).mono ?_); (case side1 => exact ca_ (Kd.C_below HR0.out HB.out)); (case side2 => exact HC0.out); rintro e w8 ⟨v459, rfl, ho0, hb⟩; refine ⟨_, rfl, ?_⟩; replace HO_5 := a0_ (Kd.S_elder' (sa_ HO_5.out) (Kd.R_base ho0) hb); have HO460 := a0_ (Kd.R_lower ho0 (below_size (bl0_))); replace HB := a0_ (below_step (bl0_) hb); (try clear hb); (try clear hb2); (try clear hk); (try clear hi); (try clear ho0); obtain ⟨Ao10, co10, eo10⟩ := Kd.R_slice HO460.out; subst eo10) | ((with_reducible refine gate_builtin (b := .append) (xs := #[.tmp 12, .tmp 16]) rfl ?_); at_builtin; refine Kd.S_append (Kd.slice 60 k60) (w0 := w) w.heap.size rfl (.tmp 12) (.tmp 16) 31 24 (.slice none 0 0) 24 rfl Tryz.underlying31 info24 rfl (by decide) (by omega) u5 x5_1 t458 [.slice Ao10 t458.length co10] (fun _ => True) (fun k_ => some k_ = (.slice Ao10 t458.length co10 : Value).ownBlock) rfl rfl ?aP (fun k_ hk_ => ((Kd.R_mono (ok' := fun k_ => ((fun _ => True)) k_ ∧ some k_ ≠ (u5 : Value).ownBlock) (Kd.R_apart' (HO460.out) (Kd.S_typed HO_5.out) (by decide)) (fun k_ hk => ⟨trivial, hk.2⟩))).1 k_ hk_.symm) ?aF ?aO ?aB ?aS ?aL ?_; (case aP => exact Kd.M_row (Kd.R_mono (Kd.R_tight rfl (Kd.R_mono (ok' := fun k_ => ((fun _ => True)) k_ ∧ some k_ ≠ (u5 : Value).ownBlock) (Kd.R_apart' (HO460.out) (Kd.S_typed HO_5.out) (by decide)) (fun k_ hk => ⟨trivial, hk.2⟩))) (fun _ h_ => h_))); (case aB => exact (bl0_)); (case aF => exact (fun _ _ => trivial)); (case aO => exact (by (with_reducible repeat (first | apply Kd.S_alloc | apply Kd.S_drewN | apply Kd.S_drew)); exact Kd.S_mono HO_5.out (fun k_ hk => ⟨trivial, fun e_ => hk.2 e_⟩))); (case aS => exact (below_size (bl0_))); (case aL => have := LMc7.out; omega); intro v462 w9 ho hb hg hat; rw [← Ny461.out] at ho; replace HB := a0_ (hb); have HO463 := a0_ (ho); clear HO_5 HO460; clear ho hb hg hat))
     go_roundg k1
     case measure => have := HK1.out; omega
     case rel => exact ⟨(y461), (wrap64 (x9_1 + 1)), rs_, H', ⟨by have := HK1.out; omega⟩, ⟨sa_ HO463.out⟩, ⟨bl0_⟩⟩
    ·rw [if_neg c7] at H
     exact absurd H (by simp)
   ·rw [if_neg c5] at H
    have c5b0 : decide (x9_1 < a1) = false := decide_eq_false c5
    clear c5
    obtain rfl := Option.some.inj H
    go_wp2
    go_ret
    exact ⟨_, er_, sa_ HO_5.out, bl0_⟩

/-! ### impl_formsOf: function 21 -/
/-! The forms of a piece, in order, each once. -/
def impl_formsOf.f (k : Nat) (l0 : List S60) (_a1 : Int) (a2 : Bool) : Option (List (List S60)) := (impl_forms.f k l0 (if a2 = true then 8 else 4)).bind fun L => if L.length < 4611686018427387904 then some (tidyL L) else none
theorem impl_formsOf.mono : ∀ l0 a1 a2 k, LeO (impl_formsOf.f k l0 a1 a2) (impl_formsOf.f (k + 1) l0 a1 a2) := by
 intro l0 a1 a2 k
 unfold impl_formsOf.f
 exact LeO.bind (impl_forms.mono l0 _ k) (fun _ => LeO.refl _)
set_option maxHeartbeats 4000000 in
theorem impl_formsOf.calls (k : Nat) (A0 : Option Addr) (c0 : Nat) (l0 : List S60) (a1 : Int) (a2 : Bool) (r : List (List S60)) (w : World) (hr0 : Kd.C k60 w A0 l0.length l0) (hc0 : l0.length ≤ c0) (h : impl_formsOf.f k l0 a1 a2 = some r) :
  Calls Tryz.prog 21 #[.agg #[.slice A0 l0.length c0, .int .i64 a1, .bool a2]] w fun e w' => ∃ v0_ : Value, e = .returned (v0_) ∧ Kd.V (Kd.slice 60 k60) 24 w' w.heap.size (fun k_ => (w.heap.size ≤ k_)) v0_ r ∧ Below w.heap.size w w' := by
 obtain ⟨L, hL, h2⟩ := Option.bind_eq_some_iff.mp h
 split at h2
 ·rename_i h1
  obtain rfl := Option.some.inj h2
  have hf := fun W (hb : Below w.heap.size w W) => impl_forms.calls k A0 c0 l0 _ L W (Kd.C_below hr0 hb) hc0 hL
  have HW := a0_ (below_alloc (Below.refl w.heap.size w) (.cells #[.slice A0 l0.length c0, .int .i64 a1, .bool a2] 26))
  have H1 := Aside0.mk h1
  clear h h1 h2 hL hr0 hc0
  cases a2
  ·simp only [Bool.false_eq_true, if_false] at hf
   go_enter Tryz.func21, Tryz.ntmps21
   go_wp2_with (first | (go_at_call 42; (refine (hf _ HW.out).mono ?_; rintro e w1 ⟨v, rfl, hS, hb⟩; have HS := a0_ (Kd.S_R hS); have HB := Aside0.mk hb; clear hS hb)) | (go_at_call 41; (refine (impl_tidyShapes.calls L _ _ _ _ _ HB.out (Nat.le_refl _) HS.out H1.out).mono ?_; rintro e w2 ⟨u, rfl, hR, hb⟩; have HR := Aside0.mk hR; have HB2 := Aside0.mk hb; clear hR hb)))
   go_ret
   exact ⟨_, rfl, Kd.V_mono (Kd.R_V (Kd.R_bound HR.out)) (fun k_ hk_ => Nat.le_trans HW.out.size hk_.2.1), below_step HW.out HB2.out⟩
  ·simp only [if_true] at hf
   go_enter Tryz.func21, Tryz.ntmps21
   go_wp2_with (first | (go_at_call 42; (refine (hf _ HW.out).mono ?_; rintro e w1 ⟨v, rfl, hS, hb⟩; have HS := a0_ (Kd.S_R hS); have HB := Aside0.mk hb; clear hS hb)) | (go_at_call 41; (refine (impl_tidyShapes.calls L _ _ _ _ _ HB.out (Nat.le_refl _) HS.out H1.out).mono ?_; rintro e w2 ⟨u, rfl, hR, hb⟩; have HR := Aside0.mk hR; have HB2 := Aside0.mk hb; clear hR hb)))
   go_ret
   exact ⟨_, rfl, Kd.V_mono (Kd.R_V (Kd.R_bound HR.out)) (fun k_ hk_ => Nat.le_trans HW.out.size hk_.2.1), below_step HW.out HB2.out⟩
 ·cases h2


/-! ### impl_alike: function 20 -/
/-! Whether two pieces have a form in common: closures over slices.ContainsFunc. -/
def elS (L : List (List S60)) (j : Nat) : List S60 := L.getD j []
def anyS (a : List S60) (L : List (List S60)) : Bool := (List.range L.length).any (fun j => decide (cmpS a (elS L j) = 0))
def bothS (Lp Lq : List (List S60)) : Bool := (List.range Lp.length).any (fun j => anyS (elS Lp j) Lq)
def impl_alike.f (k : Nat) (l0 : List S60) (a1 : Int) (a2 : Bool) (l1 : List S60) (b1 : Int) (b2 : Bool) : Option Bool := (impl_formsOf.f k l1 b1 b2).bind fun Lq => (impl_formsOf.f k l0 a1 a2).bind fun Lp => if (Lp.length ≤ 9223372036854775807 ∧ Lq.length ≤ 9223372036854775807) ∧ ∀ a ∈ Lp, a.length ≤ 9223372036854775807 then some (bothS Lp Lq) else none
theorem impl_alike.mono : ∀ l0 a1 a2 l1 b1 b2 k, LeO (impl_alike.f k l0 a1 a2 l1 b1 b2) (impl_alike.f (k + 1) l0 a1 a2 l1 b1 b2) := by
 intro l0 a1 a2 l1 b1 b2 k
 unfold impl_alike.f
 exact LeO.bind (impl_formsOf.mono l1 _ _ k) (fun _ => LeO.bind (impl_formsOf.mono l0 _ _ k) (fun _ => LeO.refl _))
theorem eqS_val (a b : List S60) (hm : a.length ≤ 9223372036854775807) : ∃ k, slices_Equal_impl_Cell_impl_Cell.f k a b = some (decide (cmpS a b = 0)) := by
 obtain ⟨k, hk⟩ := eqS_some a b hm
 refine ⟨k, ?_⟩
 unfold impl_equalShapes.f at hk
 cases h : slices_Equal_impl_Cell_impl_Cell.f k a b with
 | none => rw [h] at hk; simp at hk
 | some t => rw [h] at hk; simpa using hk
theorem elS_mem (L : List (List S60)) (j : Nat) (h : j < L.length) : elS L j ∈ L := by
 unfold elS
 rw [List.getD_eq_getElem?_getD, List.getElem?_eq_getElem h, Option.getD_some]
 exact List.getElem_mem h
/-- The inner closure: a captured row beside the argument. -/
theorem alike2_calls (B : Nat) (W : World) (A : Option Addr) (c : Nat) (a : List S60) (A1 : Option Addr) (c1 : Nat) (b : List S60) (hx : W.cell? ⟨B, 0, none⟩ = some (.slice A a.length c)) (hr : Kd.C k60 W A a.length a) (hc : a.length ≤ c) (hr1 : Kd.C k60 W A1 b.length b) (hc1 : b.length ≤ c1) (hm : a.length ≤ 9223372036854775807) :
  Calls Tryz.prog 39 #[.slice A1 b.length c1, .pointer (some ⟨B, 0, none⟩)] W fun e w' => e = .returned (.bool (decide (cmpS a b = 0))) ∧ Below W.heap.size W w' := by
 obtain ⟨k, hk⟩ := eqS_val a b hm
 have hE := slices_Equal_impl_Cell_impl_Cell.calls k A c a A1 c1 b _ W hr hc hr1 hc1 hk
 clear hr hc hr1 hc1 hm hk
 go_enter Tryz.func39, Tryz.ntmps39
 go_wp2_with (go_at_call 40; refine hE.mono ?_; rintro e w1 ⟨rfl, hb⟩; have HB := Aside0.mk hb; clear hb)
 go_ret
 exact ⟨rfl, HB.out.below⟩
/-- slices.IndexFunc at rows of rows: a predicate that leaves what lay. -/
theorem indexS_calls (L : List (List S60)) (p : Nat → Bool) (g : Nat) (lb : Array Value) (eg : ∀ args w, (callFunc g args).run Tryz.prog w = .ok (.enter g args) w) (A : Option Addr) (c : Nat) (w : World) (hL : Kd.C (Kd.slice 60 k60) w A L.length L) (hm : L.length ≤ 9223372036854775807)
  (hp : ∀ W, Below w.heap.size w W → ∀ j, j < L.length → ∀ A' c', (elS L j).length ≤ c' → Kd.C k60 W A' (elS L j).length (elS L j) → Calls Tryz.prog g (#[.slice A' (elS L j).length c'] ++ lb) W fun e w' => e = .returned (.bool (p j)) ∧ Below w.heap.size w w') :
  Calls Tryz.prog 58 #[.slice A L.length c, .func (.func g) #[] lb] w fun e w' => ∃ i : Int, e = .returned (.int .i64 i) ∧ decide (0 ≤ i) = (List.range L.length).any p ∧ Below w.heap.size w w' := by
 have HL := Aside0.mk hL
 have HP := Aside0.mk hp
 clear hL hp
 go_enter Tryz.func58, Tryz.ntmps58
 go_wp2
 go_loopg [5, 8] L.length (fun gg _ s8 wr => ∃ kk : Nat, kk ≤ L.length ∧ L.length - kk ≤ gg ∧ s8 = .int .i64 kk ∧ Aside0 (Below w.heap.size w wr) ∧ Aside0 (∀ j, j < kk → p j = false))
 case atStart => exact ⟨0, Nat.zero_le _, by omega, rfl, ⟨Below.refl _ w⟩, ⟨fun j hj => absurd hj (Nat.not_lt_zero _)⟩⟩
 case round =>
  obtain ⟨kk, hkk, hg, rfl, BW, HA⟩ := hrel
  by_cases hlt : kk < L.length
  ·have hltz : (kk : Int) < (L.length : Int) := by omega
   obtain ⟨ad, A', c', e1, hx, hc', hr'⟩ := at_L3 HL.out (kk : Int) (by omega) hltz
   cases e1
   rw [Int.toNat_natCast] at hx
   replace hx : w.cell? (ad.add kk) = some (.slice A' (elS L kk).length c') := hx
   replace hx := (BW.out.cell (World.block_lt_of_cell? w _ hx)).trans hx
   have hcall := HP.out wr BW.out kk hlt A' c' hc' (Kd.C_below hr' BW.out)
   have HX := Aside0.mk hlt
   clear hc' hr' hlt
   cases hq : p kk with
   | true =>
    rw [hq] at hcall
    have HQ := Aside0.mk hq
    clear hq
    go_wp2_with (go_at_fn g; refine hcall.mono ?_; rintro e w' ⟨rfl, hb'⟩; have HB' := Aside0.mk hb'; clear hb')
    go_ret
    refine ⟨_, rfl, ?_, HB'.out⟩
    rw [decide_eq_true (show (0 : Int) ≤ (kk : Int) by omega)]
    exact (List.any_eq_true.2 ⟨kk, List.mem_range.2 HX.out, HQ.out⟩).symm
   | false =>
    rw [hq] at hcall
    have HQ := Aside0.mk hq
    clear hq
    go_wp2_with (go_at_fn g; refine hcall.mono ?_; rintro e w' ⟨rfl, hb'⟩; have HB' := Aside0.mk hb'; clear hb')
    go_roundg (L.length - (kk + 1))
    case measure => have := HX.out; omega
    case rel =>
     refine ⟨kk + 1, by have := HX.out; omega, by omega, by go_num, HB', ⟨fun j hj => ?_⟩⟩
     by_cases e : j = kk
     ·subst e
      exact HQ.out
     ·exact HA.out j (by omega)
  ·have hltz : ¬ (kk : Int) < (L.length : Int) := by omega
   have : kk = L.length := by omega
   subst this
   go_wp2
   go_ret
   refine ⟨_, rfl, ?_, BW.out⟩
   rw [decide_eq_false (by omega)]
   symm
   rw [List.any_eq_false]
   intro j hj
   rw [HA.out j (List.mem_range.1 hj)]
   simp
theorem containsS_calls (L : List (List S60)) (p : Nat → Bool) (g : Nat) (lb : Array Value) (eg : ∀ args w, (callFunc g args).run Tryz.prog w = .ok (.enter g args) w) (A : Option Addr) (c : Nat) (w : World) (hL : Kd.C (Kd.slice 60 k60) w A L.length L) (hm : L.length ≤ 9223372036854775807)
  (hp : ∀ W, Below w.heap.size w W → ∀ j, j < L.length → ∀ A' c', (elS L j).length ≤ c' → Kd.C k60 W A' (elS L j).length (elS L j) → Calls Tryz.prog g (#[.slice A' (elS L j).length c'] ++ lb) W fun e w' => e = .returned (.bool (p j)) ∧ Below w.heap.size w w') :
  Calls Tryz.prog 37 #[.slice A L.length c, .func (.func g) #[] lb] w fun e w' => e = .returned (.bool ((List.range L.length).any p)) ∧ Below w.heap.size w w' := by
 have hI := indexS_calls L p g lb eg A c w hL hm hp
 clear hL hp
 go_enter Tryz.func37, Tryz.ntmps37
 go_wp2_with (go_at_call 58; refine hI.mono ?_; rintro e w1 ⟨i, rfl, hi, hb⟩; have HI := Aside0.mk hi; have HB := Aside0.mk hb; clear hi hb)
 go_ret
 refine ⟨?_, HB.out⟩
 rw [← HI.out]
 rfl
/-- The outer closure: a captured list beside the argument. -/
theorem alike1_calls (B : Nat) (W : World) (A : Option Addr) (c : Nat) (L : List (List S60)) (A1 : Option Addr) (c1 : Nat) (a : List S60) (hx : W.cell? ⟨B, 0, none⟩ = some (.slice A L.length c)) (hL : Kd.C (Kd.slice 60 k60) W A L.length L) (hr : Kd.C k60 W A1 a.length a) (hc : a.length ≤ c1) (hm : a.length ≤ 9223372036854775807) (hl : L.length ≤ 9223372036854775807) :
  Calls Tryz.prog 38 #[.slice A1 a.length c1, .pointer (some ⟨B, 0, none⟩)] W fun e w' => e = .returned (.bool (anyS a L)) ∧ Below W.heap.size W w' := by
 have hb1 := below_alloc (Below.refl W.heap.size W) (.cells #[.slice A1 a.length c1] 24)
 have hcell : (W.alloc (.cells #[.slice A1 a.length c1] 24)).cell? ⟨W.heap.size, 0, none⟩ = some (.slice A1 a.length c1) := by first | go_simp | simp [World.cell?, World.alloc]
 have hsz : (W.alloc (.cells #[.slice A1 a.length c1] 24)).heap.size = W.heap.size + 1 := by first | (simp; done) | rfl
 have hC := containsS_calls L (fun j => decide (cmpS a (elS L j) = 0)) 39 #[.pointer (some ⟨W.heap.size, 0, none⟩)] (enters_of Tryz.func39 kr_ rfl) A c (W.alloc (.cells #[.slice A1 a.length c1] 24)) (Kd.C_below hL hb1) hl (fun W2 hW2 j hj A' c' hc' hr' =>
  (alike2_calls W.heap.size W2 A1 c1 a A' c' (elS L j) ((hW2.cell (by rw [hsz]; show W.heap.size < W.heap.size + 1; omega)).trans hcell) (Kd.C_below (Kd.C_below hr hb1) hW2) hc hr' hc' hm).mono (fun e w' ⟨he, hb⟩ => ⟨he, below_step hW2 hb⟩))
 have HB1 := Aside0.mk hb1
 replace hx := pw_cell_below hb1 hx
 clear hL hr hc hm hl hcell hsz hb1
 go_enter Tryz.func38, Tryz.ntmps38
 go_wp2_with (go_at_call 37; refine hC.mono ?_; rintro e w1 ⟨rfl, hb⟩; have HB := Aside0.mk hb; clear hb)
 go_ret
 exact ⟨rfl, below_step HB1.out HB.out⟩
set_option maxHeartbeats 4000000 in
theorem impl_alike.calls (k : Nat) (A0 : Option Addr) (c0 : Nat) (l0 : List S60) (a1 : Int) (a2 : Bool) (A1 : Option Addr) (c1 : Nat) (l1 : List S60) (b1 : Int) (b2 : Bool) (r : Bool) (w : World) (hr0 : Kd.C k60 w A0 l0.length l0) (hc0 : l0.length ≤ c0) (hr1 : Kd.C k60 w A1 l1.length l1) (hc1 : l1.length ≤ c1) (h : impl_alike.f k l0 a1 a2 l1 b1 b2 = some r) :
  Calls Tryz.prog 20 #[.agg #[.slice A0 l0.length c0, .int .i64 a1, .bool a2], .agg #[.slice A1 l1.length c1, .int .i64 b1, .bool b2]] w fun e w' => e = .returned (.bool r) ∧ Below w.heap.size w w' := by
 obtain ⟨Lq, hLq, h2⟩ := Option.bind_eq_some_iff.mp h
 obtain ⟨Lp, hLp, h3⟩ := Option.bind_eq_some_iff.mp h2
 clear h h2
 split at h3
 case isFalse => cases h3
 rename_i hok
 obtain ⟨⟨hlp, hlq⟩, hm⟩ := hok
 obtain rfl := Option.some.inj h3
 clear h3
 have hfq := fun W (hb : Below w.heap.size w W) => impl_formsOf.calls k A1 c1 l1 b1 b2 Lq W (Kd.C_below hr1 hb) hc1 hLq
 have hfp := fun W (hb : Below w.heap.size w W) => impl_formsOf.calls k A0 c0 l0 a1 a2 Lp W (Kd.C_below hr0 hb) hc0 hLp
 clear hr0 hc0 hr1 hc1 hLq hLp
 have hW := below_alloc (below_alloc (Below.refl w.heap.size w) (.cells #[.slice A0 l0.length c0, .int .i64 a1, .bool a2] 26)) (.cells #[.slice A1 l1.length c1, .int .i64 b1, .bool b2] 26)
 have q0 : ((w.alloc (.cells #[.slice A0 l0.length c0, .int .i64 a1, .bool a2] 26)).alloc (.cells #[.slice A1 l1.length c1, .int .i64 b1, .bool b2] 26)).cell? ⟨w.heap.size, 0, none⟩ = some (.slice A0 l0.length c0) := by first | go_simp | simp [World.cell?, World.alloc]
 have q1 : ((w.alloc (.cells #[.slice A0 l0.length c0, .int .i64 a1, .bool a2] 26)).alloc (.cells #[.slice A1 l1.length c1, .int .i64 b1, .bool b2] 26)).cell? ⟨w.heap.size, 1, none⟩ = some (.int .i64 a1) := by first | go_simp | simp [World.cell?, World.alloc]
 have q2 : ((w.alloc (.cells #[.slice A0 l0.length c0, .int .i64 a1, .bool a2] 26)).alloc (.cells #[.slice A1 l1.length c1, .int .i64 b1, .bool b2] 26)).cell? ⟨w.heap.size, 2, none⟩ = some (.bool a2) := by first | go_simp | simp [World.cell?, World.alloc]
 have HW := Aside0.mk hW
 have Q0 := Aside0.mk q0
 have Q1 := Aside0.mk q1
 have Q2 := Aside0.mk q2
 have HLP := Aside0.mk hlp
 have HLQ := Aside0.mk hlq
 have HM := Aside0.mk hm
 clear hW q0 q1 q2 hlp hlq hm
 go_enter Tryz.func20, Tryz.ntmps20
 go_wp2_with (first | (go_at_call 21; refine (hfq _ HW.out).mono ?_; rintro e w3 ⟨v, rfl, ⟨Aq, cq, rfl, hcq, hFq⟩, hb⟩; have HB3 := a0_ (below_step HW.out hb); have HCq := a0_ (Kd.F_now hFq); have p0 : ∀ o, (w3.alloc o).cell? ⟨w.heap.size, 0, none⟩ = some (.slice A0 l0.length c0) := fun o => pw_cell_below (below_alloc (Below.refl _ _) o) (pw_cell_below hb Q0.out); have p1 : ∀ o, (w3.alloc o).cell? ⟨w.heap.size, 1, none⟩ = some (.int .i64 a1) := fun o => pw_cell_below (below_alloc (Below.refl _ _) o) (pw_cell_below hb Q1.out); have p2 : ∀ o, (w3.alloc o).cell? ⟨w.heap.size, 2, none⟩ = some (.bool a2) := fun o => pw_cell_below (below_alloc (Below.refl _ _) o) (pw_cell_below hb Q2.out); have GB := a0_ (HB3.out.size); clear hb hcq hFq hfq) | (go_at_call 21; refine (hfp _ (below_alloc HB3.out _)).mono ?_; rintro e w5 ⟨v, rfl, ⟨Ap, cp, rfl, hcp, hFp⟩, hb⟩; have HB5 := a0_ (below_step (below_alloc HB3.out _) hb); have HCp := a0_ (Kd.F_now hFp); have HCq5 := a0_ (Kd.C_below (Kd.C_below HCq.out (below_alloc (Below.refl _ _) _)) hb); have HX := a0_ (pw_cell_below hb (show (w3.alloc (.cells #[.slice Aq Lq.length cq] 31)).cell? ⟨w3.heap.size, 0, none⟩ = some (Value.slice Aq Lq.length cq) by first | go_simp | simp [World.cell?, World.alloc])); clear hb hcp hFp hfp p0 p1 p2) | (go_at_call 37; refine (containsS_calls Lp (fun j => anyS (elS Lp j) Lq) 38 #[.pointer (some ⟨w3.heap.size, 0, none⟩)] (enters_of Tryz.func38 kr_ rfl) Ap cp w5 HCp.out HLP.out (fun W hW j hj A' c' hc' hr' => (alike1_calls w3.heap.size W Aq cq Lq A' c' (elS Lp j) (pw_cell_below hW HX.out) (Kd.C_below HCq5.out hW) hr' hc' (HM.out _ (elS_mem Lp j hj)) HLQ.out).mono (fun e w' ⟨he, hb⟩ => ⟨he, below_step hW hb⟩))).mono ?_; rintro e w6 ⟨rfl, hb⟩; have HB6 := a0_ (below_step HB5.out hb); clear hb))
 go_ret
 exact ⟨rfl, HB6.out⟩


/-! ### impl_AreAlike: function 6 -/
def impl_AreAlike.f (k : Nat) (l0_0 : List (S60)) (a0_1 : Int) (a0_2 : Bool) (l1_0 : List (S60)) (a1_1 : Int) (a1_2 : Bool) : Option (Bool) := (impl_IsPiece.f k l0_0 a0_1 a0_2).bind fun t466 => (if t466 = true then ((impl_IsPiece.f k l1_0 a1_1 a1_2).bind fun t467 => (if t467 = true then ((impl_alike.f k l0_0 a0_1 a0_2 l1_0 a1_1 a1_2).bind fun t468 => (some t468)) else (some false))) else (some false))
theorem impl_AreAlike.mono : ∀ a0 a1 a2 a3 a4 a5 k, LeO (impl_AreAlike.f k a0 a1 a2 a3 a4 a5) (impl_AreAlike.f (k + 1) a0 a1 a2 a3 a4 a5) := by
 intro a0 a1 a2 a3 a4 a5 k
 unfold impl_AreAlike.f
 with_reducible (repeat' first | exact impl_IsPiece.mono _ _ _ _ | exact impl_alike.mono _ _ _ _ _ _ _ | exact LeO.refl _ | exact LeO.none _ | refine LeO.ite ?_ ?_ | refine LeO.bind ?_ (fun _ => ?_))
set_option maxHeartbeats 8000000 in
set_option maxRecDepth 100000 in
theorem impl_AreAlike.calls (k : Nat) (A0_0 : Option Addr) (c0_0 : Nat) (l0_0 : List (S60)) (a0_1 : Int) (a0_2 : Bool) (A1_0 : Option Addr) (c1_0 : Nat) (l1_0 : List (S60)) (a1_1 : Int) (a1_2 : Bool) (r : Bool) (w : World) (hr0_0 : Kd.C k60 w A0_0 l0_0.length l0_0) (hc0_0 : l0_0.length ≤ c0_0) (hr1_0 : Kd.C k60 w A1_0 l1_0.length l1_0) (hc1_0 : l1_0.length ≤ c1_0) (h : impl_AreAlike.f k l0_0 a0_1 a0_2 l1_0 a1_1 a1_2 = some r) :
  Calls Tryz.prog 6 #[.agg #[.slice A0_0 l0_0.length c0_0, .int .i64 a0_1, .bool a0_2], .agg #[.slice A1_0 l1_0.length c1_0, .int .i64 a1_1, .bool a1_2]] w fun e w' => e = .returned (.bool r) ∧ Below w.heap.size w w' := by
 have hu26 := Tryz.underlying26
 have HR0_0 := Aside0.mk hr0_0
 have HC0_0 := Aside0.mk hc0_0
 clear hr0_0 hc0_0
 have HR1_0 := Aside0.mk hr1_0
 have HC1_0 := Aside0.mk hc1_0
 clear hr1_0 hc1_0
 have HB := a0_ (Below.refl w.heap.size w)
 have H := h
 clear h
 unfold impl_AreAlike.f at H
 obtain ⟨t466, A3, H⟩ := bs_ H
 by_cases c4 : t466 = true
 ·subst c4
  rw [if_pos rfl] at H
  obtain ⟨t467, A5, H⟩ := bs_ H
  by_cases c6 : t467 = true
  ·subst c6
   rw [if_pos rfl] at H
   obtain ⟨t468, A7, H⟩ := bs_ H
   obtain rfl := Option.some.inj H
   go_enter Tryz.func6, Tryz.ntmps6
   go_wp2_with (first | ((with_reducible refine gate_dst (N := 2) rfl ?_); refine bx_ (N := 2) (cs := #[.slice A0_0 l0_0.length c0_0, .int .i64 a0_1, .bool a0_2]) (t := 26) ?_; intro gb464 hg w8 hbox hb; have BK464 := a0_ (hbox); have GW464 := a0_ ((sz_ hg (bl0_) : w.heap.size ≤ gb464)); have GE464 := a0_ ((sz_ hg (bl0_) : w.heap.size ≤ gb464)); replace HB := a0_ (below_step (bl0_) hb); clear hb hbox hg) | ((with_reducible refine gate_dst (N := 3) rfl ?_); refine bx_ (N := 3) (cs := #[.slice A1_0 l1_0.length c1_0, .int .i64 a1_1, .bool a1_2]) (t := 26) ?_; intro gb465 hg w9 hbox hb; have BK465 := a0_ (hbox); have GW465 := a0_ ((sz_ hg (bl1_ GE464.out) : w.heap.size ≤ gb465)); have GE465 := a0_ ((sz_ hg (bl1_ GE464.out) : w.heap.size ≤ gb465)); replace HB := a0_ (below_step (bl1_ GE464.out) hb); have NB464_465 := a0_ ((nl_ hg BK464.out : gb464 ≠ gb465)); have NB465_464 := a0_ ((ng_ hg BK464.out : gb465 ≠ gb464)); replace BK464 := a0_ (bb_ BK464.out hb); clear hb hbox hg; have hnb10 := NB464_465.out; have hnc10 := NB465_464.out; obtain ⟨hcz11_0, hcz11_1, hcz11_2, hfz11_0, hfz11_1, hfz11_2⟩ := bc3_ BK464.out) | ((with_reducible refine gate_callee (f := 12) rfl ?_); refine goesL_ (some 6) rfl rfl Tryz.func12 kr_ rfl #[.agg #[.slice A0_0 l0_0.length c0_0, .int .i64 a0_1, .bool a0_2]] rfl ta_ ?_; (with_reducible refine (impl_IsPiece.calls k _ _ l0_0 a0_1 a0_2 true _ ?side1 ?side2 A3.out).mono ?_); (case side1 => exact ca_ (Kd.C_below HR0_0.out HB.out)); (case side2 => exact HC0_0.out); rintro e w12 ⟨rfl, hb⟩; refine ⟨_, rfl, ?_⟩; replace BK464 := a0_ (bb_ BK464.out hb); replace BK465 := a0_ (bb_ BK465.out hb); replace HB := a0_ (below_step (bl2_ GE464.out GE465.out) hb); (try clear hb); (try clear hb2); (try clear hk); (try clear hi); obtain ⟨hcz13_0, hcz13_1, hcz13_2, hfz13_0, hfz13_1, hfz13_2⟩ := bc3_ BK465.out) | (go_at_call 12; (with_reducible refine (impl_IsPiece.calls k _ _ l1_0 a1_1 a1_2 true _ ?side1 ?side2 A5.out).mono ?_); (case side1 => exact ca_ (Kd.C_below HR1_0.out HB.out)); (case side2 => exact HC1_0.out); rintro e w14 ⟨rfl, hb⟩; replace BK464 := a0_ (bb_ BK464.out hb); replace BK465 := a0_ (bb_ BK465.out hb); replace HB := a0_ (below_step (bl2_ GE464.out GE465.out) hb); (try clear hb); (try clear hb2); (try clear hk); (try clear hi); obtain ⟨hcz15_0, hcz15_1, hcz15_2, hfz15_0, hfz15_1, hfz15_2⟩ := bc3_ BK464.out; obtain ⟨hcz16_0, hcz16_1, hcz16_2, hfz16_0, hfz16_1, hfz16_2⟩ := bc3_ BK465.out) | (go_at_call 20; (with_reducible refine (impl_alike.calls k _ _ l0_0 a0_1 a0_2 _ _ l1_0 a1_1 a1_2 t468 _ ?side1 ?side2 ?side3 ?side4 A7.out).mono ?_); (case side1 => exact ca_ (Kd.C_below HR0_0.out HB.out)); (case side2 => exact HC0_0.out); (case side3 => exact ca_ (Kd.C_below HR1_0.out HB.out)); (case side4 => exact HC1_0.out); rintro e w17 ⟨rfl, hb⟩; replace BK464 := a0_ (bb_ BK464.out hb); replace BK465 := a0_ (bb_ BK465.out hb); replace HB := a0_ (below_step (bl2_ GE464.out GE465.out) hb); (try clear hb); (try clear hb2); (try clear hk); (try clear hi)))
   go_ret
   exact ⟨er_, bl2_ GE464.out GE465.out⟩
  ·replace c6 := Bool.eq_false_iff.mpr c6
   subst c6
   rw [if_neg (show ¬ (false = true) by decide)] at H
   obtain rfl := Option.some.inj H
   go_enter Tryz.func6, Tryz.ntmps6
   go_wp2_with (first | ((with_reducible refine gate_dst (N := 2) rfl ?_); refine bx_ (N := 2) (cs := #[.slice A0_0 l0_0.length c0_0, .int .i64 a0_1, .bool a0_2]) (t := 26) ?_; intro gb464 hg w18 hbox hb; have BK464 := a0_ (hbox); have GW464 := a0_ ((sz_ hg (bl0_) : w.heap.size ≤ gb464)); have GE464 := a0_ ((sz_ hg (bl0_) : w.heap.size ≤ gb464)); replace HB := a0_ (below_step (bl0_) hb); clear hb hbox hg) | ((with_reducible refine gate_dst (N := 3) rfl ?_); refine bx_ (N := 3) (cs := #[.slice A1_0 l1_0.length c1_0, .int .i64 a1_1, .bool a1_2]) (t := 26) ?_; intro gb465 hg w19 hbox hb; have BK465 := a0_ (hbox); have GW465 := a0_ ((sz_ hg (bl1_ GE464.out) : w.heap.size ≤ gb465)); have GE465 := a0_ ((sz_ hg (bl1_ GE464.out) : w.heap.size ≤ gb465)); replace HB := a0_ (below_step (bl1_ GE464.out) hb); have NB464_465 := a0_ ((nl_ hg BK464.out : gb464 ≠ gb465)); have NB465_464 := a0_ ((ng_ hg BK464.out : gb465 ≠ gb464)); replace BK464 := a0_ (bb_ BK464.out hb); clear hb hbox hg; have hnb20 := NB464_465.out; have hnc20 := NB465_464.out; obtain ⟨hcz21_0, hcz21_1, hcz21_2, hfz21_0, hfz21_1, hfz21_2⟩ := bc3_ BK464.out) | ((with_reducible refine gate_callee (f := 12) rfl ?_); refine goesL_ (some 6) rfl rfl Tryz.func12 kr_ rfl #[.agg #[.slice A0_0 l0_0.length c0_0, .int .i64 a0_1, .bool a0_2]] rfl ta_ ?_; (with_reducible refine (impl_IsPiece.calls k _ _ l0_0 a0_1 a0_2 true _ ?side1 ?side2 A3.out).mono ?_); (case side1 => exact ca_ (Kd.C_below HR0_0.out HB.out)); (case side2 => exact HC0_0.out); rintro e w22 ⟨rfl, hb⟩; refine ⟨_, rfl, ?_⟩; replace BK464 := a0_ (bb_ BK464.out hb); replace BK465 := a0_ (bb_ BK465.out hb); replace HB := a0_ (below_step (bl2_ GE464.out GE465.out) hb); (try clear hb); (try clear hb2); (try clear hk); (try clear hi); obtain ⟨hcz23_0, hcz23_1, hcz23_2, hfz23_0, hfz23_1, hfz23_2⟩ := bc3_ BK465.out) | (go_at_call 12; (with_reducible refine (impl_IsPiece.calls k _ _ l1_0 a1_1 a1_2 false _ ?side1 ?side2 A5.out).mono ?_); (case side1 => exact ca_ (Kd.C_below HR1_0.out HB.out)); (case side2 => exact HC1_0.out); rintro e w24 ⟨rfl, hb⟩; replace BK464 := a0_ (bb_ BK464.out hb); replace BK465 := a0_ (bb_ BK465.out hb); replace HB := a0_ (below_step (bl2_ GE464.out GE465.out) hb); (try clear hb); (try clear hb2); (try clear hk); (try clear hi)))
   go_ret
   exact ⟨er_, bl2_ GE464.out GE465.out⟩
 ·replace c4 := Bool.eq_false_iff.mpr c4
  subst c4
  rw [if_neg (show ¬ (false = true) by decide)] at H
  obtain rfl := Option.some.inj H
  go_enter Tryz.func6, Tryz.ntmps6
  go_wp2_with (first | ((with_reducible refine gate_dst (N := 2) rfl ?_); refine bx_ (N := 2) (cs := #[.slice A0_0 l0_0.length c0_0, .int .i64 a0_1, .bool a0_2]) (t := 26) ?_; intro gb464 hg w25 hbox hb; have BK464 := a0_ (hbox); have GW464 := a0_ ((sz_ hg (bl0_) : w.heap.size ≤ gb464)); have GE464 := a0_ ((sz_ hg (bl0_) : w.heap.size ≤ gb464)); replace HB := a0_ (below_step (bl0_) hb); clear hb hbox hg) | ((with_reducible refine gate_dst (N := 3) rfl ?_); refine bx_ (N := 3) (cs := #[.slice A1_0 l1_0.length c1_0, .int .i64 a1_1, .bool a1_2]) (t := 26) ?_; intro gb465 hg w26 hbox hb; have BK465 := a0_ (hbox); have GW465 := a0_ ((sz_ hg (bl1_ GE464.out) : w.heap.size ≤ gb465)); have GE465 := a0_ ((sz_ hg (bl1_ GE464.out) : w.heap.size ≤ gb465)); replace HB := a0_ (below_step (bl1_ GE464.out) hb); have NB464_465 := a0_ ((nl_ hg BK464.out : gb464 ≠ gb465)); have NB465_464 := a0_ ((ng_ hg BK464.out : gb465 ≠ gb464)); replace BK464 := a0_ (bb_ BK464.out hb); clear hb hbox hg; have hnb27 := NB464_465.out; have hnc27 := NB465_464.out; obtain ⟨hcz28_0, hcz28_1, hcz28_2, hfz28_0, hfz28_1, hfz28_2⟩ := bc3_ BK464.out) | ((with_reducible refine gate_callee (f := 12) rfl ?_); refine goesL_ (some 6) rfl rfl Tryz.func12 kr_ rfl #[.agg #[.slice A0_0 l0_0.length c0_0, .int .i64 a0_1, .bool a0_2]] rfl ta_ ?_; (with_reducible refine (impl_IsPiece.calls k _ _ l0_0 a0_1 a0_2 false _ ?side1 ?side2 A3.out).mono ?_); (case side1 => exact ca_ (Kd.C_below HR0_0.out HB.out)); (case side2 => exact HC0_0.out); rintro e w29 ⟨rfl, hb⟩; refine ⟨_, rfl, ?_⟩; replace BK464 := a0_ (bb_ BK464.out hb); replace BK465 := a0_ (bb_ BK465.out hb); replace HB := a0_ (below_step (bl2_ GE464.out GE465.out) hb); (try clear hb); (try clear hb2); (try clear hk); (try clear hi)))
  go_ret
  exact ⟨er_, bl2_ GE464.out GE465.out⟩

/-! ### spec_DrawFormsOfPiece: function 7 -/
def spec_DrawFormsOfPiece.f (k : Nat) (l0 : List Int) : Option ((List (S60)) × Int × Bool) := (spec_l01From.f k l0).bind fun bt470 => ((spec_l11DrawPiece.f k bt470.1 bt470.2.1 bt470.2.2).bind fun bt474 => (some (bt474.1, bt474.2.1, bt474.2.2.1)))
theorem spec_DrawFormsOfPiece.mono : ∀ a0 k, LeO (spec_DrawFormsOfPiece.f k a0) (spec_DrawFormsOfPiece.f (k + 1) a0) := by
 intro a0 k
 unfold spec_DrawFormsOfPiece.f
 with_reducible (repeat' first | exact spec_l01From.mono _ _ | exact spec_l11DrawPiece.mono _ _ _ _ | exact LeO.refl _ | exact LeO.none _ | refine LeO.ite ?_ ?_ | refine LeO.bind ?_ (fun _ => ?_))
set_option maxHeartbeats 8000000 in
set_option maxRecDepth 100000 in
theorem spec_DrawFormsOfPiece.calls (k : Nat) (A0 : Option Addr) (c0 : Nat) (l0 : List Int) (r1 : List (S60)) (r2 : Int) (r3 : Bool) (w : World) (hr0 : Kd.C (Kd.int .u8) w A0 l0.length l0) (hc0 : l0.length ≤ c0) (h : spec_DrawFormsOfPiece.f k l0 = some (r1, r2, r3)) :
  Calls Tryz.prog 7 #[.slice A0 l0.length c0] w fun e w' => ∃ v0_ : Value, e = .returned (.agg #[v0_, .int .i64 r2, .bool r3]) ∧ Kd.R k60 60 w' w.heap.size (fun _ => True) v0_ r1 ∧ Below w.heap.size w w' := by
 have hu26 := Tryz.underlying26
 have HR0 := Aside0.mk hr0
 have HC0 := Aside0.mk hc0
 clear hr0 hc0
 have HB := a0_ (Below.refl w.heap.size w)
 have H := h
 clear h
 unfold spec_DrawFormsOfPiece.f at H
 obtain ⟨⟨t470, t471, t472⟩, A2, H⟩ := bs_ H
 dsimp only at H
 obtain ⟨⟨t474, t477, t478, t479, t480⟩, A3, H⟩ := bs_ H
 dsimp only at H
 simp only [Option.some.injEq, Prod.mk.injEq] at H
 obtain ⟨rfl, rfl, rfl⟩ := H
 go_enter Tryz.func7, Tryz.ntmps7
 go_wp2_with (first | ((with_reducible refine gate_dst (N := 2) rfl ?_); refine bx_ (N := 2) (cs := #[.slice none 0 0, .int .i64 0, .bool false]) (t := 26) ?_; intro gb469 hg w4 hbox hb; have BK469 := a0_ (hbox); have GW469 := a0_ ((sz_ hg (bl0_) : w.heap.size ≤ gb469)); have GE469 := a0_ ((sz_ hg (bl0_) : w.heap.size ≤ gb469)); replace HB := a0_ (below_step (bl0_) hb); clear hb hbox hg) | ((with_reducible refine gate_callee (f := 15) rfl ?_); refine goesL_ (some 4) rfl rfl Tryz.func15 kr_ rfl #[.slice A0 l0.length c0] rfl ta_ ?_; (with_reducible refine (spec_l01From.calls k _ _ l0 t470 t471 t472 w _ ?side1 ?side2 ?side3 A2.out).mono ?_); (case side1 => exact bl1_ GE469.out); (case side2 => exact HR0.out); (case side3 => exact HC0.out); rintro e w5 ⟨g473, rfl, hi, hb, hb2⟩; refine ⟨_, rfl, ?_⟩; replace HB := a0_ (hb); have HI473 := a0_ (hi); have NB473_469 := a0_ (IsS55.ne_blk hi (bb_ BK469.out hb2) (by decide)); have NB469_473 := a0_ (Ne.symm (IsS55.ne_blk hi (bb_ BK469.out hb2) (by decide))); replace BK469 := a0_ (bb_ BK469.out hb2); (try clear hb); (try clear hb2); (try clear hk); (try clear hi)) | ((with_reducible refine gate_callee (f := 16) rfl ?_); refine goesL_ (some 5) rfl rfl Tryz.func16 kr_ rfl #[.pointer (some ⟨g473, 0, none⟩)] rfl ta_ ?_; (with_reducible refine (spec_l11DrawPiece.calls k g473 t470 t471 t472 t474 t477 t478 t479 t480 w _ ?side1 ?side2 A3.out).mono ?_); (case side1 => repeat (first | (with_reducible first | exact HI473.out | apply IsS55.alloc | apply IsS55.drewN | apply IsS55.drew | apply IsS55.set_1 | apply IsS55.set_2 | refine IsS55.far ?_ NB473_469.out _) | exact HI473.out)); (case side2 => exact bl2_ (IsS55.ge HI473.out) GE469.out); rintro e w6 ⟨v475, rfl, ho0, hi, hb, hk⟩; refine ⟨_, rfl, ?_⟩; replace BK469 := a0_ (KeepBut.blk hk (g' := gb469) (o := .cells #[.slice none 0 0, .int .i64 0, .bool false] 26 (0, 0)) (bk_ BK469.out) NB469_473.out (by simp)); have HO476 := a0_ (Kd.R_lower ho0 (below_size (bl2_ (IsS55.ge HI473.out) GE469.out))); replace HB := a0_ (hb); replace HI473 := a0_ (hi); (try clear hb); (try clear hb2); (try clear hk); (try clear hi); (try clear ho0); obtain ⟨Ao7, co7, eo7⟩ := Kd.R_slice HO476.out; subst eo7; have hnb8 := NB469_473.out; have hnc8 := NB473_469.out; obtain ⟨hcz9_0, hcz9_1, hcz9_2, hfz9_0, hfz9_1, hfz9_2⟩ := bc3_ BK469.out))
 refine bodyPost_ret (results_cell_row rfl _ _ gb469 26 #[.slice Ao7 t474.length co7, .int .i64 t477, .bool t478] (0, 0) _ rfl (by (with_reducible repeat (first | refine blk_drewN ?_ _ | refine blk_drew ?_ | refine blk_alloc ?_ _)); refine blk_put (cs := #[.slice Ao7 t474.length co7, .int .i64 t477, .bool false]) ?_ 2 _ rfl; (with_reducible repeat (first | refine blk_drewN ?_ _ | refine blk_drew ?_ | refine blk_alloc ?_ _)); refine blk_put (cs := #[.slice Ao7 t474.length co7, .int .i64 0, .bool false]) ?_ 1 _ rfl; (with_reducible repeat (first | refine blk_drewN ?_ _ | refine blk_drew ?_ | refine blk_alloc ?_ _)); refine blk_put (cs := #[.slice none 0 0, .int .i64 0, .bool false]) ?_ 0 _ rfl; (with_reducible repeat (first | refine blk_drewN ?_ _ | refine blk_drew ?_ | refine blk_alloc ?_ _)); exact BK469.out) Tryz.underlying26 rfl kr_) rfl ?_
 exact ⟨_, er_, by (with_reducible repeat (first | apply Kd.R_alloc | apply Kd.R_drewN | apply Kd.R_drew)); exact Kd.R_mono (Kd.R_far (p := ⟨gb469, 2, none⟩) (Kd.R_far (p := ⟨gb469, 1, none⟩) (Kd.R_far (p := ⟨gb469, 0, none⟩) (Kd.R_types HO476.out BK469.out (by decide)) (fun _ hk => hk.2) (.slice Ao7 t474.length co7)) (fun _ hk => hk.2) (.int .i64 t477)) (fun _ hk => hk.2) (.bool t478)) (fun _ hk => trivial), bl2_ (IsS55.ge HI473.out) GE469.out⟩

/-! ### impl_FormsOfPiece: function 8 -/
def impl_FormsOfPiece.f (k : Nat) (l0_0 : List (S60)) (a0_1 : Int) (a0_2 : Bool) : Option ((List (List (S60))) × Int) := (impl_IsPiece.f k l0_0 a0_1 a0_2).bind fun t482 => (if t482 = true then ((impl_formsOf.f k l0_0 a0_1 a0_2).bind fun t483 => (some (t483, 0))) else (some (([] : List (List (S60))), 1)))
theorem impl_FormsOfPiece.mono : ∀ a0 a1 a2 k, LeO (impl_FormsOfPiece.f k a0 a1 a2) (impl_FormsOfPiece.f (k + 1) a0 a1 a2) := by
 intro a0 a1 a2 k
 unfold impl_FormsOfPiece.f
 with_reducible (repeat' first | exact impl_IsPiece.mono _ _ _ _ | exact impl_formsOf.mono _ _ _ _ | exact LeO.refl _ | exact LeO.none _ | refine LeO.ite ?_ ?_ | refine LeO.bind ?_ (fun _ => ?_))
set_option maxHeartbeats 8000000 in
set_option maxRecDepth 100000 in
theorem impl_FormsOfPiece.calls (k : Nat) (A0_0 : Option Addr) (c0_0 : Nat) (l0_0 : List (S60)) (a0_1 : Int) (a0_2 : Bool) (r1 : List (List (S60))) (r2 : Int) (w : World) (hr0_0 : Kd.C k60 w A0_0 l0_0.length l0_0) (hc0_0 : l0_0.length ≤ c0_0) (h : impl_FormsOfPiece.f k l0_0 a0_1 a0_2 = some (r1, r2)) :
  Calls Tryz.prog 8 #[.agg #[.slice A0_0 l0_0.length c0_0, .int .i64 a0_1, .bool a0_2]] w fun e w' => ∃ v0_ : Value, e = .returned (.tuple #[v0_, .int .i64 r2]) ∧ Kd.V (Kd.slice 60 k60) 24 w' w.heap.size (fun k_ => (w.heap.size ≤ k_)) v0_ r1 ∧ Below w.heap.size w w' := by
 have hu26 := Tryz.underlying26
 have HR0_0 := Aside0.mk hr0_0
 have HC0_0 := Aside0.mk hc0_0
 clear hr0_0 hc0_0
 have HB := a0_ (Below.refl w.heap.size w)
 have H := h
 clear h
 unfold impl_FormsOfPiece.f at H
 obtain ⟨t482, A2, H⟩ := bs_ H
 by_cases c3 : t482 = true
 ·subst c3
  rw [if_pos rfl] at H
  obtain ⟨t483, A4, H⟩ := bs_ H
  simp only [Option.some.injEq, Prod.mk.injEq] at H
  obtain ⟨rfl, rfl⟩ := H
  go_enter Tryz.func8, Tryz.ntmps8
  go_wp2_with (first | ((with_reducible refine gate_dst (N := 1) rfl ?_); refine bx_ (N := 1) (cs := #[.slice A0_0 l0_0.length c0_0, .int .i64 a0_1, .bool a0_2]) (t := 26) ?_; intro gb481 hg w5 hbox hb; have BK481 := a0_ (hbox); have GW481 := a0_ ((sz_ hg (bl0_) : w.heap.size ≤ gb481)); have GE481 := a0_ ((sz_ hg (bl0_) : w.heap.size ≤ gb481)); replace HB := a0_ (below_step (bl0_) hb); clear hb hbox hg; obtain ⟨hcz6_0, hcz6_1, hcz6_2, hfz6_0, hfz6_1, hfz6_2⟩ := bc3_ BK481.out) | ((with_reducible refine gate_callee (f := 12) rfl ?_); refine goesL_ (some 5) rfl rfl Tryz.func12 kr_ rfl #[.agg #[.slice A0_0 l0_0.length c0_0, .int .i64 a0_1, .bool a0_2]] rfl ta_ ?_; (with_reducible refine (impl_IsPiece.calls k _ _ l0_0 a0_1 a0_2 true _ ?side1 ?side2 A2.out).mono ?_); (case side1 => exact ca_ (Kd.C_below HR0_0.out HB.out)); (case side2 => exact HC0_0.out); rintro e w7 ⟨rfl, hb⟩; refine ⟨_, rfl, ?_⟩; replace BK481 := a0_ (bb_ BK481.out hb); replace HB := a0_ (below_step (bl1_ GE481.out) hb); (try clear hb); (try clear hb2); (try clear hk); (try clear hi); obtain ⟨hcz8_0, hcz8_1, hcz8_2, hfz8_0, hfz8_1, hfz8_2⟩ := bc3_ BK481.out) | ((with_reducible refine gate_callee (f := 21) rfl ?_); refine goesL_ (some 8) rfl rfl Tryz.func21 kr_ rfl #[.agg #[.slice A0_0 l0_0.length c0_0, .int .i64 a0_1, .bool a0_2]] rfl ta_ ?_; (with_reducible refine (impl_formsOf.calls k _ _ l0_0 a0_1 a0_2 t483 _ ?side1 ?side2 A4.out).mono ?_); (case side1 => exact ca_ (Kd.C_below HR0_0.out HB.out)); (case side2 => exact HC0_0.out); rintro e w9 ⟨v484, rfl, ho0, hb⟩; refine ⟨_, rfl, ?_⟩; have HO485 := a0_ (Kd.V_lower (Kd.V_mono (ok' := fun k_ => (w.heap.size ≤ k_) ∧ k_ ≠ gb481) ho0 (fun k_ hk_ => ⟨(Nat.le_trans (below_size (bl1_ GE481.out)) hk_), (Kd.freshB (g := gb481) (o := .cells #[.slice A0_0 l0_0.length c0_0, .int .i64 a0_1, .bool a0_2] 26 (0, 0)) (bk_ BK481.out) k_ hk_)⟩)) (below_size (bl1_ GE481.out))); replace BK481 := a0_ (bb_ BK481.out hb); replace HB := a0_ (below_step (bl1_ GE481.out) hb); (try clear hb); (try clear hb2); (try clear hk); (try clear hi); (try clear ho0)))
  go_ret2
  exact ⟨_, er_, by (with_reducible repeat (first | apply Kd.V_alloc | apply Kd.V_drewN | apply Kd.V_drew)); exact Kd.V_mono HO485.out (fun _ hk => hk.1), bl1_ GE481.out⟩
 ·replace c3 := Bool.eq_false_iff.mpr c3
  subst c3
  rw [if_neg (show ¬ (false = true) by decide)] at H
  simp only [Option.some.injEq, Prod.mk.injEq] at H
  obtain ⟨rfl, rfl⟩ := H
  go_enter Tryz.func8, Tryz.ntmps8
  go_wp2_with (first | ((with_reducible refine gate_dst (N := 1) rfl ?_); refine bx_ (N := 1) (cs := #[.slice A0_0 l0_0.length c0_0, .int .i64 a0_1, .bool a0_2]) (t := 26) ?_; intro gb481 hg w10 hbox hb; have BK481 := a0_ (hbox); have GW481 := a0_ ((sz_ hg (bl0_) : w.heap.size ≤ gb481)); have GE481 := a0_ ((sz_ hg (bl0_) : w.heap.size ≤ gb481)); replace HB := a0_ (below_step (bl0_) hb); clear hb hbox hg; obtain ⟨hcz11_0, hcz11_1, hcz11_2, hfz11_0, hfz11_1, hfz11_2⟩ := bc3_ BK481.out) | ((with_reducible refine gate_callee (f := 12) rfl ?_); refine goesL_ (some 5) rfl rfl Tryz.func12 kr_ rfl #[.agg #[.slice A0_0 l0_0.length c0_0, .int .i64 a0_1, .bool a0_2]] rfl ta_ ?_; (with_reducible refine (impl_IsPiece.calls k _ _ l0_0 a0_1 a0_2 false _ ?side1 ?side2 A2.out).mono ?_); (case side1 => exact ca_ (Kd.C_below HR0_0.out HB.out)); (case side2 => exact HC0_0.out); rintro e w12 ⟨rfl, hb⟩; refine ⟨_, rfl, ?_⟩; replace BK481 := a0_ (bb_ BK481.out hb); replace HB := a0_ (below_step (bl1_ GE481.out) hb); (try clear hb); (try clear hb2); (try clear hk); (try clear hi)))
  go_ret2
  exact ⟨_, er_, Kd.S_V (Kd.S_nil _ _ _ 0 _), bl1_ GE481.out⟩

end Go.Proofs.YtaaodakmelihaaaGreat.PFnPieces
