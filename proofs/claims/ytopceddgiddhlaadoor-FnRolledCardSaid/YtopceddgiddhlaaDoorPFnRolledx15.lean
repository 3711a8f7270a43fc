/- Over the kit's printer by a driver of mine (hprint.py), with parts by hand: functions of the program as Lean functions, and that each call comes to exactly these answers. -/
import Derived.Test.YtopceddgiddhlaaDoorPFnRolledx0
import Derived.Test.YtopceddgiddhlaaDoorPFnRolledx3
import Derived.Test.YtopceddgiddhlaaDoorPFnRolledx4
import Derived.Test.YtopceddgiddhlaaDoorPFnRolledx6
import Derived.Test.YtopceddgiddhlaaDoorPFnRolledx14
namespace Go.Proofs.YtopceddgiddhlaaDoor.PFnRolled
open Go.RowKit Go.Proofs.YtopceddgiddhlaaDoorW.PrintWords Go.Proofs.YtopceddgiddhlaaDoorW.PrintLast Go.Proofs.YtopceddgiddhlaaDoorW.PrintMore
attribute [local go_sem] max2_int min2_int max_two min_two max_three min_three max_four min_four   -- for this text's walks alone
set_option linter.unusedVariables false
set_option linter.unusedSimpArgs false

/-! ### spec_l02Draw: function 33 -/
def spec_l02Draw.l0 : Nat → List (S78) → Int → List Int → Int → Int → Option ((List (S78)) × Int × Int)
 | 0, _, _, _, _, _ => none
 | k + 1, x5, x6, x1000, x1001, x1002 => (spec_l01Next.f x1000 x1001 x1002 2).bind fun bt430 => (if x6 < (wrap64 (40 + bt430.1)) then (if x5.length < 8796093022208 then (spec_l02Draw.l0 k (x5 ++ [(⟨x6, 0⟩ : S78)]) (wrap64 (x6 + 1)) x1000 bt430.2.1 bt430.2.2) else (none)) else (some (x5, bt430.2.1, bt430.2.2)))
def spec_l02Draw.f (k : Nat) (s0_0 : List Int) (s0_1 : Int) (s0_2 : Int) : Option ((List (S78)) × Int × Int) := (spec_l02DrawPoly.f k s0_0 s0_1 s0_2 8).bind fun bt392 => ((spec_l01Next.f s0_0 bt392.2.1 bt392.2.2 9).bind fun bt397 => ((spec_l01Next.f s0_0 bt397.2.1 bt397.2.2 9).bind fun bt400 => ((spec_l02Move.f k bt392.1 (wrap64 (bt397.1 - 4)) (wrap64 (bt400.1 - 4))).bind fun t403 => ((spec_l01Next.f s0_0 bt400.2.1 bt400.2.2 (t403.length : Int)).bind fun bt406 => ((spec_l01Next.f s0_0 bt406.2.1 bt406.2.2 24).bind fun bt409 => (if bt409.1 = 0 then ((some (([(-100), 100, 101] : List Int) : List Int)).bind fun y412 => ((spec_l01Next.f s0_0 bt409.2.1 bt409.2.2 3).bind fun bt415 => (if 0 ≤ bt415.1 then (if bt415.1 < (y412.length : Int) then (if 0 ≤ bt406.1 then (if bt406.1 < (t403.length : Int) then ((spec_l02Sort.f k (t403.set (bt406.1 : Int).toNat (⟨rd y412 bt415.1, (rd_T78 t403 bt406.1).f1⟩ : S78))).bind fun t420 => (some (t420, bt415.2.1, bt415.2.2))) else (none)) else (none)) else (none)) else (none)))) else (if bt409.1 = 1 then (if 0 ≤ bt406.1 then (if bt406.1 < (t403.length : Int) then (if t403.length < 8796093022208 then (some ((t403 ++ [(⟨(rd_T78 t403 bt406.1).f0, (rd_T78 t403 bt406.1).f1⟩ : S78)]), bt409.2.1, bt409.2.2)) else (none)) else (none)) else (none)) else (if bt409.1 = 2 then (some (([] : List (S78)), bt409.2.1, bt409.2.2)) else (if bt409.1 = 3 then (spec_l02Draw.l0 k (([] : List (S78))) 0 s0_0 bt409.2.1 bt409.2.2) else (if bt409.1 = 4 then (if 0 < (t403.length : Int) then (if 0 ≤ (wrap64 ((t403.length : Int) - 1)) then (if (wrap64 ((t403.length : Int) - 1)) < (t403.length : Int) then (if t403.length < 8796093022208 then (some ((t403 ++ [(⟨wrap64 (((rd_T78 t403 0).f0) + 3), wrap64 (((rd_T78 t403 (wrap64 ((t403.length : Int) - 1))).f1) + 2)⟩ : S78)]), bt409.2.1, bt409.2.2)) else (none)) else (none)) else (none)) else (none)) else (if bt409.1 = 5 then (if 0 < (t403.length : Int) then (if 0 ≤ (wrap64 ((t403.length : Int) - 1)) then (if (wrap64 ((t403.length : Int) - 1)) < (t403.length : Int) then (if t403.length < 8796093022208 then (some ((t403 ++ [(⟨wrap64 (((rd_T78 t403 0).f0) + 3), wrap64 (((rd_T78 t403 (wrap64 ((t403.length : Int) - 1))).f1) + 2)⟩ : S78)]), bt409.2.1, bt409.2.2)) else (none)) else (none)) else (none)) else (none)) else (some (t403, bt409.2.1, bt409.2.2)))))))))))))
theorem spec_l02Draw.mono_l : ∀ k, (∀ y0 y1 y2 y3 y4, LeO (spec_l02Draw.l0 k y0 y1 y2 y3 y4) (spec_l02Draw.l0 (k + 1) y0 y1 y2 y3 y4))
 | 0 => fun _ _ _ _ _ r h => by simp [spec_l02Draw.l0] at h
 | k + 1 => by
  have ih0 := spec_l02Draw.mono_l k
  ·intro y0 y1 y2 y3 y4
   unfold spec_l02Draw.l0
   with_reducible (repeat' first | exact ih0 _ _ _ _ _ | exact spec_l02DrawPoly.mono _ _ _ _ _ | exact spec_l02Move.mono _ _ _ _ | exact spec_l02Sort.mono _ _ | exact LeO.refl _ | exact LeO.none _ | refine LeO.ite ?_ ?_ | refine LeO.bind ?_ (fun _ => ?_))
theorem spec_l02Draw.mono : ∀ a0 a1 a2 k, LeO (spec_l02Draw.f k a0 a1 a2) (spec_l02Draw.f (k + 1) a0 a1 a2) := by
 intro a0 a1 a2 k
 have ih0 := spec_l02Draw.mono_l k
 unfold spec_l02Draw.f
 with_reducible (repeat' first | exact ih0 _ _ _ _ _ | exact spec_l02DrawPoly.mono _ _ _ _ _ | exact spec_l02Move.mono _ _ _ _ | exact spec_l02Sort.mono _ _ | exact LeO.refl _ | exact LeO.none _ | refine LeO.ite ?_ ?_ | refine LeO.bind ?_ (fun _ => ?_))
def spec_l02Draw.T20 : Bool × List (List Nat × List Nat) := (true, [([], []), ([], []), ([1], [1]), ([2], [2]), ([3], [3]), ([4], [4]), ([], []), ([], []), ([7], [7]), ([8], [8]), ([6, 9], [6, 9]), ([10], [10]), ([11], [11]), ([12], [12]), ([5, 13], [5, 13]), ([14], [14]), ([0, 15], [0, 15]), ([16, 16, 0, 1, 2, 3, 4, 5, 6, 7, 8, 9, 10, 11, 12, 13, 14, 15, 16], [16])])
def spec_l02Draw.B20 : List Nat := [0, 0, 2, 6, 14, 30, 0, 0, 128, 384, 960, 1984, 4032, 8128, 16382, 32766, 65535, 131071]
theorem spec_l02Draw.tab20 : rtab .any (opsOf Tryd.f33 20) = spec_l02Draw.T20 := by kernel_rfl
theorem spec_l02Draw.bits20 : waitsOk spec_l02Draw.T20.2 spec_l02Draw.B20 = true := by kernel_rfl
set_option maxHeartbeats 8000000 in
set_option maxRecDepth 100000 in
theorem spec_l02Draw.calls (k : Nat) (g : Nat) (s0_0 : List Int) (s0_1 : Int) (s0_2 : Int) (r1 : List (S78)) (r2 : Int) (r3 : Int) (w0 w : World) (hI : IsS81 w0 w g s0_0 s0_1 s0_2) (hB : Below w0.heap.size w0 w) (h : spec_l02Draw.f k s0_0 s0_1 s0_2 = some (r1, r2, r3)) :
  Calls Tryd.prog 33 #[.pointer (some ⟨g, 0, none⟩)] w fun e w' => ∃ v0_ : Value, e = .returned (v0_) ∧ Kd.R k78 78 w' w.heap.size (fun _ => True) v0_ r1 ∧ IsS81 w0 w' g s0_0 r2 r3 ∧ Below w0.heap.size w0 w' ∧ KeepBut w w' g none := by
 have hu78 := Tryd.underlying78
 have HI0 := Aside0.mk hI
 have HK := a0_ (KeepBut.refl w g none)
 have HL := Aside0.mk hB.size
 clear hI
 have HW0 := Aside0.mk hB.size
 have HB := Aside0.mk hB
 clear hB
 have H := h
 clear h
 unfold spec_l02Draw.f at H
 obtain ⟨⟨t392, t395, t396⟩, A2, H⟩ := bs_ H
 dsimp only at H
 obtain ⟨⟨t397, t398, t399⟩, A3, H⟩ := bs_ H
 dsimp only at H
 obtain ⟨⟨t400, t401, t402⟩, A4, H⟩ := bs_ H
 dsimp only at H
 obtain ⟨t403, A5, H⟩ := bs_ H
 obtain ⟨⟨t406, t407, t408⟩, A6, H⟩ := bs_ H
 dsimp only at H
 obtain ⟨⟨t409, t410, t411⟩, A7, H⟩ := bs_ H
 dsimp only at H
 by_cases c8 : t409 = 0
 ·rw [if_pos c8] at H
  have c8b0 : (t409 == 0) = true := beq_iff_eq.mpr c8
  have c8b1 : (t409 != 0) = false := bne_eq_false_iff_eq.mpr c8
  clear c8
  obtain ⟨y412, hy412⟩ : ∃ y_ : List Int, y_ = (([(-100), 100, 101] : List Int)) := ⟨_, rfl⟩
  replace H : ((spec_l01Next.f s0_0 t410 t411 3).bind fun bt415 => (if 0 ≤ bt415.1 then (if bt415.1 < (y412.length : Int) then (if 0 ≤ t406 then (if t406 < (t403.length : Int) then ((spec_l02Sort.f k (t403.set (t406 : Int).toNat (⟨rd y412 bt415.1, (rd_T78 t403 t406).f1⟩ : S78))).bind fun t420 => (some (t420, bt415.2.1, bt415.2.2))) else (none)) else (none)) else (none)) else (none))) = some (r1, r2, r3) := hh_ hy412 H
  have Ny412 := Aside0.mk hy412
  clear hy412
  obtain ⟨⟨t415, t416, t417⟩, A9, H⟩ := bs_ H
  dsimp only at H
  by_cases c10 : 0 ≤ t415
  ·rw [if_pos c10] at H
   have c10b0 : decide (0 ≤ t415) = true := decide_eq_true c10
   clear c10
   by_cases c11 : t415 < (y412.length : Int)
   ·rw [if_pos c11] at H
    have c11b0 : decide (t415 < (y412.length : Int)) = true := decide_eq_true c11
    clear c11
    by_cases c12 : 0 ≤ t406
    ·rw [if_pos c12] at H
     have c12b0 : decide (0 ≤ t406) = true := decide_eq_true c12
     clear c12
     by_cases c13 : t406 < (t403.length : Int)
     ·rw [if_pos c13] at H
      have c13b0 : decide (t406 < (t403.length : Int)) = true := decide_eq_true c13
      clear c13
      obtain ⟨y419, hy419⟩ : ∃ y_ : List (S78), y_ = (t403.set (t406 : Int).toNat (⟨rd y412 t415, (rd_T78 t403 t406).f1⟩ : S78)) := ⟨_, rfl⟩
      replace H : ((spec_l02Sort.f k y419).bind fun t420 => (some (t420, t416, t417))) = some (r1, r2, r3) := hh_ hy419 H
      have Ny419 := Aside0.mk hy419
      clear hy419
      obtain ⟨t420, A15, H⟩ := bs_ H
      simp only [Option.some.injEq, Prod.mk.injEq] at H
      obtain ⟨rfl, rfl, rfl⟩ := H
      go_enter Tryd.func33, Tryd.ntmps33
      go_wp2_with (first | ((with_reducible refine gate_callee (f := 62) rfl ?_); refine goesL_ (some 8) rfl rfl Tryd.func62 kr_ rfl #[.pointer (some ⟨g, 0, none⟩), .int .i64 8] rfl ta_ ?_; (with_reducible refine (spec_l02DrawPoly.calls k g s0_0 s0_1 s0_2 8 t392 t395 t396 w0 _ ?side1 ?side2 A2.out).mono ?_); (case side1 => exact is81_ HI0.out); (case side2 => exact bl1_ (IsS81.ge HI0.out)); rintro e w16 ⟨v393, rfl, ho0, hi, hb, hk⟩; refine ⟨_, rfl, ?_⟩; have HO394 := a0_ (Kd.R_lower ho0 (keep_size (w := w) (g := g) (row := none) (kb0_))); replace HK := a0_ (KeepBut.trans (kb0_) hk (.inl rfl)); replace HB := a0_ (hb); replace HI0 := a0_ (hi); (try clear hb); (try clear hb2); (try clear hk); (try clear hi); (try clear ho0)) | ((with_reducible refine gate_callee (f := 58) rfl ?_); refine goesL_ (some 10) rfl rfl Tryd.func58 kr_ rfl #[.pointer (some ⟨g, 0, none⟩), .int .i64 9] rfl ta_ ?_; (with_reducible refine (spec_l01Next.calls g s0_0 t395 t396 9 t397 t398 t399 w0 _ ?side1 ?side2 A3.out).mono ?_); (case side1 => exact is81_ HI0.out); (case side2 => exact bl1_ (IsS81.ge HI0.out)); rintro e w17 ⟨rfl, hi, hb, hk⟩; refine ⟨_, rfl, ?_⟩; replace HO394 := a0_ (Kd.R_mono (Kd.R_keep (IsS81.apart (show IsS81 w0 _ g s0_0 t395 t396 from is81_ HI0.out) (ra_ HO394.out) (by decide)) hk (fun _ h => h.2)) (fun _ h => h.1)); replace HK := a0_ (KeepBut.trans (kb0_) hk (.inl rfl)); replace HB := a0_ (hb); replace HI0 := a0_ (hi); (try clear hb); (try clear hb2); (try clear hk); (try clear hi)) | ((with_reducible refine gate_callee (f := 58) rfl ?_); refine goesL_ (some 13) rfl rfl Tryd.func58 kr_ rfl #[.pointer (some ⟨g, 0, none⟩), .int .i64 9] rfl ta_ ?_; (with_reducible refine (spec_l01Next.calls g s0_0 t398 t399 9 t400 t401 t402 w0 _ ?side1 ?side2 A4.out).mono ?_); (case side1 => exact is81_ HI0.out); (case side2 => exact bl1_ (IsS81.ge HI0.out)); rintro e w18 ⟨rfl, hi, hb, hk⟩; refine ⟨_, rfl, ?_⟩; replace HO394 := a0_ (Kd.R_mono (Kd.R_keep (IsS81.apart (show IsS81 w0 _ g s0_0 t398 t399 from is81_ HI0.out) (ra_ HO394.out) (by decide)) hk (fun _ h => h.2)) (fun _ h => h.1)); replace HK := a0_ (KeepBut.trans (kb0_) hk (.inl rfl)); replace HB := a0_ (hb); replace HI0 := a0_ (hi); (try clear hb); (try clear hb2); (try clear hk); (try clear hi); obtain ⟨Ao19, co19, eo19⟩ := Kd.R_slice HO394.out; subst eo19) | ((with_reducible refine gate_callee (f := 61) rfl ?_); refine goesL_ (some 15) rfl rfl Tryd.func61 kr_ rfl #[.slice Ao19 t392.length co19, .int .i64 (wrap64 (t397 - 4)), .int .i64 (wrap64 (t400 - 4))] rfl ta_ ?_; (with_reducible refine (spec_l02Move.calls k _ _ t392 (wrap64 (t397 - 4)) (wrap64 (t400 - 4)) t403 _ ?side1 ?side2 A5.out).mono ?_); (case side1 => exact ca_ (Kd.R_reads' HO394.out).2.2); (case side2 => exact (Kd.R_reads' HO394.out).2.1); rintro e w20 ⟨v404, rfl, ho0, hb⟩; refine ⟨_, rfl, ?_⟩; have HO405 := a0_ (Kd.R_lower (Kd.R_new' ho0 (Kd.R_lt (ra_ HO394.out))) (keep_size (w := w) (g := g) (row := none) (kb0_))); replace HO394 := a0_ (Kd.R_elder' (ra_ HO394.out) (Kd.R_base ho0) hb); replace HK := a0_ (KeepBut.trans (kb0_) (KeepBut.of_below hb g none) (.inl rfl)); replace HB := a0_ (below_step (bl1_ (IsS81.ge HI0.out)) hb); replace HI0 := a0_ (IsS81.below (is81_ HI0.out) hb); (try clear hb); (try clear hb2); (try clear hk); (try clear hi); (try clear ho0); obtain ⟨Ao21, co21, eo21⟩ := Kd.R_slice HO405.out; subst eo21) | ((with_reducible refine gate_callee (f := 58) rfl ?_); refine goesL_ (some 19) rfl rfl Tryd.func58 kr_ rfl #[.pointer (some ⟨g, 0, none⟩), .int .i64 (t403.length : Int)] rfl ta_ ?_; (with_reducible refine (spec_l01Next.calls g s0_0 t401 t402 (t403.length : Int) t406 t407 t408 w0 _ ?side1 ?side2 A6.out).mono ?_); (case side1 => exact is81_ HI0.out); (case side2 => exact bl1_ (IsS81.ge HI0.out)); rintro e w22 ⟨rfl, hi, hb, hk⟩; refine ⟨_, rfl, ?_⟩; replace HO394 := a0_ (Kd.R_mono (Kd.R_keep (IsS81.apart (show IsS81 w0 _ g s0_0 t401 t402 from is81_ HI0.out) (ra_ HO394.out) (by decide)) hk (fun _ h => h.2)) (fun _ h => h.1)); replace HO405 := a0_ (Kd.R_mono (Kd.R_keep (IsS81.apart (show IsS81 w0 _ g s0_0 t401 t402 from is81_ HI0.out) (ra_ HO405.out) (by decide)) hk (fun _ h => h.2)) (fun _ h => h.1)); replace HK := a0_ (KeepBut.trans (kb0_) hk (.inl rfl)); replace HB := a0_ (hb); replace HI0 := a0_ (hi); (try clear hb); (try clear hb2); (try clear hk); (try clear hi)) | ((with_reducible refine gate_callee (f := 58) rfl ?_); refine goesL_ (some 21) rfl rfl Tryd.func58 kr_ rfl #[.pointer (some ⟨g, 0, none⟩), .int .i64 24] rfl ta_ ?_; (with_reducible refine (spec_l01Next.calls g s0_0 t407 t408 24 t409 t410 t411 w0 _ ?side1 ?side2 A7.out).mono ?_); (case side1 => exact is81_ HI0.out); (case side2 => exact bl1_ (IsS81.ge HI0.out)); rintro e w23 ⟨rfl, hi, hb, hk⟩; refine ⟨_, rfl, ?_⟩; replace HO394 := a0_ (Kd.R_mono (Kd.R_keep (IsS81.apart (show IsS81 w0 _ g s0_0 t407 t408 from is81_ HI0.out) (ra_ HO394.out) (by decide)) hk (fun _ h => h.2)) (fun _ h => h.1)); replace HO405 := a0_ (Kd.R_mono (Kd.R_keep (IsS81.apart (show IsS81 w0 _ g s0_0 t407 t408 from is81_ HI0.out) (ra_ HO405.out) (by decide)) hk (fun _ h => h.2)) (fun _ h => h.1)); replace HK := a0_ (KeepBut.trans (kb0_) hk (.inl rfl)); replace HB := a0_ (hb); replace HI0 := a0_ (hi); (try clear hb); (try clear hb2); (try clear hk); (try clear hi)) | ((with_reducible refine gate_dst (N := 26) rfl ?_); refine Kd.R_lit (Kd.int .i64) _ 2 ?hg (N := 26) ?hd (xs := ([(-100), 100, 101] : List Int)) (inner := [.int .i64 (-100), .int .i64 100, .int .i64 101]) (ok := fun _ => True) (okp := fun _ => True) ?hr ?hp (fun _ hk => hk) trivial (Below.refl _ _) (Nat.le_refl _) (by simp) ?_; (case hd => rfl); (case hg => rfl); (case hr => first | (go_simp; done) | (go_simp; rfl)); (case hp => exact (Reps.one (show Kd.M (Kd.int .i64) _ _ _ (-100) [.int .i64 (-100)] from rfl) (Reps.one (show Kd.M (Kd.int .i64) _ _ _ 100 [.int .i64 100] from rfl) (Reps.one (show Kd.M (Kd.int .i64) _ _ _ 101 [.int .i64 101] from rfl) (Reps.none _ _))))); intro v413 w24 ho25 hb hg_ hnew_; clear hg_ hnew_; (first | rw [← Ny412.out] at ho25 | (simp only [Int.reduceToNat] at ho25; rw [← Ny412.out] at ho25)); replace HO394 := a0_ (Kd.R_below (ra_ HO394.out) hb); replace HO405 := a0_ (Kd.R_below (ra_ HO405.out) hb); have HO414 := a0_ (Kd.R_lower ho25 (keep_size (w := w) (g := g) (row := none) (kb0_))); replace HK := a0_ (KeepBut.trans (kb0_) (KeepBut.of_below hb g none) (.inl rfl)); replace HB := a0_ (below_step (bl1_ (IsS81.ge HI0.out)) hb); replace HI0 := a0_ (IsS81.below (is81_ HI0.out) hb); clear hb ho25) | ((with_reducible refine gate_callee (f := 58) rfl ?_); refine goesL_ (some 28) rfl rfl Tryd.func58 kr_ rfl #[.pointer (some ⟨g, 0, none⟩), .int .i64 3] rfl ta_ ?_; (with_reducible refine (spec_l01Next.calls g s0_0 t410 t411 3 t415 t416 t417 w0 _ ?side1 ?side2 A9.out).mono ?_); (case side1 => exact is81_ HI0.out); (case side2 => exact bl1_ (IsS81.ge HI0.out)); rintro e w26 ⟨rfl, hi, hb, hk⟩; refine ⟨_, rfl, ?_⟩; replace HO394 := a0_ (Kd.R_mono (Kd.R_keep (IsS81.apart (show IsS81 w0 _ g s0_0 t410 t411 from is81_ HI0.out) (ra_ HO394.out) (by decide)) hk (fun _ h => h.2)) (fun _ h => h.1)); replace HO405 := a0_ (Kd.R_mono (Kd.R_keep (IsS81.apart (show IsS81 w0 _ g s0_0 t410 t411 from is81_ HI0.out) (ra_ HO405.out) (by decide)) hk (fun _ h => h.2)) (fun _ h => h.1)); replace HO414 := a0_ (Kd.R_mono (Kd.R_keep (IsS81.apart (show IsS81 w0 _ g s0_0 t410 t411 from is81_ HI0.out) (ra_ HO414.out) (by decide)) hk (fun _ h => h.2)) (fun _ h => h.1)); replace HK := a0_ (KeepBut.trans (kb0_) hk (.inl rfl)); replace HB := a0_ (hb); replace HI0 := a0_ (hi); (try clear hb); (try clear hb2); (try clear hk); (try clear hi); obtain ⟨Ao27, co27, eo27⟩ := Kd.R_slice HO414.out; subst eo27; have p418 : 0 ≤ (t415 : Int) := od_; have q418 : t415 < (y412.length : Int) := od_; obtain ⟨ad418, e418, hx418_0⟩ := Kd.at_int (Kd.R_reads' HO414.out).2.2 t415 p418 q418; cases e418; replace p418 := eq_true p418; replace q418 := eq_true q418; have p14 : 0 ≤ (t406 : Int) := od_; have q14 : (t406 : Int) < ((t403.length : Int) : Int) := od_; obtain ⟨go14, co14, eo14, gb14, gl14, cl14, HG14⟩ := Kd.R_form HO405.out (by omega); (first | cases eo14 | (injection eo14 with ea_ en_ ec_; (first | subst ea_ | (injection ea_ with ea_; subst ea_)); subst ec_; clear en_)); have GB14 := Aside0.mk gb14; have GG14 := Aside0.mk HG14; clear gb14 gl14 HG14; obtain ⟨ce14, hcl14, hM14, hcc14, hfr14⟩ := Kd.R_elem HO405.out z78 (t406 : Int) p14 q14; obtain rfl := k78_openM hM14; have hx14_0 : w26.cell? ⟨go14, (t406 : Int).toNat * 2, none⟩ = some (.int .i64 ((rd_T78 t403 t406).f0)) := hcc14 0 _ rfl; have hx14_1 : w26.cell? ⟨go14, (t406 : Int).toNat * 2 + 1, none⟩ = some (.int .i64 ((rd_T78 t403 t406).f1)) := hcc14 1 _ rfl; have hf14_0 : w26.frozen? ⟨go14, (t406 : Int).toNat * 2, none⟩ = false := hfr14 0; have hf14_1 : w26.frozen? ⟨go14, (t406 : Int).toNat * 2 + 1, none⟩ = false := hfr14 1; clear hcl14 hcc14 hfr14 hM14; replace p14 := eq_true p14; replace q14 := eq_true q14; have n_ := a0_ (Kd.R_mono (ok' := (fun k_ => some k_ ≠ (.slice Ao19 t392.length co19 : Value).ownBlock)) HO405.out (fun k_ hk => hk.2)); clear HO405; have HO405 := n_; clear n_; have HX28 := a0_ (show Kd.R k78 78 w26 w.heap.size (fun k_ => some k_ ≠ (.slice Ao19 t392.length co19 : Value).ownBlock) (.slice (some ⟨go14, 0, none⟩) t403.length co21) t403 from (ra_ HO405.out)); obtain ⟨ce28, hcl28, hM28, hcc28, hfr28⟩ := Kd.R_elem HX28.out z78 (t406 : Int) (od_) (by have h_ : (t406 : Int) < ((t403.length : Int) : Int) := od_; first | exact h_ | (have e_ := (Kd.R_reads' HO405.out).1; omega) | simpa using h_); obtain rfl := k78_openM hM28; have HP28 := Kd.R_seg HX28.out (t406 : Int) (od_) (by have h_ : (t406 : Int) < ((t403.length : Int) : Int) := od_; first | exact h_ | (have e_ := (Kd.R_reads' HO405.out).1; omega) | simpa using h_) (seg := [.int .i64 (rd y412 t415)]) (j := 0) hcl28 hcc28 (show 1 ≤ 2 from by decide) (x' := (⟨rd y412 t415, (rd_T78 t403 t406).f1⟩ : S78)) (k78_mkM _ _ _ (⟨rd y412 t415, (rd_T78 t403 t406).f1⟩ : S78) ) (fun _ hk => hk); have hx28_0 := hcc28 0 _ rfl; (try simp only [show (k78).sz = 2 from rfl, Nat.mul_one, Nat.add_zero] at hx28_0); have hf28_0 := hfr28 0; (try simp only [show (k78).sz = 2 from rfl, Nat.mul_one, Nat.add_zero] at hf28_0); clear hcl28 hcc28 hfr28 hM28) | ((with_reducible refine gate_store (t := 2) (p := 32) rfl ?_); refine store_event (t := 2) (p := 32) (v := ?vo_w29) (w1 := (w26.setCell ⟨go14, (t406 : Int).toNat * 2, none⟩ (.int .i64 (rd y412 t415)))) ?hg ?ho ?hn ?hr ?_; (case ho => rfl); (case hg => rfl); (case hn => rfl); (case hr => first | (go_simp; done) | (go_simp; rfl)); intro w29 hw; have hg : w26.grownBy w29 (some go14) := (by rw [hw]; exact HP28.2); have hp_ : Kd.R k78 78 w29 w.heap.size (fun k_ => some k_ ≠ (.slice Ao19 t392.length co19 : Value).ownBlock) (.slice (some ⟨go14, 0, none⟩) t403.length co21) y419 := (by rw [hw, Ny419.out]; exact HP28.1); clear HP28; replace HI0 := a0_ (IsS81.grown (is81_ HI0.out) hg (IsS81.own_ne HI0.out HO405.out (by decide))); replace HO394 := a0_ (Kd.R_after (v := (.slice (some ⟨go14, 0, none⟩) t403.length co21)) (v1 := (.slice (some ⟨go14, 0, none⟩) t403.length co21)) (ok := (fun _ => True)) (ra_ HO394.out) hg (.inl rfl)); replace HO414 := a0_ (Kd.R_over' (v := (.slice (some ⟨go14, 0, none⟩) t403.length co21)) (ra_ HO414.out) (Kd.R_typed HO405.out) (by decide) hg); replace HB := a0_ ((by rw [hw]; exact below_set (HB.out) (Nat.le_trans HL.out GB14.out) : Below w0.heap.size w0 w29)); replace HK := a0_ (KeepBut.trans (kb0_) (KeepBut.of_grown hg g) (Kd.R_base2 HO405.out)); replace HO405 := a0_ (hp_); clear hg hw hp_) | ((with_reducible refine gate_callee (f := 63) rfl ?_); refine goesL_ (some 34) rfl rfl Tryd.func63 kr_ rfl #[.slice (some ⟨go14, 0, none⟩) y419.length co21] rfl (by (try simp only [List.map_toArray, List.map_cons, List.map_nil]); first | done | (rw [show y419.length = t403.length from (Kd.R_reads' HO405.out).1.symm] <;> rfl) | rfl | (simp only [List.length_drop, List.length_take]; rfl)) ?_; (with_reducible refine (spec_l02Sort.calls k _ _ y419 t420 _ ?side1 ?side2 A15.out).mono ?_); (case side1 => exact ca_ (Kd.R_reads' HO405.out).2.2); (case side2 => rw [show y419.length = t403.length from (Kd.R_reads' HO405.out).1.symm]; exact (Kd.R_reads' HO405.out).2.1); rintro e w30 ⟨v421, rfl, ho0, hb⟩; refine ⟨_, rfl, ?_⟩; replace HO414 := a0_ (Kd.R_below (ra_ HO414.out) hb); have HO422 := a0_ (Kd.R_lower (Kd.R_new' (Kd.R_new' ho0 (Kd.R_lt (ra_ HO394.out))) (Kd.R_lt (ra_ HO405.out))) (keep_size (w := w) (g := g) (row := none) (kb0_))); replace HO394 := a0_ (Kd.R_elder' (ra_ HO394.out) (Kd.R_base ho0) hb); replace HO405 := a0_ (Kd.R_elder' (ra_ HO405.out) (Kd.R_base ho0) hb); replace HK := a0_ (KeepBut.trans (kb0_) (KeepBut.of_below hb g none) (.inl rfl)); replace HB := a0_ (below_step (bl1_ (IsS81.ge HI0.out)) hb); replace HI0 := a0_ (IsS81.below (is81_ HI0.out) hb); (try clear hb); (try clear hb2); (try clear hk); (try clear hi); (try clear ho0)))
      go_ret
      exact ⟨_, er_, by (with_reducible repeat (first | apply Kd.R_alloc | apply Kd.R_drewN | apply Kd.R_drew)); exact Kd.R_mono HO422.out (fun _ hk => trivial), is81_ HI0.out, bl1_ (IsS81.ge HI0.out), kb0_⟩
     ·rw [if_neg c13] at H
      exact absurd H (by simp)
    ·rw [if_neg c12] at H
     exact absurd H (by simp)
   ·rw [if_neg c11] at H
    exact absurd H (by simp)
  ·rw [if_neg c10] at H
   exact absurd H (by simp)
 ·rw [if_neg c8] at H
  have c8b0 : (t409 == 0) = false := beq_eq_false_iff_ne.mpr c8
  have c8b1 : (t409 != 0) = true := bne_iff_ne.mpr c8
  by_cases c31 : t409 = 1
  ·rw [if_pos c31] at H
   have c31b0 : (t409 == 1) = true := beq_iff_eq.mpr c31
   have c31b1 : (t409 != 1) = false := bne_eq_false_iff_eq.mpr c31
   clear c31
   by_cases c32 : 0 ≤ t406
   ·rw [if_pos c32] at H
    have c32b0 : decide (0 ≤ t406) = true := decide_eq_true c32
    clear c32
    by_cases c33 : t406 < (t403.length : Int)
    ·rw [if_pos c33] at H
     have c33b0 : decide (t406 < (t403.length : Int)) = true := decide_eq_true c33
     clear c33
     by_cases c34 : t403.length < 8796093022208
     ·rw [if_pos c34] at H
      have LMc34 := Aside0.mk c34
      clear c34
      obtain ⟨y424, hy424⟩ : ∃ y_ : List (S78), y_ = (t403 ++ [(⟨(rd_T78 t403 t406).f0, (rd_T78 t403 t406).f1⟩ : S78)]) := ⟨_, rfl⟩
      replace H : (some (y424, t410, t411)) = some (r1, r2, r3) := hh_ hy424 H
      have Ny424 := Aside0.mk hy424
      clear hy424
      simp only [Option.some.injEq, Prod.mk.injEq] at H
      obtain ⟨rfl, rfl, rfl⟩ := H
      go_enter Tryd.func33, Tryd.ntmps33
      go_wp2_with (first | ((with_reducible refine gate_callee (f := 62) rfl ?_); refine goesL_ (some 8) rfl rfl Tryd.func62 kr_ rfl #[.pointer (some ⟨g, 0, none⟩), .int .i64 8] rfl ta_ ?_; (with_reducible refine (spec_l02DrawPoly.calls k g s0_0 s0_1 s0_2 8 t392 t395 t396 w0 _ ?side1 ?side2 A2.out).mono ?_); (case side1 => exact is81_ HI0.out); (case side2 => exact bl1_ (IsS81.ge HI0.out)); rintro e w35 ⟨v393, rfl, ho0, hi, hb, hk⟩; refine ⟨_, rfl, ?_⟩; have HO394 := a0_ (Kd.R_lower ho0 (keep_size (w := w) (g := g) (row := none) (kb0_))); replace HK := a0_ (KeepBut.trans (kb0_) hk (.inl rfl)); replace HB := a0_ (hb); replace HI0 := a0_ (hi); (try clear hb); (try clear hb2); (try clear hk); (try clear hi); (try clear ho0)) | ((with_reducible refine gate_callee (f := 58) rfl ?_); refine goesL_ (some 10) rfl rfl Tryd.func58 kr_ rfl #[.pointer (some ⟨g, 0, none⟩), .int .i64 9] rfl ta_ ?_; (with_reducible refine (spec_l01Next.calls g s0_0 t395 t396 9 t397 t398 t399 w0 _ ?side1 ?side2 A3.out).mono ?_); (case side1 => exact is81_ HI0.out); (case side2 => exact bl1_ (IsS81.ge HI0.out)); rintro e w36 ⟨rfl, hi, hb, hk⟩; refine ⟨_, rfl, ?_⟩; replace HO394 := a0_ (Kd.R_mono (Kd.R_keep (IsS81.apart (show IsS81 w0 _ g s0_0 t395 t396 from is81_ HI0.out) (ra_ HO394.out) (by decide)) hk (fun _ h => h.2)) (fun _ h => h.1)); replace HK := a0_ (KeepBut.trans (kb0_) hk (.inl rfl)); replace HB := a0_ (hb); replace HI0 := a0_ (hi); (try clear hb); (try clear hb2); (try clear hk); (try clear hi)) | ((with_reducible refine gate_callee (f := 58) rfl ?_); refine goesL_ (some 13) rfl rfl Tryd.func58 kr_ rfl #[.pointer (some ⟨g, 0, none⟩), .int .i64 9] rfl ta_ ?_; (with_reducible refine (spec_l01Next.calls g s0_0 t398 t399 9 t400 t401 t402 w0 _ ?side1 ?side2 A4.out).mono ?_); (case side1 => exact is81_ HI0.out); (case side2 => exact bl1_ (IsS81.ge HI0.out)); rintro e w37 ⟨rfl, hi, hb, hk⟩; refine ⟨_, rfl, ?_⟩; replace HO394 := a0_ (Kd.R_mono (Kd.R_keep (IsS81.apart (show IsS81 w0 _ g s0_0 t398 t399 from is81_ HI0.out) (ra_ HO394.out) (by decide)) hk (fun _ h => h.2)) (fun _ h => h.1)); replace HK := a0_ (KeepBut.trans (kb0_) hk (.inl rfl)); replace HB := a0_ (hb); replace HI0 := a0_ (hi); (try clear hb); (try clear hb2); (try clear hk); (try clear hi); obtain ⟨Ao38, co38, eo38⟩ := Kd.R_slice HO394.out; subst eo38) | ((with_reducible refine gate_callee (f := 61) rfl ?_); refine goesL_ (some 15) rfl rfl Tryd.func61 kr_ rfl #[.slice Ao38 t392.length co38, .int .i64 (wrap64 (t397 - 4)), .int .i64 (wrap64 (t400 - 4))] rfl ta_ ?_; (with_reducible refine (spec_l02Move.calls k _ _ t392 (wrap64 (t397 - 4)) (wrap64 (t400 - 4)) t403 _ ?side1 ?side2 A5.out).mono ?_); (case side1 => exact ca_ (Kd.R_reads' HO394.out).2.2); (case side2 => exact (Kd.R_reads' HO394.out).2.1); rintro e w39 ⟨v404, rfl, ho0, hb⟩; refine ⟨_, rfl, ?_⟩; have HO405 := a0_ (Kd.R_lower (Kd.R_new' ho0 (Kd.R_lt (ra_ HO394.out))) (keep_size (w := w) (g := g) (row := none) (kb0_))); replace HO394 := a0_ (Kd.R_elder' (ra_ HO394.out) (Kd.R_base ho0) hb); replace HK := a0_ (KeepBut.trans (kb0_) (KeepBut.of_below hb g none) (.inl rfl)); replace HB := a0_ (below_step (bl1_ (IsS81.ge HI0.out)) hb); replace HI0 := a0_ (IsS81.below (is81_ HI0.out) hb); (try clear hb); (try clear hb2); (try clear hk); (try clear hi); (try clear ho0); obtain ⟨Ao40, co40, eo40⟩ := Kd.R_slice HO405.out; subst eo40) | ((with_reducible refine gate_callee (f := 58) rfl ?_); refine goesL_ (some 19) rfl rfl Tryd.func58 kr_ rfl #[.pointer (some ⟨g, 0, none⟩), .int .i64 (t403.length : Int)] rfl ta_ ?_; (with_reducible refine (spec_l01Next.calls g s0_0 t401 t402 (t403.length : Int) t406 t407 t408 w0 _ ?side1 ?side2 A6.out).mono ?_); (case side1 => exact is81_ HI0.out); (case side2 => exact bl1_ (IsS81.ge HI0.out)); rintro e w41 ⟨rfl, hi, hb, hk⟩; refine ⟨_, rfl, ?_⟩; replace HO394 := a0_ (Kd.R_mono (Kd.R_keep (IsS81.apart (show IsS81 w0 _ g s0_0 t401 t402 from is81_ HI0.out) (ra_ HO394.out) (by decide)) hk (fun _ h => h.2)) (fun _ h => h.1)); replace HO405 := a0_ (Kd.R_mono (Kd.R_keep (IsS81.apart (show IsS81 w0 _ g s0_0 t401 t402 from is81_ HI0.out) (ra_ HO405.out) (by decide)) hk (fun _ h => h.2)) (fun _ h => h.1)); replace HK := a0_ (KeepBut.trans (kb0_) hk (.inl rfl)); replace HB := a0_ (hb); replace HI0 := a0_ (hi); (try clear hb); (try clear hb2); (try clear hk); (try clear hi)) | ((with_reducible refine gate_callee (f := 58) rfl ?_); refine goesL_ (some 21) rfl rfl Tryd.func58 kr_ rfl #[.pointer (some ⟨g, 0, none⟩), .int .i64 24] rfl ta_ ?_; (with_reducible refine (spec_l01Next.calls g s0_0 t407 t408 24 t409 t410 t411 w0 _ ?side1 ?side2 A7.out).mono ?_); (case side1 => exact is81_ HI0.out); (case side2 => exact bl1_ (IsS81.ge HI0.out)); rintro e w42 ⟨rfl, hi, hb, hk⟩; refine ⟨_, rfl, ?_⟩; replace HO394 := a0_ (Kd.R_mono (Kd.R_keep (IsS81.apart (show IsS81 w0 _ g s0_0 t407 t408 from is81_ HI0.out) (ra_ HO394.out) (by decide)) hk (fun _ h => h.2)) (fun _ h => h.1)); replace HO405 := a0_ (Kd.R_mono (Kd.R_keep (IsS81.apart (show IsS81 w0 _ g s0_0 t407 t408 from is81_ HI0.out) (ra_ HO405.out) (by decide)) hk (fun _ h => h.2)) (fun _ h => h.1)); replace HK := a0_ (KeepBut.trans (kb0_) hk (.inl rfl)); replace HB := a0_ (hb); replace HI0 := a0_ (hi); (try clear hb); (try clear hb2); (try clear hk); (try clear hi); have p423 : 0 ≤ (t406 : Int) := od_; have q423 : t406 < (t403.length : Int) := od_; obtain ⟨ad423, e423, hx423_0, hx423_1⟩ := at_T78 (Kd.R_reads' HO405.out).2.2 t406 p423 q423; cases e423; replace p423 := eq_true p423; replace q423 := eq_true q423) | ((with_reducible refine gate_builtin (b := .append) (xs := #[.tmp 37, .tmp 42]) rfl ?_); at_builtin; refine Kd.R_append k78 w.heap.size rfl (.tmp 37) (.tmp 42) 24 78 (.agg #[(.int .i64 0), (.int .i64 0)]) 16 rfl Tryd.underlying24 info78 rfl (by decide) (by omega) (.slice (some ad423) t403.length co40) t403 (⟨(rd_T78 t403 t406).f0, (rd_T78 t403 t406).f1⟩ : S78) [.int .i64 ((rd_T78 t403 t406).f0), .int .i64 ((rd_T78 t403 t406).f1)] (fun k_ => some k_ ≠ (.slice Ao38 t392.length co38 : Value).ownBlock) (fun _ => False) rfl rfl ?aP (fun _ hk => hk.elim) ?aF ?aO (Below.refl _ _) ?aS ?aL ?_; (case aP => exact k78_mkM _ _ _ (⟨(rd_T78 t403 t406).f0, (rd_T78 t403 t406).f1⟩ : S78)); (case aF => exact (fun k_ hk => Kd.fresh' (Kd.R_lt (ra_ HO394.out)) k_ hk)); (case aO => exact (by (with_reducible repeat (first | apply Kd.R_alloc | apply Kd.R_drewN | apply Kd.R_drew)); exact Kd.R_mono HO405.out (fun _ hk => hk.2))); (case aS => exact (keep_size (w := w) (g := g) (row := none) (kb0_))); (case aL => have := LMc34.out; omega); intro v425 w43 ho hb hg hat; rw [← Ny424.out] at ho; replace HO394 := a0_ (Kd.R_after (ok := (fun _ => True)) (ra_ HO394.out) hg hat); replace HB := a0_ (below_weaken (bl1_ (IsS81.ge HI0.out)) HL.out hb); replace HI0 := a0_ (IsS81.grown (is81_ HI0.out) hg (IsS81.own_ne HI0.out HO405.out (by decide))); replace HK := a0_ (KeepBut.trans (kb0_) (KeepBut.of_grown hg g) (Kd.R_base2 HO405.out)); have HO426 := a0_ (ho); clear HO405; clear ho hb hg hat))
      go_ret
      exact ⟨_, er_, by (with_reducible repeat (first | apply Kd.R_alloc | apply Kd.R_drewN | apply Kd.R_drew)); exact Kd.R_mono HO426.out (fun _ hk => trivial), is81_ HI0.out, bl1_ (IsS81.ge HI0.out), kb0_⟩
     ·rw [if_neg c34] at H
      exact absurd H (by simp)
    ·rw [if_neg c33] at H
     exact absurd H (by simp)
   ·rw [if_neg c32] at H
    exact absurd H (by simp)
  ·rw [if_neg c31] at H
   have c31b0 : (t409 == 1) = false := beq_eq_false_iff_ne.mpr c31
   have c31b1 : (t409 != 1) = true := bne_iff_ne.mpr c31
   by_cases c44 : t409 = 2
   ·rw [if_pos c44] at H
    have c44b0 : (t409 == 2) = true := beq_iff_eq.mpr c44
    have c44b1 : (t409 != 2) = false := bne_eq_false_iff_eq.mpr c44
    clear c44
    simp only [Option.some.injEq, Prod.mk.injEq] at H
    obtain ⟨rfl, rfl, rfl⟩ := H
    go_enter Tryd.func33, Tryd.ntmps33
    go_wp2_with (first | ((with_reducible refine gate_callee (f := 62) rfl ?_); refine goesL_ (some 8) rfl rfl Tryd.func62 kr_ rfl #[.pointer (some ⟨g, 0, none⟩), .int .i64 8] rfl ta_ ?_; (with_reducible refine (spec_l02DrawPoly.calls k g s0_0 s0_1 s0_2 8 t392 t395 t396 w0 _ ?side1 ?side2 A2.out).mono ?_); (case side1 => exact is81_ HI0.out); (case side2 => exact bl1_ (IsS81.ge HI0.out)); rintro e w45 ⟨v393, rfl, ho0, hi, hb, hk⟩; refine ⟨_, rfl, ?_⟩; have HO394 := a0_ (Kd.R_lower ho0 (keep_size (w := w) (g := g) (row := none) (kb0_))); replace HK := a0_ (KeepBut.trans (kb0_) hk (.inl rfl)); replace HB := a0_ (hb); replace HI0 := a0_ (hi); (try clear hb); (try clear hb2); (try clear hk); (try clear hi); (try clear ho0)) | ((with_reducible refine gate_callee (f := 58) rfl ?_); refine goesL_ (some 10) rfl rfl Tryd.func58 kr_ rfl #[.pointer (some ⟨g, 0, none⟩), .int .i64 9] rfl ta_ ?_; (with_reducible refine (spec_l01Next.calls g s0_0 t395 t396 9 t397 t398 t399 w0 _ ?side1 ?side2 A3.out).mono ?_); (case side1 => exact is81_ HI0.out); (case side2 => exact bl1_ (IsS81.ge HI0.out)); rintro e w46 ⟨rfl, hi, hb, hk⟩; refine ⟨_, rfl, ?_⟩; replace HO394 := a0_ (Kd.R_mono (Kd.R_keep (IsS81.apart (show IsS81 w0 _ g s0_0 t395 t396 from is81_ HI0.out) (ra_ HO394.out) (by decide)) hk (fun _ h => h.2)) (fun _ h => h.1)); replace HK := a0_ (KeepBut.trans (kb0_) hk (.inl rfl)); replace HB := a0_ (hb); replace HI0 := a0_ (hi); (try clear hb); (try clear hb2); (try clear hk); (try clear hi)) | ((with_reducible refine gate_callee (f := 58) rfl ?_); refine goesL_ (some 13) rfl rfl Tryd.func58 kr_ rfl #[.pointer (some ⟨g, 0, none⟩), .int .i64 9] rfl ta_ ?_; (with_reducible refine (spec_l01Next.calls g s0_0 t398 t399 9 t400 t401 t402 w0 _ ?side1 ?side2 A4.out).mono ?_); (case side1 => exact is81_ HI0.out); (case side2 => exact bl1_ (IsS81.ge HI0.out)); rintro e w47 ⟨rfl, hi, hb, hk⟩; refine ⟨_, rfl, ?_⟩; replace HO394 := a0_ (Kd.R_mono (Kd.R_keep (IsS81.apart (show IsS81 w0 _ g s0_0 t398 t399 from is81_ HI0.out) (ra_ HO394.out) (by decide)) hk (fun _ h => h.2)) (fun _ h => h.1)); replace HK := a0_ (KeepBut.trans (kb0_) hk (.inl rfl)); replace HB := a0_ (hb); replace HI0 := a0_ (hi); (try clear hb); (try clear hb2); (try clear hk); (try clear hi); obtain ⟨Ao48, co48, eo48⟩ := Kd.R_slice HO394.out; subst eo48) | ((with_reducible refine gate_callee (f := 61) rfl ?_); refine goesL_ (some 15) rfl rfl Tryd.func61 kr_ rfl #[.slice Ao48 t392.length co48, .int .i64 (wrap64 (t397 - 4)), .int .i64 (wrap64 (t400 - 4))] rfl ta_ ?_; (with_reducible refine (spec_l02Move.calls k _ _ t392 (wrap64 (t397 - 4)) (wrap64 (t400 - 4)) t403 _ ?side1 ?side2 A5.out).mono ?_); (case side1 => exact ca_ (Kd.R_reads' HO394.out).2.2); (case side2 => exact (Kd.R_reads' HO394.out).2.1); rintro e w49 ⟨v404, rfl, ho0, hb⟩; refine ⟨_, rfl, ?_⟩; have HO405 := a0_ (Kd.R_lower (Kd.R_new' ho0 (Kd.R_lt (ra_ HO394.out))) (keep_size (w := w) (g := g) (row := none) (kb0_))); replace HO394 := a0_ (Kd.R_elder' (ra_ HO394.out) (Kd.R_base ho0) hb); replace HK := a0_ (KeepBut.trans (kb0_) (KeepBut.of_below hb g none) (.inl rfl)); replace HB := a0_ (below_step (bl1_ (IsS81.ge HI0.out)) hb); replace HI0 := a0_ (IsS81.below (is81_ HI0.out) hb); (try clear hb); (try clear hb2); (try clear hk); (try clear hi); (try clear ho0); obtain ⟨Ao50, co50, eo50⟩ := Kd.R_slice HO405.out; subst eo50) | ((with_reducible refine gate_callee (f := 58) rfl ?_); refine goesL_ (some 19) rfl rfl Tryd.func58 kr_ rfl #[.pointer (some ⟨g, 0, none⟩), .int .i64 (t403.length : Int)] rfl ta_ ?_; (with_reducible refine (spec_l01Next.calls g s0_0 t401 t402 (t403.length : Int) t406 t407 t408 w0 _ ?side1 ?side2 A6.out).mono ?_); (case side1 => exact is81_ HI0.out); (case side2 => exact bl1_ (IsS81.ge HI0.out)); rintro e w51 ⟨rfl, hi, hb, hk⟩; refine ⟨_, rfl, ?_⟩; replace HO394 := a0_ (Kd.R_mono (Kd.R_keep (IsS81.apart (show IsS81 w0 _ g s0_0 t401 t402 from is81_ HI0.out) (ra_ HO394.out) (by decide)) hk (fun _ h => h.2)) (fun _ h => h.1)); replace HO405 := a0_ (Kd.R_mono (Kd.R_keep (IsS81.apart (show IsS81 w0 _ g s0_0 t401 t402 from is81_ HI0.out) (ra_ HO405.out) (by decide)) hk (fun _ h => h.2)) (fun _ h => h.1)); replace HK := a0_ (KeepBut.trans (kb0_) hk (.inl rfl)); replace HB := a0_ (hb); replace HI0 := a0_ (hi); (try clear hb); (try clear hb2); (try clear hk); (try clear hi)) | ((with_reducible refine gate_callee (f := 58) rfl ?_); refine goesL_ (some 21) rfl rfl Tryd.func58 kr_ rfl #[.pointer (some ⟨g, 0, none⟩), .int .i64 24] rfl ta_ ?_; (with_reducible refine (spec_l01Next.calls g s0_0 t407 t408 24 t409 t410 t411 w0 _ ?side1 ?side2 A7.out).mono ?_); (case side1 => exact is81_ HI0.out); (case side2 => exact bl1_ (IsS81.ge HI0.out)); rintro e w52 ⟨rfl, hi, hb, hk⟩; refine ⟨_, rfl, ?_⟩; replace HO394 := a0_ (Kd.R_mono (Kd.R_keep (IsS81.apart (show IsS81 w0 _ g s0_0 t407 t408 from is81_ HI0.out) (ra_ HO394.out) (by decide)) hk (fun _ h => h.2)) (fun _ h => h.1)); replace HO405 := a0_ (Kd.R_mono (Kd.R_keep (IsS81.apart (show IsS81 w0 _ g s0_0 t407 t408 from is81_ HI0.out) (ra_ HO405.out) (by decide)) hk (fun _ h => h.2)) (fun _ h => h.1)); replace HK := a0_ (KeepBut.trans (kb0_) hk (.inl rfl)); replace HB := a0_ (hb); replace HI0 := a0_ (hi); (try clear hb); (try clear hb2); (try clear hk); (try clear hi)))
    go_ret
    exact ⟨_, er_, by first | exact Kd.R_nil _ _ _ _ _ | exact Kd.N_nil _ _ _ _ _ | exact Kd.V_nil _ _ _ _ _ | exact Kd.Q_nil _ _ _ _ _ | exact Kd.S_nil _ _ _ _ _, is81_ HI0.out, bl1_ (IsS81.ge HI0.out), kb0_⟩
   ·rw [if_neg c44] at H
    have c44b0 : (t409 == 2) = false := beq_eq_false_iff_ne.mpr c44
    have c44b1 : (t409 != 2) = true := bne_iff_ne.mpr c44
    by_cases c53 : t409 = 3
    ·rw [if_pos c53] at H
     have c53b0 : (t409 == 3) = true := beq_iff_eq.mpr c53
     have c53b1 : (t409 != 3) = false := bne_eq_false_iff_eq.mpr c53
     clear c53
     obtain ⟨y427, hy427⟩ : ∃ y_ : List (S78), y_ = (([] : List (S78))) := ⟨_, rfl⟩
     replace H : (spec_l02Draw.l0 k y427 0 s0_0 t410 t411) = some (r1, r2, r3) := hh_ hy427 H
     have Ny427 := Aside0.mk hy427
     clear hy427
     have H' := Aside0.mk H
     clear H
     go_enter Tryd.func33, Tryd.ntmps33
     go_wp2_with (first | ((with_reducible refine gate_callee (f := 62) rfl ?_); refine goesL_ (some 8) rfl rfl Tryd.func62 kr_ rfl #[.pointer (some ⟨g, 0, none⟩), .int .i64 8] rfl ta_ ?_; (with_reducible refine (spec_l02DrawPoly.calls k g s0_0 s0_1 s0_2 8 t392 t395 t396 w0 _ ?side1 ?side2 A2.out).mono ?_); (case side1 => exact is81_ HI0.out); (case side2 => exact bl1_ (IsS81.ge HI0.out)); rintro e w54 ⟨v393, rfl, ho0, hi, hb, hk⟩; refine ⟨_, rfl, ?_⟩; have HO394 := a0_ (Kd.R_lower ho0 (keep_size (w := w) (g := g) (row := none) (kb0_))); replace HK := a0_ (KeepBut.trans (kb0_) hk (.inl rfl)); replace HB := a0_ (hb); replace HI0 := a0_ (hi); (try clear hb); (try clear hb2); (try clear hk); (try clear hi); (try clear ho0)) | ((with_reducible refine gate_callee (f := 58) rfl ?_); refine goesL_ (some 10) rfl rfl Tryd.func58 kr_ rfl #[.pointer (some ⟨g, 0, none⟩), .int .i64 9] rfl ta_ ?_; (with_reducible refine (spec_l01Next.calls g s0_0 t395 t396 9 t397 t398 t399 w0 _ ?side1 ?side2 A3.out).mono ?_); (case side1 => exact is81_ HI0.out); (case side2 => exact bl1_ (IsS81.ge HI0.out)); rintro e w55 ⟨rfl, hi, hb, hk⟩; refine ⟨_, rfl, ?_⟩; replace HO394 := a0_ (Kd.R_mono (Kd.R_keep (IsS81.apart (show IsS81 w0 _ g s0_0 t395 t396 from is81_ HI0.out) (ra_ HO394.out) (by decide)) hk (fun _ h => h.2)) (fun _ h => h.1)); replace HK := a0_ (KeepBut.trans (kb0_) hk (.inl rfl)); replace HB := a0_ (hb); replace HI0 := a0_ (hi); (try clear hb); (try clear hb2); (try clear hk); (try clear hi)) | ((with_reducible refine gate_callee (f := 58) rfl ?_); refine goesL_ (some 13) rfl rfl Tryd.func58 kr_ rfl #[.pointer (some ⟨g, 0, none⟩), .int .i64 9] rfl ta_ ?_; (with_reducible refine (spec_l01Next.calls g s0_0 t398 t399 9 t400 t401 t402 w0 _ ?side1 ?side2 A4.out).mono ?_); (case side1 => exact is81_ HI0.out); (case side2 => exact bl1_ (IsS81.ge HI0.out)); rintro e w56 ⟨rfl, hi, hb, hk⟩; refine ⟨_, rfl, ?_⟩; replace HO394 := a0_ (Kd.R_mono (Kd.R_keep (IsS81.apart (show IsS81 w0 _ g s0_0 t398 t399 from is81_ HI0.out) (ra_ HO394.out) (by decide)) hk (fun _ h => h.2)) (fun _ h => h.1)); replace HK := a0_ (KeepBut.trans (kb0_) hk (.inl rfl)); replace HB := a0_ (hb); replace HI0 := a0_ (hi); (try clear hb); (try clear hb2); (try clear hk); (try clear hi); obtain ⟨Ao57, co57, eo57⟩ := Kd.R_slice HO394.out; subst eo57) | ((with_reducible refine gate_callee (f := 61) rfl ?_); refine goesL_ (some 15) rfl rfl Tryd.func61 kr_ rfl #[.slice Ao57 t392.length co57, .int .i64 (wrap64 (t397 - 4)), .int .i64 (wrap64 (t400 - 4))] rfl ta_ ?_; (with_reducible refine (spec_l02Move.calls k _ _ t392 (wrap64 (t397 - 4)) (wrap64 (t400 - 4)) t403 _ ?side1 ?side2 A5.out).mono ?_); (case side1 => exact ca_ (Kd.R_reads' HO394.out).2.2); (case side2 => exact (Kd.R_reads' HO394.out).2.1); rintro e w58 ⟨v404, rfl, ho0, hb⟩; refine ⟨_, rfl, ?_⟩; have HO405 := a0_ (Kd.R_lower (Kd.R_new' ho0 (Kd.R_lt (ra_ HO394.out))) (keep_size (w := w) (g := g) (row := none) (kb0_))); replace HO394 := a0_ (Kd.R_elder' (ra_ HO394.out) (Kd.R_base ho0) hb); replace HK := a0_ (KeepBut.trans (kb0_) (KeepBut.of_below hb g none) (.inl rfl)); replace HB := a0_ (below_step (bl1_ (IsS81.ge HI0.out)) hb); replace HI0 := a0_ (IsS81.below (is81_ HI0.out) hb); (try clear hb); (try clear hb2); (try clear hk); (try clear hi); (try clear ho0); obtain ⟨Ao59, co59, eo59⟩ := Kd.R_slice HO405.out; subst eo59) | ((with_reducible refine gate_callee (f := 58) rfl ?_); refine goesL_ (some 19) rfl rfl Tryd.func58 kr_ rfl #[.pointer (some ⟨g, 0, none⟩), .int .i64 (t403.length : Int)] rfl ta_ ?_; (with_reducible refine (spec_l01Next.calls g s0_0 t401 t402 (t403.length : Int) t406 t407 t408 w0 _ ?side1 ?side2 A6.out).mono ?_); (case side1 => exact is81_ HI0.out); (case side2 => exact bl1_ (IsS81.ge HI0.out)); rintro e w60 ⟨rfl, hi, hb, hk⟩; refine ⟨_, rfl, ?_⟩; replace HO394 := a0_ (Kd.R_mono (Kd.R_keep (IsS81.apart (show IsS81 w0 _ g s0_0 t401 t402 from is81_ HI0.out) (ra_ HO394.out) (by decide)) hk (fun _ h => h.2)) (fun _ h => h.1)); replace HO405 := a0_ (Kd.R_mono (Kd.R_keep (IsS81.apart (show IsS81 w0 _ g s0_0 t401 t402 from is81_ HI0.out) (ra_ HO405.out) (by decide)) hk (fun _ h => h.2)) (fun _ h => h.1)); replace HK := a0_ (KeepBut.trans (kb0_) hk (.inl rfl)); replace HB := a0_ (hb); replace HI0 := a0_ (hi); (try clear hb); (try clear hb2); (try clear hk); (try clear hi)) | ((with_reducible refine gate_callee (f := 58) rfl ?_); refine goesL_ (some 21) rfl rfl Tryd.func58 kr_ rfl #[.pointer (some ⟨g, 0, none⟩), .int .i64 24] rfl ta_ ?_; (with_reducible refine (spec_l01Next.calls g s0_0 t407 t408 24 t409 t410 t411 w0 _ ?side1 ?side2 A7.out).mono ?_); (case side1 => exact is81_ HI0.out); (case side2 => exact bl1_ (IsS81.ge HI0.out)); rintro e w61 ⟨rfl, hi, hb, hk⟩; refine ⟨_, rfl, ?_⟩; replace HO394 := a0_ (Kd.R_mono (Kd.R_keep (IsS81.apart (show IsS81 w0 _ g s0_0 t407 t408 from is81_ HI0.out) (ra_ HO394.out) (by decide)) hk (fun _ h => h.2)) (fun _ h => h.1)); replace HO405 := a0_ (Kd.R_mono (Kd.R_keep (IsS81.apart (show IsS81 w0 _ g s0_0 t407 t408 from is81_ HI0.out) (ra_ HO405.out) (by decide)) hk (fun _ h => h.2)) (fun _ h => h.1)); replace HK := a0_ (KeepBut.trans (kb0_) hk (.inl rfl)); replace HB := a0_ (hb); replace HI0 := a0_ (hi); (try clear hb); (try clear hb2); (try clear hk); (try clear hi)) | ((with_reducible refine gate_dst (N := 48) rfl ?_); refine Kd.R_lit k78 _ 78 ?hg (N := 48) ?hd (xs := ([] : List (S78))) (inner := []) (ok := fun _ => True) (okp := fun _ => True) ?hr ?hp (fun _ hk => hk) trivial (Below.refl _ _) (Nat.le_refl _) (by simp) ?_; (case hd => rfl); (case hg => rfl); (case hr => first | (go_simp; done) | (go_simp; rfl)); (case hp => exact (Reps.none _ _)); intro v428 w62 ho63 hb hg_ hnew_; clear hg_ hnew_; (first | rw [← Ny427.out] at ho63 | (simp only [Int.reduceToNat] at ho63; rw [← Ny427.out] at ho63)); have HO429 := a0_ (Kd.R_lower (Kd.R_new' (Kd.R_new' ho63 (Kd.R_lt (ra_ HO394.out))) (Kd.R_lt (ra_ HO405.out))) (keep_size (w := w) (g := g) (row := none) (kb0_))); replace HO394 := a0_ (Kd.R_elder' (ra_ HO394.out) (Kd.R_base ho63) hb); replace HO405 := a0_ (Kd.R_elder' (ra_ HO405.out) (Kd.R_base ho63) hb); replace HK := a0_ (KeepBut.trans (kb0_) (KeepBut.of_below hb g none) (.inl rfl)); replace HB := a0_ (below_step (bl1_ (IsS81.ge HI0.out)) hb); replace HI0 := a0_ (IsS81.below (is81_ HI0.out) hb); clear hb ho63))
     go_loopg [5, 6] k (fun kq v5 v6 w' => ∃ (x5_1 : List (S78)) (x6_1 : Int) (x1001_1 : Int) (x1002_1 : Int), v6 = .int .i64 x6_1 ∧ Aside0 (spec_l02Draw.l0 kq x5_1 x6_1 s0_0 x1001_1 x1002_1 = some (r1, r2, r3)) ∧ Aside0 (kq ≤ k) ∧ Aside0 (Kd.R k78 78 w' w.heap.size (fun _ => True) v5 x5_1) ∧ Aside0 (IsS81 w0 w' g s0_0 x1001_1 x1002_1) ∧ Aside0 (KeepBut w w' g none) ∧ Aside0 (Below w0.heap.size w0 w'))
     case atStart => exact ⟨(y427), (0), (t410), (t411), rs_, H', ⟨Nat.le_refl _⟩, ⟨by (with_reducible repeat (first | apply Kd.R_alloc | apply Kd.R_drewN | apply Kd.R_drew)); exact Kd.R_mono HO429.out (fun _ hk => trivial)⟩, ⟨is81_ HI0.out⟩, ⟨kb0_⟩, ⟨bl1_ (IsS81.ge HI0.out)⟩⟩
     case round =>
      clear H'
      try clear c1
      try clear p1
      try clear q1
      try clear hx1
      try clear hf1
      try clear c2
      try clear p2
      try clear hx2
      try clear hf2
      try clear c3
      try clear c4
      try clear p4
      try clear q4
      try clear hx4
      try clear c5
      try clear c6
      try clear p6
      try clear c8
      try clear c8b0
      try clear c8b1
      try clear c10
      try clear c10b0
      try clear c11
      try clear c11b0
      try clear c12
      try clear c12b0
      try clear c13
      try clear c13b0
      try clear c14
      try clear p14
      try clear q14
      try clear hx14
      try clear hf14
      try clear c28
      try clear hx28
      try clear hf28
      try clear c31
      try clear c31b0
      try clear c31b1
      try clear c32
      try clear c32b0
      try clear c33
      try clear c33b0
      try clear c34
      try clear p41
      try clear q41
      try clear hx41
      try clear p42
      try clear q42
      try clear hx42
      try clear c44
      try clear c44b0
      try clear c44b1
      try clear c53
      try clear c53b0
      try clear c53b1
      try clear c58
      try clear c61
      try clear c62
      try clear c63
      try clear hx14_0
      try clear hx14_1
      try clear hx28_0
      try clear hx418_0
      try clear hx423_0
      try clear hx423_1
      try clear p14
      try clear p418
      try clear p423
      try clear q14
      try clear q418
      try clear q423
      obtain ⟨x5_1, x6_1, x1001_1, x1002_1, rfl, HA, HK1, HO_5, HI0, HK, HB⟩ := hrel
      cases gk with
      | zero => exact absurd HA.out (by simp [spec_l02Draw.l0])
      | succ k1 =>
       have H := HA.out
       clear HA
       simp only [spec_l02Draw.l0] at H
       obtain ⟨⟨t430, t431, t432⟩, A64, H⟩ := bs_ H
       dsimp only at H
       by_cases c65 : x6_1 < (wrap64 (40 + t430))
       ·rw [if_pos c65] at H
        have c65b0 : decide (x6_1 < (wrap64 (40 + t430))) = true := decide_eq_true c65
        clear c65
        by_cases c66 : x5_1.length < 8796093022208
        ·rw [if_pos c66] at H
         have LMc66 := Aside0.mk c66
         clear c66
         obtain ⟨y433, hy433⟩ : ∃ y_ : List (S78), y_ = (x5_1 ++ [(⟨x6_1, 0⟩ : S78)]) := ⟨_, rfl⟩
         replace H : (spec_l02Draw.l0 k1 y433 (wrap64 (x6_1 + 1)) s0_0 t431 t432) = some (r1, r2, r3) := hh_ hy433 H
         have Ny433 := Aside0.mk hy433
         clear hy433
         have H' := Aside0.mk H
         clear H
         go_wp2_with (first | ((with_reducible refine gate_callee (f := 58) rfl ?_); refine goesL_ (some 51) rfl rfl Tryd.func58 kr_ rfl #[.pointer (some ⟨g, 0, none⟩), .int .i64 2] rfl ta_ ?_; (with_reducible refine (spec_l01Next.calls g s0_0 x1001_1 x1002_1 2 t430 t431 t432 w0 _ ?side1 ?side2 A64.out).mono ?_); (case side1 => exact is81_ HI0.out); (case side2 => exact bl1_ (IsS81.ge HI0.out)); rintro e w67 ⟨rfl, hi, hb, hk⟩; refine ⟨_, rfl, ?_⟩; replace HO_5 := a0_ (Kd.R_mono (Kd.R_keep (IsS81.apart (show IsS81 w0 _ g s0_0 x1001_1 x1002_1 from is81_ HI0.out) (ra_ HO_5.out) (by decide)) hk (fun _ h => h.2)) (fun _ h => h.1)); replace HK := a0_ (KeepBut.trans (kb0_) hk (.inl rfl)); replace HB := a0_ (hb); replace HI0 := a0_ (hi); (try clear hb); (try clear hb2); (try clear hk); (try clear hi)) | ((with_reducible refine gate_builtin (b := .append) (xs := #[.tmp 56, .tmp 59]) rfl ?_); at_builtin; refine Kd.R_append k78 w.heap.size rfl (.tmp 56) (.tmp 59) 24 78 (.agg #[(.int .i64 0), (.int .i64 0)]) 16 rfl Tryd.underlying24 info78 rfl (by decide) (by omega) u5 x5_1 (⟨x6_1, 0⟩ : S78) [.int .i64 x6_1, .int .i64 0] (fun _ => True) (fun _ => False) rfl rfl ?aP (fun _ hk => hk.elim) ?aF ?aO (Below.refl _ _) ?aS ?aL ?_; (case aP => exact k78_mkM _ _ _ (⟨x6_1, 0⟩ : S78)); (case aF => exact (fun _ _ => trivial)); (case aO => exact (ra_ HO_5.out)); (case aS => exact (keep_size (w := w) (g := g) (row := none) (kb0_))); (case aL => have := LMc66.out; omega); intro v434 w68 ho hb hg hat; rw [← Ny433.out] at ho; replace HB := a0_ (below_weaken (bl1_ (IsS81.ge HI0.out)) HL.out hb); replace HI0 := a0_ (IsS81.grown (is81_ HI0.out) hg (IsS81.own_ne HI0.out HO_5.out (by decide))); replace HK := a0_ (KeepBut.trans (kb0_) (KeepBut.of_grown hg g) (Kd.R_base2 HO_5.out)); have HO435 := a0_ (ho); clear HO_5; clear ho hb hg hat))
         go_roundg k1
         case measure => have := HK1.out; omega
         case rel => exact ⟨(y433), (wrap64 (x6_1 + 1)), (t431), (t432), rs_, H', ⟨by have := HK1.out; omega⟩, ⟨ra_ HO435.out⟩, ⟨is81_ HI0.out⟩, ⟨kb0_⟩, ⟨bl1_ (IsS81.ge HI0.out)⟩⟩
        ·rw [if_neg c66] at H
         exact absurd H (by simp)
       ·rw [if_neg c65] at H
        have c65b0 : decide (x6_1 < (wrap64 (40 + t430))) = false := decide_eq_false c65
        clear c65
        simp only [Option.some.injEq, Prod.mk.injEq] at H
        obtain ⟨rfl, rfl, rfl⟩ := H
        go_wp2_with (first | ((with_reducible refine gate_callee (f := 58) rfl ?_); refine goesL_ (some 51) rfl rfl Tryd.func58 kr_ rfl #[.pointer (some ⟨g, 0, none⟩), .int .i64 2] rfl ta_ ?_; (with_reducible refine (spec_l01Next.calls g s0_0 x1001_1 x1002_1 2 t430 t431 t432 w0 _ ?side1 ?side2 A64.out).mono ?_); (case side1 => exact is81_ HI0.out); (case side2 => exact bl1_ (IsS81.ge HI0.out)); rintro e w69 ⟨rfl, hi, hb, hk⟩; refine ⟨_, rfl, ?_⟩; replace HO_5 := a0_ (Kd.R_mono (Kd.R_keep (IsS81.apart (show IsS81 w0 _ g s0_0 x1001_1 x1002_1 from is81_ HI0.out) (ra_ HO_5.out) (by decide)) hk (fun _ h => h.2)) (fun _ h => h.1)); replace HK := a0_ (KeepBut.trans (kb0_) hk (.inl rfl)); replace HB := a0_ (hb); replace HI0 := a0_ (hi); (try clear hb); (try clear hb2); (try clear hk); (try clear hi)))
        go_ret
        exact ⟨_, er_, ra_ HO_5.out, is81_ HI0.out, bl1_ (IsS81.ge HI0.out), kb0_⟩
    ·rw [if_neg c53] at H
     have c53b0 : (t409 == 3) = false := beq_eq_false_iff_ne.mpr c53
     have c53b1 : (t409 != 3) = true := bne_iff_ne.mpr c53
     by_cases c70 : t409 = 4
     ·rw [if_pos c70] at H
      have c70b0 : (t409 == 4) = true := beq_iff_eq.mpr c70
      have c70b1 : (t409 != 4) = false := bne_eq_false_iff_eq.mpr c70
      clear c70
      by_cases c71 : 0 < (t403.length : Int)
      ·rw [if_pos c71] at H
       have c71b0 : decide (0 < (t403.length : Int)) = true := decide_eq_true c71
       have c71b1 : decide (0 < t403.length) = true := decide_eq_true (by omega)
       clear c71
       obtain ⟨ji72, hji72⟩ : ∃ j_ : Int, (wrap64 ((t403.length : Int) - 1)) = j_ := ⟨_, rfl⟩
       replace H : (if 0 ≤ (ji72) then (if (ji72) < (t403.length : Int) then (if t403.length < 8796093022208 then (some ((t403 ++ [(⟨wrap64 (((rd_T78 t403 0).f0) + 3), wrap64 (((rd_T78 t403 (ji72)).f1) + 2)⟩ : S78)]), t410, t411)) else (none)) else (none)) else (none)) = some (r1, r2, r3) := by first | (rw [hji72] at H; exact H) | (simp only [hji72] at H ⊢; exact H)
       (try rw [hji72] at A2)
       (try rw [hji72] at A3)
       (try rw [hji72] at A4)
       (try rw [hji72] at A5)
       (try rw [hji72] at A6)
       (try rw [hji72] at A7)
       have hji72w : (IntKind.i64.wrap ((t403.length : Int) - 1)) = ji72 := (i64_w _).trans hji72
       by_cases c73 : 0 ≤ (ji72)
       ·rw [if_pos c73] at H
        have c73b0 : decide (0 ≤ (ji72)) = true := decide_eq_true c73
        clear c73
        by_cases c74 : (ji72) < (t403.length : Int)
        ·rw [if_pos c74] at H
         have c74b0 : decide ((ji72) < (t403.length : Int)) = true := decide_eq_true c74
         clear c74
         by_cases c75 : t403.length < 8796093022208
         ·rw [if_pos c75] at H
          have LMc75 := Aside0.mk c75
          clear c75
          obtain ⟨y438, hy438⟩ : ∃ y_ : List (S78), y_ = (t403 ++ [(⟨wrap64 (((rd_T78 t403 0).f0) + 3), wrap64 (((rd_T78 t403 (ji72)).f1) + 2)⟩ : S78)]) := ⟨_, rfl⟩
          replace H : (some (y438, t410, t411)) = some (r1, r2, r3) := hh_ hy438 H
          have Ny438 := Aside0.mk hy438
          clear hy438
          simp only [Option.some.injEq, Prod.mk.injEq] at H
          obtain ⟨rfl, rfl, rfl⟩ := H
          go_enter Tryd.func33, Tryd.ntmps33
          try go_wp2_with (first | ((with_reducible refine gate_callee (f := 62) rfl ?_); refine goesL_ (some 8) rfl rfl Tryd.func62 kr_ rfl #[.pointer (some ⟨g, 0, none⟩), .int .i64 8] rfl ta_ ?_; (with_reducible refine (spec_l02DrawPoly.calls k g s0_0 s0_1 s0_2 8 t392 t395 t396 w0 _ ?side1 ?side2 A2.out).mono ?_); (case side1 => exact is81_ HI0.out); (case side2 => exact bl1_ (IsS81.ge HI0.out)); rintro e w76 ⟨v393, rfl, ho0, hi, hb, hk⟩; refine ⟨_, rfl, ?_⟩; have HO394 := a0_ (Kd.R_lower ho0 (keep_size (w := w) (g := g) (row := none) (kb0_))); replace HK := a0_ (KeepBut.trans (kb0_) hk (.inl rfl)); replace HB := a0_ (hb); replace HI0 := a0_ (hi); (try clear hb); (try clear hb2); (try clear hk); (try clear hi); (try clear ho0)) | ((with_reducible refine gate_callee (f := 58) rfl ?_); refine goesL_ (some 10) rfl rfl Tryd.func58 kr_ rfl #[.pointer (some ⟨g, 0, none⟩), .int .i64 9] rfl ta_ ?_; (with_reducible refine (spec_l01Next.calls g s0_0 t395 t396 9 t397 t398 t399 w0 _ ?side1 ?side2 A3.out).mono ?_); (case side1 => exact is81_ HI0.out); (case side2 => exact bl1_ (IsS81.ge HI0.out)); rintro e w77 ⟨rfl, hi, hb, hk⟩; refine ⟨_, rfl, ?_⟩; replace HO394 := a0_ (Kd.R_mono (Kd.R_keep (IsS81.apart (show IsS81 w0 _ g s0_0 t395 t396 from is81_ HI0.out) (ra_ HO394.out) (by decide)) hk (fun _ h => h.2)) (fun _ h => h.1)); replace HK := a0_ (KeepBut.trans (kb0_) hk (.inl rfl)); replace HB := a0_ (hb); replace HI0 := a0_ (hi); (try clear hb); (try clear hb2); (try clear hk); (try clear hi)) | ((with_reducible refine gate_callee (f := 58) rfl ?_); refine goesL_ (some 13) rfl rfl Tryd.func58 kr_ rfl #[.pointer (some ⟨g, 0, none⟩), .int .i64 9] rfl ta_ ?_; (with_reducible refine (spec_l01Next.calls g s0_0 t398 t399 9 t400 t401 t402 w0 _ ?side1 ?side2 A4.out).mono ?_); (case side1 => exact is81_ HI0.out); (case side2 => exact bl1_ (IsS81.ge HI0.out)); rintro e w78 ⟨rfl, hi, hb, hk⟩; refine ⟨_, rfl, ?_⟩; replace HO394 := a0_ (Kd.R_mono (Kd.R_keep (IsS81.apart (show IsS81 w0 _ g s0_0 t398 t399 from is81_ HI0.out) (ra_ HO394.out) (by decide)) hk (fun _ h => h.2)) (fun _ h => h.1)); replace HK := a0_ (KeepBut.trans (kb0_) hk (.inl rfl)); replace HB := a0_ (hb); replace HI0 := a0_ (hi); (try clear hb); (try clear hb2); (try clear hk); (try clear hi); obtain ⟨Ao79, co79, eo79⟩ := Kd.R_slice HO394.out; subst eo79) | ((with_reducible refine gate_callee (f := 61) rfl ?_); refine goesL_ (some 15) rfl rfl Tryd.func61 kr_ rfl #[.slice Ao79 t392.length co79, .int .i64 (wrap64 (t397 - 4)), .int .i64 (wrap64 (t400 - 4))] rfl ta_ ?_; (with_reducible refine (spec_l02Move.calls k _ _ t392 (wrap64 (t397 - 4)) (wrap64 (t400 - 4)) t403 _ ?side1 ?side2 A5.out).mono ?_); (case side1 => exact ca_ (Kd.R_reads' HO394.out).2.2); (case side2 => exact (Kd.R_reads' HO394.out).2.1); rintro e w80 ⟨v404, rfl, ho0, hb⟩; refine ⟨_, rfl, ?_⟩; have HO405 := a0_ (Kd.R_lower (Kd.R_new' ho0 (Kd.R_lt (ra_ HO394.out))) (keep_size (w := w) (g := g) (row := none) (kb0_))); replace HO394 := a0_ (Kd.R_elder' (ra_ HO394.out) (Kd.R_base ho0) hb); replace HK := a0_ (KeepBut.trans (kb0_) (KeepBut.of_below hb g none) (.inl rfl)); replace HB := a0_ (below_step (bl1_ (IsS81.ge HI0.out)) hb); replace HI0 := a0_ (IsS81.below (is81_ HI0.out) hb); (try clear hb); (try clear hb2); (try clear hk); (try clear hi); (try clear ho0); obtain ⟨Ao81, co81, eo81⟩ := Kd.R_slice HO405.out; subst eo81) | ((with_reducible refine gate_callee (f := 58) rfl ?_); refine goesL_ (some 19) rfl rfl Tryd.func58 kr_ rfl #[.pointer (some ⟨g, 0, none⟩), .int .i64 (t403.length : Int)] rfl ta_ ?_; (with_reducible refine (spec_l01Next.calls g s0_0 t401 t402 (t403.length : Int) t406 t407 t408 w0 _ ?side1 ?side2 A6.out).mono ?_); (case side1 => exact is81_ HI0.out); (case side2 => exact bl1_ (IsS81.ge HI0.out)); rintro e w82 ⟨rfl, hi, hb, hk⟩; refine ⟨_, rfl, ?_⟩; replace HO394 := a0_ (Kd.R_mono (Kd.R_keep (IsS81.apart (show IsS81 w0 _ g s0_0 t401 t402 from is81_ HI0.out) (ra_ HO394.out) (by decide)) hk (fun _ h => h.2)) (fun _ h => h.1)); replace HO405 := a0_ (Kd.R_mono (Kd.R_keep (IsS81.apart (show IsS81 w0 _ g s0_0 t401 t402 from is81_ HI0.out) (ra_ HO405.out) (by decide)) hk (fun _ h => h.2)) (fun _ h => h.1)); replace HK := a0_ (KeepBut.trans (kb0_) hk (.inl rfl)); replace HB := a0_ (hb); replace HI0 := a0_ (hi); (try clear hb); (try clear hb2); (try clear hk); (try clear hi)) | ((with_reducible refine gate_callee (f := 58) rfl ?_); refine goesL_ (some 21) rfl rfl Tryd.func58 kr_ rfl #[.pointer (some ⟨g, 0, none⟩), .int .i64 24] rfl ta_ ?_; (with_reducible refine (spec_l01Next.calls g s0_0 t407 t408 24 t409 t410 t411 w0 _ ?side1 ?side2 A7.out).mono ?_); (case side1 => exact is81_ HI0.out); (case side2 => exact bl1_ (IsS81.ge HI0.out)); rintro e w83 ⟨rfl, hi, hb, hk⟩; refine ⟨_, rfl, ?_⟩; replace HO394 := a0_ (Kd.R_mono (Kd.R_keep (IsS81.apart (show IsS81 w0 _ g s0_0 t407 t408 from is81_ HI0.out) (ra_ HO394.out) (by decide)) hk (fun _ h => h.2)) (fun _ h => h.1)); replace HO405 := a0_ (Kd.R_mono (Kd.R_keep (IsS81.apart (show IsS81 w0 _ g s0_0 t407 t408 from is81_ HI0.out) (ra_ HO405.out) (by decide)) hk (fun _ h => h.2)) (fun _ h => h.1)); replace HK := a0_ (KeepBut.trans (kb0_) hk (.inl rfl)); replace HB := a0_ (hb); replace HI0 := a0_ (hi); (try clear hb); (try clear hb2); (try clear hk); (try clear hi)))
          replace HO394 := a0_ (Kd.R_drew HO394.out)
          replace HO405 := a0_ (Kd.R_drew HO405.out)
          replace HI0 := a0_ (IsS81.drew HI0.out)
          replace HK := a0_ (keep_drew HK.out)
          replace HB := a0_ (below_drew1 HB.out)
          have p436 : 0 ≤ (0 : Int) := (by omega)
          have q436 : 0 < (t403.length : Int) := od_
          obtain ⟨ad436, e436, hx436_0, hx436_1⟩ := at_T78 (Kd.R_reads' HO405.out).2.2 0 p436 q436
          cases e436
          have qi436 : (0 < t403.length) = True := eq_true (by omega)
          (try rw [show ((0 : Int)).toNat = 0 from rfl] at hx436_0)
          (try rw [show 0 * 2 = 0 from rfl] at hx436_0)
          (try rw [Addr.add_zero'] at hx436_0)
          (try rw [show ((0 : Int)).toNat = 0 from rfl] at hx436_1)
          (try rw [show 0 * 2 = 0 from rfl] at hx436_1)
          (try rw [Addr.add_zero'] at hx436_1)
          replace p436 := eq_true p436
          replace q436 := eq_true q436
          have p437 : 0 ≤ ((ji72) : Int) := od_
          have q437 : (ji72) < (t403.length : Int) := od_
          obtain ⟨ad437, e437, hx437_0, hx437_1⟩ := at_T78 (Kd.R_reads' HO405.out).2.2 (ji72) p437 q437
          obtain rfl : ad436 = ad437 := (by injection e437)
          replace p437 := eq_true p437
          replace q437 := eq_true q437
          refine start_ (n := 18) (S := fun w' => w'.cell? ad436 = some (.int .i64 ((rd_T78 t403 0).f0)) ∧ w'.cell? ⟨ad436.block, ad436.off + 1, none⟩ = some (.int .i64 ((rd_T78 t403 0).f1)) ∧ w'.cell? (ad436.add (((ji72)).toNat * 2)) = some (.int .i64 ((rd_T78 t403 (ji72)).f0)) ∧ w'.cell? ⟨(ad436.add (((ji72)).toNat * 2)).block, (ad436.add (((ji72)).toNat * 2)).off + 1, none⟩ = some (.int .i64 ((rd_T78 t403 (ji72)).f1))) (ds := [15, 16]) (mk_ 0 18) kr_ rfl rfl ⟨hx436_0, hx436_1, hx437_0, hx437_1⟩ (fun hHeld => ?_); refine with_tabW spec_l02Draw.tab20 spec_l02Draw.bits20 (fun HT_ HW_ => ?_)
          generalize w83.drew = w84 at HO394 HO405 HI0 HK HB hx436_0 hx436_1 hx437_0 hx437_1 hHeld ⊢
          refine pu_ 0 (some 65) (mk_ 1 17) HT_ ?_
          refine pu_ 1 (some 66) (mk_ 2 16) HT_ ?_
          refine pu_ 2 (some 67) (mk_ 3 15) HT_ ?_
          refine pu_ 3 (some 68) (mk_ 4 14) HT_ ?_
          refine pu_ 6 (some 71) #[true, true, true, true, false, false, true, false, false, false, false, false, false, false, false, false, false, false] HT_ ?_
          refine pu_ 7 (some 72) #[true, true, true, true, false, false, true, true, false, false, false, false, false, false, false, false, false, false] HT_ ?_
          refine pu_ 8 (some 73) #[true, true, true, true, false, false, true, true, true, false, false, false, false, false, false, false, false, false] HT_ ?_
          refine pu_ 9 (some 74) #[true, true, true, true, false, false, true, true, true, true, false, false, false, false, false, false, false, false] HT_ ?_
          refine pu_ 10 (some 75) #[true, true, true, true, false, false, true, true, true, true, true, false, false, false, false, false, false, false] HT_ ?_
          refine pu_ 11 (some 76) #[true, true, true, true, false, false, true, true, true, true, true, true, false, false, false, false, false, false] HT_ ?_
          refine tk_ 4 (some 69) #[true, true, true, true, true, false, true, true, true, true, true, true, false, false, false, false, false, false] HT_ HW_ hHeld (hy := .inl ⟨by rfl, by rintro w' ⟨s0, s1, s2, s3⟩; go_simp; with_reducible rfl⟩) ?_
          refine pu_ 5 (some 70) (mk_ 12 6) HT_ ?_
          refine tk_ 12 (some 77) (mk_ 13 5) HT_ HW_ hHeld (hy := .inl ⟨by rfl, by rintro w' ⟨s0, s1, s2, s3⟩; go_simp; with_reducible rfl⟩) ?_
          refine pu_ 13 (some 78) (mk_ 14 4) HT_ ?_
          refine pu_ 14 (some 79) (mk_ 15 3) HT_ ?_
          refine last_ (i := 15) (N := some 80) (mk_ 16 2) rfl rfl (one_of HT_.out kr_) (by decide) (fun K hK => ?_)
          refine value_ (w1 := ?_) (v := ?_) (by rfl) rfl ?_ ?_
          rotate_left 2
          ·go_simp
           constructor
           ·rfl
           ·rfl
          refine hK.out _ _ ?_
          clear hK K
          refine nm_ ?_
          refine last_ (i := 16) (N := some 81) (mk_ 17 1) rfl rfl (one_of HT_.out kr_) (by decide) (fun K hK => ?_)
          refine Kd.R_append_step k78 w.heap.size (by rfl) (.tmp 65) (.tmp 80) 24 78 (.agg #[(.int .i64 0), (.int .i64 0)]) 16 rfl Tryd.underlying24 info78 rfl (by decide) (by omega) (.slice (some ad436) t403.length co81) t403 (⟨wrap64 (((rd_T78 t403 0).f0) + 3), wrap64 (((rd_T78 t403 (ji72)).f1) + 2)⟩ : S78) [.int .i64 (wrap64 (((rd_T78 t403 0).f0) + 3)), .int .i64 (wrap64 (((rd_T78 t403 (ji72)).f1) + 2))] (fun k_ => some k_ ≠ (.slice Ao79 t392.length co79 : Value).ownBlock) (fun _ => False) rfl rfl ?aP (fun _ hk => hk.elim) ?aF ?aO (Below.refl _ _) ?aS ?aL ?_
          (case aP => exact k78_mkM _ _ _ (⟨wrap64 (((rd_T78 t403 0).f0) + 3), wrap64 (((rd_T78 t403 (ji72)).f1) + 2)⟩ : S78))
          (case aF => exact (fun k_ hk => Kd.fresh' (Kd.R_lt (ra_ HO394.out)) k_ hk))
          (case aO => exact (by (with_reducible repeat (first | apply Kd.R_alloc | apply Kd.R_drewN | apply Kd.R_drew)); exact Kd.R_mono HO405.out (fun _ hk => hk.2)))
          (case aS => exact (keep_size (w := w) (g := g) (row := none) (kb0_)))
          (case aL => have := LMc75.out; omega)
          intro v439 w85 ho hb hg hat
          rw [← Ny438.out] at ho
          replace HO394 := a0_ (Kd.R_after (ok := (fun _ => True)) (ra_ HO394.out) hg hat)
          replace HB := a0_ (below_weaken (bl1_ (IsS81.ge HI0.out)) HL.out hb)
          replace HI0 := a0_ (IsS81.grown (is81_ HI0.out) hg (IsS81.own_ne HI0.out HO405.out (by decide)))
          replace HK := a0_ (KeepBut.trans (kb0_) (KeepBut.of_grown hg g) (Kd.R_base2 HO405.out))
          have HO440 := a0_ (ho)
          clear HO405
          clear ho hb hg hat
          refine hK.out _ _ ?_
          clear hK K
          refine nm_ ?_
          refine pu_ 17 (some 2) (mk_ 18 0) HT_ ?_
          refine done_ (done_of HT_.out kr_) ?_
          try go_wp2
          go_ret
          exact ⟨_, by first | rfl | (simp [errW_none, errW_some] <;> rfl) | (simp only [← hji72]; first | rfl | (simp [errW_none, errW_some] <;> rfl)) | (simp [*, errW_none, errW_some] <;> rfl), by (with_reducible repeat (first | apply Kd.R_alloc | apply Kd.R_drewN | apply Kd.R_drew)); exact Kd.R_mono HO440.out (fun _ hk => trivial), is81_ HI0.out, bl1_ (IsS81.ge HI0.out), kb0_⟩
         ·rw [if_neg c75] at H
          exact absurd H (by simp)
        ·rw [if_neg c74] at H
         exact absurd H (by simp)
       ·rw [if_neg c73] at H
        exact absurd H (by simp)
      ·rw [if_neg c71] at H
       exact absurd H (by simp)
     ·rw [if_neg c70] at H
      have c70b0 : (t409 == 4) = false := beq_eq_false_iff_ne.mpr c70
      have c70b1 : (t409 != 4) = true := bne_iff_ne.mpr c70
      by_cases c86 : t409 = 5
      ·rw [if_pos c86] at H
       have c86b0 : (t409 == 5) = true := beq_iff_eq.mpr c86
       have c86b1 : (t409 != 5) = false := bne_eq_false_iff_eq.mpr c86
       clear c86
       by_cases c87 : 0 < (t403.length : Int)
       ·rw [if_pos c87] at H
        have c87b0 : decide (0 < (t403.length : Int)) = true := decide_eq_true c87
        have c87b1 : decide (0 < t403.length) = true := decide_eq_true (by omega)
        clear c87
        obtain ⟨ji88, hji88⟩ : ∃ j_ : Int, (wrap64 ((t403.length : Int) - 1)) = j_ := ⟨_, rfl⟩
        replace H : (if 0 ≤ (ji88) then (if (ji88) < (t403.length : Int) then (if t403.length < 8796093022208 then (some ((t403 ++ [(⟨wrap64 (((rd_T78 t403 0).f0) + 3), wrap64 (((rd_T78 t403 (ji88)).f1) + 2)⟩ : S78)]), t410, t411)) else (none)) else (none)) else (none)) = some (r1, r2, r3) := by first | (rw [hji88] at H; exact H) | (simp only [hji88] at H ⊢; exact H)
        (try rw [hji88] at A2)
        (try rw [hji88] at A3)
        (try rw [hji88] at A4)
        (try rw [hji88] at A5)
        (try rw [hji88] at A6)
        (try rw [hji88] at A7)
        have hji88w : (IntKind.i64.wrap ((t403.length : Int) - 1)) = ji88 := (i64_w _).trans hji88
        by_cases c89 : 0 ≤ (ji88)
        ·rw [if_pos c89] at H
         have c89b0 : decide (0 ≤ (ji88)) = true := decide_eq_true c89
         clear c89
         by_cases c90 : (ji88) < (t403.length : Int)
         ·rw [if_pos c90] at H
          have c90b0 : decide ((ji88) < (t403.length : Int)) = true := decide_eq_true c90
          clear c90
          by_cases c91 : t403.length < 8796093022208
          ·rw [if_pos c91] at H
           have LMc91 := Aside0.mk c91
           clear c91
           obtain ⟨y443, hy443⟩ : ∃ y_ : List (S78), y_ = (t403 ++ [(⟨wrap64 (((rd_T78 t403 0).f0) + 3), wrap64 (((rd_T78 t403 (ji88)).f1) + 2)⟩ : S78)]) := ⟨_, rfl⟩
           replace H : (some (y443, t410, t411)) = some (r1, r2, r3) := hh_ hy443 H
           have Ny443 := Aside0.mk hy443
           clear hy443
           simp only [Option.some.injEq, Prod.mk.injEq] at H
           obtain ⟨rfl, rfl, rfl⟩ := H
           go_enter Tryd.func33, Tryd.ntmps33
           try go_wp2_with (first | ((with_reducible refine gate_callee (f := 62) rfl ?_); refine goesL_ (some 8) rfl rfl Tryd.func62 kr_ rfl #[.pointer (some ⟨g, 0, none⟩), .int .i64 8] rfl ta_ ?_; (with_reducible refine (spec_l02DrawPoly.calls k g s0_0 s0_1 s0_2 8 t392 t395 t396 w0 _ ?side1 ?side2 A2.out).mono ?_); (case side1 => exact is81_ HI0.out); (case side2 => exact bl1_ (IsS81.ge HI0.out)); rintro e w92 ⟨v393, rfl, ho0, hi, hb, hk⟩; refine ⟨_, rfl, ?_⟩; have HO394 := a0_ (Kd.R_lower ho0 (keep_size (w := w) (g := g) (row := none) (kb0_))); replace HK := a0_ (KeepBut.trans (kb0_) hk (.inl rfl)); replace HB := a0_ (hb); replace HI0 := a0_ (hi); (try clear hb); (try clear hb2); (try clear hk); (try clear hi); (try clear ho0)) | ((with_reducible refine gate_callee (f := 58) rfl ?_); refine goesL_ (some 10) rfl rfl Tryd.func58 kr_ rfl #[.pointer (some ⟨g, 0, none⟩), .int .i64 9] rfl ta_ ?_; (with_reducible refine (spec_l01Next.calls g s0_0 t395 t396 9 t397 t398 t399 w0 _ ?side1 ?side2 A3.out).mono ?_); (case side1 => exact is81_ HI0.out); (case side2 => exact bl1_ (IsS81.ge HI0.out)); rintro e w93 ⟨rfl, hi, hb, hk⟩; refine ⟨_, rfl, ?_⟩; replace HO394 := a0_ (Kd.R_mono (Kd.R_keep (IsS81.apart (show IsS81 w0 _ g s0_0 t395 t396 from is81_ HI0.out) (ra_ HO394.out) (by decide)) hk (fun _ h => h.2)) (fun _ h => h.1)); replace HK := a0_ (KeepBut.trans (kb0_) hk (.inl rfl)); replace HB := a0_ (hb); replace HI0 := a0_ (hi); (try clear hb); (try clear hb2); (try clear hk); (try clear hi)) | ((with_reducible refine gate_callee (f := 58) rfl ?_); refine goesL_ (some 13) rfl rfl Tryd.func58 kr_ rfl #[.pointer (some ⟨g, 0, none⟩), .int .i64 9] rfl ta_ ?_; (with_reducible refine (spec_l01Next.calls g s0_0 t398 t399 9 t400 t401 t402 w0 _ ?side1 ?side2 A4.out).mono ?_); (case side1 => exact is81_ HI0.out); (case side2 => exact bl1_ (IsS81.ge HI0.out)); rintro e w94 ⟨rfl, hi, hb, hk⟩; refine ⟨_, rfl, ?_⟩; replace HO394 := a0_ (Kd.R_mono (Kd.R_keep (IsS81.apart (show IsS81 w0 _ g s0_0 t398 t399 from is81_ HI0.out) (ra_ HO394.out) (by decide)) hk (fun _ h => h.2)) (fun _ h => h.1)); replace HK := a0_ (KeepBut.trans (kb0_) hk (.inl rfl)); replace HB := a0_ (hb); replace HI0 := a0_ (hi); (try clear hb); (try clear hb2); (try clear hk); (try clear hi); obtain ⟨Ao95, co95, eo95⟩ := Kd.R_slice HO394.out; subst eo95) | ((with_reducible refine gate_callee (f := 61) rfl ?_); refine goesL_ (some 15) rfl rfl Tryd.func61 kr_ rfl #[.slice Ao95 t392.length co95, .int .i64 (wrap64 (t397 - 4)), .int .i64 (wrap64 (t400 - 4))] rfl ta_ ?_; (with_reducible refine (spec_l02Move.calls k _ _ t392 (wrap64 (t397 - 4)) (wrap64 (t400 - 4)) t403 _ ?side1 ?side2 A5.out).mono ?_); (case side1 => exact ca_ (Kd.R_reads' HO394.out).2.2); (case side2 => exact (Kd.R_reads' HO394.out).2.1); rintro e w96 ⟨v404, rfl, ho0, hb⟩; refine ⟨_, rfl, ?_⟩; have HO405 := a0_ (Kd.R_lower (Kd.R_new' ho0 (Kd.R_lt (ra_ HO394.out))) (keep_size (w := w) (g := g) (row := none) (kb0_))); replace HO394 := a0_ (Kd.R_elder' (ra_ HO394.out) (Kd.R_base ho0) hb); replace HK := a0_ (KeepBut.trans (kb0_) (KeepBut.of_below hb g none) (.inl rfl)); replace HB := a0_ (below_step (bl1_ (IsS81.ge HI0.out)) hb); replace HI0 := a0_ (IsS81.below (is81_ HI0.out) hb); (try clear hb); (try clear hb2); (try clear hk); (try clear hi); (try clear ho0); obtain ⟨Ao97, co97, eo97⟩ := Kd.R_slice HO405.out; subst eo97) | ((with_reducible refine gate_callee (f := 58) rfl ?_); refine goesL_ (some 19) rfl rfl Tryd.func58 kr_ rfl #[.pointer (some ⟨g, 0, none⟩), .int .i64 (t403.length : Int)] rfl ta_ ?_; (with_reducible refine (spec_l01Next.calls g s0_0 t401 t402 (t403.length : Int) t406 t407 t408 w0 _ ?side1 ?side2 A6.out).mono ?_); (case side1 => exact is81_ HI0.out); (case side2 => exact bl1_ (IsS81.ge HI0.out)); rintro e w98 ⟨rfl, hi, hb, hk⟩; refine ⟨_, rfl, ?_⟩; replace HO394 := a0_ (Kd.R_mono (Kd.R_keep (IsS81.apart (show IsS81 w0 _ g s0_0 t401 t402 from is81_ HI0.out) (ra_ HO394.out) (by decide)) hk (fun _ h => h.2)) (fun _ h => h.1)); replace HO405 := a0_ (Kd.R_mono (Kd.R_keep (IsS81.apart (show IsS81 w0 _ g s0_0 t401 t402 from is81_ HI0.out) (ra_ HO405.out) (by decide)) hk (fun _ h => h.2)) (fun _ h => h.1)); replace HK := a0_ (KeepBut.trans (kb0_) hk (.inl rfl)); replace HB := a0_ (hb); replace HI0 := a0_ (hi); (try clear hb); (try clear hb2); (try clear hk); (try clear hi)) | ((with_reducible refine gate_callee (f := 58) rfl ?_); refine goesL_ (some 21) rfl rfl Tryd.func58 kr_ rfl #[.pointer (some ⟨g, 0, none⟩), .int .i64 24] rfl ta_ ?_; (with_reducible refine (spec_l01Next.calls g s0_0 t407 t408 24 t409 t410 t411 w0 _ ?side1 ?side2 A7.out).mono ?_); (case side1 => exact is81_ HI0.out); (case side2 => exact bl1_ (IsS81.ge HI0.out)); rintro e w99 ⟨rfl, hi, hb, hk⟩; refine ⟨_, rfl, ?_⟩; replace HO394 := a0_ (Kd.R_mono (Kd.R_keep (IsS81.apart (show IsS81 w0 _ g s0_0 t407 t408 from is81_ HI0.out) (ra_ HO394.out) (by decide)) hk (fun _ h => h.2)) (fun _ h => h.1)); replace HO405 := a0_ (Kd.R_mono (Kd.R_keep (IsS81.apart (show IsS81 w0 _ g s0_0 t407 t408 from is81_ HI0.out) (ra_ HO405.out) (by decide)) hk (fun _ h => h.2)) (fun _ h => h.1)); replace HK := a0_ (KeepBut.trans (kb0_) hk (.inl rfl)); replace HB := a0_ (hb); replace HI0 := a0_ (hi); (try clear hb); (try clear hb2); (try clear hk); (try clear hi)))
           replace HO394 := a0_ (Kd.R_drew HO394.out)
           replace HO405 := a0_ (Kd.R_drew HO405.out)
           replace HI0 := a0_ (IsS81.drew HI0.out)
           replace HK := a0_ (keep_drew HK.out)
           replace HB := a0_ (below_drew1 HB.out)
           have p441 : 0 ≤ (0 : Int) := (by omega)
           have q441 : 0 < (t403.length : Int) := od_
           obtain ⟨ad441, e441, hx441_0, hx441_1⟩ := at_T78 (Kd.R_reads' HO405.out).2.2 0 p441 q441
           cases e441
           have qi441 : (0 < t403.length) = True := eq_true (by omega)
           (try rw [show ((0 : Int)).toNat = 0 from rfl] at hx441_0)
           (try rw [show 0 * 2 = 0 from rfl] at hx441_0)
           (try rw [Addr.add_zero'] at hx441_0)
           (try rw [show ((0 : Int)).toNat = 0 from rfl] at hx441_1)
           (try rw [show 0 * 2 = 0 from rfl] at hx441_1)
           (try rw [Addr.add_zero'] at hx441_1)
           replace p441 := eq_true p441
           replace q441 := eq_true q441
           have p442 : 0 ≤ ((ji88) : Int) := od_
           have q442 : (ji88) < (t403.length : Int) := od_
           obtain ⟨ad442, e442, hx442_0, hx442_1⟩ := at_T78 (Kd.R_reads' HO405.out).2.2 (ji88) p442 q442
           obtain rfl : ad441 = ad442 := (by injection e442)
           replace p442 := eq_true p442
           replace q442 := eq_true q442
           refine start_ (n := 18) (S := fun w' => w'.cell? ad441 = some (.int .i64 ((rd_T78 t403 0).f0)) ∧ w'.cell? ⟨ad441.block, ad441.off + 1, none⟩ = some (.int .i64 ((rd_T78 t403 0).f1)) ∧ w'.cell? (ad441.add (((ji88)).toNat * 2)) = some (.int .i64 ((rd_T78 t403 (ji88)).f0)) ∧ w'.cell? ⟨(ad441.add (((ji88)).toNat * 2)).block, (ad441.add (((ji88)).toNat * 2)).off + 1, none⟩ = some (.int .i64 ((rd_T78 t403 (ji88)).f1))) (ds := [15, 16]) (mk_ 0 18) kr_ rfl rfl ⟨hx441_0, hx441_1, hx442_0, hx442_1⟩ (fun hHeld => ?_); refine with_tabW spec_l02Draw.tab20 spec_l02Draw.bits20 (fun HT_ HW_ => ?_)
           generalize w99.drew = w100 at HO394 HO405 HI0 HK HB hx441_0 hx441_1 hx442_0 hx442_1 hHeld ⊢
           refine pu_ 0 (some 65) (mk_ 1 17) HT_ ?_
           refine pu_ 1 (some 66) (mk_ 2 16) HT_ ?_
           refine pu_ 2 (some 67) (mk_ 3 15) HT_ ?_
           refine pu_ 3 (some 68) (mk_ 4 14) HT_ ?_
           refine pu_ 6 (some 71) #[true, true, true, true, false, false, true, false, false, false, false, false, false, false, false, false, false, false] HT_ ?_
           refine pu_ 7 (some 72) #[true, true, true, true, false, false, true, true, false, false, false, false, false, false, false, false, false, false] HT_ ?_
           refine pu_ 8 (some 73) #[true, true, true, true, false, false, true, true, true, false, false, false, false, false, false, false, false, false] HT_ ?_
           refine pu_ 9 (some 74) #[true, true, true, true, false, false, true, true, true, true, false, false, false, false, false, false, false, false] HT_ ?_
           refine pu_ 10 (some 75) #[true, true, true, true, false, false, true, true, true, true, true, false, false, false, false, false, false, false] HT_ ?_
           refine pu_ 11 (some 76) #[true, true, true, true, false, false, true, true, true, true, true, true, false, false, false, false, false, false] HT_ ?_
           refine tk_ 4 (some 69) #[true, true, true, true, true, false, true, true, true, true, true, true, false, false, false, false, false, false] HT_ HW_ hHeld (hy := .inl ⟨by rfl, by rintro w' ⟨s0, s1, s2, s3⟩; go_simp; with_reducible rfl⟩) ?_
           refine pu_ 5 (some 70) (mk_ 12 6) HT_ ?_
           refine tk_ 12 (some 77) (mk_ 13 5) HT_ HW_ hHeld (hy := .inl ⟨by rfl, by rintro w' ⟨s0, s1, s2, s3⟩; go_simp; with_reducible rfl⟩) ?_
           refine pu_ 13 (some 78) (mk_ 14 4) HT_ ?_
           refine pu_ 14 (some 79) (mk_ 15 3) HT_ ?_
           refine last_ (i := 15) (N := some 80) (mk_ 16 2) rfl rfl (one_of HT_.out kr_) (by decide) (fun K hK => ?_)
           refine value_ (w1 := ?_) (v := ?_) (by rfl) rfl ?_ ?_
           rotate_left 2
           ·go_simp
            constructor
            ·rfl
            ·rfl
           refine hK.out _ _ ?_
           clear hK K
           refine nm_ ?_
           refine last_ (i := 16) (N := some 81) (mk_ 17 1) rfl rfl (one_of HT_.out kr_) (by decide) (fun K hK => ?_)
           refine Kd.R_append_step k78 w.heap.size (by rfl) (.tmp 65) (.tmp 80) 24 78 (.agg #[(.int .i64 0), (.int .i64 0)]) 16 rfl Tryd.underlying24 info78 rfl (by decide) (by omega) (.slice (some ad441) t403.length co97) t403 (⟨wrap64 (((rd_T78 t403 0).f0) + 3), wrap64 (((rd_T78 t403 (ji88)).f1) + 2)⟩ : S78) [.int .i64 (wrap64 (((rd_T78 t403 0).f0) + 3)), .int .i64 (wrap64 (((rd_T78 t403 (ji88)).f1) + 2))] (fun k_ => some k_ ≠ (.slice Ao95 t392.length co95 : Value).ownBlock) (fun _ => False) rfl rfl ?aP (fun _ hk => hk.elim) ?aF ?aO (Below.refl _ _) ?aS ?aL ?_
           (case aP => exact k78_mkM _ _ _ (⟨wrap64 (((rd_T78 t403 0).f0) + 3), wrap64 (((rd_T78 t403 (ji88)).f1) + 2)⟩ : S78))
           (case aF => exact (fun k_ hk => Kd.fresh' (Kd.R_lt (ra_ HO394.out)) k_ hk))
           (case aO => exact (by (with_reducible repeat (first | apply Kd.R_alloc | apply Kd.R_drewN | apply Kd.R_drew)); exact Kd.R_mono HO405.out (fun _ hk => hk.2)))
           (case aS => exact (keep_size (w := w) (g := g) (row := none) (kb0_)))
           (case aL => have := LMc91.out; omega)
           intro v444 w101 ho hb hg hat
           rw [← Ny443.out] at ho
           replace HO394 := a0_ (Kd.R_after (ok := (fun _ => True)) (ra_ HO394.out) hg hat)
           replace HB := a0_ (below_weaken (bl1_ (IsS81.ge HI0.out)) HL.out hb)
           replace HI0 := a0_ (IsS81.grown (is81_ HI0.out) hg (IsS81.own_ne HI0.out HO405.out (by decide)))
           replace HK := a0_ (KeepBut.trans (kb0_) (KeepBut.of_grown hg g) (Kd.R_base2 HO405.out))
           have HO445 := a0_ (ho)
           clear HO405
           clear ho hb hg hat
           refine hK.out _ _ ?_
           clear hK K
           refine nm_ ?_
           refine pu_ 17 (some 2) (mk_ 18 0) HT_ ?_
           refine done_ (done_of HT_.out kr_) ?_
           try go_wp2
           go_ret
           exact ⟨_, by first | rfl | (simp [errW_none, errW_some] <;> rfl) | (simp only [← hji88]; first | rfl | (simp [errW_none, errW_some] <;> rfl)) | (simp [*, errW_none, errW_some] <;> rfl), by (with_reducible repeat (first | apply Kd.R_alloc | apply Kd.R_drewN | apply Kd.R_drew)); exact Kd.R_mono HO445.out (fun _ hk => trivial), is81_ HI0.out, bl1_ (IsS81.ge HI0.out), kb0_⟩
          ·rw [if_neg c91] at H
           exact absurd H (by simp)
         ·rw [if_neg c90] at H
          exact absurd H (by simp)
        ·rw [if_neg c89] at H
         exact absurd H (by simp)
       ·rw [if_neg c87] at H
        exact absurd H (by simp)
      ·rw [if_neg c86] at H
       have c86b0 : (t409 == 5) = false := beq_eq_false_iff_ne.mpr c86
       have c86b1 : (t409 != 5) = true := bne_iff_ne.mpr c86
       simp only [Option.some.injEq, Prod.mk.injEq] at H
       obtain ⟨rfl, rfl, rfl⟩ := H
       go_enter Tryd.func33, Tryd.ntmps33
       go_wp2_with (first | ((with_reducible refine gate_callee (f := 62) rfl ?_); refine goesL_ (some 8) rfl rfl Tryd.func62 kr_ rfl #[.pointer (some ⟨g, 0, none⟩), .int .i64 8] rfl ta_ ?_; (with_reducible refine (spec_l02DrawPoly.calls k g s0_0 s0_1 s0_2 8 t392 t395 t396 w0 _ ?side1 ?side2 A2.out).mono ?_); (case side1 => exact is81_ HI0.out); (case side2 => exact bl1_ (IsS81.ge HI0.out)); rintro e w102 ⟨v393, rfl, ho0, hi, hb, hk⟩; refine ⟨_, rfl, ?_⟩; have HO394 := a0_ (Kd.R_lower ho0 (keep_size (w := w) (g := g) (row := none) (kb0_))); replace HK := a0_ (KeepBut.trans (kb0_) hk (.inl rfl)); replace HB := a0_ (hb); replace HI0 := a0_ (hi); (try clear hb); (try clear hb2); (try clear hk); (try clear hi); (try clear ho0)) | ((with_reducible refine gate_callee (f := 58) rfl ?_); refine goesL_ (some 10) rfl rfl Tryd.func58 kr_ rfl #[.pointer (some ⟨g, 0, none⟩), .int .i64 9] rfl ta_ ?_; (with_reducible refine (spec_l01Next.calls g s0_0 t395 t396 9 t397 t398 t399 w0 _ ?side1 ?side2 A3.out).mono ?_); (case side1 => exact is81_ HI0.out); (case side2 => exact bl1_ (IsS81.ge HI0.out)); rintro e w103 ⟨rfl, hi, hb, hk⟩; refine ⟨_, rfl, ?_⟩; replace HO394 := a0_ (Kd.R_mono (Kd.R_keep (IsS81.apart (show IsS81 w0 _ g s0_0 t395 t396 from is81_ HI0.out) (ra_ HO394.out) (by decide)) hk (fun _ h => h.2)) (fun _ h => h.1)); replace HK := a0_ (KeepBut.trans (kb0_) hk (.inl rfl)); replace HB := a0_ (hb); replace HI0 := a0_ (hi); (try clear hb); (try clear hb2); (try clear hk); (try clear hi)) | ((with_reducible refine gate_callee (f := 58) rfl ?_); refine goesL_ (some 13) rfl rfl Tryd.func58 kr_ rfl #[.pointer (some ⟨g, 0, none⟩), .int .i64 9] rfl ta_ ?_; (with_reducible refine (spec_l01Next.calls g s0_0 t398 t399 9 t400 t401 t402 w0 _ ?side1 ?side2 A4.out).mono ?_); (case side1 => exact is81_ HI0.out); (case side2 => exact bl1_ (IsS81.ge HI0.out)); rintro e w104 ⟨rfl, hi, hb, hk⟩; refine ⟨_, rfl, ?_⟩; replace HO394 := a0_ (Kd.R_mono (Kd.R_keep (IsS81.apart (show IsS81 w0 _ g s0_0 t398 t399 from is81_ HI0.out) (ra_ HO394.out) (by decide)) hk (fun _ h => h.2)) (fun _ h => h.1)); replace HK := a0_ (KeepBut.trans (kb0_) hk (.inl rfl)); replace HB := a0_ (hb); replace HI0 := a0_ (hi); (try clear hb); (try clear hb2); (try clear hk); (try clear hi); obtain ⟨Ao105, co105, eo105⟩ := Kd.R_slice HO394.out; subst eo105) | ((with_reducible refine gate_callee (f := 61) rfl ?_); refine goesL_ (some 15) rfl rfl Tryd.func61 kr_ rfl #[.slice Ao105 t392.length co105, .int .i64 (wrap64 (t397 - 4)), .int .i64 (wrap64 (t400 - 4))] rfl ta_ ?_; (with_reducible refine (spec_l02Move.calls k _ _ t392 (wrap64 (t397 - 4)) (wrap64 (t400 - 4)) t403 _ ?side1 ?side2 A5.out).mono ?_); (case side1 => exact ca_ (Kd.R_reads' HO394.out).2.2); (case side2 => exact (Kd.R_reads' HO394.out).2.1); rintro e w106 ⟨v404, rfl, ho0, hb⟩; refine ⟨_, rfl, ?_⟩; have HO405 := a0_ (Kd.R_lower (Kd.R_new' ho0 (Kd.R_lt (ra_ HO394.out))) (keep_size (w := w) (g := g) (row := none) (kb0_))); replace HO394 := a0_ (Kd.R_elder' (ra_ HO394.out) (Kd.R_base ho0) hb); replace HK := a0_ (KeepBut.trans (kb0_) (KeepBut.of_below hb g none) (.inl rfl)); replace HB := a0_ (below_step (bl1_ (IsS81.ge HI0.out)) hb); replace HI0 := a0_ (IsS81.below (is81_ HI0.out) hb); (try clear hb); (try clear hb2); (try clear hk); (try clear hi); (try clear ho0); obtain ⟨Ao107, co107, eo107⟩ := Kd.R_slice HO405.out; subst eo107) | ((with_reducible refine gate_callee (f := 58) rfl ?_); refine goesL_ (some 19) rfl rfl Tryd.func58 kr_ rfl #[.pointer (some ⟨g, 0, none⟩), .int .i64 (t403.length : Int)] rfl ta_ ?_; (with_reducible refine (spec_l01Next.calls g s0_0 t401 t402 (t403.length : Int) t406 t407 t408 w0 _ ?side1 ?side2 A6.out).mono ?_); (case side1 => exact is81_ HI0.out); (case side2 => exact bl1_ (IsS81.ge HI0.out)); rintro e w108 ⟨rfl, hi, hb, hk⟩; refine ⟨_, rfl, ?_⟩; replace HO394 := a0_ (Kd.R_mono (Kd.R_keep (IsS81.apart (show IsS81 w0 _ g s0_0 t401 t402 from is81_ HI0.out) (ra_ HO394.out) (by decide)) hk (fun _ h => h.2)) (fun _ h => h.1)); replace HO405 := a0_ (Kd.R_mono (Kd.R_keep (IsS81.apart (show IsS81 w0 _ g s0_0 t401 t402 from is81_ HI0.out) (ra_ HO405.out) (by decide)) hk (fun _ h => h.2)) (fun _ h => h.1)); replace HK := a0_ (KeepBut.trans (kb0_) hk (.inl rfl)); replace HB := a0_ (hb); replace HI0 := a0_ (hi); (try clear hb); (try clear hb2); (try clear hk); (try clear hi)) | ((with_reducible refine gate_callee (f := 58) rfl ?_); refine goesL_ (some 21) rfl rfl Tryd.func58 kr_ rfl #[.pointer (some ⟨g, 0, none⟩), .int .i64 24] rfl ta_ ?_; (with_reducible refine (spec_l01Next.calls g s0_0 t407 t408 24 t409 t410 t411 w0 _ ?side1 ?side2 A7.out).mono ?_); (case side1 => exact is81_ HI0.out); (case side2 => exact bl1_ (IsS81.ge HI0.out)); rintro e w109 ⟨rfl, hi, hb, hk⟩; refine ⟨_, rfl, ?_⟩; replace HO394 := a0_ (Kd.R_mono (Kd.R_keep (IsS81.apart (show IsS81 w0 _ g s0_0 t407 t408 from is81_ HI0.out) (ra_ HO394.out) (by decide)) hk (fun _ h => h.2)) (fun _ h => h.1)); replace HO405 := a0_ (Kd.R_mono (Kd.R_keep (IsS81.apart (show IsS81 w0 _ g s0_0 t407 t408 from is81_ HI0.out) (ra_ HO405.out) (by decide)) hk (fun _ h => h.2)) (fun _ h => h.1)); replace HK := a0_ (KeepBut.trans (kb0_) hk (.inl rfl)); replace HB := a0_ (hb); replace HI0 := a0_ (hi); (try clear hb); (try clear hb2); (try clear hk); (try clear hi)))
       go_ret
       exact ⟨_, er_, by (with_reducible repeat (first | apply Kd.R_alloc | apply Kd.R_drewN | apply Kd.R_drew)); exact Kd.R_mono HO405.out (fun _ hk => trivial), is81_ HI0.out, bl1_ (IsS81.ge HI0.out), kb0_⟩

end Go.Proofs.YtopceddgiddhlaaDoor.PFnRolled
