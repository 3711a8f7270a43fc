/- Over the kit's printer by a driver of mine (hprint.py), with parts by hand: functions of the program as Lean functions, and that each call comes to exactly these answers. -/
import Derived.Test.YtmdjkmfocgelnaaGreatPFnListedx0
import Derived.Test.YtmdjkmfocgelnaaGreatPFnListedx3
import Derived.Test.YtmdjkmfocgelnaaGreatPFnListedx8
import Derived.Test.YtmdjkmfocgelnaaGreatPFnListedx12
namespace Go.Proofs.YtmdjkmfocgelnaaGreat.PFnListed
open Go.RowKit Go.Proofs.YtmdjkmfocgelnaaGreatW.PrintWords Go.Proofs.YtmdjkmfocgelnaaGreatW.PrintLast Go.Proofs.YtmdjkmfocgelnaaGreatW.PrintMore
attribute [local go_sem] max2_int min2_int max_two min_two max_three min_three max_four min_four   -- for this text's walks alone
set_option linter.unusedVariables false
set_option linter.unusedSimpArgs false

/-! ### spec_l02Draw: function 55 -/
def spec_l02Draw.l0 : Nat → List (S46) → Int → List Int → Int → Int → Option ((List (S46)) × Int × Int)
 | 0, _, _, _, _, _ => none
 | k + 1, x5, x6, x1000, x1001, x1002 => (spec_l01Next.f x1000 x1001 x1002 2).bind fun bt356 => (if x6 < (wrap64 (40 + bt356.1)) then (if x5.length < 8796093022208 then (spec_l02Draw.l0 k (x5 ++ [(⟨x6, 0⟩ : S46)]) (wrap64 (x6 + 1)) x1000 bt356.2.1 bt356.2.2) else (none)) else (some (x5, bt356.2.1, bt356.2.2)))
def spec_l02Draw.f (k : Nat) (s0_0 : List Int) (s0_1 : Int) (s0_2 : Int) : Option ((List (S46)) × Int × Int) := (spec_l02DrawPoly.f k s0_0 s0_1 s0_2 8).bind fun bt318 => ((spec_l01Next.f s0_0 bt318.2.1 bt318.2.2 9).bind fun bt323 => ((spec_l01Next.f s0_0 bt323.2.1 bt323.2.2 9).bind fun bt326 => ((spec_l02Move.f k bt318.1 (wrap64 (bt323.1 - 4)) (wrap64 (bt326.1 - 4))).bind fun t329 => ((spec_l01Next.f s0_0 bt326.2.1 bt326.2.2 (t329.length : Int)).bind fun bt332 => ((spec_l01Next.f s0_0 bt332.2.1 bt332.2.2 24).bind fun bt335 => (if bt335.1 = 0 then ((some (([(-100), 100, 101] : List Int) : List Int)).bind fun y338 => ((spec_l01Next.f s0_0 bt335.2.1 bt335.2.2 3).bind fun bt341 => (if 0 ≤ bt341.1 then (if bt341.1 < (y338.length : Int) then (if 0 ≤ bt332.1 then (if bt332.1 < (t329.length : Int) then ((spec_l02Sort.f k (t329.set (bt332.1 : Int).toNat (⟨rd y338 bt341.1, (rd_T46 t329 bt332.1).f1⟩ : S46))).bind fun t346 => (some (t346, bt341.2.1, bt341.2.2))) else (none)) else (none)) else (none)) else (none)))) else (if bt335.1 = 1 then (if 0 ≤ bt332.1 then (if bt332.1 < (t329.length : Int) then (if t329.length < 8796093022208 then (some ((t329 ++ [(⟨(rd_T46 t329 bt332.1).f0, (rd_T46 t329 bt332.1).f1⟩ : S46)]), bt335.2.1, bt335.2.2)) else (none)) else (none)) else (none)) else (if bt335.1 = 2 then (some (([] : List (S46)), bt335.2.1, bt335.2.2)) else (if bt335.1 = 3 then (spec_l02Draw.l0 k (([] : List (S46))) 0 s0_0 bt335.2.1 bt335.2.2) else (if bt335.1 = 4 then (if 0 < (t329.length : Int) then (if 0 ≤ (wrap64 ((t329.length : Int) - 1)) then (if (wrap64 ((t329.length : Int) - 1)) < (t329.length : Int) then (if t329.length < 8796093022208 then (some ((t329 ++ [(⟨wrap64 (((rd_T46 t329 0).f0) + 3), wrap64 (((rd_T46 t329 (wrap64 ((t329.length : Int) - 1))).f1) + 2)⟩ : S46)]), bt335.2.1, bt335.2.2)) else (none)) else (none)) else (none)) else (none)) else (if bt335.1 = 5 then (if 0 < (t329.length : Int) then (if 0 ≤ (wrap64 ((t329.length : Int) - 1)) then (if (wrap64 ((t329.length : Int) - 1)) < (t329.length : Int) then (if t329.length < 8796093022208 then (some ((t329 ++ [(⟨wrap64 (((rd_T46 t329 0).f0) + 3), wrap64 (((rd_T46 t329 (wrap64 ((t329.length : Int) - 1))).f1) + 2)⟩ : S46)]), bt335.2.1, bt335.2.2)) else (none)) else (none)) else (none)) else (none)) else (some (t329, bt335.2.1, bt335.2.2)))))))))))))
theorem spec_l02Draw.mono_l : ∀ k, (∀ y0 y1 y2 y3 y4, LeO (spec_l02Draw.l0 k y0 y1 y2 y3 y4) (spec_l02Draw.l0 (k + 1) y0 y1 y2 y3 y4))
 | 0 => fun _ _ _ _ _ r h => by simp [spec_l02Draw.l0] at h
 | k + 1 => by
  have ih0 := spec_l02Draw.mono_l k
  ·intro y0 y1 y2 y3 y4
   unfold spec_l02Draw.l0
   with_reducible (repeat' first | exact ih0 _ _ _ _ _ | exact spec_l02DrawPoly.mono _ _ _ _ _ | exact spec_l02Move.mono _ _ _ _ | exact spec_l02Sort.mono _ _ | exact LeO.refl _ | exact LeO.none _ | refine LeO.ite ?_ ?_ | refine LeO.bind ?_ (fun _ => ?_))
theorem spec_l02Draw.mono : ∀ a0 a1 a2 k, LeO (spec_l02Draw.f k a0 a1 a2) (spec_l02Draw.f (k + 1) a0 a1 a2) := by
 intro a0 a1 a2 k
 have ih0 := spec_l02Draw.mono_l k
 unfold spec_l02Draw.f
 with_reducible (repeat' first | exact ih0 _ _ _ _ _ | exact spec_l02DrawPoly.mono _ _ _ _ _ | exact spec_l02Move.mono _ _ _ _ | exact spec_l02Sort.mono _ _ | exact LeO.refl _ | exact LeO.none _ | refine LeO.ite ?_ ?_ | refine LeO.bind ?_ (fun _ => ?_))
def spec_l02Draw.T20 : Bool × List (List Nat × List Nat) := (true, [([], []), ([], []), ([1], [1]), ([2], [2]), ([3], [3]), ([4], [4]), ([], []), ([], []), ([7], [7]), ([8], [8]), ([6, 9], [6, 9]), ([10], [10]), ([11], [11]), ([12], [12]), ([5, 13], [5, 13]), ([14], [14]), ([0, 15], [0, 15]), ([16, 16, 0, 1, 2, 3, 4, 5, 6, 7, 8, 9, 10, 11, 12, 13, 14, 15, 16], [16])])
def spec_l02Draw.B20 : List Nat := [0, 0, 2, 6, 14, 30, 0, 0, 128, 384, 960, 1984, 4032, 8128, 16382, 32766, 65535, 131071]
theorem spec_l02Draw.tab20 : rtab .any (opsOf Tryz.f55 20) = spec_l02Draw.T20 := by kernel_rfl
theorem spec_l02Draw.bits20 : waitsOk spec_l02Draw.T20.2 spec_l02Draw.B20 = true := by kernel_rfl
set_option maxHeartbeats 8000000 in
set_option maxRecDepth 100000 in
theorem spec_l02Draw.calls (k : Nat) (g : Nat) (s0_0 : List Int) (s0_1 : Int) (s0_2 : Int) (r1 : List (S46)) (r2 : Int) (r3 : Int) (w0 w : World) (hI : IsS85 w0 w g s0_0 s0_1 s0_2) (hB : Below w0.heap.size w0 w) (h : spec_l02Draw.f k s0_0 s0_1 s0_2 = some (r1, r2, r3)) :
  Calls Tryz.prog 55 #[.pointer (some ⟨g, 0, none⟩)] w fun e w' => ∃ v0_ : Value, e = .returned (v0_) ∧ Kd.R k46 46 w' w.heap.size (fun _ => True) v0_ r1 ∧ IsS85 w0 w' g s0_0 r2 r3 ∧ Below w0.heap.size w0 w' ∧ KeepBut w w' g none := by
 have hu46 := Tryz.underlying46
 have HI0 := Aside0.mk hI
 have HK := a0_ (KeepBut.refl w g none)
 have HL := Aside0.mk hB.size
 clear hI
 have HW0 := Aside0.mk hB.size
 have HB := Aside0.mk hB
 clear hB
 have H := h
 clear h
 unfold spec_l02Draw.f at H
 obtain ⟨⟨t318, t321, t322⟩, A2, H⟩ := bs_ H
 dsimp only at H
 obtain ⟨⟨t323, t324, t325⟩, A3, H⟩ := bs_ H
 dsimp only at H
 obtain ⟨⟨t326, t327, t328⟩, A4, H⟩ := bs_ H
 dsimp only at H
 obtain ⟨t329, A5, H⟩ := bs_ H
 obtain ⟨⟨t332, t333, t334⟩, A6, H⟩ := bs_ H
 dsimp only at H
 obtain ⟨⟨t335, t336, t337⟩, A7, H⟩ := bs_ H
 dsimp only at H
 by_cases c8 : t335 = 0
 ·rw [if_pos c8] at H
  have c8b0 : (t335 == 0) = true := beq_iff_eq.mpr c8
  have c8b1 : (t335 != 0) = false := bne_eq_false_iff_eq.mpr c8
  clear c8
  obtain ⟨y338, hy338⟩ : ∃ y_ : List Int, y_ = (([(-100), 100, 101] : List Int)) := ⟨_, rfl⟩
  replace H : ((spec_l01Next.f s0_0 t336 t337 3).bind fun bt341 => (if 0 ≤ bt341.1 then (if bt341.1 < (y338.length : Int) then (if 0 ≤ t332 then (if t332 < (t329.length : Int) then ((spec_l02Sort.f k (t329.set (t332 : Int).toNat (⟨rd y338 bt341.1, (rd_T46 t329 t332).f1⟩ : S46))).bind fun t346 => (some (t346, bt341.2.1, bt341.2.2))) else (none)) else (none)) else (none)) else (none))) = some (r1, r2, r3) := hh_ hy338 H
  have Ny338 := Aside0.mk hy338
  clear hy338
  obtain ⟨⟨t341, t342, t343⟩, A9, H⟩ := bs_ H
  dsimp only at H
  by_cases c10 : 0 ≤ t341
  ·rw [if_pos c10] at H
   have c10b0 : decide (0 ≤ t341) = true := decide_eq_true c10
   clear c10
   by_cases c11 : t341 < (y338.length : Int)
   ·rw [if_pos c11] at H
    have c11b0 : decide (t341 < (y338.length : Int)) = true := decide_eq_true c11
    clear c11
    by_cases c12 : 0 ≤ t332
    ·rw [if_pos c12] at H
     have c12b0 : decide (0 ≤ t332) = true := decide_eq_true c12
     clear c12
     by_cases c13 : t332 < (t329.length : Int)
     ·rw [if_pos c13] at H
      have c13b0 : decide (t332 < (t329.length : Int)) = true := decide_eq_true c13
      clear c13
      obtain ⟨y345, hy345⟩ : ∃ y_ : List (S46), y_ = (t329.set (t332 : Int).toNat (⟨rd y338 t341, (rd_T46 t329 t332).f1⟩ : S46)) := ⟨_, rfl⟩
      replace H : ((spec_l02Sort.f k y345).bind fun t346 => (some (t346, t342, t343))) = some (r1, r2, r3) := hh_ hy345 H
      have Ny345 := Aside0.mk hy345
      clear hy345
      obtain ⟨t346, A15, H⟩ := bs_ H
      simp only [Option.some.injEq, Prod.mk.injEq] at H
      obtain ⟨rfl, rfl, rfl⟩ := H
      go_enter Tryz.func55, Tryz.ntmps55
      go_wp2_with (first | ((with_reducible refine gate_callee (f := 57) rfl ?_); refine goesL_ (some 8) rfl rfl Tryz.func57 kr_ rfl #[.pointer (some ⟨g, 0, none⟩), .int .i64 8] rfl ta_ ?_; (with_reducible refine (spec_l02DrawPoly.calls k g s0_0 s0_1 s0_2 8 t318 t321 t322 w0 _ ?side1 ?side2 A2.out).mono ?_); (case side1 => exact is85_ HI0.out); (case side2 => exact bl1_ (IsS85.ge HI0.out)); rintro e w16 ⟨v319, rfl, ho0, hi, hb, hk⟩; refine ⟨_, rfl, ?_⟩; have HO320 := a0_ (Kd.R_lower ho0 (keep_size (w := w) (g := g) (row := none) (kb0_))); replace HK := a0_ (KeepBut.trans (kb0_) hk (.inl rfl)); replace HB := a0_ (hb); replace HI0 := a0_ (hi); (try clear hb); (try clear hb2); (try clear hk); (try clear hi); (try clear ho0)) | ((with_reducible refine gate_callee (f := 38) rfl ?_); refine goesL_ (some 10) rfl rfl Tryz.func38 kr_ rfl #[.pointer (some ⟨g, 0, none⟩), .int .i64 9] rfl ta_ ?_; (with_reducible refine (spec_l01Next.calls g s0_0 t321 t322 9 t323 t324 t325 w0 _ ?side1 ?side2 A3.out).mono ?_); (case side1 => exact is85_ HI0.out); (case side2 => exact bl1_ (IsS85.ge HI0.out)); rintro e w17 ⟨rfl, hi, hb, hk⟩; refine ⟨_, rfl, ?_⟩; replace HO320 := a0_ (Kd.R_mono (Kd.R_keep (IsS85.apart (show IsS85 w0 _ g s0_0 t321 t322 from is85_ HI0.out) (ra_ HO320.out) (by decide)) hk (fun _ h => h.2)) (fun _ h => h.1)); replace HK := a0_ (KeepBut.trans (kb0_) hk (.inl rfl)); replace HB := a0_ (hb); replace HI0 := a0_ (hi); (try clear hb); (try clear hb2); (try clear hk); (try clear hi)) | ((with_reducible refine gate_callee (f := 38) rfl ?_); refine goesL_ (some 13) rfl rfl Tryz.func38 kr_ rfl #[.pointer (some ⟨g, 0, none⟩), .int .i64 9] rfl ta_ ?_; (with_reducible refine (spec_l01Next.calls g s0_0 t324 t325 9 t326 t327 t328 w0 _ ?side1 ?side2 A4.out).mono ?_); (case side1 => exact is85_ HI0.out); (case side2 => exact bl1_ (IsS85.ge HI0.out)); rintro e w18 ⟨rfl, hi, hb, hk⟩; refine ⟨_, rfl, ?_⟩; replace HO320 := a0_ (Kd.R_mono (Kd.R_keep (IsS85.apart (show IsS85 w0 _ g s0_0 t324 t325 from is85_ HI0.out) (ra_ HO320.out) (by decide)) hk (fun _ h => h.2)) (fun _ h => h.1)); replace HK := a0_ (KeepBut.trans (kb0_) hk (.inl rfl)); replace HB := a0_ (hb); replace HI0 := a0_ (hi); (try clear hb); (try clear hb2); (try clear hk); (try clear hi); obtain ⟨Ao19, co19, eo19⟩ := Kd.R_slice HO320.out; subst eo19) | ((with_reducible refine gate_callee (f := 56) rfl ?_); refine goesL_ (some 15) rfl rfl Tryz.func56 kr_ rfl #[.slice Ao19 t318.length co19, .int .i64 (wrap64 (t323 - 4)), .int .i64 (wrap64 (t326 - 4))] rfl ta_ ?_; (with_reducible refine (spec_l02Move.calls k _ _ t318 (wrap64 (t323 - 4)) (wrap64 (t326 - 4)) t329 _ ?side1 ?side2 A5.out).mono ?_); (case side1 => exact ca_ (Kd.R_reads' HO320.out).2.2); (case side2 => exact (Kd.R_reads' HO320.out).2.1); rintro e w20 ⟨v330, rfl, ho0, hb⟩; refine ⟨_, rfl, ?_⟩; have HO331 := a0_ (Kd.R_lower (Kd.R_new' ho0 (Kd.R_lt (ra_ HO320.out))) (keep_size (w := w) (g := g) (row := none) (kb0_))); replace HO320 := a0_ (Kd.R_elder' (ra_ HO320.out) (Kd.R_base ho0) hb); replace HK := a0_ (KeepBut.trans (kb0_) (KeepBut.of_below hb g none) (.inl rfl)); replace HB := a0_ (below_step (bl1_ (IsS85.ge HI0.out)) hb); replace HI0 := a0_ (IsS85.below (is85_ HI0.out) hb); (try clear hb); (try clear hb2); (try clear hk); (try clear hi); (try clear ho0); obtain ⟨Ao21, co21, eo21⟩ := Kd.R_slice HO331.out; subst eo21) | ((with_reducible refine gate_callee (f := 38) rfl ?_); refine goesL_ (some 19) rfl rfl Tryz.func38 kr_ rfl #[.pointer (some ⟨g, 0, none⟩), .int .i64 (t329.length : Int)] rfl ta_ ?_; (with_reducible refine (spec_l01Next.calls g s0_0 t327 t328 (t329.length : Int) t332 t333 t334 w0 _ ?side1 ?side2 A6.out).mono ?_); (case side1 => exact is85_ HI0.out); (case side2 => exact bl1_ (IsS85.ge HI0.out)); rintro e w22 ⟨rfl, hi, hb, hk⟩; refine ⟨_, rfl, ?_⟩; replace HO320 := a0_ (Kd.R_mono (Kd.R_keep (IsS85.apart (show IsS85 w0 _ g s0_0 t327 t328 from is85_ HI0.out) (ra_ HO320.out) (by decide)) hk (fun _ h => h.2)) (fun _ h => h.1)); replace HO331 := a0_ (Kd.R_mono (Kd.R_keep (IsS85.apart (show IsS85 w0 _ g s0_0 t327 t328 from is85_ HI0.out) (ra_ HO331.out) (by decide)) hk (fun _ h => h.2)) (fun _ h => h.1)); replace HK := a0_ (KeepBut.trans (kb0_) hk (.inl rfl)); replace HB := a0_ (hb); replace HI0 := a0_ (hi); (try clear hb); (try clear hb2); (try clear hk); (try clear hi)) | ((with_reducible refine gate_callee (f := 38) rfl ?_); refine goesL_ (some 21) rfl rfl Tryz.func38 kr_ rfl #[.pointer (some ⟨g, 0, none⟩), .int .i64 24] rfl ta_ ?_; (with_reducible refine (spec_l01Next.calls g s0_0 t333 t334 24 t335 t336 t337 w0 _ ?side1 ?side2 A7.out).mono ?_); (case side1 => exact is85_ HI0.out); (case side2 => exact bl1_ (IsS85.ge HI0.out)); rintro e w23 ⟨rfl, hi, hb, hk⟩; refine ⟨_, rfl, ?_⟩; replace HO320 := a0_ (Kd.R_mono (Kd.R_keep (IsS85.apart (show IsS85 w0 _ g s0_0 t333 t334 from is85_ HI0.out) (ra_ HO320.out) (by decide)) hk (fun _ h => h.2)) (fun _ h => h.1)); replace HO331 := a0_ (Kd.R_mono (Kd.R_keep (IsS85.apart (show IsS85 w0 _ g s0_0 t333 t334 from is85_ HI0.out) (ra_ HO331.out) (by decide)) hk (fun _ h => h.2)) (fun _ h => h.1)); replace HK := a0_ (KeepBut.trans (kb0_) hk (.inl rfl)); replace HB := a0_ (hb); replace HI0 := a0_ (hi); (try clear hb); (try clear hb2); (try clear hk); (try clear hi)) | ((with_reducible refine gate_dst (N := 26) rfl ?_); refine Kd.R_lit (Kd.int .i64) _ 2 ?hg (N := 26) ?hd (xs := ([(-100), 100, 101] : List Int)) (inner := [.int .i64 (-100), .int .i64 100, .int .i64 101]) (ok := fun _ => True) (okp := fun _ => True) ?hr ?hp (fun _ hk => hk) trivial (Below.refl _ _) (Nat.le_refl _) (by simp) ?_; (case hd => rfl); (case hg => rfl); (case hr => first | (go_simp; done) | (go_simp; rfl)); (case hp => exact (Reps.one (show Kd.M (Kd.int .i64) _ _ _ (-100) [.int .i64 (-100)] from rfl) (Reps.one (show Kd.M (Kd.int .i64) _ _ _ 100 [.int .i64 100] from rfl) (Reps.one (show Kd.M (Kd.int .i64) _ _ _ 101 [.int .i64 101] from rfl) (Reps.none _ _))))); intro v339 w24 ho25 hb hg_ hnew_; clear hg_ hnew_; (first | rw [← Ny338.out] at ho25 | (simp only [Int.reduceToNat] at ho25; rw [← Ny338.out] at ho25)); replace HO320 := a0_ (Kd.R_below (ra_ HO320.out) hb); replace HO331 := a0_ (Kd.R_below (ra_ HO331.out) hb); have HO340 := a0_ (Kd.R_lower ho25 (keep_size (w := w) (g := g) (row := none) (kb0_))); replace HK := a0_ (KeepBut.trans (kb0_) (KeepBut.of_below hb g none) (.inl rfl)); replace HB := a0_ (below_step (bl1_ (IsS85.ge HI0.out)) hb); replace HI0 := a0_ (IsS85.below (is85_ HI0.out) hb); clear hb ho25) | ((with_reducible refine gate_callee (f := 38) rfl ?_); refine goesL_ (some 28) rfl rfl Tryz.func38 kr_ rfl #[.pointer (some ⟨g, 0, none⟩), .int .i64 3] rfl ta_ ?_; (with_reducible refine (spec_l01Next.calls g s0_0 t336 t337 3 t341 t342 t343 w0 _ ?side1 ?side2 A9.out).mono ?_); (case side1 => exact is85_ HI0.out); (case side2 => exact bl1_ (IsS85.ge HI0.out)); rintro e w26 ⟨rfl, hi, hb, hk⟩; refine ⟨_, rfl, ?_⟩; replace HO320 := a0_ (Kd.R_mono (Kd.R_keep (IsS85.apart (show IsS85 w0 _ g s0_0 t336 t337 from is85_ HI0.out) (ra_ HO320.out) (by decide)) hk (fun _ h => h.2)) (fun _ h => h.1)); replace HO331 := a0_ (Kd.R_mono (Kd.R_keep (IsS85.apart (show IsS85 w0 _ g s0_0 t336 t337 from is85_ HI0.out) (ra_ HO331.out) (by decide)) hk (fun _ h => h.2)) (fun _ h => h.1)); replace HO340 := a0_ (Kd.R_mono (Kd.R_keep (IsS85.apart (show IsS85 w0 _ g s0_0 t336 t337 from is85_ HI0.out) (ra_ HO340.out) (by decide)) hk (fun _ h => h.2)) (fun _ h => h.1)); replace HK := a0_ (KeepBut.trans (kb0_) hk (.inl rfl)); replace HB := a0_ (hb); replace HI0 := a0_ (hi); (try clear hb); (try clear hb2); (try clear hk); (try clear hi); obtain ⟨Ao27, co27, eo27⟩ := Kd.R_slice HO340.out; subst eo27; have p344 : 0 ≤ (t341 : Int) := od_; have q344 : t341 < (y338.length : Int) := od_; obtain ⟨ad344, e344, hx344_0⟩ := Kd.at_int (Kd.R_reads' HO340.out).2.2 t341 p344 q344; cases e344; replace p344 := eq_true p344; replace q344 := eq_true q344; have p14 : 0 ≤ (t332 : Int) := od_; have q14 : (t332 : Int) < ((t329.length : Int) : Int) := od_; obtain ⟨go14, co14, eo14, gb14, gl14, cl14, HG14⟩ := Kd.R_form HO331.out (by omega); (first | cases eo14 | (injection eo14 with ea_ en_ ec_; (first | subst ea_ | (injection ea_ with ea_; subst ea_)); subst ec_; clear en_)); have GB14 := Aside0.mk gb14; have GG14 := Aside0.mk HG14; clear gb14 gl14 HG14; obtain ⟨ce14, hcl14, hM14, hcc14, hfr14⟩ := Kd.R_elem HO331.out z46 (t332 : Int) p14 q14; obtain rfl := k46_openM hM14; have hx14_0 : w26.cell? ⟨go14, (t332 : Int).toNat * 2, none⟩ = some (.int .i64 ((rd_T46 t329 t332).f0)) := hcc14 0 _ rfl; have hx14_1 : w26.cell? ⟨go14, (t332 : Int).toNat * 2 + 1, none⟩ = some (.int .i64 ((rd_T46 t329 t332).f1)) := hcc14 1 _ rfl; have hf14_0 : w26.frozen? ⟨go14, (t332 : Int).toNat * 2, none⟩ = false := hfr14 0; have hf14_1 : w26.frozen? ⟨go14, (t332 : Int).toNat * 2 + 1, none⟩ = false := hfr14 1; clear hcl14 hcc14 hfr14 hM14; replace p14 := eq_true p14; replace q14 := eq_true q14; have n_ := a0_ (Kd.R_mono (ok' := (fun k_ => some k_ ≠ (.slice Ao19 t318.length co19 : Value).ownBlock)) HO331.out (fun k_ hk => hk.2)); clear HO331; have HO331 := n_; clear n_; have HX28 := a0_ (show Kd.R k46 46 w26 w.heap.size (fun k_ => some k_ ≠ (.slice Ao19 t318.length co19 : Value).ownBlock) (.slice (some ⟨go14, 0, none⟩) t329.length co21) t329 from (ra_ HO331.out)); obtain ⟨ce28, hcl28, hM28, hcc28, hfr28⟩ := Kd.R_elem HX28.out z46 (t332 : Int) (od_) (by have h_ : (t332 : Int) < ((t329.length : Int) : Int) := od_; first | exact h_ | (have e_ := (Kd.R_reads' HO331.out).1; omega) | simpa using h_); obtain rfl := k46_openM hM28; have HP28 := Kd.R_seg HX28.out (t332 : Int) (od_) (by have h_ : (t332 : Int) < ((t329.length : Int) : Int) := od_; first | exact h_ | (have e_ := (Kd.R_reads' HO331.out).1; omega) | simpa using h_) (seg := [.int .i64 (rd y338 t341)]) (j := 0) hcl28 hcc28 (show 1 ≤ 2 from by decide) (x' := (⟨rd y338 t341, (rd_T46 t329 t332).f1⟩ : S46)) (k46_mkM _ _ _ (⟨rd y338 t341, (rd_T46 t329 t332).f1⟩ : S46) ) (fun _ hk => hk); have hx28_0 := hcc28 0 _ rfl; (try simp only [show (k46).sz = 2 from rfl, Nat.mul_one, Nat.add_zero] at hx28_0); have hf28_0 := hfr28 0; (try simp only [show (k46).sz = 2 from rfl, Nat.mul_one, Nat.add_zero] at hf28_0); clear hcl28 hcc28 hfr28 hM28) | ((with_reducible refine gate_store (t := 2) (p := 32) rfl ?_); refine store_event (t := 2) (p := 32) (v := ?vo_w29) (w1 := (w26.setCell ⟨go14, (t332 : Int).toNat * 2, none⟩ (.int .i64 (rd y338 t341)))) ?hg ?ho ?hn ?hr ?_; (case ho => rfl); (case hg => rfl); (case hn => rfl); (case hr => first | (go_simp; done) | (go_simp; rfl)); intro w29 hw; have hg : w26.grownBy w29 (some go14) := (by rw [hw]; exact HP28.2); have hp_ : Kd.R k46 46 w29 w.heap.size (fun k_ => some k_ ≠ (.slice Ao19 t318.length co19 : Value).ownBlock) (.slice (some ⟨go14, 0, none⟩) t329.length co21) y345 := (by rw [hw, Ny345.out]; exact HP28.1); clear HP28; replace HI0 := a0_ (IsS85.grown (is85_ HI0.out) hg (IsS85.own_ne HI0.out HO331.out (by decide))); replace HO320 := a0_ (Kd.R_after (v := (.slice (some ⟨go14, 0, none⟩) t329.length co21)) (v1 := (.slice (some ⟨go14, 0, none⟩) t329.length co21)) (ok := (fun _ => True)) (ra_ HO320.out) hg (.inl rfl)); replace HO340 := a0_ (Kd.R_over' (v := (.slice (some ⟨go14, 0, none⟩) t329.length co21)) (ra_ HO340.out) (Kd.R_typed HO331.out) (by decide) hg); replace HB := a0_ ((by rw [hw]; exact below_set (HB.out) (Nat.le_trans HL.out GB14.out) : Below w0.heap.size w0 w29)); replace HK := a0_ (KeepBut.trans (kb0_) (KeepBut.of_grown hg g) (Kd.R_base2 HO331.out)); replace HO331 := a0_ (hp_); clear hg hw hp_) | ((with_reducible refine gate_callee (f := 96) rfl ?_); refine goesL_ (some 34) rfl rfl Tryz.func96 kr_ rfl #[.slice (some ⟨go14, 0, none⟩) y345.length co21] rfl (by (try simp only [List.map_toArray, List.map_cons, List.map_nil]); first | done | (rw [show y345.length = t329.length from (Kd.R_reads' HO331.out).1.symm] <;> rfl) | rfl | (simp only [List.length_drop, List.length_take]; rfl)) ?_; (with_reducible refine (spec_l02Sort.calls k _ _ y345 t346 _ ?side1 ?side2 A15.out).mono ?_); (case side1 => exact ca_ (Kd.R_reads' HO331.out).2.2); (case side2 => rw [show y345.length = t329.length from (Kd.R_reads' HO331.out).1.symm]; exact (Kd.R_reads' HO331.out).2.1); rintro e w30 ⟨v347, rfl, ho0, hb⟩; refine ⟨_, rfl, ?_⟩; replace HO340 := a0_ (Kd.R_below (ra_ HO340.out) hb); have HO348 := a0_ (Kd.R_lower (Kd.R_new' (Kd.R_new' ho0 (Kd.R_lt (ra_ HO320.out))) (Kd.R_lt (ra_ HO331.out))) (keep_size (w := w) (g := g) (row := none) (kb0_))); replace HO320 := a0_ (Kd.R_elder' (ra_ HO320.out) (Kd.R_base ho0) hb); replace HO331 := a0_ (Kd.R_elder' (ra_ HO331.out) (Kd.R_base ho0) hb); replace HK := a0_ (KeepBut.trans (kb0_) (KeepBut.of_below hb g none) (.inl rfl)); replace HB := a0_ (below_step (bl1_ (IsS85.ge HI0.out)) hb); replace HI0 := a0_ (IsS85.below (is85_ HI0.out) hb); (try clear hb); (try clear hb2); (try clear hk); (try clear hi); (try clear ho0)))
      go_ret
      exact ⟨_, er_, by (with_reducible repeat (first | apply Kd.R_alloc | apply Kd.R_drewN | apply Kd.R_drew)); exact Kd.R_mono HO348.out (fun _ hk => trivial), is85_ HI0.out, bl1_ (IsS85.ge HI0.out), kb0_⟩
     ·rw [if_neg c13] at H
      exact absurd H (by simp)
    ·rw [if_neg c12] at H
     exact absurd H (by simp)
   ·rw [if_neg c11] at H
    exact absurd H (by simp)
  ·rw [if_neg c10] at H
   exact absurd H (by simp)
 ·rw [if_neg c8] at H
  have c8b0 : (t335 == 0) = false := beq_eq_false_iff_ne.mpr c8
  have c8b1 : (t335 != 0) = true := bne_iff_ne.mpr c8
  by_cases c31 : t335 = 1
  ·rw [if_pos c31] at H
   have c31b0 : (t335 == 1) = true := beq_iff_eq.mpr c31
   have c31b1 : (t335 != 1) = false := bne_eq_false_iff_eq.mpr c31
   clear c31
   by_cases c32 : 0 ≤ t332
   ·rw [if_pos c32] at H
    have c32b0 : decide (0 ≤ t332) = true := decide_eq_true c32
    clear c32
    by_cases c33 : t332 < (t329.length : Int)
    ·rw [if_pos c33] at H
     have c33b0 : decide (t332 < (t329.length : Int)) = true := decide_eq_true c33
     clear c33
     by_cases c34 : t329.length < 8796093022208
     ·rw [if_pos c34] at H
      have LMc34 := Aside0.mk c34
      clear c34
      obtain ⟨y350, hy350⟩ : ∃ y_ : List (S46), y_ = (t329 ++ [(⟨(rd_T46 t329 t332).f0, (rd_T46 t329 t332).f1⟩ : S46)]) := ⟨_, rfl⟩
      replace H : (some (y350, t336, t337)) = some (r1, r2, r3) := hh_ hy350 H
      have Ny350 := Aside0.mk hy350
      clear hy350
      simp only [Option.some.injEq, Prod.mk.injEq] at H
      obtain ⟨rfl, rfl, rfl⟩ := H
      go_enter Tryz.func55, Tryz.ntmps55
      go_wp2_with (first | ((with_reducible refine gate_callee (f := 57) rfl ?_); refine goesL_ (some 8) rfl rfl Tryz.func57 kr_ rfl #[.pointer (some ⟨g, 0, none⟩), .int .i64 8] rfl ta_ ?_; (with_reducible refine (spec_l02DrawPoly.calls k g s0_0 s0_1 s0_2 8 t318 t321 t322 w0 _ ?side1 ?side2 A2.out).mono ?_); (case side1 => exact is85_ HI0.out); (case side2 => exact bl1_ (IsS85.ge HI0.out)); rintro e w35 ⟨v319, rfl, ho0, hi, hb, hk⟩; refine ⟨_, rfl, ?_⟩; have HO320 := a0_ (Kd.R_lower ho0 (keep_size (w := w) (g := g) (row := none) (kb0_))); replace HK := a0_ (KeepBut.trans (kb0_) hk (.inl rfl)); replace HB := a0_ (hb); replace HI0 := a0_ (hi); (try clear hb); (try clear hb2); (try clear hk); (try clear hi); (try clear ho0)) | ((with_reducible refine gate_callee (f := 38) rfl ?_); refine goesL_ (some 10) rfl rfl Tryz.func38 kr_ rfl #[.pointer (some ⟨g, 0, none⟩), .int .i64 9] rfl ta_ ?_; (with_reducible refine (spec_l01Next.calls g s0_0 t321 t322 9 t323 t324 t325 w0 _ ?side1 ?side2 A3.out).mono ?_); (case side1 => exact is85_ HI0.out); (case side2 => exact bl1_ (IsS85.ge HI0.out)); rintro e w36 ⟨rfl, hi, hb, hk⟩; refine ⟨_, rfl, ?_⟩; replace HO320 := a0_ (Kd.R_mono (Kd.R_keep (IsS85.apart (show IsS85 w0 _ g s0_0 t321 t322 from is85_ HI0.out) (ra_ HO320.out) (by decide)) hk (fun _ h => h.2)) (fun _ h => h.1)); replace HK := a0_ (KeepBut.trans (kb0_) hk (.inl rfl)); replace HB := a0_ (hb); replace HI0 := a0_ (hi); (try clear hb); (try clear hb2); (try clear hk); (try clear hi)) | ((with_reducible refine gate_callee (f := 38) rfl ?_); refine goesL_ (some 13) rfl rfl Tryz.func38 kr_ rfl #[.pointer (some ⟨g, 0, none⟩), .int .i64 9] rfl ta_ ?_; (with_reducible refine (spec_l01Next.calls g s0_0 t324 t325 9 t326 t327 t328 w0 _ ?side1 ?side2 A4.out).mono ?_); (case side1 => exact is85_ HI0.out); (case side2 => exact bl1_ (IsS85.ge HI0.out)); rintro e w37 ⟨rfl, hi, hb, hk⟩; refine ⟨_, rfl, ?_⟩; replace HO320 := a0_ (Kd.R_mono (Kd.R_keep (IsS85.apart (show IsS85 w0 _ g s0_0 t324 t325 from is85_ HI0.out) (ra_ HO320.out) (by decide)) hk (fun _ h => h.2)) (fun _ h => h.1)); replace HK := a0_ (KeepBut.trans (kb0_) hk (.inl rfl)); replace HB := a0_ (hb); replace HI0 := a0_ (hi); (try clear hb); (try clear hb2); (try clear hk); (try clear hi); obtain ⟨Ao38, co38, eo38⟩ := Kd.R_slice HO320.out; subst eo38) | ((with_reducible refine gate_callee (f := 56) rfl ?_); refine goesL_ (some 15) rfl rfl Tryz.func56 kr_ rfl #[.slice Ao38 t318.length co38, .int .i64 (wrap64 (t323 - 4)), .int .i64 (wrap64 (t326 - 4))] rfl ta_ ?_; (with_reducible refine (spec_l02Move.calls k _ _ t318 (wrap64 (t323 - 4)) (wrap64 (t326 - 4)) t329 _ ?side1 ?side2 A5.out).mono ?_); (case side1 => exact ca_ (Kd.R_reads' HO320.out).2.2); (case side2 => exact (Kd.R_reads' HO320.out).2.1); rintro e w39 ⟨v330, rfl, ho0, hb⟩; refine ⟨_, rfl, ?_⟩; have HO331 := a0_ (Kd.R_lower (Kd.R_new' ho0 (Kd.R_lt (ra_ HO320.out))) (keep_size (w := w) (g := g) (row := none) (kb0_))); replace HO320 := a0_ (Kd.R_elder' (ra_ HO320.out) (Kd.R_base ho0) hb); replace HK := a0_ (KeepBut.trans (kb0_) (KeepBut.of_below hb g none) (.inl rfl)); replace HB := a0_ (below_step (bl1_ (IsS85.ge HI0.out)) hb); replace HI0 := a0_ (IsS85.below (is85_ HI0.out) hb); (try clear hb); (try clear hb2); (try clear hk); (try clear hi); (try clear ho0); obtain ⟨Ao40, co40, eo40⟩ := Kd.R_slice HO331.out; subst eo40) | ((with_reducible refine gate_callee (f := 38) rfl ?_); refine goesL_ (some 19) rfl rfl Tryz.func38 kr_ rfl #[.pointer (some ⟨g, 0, none⟩), .int .i64 (t329.length : Int)] rfl ta_ ?_; (with_reducible refine (spec_l01Next.calls g s0_0 t327 t328 (t329.length : Int) t332 t333 t334 w0 _ ?side1 ?side2 A6.out).mono ?_); (case side1 => exact is85_ HI0.out); (case side2 => exact bl1_ (IsS85.ge HI0.out)); rintro e w41 ⟨rfl, hi, hb, hk⟩; refine ⟨_, rfl, ?_⟩; replace HO320 := a0_ (Kd.R_mono (Kd.R_keep (IsS85.apart (show IsS85 w0 _ g s0_0 t327 t328 from is85_ HI0.out) (ra_ HO320.out) (by decide)) hk (fun _ h => h.2)) (fun _ h => h.1)); replace HO331 := a0_ (Kd.R_mono (Kd.R_keep (IsS85.apart (show IsS85 w0 _ g s0_0 t327 t328 from is85_ HI0.out) (ra_ HO331.out) (by decide)) hk (fun _ h => h.2)) (fun _ h => h.1)); replace HK := a0_ (KeepBut.trans (kb0_) hk (.inl rfl)); replace HB := a0_ (hb); replace HI0 := a0_ (hi); (try clear hb); (try clear hb2); (try clear hk); (try clear hi)) | ((with_reducible refine gate_callee (f := 38) rfl ?_); refine goesL_ (some 21) rfl rfl Tryz.func38 kr_ rfl #[.pointer (some ⟨g, 0, none⟩), .int .i64 24] rfl ta_ ?_; (with_reducible refine (spec_l01Next.calls g s0_0 t333 t334 24 t335 t336 t337 w0 _ ?side1 ?side2 A7.out).mono ?_); (case side1 => exact is85_ HI0.out); (case side2 => exact bl1_ (IsS85.ge HI0.out)); rintro e w42 ⟨rfl, hi, hb, hk⟩; refine ⟨_, rfl, ?_⟩; replace HO320 := a0_ (Kd.R_mono (Kd.R_keep (IsS85.apart (show IsS85 w0 _ g s0_0 t333 t334 from is85_ HI0.out) (ra_ HO320.out) (by decide)) hk (fun _ h => h.2)) (fun _ h => h.1)); replace HO331 := a0_ (Kd.R_mono (Kd.R_keep (IsS85.apart (show IsS85 w0 _ g s0_0 t333 t334 from is85_ HI0.out) (ra_ HO331.out) (by decide)) hk (fun _ h => h.2)) (fun _ h => h.1)); replace HK := a0_ (KeepBut.trans (kb0_) hk (.inl rfl)); replace HB := a0_ (hb); replace HI0 := a0_ (hi); (try clear hb); (try clear hb2); (try clear hk); (try clear hi); have p349 : 0 ≤ (t332 : Int) := od_; have q349 : t332 < (t329.length : Int) := od_; obtain ⟨ad349, e349, hx349_0, hx349_1⟩ := at_T46 (Kd.R_reads' HO331.out).2.2 t332 p349 q349; cases e349; replace p349 := eq_true p349; replace q349 := eq_true q349) | ((with_reducible refine gate_builtin (b := .append) (xs := #[.tmp 37, .tmp 42]) rfl ?_); at_builtin; refine Kd.R_append k46 w.heap.size rfl (.tmp 37) (.tmp 42) 35 46 (.agg #[(.int .i64 0), (.int .i64 0)]) 16 rfl Tryz.underlying35 info46 rfl (by decide) (by omega) (.slice (some ad349) t329.length co40) t329 (⟨(rd_T46 t329 t332).f0, (rd_T46 t329 t332).f1⟩ : S46) [.int .i64 ((rd_T46 t329 t332).f0), .int .i64 ((rd_T46 t329 t332).f1)] (fun k_ => some k_ ≠ (.slice Ao38 t318.length co38 : Value).ownBlock) (fun _ => False) rfl rfl ?aP (fun _ hk => hk.elim) ?aF ?aO (Below.refl _ _) ?aS ?aL ?_; (case aP => exact k46_mkM _ _ _ (⟨(rd_T46 t329 t332).f0, (rd_T46 t329 t332).f1⟩ : S46)); (case aF => exact (fun k_ hk => Kd.fresh' (Kd.R_lt (ra_ HO320.out)) k_ hk)); (case aO => exact (by (with_reducible repeat (first | apply Kd.R_alloc | apply Kd.R_drewN | apply Kd.R_drew)); exact Kd.R_mono HO331.out (fun _ hk => hk.2))); (case aS => exact (keep_size (w := w) (g := g) (row := none) (kb0_))); (case aL => have := LMc34.out; omega); intro v351 w43 ho hb hg hat; rw [← Ny350.out] at ho; replace HO320 := a0_ (Kd.R_after (ok := (fun _ => True)) (ra_ HO320.out) hg hat); replace HB := a0_ (below_weaken (bl1_ (IsS85.ge HI0.out)) HL.out hb); replace HI0 := a0_ (IsS85.grown (is85_ HI0.out) hg (IsS85.own_ne HI0.out HO331.out (by decide))); replace HK := a0_ (KeepBut.trans (kb0_) (KeepBut.of_grown hg g) (Kd.R_base2 HO331.out)); have HO352 := a0_ (ho); clear HO331; clear ho hb hg hat))
      go_ret
      exact ⟨_, er_, by (with_reducible repeat (first | apply Kd.R_alloc | apply Kd.R_drewN | apply Kd.R_drew)); exact Kd.R_mono HO352.out (fun _ hk => trivial), is85_ HI0.out, bl1_ (IsS85.ge HI0.out), kb0_⟩
     ·rw [if_neg c34] at H
      exact absurd H (by simp)
    ·rw [if_neg c33] at H
     exact absurd H (by simp)
   ·rw [if_neg c32] at H
    exact absurd H (by simp)
  ·rw [if_neg c31] at H
   have c31b0 : (t335 == 1) = false := beq_eq_false_iff_ne.mpr c31
   have c31b1 : (t335 != 1) = true := bne_iff_ne.mpr c31
   by_cases c44 : t335 = 2
   ·rw [if_pos c44] at H
    have c44b0 : (t335 == 2) = true := beq_iff_eq.mpr c44
    have c44b1 : (t335 != 2) = false := bne_eq_false_iff_eq.mpr c44
    clear c44
    simp only [Option.some.injEq, Prod.mk.injEq] at H
    obtain ⟨rfl, rfl, rfl⟩ := H
    go_enter Tryz.func55, Tryz.ntmps55
    go_wp2_with (first | ((with_reducible refine gate_callee (f := 57) rfl ?_); refine goesL_ (some 8) rfl rfl Tryz.func57 kr_ rfl #[.pointer (some ⟨g, 0, none⟩), .int .i64 8] rfl ta_ ?_; (with_reducible refine (spec_l02DrawPoly.calls k g s0_0 s0_1 s0_2 8 t318 t321 t322 w0 _ ?side1 ?side2 A2.out).mono ?_); (case side1 => exact is85_ HI0.out); (case side2 => exact bl1_ (IsS85.ge HI0.out)); rintro e w45 ⟨v319, rfl, ho0, hi, hb, hk⟩; refine ⟨_, rfl, ?_⟩; have HO320 := a0_ (Kd.R_lower ho0 (keep_size (w := w) (g := g) (row := none) (kb0_))); replace HK := a0_ (KeepBut.trans (kb0_) hk (.inl rfl)); replace HB := a0_ (hb); replace HI0 := a0_ (hi); (try clear hb); (try clear hb2); (try clear hk); (try clear hi); (try clear ho0)) | ((with_reducible refine gate_callee (f := 38) rfl ?_); refine goesL_ (some 10) rfl rfl Tryz.func38 kr_ rfl #[.pointer (some ⟨g, 0, none⟩), .int .i64 9] rfl ta_ ?_; (with_reducible refine (spec_l01Next.calls g s0_0 t321 t322 9 t323 t324 t325 w0 _ ?side1 ?side2 A3.out).mono ?_); (case side1 => exact is85_ HI0.out); (case side2 => exact bl1_ (IsS85.ge HI0.out)); rintro e w46 ⟨rfl, hi, hb, hk⟩; refine ⟨_, rfl, ?_⟩; replace HO320 := a0_ (Kd.R_mono (Kd.R_keep (IsS85.apart (show IsS85 w0 _ g s0_0 t321 t322 from is85_ HI0.out) (ra_ HO320.out) (by decide)) hk (fun _ h => h.2)) (fun _ h => h.1)); replace HK := a0_ (KeepBut.trans (kb0_) hk (.inl rfl)); replace HB := a0_ (hb); replace HI0 := a0_ (hi); (try clear hb); (try clear hb2); (try clear hk); (try clear hi)) | ((with_reducible refine gate_callee (f := 38) rfl ?_); refine goesL_ (some 13) rfl rfl Tryz.func38 kr_ rfl #[.pointer (some ⟨g, 0, none⟩), .int .i64 9] rfl ta_ ?_; (with_reducible refine (spec_l01Next.calls g s0_0 t324 t325 9 t326 t327 t328 w0 _ ?side1 ?side2 A4.out).mono ?_); (case side1 => exact is85_ HI0.out); (case side2 => exact bl1_ (IsS85.ge HI0.out)); rintro e w47 ⟨rfl, hi, hb, hk⟩; refine ⟨_, rfl, ?_⟩; replace HO320 := a0_ (Kd.R_mono (Kd.R_keep (IsS85.apart (show IsS85 w0 _ g s0_0 t324 t325 from is85_ HI0.out) (ra_ HO320.out) (by decide)) hk (fun _ h => h.2)) (fun _ h => h.1)); replace HK := a0_ (KeepBut.trans (kb0_) hk (.inl rfl)); replace HB := a0_ (hb); replace HI0 := a0_ (hi); (try clear hb); (try clear hb2); (try clear hk); (try clear hi); obtain ⟨Ao48, co48, eo48⟩ := Kd.R_slice HO320.out; subst eo48) | ((with_reducible refine gate_callee (f := 56) rfl ?_); refine goesL_ (some 15) rfl rfl Tryz.func56 kr_ rfl #[.slice Ao48 t318.length co48, .int .i64 (wrap64 (t323 - 4)), .int .i64 (wrap64 (t326 - 4))] rfl ta_ ?_; (with_reducible refine (spec_l02Move.calls k _ _ t318 (wrap64 (t323 - 4)) (wrap64 (t326 - 4)) t329 _ ?side1 ?side2 A5.out).mono ?_); (case side1 => exact ca_ (Kd.R_reads' HO320.out).2.2); (case side2 => exact (Kd.R_reads' HO320.out).2.1); rintro e w49 ⟨v330, rfl, ho0, hb⟩; refine ⟨_, rfl, ?_⟩; have HO331 := a0_ (Kd.R_lower (Kd.R_new' ho0 (Kd.R_lt (ra_ HO320.out))) (keep_size (w := w) (g := g) (row := none) (kb0_))); replace HO320 := a0_ (Kd.R_elder' (ra_ HO320.out) (Kd.R_base ho0) hb); replace HK := a0_ (KeepBut.trans (kb0_) (KeepBut.of_below hb g none) (.inl rfl)); replace HB := a0_ (below_step (bl1_ (IsS85.ge HI0.out)) hb); replace HI0 := a0_ (IsS85.below (is85_ HI0.out) hb); (try clear hb); (try clear hb2); (try clear hk); (try clear hi); (try clear ho0); obtain ⟨Ao50, co50, eo50⟩ := Kd.R_slice HO331.out; subst eo50) | ((with_reducible refine gate_callee (f := 38) rfl ?_); refine goesL_ (some 19) rfl rfl Tryz.func38 kr_ rfl #[.pointer (some ⟨g, 0, none⟩), .int .i64 (t329.length : Int)] rfl ta_ ?_; (with_reducible refine (spec_l01Next.calls g s0_0 t327 t328 (t329.length : Int) t332 t333 t334 w0 _ ?side1 ?side2 A6.out).mono ?_); (case side1 => exact is85_ HI0.out); (case side2 => exact bl1_ (IsS85.ge HI0.out)); rintro e w51 ⟨rfl, hi, hb, hk⟩; refine ⟨_, rfl, ?_⟩; replace HO320 := a0_ (Kd.R_mono (Kd.R_keep (IsS85.apart (show IsS85 w0 _ g s0_0 t327 t328 from is85_ HI0.out) (ra_ HO320.out) (by decide)) hk (fun _ h => h.2)) (fun _ h => h.1)); replace HO331 := a0_ (Kd.R_mono (Kd.R_keep (IsS85.apart (show IsS85 w0 _ g s0_0 t327 t328 from is85_ HI0.out) (ra_ HO331.out) (by decide)) hk (fun _ h => h.2)) (fun _ h => h.1)); replace HK := a0_ (KeepBut.trans (kb0_) hk (.inl rfl)); replace HB := a0_ (hb); replace HI0 := a0_ (hi); (try clear hb); (try clear hb2); (try clear hk); (try clear hi)) | ((with_reducible refine gate_callee (f := 38) rfl ?_); refine goesL_ (some 21) rfl rfl Tryz.func38 kr_ rfl #[.pointer (some ⟨g, 0, none⟩), .int .i64 24] rfl ta_ ?_; (with_reducible refine (spec_l01Next.calls g s0_0 t333 t334 24 t335 t336 t337 w0 _ ?side1 ?side2 A7.out).mono ?_); (case side1 => exact is85_ HI0.out); (case side2 => exact bl1_ (IsS85.ge HI0.out)); rintro e w52 ⟨rfl, hi, hb, hk⟩; refine ⟨_, rfl, ?_⟩; replace HO320 := a0_ (Kd.R_mono (Kd.R_keep (IsS85.apart (show IsS85 w0 _ g s0_0 t333 t334 from is85_ HI0.out) (ra_ HO320.out) (by decide)) hk (fun _ h => h.2)) (fun _ h => h.1)); replace HO331 := a0_ (Kd.R_mono (Kd.R_keep (IsS85.apart (show IsS85 w0 _ g s0_0 t333 t334 from is85_ HI0.out) (ra_ HO331.out) (by decide)) hk (fun _ h => h.2)) (fun _ h => h.1)); replace HK := a0_ (KeepBut.trans (kb0_) hk (.inl rfl)); replace HB := a0_ (hb); replace HI0 := a0_ (hi); (try clear hb); (try clear hb2); (try clear hk); (try clear hi)))
    go_ret
    exact ⟨_, er_, by first | exact Kd.R_nil _ _ _ _ _ | exact Kd.N_nil _ _ _ _ _ | exact Kd.V_nil _ _ _ _ _ | exact Kd.Q_nil _ _ _ _ _ | exact Kd.S_nil _ _ _ _ _, is85_ HI0.out, bl1_ (IsS85.ge HI0.out), kb0_⟩
   ·rw [if_neg c44] at H
    have c44b0 : (t335 == 2) = false := beq_eq_false_iff_ne.mpr c44
    have c44b1 : (t335 != 2) = true := bne_iff_ne.mpr c44
    by_cases c53 : t335 = 3
    ·rw [if_pos c53] at H
     have c53b0 : (t335 == 3) = true := beq_iff_eq.mpr c53
     have c53b1 : (t335 != 3) = false := bne_eq_false_iff_eq.mpr c53
     clear c53
     obtain ⟨y353, hy353⟩ : ∃ y_ : List (S46), y_ = (([] : List (S46))) := ⟨_, rfl⟩
     replace H : (spec_l02Draw.l0 k y353 0 s0_0 t336 t337) = some (r1, r2, r3) := hh_ hy353 H
     have Ny353 := Aside0.mk hy353
     clear hy353
     have H' := Aside0.mk H
     clear H
     go_enter Tryz.func55, Tryz.ntmps55
     go_wp2_with (first | ((with_reducible refine gate_callee (f := 57) rfl ?_); refine goesL_ (some 8) rfl rfl Tryz.func57 kr_ rfl #[.pointer (some ⟨g, 0, none⟩), .int .i64 8] rfl ta_ ?_; (with_reducible refine (spec_l02DrawPoly.calls k g s0_0 s0_1 s0_2 8 t318 t321 t322 w0 _ ?side1 ?side2 A2.out).mono ?_); (case side1 => exact is85_ HI0.out); (case side2 => exact bl1_ (IsS85.ge HI0.out)); rintro e w54 ⟨v319, rfl, ho0, hi, hb, hk⟩; refine ⟨_, rfl, ?_⟩; have HO320 := a0_ (Kd.R_lower ho0 (keep_size (w := w) (g := g) (row := none) (kb0_))); replace HK := a0_ (KeepBut.trans (kb0_) hk (.inl rfl)); replace HB := a0_ (hb); replace HI0 := a0_ (hi); (try clear hb); (try clear hb2); (try clear hk); (try clear hi); (try clear ho0)) | ((with_reducible refine gate_callee (f := 38) rfl ?_); refine goesL_ (some 10) rfl rfl Tryz.func38 kr_ rfl #[.pointer (some ⟨g, 0, none⟩), .int .i64 9] rfl ta_ ?_; (with_reducible refine (spec_l01Next.calls g s0_0 t321 t322 9 t323 t324 t325 w0 _ ?side1 ?side2 A3.out).mono ?_); (case side1 => exact is85_ HI0.out); (case side2 => exact bl1_ (IsS85.ge HI0.out)); rintro e w55 ⟨rfl, hi, hb, hk⟩; refine ⟨_, rfl, ?_⟩; replace HO320 := a0_ (Kd.R_mono (Kd.R_keep (IsS85.apart (show IsS85 w0 _ g s0_0 t321 t322 from is85_ HI0.out) (ra_ HO320.out) (by decide)) hk (fun _ h => h.2)) (fun _ h => h.1)); replace HK := a0_ (KeepBut.trans (kb0_) hk (.inl rfl)); replace HB := a0_ (hb); replace HI0 := a0_ (hi); (try clear hb); (try clear hb2); (try clear hk); (try clear hi)) | ((with_reducible refine gate_callee (f := 38) rfl ?_); refine goesL_ (some 13) rfl rfl Tryz.func38 kr_ rfl #[.pointer (some ⟨g, 0, none⟩), .int .i64 9] rfl ta_ ?_; (with_reducible refine (spec_l01Next.calls g s0_0 t324 t325 9 t326 t327 t328 w0 _ ?side1 ?side2 A4.out).mono ?_); (case side1 => exact is85_ HI0.out); (case side2 => exact bl1_ (IsS85.ge HI0.out)); rintro e w56 ⟨rfl, hi, hb, hk⟩; refine ⟨_, rfl, ?_⟩; replace HO320 := a0_ (Kd.R_mono (Kd.R_keep (IsS85.apart (show IsS85 w0 _ g s0_0 t324 t325 from is85_ HI0.out) (ra_ HO320.out) (by decide)) hk (fun _ h => h.2)) (fun _ h => h.1)); replace HK := a0_ (KeepBut.trans (kb0_) hk (.inl rfl)); replace HB := a0_ (hb); replace HI0 := a0_ (hi); (try clear hb); (try clear hb2); (try clear hk); (try clear hi); obtain ⟨Ao57, co57, eo57⟩ := Kd.R_slice HO320.out; subst eo57) | ((with_reducible refine gate_callee (f := 56) rfl ?_); refine goesL_ (some 15) rfl rfl Tryz.func56 kr_ rfl #[.slice Ao57 t318.length co57, .int .i64 (wrap64 (t323 - 4)), .int .i64 (wrap64 (t326 - 4))] rfl ta_ ?_; (with_reducible refine (spec_l02Move.calls k _ _ t318 (wrap64 (t323 - 4)) (wrap64 (t326 - 4)) t329 _ ?side1 ?side2 A5.out).mono ?_); (case side1 => exact ca_ (Kd.R_reads' HO320.out).2.2); (case side2 => exact (Kd.R_reads' HO320.out).2.1); rintro e w58 ⟨v330, rfl, ho0, hb⟩; refine ⟨_, rfl, ?_⟩; have HO331 := a0_ (Kd.R_lower (Kd.R_new' ho0 (Kd.R_lt (ra_ HO320.out))) (keep_size (w := w) (g := g) (row := none) (kb0_))); replace HO320 := a0_ (Kd.R_elder' (ra_ HO320.out) (Kd.R_base ho0) hb); replace HK := a0_ (KeepBut.trans (kb0_) (KeepBut.of_below hb g none) (.inl rfl)); replace HB := a0_ (below_step (bl1_ (IsS85.ge HI0.out)) hb); replace HI0 := a0_ (IsS85.below (is85_ HI0.out) hb); (try clear hb); (try clear hb2); (try clear hk); (try clear hi); (try clear ho0); obtain ⟨Ao59, co59, eo59⟩ := Kd.R_slice HO331.out; subst eo59) | ((with_reducible refine gate_callee (f := 38) rfl ?_); refine goesL_ (some 19) rfl rfl Tryz.func38 kr_ rfl #[.pointer (some ⟨g, 0, none⟩), .int .i64 (t329.length : Int)] rfl ta_ ?_; (with_reducible refine (spec_l01Next.calls g s0_0 t327 t328 (t329.length : Int) t332 t333 t334 w0 _ ?side1 ?side2 A6.out).mono ?_); (case side1 => exact is85_ HI0.out); (case side2 => exact bl1_ (IsS85.ge HI0.out)); rintro e w60 ⟨rfl, hi, hb, hk⟩; refine ⟨_, rfl, ?_⟩; replace HO320 := a0_ (Kd.R_mono (Kd.R_keep (IsS85.apart (show IsS85 w0 _ g s0_0 t327 t328 from is85_ HI0.out) (ra_ HO320.out) (by decide)) hk (fun _ h => h.2)) (fun _ h => h.1)); replace HO331 := a0_ (Kd.R_mono (Kd.R_keep (IsS85.apart (show IsS85 w0 _ g s0_0 t327 t328 from is85_ HI0.out) (ra_ HO331.out) (by decide)) hk (fun _ h => h.2)) (fun _ h => h.1)); replace HK := a0_ (KeepBut.trans (kb0_) hk (.inl rfl)); replace HB := a0_ (hb); replace HI0 := a0_ (hi); (try clear hb); (try clear hb2); (try clear hk); (try clear hi)) | ((with_reducible refine gate_callee (f := 38) rfl ?_); refine goesL_ (some 21) rfl rfl Tryz.func38 kr_ rfl #[.pointer (some ⟨g, 0, none⟩), .int .i64 24] rfl ta_ ?_; (with_reducible refine (spec_l01Next.calls g s0_0 t333 t334 24 t335 t336 t337 w0 _ ?side1 ?side2 A7.out).mono ?_); (case side1 => exact is85_ HI0.out); (case side2 => exact bl1_ (IsS85.ge HI0.out)); rintro e w61 ⟨rfl, hi, hb, hk⟩; refine ⟨_, rfl, ?_⟩; replace HO320 := a0_ (Kd.R_mono (Kd.R_keep (IsS85.apart (show IsS85 w0 _ g s0_0 t333 t334 from is85_ HI0.out) (ra_ HO320.out) (by decide)) hk (fun _ h => h.2)) (fun _ h => h.1)); replace HO331 := a0_ (Kd.R_mono (Kd.R_keep (IsS85.apart (show IsS85 w0 _ g s0_0 t333 t334 from is85_ HI0.out) (ra_ HO331.out) (by decide)) hk (fun _ h => h.2)) (fun _ h => h.1)); replace HK := a0_ (KeepBut.trans (kb0_) hk (.inl rfl)); replace HB := a0_ (hb); replace HI0 := a0_ (hi); (try clear hb); (try clear hb2); (try clear hk); (try clear hi)) | ((with_reducible refine gate_dst (N := 48) rfl ?_); refine Kd.R_lit k46 _ 46 ?hg (N := 48) ?hd (xs := ([] : List (S46))) (inner := []) (ok := fun _ => True) (okp := fun _ => True) ?hr ?hp (fun _ hk => hk) trivial (Below.refl _ _) (Nat.le_refl _) (by simp) ?_; (case hd => rfl); (case hg => rfl); (case hr => first | (go_simp; done) | (go_simp; rfl)); (case hp => exact (Reps.none _ _)); intro v354 w62 ho63 hb hg_ hnew_; clear hg_ hnew_; (first | rw [← Ny353.out] at ho63 | (simp only [Int.reduceToNat] at ho63; rw [← Ny353.out] at ho63)); have HO355 := a0_ (Kd.R_lower (Kd.R_new' (Kd.R_new' ho63 (Kd.R_lt (ra_ HO320.out))) (Kd.R_lt (ra_ HO331.out))) (keep_size (w := w) (g := g) (row := none) (kb0_))); replace HO320 := a0_ (Kd.R_elder' (ra_ HO320.out) (Kd.R_base ho63) hb); replace HO331 := a0_ (Kd.R_elder' (ra_ HO331.out) (Kd.R_base ho63) hb); replace HK := a0_ (KeepBut.trans (kb0_) (KeepBut.of_below hb g none) (.inl rfl)); replace HB := a0_ (below_step (bl1_ (IsS85.ge HI0.out)) hb); replace HI0 := a0_ (IsS85.below (is85_ HI0.out) hb); clear hb ho63))
     go_loopg [5, 6] k (fun kq v5 v6 w' => ∃ (x5_1 : List (S46)) (x6_1 : Int) (x1001_1 : Int) (x1002_1 : Int), v6 = .int .i64 x6_1 ∧ Aside0 (spec_l02Draw.l0 kq x5_1 x6_1 s0_0 x1001_1 x1002_1 = some (r1, r2, r3)) ∧ Aside0 (kq ≤ k) ∧ Aside0 (Kd.R k46 46 w' w.heap.size (fun _ => True) v5 x5_1) ∧ Aside0 (IsS85 w0 w' g s0_0 x1001_1 x1002_1) ∧ Aside0 (KeepBut w w' g none) ∧ Aside0 (Below w0.heap.size w0 w'))
     case atStart => exact ⟨(y353), (0), (t336), (t337), rs_, H', ⟨Nat.le_refl _⟩, ⟨by (with_reducible repeat (first | apply Kd.R_alloc | apply Kd.R_drewN | apply Kd.R_drew)); exact Kd.R_mono HO355.out (fun _ hk => trivial)⟩, ⟨is85_ HI0.out⟩, ⟨kb0_⟩, ⟨bl1_ (IsS85.ge HI0.out)⟩⟩
     case round =>
      clear H'
      try clear c1
      try clear p1
      try clear q1
      try clear hx1
      try clear hf1
      try clear c2
      try clear p2
      try clear hx2
      try clear hf2
      try clear c3
      try clear p3
      try clear q3
      try clear hx3
      try clear c4
      try clear c5
      try clear p6
      try clear c8
      try clear c8b0
      try clear c8b1
      try clear c9
      try clear c10
      try clear c10b0
      try clear c11
      try clear c11b0
      try clear c12
      try clear c12b0
      try clear c13
      try clear c13b0
      try clear c14
      try clear p14
      try clear q14
      try clear hx14
      try clear hf14
      try clear c28
      try clear hx28
      try clear hf28
      try clear c31
      try clear c31b0
      try clear c31b1
      try clear c32
      try clear c32b0
      try clear c33
      try clear c33b0
      try clear c34
      try clear p34
      try clear q34
      try clear hx34
      try clear c38
      try clear c44
      try clear c44b0
      try clear c44b1
      try clear c53
      try clear c53b0
      try clear c53b1
      try clear c55
      try clear c56
      try clear c57
      try clear hx14_0
      try clear hx14_1
      try clear hx28_0
      try clear hx344_0
      try clear hx349_0
      try clear hx349_1
      try clear p14
      try clear p344
      try clear p349
      try clear q14
      try clear q344
      try clear q349
      obtain ⟨x5_1, x6_1, x1001_1, x1002_1, rfl, HA, HK1, HO_5, HI0, HK, HB⟩ := hrel
      cases gk with
      | zero => exact absurd HA.out (by simp [spec_l02Draw.l0])
      | succ k1 =>
       have H := HA.out
       clear HA
       simp only [spec_l02Draw.l0] at H
       obtain ⟨⟨t356, t357, t358⟩, A64, H⟩ := bs_ H
       dsimp only at H
       by_cases c65 : x6_1 < (wrap64 (40 + t356))
       ·rw [if_pos c65] at H
        have c65b0 : decide (x6_1 < (wrap64 (40 + t356))) = true := decide_eq_true c65
        clear c65
        by_cases c66 : x5_1.length < 8796093022208
        ·rw [if_pos c66] at H
         have LMc66 := Aside0.mk c66
         clear c66
         obtain ⟨y359, hy359⟩ : ∃ y_ : List (S46), y_ = (x5_1 ++ [(⟨x6_1, 0⟩ : S46)]) := ⟨_, rfl⟩
         replace H : (spec_l02Draw.l0 k1 y359 (wrap64 (x6_1 + 1)) s0_0 t357 t358) = some (r1, r2, r3) := hh_ hy359 H
         have Ny359 := Aside0.mk hy359
         clear hy359
         have H' := Aside0.mk H
         clear H
         go_wp2_with (first | ((with_reducible refine gate_callee (f := 38) rfl ?_); refine goesL_ (some 51) rfl rfl Tryz.func38 kr_ rfl #[.pointer (some ⟨g, 0, none⟩), .int .i64 2] rfl ta_ ?_; (with_reducible refine (spec_l01Next.calls g s0_0 x1001_1 x1002_1 2 t356 t357 t358 w0 _ ?side1 ?side2 A64.out).mono ?_); (case side1 => exact is85_ HI0.out); (case side2 => exact bl1_ (IsS85.ge HI0.out)); rintro e w67 ⟨rfl, hi, hb, hk⟩; refine ⟨_, rfl, ?_⟩; replace HO_5 := a0_ (Kd.R_mono (Kd.R_keep (IsS85.apart (show IsS85 w0 _ g s0_0 x1001_1 x1002_1 from is85_ HI0.out) (ra_ HO_5.out) (by decide)) hk (fun _ h => h.2)) (fun _ h => h.1)); replace HK := a0_ (KeepBut.trans (kb0_) hk (.inl rfl)); replace HB := a0_ (hb); replace HI0 := a0_ (hi); (try clear hb); (try clear hb2); (try clear hk); (try clear hi)) | ((with_reducible refine gate_builtin (b := .append) (xs := #[.tmp 56, .tmp 59]) rfl ?_); at_builtin; refine Kd.R_append k46 w.heap.size rfl (.tmp 56) (.tmp 59) 35 46 (.agg #[(.int .i64 0), (.int .i64 0)]) 16 rfl Tryz.underlying35 info46 rfl (by decide) (by omega) u5 x5_1 (⟨x6_1, 0⟩ : S46) [.int .i64 x6_1, .int .i64 0] (fun _ => True) (fun _ => False) rfl rfl ?aP (fun _ hk => hk.elim) ?aF ?aO (Below.refl _ _) ?aS ?aL ?_; (case aP => exact k46_mkM _ _ _ (⟨x6_1, 0⟩ : S46)); (case aF => exact (fun _ _ => trivial)); (case aO => exact (ra_ HO_5.out)); (case aS => exact (keep_size (w := w) (g := g) (row := none) (kb0_))); (case aL => have := LMc66.out; omega); intro v360 w68 ho hb hg hat; rw [← Ny359.out] at ho; replace HB := a0_ (below_weaken (bl1_ (IsS85.ge HI0.out)) HL.out hb); replace HI0 := a0_ (IsS85.grown (is85_ HI0.out) hg (IsS85.own_ne HI0.out HO_5.out (by decide))); replace HK := a0_ (KeepBut.trans (kb0_) (KeepBut.of_grown hg g) (Kd.R_base2 HO_5.out)); have HO361 := a0_ (ho); clear HO_5; clear ho hb hg hat))
         go_roundg k1
         case measure => have := HK1.out; omega
         case rel => exact ⟨(y359), (wrap64 (x6_1 + 1)), (t357), (t358), rs_, H', ⟨by have := HK1.out; omega⟩, ⟨ra_ HO361.out⟩, ⟨is85_ HI0.out⟩, ⟨kb0_⟩, ⟨bl1_ (IsS85.ge HI0.out)⟩⟩
        ·rw [if_neg c66] at H
         exact absurd H (by simp)
       ·rw [if_neg c65] at H
        have c65b0 : decide (x6_1 < (wrap64 (40 + t356))) = false := decide_eq_false c65
        clear c65
        simp only [Option.some.injEq, Prod.mk.injEq] at H
        obtain ⟨rfl, rfl, rfl⟩ := H
        go_wp2_with (first | ((with_reducible refine gate_callee (f := 38) rfl ?_); refine goesL_ (some 51) rfl rfl Tryz.func38 kr_ rfl #[.pointer (some ⟨g, 0, none⟩), .int .i64 2] rfl ta_ ?_; (with_reducible refine (spec_l01Next.calls g s0_0 x1001_1 x1002_1 2 t356 t357 t358 w0 _ ?side1 ?side2 A64.out).mono ?_); (case side1 => exact is85_ HI0.out); (case side2 => exact bl1_ (IsS85.ge HI0.out)); rintro e w69 ⟨rfl, hi, hb, hk⟩; refine ⟨_, rfl, ?_⟩; replace HO_5 := a0_ (Kd.R_mono (Kd.R_keep (IsS85.apart (show IsS85 w0 _ g s0_0 x1001_1 x1002_1 from is85_ HI0.out) (ra_ HO_5.out) (by decide)) hk (fun _ h => h.2)) (fun _ h => h.1)); replace HK := a0_ (KeepBut.trans (kb0_) hk (.inl rfl)); replace HB := a0_ (hb); replace HI0 := a0_ (hi); (try clear hb); (try clear hb2); (try clear hk); (try clear hi)))
        go_ret
        exact ⟨_, er_, ra_ HO_5.out, is85_ HI0.out, bl1_ (IsS85.ge HI0.out), kb0_⟩
    ·rw [if_neg c53] at H
     have c53b0 : (t335 == 3) = false := beq_eq_false_iff_ne.mpr c53
     have c53b1 : (t335 != 3) = true := bne_iff_ne.mpr c53
     by_cases c70 : t335 = 4
     ·rw [if_pos c70] at H
      have c70b0 : (t335 == 4) = true := beq_iff_eq.mpr c70
      have c70b1 : (t335 != 4) = false := bne_eq_false_iff_eq.mpr c70
      clear c70
      by_cases c71 : 0 < (t329.length : Int)
      ·rw [if_pos c71] at H
       have c71b0 : decide (0 < (t329.length : Int)) = true := decide_eq_true c71
       have c71b1 : decide (0 < t329.length) = true := decide_eq_true (by omega)
       clear c71
       obtain ⟨ji72, hji72⟩ : ∃ j_ : Int, (wrap64 ((t329.length : Int) - 1)) = j_ := ⟨_, rfl⟩
       replace H : (if 0 ≤ (ji72) then (if (ji72) < (t329.length : Int) then (if t329.length < 8796093022208 then (some ((t329 ++ [(⟨wrap64 (((rd_T46 t329 0).f0) + 3), wrap64 (((rd_T46 t329 (ji72)).f1) + 2)⟩ : S46)]), t336, t337)) else (none)) else (none)) else (none)) = some (r1, r2, r3) := by first | (rw [hji72] at H; exact H) | (simp only [hji72] at H ⊢; exact H)
       (try rw [hji72] at A2)
       (try rw [hji72] at A3)
       (try rw [hji72] at A4)
       (try rw [hji72] at A5)
       (try rw [hji72] at A6)
       (try rw [hji72] at A7)
       have hji72w : (IntKind.i64.wrap ((t329.length : Int) - 1)) = ji72 := (i64_w _).trans hji72
       by_cases c73 : 0 ≤ (ji72)
       ·rw [if_pos c73] at H
        have c73b0 : decide (0 ≤ (ji72)) = true := decide_eq_true c73
        clear c73
        by_cases c74 : (ji72) < (t329.length : Int)
        ·rw [if_pos c74] at H
         have c74b0 : decide ((ji72) < (t329.length : Int)) = true := decide_eq_true c74
         clear c74
         by_cases c75 : t329.length < 8796093022208
         ·rw [if_pos c75] at H
          have LMc75 := Aside0.mk c75
          clear c75
          obtain ⟨y364, hy364⟩ : ∃ y_ : List (S46), y_ = (t329 ++ [(⟨wrap64 (((rd_T46 t329 0).f0) + 3), wrap64 (((rd_T46 t329 (ji72)).f1) + 2)⟩ : S46)]) := ⟨_, rfl⟩
          replace H : (some (y364, t336, t337)) = some (r1, r2, r3) := hh_ hy364 H
          have Ny364 := Aside0.mk hy364
          clear hy364
          simp only [Option.some.injEq, Prod.mk.injEq] at H
          obtain ⟨rfl, rfl, rfl⟩ := H
          go_enter Tryz.func55, Tryz.ntmps55
          try go_wp2_with (first | ((with_reducible refine gate_callee (f := 57) rfl ?_); refine goesL_ (some 8) rfl rfl Tryz.func57 kr_ rfl #[.pointer (some ⟨g, 0, none⟩), .int .i64 8] rfl ta_ ?_; (with_reducible refine (spec_l02DrawPoly.calls k g s0_0 s0_1 s0_2 8 t318 t321 t322 w0 _ ?side1 ?side2 A2.out).mono ?_); (case side1 => exact is85_ HI0.out); (case side2 => exact bl1_ (IsS85.ge HI0.out)); rintro e w76 ⟨v319, rfl, ho0, hi, hb, hk⟩; refine ⟨_, rfl, ?_⟩; have HO320 := a0_ (Kd.R_lower ho0 (keep_size (w := w) (g := g) (row := none) (kb0_))); replace HK := a0_ (KeepBut.trans (kb0_) hk (.inl rfl)); replace HB := a0_ (hb); replace HI0 := a0_ (hi); (try clear hb); (try clear hb2); (try clear hk); (try clear hi); (try clear ho0)) | ((with_reducible refine gate_callee (f := 38) rfl ?_); refine goesL_ (some 10) rfl rfl Tryz.func38 kr_ rfl #[.pointer (some ⟨g, 0, none⟩), .int .i64 9] rfl ta_ ?_; (with_reducible refine (spec_l01Next.calls g s0_0 t321 t322 9 t323 t324 t325 w0 _ ?side1 ?side2 A3.out).mono ?_); (case side1 => exact is85_ HI0.out); (case side2 => exact bl1_ (IsS85.ge HI0.out)); rintro e w77 ⟨rfl, hi, hb, hk⟩; refine ⟨_, rfl, ?_⟩; replace HO320 := a0_ (Kd.R_mono (Kd.R_keep (IsS85.apart (show IsS85 w0 _ g s0_0 t321 t322 from is85_ HI0.out) (ra_ HO320.out) (by decide)) hk (fun _ h => h.2)) (fun _ h => h.1)); replace HK := a0_ (KeepBut.trans (kb0_) hk (.inl rfl)); replace HB := a0_ (hb); replace HI0 := a0_ (hi); (try clear hb); (try clear hb2); (try clear hk); (try clear hi)) | ((with_reducible refine gate_callee (f := 38) rfl ?_); refine goesL_ (some 13) rfl rfl Tryz.func38 kr_ rfl #[.pointer (some ⟨g, 0, none⟩), .int .i64 9] rfl ta_ ?_; (with_reducible refine (spec_l01Next.calls g s0_0 t324 t325 9 t326 t327 t328 w0 _ ?side1 ?side2 A4.out).mono ?_); (case side1 => exact is85_ HI0.out); (case side2 => exact bl1_ (IsS85.ge HI0.out)); rintro e w78 ⟨rfl, hi, hb, hk⟩; refine ⟨_, rfl, ?_⟩; replace HO320 := a0_ (Kd.R_mono (Kd.R_keep (IsS85.apart (show IsS85 w0 _ g s0_0 t324 t325 from is85_ HI0.out) (ra_ HO320.out) (by decide)) hk (fun _ h => h.2)) (fun _ h => h.1)); replace HK := a0_ (KeepBut.trans (kb0_) hk (.inl rfl)); replace HB := a0_ (hb); replace HI0 := a0_ (hi); (try clear hb); (try clear hb2); (try clear hk); (try clear hi); obtain ⟨Ao79, co79, eo79⟩ := Kd.R_slice HO320.out; subst eo79) | ((with_reducible refine gate_callee (f := 56) rfl ?_); refine goesL_ (some 15) rfl rfl Tryz.func56 kr_ rfl #[.slice Ao79 t318.length co79, .int .i64 (wrap64 (t323 - 4)), .int .i64 (wrap64 (t326 - 4))] rfl ta_ ?_; (with_reducible refine (spec_l02Move.calls k _ _ t318 (wrap64 (t323 - 4)) (wrap64 (t326 - 4)) t329 _ ?side1 ?side2 A5.out).mono ?_); (case side1 => exact ca_ (Kd.R_reads' HO320.out).2.2); (case side2 => exact (Kd.R_reads' HO320.out).2.1); rintro e w80 ⟨v330, rfl, ho0, hb⟩; refine ⟨_, rfl, ?_⟩; have HO331 := a0_ (Kd.R_lower (Kd.R_new' ho0 (Kd.R_lt (ra_ HO320.out))) (keep_size (w := w) (g := g) (row := none) (kb0_))); replace HO320 := a0_ (Kd.R_elder' (ra_ HO320.out) (Kd.R_base ho0) hb); replace HK := a0_ (KeepBut.trans (kb0_) (KeepBut.of_below hb g none) (.inl rfl)); replace HB := a0_ (below_step (bl1_ (IsS85.ge HI0.out)) hb); replace HI0 := a0_ (IsS85.below (is85_ HI0.out) hb); (try clear hb); (try clear hb2); (try clear hk); (try clear hi); (try clear ho0); obtain ⟨Ao81, co81, eo81⟩ := Kd.R_slice HO331.out; subst eo81) | ((with_reducible refine gate_callee (f := 38) rfl ?_); refine goesL_ (some 19) rfl rfl Tryz.func38 kr_ rfl #[.pointer (some ⟨g, 0, none⟩), .int .i64 (t329.length : Int)] rfl ta_ ?_; (with_reducible refine (spec_l01Next.calls g s0_0 t327 t328 (t329.length : Int) t332 t333 t334 w0 _ ?side1 ?side2 A6.out).mono ?_); (case side1 => exact is85_ HI0.out); (case side2 => exact bl1_ (IsS85.ge HI0.out)); rintro e w82 ⟨rfl, hi, hb, hk⟩; refine ⟨_, rfl, ?_⟩; replace HO320 := a0_ (Kd.R_mono (Kd.R_keep (IsS85.apart (show IsS85 w0 _ g s0_0 t327 t328 from is85_ HI0.out) (ra_ HO320.out) (by decide)) hk (fun _ h => h.2)) (fun _ h => h.1)); replace HO331 := a0_ (Kd.R_mono (Kd.R_keep (IsS85.apart (show IsS85 w0 _ g s0_0 t327 t328 from is85_ HI0.out) (ra_ HO331.out) (by decide)) hk (fun _ h => h.2)) (fun _ h => h.1)); replace HK := a0_ (KeepBut.trans (kb0_) hk (.inl rfl)); replace HB := a0_ (hb); replace HI0 := a0_ (hi); (try clear hb); (try clear hb2); (try clear hk); (try clear hi)) | ((with_reducible refine gate_callee (f := 38) rfl ?_); refine goesL_ (some 21) rfl rfl Tryz.func38 kr_ rfl #[.pointer (some ⟨g, 0, none⟩), .int .i64 24] rfl ta_ ?_; (with_reducible refine (spec_l01Next.calls g s0_0 t333 t334 24 t335 t336 t337 w0 _ ?side1 ?side2 A7.out).mono ?_); (case side1 => exact is85_ HI0.out); (case side2 => exact bl1_ (IsS85.ge HI0.out)); rintro e w83 ⟨rfl, hi, hb, hk⟩; refine ⟨_, rfl, ?_⟩; replace HO320 := a0_ (Kd.R_mono (Kd.R_keep (IsS85.apart (show IsS85 w0 _ g s0_0 t333 t334 from is85_ HI0.out) (ra_ HO320.out) (by decide)) hk (fun _ h => h.2)) (fun _ h => h.1)); replace HO331 := a0_ (Kd.R_mono (Kd.R_keep (IsS85.apart (show IsS85 w0 _ g s0_0 t333 t334 from is85_ HI0.out) (ra_ HO331.out) (by decide)) hk (fun _ h => h.2)) (fun _ h => h.1)); replace HK := a0_ (KeepBut.trans (kb0_) hk (.inl rfl)); replace HB := a0_ (hb); replace HI0 := a0_ (hi); (try clear hb); (try clear hb2); (try clear hk); (try clear hi)))
          replace HO320 := a0_ (Kd.R_drew HO320.out)
          replace HO331 := a0_ (Kd.R_drew HO331.out)
          replace HI0 := a0_ (IsS85.drew HI0.out)
          replace HK := a0_ (keep_drew HK.out)
          replace HB := a0_ (below_drew1 HB.out)
          have p362 : 0 ≤ (0 : Int) := (by omega)
          have q362 : 0 < (t329.length : Int) := od_
          obtain ⟨ad362, e362, hx362_0, hx362_1⟩ := at_T46 (Kd.R_reads' HO331.out).2.2 0 p362 q362
          cases e362
          have qi362 : (0 < t329.length) = True := eq_true (by omega)
          (try rw [show ((0 : Int)).toNat = 0 from rfl] at hx362_0)
          (try rw [show 0 * 2 = 0 from rfl] at hx362_0)
          (try rw [Addr.add_zero'] at hx362_0)
          (try rw [show ((0 : Int)).toNat = 0 from rfl] at hx362_1)
          (try rw [show 0 * 2 = 0 from rfl] at hx362_1)
          (try rw [Addr.add_zero'] at hx362_1)
          replace p362 := eq_true p362
          replace q362 := eq_true q362
          have p363 : 0 ≤ ((ji72) : Int) := od_
          have q363 : (ji72) < (t329.length : Int) := od_
          obtain ⟨ad363, e363, hx363_0, hx363_1⟩ := at_T46 (Kd.R_reads' HO331.out).2.2 (ji72) p363 q363
          obtain rfl : ad362 = ad363 := (by injection e363)
          replace p363 := eq_true p363
          replace q363 := eq_true q363
          refine start_ (n := 18) (S := fun w' => w'.cell? ad362 = some (.int .i64 ((rd_T46 t329 0).f0)) ∧ w'.cell? ⟨ad362.block, ad362.off + 1, none⟩ = some (.int .i64 ((rd_T46 t329 0).f1)) ∧ w'.cell? (ad362.add (((ji72)).toNat * 2)) = some (.int .i64 ((rd_T46 t329 (ji72)).f0)) ∧ w'.cell? ⟨(ad362.add (((ji72)).toNat * 2)).block, (ad362.add (((ji72)).toNat * 2)).off + 1, none⟩ = some (.int .i64 ((rd_T46 t329 (ji72)).f1))) (ds := [15, 16]) (mk_ 0 18) kr_ rfl rfl ⟨hx362_0, hx362_1, hx363_0, hx363_1⟩ (fun hHeld => ?_); refine with_tabW spec_l02Draw.tab20 spec_l02Draw.bits20 (fun HT_ HW_ => ?_)
          generalize w83.drew = w84 at HO320 HO331 HI0 HK HB hx362_0 hx362_1 hx363_0 hx363_1 hHeld ⊢
          refine pu_ 0 (some 65) (mk_ 1 17) HT_ ?_
          refine pu_ 1 (some 66) (mk_ 2 16) HT_ ?_
          refine pu_ 2 (some 67) (mk_ 3 15) HT_ ?_
          refine pu_ 3 (some 68) (mk_ 4 14) HT_ ?_
          refine pu_ 6 (some 71) #[true, true, true, true, false, false, true, false, false, false, false, false, false, false, false, false, false, false] HT_ ?_
          refine pu_ 7 (some 72) #[true, true, true, true, false, false, true, true, false, false, false, false, false, false, false, false, false, false] HT_ ?_
          refine pu_ 8 (some 73) #[true, true, true, true, false, false, true, true, true, false, false, false, false, false, false, false, false, false] HT_ ?_
          refine pu_ 9 (some 74) #[true, true, true, true, false, false, true, true, true, true, false, false, false, false, false, false, false, false] HT_ ?_
          refine pu_ 10 (some 75) #[true, true, true, true, false, false, true, true, true, true, true, false, false, false, false, false, false, false] HT_ ?_
          refine pu_ 11 (some 76) #[true, true, true, true, false, false, true, true, true, true, true, true, false, false, false, false, false, false] HT_ ?_
          refine tk_ 4 (some 69) #[true, true, true, true, true, false, true, true, true, true, true, true, false, false, false, false, false, false] HT_ HW_ hHeld (hy := .inl ⟨by rfl, by rintro w' ⟨s0, s1, s2, s3⟩; go_simp; with_reducible rfl⟩) ?_
          refine pu_ 5 (some 70) (mk_ 12 6) HT_ ?_
          refine tk_ 12 (some 77) (mk_ 13 5) HT_ HW_ hHeld (hy := .inl ⟨by rfl, by rintro w' ⟨s0, s1, s2, s3⟩; go_simp; with_reducible rfl⟩) ?_
          refine pu_ 13 (some 78) (mk_ 14 4) HT_ ?_
          refine pu_ 14 (some 79) (mk_ 15 3) HT_ ?_
          refine last_ (i := 15) (N := some 80) (mk_ 16 2) rfl rfl (one_of HT_.out kr_) (by decide) (fun K hK => ?_)
          refine value_ (w1 := ?_) (v := ?_) (by rfl) rfl ?_ ?_
          rotate_left 2
          ·go_simp
           constructor
           ·rfl
           ·rfl
          refine hK.out _ _ ?_
          clear hK K
          refine nm_ ?_
          refine last_ (i := 16) (N := some 81) (mk_ 17 1) rfl rfl (one_of HT_.out kr_) (by decide) (fun K hK => ?_)
          refine Kd.R_append_step k46 w.heap.size (by rfl) (.tmp 65) (.tmp 80) 35 46 (.agg #[(.int .i64 0), (.int .i64 0)]) 16 rfl Tryz.underlying35 info46 rfl (by decide) (by omega) (.slice (some ad362) t329.length co81) t329 (⟨wrap64 (((rd_T46 t329 0).f0) + 3), wrap64 (((rd_T46 t329 (ji72)).f1) + 2)⟩ : S46) [.int .i64 (wrap64 (((rd_T46 t329 0).f0) + 3)), .int .i64 (wrap64 (((rd_T46 t329 (ji72)).f1) + 2))] (fun k_ => some k_ ≠ (.slice Ao79 t318.length co79 : Value).ownBlock) (fun _ => False) rfl rfl ?aP (fun _ hk => hk.elim) ?aF ?aO (Below.refl _ _) ?aS ?aL ?_
          (case aP => exact k46_mkM _ _ _ (⟨wrap64 (((rd_T46 t329 0).f0) + 3), wrap64 (((rd_T46 t329 (ji72)).f1) + 2)⟩ : S46))
          (case aF => exact (fun k_ hk => Kd.fresh' (Kd.R_lt (ra_ HO320.out)) k_ hk))
          (case aO => exact (by (with_reducible repeat (first | apply Kd.R_alloc | apply Kd.R_drewN | apply Kd.R_drew)); exact Kd.R_mono HO331.out (fun _ hk => hk.2)))
          (case aS => exact (keep_size (w := w) (g := g) (row := none) (kb0_)))
          (case aL => have := LMc75.out; omega)
          intro v365 w85 ho hb hg hat
          rw [← Ny364.out] at ho
          replace HO320 := a0_ (Kd.R_after (ok := (fun _ => True)) (ra_ HO320.out) hg hat)
          replace HB := a0_ (below_weaken (bl1_ (IsS85.ge HI0.out)) HL.out hb)
          replace HI0 := a0_ (IsS85.grown (is85_ HI0.out) hg (IsS85.own_ne HI0.out HO331.out (by decide)))
          replace HK := a0_ (KeepBut.trans (kb0_) (KeepBut.of_grown hg g) (Kd.R_base2 HO331.out))
          have HO366 := a0_ (ho)
          clear HO331
          clear ho hb hg hat
          refine hK.out _ _ ?_
          clear hK K
          refine nm_ ?_
          refine pu_ 17 (some 2) (mk_ 18 0) HT_ ?_
          refine done_ (done_of HT_.out kr_) ?_
          try go_wp2
          go_ret
          exact ⟨_, by first | rfl | (simp [errW_none, errW_some] <;> rfl) | (simp only [← hji72]; first | rfl | (simp [errW_none, errW_some] <;> rfl)) | (simp [*, errW_none, errW_some] <;> rfl), by (with_reducible repeat (first | apply Kd.R_alloc | apply Kd.R_drewN | apply Kd.R_drew)); exact Kd.R_mono HO366.out (fun _ hk => trivial), is85_ HI0.out, bl1_ (IsS85.ge HI0.out), kb0_⟩
         ·rw [if_neg c75] at H
          exact absurd H (by simp)
        ·rw [if_neg c74] at H
         exact absurd H (by simp)
       ·rw [if_neg c73] at H
        exact absurd H (by simp)
      ·rw [if_neg c71] at H
       exact absurd H (by simp)
     ·rw [if_neg c70] at H
      have c70b0 : (t335 == 4) = false := beq_eq_false_iff_ne.mpr c70
      have c70b1 : (t335 != 4) = true := bne_iff_ne.mpr c70
      by_cases c86 : t335 = 5
      ·rw [if_pos c86] at H
       have c86b0 : (t335 == 5) = true := beq_iff_eq.mpr c86
       have c86b1 : (t335 != 5) = false := bne_eq_false_iff_eq.mpr c86
       clear c86
       by_cases c87 : 0 < (t329.length : Int)
       ·rw [if_pos c87] at H
        have c87b0 : decide (0 < (t329.length : Int)) = true := decide_eq_true c87
        have c87b1 : decide (0 < t329.length) = true := decide_eq_true (by omega)
        clear c87
        obtain ⟨ji88, hji88⟩ : ∃ j_ : Int, (wrap64 ((t329.length : Int) - 1)) = j_ := ⟨_, rfl⟩
        replace H : (if 0 ≤ (ji88) then (if (ji88) < (t329.length : Int) then (if t329.length < 8796093022208 then (some ((t329 ++ [(⟨wrap64 (((rd_T46 t329 0).f0) + 3), wrap64 (((rd_T46 t329 (ji88)).f1) + 2)⟩ : S46)]), t336, t337)) else (none)) else (none)) else (none)) = some (r1, r2, r3) := by first | (rw [hji88] at H; exact H) | (simp only [hji88] at H ⊢; exact H)
        (try rw [hji88] at A2)
        (try rw [hji88] at A3)
        (try rw [hji88] at A4)
        (try rw [hji88] at A5)
        (try rw [hji88] at A6)
        (try rw [hji88] at A7)
        have hji88w : (IntKind.i64.wrap ((t329.length : Int) - 1)) = ji88 := (i64_w _).trans hji88
        by_cases c89 : 0 ≤ (ji88)
        ·rw [if_pos c89] at H
         have c89b0 : decide (0 ≤ (ji88)) = true := decide_eq_true c89
         clear c89
         by_cases c90 : (ji88) < (t329.length : Int)
         ·rw [if_pos c90] at H
          have c90b0 : decide ((ji88) < (t329.length : Int)) = true := decide_eq_true c90
          clear c90
          by_cases c91 : t329.length < 8796093022208
          ·rw [if_pos c91] at H
           have LMc91 := Aside0.mk c91
           clear c91
           obtain ⟨y369, hy369⟩ : ∃ y_ : List (S46), y_ = (t329 ++ [(⟨wrap64 (((rd_T46 t329 0).f0) + 3), wrap64 (((rd_T46 t329 (ji88)).f1) + 2)⟩ : S46)]) := ⟨_, rfl⟩
           replace H : (some (y369, t336, t337)) = some (r1, r2, r3) := hh_ hy369 H
           have Ny369 := Aside0.mk hy369
           clear hy369
           simp only [Option.some.injEq, Prod.mk.injEq] at H
           obtain ⟨rfl, rfl, rfl⟩ := H
           go_enter Tryz.func55, Tryz.ntmps55
           try go_wp2_with (first | ((with_reducible refine gate_callee (f := 57) rfl ?_); refine goesL_ (some 8) rfl rfl Tryz.func57 kr_ rfl #[.pointer (some ⟨g, 0, none⟩), .int .i64 8] rfl ta_ ?_; (with_reducible refine (spec_l02DrawPoly.calls k g s0_0 s0_1 s0_2 8 t318 t321 t322 w0 _ ?side1 ?side2 A2.out).mono ?_); (case side1 => exact is85_ HI0.out); (case side2 => exact bl1_ (IsS85.ge HI0.out)); rintro e w92 ⟨v319, rfl, ho0, hi, hb, hk⟩; refine ⟨_, rfl, ?_⟩; have HO320 := a0_ (Kd.R_lower ho0 (keep_size (w := w) (g := g) (row := none) (kb0_))); replace HK := a0_ (KeepBut.trans (kb0_) hk (.inl rfl)); replace HB := a0_ (hb); replace HI0 := a0_ (hi); (try clear hb); (try clear hb2); (try clear hk); (try clear hi); (try clear ho0)) | ((with_reducible refine gate_callee (f := 38) rfl ?_); refine goesL_ (some 10) rfl rfl Tryz.func38 kr_ rfl #[.pointer (some ⟨g, 0, none⟩), .int .i64 9] rfl ta_ ?_; (with_reducible refine (spec_l01Next.calls g s0_0 t321 t322 9 t323 t324 t325 w0 _ ?side1 ?side2 A3.out).mono ?_); (case side1 => exact is85_ HI0.out); (case side2 => exact bl1_ (IsS85.ge HI0.out)); rintro e w93 ⟨rfl, hi, hb, hk⟩; refine ⟨_, rfl, ?_⟩; replace HO320 := a0_ (Kd.R_mono (Kd.R_keep (IsS85.apart (show IsS85 w0 _ g s0_0 t321 t322 from is85_ HI0.out) (ra_ HO320.out) (by decide)) hk (fun _ h => h.2)) (fun _ h => h.1)); replace HK := a0_ (KeepBut.trans (kb0_) hk (.inl rfl)); replace HB := a0_ (hb); replace HI0 := a0_ (hi); (try clear hb); (try clear hb2); (try clear hk); (try clear hi)) | ((with_reducible refine gate_callee (f := 38) rfl ?_); refine goesL_ (some 13) rfl rfl Tryz.func38 kr_ rfl #[.pointer (some ⟨g, 0, none⟩), .int .i64 9] rfl ta_ ?_; (with_reducible refine (spec_l01Next.calls g s0_0 t324 t325 9 t326 t327 t328 w0 _ ?side1 ?side2 A4.out).mono ?_); (case side1 => exact is85_ HI0.out); (case side2 => exact bl1_ (IsS85.ge HI0.out)); rintro e w94 ⟨rfl, hi, hb, hk⟩; refine ⟨_, rfl, ?_⟩; replace HO320 := a0_ (Kd.R_mono (Kd.R_keep (IsS85.apart (show IsS85 w0 _ g s0_0 t324 t325 from is85_ HI0.out) (ra_ HO320.out) (by decide)) hk (fun _ h => h.2)) (fun _ h => h.1)); replace HK := a0_ (KeepBut.trans (kb0_) hk (.inl rfl)); replace HB := a0_ (hb); replace HI0 := a0_ (hi); (try clear hb); (try clear hb2); (try clear hk); (try clear hi); obtain ⟨Ao95, co95, eo95⟩ := Kd.R_slice HO320.out; subst eo95) | ((with_reducible refine gate_callee (f := 56) rfl ?_); refine goesL_ (some 15) rfl rfl Tryz.func56 kr_ rfl #[.slice Ao95 t318.length co95, .int .i64 (wrap64 (t323 - 4)), .int .i64 (wrap64 (t326 - 4))] rfl ta_ ?_; (with_reducible refine (spec_l02Move.calls k _ _ t318 (wrap64 (t323 - 4)) (wrap64 (t326 - 4)) t329 _ ?side1 ?side2 A5.out).mono ?_); (case side1 => exact ca_ (Kd.R_reads' HO320.out).2.2); (case side2 => exact (Kd.R_reads' HO320.out).2.1); rintro e w96 ⟨v330, rfl, ho0, hb⟩; refine ⟨_, rfl, ?_⟩; have HO331 := a0_ (Kd.R_lower (Kd.R_new' ho0 (Kd.R_lt (ra_ HO320.out))) (keep_size (w := w) (g := g) (row := none) (kb0_))); replace HO320 := a0_ (Kd.R_elder' (ra_ HO320.out) (Kd.R_base ho0) hb); replace HK := a0_ (KeepBut.trans (kb0_) (KeepBut.of_below hb g none) (.inl rfl)); replace HB := a0_ (below_step (bl1_ (IsS85.ge HI0.out)) hb); replace HI0 := a0_ (IsS85.below (is85_ HI0.out) hb); (try clear hb); (try clear hb2); (try clear hk); (try clear hi); (try clear ho0); obtain ⟨Ao97, co97, eo97⟩ := Kd.R_slice HO331.out; subst eo97) | ((with_reducible refine gate_callee (f := 38) rfl ?_); refine goesL_ (some 19) rfl rfl Tryz.func38 kr_ rfl #[.pointer (some ⟨g, 0, none⟩), .int .i64 (t329.length : Int)] rfl ta_ ?_; (with_reducible refine (spec_l01Next.calls g s0_0 t327 t328 (t329.length : Int) t332 t333 t334 w0 _ ?side1 ?side2 A6.out).mono ?_); (case side1 => exact is85_ HI0.out); (case side2 => exact bl1_ (IsS85.ge HI0.out)); rintro e w98 ⟨rfl, hi, hb, hk⟩; refine ⟨_, rfl, ?_⟩; replace HO320 := a0_ (Kd.R_mono (Kd.R_keep (IsS85.apart (show IsS85 w0 _ g s0_0 t327 t328 from is85_ HI0.out) (ra_ HO320.out) (by decide)) hk (fun _ h => h.2)) (fun _ h => h.1)); replace HO331 := a0_ (Kd.R_mono (Kd.R_keep (IsS85.apart (show IsS85 w0 _ g s0_0 t327 t328 from is85_ HI0.out) (ra_ HO331.out) (by decide)) hk (fun _ h => h.2)) (fun _ h => h.1)); replace HK := a0_ (KeepBut.trans (kb0_) hk (.inl rfl)); replace HB := a0_ (hb); replace HI0 := a0_ (hi); (try clear hb); (try clear hb2); (try clear hk); (try clear hi)) | ((with_reducible refine gate_callee (f := 38) rfl ?_); refine goesL_ (some 21) rfl rfl Tryz.func38 kr_ rfl #[.pointer (some ⟨g, 0, none⟩), .int .i64 24] rfl ta_ ?_; (with_reducible refine (spec_l01Next.calls g s0_0 t333 t334 24 t335 t336 t337 w0 _ ?side1 ?side2 A7.out).mono ?_); (case side1 => exact is85_ HI0.out); (case side2 => exact bl1_ (IsS85.ge HI0.out)); rintro e w99 ⟨rfl, hi, hb, hk⟩; refine ⟨_, rfl, ?_⟩; replace HO320 := a0_ (Kd.R_mono (Kd.R_keep (IsS85.apart (show IsS85 w0 _ g s0_0 t333 t334 from is85_ HI0.out) (ra_ HO320.out) (by decide)) hk (fun _ h => h.2)) (fun _ h => h.1)); replace HO331 := a0_ (Kd.R_mono (Kd.R_keep (IsS85.apart (show IsS85 w0 _ g s0_0 t333 t334 from is85_ HI0.out) (ra_ HO331.out) (by decide)) hk (fun _ h => h.2)) (fun _ h => h.1)); replace HK := a0_ (KeepBut.trans (kb0_) hk (.inl rfl)); replace HB := a0_ (hb); replace HI0 := a0_ (hi); (try clear hb); (try clear hb2); (try clear hk); (try clear hi)))
           replace HO320 := a0_ (Kd.R_drew HO320.out)
           replace HO331 := a0_ (Kd.R_drew HO331.out)
           replace HI0 := a0_ (IsS85.drew HI0.out)
           replace HK := a0_ (keep_drew HK.out)
           replace HB := a0_ (below_drew1 HB.out)
           have p367 : 0 ≤ (0 : Int) := (by omega)
           have q367 : 0 < (t329.length : Int) := od_
           obtain ⟨ad367, e367, hx367_0, hx367_1⟩ := at_T46 (Kd.R_reads' HO331.out).2.2 0 p367 q367
           cases e367
           have qi367 : (0 < t329.length) = True := eq_true (by omega)
           (try rw [show ((0 : Int)).toNat = 0 from rfl] at hx367_0)
           (try rw [show 0 * 2 = 0 from rfl] at hx367_0)
           (try rw [Addr.add_zero'] at hx367_0)
           (try rw [show ((0 : Int)).toNat = 0 from rfl] at hx367_1)
           (try rw [show 0 * 2 = 0 from rfl] at hx367_1)
           (try rw [Addr.add_zero'] at hx367_1)
           replace p367 := eq_true p367
           replace q367 := eq_true q367
           have p368 : 0 ≤ ((ji88) : Int) := od_
           have q368 : (ji88) < (t329.length : Int) := od_
           obtain ⟨ad368, e368, hx368_0, hx368_1⟩ := at_T46 (Kd.R_reads' HO331.out).2.2 (ji88) p368 q368
           obtain rfl : ad367 = ad368 := (by injection e368)
           replace p368 := eq_true p368
           replace q368 := eq_true q368
           refine start_ (n := 18) (S := fun w' => w'.cell? ad367 = some (.int .i64 ((rd_T46 t329 0).f0)) ∧ w'.cell? ⟨ad367.block, ad367.off + 1, none⟩ = some (.int .i64 ((rd_T46 t329 0).f1)) ∧ w'.cell? (ad367.add (((ji88)).toNat * 2)) = some (.int .i64 ((rd_T46 t329 (ji88)).f0)) ∧ w'.cell? ⟨(ad367.add (((ji88)).toNat * 2)).block, (ad367.add (((ji88)).toNat * 2)).off + 1, none⟩ = some (.int .i64 ((rd_T46 t329 (ji88)).f1))) (ds := [15, 16]) (mk_ 0 18) kr_ rfl rfl ⟨hx367_0, hx367_1, hx368_0, hx368_1⟩ (fun hHeld => ?_); refine with_tabW spec_l02Draw.tab20 spec_l02Draw.bits20 (fun HT_ HW_ => ?_)
           generalize w99.drew = w100 at HO320 HO331 HI0 HK HB hx367_0 hx367_1 hx368_0 hx368_1 hHeld ⊢
           refine pu_ 0 (some 65) (mk_ 1 17) HT_ ?_
           refine pu_ 1 (some 66) (mk_ 2 16) HT_ ?_
           refine pu_ 2 (some 67) (mk_ 3 15) HT_ ?_
           refine pu_ 3 (some 68) (mk_ 4 14) HT_ ?_
           refine pu_ 6 (some 71) #[true, true, true, true, false, false, true, false, false, false, false, false, false, false, false, false, false, false] HT_ ?_
           refine pu_ 7 (some 72) #[true, true, true, true, false, false, true, true, false, false, false, false, false, false, false, false, false, false] HT_ ?_
           refine pu_ 8 (some 73) #[true, true, true, true, false, false, true, true, true, false, false, false, false, false, false, false, false, false] HT_ ?_
           refine pu_ 9 (some 74) #[true, true, true, true, false, false, true, true, true, true, false, false, false, false, false, false, false, false] HT_ ?_
           refine pu_ 10 (some 75) #[true, true, true, true, false, false, true, true, true, true, true, false, false, false, false, false, false, false] HT_ ?_
           refine pu_ 11 (some 76) #[true, true, true, true, false, false, true, true, true, true, true, true, false, false, false, false, false, false] HT_ ?_
           refine tk_ 4 (some 69) #[true, true, true, true, true, false, true, true, true, true, true, true, false, false, false, false, false, false] HT_ HW_ hHeld (hy := .inl ⟨by rfl, by rintro w' ⟨s0, s1, s2, s3⟩; go_simp; with_reducible rfl⟩) ?_
           refine pu_ 5 (some 70) (mk_ 12 6) HT_ ?_
           refine tk_ 12 (some 77) (mk_ 13 5) HT_ HW_ hHeld (hy := .inl ⟨by rfl, by rintro w' ⟨s0, s1, s2, s3⟩; go_simp; with_reducible rfl⟩) ?_
           refine pu_ 13 (some 78) (mk_ 14 4) HT_ ?_
           refine pu_ 14 (some 79) (mk_ 15 3) HT_ ?_
           refine last_ (i := 15) (N := some 80) (mk_ 16 2) rfl rfl (one_of HT_.out kr_) (by decide) (fun K hK => ?_)
           refine value_ (w1 := ?_) (v := ?_) (by rfl) rfl ?_ ?_
           rotate_left 2
           ·go_simp
            constructor
            ·rfl
            ·rfl
           refine hK.out _ _ ?_
           clear hK K
           refine nm_ ?_
           refine last_ (i := 16) (N := some 81) (mk_ 17 1) rfl rfl (one_of HT_.out kr_) (by decide) (fun K hK => ?_)
           refine Kd.R_append_step k46 w.heap.size (by rfl) (.tmp 65) (.tmp 80) 35 46 (.agg #[(.int .i64 0), (.int .i64 0)]) 16 rfl Tryz.underlying35 info46 rfl (by decide) (by omega) (.slice (some ad367) t329.length co97) t329 (⟨wrap64 (((rd_T46 t329 0).f0) + 3), wrap64 (((rd_T46 t329 (ji88)).f1) + 2)⟩ : S46) [.int .i64 (wrap64 (((rd_T46 t329 0).f0) + 3)), .int .i64 (wrap64 (((rd_T46 t329 (ji88)).f1) + 2))] (fun k_ => some k_ ≠ (.slice Ao95 t318.length co95 : Value).ownBlock) (fun _ => False) rfl rfl ?aP (fun _ hk => hk.elim) ?aF ?aO (Below.refl _ _) ?aS ?aL ?_
           (case aP => exact k46_mkM _ _ _ (⟨wrap64 (((rd_T46 t329 0).f0) + 3), wrap64 (((rd_T46 t329 (ji88)).f1) + 2)⟩ : S46))
           (case aF => exact (fun k_ hk => Kd.fresh' (Kd.R_lt (ra_ HO320.out)) k_ hk))
           (case aO => exact (by (with_reducible repeat (first | apply Kd.R_alloc | apply Kd.R_drewN | apply Kd.R_drew)); exact Kd.R_mono HO331.out (fun _ hk => hk.2)))
           (case aS => exact (keep_size (w := w) (g := g) (row := none) (kb0_)))
           (case aL => have := LMc91.out; omega)
           intro v370 w101 ho hb hg hat
           rw [← Ny369.out] at ho
           replace HO320 := a0_ (Kd.R_after (ok := (fun _ => True)) (ra_ HO320.out) hg hat)
           replace HB := a0_ (below_weaken (bl1_ (IsS85.ge HI0.out)) HL.out hb)
           replace HI0 := a0_ (IsS85.grown (is85_ HI0.out) hg (IsS85.own_ne HI0.out HO331.out (by decide)))
           replace HK := a0_ (KeepBut.trans (kb0_) (KeepBut.of_grown hg g) (Kd.R_base2 HO331.out))
           have HO371 := a0_ (ho)
           clear HO331
           clear ho hb hg hat
           refine hK.out _ _ ?_
           clear hK K
           refine nm_ ?_
           refine pu_ 17 (some 2) (mk_ 18 0) HT_ ?_
           refine done_ (done_of HT_.out kr_) ?_
           try go_wp2
           go_ret
           exact ⟨_, by first | rfl | (simp [errW_none, errW_some] <;> rfl) | (simp only [← hji88]; first | rfl | (simp [errW_none, errW_some] <;> rfl)) | (simp [*, errW_none, errW_some] <;> rfl), by (with_reducible repeat (first | apply Kd.R_alloc | apply Kd.R_drewN | apply Kd.R_drew)); exact Kd.R_mono HO371.out (fun _ hk => trivial), is85_ HI0.out, bl1_ (IsS85.ge HI0.out), kb0_⟩
          ·rw [if_neg c91] at H
           exact absurd H (by simp)
         ·rw [if_neg c90] at H
          exact absurd H (by simp)
        ·rw [if_neg c89] at H
         exact absurd H (by simp)
       ·rw [if_neg c87] at H
        exact absurd H (by simp)
      ·rw [if_neg c86] at H
       have c86b0 : (t335 == 5) = false := beq_eq_false_iff_ne.mpr c86
       have c86b1 : (t335 != 5) = true := bne_iff_ne.mpr c86
       simp only [Option.some.injEq, Prod.mk.injEq] at H
       obtain ⟨rfl, rfl, rfl⟩ := H
       go_enter Tryz.func55, Tryz.ntmps55
       go_wp2_with (first | ((with_reducible refine gate_callee (f := 57) rfl ?_); refine goesL_ (some 8) rfl rfl Tryz.func57 kr_ rfl #[.pointer (some ⟨g, 0, none⟩), .int .i64 8] rfl ta_ ?_; (with_reducible refine (spec_l02DrawPoly.calls k g s0_0 s0_1 s0_2 8 t318 t321 t322 w0 _ ?side1 ?side2 A2.out).mono ?_); (case side1 => exact is85_ HI0.out); (case side2 => exact bl1_ (IsS85.ge HI0.out)); rintro e w102 ⟨v319, rfl, ho0, hi, hb, hk⟩; refine ⟨_, rfl, ?_⟩; have HO320 := a0_ (Kd.R_lower ho0 (keep_size (w := w) (g := g) (row := none) (kb0_))); replace HK := a0_ (KeepBut.trans (kb0_) hk (.inl rfl)); replace HB := a0_ (hb); replace HI0 := a0_ (hi); (try clear hb); (try clear hb2); (try clear hk); (try clear hi); (try clear ho0)) | ((with_reducible refine gate_callee (f := 38) rfl ?_); refine goesL_ (some 10) rfl rfl Tryz.func38 kr_ rfl #[.pointer (some ⟨g, 0, none⟩), .int .i64 9] rfl ta_ ?_; (with_reducible refine (spec_l01Next.calls g s0_0 t321 t322 9 t323 t324 t325 w0 _ ?side1 ?side2 A3.out).mono ?_); (case side1 => exact is85_ HI0.out); (case side2 => exact bl1_ (IsS85.ge HI0.out)); rintro e w103 ⟨rfl, hi, hb, hk⟩; refine ⟨_, rfl, ?_⟩; replace HO320 := a0_ (Kd.R_mono (Kd.R_keep (IsS85.apart (show IsS85 w0 _ g s0_0 t321 t322 from is85_ HI0.out) (ra_ HO320.out) (by decide)) hk (fun _ h => h.2)) (fun _ h => h.1)); replace HK := a0_ (KeepBut.trans (kb0_) hk (.inl rfl)); replace HB := a0_ (hb); replace HI0 := a0_ (hi); (try clear hb); (try clear hb2); (try clear hk); (try clear hi)) | ((with_reducible refine gate_callee (f := 38) rfl ?_); refine goesL_ (some 13) rfl rfl Tryz.func38 kr_ rfl #[.pointer (some ⟨g, 0, none⟩), .int .i64 9] rfl ta_ ?_; (with_reducible refine (spec_l01Next.calls g s0_0 t324 t325 9 t326 t327 t328 w0 _ ?side1 ?side2 A4.out).mono ?_); (case side1 => exact is85_ HI0.out); (case side2 => exact bl1_ (IsS85.ge HI0.out)); rintro e w104 ⟨rfl, hi, hb, hk⟩; refine ⟨_, rfl, ?_⟩; replace HO320 := a0_ (Kd.R_mono (Kd.R_keep (IsS85.apart (show IsS85 w0 _ g s0_0 t324 t325 from is85_ HI0.out) (ra_ HO320.out) (by decide)) hk (fun _ h => h.2)) (fun _ h => h.1)); replace HK := a0_ (KeepBut.trans (kb0_) hk (.inl rfl)); replace HB := a0_ (hb); replace HI0 := a0_ (hi); (try clear hb); (try clear hb2); (try clear hk); (try clear hi); obtain ⟨Ao105, co105, eo105⟩ := Kd.R_slice HO320.out; subst eo105) | ((with_reducible refine gate_callee (f := 56) rfl ?_); refine goesL_ (some 15) rfl rfl Tryz.func56 kr_ rfl #[.slice Ao105 t318.length co105, .int .i64 (wrap64 (t323 - 4)), .int .i64 (wrap64 (t326 - 4))] rfl ta_ ?_; (with_reducible refine (spec_l02Move.calls k _ _ t318 (wrap64 (t323 - 4)) (wrap64 (t326 - 4)) t329 _ ?side1 ?side2 A5.out).mono ?_); (case side1 => exact ca_ (Kd.R_reads' HO320.out).2.2); (case side2 => exact (Kd.R_reads' HO320.out).2.1); rintro e w106 ⟨v330, rfl, ho0, hb⟩; refine ⟨_, rfl, ?_⟩; have HO331 := a0_ (Kd.R_lower (Kd.R_new' ho0 (Kd.R_lt (ra_ HO320.out))) (keep_size (w := w) (g := g) (row := none) (kb0_))); replace HO320 := a0_ (Kd.R_elder' (ra_ HO320.out) (Kd.R_base ho0) hb); replace HK := a0_ (KeepBut.trans (kb0_) (KeepBut.of_below hb g none) (.inl rfl)); replace HB := a0_ (below_step (bl1_ (IsS85.ge HI0.out)) hb); replace HI0 := a0_ (IsS85.below (is85_ HI0.out) hb); (try clear hb); (try clear hb2); (try clear hk); (try clear hi); (try clear ho0); obtain ⟨Ao107, co107, eo107⟩ := Kd.R_slice HO331.out; subst eo107) | ((with_reducible refine gate_callee (f := 38) rfl ?_); refine goesL_ (some 19) rfl rfl Tryz.func38 kr_ rfl #[.pointer (some ⟨g, 0, none⟩), .int .i64 (t329.length : Int)] rfl ta_ ?_; (with_reducible refine (spec_l01Next.calls g s0_0 t327 t328 (t329.length : Int) t332 t333 t334 w0 _ ?side1 ?side2 A6.out).mono ?_); (case side1 => exact is85_ HI0.out); (case side2 => exact bl1_ (IsS85.ge HI0.out)); rintro e w108 ⟨rfl, hi, hb, hk⟩; refine ⟨_, rfl, ?_⟩; replace HO320 := a0_ (Kd.R_mono (Kd.R_keep (IsS85.apart (show IsS85 w0 _ g s0_0 t327 t328 from is85_ HI0.out) (ra_ HO320.out) (by decide)) hk (fun _ h => h.2)) (fun _ h => h.1)); replace HO331 := a0_ (Kd.R_mono (Kd.R_keep (IsS85.apart (show IsS85 w0 _ g s0_0 t327 t328 from is85_ HI0.out) (ra_ HO331.out) (by decide)) hk (fun _ h => h.2)) (fun _ h => h.1)); replace HK := a0_ (KeepBut.trans (kb0_) hk (.inl rfl)); replace HB := a0_ (hb); replace HI0 := a0_ (hi); (try clear hb); (try clear hb2); (try clear hk); (try clear hi)) | ((with_reducible refine gate_callee (f := 38) rfl ?_); refine goesL_ (some 21) rfl rfl Tryz.func38 kr_ rfl #[.pointer (some ⟨g, 0, none⟩), .int .i64 24] rfl ta_ ?_; (with_reducible refine (spec_l01Next.calls g s0_0 t333 t334 24 t335 t336 t337 w0 _ ?side1 ?side2 A7.out).mono ?_); (case side1 => exact is85_ HI0.out); (case side2 => exact bl1_ (IsS85.ge HI0.out)); rintro e w109 ⟨rfl, hi, hb, hk⟩; refine ⟨_, rfl, ?_⟩; replace HO320 := a0_ (Kd.R_mono (Kd.R_keep (IsS85.apart (show IsS85 w0 _ g s0_0 t333 t334 from is85_ HI0.out) (ra_ HO320.out) (by decide)) hk (fun _ h => h.2)) (fun _ h => h.1)); replace HO331 := a0_ (Kd.R_mono (Kd.R_keep (IsS85.apart (show IsS85 w0 _ g s0_0 t333 t334 from is85_ HI0.out) (ra_ HO331.out) (by decide)) hk (fun _ h => h.2)) (fun _ h => h.1)); replace HK := a0_ (KeepBut.trans (kb0_) hk (.inl rfl)); replace HB := a0_ (hb); replace HI0 := a0_ (hi); (try clear hb); (try clear hb2); (try clear hk); (try clear hi)))
       go_ret
       exact ⟨_, er_, by (with_reducible repeat (first | apply Kd.R_alloc | apply Kd.R_drewN | apply Kd.R_drew)); exact Kd.R_mono HO331.out (fun _ hk => trivial), is85_ HI0.out, bl1_ (IsS85.ge HI0.out), kb0_⟩

end Go.Proofs.YtmdjkmfocgelnaaGreat.PFnListed
