/- Over the kit's printer by a driver of mine (hprint.py), with parts by hand: functions of the program as Lean functions, and that each call comes to exactly these answers. -/
import Derived.Test.YtmdjkmfocgelnaaGreatDoorPFnAllNetsx0
import Derived.Test.YtmdjkmfocgelnaaGreatDoorPFnAllNetsx8
import Derived.Test.YtmdjkmfocgelnaaGreatDoorPFnAllNetsx9
import Derived.Test.YtmdjkmfocgelnaaGreatDoorPFnAllNetsx20
namespace Go.Proofs.YtmdjkmfocgelnaaGreatDoor.PFnAllNets
open Go.RowKit Go.Proofs.YtmdjkmfocgelnaaGreatDoorW.PrintWords Go.Proofs.YtmdjkmfocgelnaaGreatDoorW.PrintLast Go.Proofs.YtmdjkmfocgelnaaGreatDoorW.PrintMore
attribute [local go_sem] max2_int min2_int max_two min_two max_three min_three max_four min_four   
set_option linter.unusedVariables false
set_option linter.unusedSimpArgs false
def spec_l02Draw.l0 : Nat → List (S56) → Int → List Int → Int → Int → Option ((List (S56)) × Int × Int)
 | 0, _, _, _, _, _ => none
 | k + 1, x5, x6, x1000, x1001, x1002 => (spec_l01Next.f x1000 x1001 x1002 2).bind fun bt503 => (if x6 < (wrap64 (40 + bt503.1)) then (if x5.length < 8796093022208 then (spec_l02Draw.l0 k (x5 ++ [(⟨x6, 0⟩ : S56)]) (wrap64 (x6 + 1)) x1000 bt503.2.1 bt503.2.2) else (none)) else (some (x5, bt503.2.1, bt503.2.2)))
def spec_l02Draw.f (k : Nat) (s0_0 : List Int) (s0_1 : Int) (s0_2 : Int) : Option ((List (S56)) × Int × Int) := (spec_l02DrawPoly.f k s0_0 s0_1 s0_2 8).bind fun bt465 => ((spec_l01Next.f s0_0 bt465.2.1 bt465.2.2 9).bind fun bt470 => ((spec_l01Next.f s0_0 bt470.2.1 bt470.2.2 9).bind fun bt473 => ((spec_l02Move.f k bt465.1 (wrap64 (bt470.1 - 4)) (wrap64 (bt473.1 - 4))).bind fun t476 => ((spec_l01Next.f s0_0 bt473.2.1 bt473.2.2 (t476.length : Int)).bind fun bt479 => ((spec_l01Next.f s0_0 bt479.2.1 bt479.2.2 24).bind fun bt482 => (if bt482.1 = 0 then ((some (([(-100), 100, 101] : List Int) : List Int)).bind fun y485 => ((spec_l01Next.f s0_0 bt482.2.1 bt482.2.2 3).bind fun bt488 => (if 0 ≤ bt488.1 then (if bt488.1 < (y485.length : Int) then (if 0 ≤ bt479.1 then (if bt479.1 < (t476.length : Int) then ((spec_l02Sort.f k (t476.set (bt479.1 : Int).toNat (⟨rd y485 bt488.1, (rd_T56 t476 bt479.1).f1⟩ : S56))).bind fun t493 => (some (t493, bt488.2.1, bt488.2.2))) else (none)) else (none)) else (none)) else (none)))) else (if bt482.1 = 1 then (if 0 ≤ bt479.1 then (if bt479.1 < (t476.length : Int) then (if t476.length < 8796093022208 then (some ((t476 ++ [(⟨(rd_T56 t476 bt479.1).f0, (rd_T56 t476 bt479.1).f1⟩ : S56)]), bt482.2.1, bt482.2.2)) else (none)) else (none)) else (none)) else (if bt482.1 = 2 then (some (([] : List (S56)), bt482.2.1, bt482.2.2)) else (if bt482.1 = 3 then (spec_l02Draw.l0 k (([] : List (S56))) 0 s0_0 bt482.2.1 bt482.2.2) else (if bt482.1 = 4 then (if 0 < (t476.length : Int) then (if 0 ≤ (wrap64 ((t476.length : Int) - 1)) then (if (wrap64 ((t476.length : Int) - 1)) < (t476.length : Int) then (if t476.length < 8796093022208 then (some ((t476 ++ [(⟨wrap64 (((rd_T56 t476 0).f0) + 3), wrap64 (((rd_T56 t476 (wrap64 ((t476.length : Int) - 1))).f1) + 2)⟩ : S56)]), bt482.2.1, bt482.2.2)) else (none)) else (none)) else (none)) else (none)) else (if bt482.1 = 5 then (if 0 < (t476.length : Int) then (if 0 ≤ (wrap64 ((t476.length : Int) - 1)) then (if (wrap64 ((t476.length : Int) - 1)) < (t476.length : Int) then (if t476.length < 8796093022208 then (some ((t476 ++ [(⟨wrap64 (((rd_T56 t476 0).f0) + 3), wrap64 (((rd_T56 t476 (wrap64 ((t476.length : Int) - 1))).f1) + 2)⟩ : S56)]), bt482.2.1, bt482.2.2)) else (none)) else (none)) else (none)) else (none)) else (some (t476, bt482.2.1, bt482.2.2)))))))))))))
def spec_l02Draw.T20 : Bool × List (List Nat × List Nat) := (true, [([], []), ([], []), ([1], [1]), ([2], [2]), ([3], [3]), ([4], [4]), ([], []), ([], []), ([7], [7]), ([8], [8]), ([6, 9], [6, 9]), ([10], [10]), ([11], [11]), ([12], [12]), ([5, 13], [5, 13]), ([14], [14]), ([0, 15], [0, 15]), ([16, 16, 0, 1, 2, 3, 4, 5, 6, 7, 8, 9, 10, 11, 12, 13, 14, 15, 16], [16])])
def spec_l02Draw.B20 : List Nat := [0, 0, 2, 6, 14, 30, 0, 0, 128, 384, 960, 1984, 4032, 8128, 16382, 32766, 65535, 131071]
theorem spec_l02Draw.tab20 : rtab .any (opsOf Tryz.f47 20) = spec_l02Draw.T20 := by kernel_rfl
theorem spec_l02Draw.bits20 : waitsOk spec_l02Draw.T20.2 spec_l02Draw.B20 = true := by kernel_rfl
set_option maxHeartbeats 8000000 in
set_option maxRecDepth 100000 in
theorem spec_l02Draw.calls (k : Nat) (g : Nat) (s0_0 : List Int) (s0_1 : Int) (s0_2 : Int) (r1 : List (S56)) (r2 : Int) (r3 : Int) (w0 w : World) (hI : IsS67 w0 w g s0_0 s0_1 s0_2) (hB : Below w0.heap.size w0 w) (h : spec_l02Draw.f k s0_0 s0_1 s0_2 = some (r1, r2, r3)) :
  Calls Tryz.prog 47 #[.pointer (some ⟨g, 0, none⟩)] w fun e w' => ∃ v0_ : Value, e = .returned (v0_) ∧ Kd.R k56 56 w' w.heap.size (fun _ => True) v0_ r1 ∧ IsS67 w0 w' g s0_0 r2 r3 ∧ Below w0.heap.size w0 w' ∧ KeepBut w w' g none := by
 have hu56 := Tryz.underlying56
 have HI0 := Aside0.mk hI
 have HK := a0_ (KeepBut.refl w g none)
 have HL := Aside0.mk hB.size
 clear hI
 have HW0 := Aside0.mk hB.size
 have HB := Aside0.mk hB
 clear hB
 have H := h
 clear h
 unfold spec_l02Draw.f at H
 obtain ⟨⟨t465, t468, t469⟩, A2, H⟩ := bs_ H
 dsimp only at H
 obtain ⟨⟨t470, t471, t472⟩, A3, H⟩ := bs_ H
 dsimp only at H
 obtain ⟨⟨t473, t474, t475⟩, A4, H⟩ := bs_ H
 dsimp only at H
 obtain ⟨t476, A5, H⟩ := bs_ H
 obtain ⟨⟨t479, t480, t481⟩, A6, H⟩ := bs_ H
 dsimp only at H
 obtain ⟨⟨t482, t483, t484⟩, A7, H⟩ := bs_ H
 dsimp only at H
 go_enter Tryz.func47, Tryz.ntmps47
 go_upto_region 4 with (first | ((with_reducible refine gate_callee (f := 77) rfl ?_); refine goesL_ (some 8) rfl rfl Tryz.func77 kr_ rfl #[.pointer (some ⟨g, 0, none⟩), .int .i64 8] rfl ta_ ?_; (with_reducible refine (spec_l02DrawPoly.calls k g s0_0 s0_1 s0_2 8 t465 t468 t469 w0 _ ?side1 ?side2 A2.out).mono ?_); (case side1 => exact is67_ HI0.out); (case side2 => exact bl1_ (IsS67.ge HI0.out)); rintro e w45 ⟨v466, rfl, ho0, hi, hb, hk⟩; refine ⟨_, rfl, ?_⟩; have HO467 := a0_ (Kd.R_lower ho0 (keep_size (w := w) (g := g) (row := none) (kb0_))); replace HK := a0_ (KeepBut.trans (kb0_) hk (.inl rfl)); replace HB := a0_ (hb); replace HI0 := a0_ (hi); (try clear hb); (try clear hk); (try clear hi); (try clear ho0)) | ((with_reducible refine gate_callee (f := 46) rfl ?_); refine goesL_ (some 10) rfl rfl Tryz.func46 kr_ rfl #[.pointer (some ⟨g, 0, none⟩), .int .i64 9] rfl ta_ ?_; (with_reducible refine (spec_l01Next.calls g s0_0 t468 t469 9 t470 t471 t472 w0 _ ?side1 ?side2 A3.out).mono ?_); (case side1 => exact is67_ HI0.out); (case side2 => exact bl1_ (IsS67.ge HI0.out)); rintro e w46 ⟨rfl, hi, hb, hk⟩; refine ⟨_, rfl, ?_⟩; replace HO467 := a0_ (Kd.R_mono (Kd.R_keep (IsS67.apart (show IsS67 w0 _ g s0_0 t468 t469 from is67_ HI0.out) (ra_ HO467.out) (by decide)) hk (fun _ h => h.2)) (fun _ h => h.1)); replace HK := a0_ (KeepBut.trans (kb0_) hk (.inl rfl)); replace HB := a0_ (hb); replace HI0 := a0_ (hi); (try clear hb); (try clear hk); (try clear hi)) | ((with_reducible refine gate_callee (f := 46) rfl ?_); refine goesL_ (some 13) rfl rfl Tryz.func46 kr_ rfl #[.pointer (some ⟨g, 0, none⟩), .int .i64 9] rfl ta_ ?_; (with_reducible refine (spec_l01Next.calls g s0_0 t471 t472 9 t473 t474 t475 w0 _ ?side1 ?side2 A4.out).mono ?_); (case side1 => exact is67_ HI0.out); (case side2 => exact bl1_ (IsS67.ge HI0.out)); rintro e w47 ⟨rfl, hi, hb, hk⟩; refine ⟨_, rfl, ?_⟩; replace HO467 := a0_ (Kd.R_mono (Kd.R_keep (IsS67.apart (show IsS67 w0 _ g s0_0 t471 t472 from is67_ HI0.out) (ra_ HO467.out) (by decide)) hk (fun _ h => h.2)) (fun _ h => h.1)); replace HK := a0_ (KeepBut.trans (kb0_) hk (.inl rfl)); replace HB := a0_ (hb); replace HI0 := a0_ (hi); (try clear hb); (try clear hk); (try clear hi); obtain ⟨Ao48, co48, eo48⟩ := Kd.R_slice HO467.out; subst eo48) | ((with_reducible refine gate_callee (f := 76) rfl ?_); refine goesL_ (some 15) rfl rfl Tryz.func76 kr_ rfl #[.slice Ao48 t465.length co48, .int .i64 (wrap64 (t470 - 4)), .int .i64 (wrap64 (t473 - 4))] rfl ta_ ?_; (with_reducible refine (spec_l02Move.calls k _ _ t465 (wrap64 (t470 - 4)) (wrap64 (t473 - 4)) t476 _ ?side1 ?side2 A5.out).mono ?_); (case side1 => exact ca_ (Kd.R_reads' HO467.out).2.2); (case side2 => exact (Kd.R_reads' HO467.out).2.1); rintro e w49 ⟨v477, rfl, ho0, hb⟩; refine ⟨_, rfl, ?_⟩; have HO478 := a0_ (Kd.R_lower (Kd.R_new' ho0 (Kd.R_lt (ra_ HO467.out))) (keep_size (w := w) (g := g) (row := none) (kb0_))); replace HO467 := a0_ (Kd.R_elder' (ra_ HO467.out) (Kd.R_base ho0) hb); replace HK := a0_ (KeepBut.trans (kb0_) (KeepBut.of_below hb g none) (.inl rfl)); replace HB := a0_ (below_step (bl1_ (IsS67.ge HI0.out)) hb); replace HI0 := a0_ (IsS67.below (is67_ HI0.out) hb); (try clear hb); (try clear ho0); obtain ⟨Ao50, co50, eo50⟩ := Kd.R_slice HO478.out; subst eo50) | ((with_reducible refine gate_callee (f := 46) rfl ?_); refine goesL_ (some 19) rfl rfl Tryz.func46 kr_ rfl #[.pointer (some ⟨g, 0, none⟩), .int .i64 (t476.length : Int)] rfl ta_ ?_; (with_reducible refine (spec_l01Next.calls g s0_0 t474 t475 (t476.length : Int) t479 t480 t481 w0 _ ?side1 ?side2 A6.out).mono ?_); (case side1 => exact is67_ HI0.out); (case side2 => exact bl1_ (IsS67.ge HI0.out)); rintro e w51 ⟨rfl, hi, hb, hk⟩; refine ⟨_, rfl, ?_⟩; replace HO467 := a0_ (Kd.R_mono (Kd.R_keep (IsS67.apart (show IsS67 w0 _ g s0_0 t474 t475 from is67_ HI0.out) (ra_ HO467.out) (by decide)) hk (fun _ h => h.2)) (fun _ h => h.1)); replace HO478 := a0_ (Kd.R_mono (Kd.R_keep (IsS67.apart (show IsS67 w0 _ g s0_0 t474 t475 from is67_ HI0.out) (ra_ HO478.out) (by decide)) hk (fun _ h => h.2)) (fun _ h => h.1)); replace HK := a0_ (KeepBut.trans (kb0_) hk (.inl rfl)); replace HB := a0_ (hb); replace HI0 := a0_ (hi); (try clear hb); (try clear hk); (try clear hi)) | ((with_reducible refine gate_callee (f := 46) rfl ?_); refine goesL_ (some 21) rfl rfl Tryz.func46 kr_ rfl #[.pointer (some ⟨g, 0, none⟩), .int .i64 24] rfl ta_ ?_; (with_reducible refine (spec_l01Next.calls g s0_0 t480 t481 24 t482 t483 t484 w0 _ ?side1 ?side2 A7.out).mono ?_); (case side1 => exact is67_ HI0.out); (case side2 => exact bl1_ (IsS67.ge HI0.out)); rintro e w52 ⟨rfl, hi, hb, hk⟩; refine ⟨_, rfl, ?_⟩; replace HO467 := a0_ (Kd.R_mono (Kd.R_keep (IsS67.apart (show IsS67 w0 _ g s0_0 t480 t481 from is67_ HI0.out) (ra_ HO467.out) (by decide)) hk (fun _ h => h.2)) (fun _ h => h.1)); replace HO478 := a0_ (Kd.R_mono (Kd.R_keep (IsS67.apart (show IsS67 w0 _ g s0_0 t480 t481 from is67_ HI0.out) (ra_ HO478.out) (by decide)) hk (fun _ h => h.2)) (fun _ h => h.1)); replace HK := a0_ (KeepBut.trans (kb0_) hk (.inl rfl)); replace HB := a0_ (hb); replace HI0 := a0_ (hi); (try clear hb); (try clear hk); (try clear hi)))
 by_cases c8 : t482 = 0
 ·rw [if_pos c8] at H
  have c8b0 : (t482 == 0) = true := beq_iff_eq.mpr c8
  have c8b1 : (t482 != 0) = false := bne_eq_false_iff_eq.mpr c8
  clear c8
  obtain ⟨y485, hy485⟩ : ∃ y_ : List Int, y_ = (([(-100), 100, 101] : List Int)) := ⟨_, rfl⟩
  replace H : ((spec_l01Next.f s0_0 t483 t484 3).bind fun bt488 => (if 0 ≤ bt488.1 then (if bt488.1 < (y485.length : Int) then (if 0 ≤ t479 then (if t479 < (t476.length : Int) then ((spec_l02Sort.f k (t476.set (t479 : Int).toNat (⟨rd y485 bt488.1, (rd_T56 t476 t479).f1⟩ : S56))).bind fun t493 => (some (t493, bt488.2.1, bt488.2.2))) else (none)) else (none)) else (none)) else (none))) = some (r1, r2, r3) := hh_ hy485 H
  have Ny485 := Aside0.mk hy485
  clear hy485
  obtain ⟨⟨t488, t489, t490⟩, A9, H⟩ := bs_ H
  dsimp only at H
  by_cases c10 : 0 ≤ t488
  ·rw [if_pos c10] at H
   have c10b0 : decide (0 ≤ t488) = true := decide_eq_true c10
   clear c10
   by_cases c11 : t488 < (y485.length : Int)
   ·rw [if_pos c11] at H
    have c11b0 : decide (t488 < (y485.length : Int)) = true := decide_eq_true c11
    clear c11
    by_cases c12 : 0 ≤ t479
    ·rw [if_pos c12] at H
     have c12b0 : decide (0 ≤ t479) = true := decide_eq_true c12
     clear c12
     by_cases c13 : t479 < (t476.length : Int)
     ·rw [if_pos c13] at H
      have c13b0 : decide (t479 < (t476.length : Int)) = true := decide_eq_true c13
      clear c13
      obtain ⟨y492, hy492⟩ : ∃ y_ : List (S56), y_ = (t476.set (t479 : Int).toNat (⟨rd y485 t488, (rd_T56 t476 t479).f1⟩ : S56)) := ⟨_, rfl⟩
      replace H : ((spec_l02Sort.f k y492).bind fun t493 => (some (t493, t489, t490))) = some (r1, r2, r3) := hh_ hy492 H
      have Ny492 := Aside0.mk hy492
      clear hy492
      obtain ⟨t493, A15, H⟩ := bs_ H
      simp only [Option.some.injEq, Prod.mk.injEq] at H
      obtain ⟨rfl, rfl, rfl⟩ := H
      go_wp2_with (first | ((with_reducible refine gate_dst (N := 26) rfl ?_); refine Kd.R_lit (Kd.int .i64) _ 2 ?hg (N := 26) ?hd (xs := ([(-100), 100, 101] : List Int)) (inner := [.int .i64 (-100), .int .i64 100, .int .i64 101]) (ok := fun _ => True) (okp := fun _ => True) ?hr ?hp (fun _ hk => hk) trivial (Below.refl _ _) (Nat.le_refl _) (by simp) ?_; (case hd => rfl); (case hg => rfl); (case hr => first | (go_simp; done) | (go_simp; rfl)); (case hp => exact (Reps.one (show Kd.M (Kd.int .i64) _ _ _ (-100) [.int .i64 (-100)] from rfl) (Reps.one (show Kd.M (Kd.int .i64) _ _ _ 100 [.int .i64 100] from rfl) (Reps.one (show Kd.M (Kd.int .i64) _ _ _ 101 [.int .i64 101] from rfl) (Reps.none _ _))))); intro v486 w24 ho25 hb hg_ hnew_; clear hg_ hnew_; (first | rw [← Ny485.out] at ho25 | (simp only [Int.reduceToNat] at ho25; rw [← Ny485.out] at ho25)); replace HO467 := a0_ (Kd.R_below (ra_ HO467.out) hb); replace HO478 := a0_ (Kd.R_below (ra_ HO478.out) hb); have HO487 := a0_ (Kd.R_lower ho25 (keep_size (w := w) (g := g) (row := none) (kb0_))); replace HK := a0_ (KeepBut.trans (kb0_) (KeepBut.of_below hb g none) (.inl rfl)); replace HB := a0_ (below_step (bl1_ (IsS67.ge HI0.out)) hb); replace HI0 := a0_ (IsS67.below (is67_ HI0.out) hb); clear hb ho25) | ((with_reducible refine gate_callee (f := 46) rfl ?_); refine goesL_ (some 28) rfl rfl Tryz.func46 kr_ rfl #[.pointer (some ⟨g, 0, none⟩), .int .i64 3] rfl ta_ ?_; (with_reducible refine (spec_l01Next.calls g s0_0 t483 t484 3 t488 t489 t490 w0 _ ?side1 ?side2 A9.out).mono ?_); (case side1 => exact is67_ HI0.out); (case side2 => exact bl1_ (IsS67.ge HI0.out)); rintro e w26 ⟨rfl, hi, hb, hk⟩; refine ⟨_, rfl, ?_⟩; replace HO467 := a0_ (Kd.R_mono (Kd.R_keep (IsS67.apart (show IsS67 w0 _ g s0_0 t483 t484 from is67_ HI0.out) (ra_ HO467.out) (by decide)) hk (fun _ h => h.2)) (fun _ h => h.1)); replace HO478 := a0_ (Kd.R_mono (Kd.R_keep (IsS67.apart (show IsS67 w0 _ g s0_0 t483 t484 from is67_ HI0.out) (ra_ HO478.out) (by decide)) hk (fun _ h => h.2)) (fun _ h => h.1)); replace HO487 := a0_ (Kd.R_mono (Kd.R_keep (IsS67.apart (show IsS67 w0 _ g s0_0 t483 t484 from is67_ HI0.out) (ra_ HO487.out) (by decide)) hk (fun _ h => h.2)) (fun _ h => h.1)); replace HK := a0_ (KeepBut.trans (kb0_) hk (.inl rfl)); replace HB := a0_ (hb); replace HI0 := a0_ (hi); (try clear hb); (try clear hk); (try clear hi); obtain ⟨Ao27, co27, eo27⟩ := Kd.R_slice HO487.out; subst eo27; have p491 : 0 ≤ (t488 : Int) := od_; have q491 : t488 < (y485.length : Int) := od_; obtain ⟨ad491, e491, hx491_0⟩ := Kd.at_int (Kd.R_reads' HO487.out).2.2 t488 p491 q491; cases e491; replace p491 := eq_true p491; replace q491 := eq_true q491; have p14 : 0 ≤ (t479 : Int) := od_; have q14 : (t479 : Int) < ((t476.length : Int) : Int) := od_; obtain ⟨go14, co14, eo14, gb14, gl14, cl14, HG14⟩ := Kd.R_form HO478.out (by omega); (first | cases eo14 | (injection eo14 with ea_ en_ ec_; (first | subst ea_ | (injection ea_ with ea_; subst ea_)); subst ec_; clear en_)); have GB14 := Aside0.mk gb14; have GG14 := Aside0.mk HG14; clear gb14 gl14 HG14; obtain ⟨ce14, hcl14, hM14, hcc14, hfr14⟩ := Kd.R_elem HO478.out z56 (t479 : Int) p14 q14; obtain rfl := k56_openM hM14; have hx14_0 : w26.cell? ⟨go14, (t479 : Int).toNat * 2, none⟩ = some (.int .i64 ((rd_T56 t476 t479).f0)) := hcc14 0 _ rfl; have hx14_1 : w26.cell? ⟨go14, (t479 : Int).toNat * 2 + 1, none⟩ = some (.int .i64 ((rd_T56 t476 t479).f1)) := hcc14 1 _ rfl; have hf14_0 : w26.frozen? ⟨go14, (t479 : Int).toNat * 2, none⟩ = false := hfr14 0; have hf14_1 : w26.frozen? ⟨go14, (t479 : Int).toNat * 2 + 1, none⟩ = false := hfr14 1; clear hcl14 hcc14 hfr14 hM14; replace p14 := eq_true p14; replace q14 := eq_true q14; have n_ := a0_ (Kd.R_mono (ok' := (fun k_ => some k_ ≠ (.slice Ao48 t465.length co48 : Value).ownBlock)) HO478.out (fun k_ hk => hk.2)); clear HO478; have HO478 := n_; clear n_; have HX28 := a0_ (show Kd.R k56 56 w26 w.heap.size (fun k_ => some k_ ≠ (.slice Ao48 t465.length co48 : Value).ownBlock) (.slice (some ⟨go14, 0, none⟩) t476.length co50) t476 from (ra_ HO478.out)); obtain ⟨ce28, hcl28, hM28, hcc28, hfr28⟩ := Kd.R_elem HX28.out z56 (t479 : Int) (od_) (by have h_ : (t479 : Int) < ((t476.length : Int) : Int) := od_; first | exact h_ | (have e_ := (Kd.R_reads' HO478.out).1; omega) | simpa using h_); obtain rfl := k56_openM hM28; have HP28 := Kd.R_seg HX28.out (t479 : Int) (od_) (by have h_ : (t479 : Int) < ((t476.length : Int) : Int) := od_; first | exact h_ | (have e_ := (Kd.R_reads' HO478.out).1; omega) | simpa using h_) (seg := [.int .i64 (rd y485 t488)]) (j := 0) hcl28 hcc28 (show 1 ≤ 2 from by decide) (x' := (⟨rd y485 t488, (rd_T56 t476 t479).f1⟩ : S56)) (k56_mkM _ _ _ (⟨rd y485 t488, (rd_T56 t476 t479).f1⟩ : S56) ) (fun _ hk => hk); have hx28_0 := hcc28 0 _ rfl; (try simp only [show (k56).sz = 2 from rfl, Nat.mul_one, Nat.add_zero] at hx28_0); have hf28_0 := hfr28 0; (try simp only [show (k56).sz = 2 from rfl, Nat.mul_one, Nat.add_zero] at hf28_0); clear hcl28 hcc28 hfr28 hM28) | ((with_reducible refine gate_store (t := 2) (p := 32) rfl ?_); refine store_event (t := 2) (p := 32) (v := ?vo_w29) (w1 := (w26.setCell ⟨go14, (t479 : Int).toNat * 2, none⟩ (.int .i64 (rd y485 t488)))) ?hg ?ho ?hn ?hr ?_; (case ho => rfl); (case hg => rfl); (case hn => rfl); (case hr => first | (go_simp; done) | (go_simp; rfl)); intro w29 hw; have hg : w26.grownBy w29 (some go14) := (by rw [hw]; exact HP28.2); have hp_ : Kd.R k56 56 w29 w.heap.size (fun k_ => some k_ ≠ (.slice Ao48 t465.length co48 : Value).ownBlock) (.slice (some ⟨go14, 0, none⟩) t476.length co50) y492 := (by rw [hw, Ny492.out]; exact HP28.1); clear HP28; replace HI0 := a0_ (IsS67.grown (is67_ HI0.out) hg (IsS67.own_ne HI0.out HO478.out (by decide))); replace HO467 := a0_ (Kd.R_after (v := (.slice (some ⟨go14, 0, none⟩) t476.length co50)) (v1 := (.slice (some ⟨go14, 0, none⟩) t476.length co50)) (ok := (fun _ => True)) (ra_ HO467.out) hg (.inl rfl)); replace HO487 := a0_ (Kd.R_over' (v := (.slice (some ⟨go14, 0, none⟩) t476.length co50)) (ra_ HO487.out) (Kd.R_typed HO478.out) (by decide) hg); replace HB := a0_ ((by rw [hw]; exact below_set (HB.out) (Nat.le_trans HL.out GB14.out) : Below w0.heap.size w0 w29)); replace HK := a0_ (KeepBut.trans (kb0_) (KeepBut.of_grown hg g) (Kd.R_base2 HO478.out)); replace HO478 := a0_ (hp_); clear hg hw hp_) | ((with_reducible refine gate_callee (f := 48) rfl ?_); refine goesL_ (some 34) rfl rfl Tryz.func48 kr_ rfl #[.slice (some ⟨go14, 0, none⟩) y492.length co50] rfl (by (try simp only [List.map_toArray, List.map_cons, List.map_nil]); first | done | (rw [show y492.length = t476.length from (Kd.R_reads' HO478.out).1.symm] <;> rfl) | rfl | (simp only [List.length_drop, List.length_take]; rfl)) ?_; (with_reducible refine (spec_l02Sort.calls k _ _ y492 t493 _ ?side1 ?side2 A15.out).mono ?_); (case side1 => exact ca_ (Kd.R_reads' HO478.out).2.2); (case side2 => rw [show y492.length = t476.length from (Kd.R_reads' HO478.out).1.symm]; exact (Kd.R_reads' HO478.out).2.1); rintro e w30 ⟨v494, rfl, ho0, hb⟩; refine ⟨_, rfl, ?_⟩; replace HO487 := a0_ (Kd.R_below (ra_ HO487.out) hb); have HO495 := a0_ (Kd.R_lower (Kd.R_new' (Kd.R_new' ho0 (Kd.R_lt (ra_ HO467.out))) (Kd.R_lt (ra_ HO478.out))) (keep_size (w := w) (g := g) (row := none) (kb0_))); replace HO467 := a0_ (Kd.R_elder' (ra_ HO467.out) (Kd.R_base ho0) hb); replace HO478 := a0_ (Kd.R_elder' (ra_ HO478.out) (Kd.R_base ho0) hb); replace HK := a0_ (KeepBut.trans (kb0_) (KeepBut.of_below hb g none) (.inl rfl)); replace HB := a0_ (below_step (bl1_ (IsS67.ge HI0.out)) hb); replace HI0 := a0_ (IsS67.below (is67_ HI0.out) hb); (try clear hb); (try clear ho0)))
      go_ret
      exact ⟨_, er_, by (with_reducible repeat (first | apply Kd.R_alloc | apply Kd.R_drewN | apply Kd.R_drew)); exact Kd.R_mono HO495.out (fun _ hk => trivial), is67_ HI0.out, bl1_ (IsS67.ge HI0.out), kb0_⟩
     ·rw [if_neg c13] at H
      exact absurd H (by simp)
    ·rw [if_neg c12] at H
     exact absurd H (by simp)
   ·rw [if_neg c11] at H
    exact absurd H (by simp)
  ·rw [if_neg c10] at H
   exact absurd H (by simp)
 ·rw [if_neg c8] at H
  have c8b0 : (t482 == 0) = false := beq_eq_false_iff_ne.mpr c8
  have c8b1 : (t482 != 0) = true := bne_iff_ne.mpr c8
  by_cases c31 : t482 = 1
  ·rw [if_pos c31] at H
   have c31b0 : (t482 == 1) = true := beq_iff_eq.mpr c31
   have c31b1 : (t482 != 1) = false := bne_eq_false_iff_eq.mpr c31
   clear c31
   by_cases c32 : 0 ≤ t479
   ·rw [if_pos c32] at H
    have c32b0 : decide (0 ≤ t479) = true := decide_eq_true c32
    clear c32
    by_cases c33 : t479 < (t476.length : Int)
    ·rw [if_pos c33] at H
     have c33b0 : decide (t479 < (t476.length : Int)) = true := decide_eq_true c33
     clear c33
     by_cases c34 : t476.length < 8796093022208
     ·rw [if_pos c34] at H
      have LMc34 := Aside0.mk c34
      clear c34
      obtain ⟨y497, hy497⟩ : ∃ y_ : List (S56), y_ = (t476 ++ [(⟨(rd_T56 t476 t479).f0, (rd_T56 t476 t479).f1⟩ : S56)]) := ⟨_, rfl⟩
      replace H : (some (y497, t483, t484)) = some (r1, r2, r3) := hh_ hy497 H
      have Ny497 := Aside0.mk hy497
      clear hy497
      simp only [Option.some.injEq, Prod.mk.injEq] at H
      obtain ⟨rfl, rfl, rfl⟩ := H
      (have p496 : 0 ≤ (t479 : Int) := od_; have q496 : t479 < (t476.length : Int) := od_; obtain ⟨ad496, e496, hx496_0, hx496_1⟩ := at_T56 (Kd.R_reads' HO478.out).2.2 t479 p496 q496; cases e496; replace p496 := eq_true p496; replace q496 := eq_true q496)
      go_wp2_with (first | ((with_reducible refine gate_builtin (b := .append) (xs := #[.tmp 37, .tmp 42]) rfl ?_); at_builtin; refine Kd.R_append k56 w.heap.size rfl (.tmp 37) (.tmp 42) 29 56 (.agg #[(.int .i64 0), (.int .i64 0)]) 16 rfl Tryz.underlying29 info56 rfl (by decide) (by omega) (.slice (some ad496) t476.length co50) t476 (⟨(rd_T56 t476 t479).f0, (rd_T56 t476 t479).f1⟩ : S56) [.int .i64 ((rd_T56 t476 t479).f0), .int .i64 ((rd_T56 t476 t479).f1)] (fun k_ => some k_ ≠ (.slice Ao48 t465.length co48 : Value).ownBlock) (fun _ => False) rfl rfl ?aP (fun _ hk => hk.elim) ?aF ?aO (Below.refl _ _) ?aS ?aL ?_; (case aP => exact k56_mkM _ _ _ (⟨(rd_T56 t476 t479).f0, (rd_T56 t476 t479).f1⟩ : S56)); (case aF => exact (fun k_ hk => Kd.fresh' (Kd.R_lt (ra_ HO467.out)) k_ hk)); (case aO => exact (by (with_reducible repeat (first | apply Kd.R_alloc | apply Kd.R_drewN | apply Kd.R_drew)); exact Kd.R_mono HO478.out (fun _ hk => hk.2))); (case aS => exact (keep_size (w := w) (g := g) (row := none) (kb0_))); (case aL => have := LMc34.out; omega); intro v498 w43 ho hb hg hat; rw [← Ny497.out] at ho; replace HO467 := a0_ (Kd.R_after (ok := (fun _ => True)) (ra_ HO467.out) hg hat); replace HB := a0_ (below_weaken (bl1_ (IsS67.ge HI0.out)) HL.out hb); replace HI0 := a0_ (IsS67.grown (is67_ HI0.out) hg (IsS67.own_ne HI0.out HO478.out (by decide))); replace HK := a0_ (KeepBut.trans (kb0_) (KeepBut.of_grown hg g) (Kd.R_base2 HO478.out)); have HO499 := a0_ (ho); clear HO478; clear ho hb hg hat))
      go_ret
      exact ⟨_, er_, by (with_reducible repeat (first | apply Kd.R_alloc | apply Kd.R_drewN | apply Kd.R_drew)); exact Kd.R_mono HO499.out (fun _ hk => trivial), is67_ HI0.out, bl1_ (IsS67.ge HI0.out), kb0_⟩
     ·rw [if_neg c34] at H
      exact absurd H (by simp)
    ·rw [if_neg c33] at H
     exact absurd H (by simp)
   ·rw [if_neg c32] at H
    exact absurd H (by simp)
  ·rw [if_neg c31] at H
   have c31b0 : (t482 == 1) = false := beq_eq_false_iff_ne.mpr c31
   have c31b1 : (t482 != 1) = true := bne_iff_ne.mpr c31
   by_cases c44 : t482 = 2
   ·rw [if_pos c44] at H
    have c44b0 : (t482 == 2) = true := beq_iff_eq.mpr c44
    have c44b1 : (t482 != 2) = false := bne_eq_false_iff_eq.mpr c44
    clear c44
    simp only [Option.some.injEq, Prod.mk.injEq] at H
    obtain ⟨rfl, rfl, rfl⟩ := H
    go_wp2
    go_ret
    exact ⟨_, er_, by first | exact Kd.R_nil _ _ _ _ _ | exact Kd.N_nil _ _ _ _ _ | exact Kd.V_nil _ _ _ _ _ | exact Kd.Q_nil _ _ _ _ _ | exact Kd.S_nil _ _ _ _ _, is67_ HI0.out, bl1_ (IsS67.ge HI0.out), kb0_⟩
   ·rw [if_neg c44] at H
    have c44b0 : (t482 == 2) = false := beq_eq_false_iff_ne.mpr c44
    have c44b1 : (t482 != 2) = true := bne_iff_ne.mpr c44
    by_cases c53 : t482 = 3
    ·rw [if_pos c53] at H
     have c53b0 : (t482 == 3) = true := beq_iff_eq.mpr c53
     have c53b1 : (t482 != 3) = false := bne_eq_false_iff_eq.mpr c53
     clear c53
     obtain ⟨y500, hy500⟩ : ∃ y_ : List (S56), y_ = (([] : List (S56))) := ⟨_, rfl⟩
     replace H : (spec_l02Draw.l0 k y500 0 s0_0 t483 t484) = some (r1, r2, r3) := hh_ hy500 H
     have Ny500 := Aside0.mk hy500
     clear hy500
     have H' := Aside0.mk H
     clear H
     go_wp2_with (first | ((with_reducible refine gate_dst (N := 48) rfl ?_); refine Kd.R_lit k56 _ 56 ?hg (N := 48) ?hd (xs := ([] : List (S56))) (inner := []) (ok := fun _ => True) (okp := fun _ => True) ?hr ?hp (fun _ hk => hk) trivial (Below.refl _ _) (Nat.le_refl _) (by simp) ?_; (case hd => rfl); (case hg => rfl); (case hr => first | (go_simp; done) | (go_simp; rfl)); (case hp => exact (Reps.none _ _)); intro v501 w62 ho63 hb hg_ hnew_; clear hg_ hnew_; (first | rw [← Ny500.out] at ho63 | (simp only [Int.reduceToNat] at ho63; rw [← Ny500.out] at ho63)); have HO502 := a0_ (Kd.R_lower (Kd.R_new' (Kd.R_new' ho63 (Kd.R_lt (ra_ HO467.out))) (Kd.R_lt (ra_ HO478.out))) (keep_size (w := w) (g := g) (row := none) (kb0_))); replace HO467 := a0_ (Kd.R_elder' (ra_ HO467.out) (Kd.R_base ho63) hb); replace HO478 := a0_ (Kd.R_elder' (ra_ HO478.out) (Kd.R_base ho63) hb); replace HK := a0_ (KeepBut.trans (kb0_) (KeepBut.of_below hb g none) (.inl rfl)); replace HB := a0_ (below_step (bl1_ (IsS67.ge HI0.out)) hb); replace HI0 := a0_ (IsS67.below (is67_ HI0.out) hb); clear hb ho63))
     go_loopg [5, 6] k (fun kq v5 v6 w' => ∃ (x5_1 : List (S56)) (x6_1 : Int) (x1001_1 : Int) (x1002_1 : Int), v6 = .int .i64 x6_1 ∧ Aside0 (spec_l02Draw.l0 kq x5_1 x6_1 s0_0 x1001_1 x1002_1 = some (r1, r2, r3)) ∧ Aside0 (kq ≤ k) ∧ Aside0 (Kd.R k56 56 w' w.heap.size (fun _ => True) v5 x5_1) ∧ Aside0 (IsS67 w0 w' g s0_0 x1001_1 x1002_1) ∧ Aside0 (KeepBut w w' g none) ∧ Aside0 (Below w0.heap.size w0 w'))
     case atStart => exact ⟨(y500), (0), (t483), (t484), rs_, H', ⟨Nat.le_refl _⟩, ⟨by (with_reducible repeat (first | apply Kd.R_alloc | apply Kd.R_drewN | apply Kd.R_drew)); exact Kd.R_mono HO502.out (fun _ hk => trivial)⟩, ⟨is67_ HI0.out⟩, ⟨kb0_⟩, ⟨bl1_ (IsS67.ge HI0.out)⟩⟩
     case round =>
      clear H'
      try clear c8
      try clear c8b0
      try clear c8b1
      try clear c31
      try clear c31b0
      try clear c31b1
      try clear c44
      try clear c44b0
      try clear c44b1
      try clear c53b0
      try clear c53b1
      obtain ⟨x5_1, x6_1, x1001_1, x1002_1, rfl, HA, HK1, HO_5, HI0, HK, HB⟩ := hrel
      cases gk with
      | zero => exact absurd HA.out (by simp [spec_l02Draw.l0])
      | succ k1 =>
       have H := HA.out
       clear HA
       simp only [spec_l02Draw.l0] at H
       obtain ⟨⟨t503, t504, t505⟩, A64, H⟩ := bs_ H
       dsimp only at H
       by_cases c65 : x6_1 < (wrap64 (40 + t503))
       ·rw [if_pos c65] at H
        have c65b0 : decide (x6_1 < (wrap64 (40 + t503))) = true := decide_eq_true c65
        clear c65
        by_cases c66 : x5_1.length < 8796093022208
        ·rw [if_pos c66] at H
         have LMc66 := Aside0.mk c66
         clear c66
         obtain ⟨y506, hy506⟩ : ∃ y_ : List (S56), y_ = (x5_1 ++ [(⟨x6_1, 0⟩ : S56)]) := ⟨_, rfl⟩
         replace H : (spec_l02Draw.l0 k1 y506 (wrap64 (x6_1 + 1)) s0_0 t504 t505) = some (r1, r2, r3) := hh_ hy506 H
         have Ny506 := Aside0.mk hy506
         clear hy506
         have H' := Aside0.mk H
         clear H
         go_wp2_with (first | ((with_reducible refine gate_callee (f := 46) rfl ?_); refine goesL_ (some 51) rfl rfl Tryz.func46 kr_ rfl #[.pointer (some ⟨g, 0, none⟩), .int .i64 2] rfl ta_ ?_; (with_reducible refine (spec_l01Next.calls g s0_0 x1001_1 x1002_1 2 t503 t504 t505 w0 _ ?side1 ?side2 A64.out).mono ?_); (case side1 => exact is67_ HI0.out); (case side2 => exact bl1_ (IsS67.ge HI0.out)); rintro e w67 ⟨rfl, hi, hb, hk⟩; refine ⟨_, rfl, ?_⟩; replace HO_5 := a0_ (Kd.R_mono (Kd.R_keep (IsS67.apart (show IsS67 w0 _ g s0_0 x1001_1 x1002_1 from is67_ HI0.out) (ra_ HO_5.out) (by decide)) hk (fun _ h => h.2)) (fun _ h => h.1)); replace HK := a0_ (KeepBut.trans (kb0_) hk (.inl rfl)); replace HB := a0_ (hb); replace HI0 := a0_ (hi); (try clear hb); (try clear hk); (try clear hi)) | ((with_reducible refine gate_builtin (b := .append) (xs := #[.tmp 56, .tmp 59]) rfl ?_); at_builtin; refine Kd.R_append k56 w.heap.size rfl (.tmp 56) (.tmp 59) 29 56 (.agg #[(.int .i64 0), (.int .i64 0)]) 16 rfl Tryz.underlying29 info56 rfl (by decide) (by omega) u5 x5_1 (⟨x6_1, 0⟩ : S56) [.int .i64 x6_1, .int .i64 0] (fun _ => True) (fun _ => False) rfl rfl ?aP (fun _ hk => hk.elim) ?aF ?aO (Below.refl _ _) ?aS ?aL ?_; (case aP => exact k56_mkM _ _ _ (⟨x6_1, 0⟩ : S56)); (case aF => exact (fun _ _ => trivial)); (case aO => exact (ra_ HO_5.out)); (case aS => exact (keep_size (w := w) (g := g) (row := none) (kb0_))); (case aL => have := LMc66.out; omega); intro v507 w68 ho hb hg hat; rw [← Ny506.out] at ho; replace HB := a0_ (below_weaken (bl1_ (IsS67.ge HI0.out)) HL.out hb); replace HI0 := a0_ (IsS67.grown (is67_ HI0.out) hg (IsS67.own_ne HI0.out HO_5.out (by decide))); replace HK := a0_ (KeepBut.trans (kb0_) (KeepBut.of_grown hg g) (Kd.R_base2 HO_5.out)); have HO508 := a0_ (ho); clear HO_5; clear ho hb hg hat))
         go_roundg k1
         case measure => have := HK1.out; omega
         case rel => exact ⟨(y506), (wrap64 (x6_1 + 1)), (t504), (t505), rs_, H', ⟨by have := HK1.out; omega⟩, ⟨ra_ HO508.out⟩, ⟨is67_ HI0.out⟩, ⟨kb0_⟩, ⟨bl1_ (IsS67.ge HI0.out)⟩⟩
        ·rw [if_neg c66] at H
         exact absurd H (by simp)
       ·rw [if_neg c65] at H
        have c65b0 : decide (x6_1 < (wrap64 (40 + t503))) = false := decide_eq_false c65
        clear c65
        simp only [Option.some.injEq, Prod.mk.injEq] at H
        obtain ⟨rfl, rfl, rfl⟩ := H
        go_wp2_with (first | ((with_reducible refine gate_callee (f := 46) rfl ?_); refine goesL_ (some 51) rfl rfl Tryz.func46 kr_ rfl #[.pointer (some ⟨g, 0, none⟩), .int .i64 2] rfl ta_ ?_; (with_reducible refine (spec_l01Next.calls g s0_0 x1001_1 x1002_1 2 t503 t504 t505 w0 _ ?side1 ?side2 A64.out).mono ?_); (case side1 => exact is67_ HI0.out); (case side2 => exact bl1_ (IsS67.ge HI0.out)); rintro e w69 ⟨rfl, hi, hb, hk⟩; refine ⟨_, rfl, ?_⟩; replace HO_5 := a0_ (Kd.R_mono (Kd.R_keep (IsS67.apart (show IsS67 w0 _ g s0_0 x1001_1 x1002_1 from is67_ HI0.out) (ra_ HO_5.out) (by decide)) hk (fun _ h => h.2)) (fun _ h => h.1)); replace HK := a0_ (KeepBut.trans (kb0_) hk (.inl rfl)); replace HB := a0_ (hb); replace HI0 := a0_ (hi); (try clear hb); (try clear hk); (try clear hi)))
        go_ret
        exact ⟨_, er_, ra_ HO_5.out, is67_ HI0.out, bl1_ (IsS67.ge HI0.out), kb0_⟩
    ·rw [if_neg c53] at H
     have c53b0 : (t482 == 3) = false := beq_eq_false_iff_ne.mpr c53
     have c53b1 : (t482 != 3) = true := bne_iff_ne.mpr c53
     by_cases c70 : t482 = 4
     ·rw [if_pos c70] at H
      have c70b0 : (t482 == 4) = true := beq_iff_eq.mpr c70
      have c70b1 : (t482 != 4) = false := bne_eq_false_iff_eq.mpr c70
      clear c70
      by_cases c71 : 0 < (t476.length : Int)
      ·rw [if_pos c71] at H
       have c71b0 : decide (0 < (t476.length : Int)) = true := decide_eq_true c71
       have c71b1 : decide (0 < t476.length) = true := decide_eq_true (by omega)
       clear c71
       obtain ⟨ji72, hji72⟩ : ∃ j_ : Int, (wrap64 ((t476.length : Int) - 1)) = j_ := ⟨_, rfl⟩
       replace H : (if 0 ≤ (ji72) then (if (ji72) < (t476.length : Int) then (if t476.length < 8796093022208 then (some ((t476 ++ [(⟨wrap64 (((rd_T56 t476 0).f0) + 3), wrap64 (((rd_T56 t476 (ji72)).f1) + 2)⟩ : S56)]), t483, t484)) else (none)) else (none)) else (none)) = some (r1, r2, r3) := by first | (rw [hji72] at H; exact H) | (simp only [hji72] at H ⊢; exact H)
       (try rw [hji72] at A2)
       (try rw [hji72] at A3)
       (try rw [hji72] at A4)
       (try rw [hji72] at A5)
       (try rw [hji72] at A6)
       (try rw [hji72] at A7)
       have hji72w : (IntKind.i64.wrap ((t476.length : Int) - 1)) = ji72 := (i64_w _).trans hji72
       by_cases c73 : 0 ≤ (ji72)
       ·rw [if_pos c73] at H
        have c73b0 : decide (0 ≤ (ji72)) = true := decide_eq_true c73
        clear c73
        by_cases c74 : (ji72) < (t476.length : Int)
        ·rw [if_pos c74] at H
         have c74b0 : decide ((ji72) < (t476.length : Int)) = true := decide_eq_true c74
         clear c74
         by_cases c75 : t476.length < 8796093022208
         ·rw [if_pos c75] at H
          have LMc75 := Aside0.mk c75
          clear c75
          obtain ⟨y511, hy511⟩ : ∃ y_ : List (S56), y_ = (t476 ++ [(⟨wrap64 (((rd_T56 t476 0).f0) + 3), wrap64 (((rd_T56 t476 (ji72)).f1) + 2)⟩ : S56)]) := ⟨_, rfl⟩
          replace H : (some (y511, t483, t484)) = some (r1, r2, r3) := hh_ hy511 H
          have Ny511 := Aside0.mk hy511
          clear hy511
          simp only [Option.some.injEq, Prod.mk.injEq] at H
          obtain ⟨rfl, rfl, rfl⟩ := H
          go_wp2
          replace HO467 := a0_ (Kd.R_drew HO467.out)
          replace HO478 := a0_ (Kd.R_drew HO478.out)
          replace HI0 := a0_ (IsS67.drew HI0.out)
          replace HK := a0_ (keep_drew HK.out)
          replace HB := a0_ (below_drew1 HB.out)
          have p509 : 0 ≤ (0 : Int) := (by omega)
          have q509 : 0 < (t476.length : Int) := od_
          obtain ⟨ad509, e509, hx509_0, hx509_1⟩ := at_T56 (Kd.R_reads' HO478.out).2.2 0 p509 q509
          cases e509
          have qi509 : (0 < t476.length) = True := eq_true (by omega)
          (try rw [show ((0 : Int)).toNat = 0 from rfl] at hx509_0)
          (try rw [show 0 * 2 = 0 from rfl] at hx509_0)
          (try rw [Addr.add_zero'] at hx509_0)
          (try rw [show ((0 : Int)).toNat = 0 from rfl] at hx509_1)
          (try rw [show 0 * 2 = 0 from rfl] at hx509_1)
          (try rw [Addr.add_zero'] at hx509_1)
          replace p509 := eq_true p509
          replace q509 := eq_true q509
          have p510 : 0 ≤ ((ji72) : Int) := od_
          have q510 : (ji72) < (t476.length : Int) := od_
          obtain ⟨ad510, e510, hx510_0, hx510_1⟩ := at_T56 (Kd.R_reads' HO478.out).2.2 (ji72) p510 q510
          obtain rfl : ad509 = ad510 := (by injection e510)
          replace p510 := eq_true p510
          replace q510 := eq_true q510
          refine start_ (n := 18) (S := fun w' => w'.cell? ad509 = some (.int .i64 ((rd_T56 t476 0).f0)) ∧ w'.cell? ⟨ad509.block, ad509.off + 1, none⟩ = some (.int .i64 ((rd_T56 t476 0).f1)) ∧ w'.cell? (ad509.add (((ji72)).toNat * 2)) = some (.int .i64 ((rd_T56 t476 (ji72)).f0)) ∧ w'.cell? ⟨(ad509.add (((ji72)).toNat * 2)).block, (ad509.add (((ji72)).toNat * 2)).off + 1, none⟩ = some (.int .i64 ((rd_T56 t476 (ji72)).f1))) (ds := [15, 16]) (mk_ 0 18) kr_ rfl rfl ⟨hx509_0, hx509_1, hx510_0, hx510_1⟩ (fun hHeld => ?_); refine with_tabW spec_l02Draw.tab20 spec_l02Draw.bits20 (fun HT_ HW_ => ?_)
          generalize w52.drew = w84 at HO467 HO478 HI0 HK HB hx509_0 hx509_1 hx510_0 hx510_1 hHeld ⊢
          refine pu_ 0 (some 65) (mk_ 1 17) HT_ ?_
          refine pu_ 1 (some 66) (mk_ 2 16) HT_ ?_
          refine pu_ 2 (some 67) (mk_ 3 15) HT_ ?_
          refine pu_ 3 (some 68) (mk_ 4 14) HT_ ?_
          refine pu_ 6 (some 71) #[true, true, true, true, false, false, true, false, false, false, false, false, false, false, false, false, false, false] HT_ ?_
          refine pu_ 7 (some 72) #[true, true, true, true, false, false, true, true, false, false, false, false, false, false, false, false, false, false] HT_ ?_
          refine pu_ 8 (some 73) #[true, true, true, true, false, false, true, true, true, false, false, false, false, false, false, false, false, false] HT_ ?_
          refine pu_ 9 (some 74) #[true, true, true, true, false, false, true, true, true, true, false, false, false, false, false, false, false, false] HT_ ?_
          refine pu_ 10 (some 75) #[true, true, true, true, false, false, true, true, true, true, true, false, false, false, false, false, false, false] HT_ ?_
          refine pu_ 11 (some 76) #[true, true, true, true, false, false, true, true, true, true, true, true, false, false, false, false, false, false] HT_ ?_
          refine tk_ 4 (some 69) #[true, true, true, true, true, false, true, true, true, true, true, true, false, false, false, false, false, false] HT_ HW_ hHeld (hy := .inl ⟨by rfl, by rintro w' ⟨s0, s1, s2, s3⟩; go_simp; with_reducible rfl⟩) ?_
          refine pu_ 5 (some 70) (mk_ 12 6) HT_ ?_
          refine tk_ 12 (some 77) (mk_ 13 5) HT_ HW_ hHeld (hy := .inl ⟨by rfl, by rintro w' ⟨s0, s1, s2, s3⟩; go_simp; with_reducible rfl⟩) ?_
          refine pu_ 13 (some 78) (mk_ 14 4) HT_ ?_
          refine pu_ 14 (some 79) (mk_ 15 3) HT_ ?_
          refine last_ (i := 15) (N := some 80) (mk_ 16 2) rfl rfl (one_of HT_.out kr_) (by decide) (fun K hK => ?_)
          refine value_ (w1 := ?_) (v := ?_) (by rfl) rfl ?_ ?_
          rotate_left 2
          ·go_simp
           constructor
           ·rfl
           ·rfl
          refine hK.out _ _ ?_
          clear hK K
          refine nm_ ?_
          refine last_ (i := 16) (N := some 81) (mk_ 17 1) rfl rfl (one_of HT_.out kr_) (by decide) (fun K hK => ?_)
          refine Kd.R_append_step k56 w.heap.size (by rfl) (.tmp 65) (.tmp 80) 29 56 (.agg #[(.int .i64 0), (.int .i64 0)]) 16 rfl Tryz.underlying29 info56 rfl (by decide) (by omega) (.slice (some ad509) t476.length co50) t476 (⟨wrap64 (((rd_T56 t476 0).f0) + 3), wrap64 (((rd_T56 t476 (ji72)).f1) + 2)⟩ : S56) [.int .i64 (wrap64 (((rd_T56 t476 0).f0) + 3)), .int .i64 (wrap64 (((rd_T56 t476 (ji72)).f1) + 2))] (fun k_ => some k_ ≠ (.slice Ao48 t465.length co48 : Value).ownBlock) (fun _ => False) rfl rfl ?aP (fun _ hk => hk.elim) ?aF ?aO (Below.refl _ _) ?aS ?aL ?_
          (case aP => exact k56_mkM _ _ _ (⟨wrap64 (((rd_T56 t476 0).f0) + 3), wrap64 (((rd_T56 t476 (ji72)).f1) + 2)⟩ : S56))
          (case aF => exact (fun k_ hk => Kd.fresh' (Kd.R_lt (ra_ HO467.out)) k_ hk))
          (case aO => exact (by (with_reducible repeat (first | apply Kd.R_alloc | apply Kd.R_drewN | apply Kd.R_drew)); exact Kd.R_mono HO478.out (fun _ hk => hk.2)))
          (case aS => exact (keep_size (w := w) (g := g) (row := none) (kb0_)))
          (case aL => have := LMc75.out; omega)
          intro v512 w85 ho hb hg hat
          rw [← Ny511.out] at ho
          replace HO467 := a0_ (Kd.R_after (ok := (fun _ => True)) (ra_ HO467.out) hg hat)
          replace HB := a0_ (below_weaken (bl1_ (IsS67.ge HI0.out)) HL.out hb)
          replace HI0 := a0_ (IsS67.grown (is67_ HI0.out) hg (IsS67.own_ne HI0.out HO478.out (by decide)))
          replace HK := a0_ (KeepBut.trans (kb0_) (KeepBut.of_grown hg g) (Kd.R_base2 HO478.out))
          have HO513 := a0_ (ho)
          clear HO478
          clear ho hb hg hat
          refine hK.out _ _ ?_
          clear hK K
          refine nm_ ?_
          refine pu_ 17 (some 2) (mk_ 18 0) HT_ ?_
          refine done_ (done_of HT_.out kr_) ?_
          try go_wp2
          go_ret
          exact ⟨_, by first | rfl | (simp [errW_none, errW_some] <;> rfl) | (simp only [← hji72]; first | rfl | (simp [errW_none, errW_some] <;> rfl)) | (simp [*, errW_none, errW_some] <;> rfl), by (with_reducible repeat (first | apply Kd.R_alloc | apply Kd.R_drewN | apply Kd.R_drew)); exact Kd.R_mono HO513.out (fun _ hk => trivial), is67_ HI0.out, bl1_ (IsS67.ge HI0.out), kb0_⟩
         ·rw [if_neg c75] at H
          exact absurd H (by simp)
        ·rw [if_neg c74] at H
         exact absurd H (by simp)
       ·rw [if_neg c73] at H
        exact absurd H (by simp)
      ·rw [if_neg c71] at H
       exact absurd H (by simp)
     ·rw [if_neg c70] at H
      have c70b0 : (t482 == 4) = false := beq_eq_false_iff_ne.mpr c70
      have c70b1 : (t482 != 4) = true := bne_iff_ne.mpr c70
      by_cases c86 : t482 = 5
      ·rw [if_pos c86] at H
       have c86b0 : (t482 == 5) = true := beq_iff_eq.mpr c86
       have c86b1 : (t482 != 5) = false := bne_eq_false_iff_eq.mpr c86
       clear c86
       by_cases c87 : 0 < (t476.length : Int)
       ·rw [if_pos c87] at H
        have c87b0 : decide (0 < (t476.length : Int)) = true := decide_eq_true c87
        have c87b1 : decide (0 < t476.length) = true := decide_eq_true (by omega)
        clear c87
        obtain ⟨ji88, hji88⟩ : ∃ j_ : Int, (wrap64 ((t476.length : Int) - 1)) = j_ := ⟨_, rfl⟩
        replace H : (if 0 ≤ (ji88) then (if (ji88) < (t476.length : Int) then (if t476.length < 8796093022208 then (some ((t476 ++ [(⟨wrap64 (((rd_T56 t476 0).f0) + 3), wrap64 (((rd_T56 t476 (ji88)).f1) + 2)⟩ : S56)]), t483, t484)) else (none)) else (none)) else (none)) = some (r1, r2, r3) := by first | (rw [hji88] at H; exact H) | (simp only [hji88] at H ⊢; exact H)
        (try rw [hji88] at A2)
        (try rw [hji88] at A3)
        (try rw [hji88] at A4)
        (try rw [hji88] at A5)
        (try rw [hji88] at A6)
        (try rw [hji88] at A7)
        have hji88w : (IntKind.i64.wrap ((t476.length : Int) - 1)) = ji88 := (i64_w _).trans hji88
        by_cases c89 : 0 ≤ (ji88)
        ·rw [if_pos c89] at H
         have c89b0 : decide (0 ≤ (ji88)) = true := decide_eq_true c89
         clear c89
         by_cases c90 : (ji88) < (t476.length : Int)
         ·rw [if_pos c90] at H
          have c90b0 : decide ((ji88) < (t476.length : Int)) = true := decide_eq_true c90
          clear c90
          by_cases c91 : t476.length < 8796093022208
          ·rw [if_pos c91] at H
           have LMc91 := Aside0.mk c91
           clear c91
           obtain ⟨y516, hy516⟩ : ∃ y_ : List (S56), y_ = (t476 ++ [(⟨wrap64 (((rd_T56 t476 0).f0) + 3), wrap64 (((rd_T56 t476 (ji88)).f1) + 2)⟩ : S56)]) := ⟨_, rfl⟩
           replace H : (some (y516, t483, t484)) = some (r1, r2, r3) := hh_ hy516 H
           have Ny516 := Aside0.mk hy516
           clear hy516
           simp only [Option.some.injEq, Prod.mk.injEq] at H
           obtain ⟨rfl, rfl, rfl⟩ := H
           go_wp2
           replace HO467 := a0_ (Kd.R_drew HO467.out)
           replace HO478 := a0_ (Kd.R_drew HO478.out)
           replace HI0 := a0_ (IsS67.drew HI0.out)
           replace HK := a0_ (keep_drew HK.out)
           replace HB := a0_ (below_drew1 HB.out)
           have p514 : 0 ≤ (0 : Int) := (by omega)
           have q514 : 0 < (t476.length : Int) := od_
           obtain ⟨ad514, e514, hx514_0, hx514_1⟩ := at_T56 (Kd.R_reads' HO478.out).2.2 0 p514 q514
           cases e514
           have qi514 : (0 < t476.length) = True := eq_true (by omega)
           (try rw [show ((0 : Int)).toNat = 0 from rfl] at hx514_0)
           (try rw [show 0 * 2 = 0 from rfl] at hx514_0)
           (try rw [Addr.add_zero'] at hx514_0)
           (try rw [show ((0 : Int)).toNat = 0 from rfl] at hx514_1)
           (try rw [show 0 * 2 = 0 from rfl] at hx514_1)
           (try rw [Addr.add_zero'] at hx514_1)
           replace p514 := eq_true p514
           replace q514 := eq_true q514
           have p515 : 0 ≤ ((ji88) : Int) := od_
           have q515 : (ji88) < (t476.length : Int) := od_
           obtain ⟨ad515, e515, hx515_0, hx515_1⟩ := at_T56 (Kd.R_reads' HO478.out).2.2 (ji88) p515 q515
           obtain rfl : ad514 = ad515 := (by injection e515)
           replace p515 := eq_true p515
           replace q515 := eq_true q515
           refine start_ (n := 18) (S := fun w' => w'.cell? ad514 = some (.int .i64 ((rd_T56 t476 0).f0)) ∧ w'.cell? ⟨ad514.block, ad514.off + 1, none⟩ = some (.int .i64 ((rd_T56 t476 0).f1)) ∧ w'.cell? (ad514.add (((ji88)).toNat * 2)) = some (.int .i64 ((rd_T56 t476 (ji88)).f0)) ∧ w'.cell? ⟨(ad514.add (((ji88)).toNat * 2)).block, (ad514.add (((ji88)).toNat * 2)).off + 1, none⟩ = some (.int .i64 ((rd_T56 t476 (ji88)).f1))) (ds := [15, 16]) (mk_ 0 18) kr_ rfl rfl ⟨hx514_0, hx514_1, hx515_0, hx515_1⟩ (fun hHeld => ?_); refine with_tabW spec_l02Draw.tab20 spec_l02Draw.bits20 (fun HT_ HW_ => ?_)
           generalize w52.drew = w100 at HO467 HO478 HI0 HK HB hx514_0 hx514_1 hx515_0 hx515_1 hHeld ⊢
           refine pu_ 0 (some 65) (mk_ 1 17) HT_ ?_
           refine pu_ 1 (some 66) (mk_ 2 16) HT_ ?_
           refine pu_ 2 (some 67) (mk_ 3 15) HT_ ?_
           refine pu_ 3 (some 68) (mk_ 4 14) HT_ ?_
           refine pu_ 6 (some 71) #[true, true, true, true, false, false, true, false, false, false, false, false, false, false, false, false, false, false] HT_ ?_
           refine pu_ 7 (some 72) #[true, true, true, true, false, false, true, true, false, false, false, false, false, false, false, false, false, false] HT_ ?_
           refine pu_ 8 (some 73) #[true, true, true, true, false, false, true, true, true, false, false, false, false, false, false, false, false, false] HT_ ?_
           refine pu_ 9 (some 74) #[true, true, true, true, false, false, true, true, true, true, false, false, false, false, false, false, false, false] HT_ ?_
           refine pu_ 10 (some 75) #[true, true, true, true, false, false, true, true, true, true, true, false, false, false, false, false, false, false] HT_ ?_
           refine pu_ 11 (some 76) #[true, true, true, true, false, false, true, true, true, true, true, true, false, false, false, false, false, false] HT_ ?_
           refine tk_ 4 (some 69) #[true, true, true, true, true, false, true, true, true, true, true, true, false, false, false, false, false, false] HT_ HW_ hHeld (hy := .inl ⟨by rfl, by rintro w' ⟨s0, s1, s2, s3⟩; go_simp; with_reducible rfl⟩) ?_
           refine pu_ 5 (some 70) (mk_ 12 6) HT_ ?_
           refine tk_ 12 (some 77) (mk_ 13 5) HT_ HW_ hHeld (hy := .inl ⟨by rfl, by rintro w' ⟨s0, s1, s2, s3⟩; go_simp; with_reducible rfl⟩) ?_
           refine pu_ 13 (some 78) (mk_ 14 4) HT_ ?_
           refine pu_ 14 (some 79) (mk_ 15 3) HT_ ?_
           refine last_ (i := 15) (N := some 80) (mk_ 16 2) rfl rfl (one_of HT_.out kr_) (by decide) (fun K hK => ?_)
           refine value_ (w1 := ?_) (v := ?_) (by rfl) rfl ?_ ?_
           rotate_left 2
           ·go_simp
            constructor
            ·rfl
            ·rfl
           refine hK.out _ _ ?_
           clear hK K
           refine nm_ ?_
           refine last_ (i := 16) (N := some 81) (mk_ 17 1) rfl rfl (one_of HT_.out kr_) (by decide) (fun K hK => ?_)
           refine Kd.R_append_step k56 w.heap.size (by rfl) (.tmp 65) (.tmp 80) 29 56 (.agg #[(.int .i64 0), (.int .i64 0)]) 16 rfl Tryz.underlying29 info56 rfl (by decide) (by omega) (.slice (some ad514) t476.length co50) t476 (⟨wrap64 (((rd_T56 t476 0).f0) + 3), wrap64 (((rd_T56 t476 (ji88)).f1) + 2)⟩ : S56) [.int .i64 (wrap64 (((rd_T56 t476 0).f0) + 3)), .int .i64 (wrap64 (((rd_T56 t476 (ji88)).f1) + 2))] (fun k_ => some k_ ≠ (.slice Ao48 t465.length co48 : Value).ownBlock) (fun _ => False) rfl rfl ?aP (fun _ hk => hk.elim) ?aF ?aO (Below.refl _ _) ?aS ?aL ?_
           (case aP => exact k56_mkM _ _ _ (⟨wrap64 (((rd_T56 t476 0).f0) + 3), wrap64 (((rd_T56 t476 (ji88)).f1) + 2)⟩ : S56))
           (case aF => exact (fun k_ hk => Kd.fresh' (Kd.R_lt (ra_ HO467.out)) k_ hk))
           (case aO => exact (by (with_reducible repeat (first | apply Kd.R_alloc | apply Kd.R_drewN | apply Kd.R_drew)); exact Kd.R_mono HO478.out (fun _ hk => hk.2)))
           (case aS => exact (keep_size (w := w) (g := g) (row := none) (kb0_)))
           (case aL => have := LMc91.out; omega)
           intro v517 w101 ho hb hg hat
           rw [← Ny516.out] at ho
           replace HO467 := a0_ (Kd.R_after (ok := (fun _ => True)) (ra_ HO467.out) hg hat)
           replace HB := a0_ (below_weaken (bl1_ (IsS67.ge HI0.out)) HL.out hb)
           replace HI0 := a0_ (IsS67.grown (is67_ HI0.out) hg (IsS67.own_ne HI0.out HO478.out (by decide)))
           replace HK := a0_ (KeepBut.trans (kb0_) (KeepBut.of_grown hg g) (Kd.R_base2 HO478.out))
           have HO518 := a0_ (ho)
           clear HO478
           clear ho hb hg hat
           refine hK.out _ _ ?_
           clear hK K
           refine nm_ ?_
           refine pu_ 17 (some 2) (mk_ 18 0) HT_ ?_
           refine done_ (done_of HT_.out kr_) ?_
           try go_wp2
           go_ret
           exact ⟨_, by first | rfl | (simp [errW_none, errW_some] <;> rfl) | (simp only [← hji88]; first | rfl | (simp [errW_none, errW_some] <;> rfl)) | (simp [*, errW_none, errW_some] <;> rfl), by (with_reducible repeat (first | apply Kd.R_alloc | apply Kd.R_drewN | apply Kd.R_drew)); exact Kd.R_mono HO518.out (fun _ hk => trivial), is67_ HI0.out, bl1_ (IsS67.ge HI0.out), kb0_⟩
          ·rw [if_neg c91] at H
           exact absurd H (by simp)
         ·rw [if_neg c90] at H
          exact absurd H (by simp)
        ·rw [if_neg c89] at H
         exact absurd H (by simp)
       ·rw [if_neg c87] at H
        exact absurd H (by simp)
      ·rw [if_neg c86] at H
       have c86b0 : (t482 == 5) = false := beq_eq_false_iff_ne.mpr c86
       have c86b1 : (t482 != 5) = true := bne_iff_ne.mpr c86
       simp only [Option.some.injEq, Prod.mk.injEq] at H
       obtain ⟨rfl, rfl, rfl⟩ := H
       go_wp2
       go_ret
       exact ⟨_, er_, by (with_reducible repeat (first | apply Kd.R_alloc | apply Kd.R_drewN | apply Kd.R_drew)); exact Kd.R_mono HO478.out (fun _ hk => trivial), is67_ HI0.out, bl1_ (IsS67.ge HI0.out), kb0_⟩
end Go.Proofs.YtmdjkmfocgelnaaGreatDoor.PFnAllNets
