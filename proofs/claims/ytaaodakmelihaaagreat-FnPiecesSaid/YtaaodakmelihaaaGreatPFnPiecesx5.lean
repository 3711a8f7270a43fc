/- Over the kit's printer by a driver of mine (hprint.py), with parts by hand: functions of the program as Lean functions, and that each call comes to exactly these answers. -/
import Derived.Test.YtaaodakmelihaaaGreatPFnPiecesx0
import Derived.Test.YtaaodakmelihaaaGreatPFnPiecesx2
import Derived.Test.YtaaodakmelihaaaGreatPFnPiecesx4
namespace Go.Proofs.YtaaodakmelihaaaGreat.PFnPieces
open Go.RowKit Go.Proofs.YtaaodakmelihaaaGreatW.PrintWords Go.Proofs.YtaaodakmelihaaaGreatW.PrintLast Go.Proofs.YtaaodakmelihaaaGreatW.PrintMore
attribute [local go_sem] max2_int min2_int max_two min_two max_three min_three max_four min_four   -- for this text's walks alone
set_option linter.unusedVariables false
set_option linter.unusedSimpArgs false

/-! ### spec_l02Draw: function 30 -/
def spec_l02Draw.l0 : Nat → List (S60) → Int → List Int → Int → Int → Option ((List (S60)) × Int × Int)
 | 0, _, _, _, _, _ => none
 | k + 1, x5, x6, x1000, x1001, x1002 => (spec_l01Next.f x1000 x1001 x1002 2).bind fun bt233 => (if x6 < (wrap64 (40 + bt233.1)) then (if x5.length < 8796093022208 then (spec_l02Draw.l0 k (x5 ++ [(⟨x6, 0⟩ : S60)]) (wrap64 (x6 + 1)) x1000 bt233.2.1 bt233.2.2) else (none)) else (some (x5, bt233.2.1, bt233.2.2)))
def spec_l02Draw.f (k : Nat) (s0_0 : List Int) (s0_1 : Int) (s0_2 : Int) : Option ((List (S60)) × Int × Int) := (spec_l02DrawPoly.f k s0_0 s0_1 s0_2 8).bind fun bt195 => ((spec_l01Next.f s0_0 bt195.2.1 bt195.2.2 9).bind fun bt200 => ((spec_l01Next.f s0_0 bt200.2.1 bt200.2.2 9).bind fun bt203 => ((spec_l02Move.f k bt195.1 (wrap64 (bt200.1 - 4)) (wrap64 (bt203.1 - 4))).bind fun t206 => ((spec_l01Next.f s0_0 bt203.2.1 bt203.2.2 (t206.length : Int)).bind fun bt209 => ((spec_l01Next.f s0_0 bt209.2.1 bt209.2.2 24).bind fun bt212 => (if bt212.1 = 0 then ((some (([(-100), 100, 101] : List Int) : List Int)).bind fun y215 => ((spec_l01Next.f s0_0 bt212.2.1 bt212.2.2 3).bind fun bt218 => (if 0 ≤ bt218.1 then (if bt218.1 < (y215.length : Int) then (if 0 ≤ bt209.1 then (if bt209.1 < (t206.length : Int) then ((spec_l02Sort.f k (t206.set (bt209.1 : Int).toNat (⟨rd y215 bt218.1, (rd_T60 t206 bt209.1).f1⟩ : S60))).bind fun t223 => (some (t223, bt218.2.1, bt218.2.2))) else (none)) else (none)) else (none)) else (none)))) else (if bt212.1 = 1 then (if 0 ≤ bt209.1 then (if bt209.1 < (t206.length : Int) then (if t206.length < 8796093022208 then (some ((t206 ++ [(⟨(rd_T60 t206 bt209.1).f0, (rd_T60 t206 bt209.1).f1⟩ : S60)]), bt212.2.1, bt212.2.2)) else (none)) else (none)) else (none)) else (if bt212.1 = 2 then (some (([] : List (S60)), bt212.2.1, bt212.2.2)) else (if bt212.1 = 3 then (spec_l02Draw.l0 k (([] : List (S60))) 0 s0_0 bt212.2.1 bt212.2.2) else (if bt212.1 = 4 then (if 0 < (t206.length : Int) then (if 0 ≤ (wrap64 ((t206.length : Int) - 1)) then (if (wrap64 ((t206.length : Int) - 1)) < (t206.length : Int) then (if t206.length < 8796093022208 then (some ((t206 ++ [(⟨wrap64 (((rd_T60 t206 0).f0) + 3), wrap64 (((rd_T60 t206 (wrap64 ((t206.length : Int) - 1))).f1) + 2)⟩ : S60)]), bt212.2.1, bt212.2.2)) else (none)) else (none)) else (none)) else (none)) else (if bt212.1 = 5 then (if 0 < (t206.length : Int) then (if 0 ≤ (wrap64 ((t206.length : Int) - 1)) then (if (wrap64 ((t206.length : Int) - 1)) < (t206.length : Int) then (if t206.length < 8796093022208 then (some ((t206 ++ [(⟨wrap64 (((rd_T60 t206 0).f0) + 3), wrap64 (((rd_T60 t206 (wrap64 ((t206.length : Int) - 1))).f1) + 2)⟩ : S60)]), bt212.2.1, bt212.2.2)) else (none)) else (none)) else (none)) else (none)) else (some (t206, bt212.2.1, bt212.2.2)))))))))))))
theorem spec_l02Draw.mono_l : ∀ k, (∀ y0 y1 y2 y3 y4, LeO (spec_l02Draw.l0 k y0 y1 y2 y3 y4) (spec_l02Draw.l0 (k + 1) y0 y1 y2 y3 y4))
 | 0 => fun _ _ _ _ _ r h => by simp [spec_l02Draw.l0] at h
 | k + 1 => by
  have ih0 := spec_l02Draw.mono_l k
  ·intro y0 y1 y2 y3 y4
   unfold spec_l02Draw.l0
   with_reducible (repeat' first | exact ih0 _ _ _ _ _ | exact spec_l02DrawPoly.mono _ _ _ _ _ | exact spec_l02Move.mono _ _ _ _ | exact spec_l02Sort.mono _ _ | exact LeO.refl _ | exact LeO.none _ | refine LeO.ite ?_ ?_ | refine LeO.bind ?_ (fun _ => ?_))
theorem spec_l02Draw.mono : ∀ a0 a1 a2 k, LeO (spec_l02Draw.f k a0 a1 a2) (spec_l02Draw.f (k + 1) a0 a1 a2) := by
 intro a0 a1 a2 k
 have ih0 := spec_l02Draw.mono_l k
 unfold spec_l02Draw.f
 with_reducible (repeat' first | exact ih0 _ _ _ _ _ | exact spec_l02DrawPoly.mono _ _ _ _ _ | exact spec_l02Move.mono _ _ _ _ | exact spec_l02Sort.mono _ _ | exact LeO.refl _ | exact LeO.none _ | refine LeO.ite ?_ ?_ | refine LeO.bind ?_ (fun _ => ?_))
def spec_l02Draw.T20 : Bool × List (List Nat × List Nat) := (true, [([], []), ([], []), ([1], [1]), ([2], [2]), ([3], [3]), ([4], [4]), ([], []), ([], []), ([7], [7]), ([8], [8]), ([6, 9], [6, 9]), ([10], [10]), ([11], [11]), ([12], [12]), ([5, 13], [5, 13]), ([14], [14]), ([0, 15], [0, 15]), ([16, 16, 0, 1, 2, 3, 4, 5, 6, 7, 8, 9, 10, 11, 12, 13, 14, 15, 16], [16])])
def spec_l02Draw.B20 : List Nat := [0, 0, 2, 6, 14, 30, 0, 0, 128, 384, 960, 1984, 4032, 8128, 16382, 32766, 65535, 131071]
theorem spec_l02Draw.tab20 : rtab .any (opsOf Tryz.f30 20) = spec_l02Draw.T20 := by kernel_rfl
theorem spec_l02Draw.bits20 : waitsOk spec_l02Draw.T20.2 spec_l02Draw.B20 = true := by kernel_rfl
set_option maxHeartbeats 8000000 in
set_option maxRecDepth 100000 in
theorem spec_l02Draw.calls (k : Nat) (g : Nat) (s0_0 : List Int) (s0_1 : Int) (s0_2 : Int) (r1 : List (S60)) (r2 : Int) (r3 : Int) (w0 w : World) (hI : IsS55 w0 w g s0_0 s0_1 s0_2) (hB : Below w0.heap.size w0 w) (h : spec_l02Draw.f k s0_0 s0_1 s0_2 = some (r1, r2, r3)) :
  Calls Tryz.prog 30 #[.pointer (some ⟨g, 0, none⟩)] w fun e w' => ∃ v0_ : Value, e = .returned (v0_) ∧ Kd.R k60 60 w' w.heap.size (fun _ => True) v0_ r1 ∧ IsS55 w0 w' g s0_0 r2 r3 ∧ Below w0.heap.size w0 w' ∧ KeepBut w w' g none := by
 have hu60 := Tryz.underlying60
 have HI0 := Aside0.mk hI
 have HK := a0_ (KeepBut.refl w g none)
 have HL := Aside0.mk hB.size
 clear hI
 have HW0 := Aside0.mk hB.size
 have HB := Aside0.mk hB
 clear hB
 have H := h
 clear h
 unfold spec_l02Draw.f at H
 obtain ⟨⟨t195, t198, t199⟩, A2, H⟩ := bs_ H
 dsimp only at H
 obtain ⟨⟨t200, t201, t202⟩, A3, H⟩ := bs_ H
 dsimp only at H
 obtain ⟨⟨t203, t204, t205⟩, A4, H⟩ := bs_ H
 dsimp only at H
 obtain ⟨t206, A5, H⟩ := bs_ H
 obtain ⟨⟨t209, t210, t211⟩, A6, H⟩ := bs_ H
 dsimp only at H
 obtain ⟨⟨t212, t213, t214⟩, A7, H⟩ := bs_ H
 dsimp only at H
 by_cases c8 : t212 = 0
 ·rw [if_pos c8] at H
  have c8b0 : (t212 == 0) = true := beq_iff_eq.mpr c8
  have c8b1 : (t212 != 0) = false := bne_eq_false_iff_eq.mpr c8
  clear c8
  obtain ⟨y215, hy215⟩ : ∃ y_ : List Int, y_ = (([(-100), 100, 101] : List Int)) := ⟨_, rfl⟩
  replace H : ((spec_l01Next.f s0_0 t213 t214 3).bind fun bt218 => (if 0 ≤ bt218.1 then (if bt218.1 < (y215.length : Int) then (if 0 ≤ t209 then (if t209 < (t206.length : Int) then ((spec_l02Sort.f k (t206.set (t209 : Int).toNat (⟨rd y215 bt218.1, (rd_T60 t206 t209).f1⟩ : S60))).bind fun t223 => (some (t223, bt218.2.1, bt218.2.2))) else (none)) else (none)) else (none)) else (none))) = some (r1, r2, r3) := hh_ hy215 H
  have Ny215 := Aside0.mk hy215
  clear hy215
  obtain ⟨⟨t218, t219, t220⟩, A9, H⟩ := bs_ H
  dsimp only at H
  by_cases c10 : 0 ≤ t218
  ·rw [if_pos c10] at H
   have c10b0 : decide (0 ≤ t218) = true := decide_eq_true c10
   clear c10
   by_cases c11 : t218 < (y215.length : Int)
   ·rw [if_pos c11] at H
    have c11b0 : decide (t218 < (y215.length : Int)) = true := decide_eq_true c11
    clear c11
    by_cases c12 : 0 ≤ t209
    ·rw [if_pos c12] at H
     have c12b0 : decide (0 ≤ t209) = true := decide_eq_true c12
     clear c12
     by_cases c13 : t209 < (t206.length : Int)
     ·rw [if_pos c13] at H
      have c13b0 : decide (t209 < (t206.length : Int)) = true := decide_eq_true c13
      clear c13
      obtain ⟨y222, hy222⟩ : ∃ y_ : List (S60), y_ = (t206.set (t209 : Int).toNat (⟨rd y215 t218, (rd_T60 t206 t209).f1⟩ : S60)) := ⟨_, rfl⟩
      replace H : ((spec_l02Sort.f k y222).bind fun t223 => (some (t223, t219, t220))) = some (r1, r2, r3) := hh_ hy222 H
      have Ny222 := Aside0.mk hy222
      clear hy222
      obtain ⟨t223, A15, H⟩ := bs_ H
      simp only [Option.some.injEq, Prod.mk.injEq] at H
      obtain ⟨rfl, rfl, rfl⟩ := H
      go_enter Tryz.func30, Tryz.ntmps30
      go_wp2_with (first | ((with_reducible refine gate_callee (f := 29) rfl ?_); refine goesL_ (some 8) rfl rfl Tryz.func29 kr_ rfl #[.pointer (some ⟨g, 0, none⟩), .int .i64 8] rfl ta_ ?_; (with_reducible refine (spec_l02DrawPoly.calls k g s0_0 s0_1 s0_2 8 t195 t198 t199 w0 _ ?side1 ?side2 A2.out).mono ?_); (case side1 => exact is55_ HI0.out); (case side2 => exact bl1_ (IsS55.ge HI0.out)); rintro e w16 ⟨v196, rfl, ho0, hi, hb, hk⟩; refine ⟨_, rfl, ?_⟩; have HO197 := a0_ (Kd.R_lower ho0 (keep_size (w := w) (g := g) (row := none) (kb0_))); replace HK := a0_ (KeepBut.trans (kb0_) hk (.inl rfl)); replace HB := a0_ (hb); replace HI0 := a0_ (hi); (try clear hb); (try clear hb2); (try clear hk); (try clear hi); (try clear ho0)) | ((with_reducible refine gate_callee (f := 18) rfl ?_); refine goesL_ (some 10) rfl rfl Tryz.func18 kr_ rfl #[.pointer (some ⟨g, 0, none⟩), .int .i64 9] rfl ta_ ?_; (with_reducible refine (spec_l01Next.calls g s0_0 t198 t199 9 t200 t201 t202 w0 _ ?side1 ?side2 A3.out).mono ?_); (case side1 => exact is55_ HI0.out); (case side2 => exact bl1_ (IsS55.ge HI0.out)); rintro e w17 ⟨rfl, hi, hb, hk⟩; refine ⟨_, rfl, ?_⟩; replace HO197 := a0_ (Kd.R_mono (Kd.R_keep (IsS55.apart (show IsS55 w0 _ g s0_0 t198 t199 from is55_ HI0.out) (ra_ HO197.out) (by decide)) hk (fun _ h => h.2)) (fun _ h => h.1)); replace HK := a0_ (KeepBut.trans (kb0_) hk (.inl rfl)); replace HB := a0_ (hb); replace HI0 := a0_ (hi); (try clear hb); (try clear hb2); (try clear hk); (try clear hi)) | ((with_reducible refine gate_callee (f := 18) rfl ?_); refine goesL_ (some 13) rfl rfl Tryz.func18 kr_ rfl #[.pointer (some ⟨g, 0, none⟩), .int .i64 9] rfl ta_ ?_; (with_reducible refine (spec_l01Next.calls g s0_0 t201 t202 9 t203 t204 t205 w0 _ ?side1 ?side2 A4.out).mono ?_); (case side1 => exact is55_ HI0.out); (case side2 => exact bl1_ (IsS55.ge HI0.out)); rintro e w18 ⟨rfl, hi, hb, hk⟩; refine ⟨_, rfl, ?_⟩; replace HO197 := a0_ (Kd.R_mono (Kd.R_keep (IsS55.apart (show IsS55 w0 _ g s0_0 t201 t202 from is55_ HI0.out) (ra_ HO197.out) (by decide)) hk (fun _ h => h.2)) (fun _ h => h.1)); replace HK := a0_ (KeepBut.trans (kb0_) hk (.inl rfl)); replace HB := a0_ (hb); replace HI0 := a0_ (hi); (try clear hb); (try clear hb2); (try clear hk); (try clear hi); obtain ⟨Ao19, co19, eo19⟩ := Kd.R_slice HO197.out; subst eo19) | ((with_reducible refine gate_callee (f := 52) rfl ?_); refine goesL_ (some 15) rfl rfl Tryz.func52 kr_ rfl #[.slice Ao19 t195.length co19, .int .i64 (wrap64 (t200 - 4)), .int .i64 (wrap64 (t203 - 4))] rfl ta_ ?_; (with_reducible refine (spec_l02Move.calls k _ _ t195 (wrap64 (t200 - 4)) (wrap64 (t203 - 4)) t206 _ ?side1 ?side2 A5.out).mono ?_); (case side1 => exact ca_ (Kd.R_reads' HO197.out).2.2); (case side2 => exact (Kd.R_reads' HO197.out).2.1); rintro e w20 ⟨v207, rfl, ho0, hb⟩; refine ⟨_, rfl, ?_⟩; have HO208 := a0_ (Kd.R_lower (Kd.R_new' ho0 (Kd.R_lt (ra_ HO197.out))) (keep_size (w := w) (g := g) (row := none) (kb0_))); replace HO197 := a0_ (Kd.R_elder' (ra_ HO197.out) (Kd.R_base ho0) hb); replace HK := a0_ (KeepBut.trans (kb0_) (KeepBut.of_below hb g none) (.inl rfl)); replace HB := a0_ (below_step (bl1_ (IsS55.ge HI0.out)) hb); replace HI0 := a0_ (IsS55.below (is55_ HI0.out) hb); (try clear hb); (try clear hb2); (try clear hk); (try clear hi); (try clear ho0); obtain ⟨Ao21, co21, eo21⟩ := Kd.R_slice HO208.out; subst eo21) | ((with_reducible refine gate_callee (f := 18) rfl ?_); refine goesL_ (some 19) rfl rfl Tryz.func18 kr_ rfl #[.pointer (some ⟨g, 0, none⟩), .int .i64 (t206.length : Int)] rfl ta_ ?_; (with_reducible refine (spec_l01Next.calls g s0_0 t204 t205 (t206.length : Int) t209 t210 t211 w0 _ ?side1 ?side2 A6.out).mono ?_); (case side1 => exact is55_ HI0.out); (case side2 => exact bl1_ (IsS55.ge HI0.out)); rintro e w22 ⟨rfl, hi, hb, hk⟩; refine ⟨_, rfl, ?_⟩; replace HO197 := a0_ (Kd.R_mono (Kd.R_keep (IsS55.apart (show IsS55 w0 _ g s0_0 t204 t205 from is55_ HI0.out) (ra_ HO197.out) (by decide)) hk (fun _ h => h.2)) (fun _ h => h.1)); replace HO208 := a0_ (Kd.R_mono (Kd.R_keep (IsS55.apart (show IsS55 w0 _ g s0_0 t204 t205 from is55_ HI0.out) (ra_ HO208.out) (by decide)) hk (fun _ h => h.2)) (fun _ h => h.1)); replace HK := a0_ (KeepBut.trans (kb0_) hk (.inl rfl)); replace HB := a0_ (hb); replace HI0 := a0_ (hi); (try clear hb); (try clear hb2); (try clear hk); (try clear hi)) | ((with_reducible refine gate_callee (f := 18) rfl ?_); refine goesL_ (some 21) rfl rfl Tryz.func18 kr_ rfl #[.pointer (some ⟨g, 0, none⟩), .int .i64 24] rfl ta_ ?_; (with_reducible refine (spec_l01Next.calls g s0_0 t210 t211 24 t212 t213 t214 w0 _ ?side1 ?side2 A7.out).mono ?_); (case side1 => exact is55_ HI0.out); (case side2 => exact bl1_ (IsS55.ge HI0.out)); rintro e w23 ⟨rfl, hi, hb, hk⟩; refine ⟨_, rfl, ?_⟩; replace HO197 := a0_ (Kd.R_mono (Kd.R_keep (IsS55.apart (show IsS55 w0 _ g s0_0 t210 t211 from is55_ HI0.out) (ra_ HO197.out) (by decide)) hk (fun _ h => h.2)) (fun _ h => h.1)); replace HO208 := a0_ (Kd.R_mono (Kd.R_keep (IsS55.apart (show IsS55 w0 _ g s0_0 t210 t211 from is55_ HI0.out) (ra_ HO208.out) (by decide)) hk (fun _ h => h.2)) (fun _ h => h.1)); replace HK := a0_ (KeepBut.trans (kb0_) hk (.inl rfl)); replace HB := a0_ (hb); replace HI0 := a0_ (hi); (try clear hb); (try clear hb2); (try clear hk); (try clear hi)) | ((with_reducible refine gate_dst (N := 26) rfl ?_); refine Kd.R_lit (Kd.int .i64) _ 2 ?hg (N := 26) ?hd (xs := ([(-100), 100, 101] : List Int)) (inner := [.int .i64 (-100), .int .i64 100, .int .i64 101]) (ok := fun _ => True) (okp := fun _ => True) ?hr ?hp (fun _ hk => hk) trivial (Below.refl _ _) (Nat.le_refl _) (by simp) ?_; (case hd => rfl); (case hg => rfl); (case hr => first | (go_simp; done) | (go_simp; rfl)); (case hp => exact (Reps.one (show Kd.M (Kd.int .i64) _ _ _ (-100) [.int .i64 (-100)] from rfl) (Reps.one (show Kd.M (Kd.int .i64) _ _ _ 100 [.int .i64 100] from rfl) (Reps.one (show Kd.M (Kd.int .i64) _ _ _ 101 [.int .i64 101] from rfl) (Reps.none _ _))))); intro v216 w24 ho25 hb hg_ hnew_; clear hg_ hnew_; (first | rw [← Ny215.out] at ho25 | (simp only [Int.reduceToNat] at ho25; rw [← Ny215.out] at ho25)); replace HO197 := a0_ (Kd.R_below (ra_ HO197.out) hb); replace HO208 := a0_ (Kd.R_below (ra_ HO208.out) hb); have HO217 := a0_ (Kd.R_lower ho25 (keep_size (w := w) (g := g) (row := none) (kb0_))); replace HK := a0_ (KeepBut.trans (kb0_) (KeepBut.of_below hb g none) (.inl rfl)); replace HB := a0_ (below_step (bl1_ (IsS55.ge HI0.out)) hb); replace HI0 := a0_ (IsS55.below (is55_ HI0.out) hb); clear hb ho25) | ((with_reducible refine gate_callee (f := 18) rfl ?_); refine goesL_ (some 28) rfl rfl Tryz.func18 kr_ rfl #[.pointer (some ⟨g, 0, none⟩), .int .i64 3] rfl ta_ ?_; (with_reducible refine (spec_l01Next.calls g s0_0 t213 t214 3 t218 t219 t220 w0 _ ?side1 ?side2 A9.out).mono ?_); (case side1 => exact is55_ HI0.out); (case side2 => exact bl1_ (IsS55.ge HI0.out)); rintro e w26 ⟨rfl, hi, hb, hk⟩; refine ⟨_, rfl, ?_⟩; replace HO197 := a0_ (Kd.R_mono (Kd.R_keep (IsS55.apart (show IsS55 w0 _ g s0_0 t213 t214 from is55_ HI0.out) (ra_ HO197.out) (by decide)) hk (fun _ h => h.2)) (fun _ h => h.1)); replace HO208 := a0_ (Kd.R_mono (Kd.R_keep (IsS55.apart (show IsS55 w0 _ g s0_0 t213 t214 from is55_ HI0.out) (ra_ HO208.out) (by decide)) hk (fun _ h => h.2)) (fun _ h => h.1)); replace HO217 := a0_ (Kd.R_mono (Kd.R_keep (IsS55.apart (show IsS55 w0 _ g s0_0 t213 t214 from is55_ HI0.out) (ra_ HO217.out) (by decide)) hk (fun _ h => h.2)) (fun _ h => h.1)); replace HK := a0_ (KeepBut.trans (kb0_) hk (.inl rfl)); replace HB := a0_ (hb); replace HI0 := a0_ (hi); (try clear hb); (try clear hb2); (try clear hk); (try clear hi); obtain ⟨Ao27, co27, eo27⟩ := Kd.R_slice HO217.out; subst eo27; have p221 : 0 ≤ (t218 : Int) := od_; have q221 : t218 < (y215.length : Int) := od_; obtain ⟨ad221, e221, hx221_0⟩ := Kd.at_int (Kd.R_reads' HO217.out).2.2 t218 p221 q221; cases e221; replace p221 := eq_true p221; replace q221 := eq_true q221; have p14 : 0 ≤ (t209 : Int) := od_; have q14 : (t209 : Int) < ((t206.length : Int) : Int) := od_; obtain ⟨go14, co14, eo14, gb14, gl14, cl14, HG14⟩ := Kd.R_form HO208.out (by omega); (first | cases eo14 | (injection eo14 with ea_ en_ ec_; (first | subst ea_ | (injection ea_ with ea_; subst ea_)); subst ec_; clear en_)); have GB14 := Aside0.mk gb14; have GG14 := Aside0.mk HG14; clear gb14 gl14 HG14; obtain ⟨ce14, hcl14, hM14, hcc14, hfr14⟩ := Kd.R_elem HO208.out z60 (t209 : Int) p14 q14; obtain rfl := k60_openM hM14; have hx14_0 : w26.cell? ⟨go14, (t209 : Int).toNat * 2, none⟩ = some (.int .i64 ((rd_T60 t206 t209).f0)) := hcc14 0 _ rfl; have hx14_1 : w26.cell? ⟨go14, (t209 : Int).toNat * 2 + 1, none⟩ = some (.int .i64 ((rd_T60 t206 t209).f1)) := hcc14 1 _ rfl; have hf14_0 : w26.frozen? ⟨go14, (t209 : Int).toNat * 2, none⟩ = false := hfr14 0; have hf14_1 : w26.frozen? ⟨go14, (t209 : Int).toNat * 2 + 1, none⟩ = false := hfr14 1; clear hcl14 hcc14 hfr14 hM14; replace p14 := eq_true p14; replace q14 := eq_true q14; have n_ := a0_ (Kd.R_mono (ok' := (fun k_ => some k_ ≠ (.slice Ao19 t195.length co19 : Value).ownBlock)) HO208.out (fun k_ hk => hk.2)); clear HO208; have HO208 := n_; clear n_; have HX28 := a0_ (show Kd.R k60 60 w26 w.heap.size (fun k_ => some k_ ≠ (.slice Ao19 t195.length co19 : Value).ownBlock) (.slice (some ⟨go14, 0, none⟩) t206.length co21) t206 from (ra_ HO208.out)); obtain ⟨ce28, hcl28, hM28, hcc28, hfr28⟩ := Kd.R_elem HX28.out z60 (t209 : Int) (od_) (by have h_ : (t209 : Int) < ((t206.length : Int) : Int) := od_; first | exact h_ | (have e_ := (Kd.R_reads' HO208.out).1; omega) | simpa using h_); obtain rfl := k60_openM hM28; have HP28 := Kd.R_seg HX28.out (t209 : Int) (od_) (by have h_ : (t209 : Int) < ((t206.length : Int) : Int) := od_; first | exact h_ | (have e_ := (Kd.R_reads' HO208.out).1; omega) | simpa using h_) (seg := [.int .i64 (rd y215 t218)]) (j := 0) hcl28 hcc28 (show 1 ≤ 2 from by decide) (x' := (⟨rd y215 t218, (rd_T60 t206 t209).f1⟩ : S60)) (k60_mkM _ _ _ (⟨rd y215 t218, (rd_T60 t206 t209).f1⟩ : S60) ) (fun _ hk => hk); have hx28_0 := hcc28 0 _ rfl; (try simp only [show (k60).sz = 2 from rfl, Nat.mul_one, Nat.add_zero] at hx28_0); have hf28_0 := hfr28 0; (try simp only [show (k60).sz = 2 from rfl, Nat.mul_one, Nat.add_zero] at hf28_0); clear hcl28 hcc28 hfr28 hM28) | ((with_reducible refine gate_store (t := 2) (p := 32) rfl ?_); refine store_event (t := 2) (p := 32) (v := ?vo_w29) (w1 := (w26.setCell ⟨go14, (t209 : Int).toNat * 2, none⟩ (.int .i64 (rd y215 t218)))) ?hg ?ho ?hn ?hr ?_; (case ho => rfl); (case hg => rfl); (case hn => rfl); (case hr => first | (go_simp; done) | (go_simp; rfl)); intro w29 hw; have hg : w26.grownBy w29 (some go14) := (by rw [hw]; exact HP28.2); have hp_ : Kd.R k60 60 w29 w.heap.size (fun k_ => some k_ ≠ (.slice Ao19 t195.length co19 : Value).ownBlock) (.slice (some ⟨go14, 0, none⟩) t206.length co21) y222 := (by rw [hw, Ny222.out]; exact HP28.1); clear HP28; replace HI0 := a0_ (IsS55.grown (is55_ HI0.out) hg (IsS55.own_ne HI0.out HO208.out (by decide))); replace HO197 := a0_ (Kd.R_after (v := (.slice (some ⟨go14, 0, none⟩) t206.length co21)) (v1 := (.slice (some ⟨go14, 0, none⟩) t206.length co21)) (ok := (fun _ => True)) (ra_ HO197.out) hg (.inl rfl)); replace HO217 := a0_ (Kd.R_over' (v := (.slice (some ⟨go14, 0, none⟩) t206.length co21)) (ra_ HO217.out) (Kd.R_typed HO208.out) (by decide) hg); replace HB := a0_ ((by rw [hw]; exact below_set (HB.out) (Nat.le_trans HL.out GB14.out) : Below w0.heap.size w0 w29)); replace HK := a0_ (KeepBut.trans (kb0_) (KeepBut.of_grown hg g) (Kd.R_base2 HO208.out)); replace HO208 := a0_ (hp_); clear hg hw hp_) | ((with_reducible refine gate_callee (f := 36) rfl ?_); refine goesL_ (some 34) rfl rfl Tryz.func36 kr_ rfl #[.slice (some ⟨go14, 0, none⟩) y222.length co21] rfl (by (try simp only [List.map_toArray, List.map_cons, List.map_nil]); first | done | (rw [show y222.length = t206.length from (Kd.R_reads' HO208.out).1.symm] <;> rfl) | rfl | (simp only [List.length_drop, List.length_take]; rfl)) ?_; (with_reducible refine (spec_l02Sort.calls k _ _ y222 t223 _ ?side1 ?side2 A15.out).mono ?_); (case side1 => exact ca_ (Kd.R_reads' HO208.out).2.2); (case side2 => rw [show y222.length = t206.length from (Kd.R_reads' HO208.out).1.symm]; exact (Kd.R_reads' HO208.out).2.1); rintro e w30 ⟨v224, rfl, ho0, hb⟩; refine ⟨_, rfl, ?_⟩; replace HO217 := a0_ (Kd.R_below (ra_ HO217.out) hb); have HO225 := a0_ (Kd.R_lower (Kd.R_new' (Kd.R_new' ho0 (Kd.R_lt (ra_ HO197.out))) (Kd.R_lt (ra_ HO208.out))) (keep_size (w := w) (g := g) (row := none) (kb0_))); replace HO197 := a0_ (Kd.R_elder' (ra_ HO197.out) (Kd.R_base ho0) hb); replace HO208 := a0_ (Kd.R_elder' (ra_ HO208.out) (Kd.R_base ho0) hb); replace HK := a0_ (KeepBut.trans (kb0_) (KeepBut.of_below hb g none) (.inl rfl)); replace HB := a0_ (below_step (bl1_ (IsS55.ge HI0.out)) hb); replace HI0 := a0_ (IsS55.below (is55_ HI0.out) hb); (try clear hb); (try clear hb2); (try clear hk); (try clear hi); (try clear ho0)))
      go_ret
      exact ⟨_, er_, by (with_reducible repeat (first | apply Kd.R_alloc | apply Kd.R_drewN | apply Kd.R_drew)); exact Kd.R_mono HO225.out (fun _ hk => trivial), is55_ HI0.out, bl1_ (IsS55.ge HI0.out), kb0_⟩
     ·rw [if_neg c13] at H
      exact absurd H (by simp)
    ·rw [if_neg c12] at H
     exact absurd H (by simp)
   ·rw [if_neg c11] at H
    exact absurd H (by simp)
  ·rw [if_neg c10] at H
   exact absurd H (by simp)
 ·rw [if_neg c8] at H
  have c8b0 : (t212 == 0) = false := beq_eq_false_iff_ne.mpr c8
  have c8b1 : (t212 != 0) = true := bne_iff_ne.mpr c8
  by_cases c31 : t212 = 1
  ·rw [if_pos c31] at H
   have c31b0 : (t212 == 1) = true := beq_iff_eq.mpr c31
   have c31b1 : (t212 != 1) = false := bne_eq_false_iff_eq.mpr c31
   clear c31
   by_cases c32 : 0 ≤ t209
   ·rw [if_pos c32] at H
    have c32b0 : decide (0 ≤ t209) = true := decide_eq_true c32
    clear c32
    by_cases c33 : t209 < (t206.length : Int)
    ·rw [if_pos c33] at H
     have c33b0 : decide (t209 < (t206.length : Int)) = true := decide_eq_true c33
     clear c33
     by_cases c34 : t206.length < 8796093022208
     ·rw [if_pos c34] at H
      have LMc34 := Aside0.mk c34
      clear c34
      obtain ⟨y227, hy227⟩ : ∃ y_ : List (S60), y_ = (t206 ++ [(⟨(rd_T60 t206 t209).f0, (rd_T60 t206 t209).f1⟩ : S60)]) := ⟨_, rfl⟩
      replace H : (some (y227, t213, t214)) = some (r1, r2, r3) := hh_ hy227 H
      have Ny227 := Aside0.mk hy227
      clear hy227
      simp only [Option.some.injEq, Prod.mk.injEq] at H
      obtain ⟨rfl, rfl, rfl⟩ := H
      go_enter Tryz.func30, Tryz.ntmps30
      go_wp2_with (first | ((with_reducible refine gate_callee (f := 29) rfl ?_); refine goesL_ (some 8) rfl rfl Tryz.func29 kr_ rfl #[.pointer (some ⟨g, 0, none⟩), .int .i64 8] rfl ta_ ?_; (with_reducible refine (spec_l02DrawPoly.calls k g s0_0 s0_1 s0_2 8 t195 t198 t199 w0 _ ?side1 ?side2 A2.out).mono ?_); (case side1 => exact is55_ HI0.out); (case side2 => exact bl1_ (IsS55.ge HI0.out)); rintro e w35 ⟨v196, rfl, ho0, hi, hb, hk⟩; refine ⟨_, rfl, ?_⟩; have HO197 := a0_ (Kd.R_lower ho0 (keep_size (w := w) (g := g) (row := none) (kb0_))); replace HK := a0_ (KeepBut.trans (kb0_) hk (.inl rfl)); replace HB := a0_ (hb); replace HI0 := a0_ (hi); (try clear hb); (try clear hb2); (try clear hk); (try clear hi); (try clear ho0)) | ((with_reducible refine gate_callee (f := 18) rfl ?_); refine goesL_ (some 10) rfl rfl Tryz.func18 kr_ rfl #[.pointer (some ⟨g, 0, none⟩), .int .i64 9] rfl ta_ ?_; (with_reducible refine (spec_l01Next.calls g s0_0 t198 t199 9 t200 t201 t202 w0 _ ?side1 ?side2 A3.out).mono ?_); (case side1 => exact is55_ HI0.out); (case side2 => exact bl1_ (IsS55.ge HI0.out)); rintro e w36 ⟨rfl, hi, hb, hk⟩; refine ⟨_, rfl, ?_⟩; replace HO197 := a0_ (Kd.R_mono (Kd.R_keep (IsS55.apart (show IsS55 w0 _ g s0_0 t198 t199 from is55_ HI0.out) (ra_ HO197.out) (by decide)) hk (fun _ h => h.2)) (fun _ h => h.1)); replace HK := a0_ (KeepBut.trans (kb0_) hk (.inl rfl)); replace HB := a0_ (hb); replace HI0 := a0_ (hi); (try clear hb); (try clear hb2); (try clear hk); (try clear hi)) | ((with_reducible refine gate_callee (f := 18) rfl ?_); refine goesL_ (some 13) rfl rfl Tryz.func18 kr_ rfl #[.pointer (some ⟨g, 0, none⟩), .int .i64 9] rfl ta_ ?_; (with_reducible refine (spec_l01Next.calls g s0_0 t201 t202 9 t203 t204 t205 w0 _ ?side1 ?side2 A4.out).mono ?_); (case side1 => exact is55_ HI0.out); (case side2 => exact bl1_ (IsS55.ge HI0.out)); rintro e w37 ⟨rfl, hi, hb, hk⟩; refine ⟨_, rfl, ?_⟩; replace HO197 := a0_ (Kd.R_mono (Kd.R_keep (IsS55.apart (show IsS55 w0 _ g s0_0 t201 t202 from is55_ HI0.out) (ra_ HO197.out) (by decide)) hk (fun _ h => h.2)) (fun _ h => h.1)); replace HK := a0_ (KeepBut.trans (kb0_) hk (.inl rfl)); replace HB := a0_ (hb); replace HI0 := a0_ (hi); (try clear hb); (try clear hb2); (try clear hk); (try clear hi); obtain ⟨Ao38, co38, eo38⟩ := Kd.R_slice HO197.out; subst eo38) | ((with_reducible refine gate_callee (f := 52) rfl ?_); refine goesL_ (some 15) rfl rfl Tryz.func52 kr_ rfl #[.slice Ao38 t195.length co38, .int .i64 (wrap64 (t200 - 4)), .int .i64 (wrap64 (t203 - 4))] rfl ta_ ?_; (with_reducible refine (spec_l02Move.calls k _ _ t195 (wrap64 (t200 - 4)) (wrap64 (t203 - 4)) t206 _ ?side1 ?side2 A5.out).mono ?_); (case side1 => exact ca_ (Kd.R_reads' HO197.out).2.2); (case side2 => exact (Kd.R_reads' HO197.out).2.1); rintro e w39 ⟨v207, rfl, ho0, hb⟩; refine ⟨_, rfl, ?_⟩; have HO208 := a0_ (Kd.R_lower (Kd.R_new' ho0 (Kd.R_lt (ra_ HO197.out))) (keep_size (w := w) (g := g) (row := none) (kb0_))); replace HO197 := a0_ (Kd.R_elder' (ra_ HO197.out) (Kd.R_base ho0) hb); replace HK := a0_ (KeepBut.trans (kb0_) (KeepBut.of_below hb g none) (.inl rfl)); replace HB := a0_ (below_step (bl1_ (IsS55.ge HI0.out)) hb); replace HI0 := a0_ (IsS55.below (is55_ HI0.out) hb); (try clear hb); (try clear hb2); (try clear hk); (try clear hi); (try clear ho0); obtain ⟨Ao40, co40, eo40⟩ := Kd.R_slice HO208.out; subst eo40) | ((with_reducible refine gate_callee (f := 18) rfl ?_); refine goesL_ (some 19) rfl rfl Tryz.func18 kr_ rfl #[.pointer (some ⟨g, 0, none⟩), .int .i64 (t206.length : Int)] rfl ta_ ?_; (with_reducible refine (spec_l01Next.calls g s0_0 t204 t205 (t206.length : Int) t209 t210 t211 w0 _ ?side1 ?side2 A6.out).mono ?_); (case side1 => exact is55_ HI0.out); (case side2 => exact bl1_ (IsS55.ge HI0.out)); rintro e w41 ⟨rfl, hi, hb, hk⟩; refine ⟨_, rfl, ?_⟩; replace HO197 := a0_ (Kd.R_mono (Kd.R_keep (IsS55.apart (show IsS55 w0 _ g s0_0 t204 t205 from is55_ HI0.out) (ra_ HO197.out) (by decide)) hk (fun _ h => h.2)) (fun _ h => h.1)); replace HO208 := a0_ (Kd.R_mono (Kd.R_keep (IsS55.apart (show IsS55 w0 _ g s0_0 t204 t205 from is55_ HI0.out) (ra_ HO208.out) (by decide)) hk (fun _ h => h.2)) (fun _ h => h.1)); replace HK := a0_ (KeepBut.trans (kb0_) hk (.inl rfl)); replace HB := a0_ (hb); replace HI0 := a0_ (hi); (try clear hb); (try clear hb2); (try clear hk); (try clear hi)) | ((with_reducible refine gate_callee (f := 18) rfl ?_); refine goesL_ (some 21) rfl rfl Tryz.func18 kr_ rfl #[.pointer (some ⟨g, 0, none⟩), .int .i64 24] rfl ta_ ?_; (with_reducible refine (spec_l01Next.calls g s0_0 t210 t211 24 t212 t213 t214 w0 _ ?side1 ?side2 A7.out).mono ?_); (case side1 => exact is55_ HI0.out); (case side2 => exact bl1_ (IsS55.ge HI0.out)); rintro e w42 ⟨rfl, hi, hb, hk⟩; refine ⟨_, rfl, ?_⟩; replace HO197 := a0_ (Kd.R_mono (Kd.R_keep (IsS55.apart (show IsS55 w0 _ g s0_0 t210 t211 from is55_ HI0.out) (ra_ HO197.out) (by decide)) hk (fun _ h => h.2)) (fun _ h => h.1)); replace HO208 := a0_ (Kd.R_mono (Kd.R_keep (IsS55.apart (show IsS55 w0 _ g s0_0 t210 t211 from is55_ HI0.out) (ra_ HO208.out) (by decide)) hk (fun _ h => h.2)) (fun _ h => h.1)); replace HK := a0_ (KeepBut.trans (kb0_) hk (.inl rfl)); replace HB := a0_ (hb); replace HI0 := a0_ (hi); (try clear hb); (try clear hb2); (try clear hk); (try clear hi); have p226 : 0 ≤ (t209 : Int) := od_; have q226 : t209 < (t206.length : Int) := od_; obtain ⟨ad226, e226, hx226_0, hx226_1⟩ := at_T60 (Kd.R_reads' HO208.out).2.2 t209 p226 q226; cases e226; replace p226 := eq_true p226; replace q226 := eq_true q226) | ((with_reducible refine gate_builtin (b := .append) (xs := #[.tmp 37, .tmp 42]) rfl ?_); at_builtin; refine Kd.R_append k60 w.heap.size rfl (.tmp 37) (.tmp 42) 24 60 (.agg #[(.int .i64 0), (.int .i64 0)]) 16 rfl Tryz.underlying24 info60 rfl (by decide) (by omega) (.slice (some ad226) t206.length co40) t206 (⟨(rd_T60 t206 t209).f0, (rd_T60 t206 t209).f1⟩ : S60) [.int .i64 ((rd_T60 t206 t209).f0), .int .i64 ((rd_T60 t206 t209).f1)] (fun k_ => some k_ ≠ (.slice Ao38 t195.length co38 : Value).ownBlock) (fun _ => False) rfl rfl ?aP (fun _ hk => hk.elim) ?aF ?aO (Below.refl _ _) ?aS ?aL ?_; (case aP => exact k60_mkM _ _ _ (⟨(rd_T60 t206 t209).f0, (rd_T60 t206 t209).f1⟩ : S60)); (case aF => exact (fun k_ hk => Kd.fresh' (Kd.R_lt (ra_ HO197.out)) k_ hk)); (case aO => exact (by (with_reducible repeat (first | apply Kd.R_alloc | apply Kd.R_drewN | apply Kd.R_drew)); exact Kd.R_mono HO208.out (fun _ hk => hk.2))); (case aS => exact (keep_size (w := w) (g := g) (row := none) (kb0_))); (case aL => have := LMc34.out; omega); intro v228 w43 ho hb hg hat; rw [← Ny227.out] at ho; replace HO197 := a0_ (Kd.R_after (ok := (fun _ => True)) (ra_ HO197.out) hg hat); replace HB := a0_ (below_weaken (bl1_ (IsS55.ge HI0.out)) HL.out hb); replace HI0 := a0_ (IsS55.grown (is55_ HI0.out) hg (IsS55.own_ne HI0.out HO208.out (by decide))); replace HK := a0_ (KeepBut.trans (kb0_) (KeepBut.of_grown hg g) (Kd.R_base2 HO208.out)); have HO229 := a0_ (ho); clear HO208; clear ho hb hg hat))
      go_ret
      exact ⟨_, er_, by (with_reducible repeat (first | apply Kd.R_alloc | apply Kd.R_drewN | apply Kd.R_drew)); exact Kd.R_mono HO229.out (fun _ hk => trivial), is55_ HI0.out, bl1_ (IsS55.ge HI0.out), kb0_⟩
     ·rw [if_neg c34] at H
      exact absurd H (by simp)
    ·rw [if_neg c33] at H
     exact absurd H (by simp)
   ·rw [if_neg c32] at H
    exact absurd H (by simp)
  ·rw [if_neg c31] at H
   have c31b0 : (t212 == 1) = false := beq_eq_false_iff_ne.mpr c31
   have c31b1 : (t212 != 1) = true := bne_iff_ne.mpr c31
   by_cases c44 : t212 = 2
   ·rw [if_pos c44] at H
    have c44b0 : (t212 == 2) = true := beq_iff_eq.mpr c44
    have c44b1 : (t212 != 2) = false := bne_eq_false_iff_eq.mpr c44
    clear c44
    simp only [Option.some.injEq, Prod.mk.injEq] at H
    obtain ⟨rfl, rfl, rfl⟩ := H
    go_enter Tryz.func30, Tryz.ntmps30
    go_wp2_with (first | ((with_reducible refine gate_callee (f := 29) rfl ?_); refine goesL_ (some 8) rfl rfl Tryz.func29 kr_ rfl #[.pointer (some ⟨g, 0, none⟩), .int .i64 8] rfl ta_ ?_; (with_reducible refine (spec_l02DrawPoly.calls k g s0_0 s0_1 s0_2 8 t195 t198 t199 w0 _ ?side1 ?side2 A2.out).mono ?_); (case side1 => exact is55_ HI0.out); (case side2 => exact bl1_ (IsS55.ge HI0.out)); rintro e w45 ⟨v196, rfl, ho0, hi, hb, hk⟩; refine ⟨_, rfl, ?_⟩; have HO197 := a0_ (Kd.R_lower ho0 (keep_size (w := w) (g := g) (row := none) (kb0_))); replace HK := a0_ (KeepBut.trans (kb0_) hk (.inl rfl)); replace HB := a0_ (hb); replace HI0 := a0_ (hi); (try clear hb); (try clear hb2); (try clear hk); (try clear hi); (try clear ho0)) | ((with_reducible refine gate_callee (f := 18) rfl ?_); refine goesL_ (some 10) rfl rfl Tryz.func18 kr_ rfl #[.pointer (some ⟨g, 0, none⟩), .int .i64 9] rfl ta_ ?_; (with_reducible refine (spec_l01Next.calls g s0_0 t198 t199 9 t200 t201 t202 w0 _ ?side1 ?side2 A3.out).mono ?_); (case side1 => exact is55_ HI0.out); (case side2 => exact bl1_ (IsS55.ge HI0.out)); rintro e w46 ⟨rfl, hi, hb, hk⟩; refine ⟨_, rfl, ?_⟩; replace HO197 := a0_ (Kd.R_mono (Kd.R_keep (IsS55.apart (show IsS55 w0 _ g s0_0 t198 t199 from is55_ HI0.out) (ra_ HO197.out) (by decide)) hk (fun _ h => h.2)) (fun _ h => h.1)); replace HK := a0_ (KeepBut.trans (kb0_) hk (.inl rfl)); replace HB := a0_ (hb); replace HI0 := a0_ (hi); (try clear hb); (try clear hb2); (try clear hk); (try clear hi)) | ((with_reducible refine gate_callee (f := 18) rfl ?_); refine goesL_ (some 13) rfl rfl Tryz.func18 kr_ rfl #[.pointer (some ⟨g, 0, none⟩), .int .i64 9] rfl ta_ ?_; (with_reducible refine (spec_l01Next.calls g s0_0 t201 t202 9 t203 t204 t205 w0 _ ?side1 ?side2 A4.out).mono ?_); (case side1 => exact is55_ HI0.out); (case side2 => exact bl1_ (IsS55.ge HI0.out)); rintro e w47 ⟨rfl, hi, hb, hk⟩; refine ⟨_, rfl, ?_⟩; replace HO197 := a0_ (Kd.R_mono (Kd.R_keep (IsS55.apart (show IsS55 w0 _ g s0_0 t201 t202 from is55_ HI0.out) (ra_ HO197.out) (by decide)) hk (fun _ h => h.2)) (fun _ h => h.1)); replace HK := a0_ (KeepBut.trans (kb0_) hk (.inl rfl)); replace HB := a0_ (hb); replace HI0 := a0_ (hi); (try clear hb); (try clear hb2); (try clear hk); (try clear hi); obtain ⟨Ao48, co48, eo48⟩ := Kd.R_slice HO197.out; subst eo48) | ((with_reducible refine gate_callee (f := 52) rfl ?_); refine goesL_ (some 15) rfl rfl Tryz.func52 kr_ rfl #[.slice Ao48 t195.length co48, .int .i64 (wrap64 (t200 - 4)), .int .i64 (wrap64 (t203 - 4))] rfl ta_ ?_; (with_reducible refine (spec_l02Move.calls k _ _ t195 (wrap64 (t200 - 4)) (wrap64 (t203 - 4)) t206 _ ?side1 ?side2 A5.out).mono ?_); (case side1 => exact ca_ (Kd.R_reads' HO197.out).2.2); (case side2 => exact (Kd.R_reads' HO197.out).2.1); rintro e w49 ⟨v207, rfl, ho0, hb⟩; refine ⟨_, rfl, ?_⟩; have HO208 := a0_ (Kd.R_lower (Kd.R_new' ho0 (Kd.R_lt (ra_ HO197.out))) (keep_size (w := w) (g := g) (row := none) (kb0_))); replace HO197 := a0_ (Kd.R_elder' (ra_ HO197.out) (Kd.R_base ho0) hb); replace HK := a0_ (KeepBut.trans (kb0_) (KeepBut.of_below hb g none) (.inl rfl)); replace HB := a0_ (below_step (bl1_ (IsS55.ge HI0.out)) hb); replace HI0 := a0_ (IsS55.below (is55_ HI0.out) hb); (try clear hb); (try clear hb2); (try clear hk); (try clear hi); (try clear ho0); obtain ⟨Ao50, co50, eo50⟩ := Kd.R_slice HO208.out; subst eo50) | ((with_reducible refine gate_callee (f := 18) rfl ?_); refine goesL_ (some 19) rfl rfl Tryz.func18 kr_ rfl #[.pointer (some ⟨g, 0, none⟩), .int .i64 (t206.length : Int)] rfl ta_ ?_; (with_reducible refine (spec_l01Next.calls g s0_0 t204 t205 (t206.length : Int) t209 t210 t211 w0 _ ?side1 ?side2 A6.out).mono ?_); (case side1 => exact is55_ HI0.out); (case side2 => exact bl1_ (IsS55.ge HI0.out)); rintro e w51 ⟨rfl, hi, hb, hk⟩; refine ⟨_, rfl, ?_⟩; replace HO197 := a0_ (Kd.R_mono (Kd.R_keep (IsS55.apart (show IsS55 w0 _ g s0_0 t204 t205 from is55_ HI0.out) (ra_ HO197.out) (by decide)) hk (fun _ h => h.2)) (fun _ h => h.1)); replace HO208 := a0_ (Kd.R_mono (Kd.R_keep (IsS55.apart (show IsS55 w0 _ g s0_0 t204 t205 from is55_ HI0.out) (ra_ HO208.out) (by decide)) hk (fun _ h => h.2)) (fun _ h => h.1)); replace HK := a0_ (KeepBut.trans (kb0_) hk (.inl rfl)); replace HB := a0_ (hb); replace HI0 := a0_ (hi); (try clear hb); (try clear hb2); (try clear hk); (try clear hi)) | ((with_reducible refine gate_callee (f := 18) rfl ?_); refine goesL_ (some 21) rfl rfl Tryz.func18 kr_ rfl #[.pointer (some ⟨g, 0, none⟩), .int .i64 24] rfl ta_ ?_; (with_reducible refine (spec_l01Next.calls g s0_0 t210 t211 24 t212 t213 t214 w0 _ ?side1 ?side2 A7.out).mono ?_); (case side1 => exact is55_ HI0.out); (case side2 => exact bl1_ (IsS55.ge HI0.out)); rintro e w52 ⟨rfl, hi, hb, hk⟩; refine ⟨_, rfl, ?_⟩; replace HO197 := a0_ (Kd.R_mono (Kd.R_keep (IsS55.apart (show IsS55 w0 _ g s0_0 t210 t211 from is55_ HI0.out) (ra_ HO197.out) (by decide)) hk (fun _ h => h.2)) (fun _ h => h.1)); replace HO208 := a0_ (Kd.R_mono (Kd.R_keep (IsS55.apart (show IsS55 w0 _ g s0_0 t210 t211 from is55_ HI0.out) (ra_ HO208.out) (by decide)) hk (fun _ h => h.2)) (fun _ h => h.1)); replace HK := a0_ (KeepBut.trans (kb0_) hk (.inl rfl)); replace HB := a0_ (hb); replace HI0 := a0_ (hi); (try clear hb); (try clear hb2); (try clear hk); (try clear hi)))
    go_ret
    exact ⟨_, er_, by first | exact Kd.R_nil _ _ _ _ _ | exact Kd.N_nil _ _ _ _ _ | exact Kd.V_nil _ _ _ _ _ | exact Kd.Q_nil _ _ _ _ _ | exact Kd.S_nil _ _ _ _ _, is55_ HI0.out, bl1_ (IsS55.ge HI0.out), kb0_⟩
   ·rw [if_neg c44] at H
    have c44b0 : (t212 == 2) = false := beq_eq_false_iff_ne.mpr c44
    have c44b1 : (t212 != 2) = true := bne_iff_ne.mpr c44
    by_cases c53 : t212 = 3
    ·rw [if_pos c53] at H
     have c53b0 : (t212 == 3) = true := beq_iff_eq.mpr c53
     have c53b1 : (t212 != 3) = false := bne_eq_false_iff_eq.mpr c53
     clear c53
     obtain ⟨y230, hy230⟩ : ∃ y_ : List (S60), y_ = (([] : List (S60))) := ⟨_, rfl⟩
     replace H : (spec_l02Draw.l0 k y230 0 s0_0 t213 t214) = some (r1, r2, r3) := hh_ hy230 H
     have Ny230 := Aside0.mk hy230
     clear hy230
     have H' := Aside0.mk H
     clear H
     go_enter Tryz.func30, Tryz.ntmps30
     go_wp2_with (first | ((with_reducible refine gate_callee (f := 29) rfl ?_); refine goesL_ (some 8) rfl rfl Tryz.func29 kr_ rfl #[.pointer (some ⟨g, 0, none⟩), .int .i64 8] rfl ta_ ?_; (with_reducible refine (spec_l02DrawPoly.calls k g s0_0 s0_1 s0_2 8 t195 t198 t199 w0 _ ?side1 ?side2 A2.out).mono ?_); (case side1 => exact is55_ HI0.out); (case side2 => exact bl1_ (IsS55.ge HI0.out)); rintro e w54 ⟨v196, rfl, ho0, hi, hb, hk⟩; refine ⟨_, rfl, ?_⟩; have HO197 := a0_ (Kd.R_lower ho0 (keep_size (w := w) (g := g) (row := none) (kb0_))); replace HK := a0_ (KeepBut.trans (kb0_) hk (.inl rfl)); replace HB := a0_ (hb); replace HI0 := a0_ (hi); (try clear hb); (try clear hb2); (try clear hk); (try clear hi); (try clear ho0)) | ((with_reducible refine gate_callee (f := 18) rfl ?_); refine goesL_ (some 10) rfl rfl Tryz.func18 kr_ rfl #[.pointer (some ⟨g, 0, none⟩), .int .i64 9] rfl ta_ ?_; (with_reducible refine (spec_l01Next.calls g s0_0 t198 t199 9 t200 t201 t202 w0 _ ?side1 ?side2 A3.out).mono ?_); (case side1 => exact is55_ HI0.out); (case side2 => exact bl1_ (IsS55.ge HI0.out)); rintro e w55 ⟨rfl, hi, hb, hk⟩; refine ⟨_, rfl, ?_⟩; replace HO197 := a0_ (Kd.R_mono (Kd.R_keep (IsS55.apart (show IsS55 w0 _ g s0_0 t198 t199 from is55_ HI0.out) (ra_ HO197.out) (by decide)) hk (fun _ h => h.2)) (fun _ h => h.1)); replace HK := a0_ (KeepBut.trans (kb0_) hk (.inl rfl)); replace HB := a0_ (hb); replace HI0 := a0_ (hi); (try clear hb); (try clear hb2); (try clear hk); (try clear hi)) | ((with_reducible refine gate_callee (f := 18) rfl ?_); refine goesL_ (some 13) rfl rfl Tryz.func18 kr_ rfl #[.pointer (some ⟨g, 0, none⟩), .int .i64 9] rfl ta_ ?_; (with_reducible refine (spec_l01Next.calls g s0_0 t201 t202 9 t203 t204 t205 w0 _ ?side1 ?side2 A4.out).mono ?_); (case side1 => exact is55_ HI0.out); (case side2 => exact bl1_ (IsS55.ge HI0.out)); rintro e w56 ⟨rfl, hi, hb, hk⟩; refine ⟨_, rfl, ?_⟩; replace HO197 := a0_ (Kd.R_mono (Kd.R_keep (IsS55.apart (show IsS55 w0 _ g s0_0 t201 t202 from is55_ HI0.out) (ra_ HO197.out) (by decide)) hk (fun _ h => h.2)) (fun _ h => h.1)); replace HK := a0_ (KeepBut.trans (kb0_) hk (.inl rfl)); replace HB := a0_ (hb); replace HI0 := a0_ (hi); (try clear hb); (try clear hb2); (try clear hk); (try clear hi); obtain ⟨Ao57, co57, eo57⟩ := Kd.R_slice HO197.out; subst eo57) | ((with_reducible refine gate_callee (f := 52) rfl ?_); refine goesL_ (some 15) rfl rfl Tryz.func52 kr_ rfl #[.slice Ao57 t195.length co57, .int .i64 (wrap64 (t200 - 4)), .int .i64 (wrap64 (t203 - 4))] rfl ta_ ?_; (with_reducible refine (spec_l02Move.calls k _ _ t195 (wrap64 (t200 - 4)) (wrap64 (t203 - 4)) t206 _ ?side1 ?side2 A5.out).mono ?_); (case side1 => exact ca_ (Kd.R_reads' HO197.out).2.2); (case side2 => exact (Kd.R_reads' HO197.out).2.1); rintro e w58 ⟨v207, rfl, ho0, hb⟩; refine ⟨_, rfl, ?_⟩; have HO208 := a0_ (Kd.R_lower (Kd.R_new' ho0 (Kd.R_lt (ra_ HO197.out))) (keep_size (w := w) (g := g) (row := none) (kb0_))); replace HO197 := a0_ (Kd.R_elder' (ra_ HO197.out) (Kd.R_base ho0) hb); replace HK := a0_ (KeepBut.trans (kb0_) (KeepBut.of_below hb g none) (.inl rfl)); replace HB := a0_ (below_step (bl1_ (IsS55.ge HI0.out)) hb); replace HI0 := a0_ (IsS55.below (is55_ HI0.out) hb); (try clear hb); (try clear hb2); (try clear hk); (try clear hi); (try clear ho0); obtain ⟨Ao59, co59, eo59⟩ := Kd.R_slice HO208.out; subst eo59) | ((with_reducible refine gate_callee (f := 18) rfl ?_); refine goesL_ (some 19) rfl rfl Tryz.func18 kr_ rfl #[.pointer (some ⟨g, 0, none⟩), .int .i64 (t206.length : Int)] rfl ta_ ?_; (with_reducible refine (spec_l01Next.calls g s0_0 t204 t205 (t206.length : Int) t209 t210 t211 w0 _ ?side1 ?side2 A6.out).mono ?_); (case side1 => exact is55_ HI0.out); (case side2 => exact bl1_ (IsS55.ge HI0.out)); rintro e w60 ⟨rfl, hi, hb, hk⟩; refine ⟨_, rfl, ?_⟩; replace HO197 := a0_ (Kd.R_mono (Kd.R_keep (IsS55.apart (show IsS55 w0 _ g s0_0 t204 t205 from is55_ HI0.out) (ra_ HO197.out) (by decide)) hk (fun _ h => h.2)) (fun _ h => h.1)); replace HO208 := a0_ (Kd.R_mono (Kd.R_keep (IsS55.apart (show IsS55 w0 _ g s0_0 t204 t205 from is55_ HI0.out) (ra_ HO208.out) (by decide)) hk (fun _ h => h.2)) (fun _ h => h.1)); replace HK := a0_ (KeepBut.trans (kb0_) hk (.inl rfl)); replace HB := a0_ (hb); replace HI0 := a0_ (hi); (try clear hb); (try clear hb2); (try clear hk); (try clear hi)) | ((with_reducible refine gate_callee (f := 18) rfl ?_); refine goesL_ (some 21) rfl rfl Tryz.func18 kr_ rfl #[.pointer (some ⟨g, 0, none⟩), .int .i64 24] rfl ta_ ?_; (with_reducible refine (spec_l01Next.calls g s0_0 t210 t211 24 t212 t213 t214 w0 _ ?side1 ?side2 A7.out).mono ?_); (case side1 => exact is55_ HI0.out); (case side2 => exact bl1_ (IsS55.ge HI0.out)); rintro e w61 ⟨rfl, hi, hb, hk⟩; refine ⟨_, rfl, ?_⟩; replace HO197 := a0_ (Kd.R_mono (Kd.R_keep (IsS55.apart (show IsS55 w0 _ g s0_0 t210 t211 from is55_ HI0.out) (ra_ HO197.out) (by decide)) hk (fun _ h => h.2)) (fun _ h => h.1)); replace HO208 := a0_ (Kd.R_mono (Kd.R_keep (IsS55.apart (show IsS55 w0 _ g s0_0 t210 t211 from is55_ HI0.out) (ra_ HO208.out) (by decide)) hk (fun _ h => h.2)) (fun _ h => h.1)); replace HK := a0_ (KeepBut.trans (kb0_) hk (.inl rfl)); replace HB := a0_ (hb); replace HI0 := a0_ (hi); (try clear hb); (try clear hb2); (try clear hk); (try clear hi)) | ((with_reducible refine gate_dst (N := 48) rfl ?_); refine Kd.R_lit k60 _ 60 ?hg (N := 48) ?hd (xs := ([] : List (S60))) (inner := []) (ok := fun _ => True) (okp := fun _ => True) ?hr ?hp (fun _ hk => hk) trivial (Below.refl _ _) (Nat.le_refl _) (by simp) ?_; (case hd => rfl); (case hg => rfl); (case hr => first | (go_simp; done) | (go_simp; rfl)); (case hp => exact (Reps.none _ _)); intro v231 w62 ho63 hb hg_ hnew_; clear hg_ hnew_; (first | rw [← Ny230.out] at ho63 | (simp only [Int.reduceToNat] at ho63; rw [← Ny230.out] at ho63)); have HO232 := a0_ (Kd.R_lower (Kd.R_new' (Kd.R_new' ho63 (Kd.R_lt (ra_ HO197.out))) (Kd.R_lt (ra_ HO208.out))) (keep_size (w := w) (g := g) (row := none) (kb0_))); replace HO197 := a0_ (Kd.R_elder' (ra_ HO197.out) (Kd.R_base ho63) hb); replace HO208 := a0_ (Kd.R_elder' (ra_ HO208.out) (Kd.R_base ho63) hb); replace HK := a0_ (KeepBut.trans (kb0_) (KeepBut.of_below hb g none) (.inl rfl)); replace HB := a0_ (below_step (bl1_ (IsS55.ge HI0.out)) hb); replace HI0 := a0_ (IsS55.below (is55_ HI0.out) hb); clear hb ho63))
     go_loopg [5, 6] k (fun kq v5 v6 w' => ∃ (x5_1 : List (S60)) (x6_1 : Int) (x1001_1 : Int) (x1002_1 : Int), v6 = .int .i64 x6_1 ∧ Aside0 (spec_l02Draw.l0 kq x5_1 x6_1 s0_0 x1001_1 x1002_1 = some (r1, r2, r3)) ∧ Aside0 (kq ≤ k) ∧ Aside0 (Kd.R k60 60 w' w.heap.size (fun _ => True) v5 x5_1) ∧ Aside0 (IsS55 w0 w' g s0_0 x1001_1 x1002_1) ∧ Aside0 (KeepBut w w' g none) ∧ Aside0 (Below w0.heap.size w0 w'))
     case atStart => exact ⟨(y230), (0), (t213), (t214), rs_, H', ⟨Nat.le_refl _⟩, ⟨by (with_reducible repeat (first | apply Kd.R_alloc | apply Kd.R_drewN | apply Kd.R_drew)); exact Kd.R_mono HO232.out (fun _ hk => trivial)⟩, ⟨is55_ HI0.out⟩, ⟨kb0_⟩, ⟨bl1_ (IsS55.ge HI0.out)⟩⟩
     case round =>
      clear H'
      try clear c1
      try clear p1
      try clear q1
      try clear hx1
      try clear hf1
      try clear c2
      try clear p2
      try clear q2
      try clear hx2
      try clear hf2
      try clear c3
      try clear c4
      try clear c5
      try clear p6
      try clear c8
      try clear c8b0
      try clear c8b1
      try clear c10
      try clear c10b0
      try clear c11
      try clear c11b0
      try clear c12
      try clear c12b0
      try clear c13
      try clear c13b0
      try clear c14
      try clear p14
      try clear q14
      try clear hx14
      try clear hf14
      try clear c18
      try clear p22
      try clear q22
      try clear hx22
      try clear c28
      try clear hx28
      try clear hf28
      try clear c29
      try clear c30
      try clear c31
      try clear c31b0
      try clear c31b1
      try clear c32
      try clear c32b0
      try clear c33
      try clear c33b0
      try clear c34
      try clear c36
      try clear c44
      try clear c44b0
      try clear c44b1
      try clear c52
      try clear c53
      try clear c53b0
      try clear c53b1
      try clear hx14_0
      try clear hx14_1
      try clear hx221_0
      try clear hx226_0
      try clear hx226_1
      try clear hx28_0
      try clear p14
      try clear p221
      try clear p226
      try clear q14
      try clear q221
      try clear q226
      obtain ⟨x5_1, x6_1, x1001_1, x1002_1, rfl, HA, HK1, HO_5, HI0, HK, HB⟩ := hrel
      cases gk with
      | zero => exact absurd HA.out (by simp [spec_l02Draw.l0])
      | succ k1 =>
       have H := HA.out
       clear HA
       simp only [spec_l02Draw.l0] at H
       obtain ⟨⟨t233, t234, t235⟩, A64, H⟩ := bs_ H
       dsimp only at H
       by_cases c65 : x6_1 < (wrap64 (40 + t233))
       ·rw [if_pos c65] at H
        have c65b0 : decide (x6_1 < (wrap64 (40 + t233))) = true := decide_eq_true c65
        clear c65
        by_cases c66 : x5_1.length < 8796093022208
        ·rw [if_pos c66] at H
         have LMc66 := Aside0.mk c66
         clear c66
         obtain ⟨y236, hy236⟩ : ∃ y_ : List (S60), y_ = (x5_1 ++ [(⟨x6_1, 0⟩ : S60)]) := ⟨_, rfl⟩
         replace H : (spec_l02Draw.l0 k1 y236 (wrap64 (x6_1 + 1)) s0_0 t234 t235) = some (r1, r2, r3) := hh_ hy236 H
         have Ny236 := Aside0.mk hy236
         clear hy236
         have H' := Aside0.mk H
         clear H
         go_wp2_with (first | ((with_reducible refine gate_callee (f := 18) rfl ?_); refine goesL_ (some 51) rfl rfl Tryz.func18 kr_ rfl #[.pointer (some ⟨g, 0, none⟩), .int .i64 2] rfl ta_ ?_; (with_reducible refine (spec_l01Next.calls g s0_0 x1001_1 x1002_1 2 t233 t234 t235 w0 _ ?side1 ?side2 A64.out).mono ?_); (case side1 => exact is55_ HI0.out); (case side2 => exact bl1_ (IsS55.ge HI0.out)); rintro e w67 ⟨rfl, hi, hb, hk⟩; refine ⟨_, rfl, ?_⟩; replace HO_5 := a0_ (Kd.R_mono (Kd.R_keep (IsS55.apart (show IsS55 w0 _ g s0_0 x1001_1 x1002_1 from is55_ HI0.out) (ra_ HO_5.out) (by decide)) hk (fun _ h => h.2)) (fun _ h => h.1)); replace HK := a0_ (KeepBut.trans (kb0_) hk (.inl rfl)); replace HB := a0_ (hb); replace HI0 := a0_ (hi); (try clear hb); (try clear hb2); (try clear hk); (try clear hi)) | ((with_reducible refine gate_builtin (b := .append) (xs := #[.tmp 56, .tmp 59]) rfl ?_); at_builtin; refine Kd.R_append k60 w.heap.size rfl (.tmp 56) (.tmp 59) 24 60 (.agg #[(.int .i64 0), (.int .i64 0)]) 16 rfl Tryz.underlying24 info60 rfl (by decide) (by omega) u5 x5_1 (⟨x6_1, 0⟩ : S60) [.int .i64 x6_1, .int .i64 0] (fun _ => True) (fun _ => False) rfl rfl ?aP (fun _ hk => hk.elim) ?aF ?aO (Below.refl _ _) ?aS ?aL ?_; (case aP => exact k60_mkM _ _ _ (⟨x6_1, 0⟩ : S60)); (case aF => exact (fun _ _ => trivial)); (case aO => exact (ra_ HO_5.out)); (case aS => exact (keep_size (w := w) (g := g) (row := none) (kb0_))); (case aL => have := LMc66.out; omega); intro v237 w68 ho hb hg hat; rw [← Ny236.out] at ho; replace HB := a0_ (below_weaken (bl1_ (IsS55.ge HI0.out)) HL.out hb); replace HI0 := a0_ (IsS55.grown (is55_ HI0.out) hg (IsS55.own_ne HI0.out HO_5.out (by decide))); replace HK := a0_ (KeepBut.trans (kb0_) (KeepBut.of_grown hg g) (Kd.R_base2 HO_5.out)); have HO238 := a0_ (ho); clear HO_5; clear ho hb hg hat))
         go_roundg k1
         case measure => have := HK1.out; omega
         case rel => exact ⟨(y236), (wrap64 (x6_1 + 1)), (t234), (t235), rs_, H', ⟨by have := HK1.out; omega⟩, ⟨ra_ HO238.out⟩, ⟨is55_ HI0.out⟩, ⟨kb0_⟩, ⟨bl1_ (IsS55.ge HI0.out)⟩⟩
        ·rw [if_neg c66] at H
         exact absurd H (by simp)
       ·rw [if_neg c65] at H
        have c65b0 : decide (x6_1 < (wrap64 (40 + t233))) = false := decide_eq_false c65
        clear c65
        simp only [Option.some.injEq, Prod.mk.injEq] at H
        obtain ⟨rfl, rfl, rfl⟩ := H
        go_wp2_with (first | ((with_reducible refine gate_callee (f := 18) rfl ?_); refine goesL_ (some 51) rfl rfl Tryz.func18 kr_ rfl #[.pointer (some ⟨g, 0, none⟩), .int .i64 2] rfl ta_ ?_; (with_reducible refine (spec_l01Next.calls g s0_0 x1001_1 x1002_1 2 t233 t234 t235 w0 _ ?side1 ?side2 A64.out).mono ?_); (case side1 => exact is55_ HI0.out); (case side2 => exact bl1_ (IsS55.ge HI0.out)); rintro e w69 ⟨rfl, hi, hb, hk⟩; refine ⟨_, rfl, ?_⟩; replace HO_5 := a0_ (Kd.R_mono (Kd.R_keep (IsS55.apart (show IsS55 w0 _ g s0_0 x1001_1 x1002_1 from is55_ HI0.out) (ra_ HO_5.out) (by decide)) hk (fun _ h => h.2)) (fun _ h => h.1)); replace HK := a0_ (KeepBut.trans (kb0_) hk (.inl rfl)); replace HB := a0_ (hb); replace HI0 := a0_ (hi); (try clear hb); (try clear hb2); (try clear hk); (try clear hi)))
        go_ret
        exact ⟨_, er_, ra_ HO_5.out, is55_ HI0.out, bl1_ (IsS55.ge HI0.out), kb0_⟩
    ·rw [if_neg c53] at H
     have c53b0 : (t212 == 3) = false := beq_eq_false_iff_ne.mpr c53
     have c53b1 : (t212 != 3) = true := bne_iff_ne.mpr c53
     by_cases c70 : t212 = 4
     ·rw [if_pos c70] at H
      have c70b0 : (t212 == 4) = true := beq_iff_eq.mpr c70
      have c70b1 : (t212 != 4) = false := bne_eq_false_iff_eq.mpr c70
      clear c70
      by_cases c71 : 0 < (t206.length : Int)
      ·rw [if_pos c71] at H
       have c71b0 : decide (0 < (t206.length : Int)) = true := decide_eq_true c71
       have c71b1 : decide (0 < t206.length) = true := decide_eq_true (by omega)
       clear c71
       obtain ⟨ji72, hji72⟩ : ∃ j_ : Int, (wrap64 ((t206.length : Int) - 1)) = j_ := ⟨_, rfl⟩
       replace H : (if 0 ≤ (ji72) then (if (ji72) < (t206.length : Int) then (if t206.length < 8796093022208 then (some ((t206 ++ [(⟨wrap64 (((rd_T60 t206 0).f0) + 3), wrap64 (((rd_T60 t206 (ji72)).f1) + 2)⟩ : S60)]), t213, t214)) else (none)) else (none)) else (none)) = some (r1, r2, r3) := by first | (rw [hji72] at H; exact H) | (simp only [hji72] at H ⊢; exact H)
       (try rw [hji72] at A2)
       (try rw [hji72] at A3)
       (try rw [hji72] at A4)
       (try rw [hji72] at A5)
       (try rw [hji72] at A6)
       (try rw [hji72] at A7)
       have hji72w : (IntKind.i64.wrap ((t206.length : Int) - 1)) = ji72 := (i64_w _).trans hji72
       by_cases c73 : 0 ≤ (ji72)
       ·rw [if_pos c73] at H
        have c73b0 : decide (0 ≤ (ji72)) = true := decide_eq_true c73
        clear c73
        by_cases c74 : (ji72) < (t206.length : Int)
        ·rw [if_pos c74] at H
         have c74b0 : decide ((ji72) < (t206.length : Int)) = true := decide_eq_true c74
         clear c74
         by_cases c75 : t206.length < 8796093022208
         ·rw [if_pos c75] at H
          have LMc75 := Aside0.mk c75
          clear c75
          obtain ⟨y241, hy241⟩ : ∃ y_ : List (S60), y_ = (t206 ++ [(⟨wrap64 (((rd_T60 t206 0).f0) + 3), wrap64 (((rd_T60 t206 (ji72)).f1) + 2)⟩ : S60)]) := ⟨_, rfl⟩
          replace H : (some (y241, t213, t214)) = some (r1, r2, r3) := hh_ hy241 H
          have Ny241 := Aside0.mk hy241
          clear hy241
          simp only [Option.some.injEq, Prod.mk.injEq] at H
          obtain ⟨rfl, rfl, rfl⟩ := H
          go_enter Tryz.func30, Tryz.ntmps30
          try go_wp2_with (first | ((with_reducible refine gate_callee (f := 29) rfl ?_); refine goesL_ (some 8) rfl rfl Tryz.func29 kr_ rfl #[.pointer (some ⟨g, 0, none⟩), .int .i64 8] rfl ta_ ?_; (with_reducible refine (spec_l02DrawPoly.calls k g s0_0 s0_1 s0_2 8 t195 t198 t199 w0 _ ?side1 ?side2 A2.out).mono ?_); (case side1 => exact is55_ HI0.out); (case side2 => exact bl1_ (IsS55.ge HI0.out)); rintro e w76 ⟨v196, rfl, ho0, hi, hb, hk⟩; refine ⟨_, rfl, ?_⟩; have HO197 := a0_ (Kd.R_lower ho0 (keep_size (w := w) (g := g) (row := none) (kb0_))); replace HK := a0_ (KeepBut.trans (kb0_) hk (.inl rfl)); replace HB := a0_ (hb); replace HI0 := a0_ (hi); (try clear hb); (try clear hb2); (try clear hk); (try clear hi); (try clear ho0)) | ((with_reducible refine gate_callee (f := 18) rfl ?_); refine goesL_ (some 10) rfl rfl Tryz.func18 kr_ rfl #[.pointer (some ⟨g, 0, none⟩), .int .i64 9] rfl ta_ ?_; (with_reducible refine (spec_l01Next.calls g s0_0 t198 t199 9 t200 t201 t202 w0 _ ?side1 ?side2 A3.out).mono ?_); (case side1 => exact is55_ HI0.out); (case side2 => exact bl1_ (IsS55.ge HI0.out)); rintro e w77 ⟨rfl, hi, hb, hk⟩; refine ⟨_, rfl, ?_⟩; replace HO197 := a0_ (Kd.R_mono (Kd.R_keep (IsS55.apart (show IsS55 w0 _ g s0_0 t198 t199 from is55_ HI0.out) (ra_ HO197.out) (by decide)) hk (fun _ h => h.2)) (fun _ h => h.1)); replace HK := a0_ (KeepBut.trans (kb0_) hk (.inl rfl)); replace HB := a0_ (hb); replace HI0 := a0_ (hi); (try clear hb); (try clear hb2); (try clear hk); (try clear hi)) | ((with_reducible refine gate_callee (f := 18) rfl ?_); refine goesL_ (some 13) rfl rfl Tryz.func18 kr_ rfl #[.pointer (some ⟨g, 0, none⟩), .int .i64 9] rfl ta_ ?_; (with_reducible refine (spec_l01Next.calls g s0_0 t201 t202 9 t203 t204 t205 w0 _ ?side1 ?side2 A4.out).mono ?_); (case side1 => exact is55_ HI0.out); (case side2 => exact bl1_ (IsS55.ge HI0.out)); rintro e w78 ⟨rfl, hi, hb, hk⟩; refine ⟨_, rfl, ?_⟩; replace HO197 := a0_ (Kd.R_mono (Kd.R_keep (IsS55.apart (show IsS55 w0 _ g s0_0 t201 t202 from is55_ HI0.out) (ra_ HO197.out) (by decide)) hk (fun _ h => h.2)) (fun _ h => h.1)); replace HK := a0_ (KeepBut.trans (kb0_) hk (.inl rfl)); replace HB := a0_ (hb); replace HI0 := a0_ (hi); (try clear hb); (try clear hb2); (try clear hk); (try clear hi); obtain ⟨Ao79, co79, eo79⟩ := Kd.R_slice HO197.out; subst eo79) | ((with_reducible refine gate_callee (f := 52) rfl ?_); refine goesL_ (some 15) rfl rfl Tryz.func52 kr_ rfl #[.slice Ao79 t195.length co79, .int .i64 (wrap64 (t200 - 4)), .int .i64 (wrap64 (t203 - 4))] rfl ta_ ?_; (with_reducible refine (spec_l02Move.calls k _ _ t195 (wrap64 (t200 - 4)) (wrap64 (t203 - 4)) t206 _ ?side1 ?side2 A5.out).mono ?_); (case side1 => exact ca_ (Kd.R_reads' HO197.out).2.2); (case side2 => exact (Kd.R_reads' HO197.out).2.1); rintro e w80 ⟨v207, rfl, ho0, hb⟩; refine ⟨_, rfl, ?_⟩; have HO208 := a0_ (Kd.R_lower (Kd.R_new' ho0 (Kd.R_lt (ra_ HO197.out))) (keep_size (w := w) (g := g) (row := none) (kb0_))); replace HO197 := a0_ (Kd.R_elder' (ra_ HO197.out) (Kd.R_base ho0) hb); replace HK := a0_ (KeepBut.trans (kb0_) (KeepBut.of_below hb g none) (.inl rfl)); replace HB := a0_ (below_step (bl1_ (IsS55.ge HI0.out)) hb); replace HI0 := a0_ (IsS55.below (is55_ HI0.out) hb); (try clear hb); (try clear hb2); (try clear hk); (try clear hi); (try clear ho0); obtain ⟨Ao81, co81, eo81⟩ := Kd.R_slice HO208.out; subst eo81) | ((with_reducible refine gate_callee (f := 18) rfl ?_); refine goesL_ (some 19) rfl rfl Tryz.func18 kr_ rfl #[.pointer (some ⟨g, 0, none⟩), .int .i64 (t206.length : Int)] rfl ta_ ?_; (with_reducible refine (spec_l01Next.calls g s0_0 t204 t205 (t206.length : Int) t209 t210 t211 w0 _ ?side1 ?side2 A6.out).mono ?_); (case side1 => exact is55_ HI0.out); (case side2 => exact bl1_ (IsS55.ge HI0.out)); rintro e w82 ⟨rfl, hi, hb, hk⟩; refine ⟨_, rfl, ?_⟩; replace HO197 := a0_ (Kd.R_mono (Kd.R_keep (IsS55.apart (show IsS55 w0 _ g s0_0 t204 t205 from is55_ HI0.out) (ra_ HO197.out) (by decide)) hk (fun _ h => h.2)) (fun _ h => h.1)); replace HO208 := a0_ (Kd.R_mono (Kd.R_keep (IsS55.apart (show IsS55 w0 _ g s0_0 t204 t205 from is55_ HI0.out) (ra_ HO208.out) (by decide)) hk (fun _ h => h.2)) (fun _ h => h.1)); replace HK := a0_ (KeepBut.trans (kb0_) hk (.inl rfl)); replace HB := a0_ (hb); replace HI0 := a0_ (hi); (try clear hb); (try clear hb2); (try clear hk); (try clear hi)) | ((with_reducible refine gate_callee (f := 18) rfl ?_); refine goesL_ (some 21) rfl rfl Tryz.func18 kr_ rfl #[.pointer (some ⟨g, 0, none⟩), .int .i64 24] rfl ta_ ?_; (with_reducible refine (spec_l01Next.calls g s0_0 t210 t211 24 t212 t213 t214 w0 _ ?side1 ?side2 A7.out).mono ?_); (case side1 => exact is55_ HI0.out); (case side2 => exact bl1_ (IsS55.ge HI0.out)); rintro e w83 ⟨rfl, hi, hb, hk⟩; refine ⟨_, rfl, ?_⟩; replace HO197 := a0_ (Kd.R_mono (Kd.R_keep (IsS55.apart (show IsS55 w0 _ g s0_0 t210 t211 from is55_ HI0.out) (ra_ HO197.out) (by decide)) hk (fun _ h => h.2)) (fun _ h => h.1)); replace HO208 := a0_ (Kd.R_mono (Kd.R_keep (IsS55.apart (show IsS55 w0 _ g s0_0 t210 t211 from is55_ HI0.out) (ra_ HO208.out) (by decide)) hk (fun _ h => h.2)) (fun _ h => h.1)); replace HK := a0_ (KeepBut.trans (kb0_) hk (.inl rfl)); replace HB := a0_ (hb); replace HI0 := a0_ (hi); (try clear hb); (try clear hb2); (try clear hk); (try clear hi)))
          replace HO197 := a0_ (Kd.R_drew HO197.out)
          replace HO208 := a0_ (Kd.R_drew HO208.out)
          replace HI0 := a0_ (IsS55.drew HI0.out)
          replace HK := a0_ (keep_drew HK.out)
          replace HB := a0_ (below_drew1 HB.out)
          have p239 : 0 ≤ (0 : Int) := (by omega)
          have q239 : 0 < (t206.length : Int) := od_
          obtain ⟨ad239, e239, hx239_0, hx239_1⟩ := at_T60 (Kd.R_reads' HO208.out).2.2 0 p239 q239
          cases e239
          have qi239 : (0 < t206.length) = True := eq_true (by omega)
          (try rw [show ((0 : Int)).toNat = 0 from rfl] at hx239_0)
          (try rw [show 0 * 2 = 0 from rfl] at hx239_0)
          (try rw [Addr.add_zero'] at hx239_0)
          (try rw [show ((0 : Int)).toNat = 0 from rfl] at hx239_1)
          (try rw [show 0 * 2 = 0 from rfl] at hx239_1)
          (try rw [Addr.add_zero'] at hx239_1)
          replace p239 := eq_true p239
          replace q239 := eq_true q239
          have p240 : 0 ≤ ((ji72) : Int) := od_
          have q240 : (ji72) < (t206.length : Int) := od_
          obtain ⟨ad240, e240, hx240_0, hx240_1⟩ := at_T60 (Kd.R_reads' HO208.out).2.2 (ji72) p240 q240
          obtain rfl : ad239 = ad240 := (by injection e240)
          replace p240 := eq_true p240
          replace q240 := eq_true q240
          refine start_ (n := 18) (S := fun w' => w'.cell? ad239 = some (.int .i64 ((rd_T60 t206 0).f0)) ∧ w'.cell? ⟨ad239.block, ad239.off + 1, none⟩ = some (.int .i64 ((rd_T60 t206 0).f1)) ∧ w'.cell? (ad239.add (((ji72)).toNat * 2)) = some (.int .i64 ((rd_T60 t206 (ji72)).f0)) ∧ w'.cell? ⟨(ad239.add (((ji72)).toNat * 2)).block, (ad239.add (((ji72)).toNat * 2)).off + 1, none⟩ = some (.int .i64 ((rd_T60 t206 (ji72)).f1))) (ds := [15, 16]) (mk_ 0 18) kr_ rfl rfl ⟨hx239_0, hx239_1, hx240_0, hx240_1⟩ (fun hHeld => ?_); refine with_tabW spec_l02Draw.tab20 spec_l02Draw.bits20 (fun HT_ HW_ => ?_)
          generalize w83.drew = w84 at HO197 HO208 HI0 HK HB hx239_0 hx239_1 hx240_0 hx240_1 hHeld ⊢
          refine pu_ 0 (some 65) (mk_ 1 17) HT_ ?_
          refine pu_ 1 (some 66) (mk_ 2 16) HT_ ?_
          refine pu_ 2 (some 67) (mk_ 3 15) HT_ ?_
          refine pu_ 3 (some 68) (mk_ 4 14) HT_ ?_
          refine pu_ 6 (some 71) #[true, true, true, true, false, false, true, false, false, false, false, false, false, false, false, false, false, false] HT_ ?_
          refine pu_ 7 (some 72) #[true, true, true, true, false, false, true, true, false, false, false, false, false, false, false, false, false, false] HT_ ?_
          refine pu_ 8 (some 73) #[true, true, true, true, false, false, true, true, true, false, false, false, false, false, false, false, false, false] HT_ ?_
          refine pu_ 9 (some 74) #[true, true, true, true, false, false, true, true, true, true, false, false, false, false, false, false, false, false] HT_ ?_
          refine pu_ 10 (some 75) #[true, true, true, true, false, false, true, true, true, true, true, false, false, false, false, false, false, false] HT_ ?_
          refine pu_ 11 (some 76) #[true, true, true, true, false, false, true, true, true, true, true, true, false, false, false, false, false, false] HT_ ?_
          refine tk_ 4 (some 69) #[true, true, true, true, true, false, true, true, true, true, true, true, false, false, false, false, false, false] HT_ HW_ hHeld (hy := .inl ⟨by rfl, by rintro w' ⟨s0, s1, s2, s3⟩; go_simp; with_reducible rfl⟩) ?_
          refine pu_ 5 (some 70) (mk_ 12 6) HT_ ?_
          refine tk_ 12 (some 77) (mk_ 13 5) HT_ HW_ hHeld (hy := .inl ⟨by rfl, by rintro w' ⟨s0, s1, s2, s3⟩; go_simp; with_reducible rfl⟩) ?_
          refine pu_ 13 (some 78) (mk_ 14 4) HT_ ?_
          refine pu_ 14 (some 79) (mk_ 15 3) HT_ ?_
          refine last_ (i := 15) (N := some 80) (mk_ 16 2) rfl rfl (one_of HT_.out kr_) (by decide) (fun K hK => ?_)
          refine value_ (w1 := ?_) (v := ?_) (by rfl) rfl ?_ ?_
          rotate_left 2
          ·go_simp
           constructor
           ·rfl
           ·rfl
          refine hK.out _ _ ?_
          clear hK K
          refine nm_ ?_
          refine last_ (i := 16) (N := some 81) (mk_ 17 1) rfl rfl (one_of HT_.out kr_) (by decide) (fun K hK => ?_)
          refine Kd.R_append_step k60 w.heap.size (by rfl) (.tmp 65) (.tmp 80) 24 60 (.agg #[(.int .i64 0), (.int .i64 0)]) 16 rfl Tryz.underlying24 info60 rfl (by decide) (by omega) (.slice (some ad239) t206.length co81) t206 (⟨wrap64 (((rd_T60 t206 0).f0) + 3), wrap64 (((rd_T60 t206 (ji72)).f1) + 2)⟩ : S60) [.int .i64 (wrap64 (((rd_T60 t206 0).f0) + 3)), .int .i64 (wrap64 (((rd_T60 t206 (ji72)).f1) + 2))] (fun k_ => some k_ ≠ (.slice Ao79 t195.length co79 : Value).ownBlock) (fun _ => False) rfl rfl ?aP (fun _ hk => hk.elim) ?aF ?aO (Below.refl _ _) ?aS ?aL ?_
          (case aP => exact k60_mkM _ _ _ (⟨wrap64 (((rd_T60 t206 0).f0) + 3), wrap64 (((rd_T60 t206 (ji72)).f1) + 2)⟩ : S60))
          (case aF => exact (fun k_ hk => Kd.fresh' (Kd.R_lt (ra_ HO197.out)) k_ hk))
          (case aO => exact (by (with_reducible repeat (first | apply Kd.R_alloc | apply Kd.R_drewN | apply Kd.R_drew)); exact Kd.R_mono HO208.out (fun _ hk => hk.2)))
          (case aS => exact (keep_size (w := w) (g := g) (row := none) (kb0_)))
          (case aL => have := LMc75.out; omega)
          intro v242 w85 ho hb hg hat
          rw [← Ny241.out] at ho
          replace HO197 := a0_ (Kd.R_after (ok := (fun _ => True)) (ra_ HO197.out) hg hat)
          replace HB := a0_ (below_weaken (bl1_ (IsS55.ge HI0.out)) HL.out hb)
          replace HI0 := a0_ (IsS55.grown (is55_ HI0.out) hg (IsS55.own_ne HI0.out HO208.out (by decide)))
          replace HK := a0_ (KeepBut.trans (kb0_) (KeepBut.of_grown hg g) (Kd.R_base2 HO208.out))
          have HO243 := a0_ (ho)
          clear HO208
          clear ho hb hg hat
          refine hK.out _ _ ?_
          clear hK K
          refine nm_ ?_
          refine pu_ 17 (some 2) (mk_ 18 0) HT_ ?_
          refine done_ (done_of HT_.out kr_) ?_
          try go_wp2
          go_ret
          exact ⟨_, by first | rfl | (simp [errW_none, errW_some] <;> rfl) | (simp only [← hji72]; first | rfl | (simp [errW_none, errW_some] <;> rfl)) | (simp [*, errW_none, errW_some] <;> rfl), by (with_reducible repeat (first | apply Kd.R_alloc | apply Kd.R_drewN | apply Kd.R_drew)); exact Kd.R_mono HO243.out (fun _ hk => trivial), is55_ HI0.out, bl1_ (IsS55.ge HI0.out), kb0_⟩
         ·rw [if_neg c75] at H
          exact absurd H (by simp)
        ·rw [if_neg c74] at H
         exact absurd H (by simp)
       ·rw [if_neg c73] at H
        exact absurd H (by simp)
      ·rw [if_neg c71] at H
       exact absurd H (by simp)
     ·rw [if_neg c70] at H
      have c70b0 : (t212 == 4) = false := beq_eq_false_iff_ne.mpr c70
      have c70b1 : (t212 != 4) = true := bne_iff_ne.mpr c70
      by_cases c86 : t212 = 5
      ·rw [if_pos c86] at H
       have c86b0 : (t212 == 5) = true := beq_iff_eq.mpr c86
       have c86b1 : (t212 != 5) = false := bne_eq_false_iff_eq.mpr c86
       clear c86
       by_cases c87 : 0 < (t206.length : Int)
       ·rw [if_pos c87] at H
        have c87b0 : decide (0 < (t206.length : Int)) = true := decide_eq_true c87
        have c87b1 : decide (0 < t206.length) = true := decide_eq_true (by omega)
        clear c87
        obtain ⟨ji88, hji88⟩ : ∃ j_ : Int, (wrap64 ((t206.length : Int) - 1)) = j_ := ⟨_, rfl⟩
        replace H : (if 0 ≤ (ji88) then (if (ji88) < (t206.length : Int) then (if t206.length < 8796093022208 then (some ((t206 ++ [(⟨wrap64 (((rd_T60 t206 0).f0) + 3), wrap64 (((rd_T60 t206 (ji88)).f1) + 2)⟩ : S60)]), t213, t214)) else (none)) else (none)) else (none)) = some (r1, r2, r3) := by first | (rw [hji88] at H; exact H) | (simp only [hji88] at H ⊢; exact H)
        (try rw [hji88] at A2)
        (try rw [hji88] at A3)
        (try rw [hji88] at A4)
        (try rw [hji88] at A5)
        (try rw [hji88] at A6)
        (try rw [hji88] at A7)
        have hji88w : (IntKind.i64.wrap ((t206.length : Int) - 1)) = ji88 := (i64_w _).trans hji88
        by_cases c89 : 0 ≤ (ji88)
        ·rw [if_pos c89] at H
         have c89b0 : decide (0 ≤ (ji88)) = true := decide_eq_true c89
         clear c89
         by_cases c90 : (ji88) < (t206.length : Int)
         ·rw [if_pos c90] at H
          have c90b0 : decide ((ji88) < (t206.length : Int)) = true := decide_eq_true c90
          clear c90
          by_cases c91 : t206.length < 8796093022208
          ·rw [if_pos c91] at H
           have LMc91 := Aside0.mk c91
           clear c91
           obtain ⟨y246, hy246⟩ : ∃ y_ : List (S60), y_ = (t206 ++ [(⟨wrap64 (((rd_T60 t206 0).f0) + 3), wrap64 (((rd_T60 t206 (ji88)).f1) + 2)⟩ : S60)]) := ⟨_, rfl⟩
           replace H : (some (y246, t213, t214)) = some (r1, r2, r3) := hh_ hy246 H
           have Ny246 := Aside0.mk hy246
           clear hy246
           simp only [Option.some.injEq, Prod.mk.injEq] at H
           obtain ⟨rfl, rfl, rfl⟩ := H
           go_enter Tryz.func30, Tryz.ntmps30
           try go_wp2_with (first | ((with_reducible refine gate_callee (f := 29) rfl ?_); refine goesL_ (some 8) rfl rfl Tryz.func29 kr_ rfl #[.pointer (some ⟨g, 0, none⟩), .int .i64 8] rfl ta_ ?_; (with_reducible refine (spec_l02DrawPoly.calls k g s0_0 s0_1 s0_2 8 t195 t198 t199 w0 _ ?side1 ?side2 A2.out).mono ?_); (case side1 => exact is55_ HI0.out); (case side2 => exact bl1_ (IsS55.ge HI0.out)); rintro e w92 ⟨v196, rfl, ho0, hi, hb, hk⟩; refine ⟨_, rfl, ?_⟩; have HO197 := a0_ (Kd.R_lower ho0 (keep_size (w := w) (g := g) (row := none) (kb0_))); replace HK := a0_ (KeepBut.trans (kb0_) hk (.inl rfl)); replace HB := a0_ (hb); replace HI0 := a0_ (hi); (try clear hb); (try clear hb2); (try clear hk); (try clear hi); (try clear ho0)) | ((with_reducible refine gate_callee (f := 18) rfl ?_); refine goesL_ (some 10) rfl rfl Tryz.func18 kr_ rfl #[.pointer (some ⟨g, 0, none⟩), .int .i64 9] rfl ta_ ?_; (with_reducible refine (spec_l01Next.calls g s0_0 t198 t199 9 t200 t201 t202 w0 _ ?side1 ?side2 A3.out).mono ?_); (case side1 => exact is55_ HI0.out); (case side2 => exact bl1_ (IsS55.ge HI0.out)); rintro e w93 ⟨rfl, hi, hb, hk⟩; refine ⟨_, rfl, ?_⟩; replace HO197 := a0_ (Kd.R_mono (Kd.R_keep (IsS55.apart (show IsS55 w0 _ g s0_0 t198 t199 from is55_ HI0.out) (ra_ HO197.out) (by decide)) hk (fun _ h => h.2)) (fun _ h => h.1)); replace HK := a0_ (KeepBut.trans (kb0_) hk (.inl rfl)); replace HB := a0_ (hb); replace HI0 := a0_ (hi); (try clear hb); (try clear hb2); (try clear hk); (try clear hi)) | ((with_reducible refine gate_callee (f := 18) rfl ?_); refine goesL_ (some 13) rfl rfl Tryz.func18 kr_ rfl #[.pointer (some ⟨g, 0, none⟩), .int .i64 9] rfl ta_ ?_; (with_reducible refine (spec_l01Next.calls g s0_0 t201 t202 9 t203 t204 t205 w0 _ ?side1 ?side2 A4.out).mono ?_); (case side1 => exact is55_ HI0.out); (case side2 => exact bl1_ (IsS55.ge HI0.out)); rintro e w94 ⟨rfl, hi, hb, hk⟩; refine ⟨_, rfl, ?_⟩; replace HO197 := a0_ (Kd.R_mono (Kd.R_keep (IsS55.apart (show IsS55 w0 _ g s0_0 t201 t202 from is55_ HI0.out) (ra_ HO197.out) (by decide)) hk (fun _ h => h.2)) (fun _ h => h.1)); replace HK := a0_ (KeepBut.trans (kb0_) hk (.inl rfl)); replace HB := a0_ (hb); replace HI0 := a0_ (hi); (try clear hb); (try clear hb2); (try clear hk); (try clear hi); obtain ⟨Ao95, co95, eo95⟩ := Kd.R_slice HO197.out; subst eo95) | ((with_reducible refine gate_callee (f := 52) rfl ?_); refine goesL_ (some 15) rfl rfl Tryz.func52 kr_ rfl #[.slice Ao95 t195.length co95, .int .i64 (wrap64 (t200 - 4)), .int .i64 (wrap64 (t203 - 4))] rfl ta_ ?_; (with_reducible refine (spec_l02Move.calls k _ _ t195 (wrap64 (t200 - 4)) (wrap64 (t203 - 4)) t206 _ ?side1 ?side2 A5.out).mono ?_); (case side1 => exact ca_ (Kd.R_reads' HO197.out).2.2); (case side2 => exact (Kd.R_reads' HO197.out).2.1); rintro e w96 ⟨v207, rfl, ho0, hb⟩; refine ⟨_, rfl, ?_⟩; have HO208 := a0_ (Kd.R_lower (Kd.R_new' ho0 (Kd.R_lt (ra_ HO197.out))) (keep_size (w := w) (g := g) (row := none) (kb0_))); replace HO197 := a0_ (Kd.R_elder' (ra_ HO197.out) (Kd.R_base ho0) hb); replace HK := a0_ (KeepBut.trans (kb0_) (KeepBut.of_below hb g none) (.inl rfl)); replace HB := a0_ (below_step (bl1_ (IsS55.ge HI0.out)) hb); replace HI0 := a0_ (IsS55.below (is55_ HI0.out) hb); (try clear hb); (try clear hb2); (try clear hk); (try clear hi); (try clear ho0); obtain ⟨Ao97, co97, eo97⟩ := Kd.R_slice HO208.out; subst eo97) | ((with_reducible refine gate_callee (f := 18) rfl ?_); refine goesL_ (some 19) rfl rfl Tryz.func18 kr_ rfl #[.pointer (some ⟨g, 0, none⟩), .int .i64 (t206.length : Int)] rfl ta_ ?_; (with_reducible refine (spec_l01Next.calls g s0_0 t204 t205 (t206.length : Int) t209 t210 t211 w0 _ ?side1 ?side2 A6.out).mono ?_); (case side1 => exact is55_ HI0.out); (case side2 => exact bl1_ (IsS55.ge HI0.out)); rintro e w98 ⟨rfl, hi, hb, hk⟩; refine ⟨_, rfl, ?_⟩; replace HO197 := a0_ (Kd.R_mono (Kd.R_keep (IsS55.apart (show IsS55 w0 _ g s0_0 t204 t205 from is55_ HI0.out) (ra_ HO197.out) (by decide)) hk (fun _ h => h.2)) (fun _ h => h.1)); replace HO208 := a0_ (Kd.R_mono (Kd.R_keep (IsS55.apart (show IsS55 w0 _ g s0_0 t204 t205 from is55_ HI0.out) (ra_ HO208.out) (by decide)) hk (fun _ h => h.2)) (fun _ h => h.1)); replace HK := a0_ (KeepBut.trans (kb0_) hk (.inl rfl)); replace HB := a0_ (hb); replace HI0 := a0_ (hi); (try clear hb); (try clear hb2); (try clear hk); (try clear hi)) | ((with_reducible refine gate_callee (f := 18) rfl ?_); refine goesL_ (some 21) rfl rfl Tryz.func18 kr_ rfl #[.pointer (some ⟨g, 0, none⟩), .int .i64 24] rfl ta_ ?_; (with_reducible refine (spec_l01Next.calls g s0_0 t210 t211 24 t212 t213 t214 w0 _ ?side1 ?side2 A7.out).mono ?_); (case side1 => exact is55_ HI0.out); (case side2 => exact bl1_ (IsS55.ge HI0.out)); rintro e w99 ⟨rfl, hi, hb, hk⟩; refine ⟨_, rfl, ?_⟩; replace HO197 := a0_ (Kd.R_mono (Kd.R_keep (IsS55.apart (show IsS55 w0 _ g s0_0 t210 t211 from is55_ HI0.out) (ra_ HO197.out) (by decide)) hk (fun _ h => h.2)) (fun _ h => h.1)); replace HO208 := a0_ (Kd.R_mono (Kd.R_keep (IsS55.apart (show IsS55 w0 _ g s0_0 t210 t211 from is55_ HI0.out) (ra_ HO208.out) (by decide)) hk (fun _ h => h.2)) (fun _ h => h.1)); replace HK := a0_ (KeepBut.trans (kb0_) hk (.inl rfl)); replace HB := a0_ (hb); replace HI0 := a0_ (hi); (try clear hb); (try clear hb2); (try clear hk); (try clear hi)))
           replace HO197 := a0_ (Kd.R_drew HO197.out)
           replace HO208 := a0_ (Kd.R_drew HO208.out)
           replace HI0 := a0_ (IsS55.drew HI0.out)
           replace HK := a0_ (keep_drew HK.out)
           replace HB := a0_ (below_drew1 HB.out)
           have p244 : 0 ≤ (0 : Int) := (by omega)
           have q244 : 0 < (t206.length : Int) := od_
           obtain ⟨ad244, e244, hx244_0, hx244_1⟩ := at_T60 (Kd.R_reads' HO208.out).2.2 0 p244 q244
           cases e244
           have qi244 : (0 < t206.length) = True := eq_true (by omega)
           (try rw [show ((0 : Int)).toNat = 0 from rfl] at hx244_0)
           (try rw [show 0 * 2 = 0 from rfl] at hx244_0)
           (try rw [Addr.add_zero'] at hx244_0)
           (try rw [show ((0 : Int)).toNat = 0 from rfl] at hx244_1)
           (try rw [show 0 * 2 = 0 from rfl] at hx244_1)
           (try rw [Addr.add_zero'] at hx244_1)
           replace p244 := eq_true p244
           replace q244 := eq_true q244
           have p245 : 0 ≤ ((ji88) : Int) := od_
           have q245 : (ji88) < (t206.length : Int) := od_
           obtain ⟨ad245, e245, hx245_0, hx245_1⟩ := at_T60 (Kd.R_reads' HO208.out).2.2 (ji88) p245 q245
           obtain rfl : ad244 = ad245 := (by injection e245)
           replace p245 := eq_true p245
           replace q245 := eq_true q245
           refine start_ (n := 18) (S := fun w' => w'.cell? ad244 = some (.int .i64 ((rd_T60 t206 0).f0)) ∧ w'.cell? ⟨ad244.block, ad244.off + 1, none⟩ = some (.int .i64 ((rd_T60 t206 0).f1)) ∧ w'.cell? (ad244.add (((ji88)).toNat * 2)) = some (.int .i64 ((rd_T60 t206 (ji88)).f0)) ∧ w'.cell? ⟨(ad244.add (((ji88)).toNat * 2)).block, (ad244.add (((ji88)).toNat * 2)).off + 1, none⟩ = some (.int .i64 ((rd_T60 t206 (ji88)).f1))) (ds := [15, 16]) (mk_ 0 18) kr_ rfl rfl ⟨hx244_0, hx244_1, hx245_0, hx245_1⟩ (fun hHeld => ?_); refine with_tabW spec_l02Draw.tab20 spec_l02Draw.bits20 (fun HT_ HW_ => ?_)
           generalize w99.drew = w100 at HO197 HO208 HI0 HK HB hx244_0 hx244_1 hx245_0 hx245_1 hHeld ⊢
           refine pu_ 0 (some 65) (mk_ 1 17) HT_ ?_
           refine pu_ 1 (some 66) (mk_ 2 16) HT_ ?_
           refine pu_ 2 (some 67) (mk_ 3 15) HT_ ?_
           refine pu_ 3 (some 68) (mk_ 4 14) HT_ ?_
           refine pu_ 6 (some 71) #[true, true, true, true, false, false, true, false, false, false, false, false, false, false, false, false, false, false] HT_ ?_
           refine pu_ 7 (some 72) #[true, true, true, true, false, false, true, true, false, false, false, false, false, false, false, false, false, false] HT_ ?_
           refine pu_ 8 (some 73) #[true, true, true, true, false, false, true, true, true, false, false, false, false, false, false, false, false, false] HT_ ?_
           refine pu_ 9 (some 74) #[true, true, true, true, false, false, true, true, true, true, false, false, false, false, false, false, false, false] HT_ ?_
           refine pu_ 10 (some 75) #[true, true, true, true, false, false, true, true, true, true, true, false, false, false, false, false, false, false] HT_ ?_
           refine pu_ 11 (some 76) #[true, true, true, true, false, false, true, true, true, true, true, true, false, false, false, false, false, false] HT_ ?_
           refine tk_ 4 (some 69) #[true, true, true, true, true, false, true, true, true, true, true, true, false, false, false, false, false, false] HT_ HW_ hHeld (hy := .inl ⟨by rfl, by rintro w' ⟨s0, s1, s2, s3⟩; go_simp; with_reducible rfl⟩) ?_
           refine pu_ 5 (some 70) (mk_ 12 6) HT_ ?_
           refine tk_ 12 (some 77) (mk_ 13 5) HT_ HW_ hHeld (hy := .inl ⟨by rfl, by rintro w' ⟨s0, s1, s2, s3⟩; go_simp; with_reducible rfl⟩) ?_
           refine pu_ 13 (some 78) (mk_ 14 4) HT_ ?_
           refine pu_ 14 (some 79) (mk_ 15 3) HT_ ?_
           refine last_ (i := 15) (N := some 80) (mk_ 16 2) rfl rfl (one_of HT_.out kr_) (by decide) (fun K hK => ?_)
           refine value_ (w1 := ?_) (v := ?_) (by rfl) rfl ?_ ?_
           rotate_left 2
           ·go_simp
            constructor
            ·rfl
            ·rfl
           refine hK.out _ _ ?_
           clear hK K
           refine nm_ ?_
           refine last_ (i := 16) (N := some 81) (mk_ 17 1) rfl rfl (one_of HT_.out kr_) (by decide) (fun K hK => ?_)
           refine Kd.R_append_step k60 w.heap.size (by rfl) (.tmp 65) (.tmp 80) 24 60 (.agg #[(.int .i64 0), (.int .i64 0)]) 16 rfl Tryz.underlying24 info60 rfl (by decide) (by omega) (.slice (some ad244) t206.length co97) t206 (⟨wrap64 (((rd_T60 t206 0).f0) + 3), wrap64 (((rd_T60 t206 (ji88)).f1) + 2)⟩ : S60) [.int .i64 (wrap64 (((rd_T60 t206 0).f0) + 3)), .int .i64 (wrap64 (((rd_T60 t206 (ji88)).f1) + 2))] (fun k_ => some k_ ≠ (.slice Ao95 t195.length co95 : Value).ownBlock) (fun _ => False) rfl rfl ?aP (fun _ hk => hk.elim) ?aF ?aO (Below.refl _ _) ?aS ?aL ?_
           (case aP => exact k60_mkM _ _ _ (⟨wrap64 (((rd_T60 t206 0).f0) + 3), wrap64 (((rd_T60 t206 (ji88)).f1) + 2)⟩ : S60))
           (case aF => exact (fun k_ hk => Kd.fresh' (Kd.R_lt (ra_ HO197.out)) k_ hk))
           (case aO => exact (by (with_reducible repeat (first | apply Kd.R_alloc | apply Kd.R_drewN | apply Kd.R_drew)); exact Kd.R_mono HO208.out (fun _ hk => hk.2)))
           (case aS => exact (keep_size (w := w) (g := g) (row := none) (kb0_)))
           (case aL => have := LMc91.out; omega)
           intro v247 w101 ho hb hg hat
           rw [← Ny246.out] at ho
           replace HO197 := a0_ (Kd.R_after (ok := (fun _ => True)) (ra_ HO197.out) hg hat)
           replace HB := a0_ (below_weaken (bl1_ (IsS55.ge HI0.out)) HL.out hb)
           replace HI0 := a0_ (IsS55.grown (is55_ HI0.out) hg (IsS55.own_ne HI0.out HO208.out (by decide)))
           replace HK := a0_ (KeepBut.trans (kb0_) (KeepBut.of_grown hg g) (Kd.R_base2 HO208.out))
           have HO248 := a0_ (ho)
           clear HO208
           clear ho hb hg hat
           refine hK.out _ _ ?_
           clear hK K
           refine nm_ ?_
           refine pu_ 17 (some 2) (mk_ 18 0) HT_ ?_
           refine done_ (done_of HT_.out kr_) ?_
           try go_wp2
           go_ret
           exact ⟨_, by first | rfl | (simp [errW_none, errW_some] <;> rfl) | (simp only [← hji88]; first | rfl | (simp [errW_none, errW_some] <;> rfl)) | (simp [*, errW_none, errW_some] <;> rfl), by (with_reducible repeat (first | apply Kd.R_alloc | apply Kd.R_drewN | apply Kd.R_drew)); exact Kd.R_mono HO248.out (fun _ hk => trivial), is55_ HI0.out, bl1_ (IsS55.ge HI0.out), kb0_⟩
          ·rw [if_neg c91] at H
           exact absurd H (by simp)
         ·rw [if_neg c90] at H
          exact absurd H (by simp)
        ·rw [if_neg c89] at H
         exact absurd H (by simp)
       ·rw [if_neg c87] at H
        exact absurd H (by simp)
      ·rw [if_neg c86] at H
       have c86b0 : (t212 == 5) = false := beq_eq_false_iff_ne.mpr c86
       have c86b1 : (t212 != 5) = true := bne_iff_ne.mpr c86
       simp only [Option.some.injEq, Prod.mk.injEq] at H
       obtain ⟨rfl, rfl, rfl⟩ := H
       go_enter Tryz.func30, Tryz.ntmps30
       go_wp2_with (first | ((with_reducible refine gate_callee (f := 29) rfl ?_); refine goesL_ (some 8) rfl rfl Tryz.func29 kr_ rfl #[.pointer (some ⟨g, 0, none⟩), .int .i64 8] rfl ta_ ?_; (with_reducible refine (spec_l02DrawPoly.calls k g s0_0 s0_1 s0_2 8 t195 t198 t199 w0 _ ?side1 ?side2 A2.out).mono ?_); (case side1 => exact is55_ HI0.out); (case side2 => exact bl1_ (IsS55.ge HI0.out)); rintro e w102 ⟨v196, rfl, ho0, hi, hb, hk⟩; refine ⟨_, rfl, ?_⟩; have HO197 := a0_ (Kd.R_lower ho0 (keep_size (w := w) (g := g) (row := none) (kb0_))); replace HK := a0_ (KeepBut.trans (kb0_) hk (.inl rfl)); replace HB := a0_ (hb); replace HI0 := a0_ (hi); (try clear hb); (try clear hb2); (try clear hk); (try clear hi); (try clear ho0)) | ((with_reducible refine gate_callee (f := 18) rfl ?_); refine goesL_ (some 10) rfl rfl Tryz.func18 kr_ rfl #[.pointer (some ⟨g, 0, none⟩), .int .i64 9] rfl ta_ ?_; (with_reducible refine (spec_l01Next.calls g s0_0 t198 t199 9 t200 t201 t202 w0 _ ?side1 ?side2 A3.out).mono ?_); (case side1 => exact is55_ HI0.out); (case side2 => exact bl1_ (IsS55.ge HI0.out)); rintro e w103 ⟨rfl, hi, hb, hk⟩; refine ⟨_, rfl, ?_⟩; replace HO197 := a0_ (Kd.R_mono (Kd.R_keep (IsS55.apart (show IsS55 w0 _ g s0_0 t198 t199 from is55_ HI0.out) (ra_ HO197.out) (by decide)) hk (fun _ h => h.2)) (fun _ h => h.1)); replace HK := a0_ (KeepBut.trans (kb0_) hk (.inl rfl)); replace HB := a0_ (hb); replace HI0 := a0_ (hi); (try clear hb); (try clear hb2); (try clear hk); (try clear hi)) | ((with_reducible refine gate_callee (f := 18) rfl ?_); refine goesL_ (some 13) rfl rfl Tryz.func18 kr_ rfl #[.pointer (some ⟨g, 0, none⟩), .int .i64 9] rfl ta_ ?_; (with_reducible refine (spec_l01Next.calls g s0_0 t201 t202 9 t203 t204 t205 w0 _ ?side1 ?side2 A4.out).mono ?_); (case side1 => exact is55_ HI0.out); (case side2 => exact bl1_ (IsS55.ge HI0.out)); rintro e w104 ⟨rfl, hi, hb, hk⟩; refine ⟨_, rfl, ?_⟩; replace HO197 := a0_ (Kd.R_mono (Kd.R_keep (IsS55.apart (show IsS55 w0 _ g s0_0 t201 t202 from is55_ HI0.out) (ra_ HO197.out) (by decide)) hk (fun _ h => h.2)) (fun _ h => h.1)); replace HK := a0_ (KeepBut.trans (kb0_) hk (.inl rfl)); replace HB := a0_ (hb); replace HI0 := a0_ (hi); (try clear hb); (try clear hb2); (try clear hk); (try clear hi); obtain ⟨Ao105, co105, eo105⟩ := Kd.R_slice HO197.out; subst eo105) | ((with_reducible refine gate_callee (f := 52) rfl ?_); refine goesL_ (some 15) rfl rfl Tryz.func52 kr_ rfl #[.slice Ao105 t195.length co105, .int .i64 (wrap64 (t200 - 4)), .int .i64 (wrap64 (t203 - 4))] rfl ta_ ?_; (with_reducible refine (spec_l02Move.calls k _ _ t195 (wrap64 (t200 - 4)) (wrap64 (t203 - 4)) t206 _ ?side1 ?side2 A5.out).mono ?_); (case side1 => exact ca_ (Kd.R_reads' HO197.out).2.2); (case side2 => exact (Kd.R_reads' HO197.out).2.1); rintro e w106 ⟨v207, rfl, ho0, hb⟩; refine ⟨_, rfl, ?_⟩; have HO208 := a0_ (Kd.R_lower (Kd.R_new' ho0 (Kd.R_lt (ra_ HO197.out))) (keep_size (w := w) (g := g) (row := none) (kb0_))); replace HO197 := a0_ (Kd.R_elder' (ra_ HO197.out) (Kd.R_base ho0) hb); replace HK := a0_ (KeepBut.trans (kb0_) (KeepBut.of_below hb g none) (.inl rfl)); replace HB := a0_ (below_step (bl1_ (IsS55.ge HI0.out)) hb); replace HI0 := a0_ (IsS55.below (is55_ HI0.out) hb); (try clear hb); (try clear hb2); (try clear hk); (try clear hi); (try clear ho0); obtain ⟨Ao107, co107, eo107⟩ := Kd.R_slice HO208.out; subst eo107) | ((with_reducible refine gate_callee (f := 18) rfl ?_); refine goesL_ (some 19) rfl rfl Tryz.func18 kr_ rfl #[.pointer (some ⟨g, 0, none⟩), .int .i64 (t206.length : Int)] rfl ta_ ?_; (with_reducible refine (spec_l01Next.calls g s0_0 t204 t205 (t206.length : Int) t209 t210 t211 w0 _ ?side1 ?side2 A6.out).mono ?_); (case side1 => exact is55_ HI0.out); (case side2 => exact bl1_ (IsS55.ge HI0.out)); rintro e w108 ⟨rfl, hi, hb, hk⟩; refine ⟨_, rfl, ?_⟩; replace HO197 := a0_ (Kd.R_mono (Kd.R_keep (IsS55.apart (show IsS55 w0 _ g s0_0 t204 t205 from is55_ HI0.out) (ra_ HO197.out) (by decide)) hk (fun _ h => h.2)) (fun _ h => h.1)); replace HO208 := a0_ (Kd.R_mono (Kd.R_keep (IsS55.apart (show IsS55 w0 _ g s0_0 t204 t205 from is55_ HI0.out) (ra_ HO208.out) (by decide)) hk (fun _ h => h.2)) (fun _ h => h.1)); replace HK := a0_ (KeepBut.trans (kb0_) hk (.inl rfl)); replace HB := a0_ (hb); replace HI0 := a0_ (hi); (try clear hb); (try clear hb2); (try clear hk); (try clear hi)) | ((with_reducible refine gate_callee (f := 18) rfl ?_); refine goesL_ (some 21) rfl rfl Tryz.func18 kr_ rfl #[.pointer (some ⟨g, 0, none⟩), .int .i64 24] rfl ta_ ?_; (with_reducible refine (spec_l01Next.calls g s0_0 t210 t211 24 t212 t213 t214 w0 _ ?side1 ?side2 A7.out).mono ?_); (case side1 => exact is55_ HI0.out); (case side2 => exact bl1_ (IsS55.ge HI0.out)); rintro e w109 ⟨rfl, hi, hb, hk⟩; refine ⟨_, rfl, ?_⟩; replace HO197 := a0_ (Kd.R_mono (Kd.R_keep (IsS55.apart (show IsS55 w0 _ g s0_0 t210 t211 from is55_ HI0.out) (ra_ HO197.out) (by decide)) hk (fun _ h => h.2)) (fun _ h => h.1)); replace HO208 := a0_ (Kd.R_mono (Kd.R_keep (IsS55.apart (show IsS55 w0 _ g s0_0 t210 t211 from is55_ HI0.out) (ra_ HO208.out) (by decide)) hk (fun _ h => h.2)) (fun _ h => h.1)); replace HK := a0_ (KeepBut.trans (kb0_) hk (.inl rfl)); replace HB := a0_ (hb); replace HI0 := a0_ (hi); (try clear hb); (try clear hb2); (try clear hk); (try clear hi)))
       go_ret
       exact ⟨_, er_, by (with_reducible repeat (first | apply Kd.R_alloc | apply Kd.R_drewN | apply Kd.R_drew)); exact Kd.R_mono HO208.out (fun _ hk => trivial), is55_ HI0.out, bl1_ (IsS55.ge HI0.out), kb0_⟩

end Go.Proofs.YtaaodakmelihaaaGreat.PFnPieces
