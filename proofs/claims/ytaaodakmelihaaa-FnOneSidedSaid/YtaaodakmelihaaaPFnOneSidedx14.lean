/- Over the kit's printer by a driver of mine (hprint.py), with parts by hand: functions of the program as Lean functions, and that each call comes to exactly these answers. -/
import Derived.Test.YtaaodakmelihaaaPFnOneSidedx0
import Derived.Test.YtaaodakmelihaaaPFnOneSidedx1
import Derived.Test.YtaaodakmelihaaaPFnOneSidedx2
import Derived.Test.YtaaodakmelihaaaPFnOneSidedx6
import Derived.Test.YtaaodakmelihaaaPFnOneSidedx7
import Derived.Test.YtaaodakmelihaaaPFnOneSidedx8
import Derived.Test.YtaaodakmelihaaaPFnOneSidedx9
import Derived.Test.YtaaodakmelihaaaPFnOneSidedx10
namespace Go.Proofs.Ytaaodakmelihaaa.PFnOneSided
open Go.RowKit Go.Proofs.YtaaodakmelihaaaW.PrintWords Go.Proofs.YtaaodakmelihaaaW.PrintLast Go.Proofs.YtaaodakmelihaaaW.PrintMore
attribute [local go_sem] max2_int min2_int max_two min_two max_three min_three max_four min_four   -- for this text's walks alone
set_option linter.unusedVariables false
set_option linter.unusedSimpArgs false

attribute [local go_sem high] eqA49
/-! ### spec_DrawCompareShapes: function 11 -/
def spec_DrawCompareShapes.j0 : Nat → List (S49) → Bool → List Int → Int → Int → Option ((List (S49)) × (List (S49)))
 | 0, _, _, _, _, _ => none
 | k + 1, x5, x24, x421000, x421001, x421002 => if x24 = true then ((some (([] : List (S49)) : List (S49))).bind fun y432 => (if y432.length + x5.length < 8796093022208 then ((some (y432 ++ x5 : List (S49))).bind fun y435 => ((spec_l01Next.f x421000 x421001 x421002 (y435.length : Int)).bind fun bt438 => (if 0 ≤ bt438.1 then (if bt438.1 < (y435.length : Int) then ((spec_l01Next.f x421000 bt438.2.1 bt438.2.2 3).bind fun bt442 => (some (x5, (y435.set (bt438.1 : Int).toNat (⟨wrap64 ((wrap64 (((rd_T49 y435 bt438.1).f0) + bt442.1)) - 1), (rd_T49 y435 bt438.1).f1⟩ : S49))))) else (none)) else (none)))) else (none))) else ((spec_l02Draw.f k x421000 x421001 x421002).bind fun bt447 => (some (x5, bt447.1)))
def spec_DrawCompareShapes.f (k : Nat) (l0 : List Int) : Option ((List (S49)) × (List (S49))) := (spec_l01From.f k l0).bind fun bt417 => ((spec_l02Draw.f k bt417.1 bt417.2.1 bt417.2.2).bind fun bt421 => ((spec_l01Next.f bt417.1 bt421.2.1 bt421.2.2 3).bind fun bt426 => (if bt426.1 = 0 then (some (bt421.1, bt421.1)) else (if (bt421.1.length : Int) > 0 then ((spec_l01Next.f bt417.1 bt426.2.1 bt426.2.2 3).bind fun bt429 => (spec_DrawCompareShapes.j0 k bt421.1 (bt429.1 == 0) bt417.1 bt429.2.1 bt429.2.2)) else (spec_DrawCompareShapes.j0 k bt421.1 false bt417.1 bt426.2.1 bt426.2.2)))))
theorem spec_DrawCompareShapes.mono_l : ∀ k, (∀ y0 y1 y2 y3 y4, LeO (spec_DrawCompareShapes.j0 k y0 y1 y2 y3 y4) (spec_DrawCompareShapes.j0 (k + 1) y0 y1 y2 y3 y4))
 | 0 => fun _ _ _ _ _ r h => by simp [spec_DrawCompareShapes.j0] at h
 | k + 1 => by
  have ih0 := spec_DrawCompareShapes.mono_l k
  ·intro y0 y1 y2 y3 y4
   unfold spec_DrawCompareShapes.j0
   repeat' first
   | (with_reducible exact ih0 _ _ _ _ _)
   | (with_reducible exact spec_l01From.mono _ _)
   | (with_reducible exact spec_l02Draw.mono _ _ _ _)
   | (with_reducible exact LeO.refl _)
   | (with_reducible exact LeO.none _)
   | (with_reducible refine LeO.ite ?_ ?_)
   | (with_reducible refine LeO.bind ?_ (fun _ => ?_))
   | exact ih0 _ _ _ _ _
   | exact spec_l01From.mono _ _
   | exact spec_l02Draw.mono _ _ _ _
   | exact LeO.none _
   | refine LeO.ite ?_ ?_
   | refine LeO.bind ?_ (fun _ => ?_)
theorem spec_DrawCompareShapes.mono : ∀ a0 k, LeO (spec_DrawCompareShapes.f k a0) (spec_DrawCompareShapes.f (k + 1) a0) := by
 intro a0 k
 have ih0 := spec_DrawCompareShapes.mono_l k
 unfold spec_DrawCompareShapes.f
 repeat' first
   | (with_reducible exact ih0 _ _ _ _ _)
   | (with_reducible exact spec_l01From.mono _ _)
   | (with_reducible exact spec_l02Draw.mono _ _ _ _)
   | (with_reducible exact LeO.refl _)
   | (with_reducible exact LeO.none _)
   | (with_reducible refine LeO.ite ?_ ?_)
   | (with_reducible refine LeO.bind ?_ (fun _ => ?_))
   | exact ih0 _ _ _ _ _
   | exact spec_l01From.mono _ _
   | exact spec_l02Draw.mono _ _ _ _
   | exact LeO.none _
   | refine LeO.ite ?_ ?_
   | refine LeO.bind ?_ (fun _ => ?_)
def spec_DrawCompareShapes.T8 : Bool × List (List Nat × List Nat) := (true, [([], []), ([], []), ([], []), ([], []), ([2, 3], [2, 3]), ([4], [4]), ([5], [5]), ([], []), ([7], [7]), ([6, 8], [6, 8]), ([9], [9]), ([], []), ([], []), ([11, 12], [11, 12]), ([13], [13]), ([14], [14]), ([10, 15], [10, 15]), ([0, 1, 0, 1, 2, 3, 4, 5, 6, 7, 8, 9, 10, 11, 12, 13, 14, 15, 16], [0, 1]), ([17, 16, 8, 0, 1, 2, 3, 4, 5, 6, 7, 8, 9, 10, 11, 12, 13, 14, 15, 16], [16, 17])])
def spec_DrawCompareShapes.B8 : List Nat := [0, 0, 0, 0, 12, 28, 60, 0, 128, 508, 1020, 0, 0, 6144, 14336, 30720, 65532, 131071, 262143]
theorem spec_DrawCompareShapes.tab8 : rtab .any (opsOf Try.f11 8) = spec_DrawCompareShapes.T8 := by kernel_rfl
theorem spec_DrawCompareShapes.bits8 : waitsOk spec_DrawCompareShapes.T8.2 spec_DrawCompareShapes.B8 = true := by kernel_rfl
set_option maxHeartbeats 8000000 in
set_option maxRecDepth 100000 in
theorem spec_DrawCompareShapes.calls (k : Nat) (A0 : Option Addr) (c0 : Nat) (l0 : List Int) (r1 : List (S49)) (r2 : List (S49)) (w : World) (hr0 : Kd.C (Kd.int .u8) w A0 l0.length l0) (hc0 : l0.length ≤ c0) (h : spec_DrawCompareShapes.f k l0 = some (r1, r2)) :
  Calls Try.prog 11 #[.slice A0 l0.length c0] w fun e w' => ∃ v0_ v1_ : Value, e = .returned (.tuple #[v0_, v1_]) ∧ Kd.V k49 49 w' w.heap.size (fun k_ => (w.heap.size ≤ k_)) v0_ r1 ∧ Kd.V k49 49 w' w.heap.size (fun k_ => (w.heap.size ≤ k_)) v1_ r2 ∧ Below w.heap.size w w' := by
 have hu49 := Try.underlying49
 have HR0 := Aside0.mk hr0
 have HC0 := Aside0.mk hc0
 clear hr0 hc0
 have HB := Aside0.mk (Below.refl w.heap.size w)
 have H : ((spec_l01From.f k l0).bind fun bt417 => ((spec_l02Draw.f k bt417.1 bt417.2.1 bt417.2.2).bind fun bt421 => ((spec_l01Next.f bt417.1 bt421.2.1 bt421.2.2 3).bind fun bt426 => (if bt426.1 = 0 then (some (bt421.1, bt421.1)) else (if (bt421.1.length : Int) > 0 then ((spec_l01Next.f bt417.1 bt426.2.1 bt426.2.2 3).bind fun bt429 => (spec_DrawCompareShapes.j0 k bt421.1 (bt429.1 == 0) bt417.1 bt429.2.1 bt429.2.2)) else (spec_DrawCompareShapes.j0 k bt421.1 false bt417.1 bt426.2.1 bt426.2.2)))))) = some (r1, r2) := h
 clear h
 replace H := Option.bind_eq_some_iff.mp H
 obtain ⟨⟨t417, t418, t419⟩, A20, H⟩ := H
 replace H : ((spec_l02Draw.f k t417 t418 t419).bind fun bt421 => ((spec_l01Next.f t417 bt421.2.1 bt421.2.2 3).bind fun bt426 => (if bt426.1 = 0 then (some (bt421.1, bt421.1)) else (if (bt421.1.length : Int) > 0 then ((spec_l01Next.f t417 bt426.2.1 bt426.2.2 3).bind fun bt429 => (spec_DrawCompareShapes.j0 k bt421.1 (bt429.1 == 0) t417 bt429.2.1 bt429.2.2)) else (spec_DrawCompareShapes.j0 k bt421.1 false t417 bt426.2.1 bt426.2.2))))) = some (r1, r2) := H
 have A2 := Aside0.mk A20
 clear A20
 replace H := Option.bind_eq_some_iff.mp H
 obtain ⟨⟨t421, t424, t425⟩, A30, H⟩ := H
 replace H : ((spec_l01Next.f t417 t424 t425 3).bind fun bt426 => (if bt426.1 = 0 then (some (t421, t421)) else (if (t421.length : Int) > 0 then ((spec_l01Next.f t417 bt426.2.1 bt426.2.2 3).bind fun bt429 => (spec_DrawCompareShapes.j0 k t421 (bt429.1 == 0) t417 bt429.2.1 bt429.2.2)) else (spec_DrawCompareShapes.j0 k t421 false t417 bt426.2.1 bt426.2.2)))) = some (r1, r2) := H
 have A3 := Aside0.mk A30
 clear A30
 replace H := Option.bind_eq_some_iff.mp H
 obtain ⟨⟨t426, t427, t428⟩, A40, H⟩ := H
 replace H : (if t426 = 0 then (some (t421, t421)) else (if (t421.length : Int) > 0 then ((spec_l01Next.f t417 t427 t428 3).bind fun bt429 => (spec_DrawCompareShapes.j0 k t421 (bt429.1 == 0) t417 bt429.2.1 bt429.2.2)) else (spec_DrawCompareShapes.j0 k t421 false t417 t427 t428))) = some (r1, r2) := H
 have A4 := Aside0.mk A40
 clear A40
 by_cases c5 : t426 = 0
 ·rw [if_pos c5] at H
  have c5b0 : (t426 == 0) = true := beq_iff_eq.mpr c5
  have c5b1 : (t426 != 0) = false := bne_eq_false_iff_eq.mpr c5
  clear c5
  simp only [Option.some.injEq, Prod.mk.injEq] at H
  obtain ⟨rfl, rfl⟩ := H
  go_enter Try.func11, Try.ntmps11
  go_wp2_with (first | ((with_reducible refine gate_callee (f := 29) rfl ?_); refine goesL_ (some 9) rfl rfl Try.func29 kr_ rfl #[.slice A0 l0.length c0] rfl ta_ ?_; (with_reducible refine (spec_l01From.calls k _ _ l0 t417 t418 t419 w _ ?side1 ?side2 ?side3 A2.out).mono ?_); (case side1 => repeat (first | (with_reducible first | exact HB.out | apply below_alloc | apply pw_below_drewN | apply below_drew1) | exact HB.out)); (case side2 => exact HR0.out); (case side3 => exact HC0.out); rintro e w6 ⟨g420, rfl, hi, hb, hb2⟩; refine ⟨_, rfl, ?_⟩; have n0_ := Aside0.mk (hb); have n1_ := Aside0.mk (hi); clear HB; have HB := n0_; have HI420 := n1_; clear n0_ n1_; (try clear hb); (try clear hb2); (try clear hk); (try clear hi)) | ((with_reducible refine gate_callee (f := 30) rfl ?_); refine goesL_ (some 11) rfl rfl Try.func30 kr_ rfl #[.pointer (some ⟨g420, 0, none⟩)] rfl ta_ ?_; (with_reducible refine (spec_l02Draw.calls k g420 t417 t418 t419 t421 t424 t425 w _ ?side1 ?side2 A3.out).mono ?_); (case side1 => exact is62_ HI420.out); (case side2 => repeat (first | (with_reducible first | exact HB.out | apply below_alloc | apply pw_below_drewN | apply below_drew1 | refine below_set ?_ (IsS62.ge HI420.out)) | exact HB.out)); rintro e w7 ⟨v422, rfl, ho0, hi, hb, hk⟩; refine ⟨_, rfl, ?_⟩; have n0_ := Aside0.mk (Kd.R_lower (Kd.R_newM (M := fun k_ => (w.heap.size ≤ k_)) ho0 (below_size (by repeat (first | (with_reducible first | exact HB.out | apply below_alloc | apply pw_below_drewN | apply below_drew1 | refine below_set ?_ (IsS62.ge HI420.out)) | exact HB.out))) (fun k_ h_ => h_)) (below_size (by repeat (first | (with_reducible first | exact HB.out | apply below_alloc | apply pw_below_drewN | apply below_drew1 | refine below_set ?_ (IsS62.ge HI420.out)) | exact HB.out)))); have n1_ := Aside0.mk (hb); have n2_ := Aside0.mk (hi); clear HB; clear HI420; have HO423 := n0_; have HB := n1_; have HI420 := n2_; clear n0_ n1_ n2_; (try clear hb); (try clear hb2); (try clear hk); (try clear hi); (try clear ho0)) | ((with_reducible refine gate_callee (f := 31) rfl ?_); refine goesL_ (some 13) rfl rfl Try.func31 kr_ rfl #[.pointer (some ⟨g420, 0, none⟩), .int .i64 3] rfl ta_ ?_; (with_reducible refine (spec_l01Next.calls g420 t417 t424 t425 3 t426 t427 t428 w _ ?side1 ?side2 A4.out).mono ?_); (case side1 => exact is62_ HI420.out); (case side2 => repeat (first | (with_reducible first | exact HB.out | apply below_alloc | apply pw_below_drewN | apply below_drew1 | refine below_set ?_ (IsS62.ge HI420.out)) | exact HB.out)); rintro e w8 ⟨rfl, hi, hb, hk⟩; refine ⟨_, rfl, ?_⟩; have n0_ := Aside0.mk (Kd.R_mono (Kd.R_keep (IsS62.apart (show IsS62 w _ g420 t417 t424 t425 from is62_ HI420.out) (ra_ HO423.out) (by decide)) hk (fun _ h => h.2)) (fun _ h => h.1)); have n1_ := Aside0.mk (hb); have n2_ := Aside0.mk (hi); clear HO423; clear HB; clear HI420; have HO423 := n0_; have HB := n1_; have HI420 := n2_; clear n0_ n1_ n2_; (try clear hb); (try clear hb2); (try clear hk); (try clear hi)))
  go_ret2
  exact ⟨_, _, er_, Kd.R_V (by (with_reducible repeat (first | apply Kd.R_alloc | apply Kd.R_drewN | apply Kd.R_drew)); exact Kd.R_mono HO423.out (fun _ hk => hk.1)), Kd.R_V (by (with_reducible repeat (first | apply Kd.R_alloc | apply Kd.R_drewN | apply Kd.R_drew)); exact Kd.R_mono HO423.out (fun _ hk => hk.1)), by repeat (first | (with_reducible first | exact HB.out | apply below_alloc | apply pw_below_drewN | apply below_drew1 | refine below_set ?_ (IsS62.ge HI420.out)) | exact HB.out)⟩
 ·rw [if_neg c5] at H
  have c5b0 : (t426 == 0) = false := beq_eq_false_iff_ne.mpr c5
  have c5b1 : (t426 != 0) = true := bne_iff_ne.mpr c5
  have HC9 := Aside0.mk H
  clear H
  go_enter Try.func11, Try.ntmps11
  go_upto_region 5 with (first | ((with_reducible refine gate_callee (f := 29) rfl ?_); refine goesL_ (some 9) rfl rfl Try.func29 kr_ rfl #[.slice A0 l0.length c0] rfl ta_ ?_; (with_reducible refine (spec_l01From.calls k _ _ l0 t417 t418 t419 w _ ?side1 ?side2 ?side3 A2.out).mono ?_); (case side1 => repeat (first | (with_reducible first | exact HB.out | apply below_alloc | apply pw_below_drewN | apply below_drew1) | exact HB.out)); (case side2 => exact HR0.out); (case side3 => exact HC0.out); rintro e w10 ⟨g420, rfl, hi, hb, hb2⟩; refine ⟨_, rfl, ?_⟩; have n0_ := Aside0.mk (hb); have n1_ := Aside0.mk (hi); clear HB; have HB := n0_; have HI420 := n1_; clear n0_ n1_; (try clear hb); (try clear hb2); (try clear hk); (try clear hi)) | ((with_reducible refine gate_callee (f := 30) rfl ?_); refine goesL_ (some 11) rfl rfl Try.func30 kr_ rfl #[.pointer (some ⟨g420, 0, none⟩)] rfl ta_ ?_; (with_reducible refine (spec_l02Draw.calls k g420 t417 t418 t419 t421 t424 t425 w _ ?side1 ?side2 A3.out).mono ?_); (case side1 => exact is62_ HI420.out); (case side2 => repeat (first | (with_reducible first | exact HB.out | apply below_alloc | apply pw_below_drewN | apply below_drew1 | refine below_set ?_ (IsS62.ge HI420.out)) | exact HB.out)); rintro e w11 ⟨v422, rfl, ho0, hi, hb, hk⟩; refine ⟨_, rfl, ?_⟩; have n0_ := Aside0.mk (Kd.R_lower (Kd.R_newM (M := fun k_ => (w.heap.size ≤ k_)) ho0 (below_size (by repeat (first | (with_reducible first | exact HB.out | apply below_alloc | apply pw_below_drewN | apply below_drew1 | refine below_set ?_ (IsS62.ge HI420.out)) | exact HB.out))) (fun k_ h_ => h_)) (below_size (by repeat (first | (with_reducible first | exact HB.out | apply below_alloc | apply pw_below_drewN | apply below_drew1 | refine below_set ?_ (IsS62.ge HI420.out)) | exact HB.out)))); have n1_ := Aside0.mk (hb); have n2_ := Aside0.mk (hi); clear HB; clear HI420; have HO423 := n0_; have HB := n1_; have HI420 := n2_; clear n0_ n1_ n2_; (try clear hb); (try clear hb2); (try clear hk); (try clear hi); (try clear ho0)) | ((with_reducible refine gate_callee (f := 31) rfl ?_); refine goesL_ (some 13) rfl rfl Try.func31 kr_ rfl #[.pointer (some ⟨g420, 0, none⟩), .int .i64 3] rfl ta_ ?_; (with_reducible refine (spec_l01Next.calls g420 t417 t424 t425 3 t426 t427 t428 w _ ?side1 ?side2 A4.out).mono ?_); (case side1 => exact is62_ HI420.out); (case side2 => repeat (first | (with_reducible first | exact HB.out | apply below_alloc | apply pw_below_drewN | apply below_drew1 | refine below_set ?_ (IsS62.ge HI420.out)) | exact HB.out)); rintro e w12 ⟨rfl, hi, hb, hk⟩; refine ⟨_, rfl, ?_⟩; have n0_ := Aside0.mk (Kd.R_mono (Kd.R_keep (IsS62.apart (show IsS62 w _ g420 t417 t424 t425 from is62_ HI420.out) (ra_ HO423.out) (by decide)) hk (fun _ h => h.2)) (fun _ h => h.1)); have n1_ := Aside0.mk (hb); have n2_ := Aside0.mk (hi); clear HO423; clear HB; clear HI420; have HO423 := n0_; have HB := n1_; have HI420 := n2_; clear n0_ n1_ n2_; (try clear hb); (try clear hb2); (try clear hk); (try clear hi)))
  (try simp only [Act.put, List.setIfInBounds_toArray, List.set_cons_zero, List.set_cons_succ])
  go_cut [24] (fun v24 wc => ∃ (kq : Nat) (x24_8 : Bool) (x421001_8 : Int) (x421002_8 : Int), v24 = .bool x24_8 ∧ Aside0 (spec_DrawCompareShapes.j0 kq t421 x24_8 t417 x421001_8 x421002_8 = some (r1, r2)) ∧ Aside0 (kq ≤ k) ∧ Aside0 (Kd.R k49 49 wc w.heap.size (fun k_ => (w.heap.size ≤ k_)) v422 t421) ∧ Aside0 (IsS62 w wc g420 t417 x421001_8 x421002_8) ∧ Aside0 (Below w.heap.size w wc))
  case first =>
   have H := HC9.out
   clear HC9
   by_cases c13 : (t421.length : Int) > 0
   ·rw [if_pos c13] at H
    have c13b0 : decide (0 < (t421.length : Int)) = true := decide_eq_true c13
    have c13b1 : decide (0 < t421.length) = true := decide_eq_true (by omega)
    clear c13
    (first | rw [c13b0] | (simp only [i64_w, i32_w]; rw [c13b0]) | skip)
    replace H := Option.bind_eq_some_iff.mp H
    obtain ⟨⟨t429, t430, t431⟩, A140, H⟩ := H
    replace H : (spec_DrawCompareShapes.j0 k t421 (t429 == 0) t417 t430 t431) = some (r1, r2) := H
    have A14 := Aside0.mk A140
    clear A140
    have H' := Aside0.mk H
    clear H
    obtain ⟨Ao15, co15, eo15⟩ := Kd.R_slice HO423.out
    subst eo15
    go_wp2_with (first | (go_at_call 31; (with_reducible refine (spec_l01Next.calls g420 t417 t427 t428 3 t429 t430 t431 w _ ?side1 ?side2 A14.out).mono ?_); (case side1 => exact is62_ HI420.out); (case side2 => repeat (first | (with_reducible first | exact HB.out | apply below_alloc | apply pw_below_drewN | apply below_drew1 | refine below_set ?_ (IsS62.ge HI420.out)) | exact HB.out)); rintro e w16 ⟨rfl, hi, hb, hk⟩; have n0_ := Aside0.mk (Kd.R_mono (Kd.R_keep (IsS62.apart (show IsS62 w _ g420 t417 t427 t428 from is62_ HI420.out) (ra_ HO423.out) (by decide)) hk (fun _ h => h.2)) (fun _ h => h.1)); have n1_ := Aside0.mk (hb); have n2_ := Aside0.mk (hi); clear HO423; clear HB; clear HI420; have HO423 := n0_; have HB := n1_; have HI420 := n2_; clear n0_ n1_ n2_; (try clear hb); (try clear hb2); (try clear hk); (try clear hi)))
    go_meet
    case rel => exact ⟨_, ((t429 == 0)), (t430), (t431), rs_, H', ⟨by first | omega | exact Nat.le_refl _⟩, ⟨by (with_reducible repeat (first | apply Kd.R_alloc | apply Kd.R_drewN | apply Kd.R_drew)); exact Kd.R_mono HO423.out (fun _ hk => hk.1)⟩, ⟨is62_ HI420.out⟩, ⟨by repeat (first | (with_reducible first | exact HB.out | apply below_alloc | apply pw_below_drewN | apply below_drew1 | refine below_set ?_ (IsS62.ge HI420.out)) | exact HB.out)⟩⟩
   ·rw [if_neg c13] at H
    have c13b0 : decide (0 < (t421.length : Int)) = false := decide_eq_false c13
    have c13b1 : decide (0 < t421.length) = false := decide_eq_false (by omega)
    clear c13
    (first | rw [c13b0] | (simp only [i64_w, i32_w]; rw [c13b0]) | skip)
    have H' := Aside0.mk H
    clear H
    obtain ⟨Ao17, co17, eo17⟩ := Kd.R_slice HO423.out
    subst eo17
    go_wp2
    go_meet
    case rel => exact ⟨_, (false), (t427), (t428), rs_, H', ⟨by first | omega | exact Nat.le_refl _⟩, ⟨by (with_reducible repeat (first | apply Kd.R_alloc | apply Kd.R_drewN | apply Kd.R_drew)); exact Kd.R_mono HO423.out (fun _ hk => hk.1)⟩, ⟨is62_ HI420.out⟩, ⟨by repeat (first | (with_reducible first | exact HB.out | apply below_alloc | apply pw_below_drewN | apply below_drew1 | refine below_set ?_ (IsS62.ge HI420.out)) | exact HB.out)⟩⟩
  case rest =>
   clear HC9
   try clear c1
   try clear c2
   try clear p2
   try clear c3
   try clear c5
   try clear c5b0
   try clear c5b1
   try clear c11
   try clear c13
   try clear c13b0
   try clear c13b1
   obtain ⟨kq, x24_8, x421001_8, x421002_8, rfl, HA, HJ8, HO_5, HI420, HB⟩ := hcut
   cases kq with
   | zero => exact absurd HA.out (by simp [spec_DrawCompareShapes.j0])
   | succ kj8 =>
    have H := HA.out
    clear HA
    simp only [spec_DrawCompareShapes.j0] at H
    by_cases c18 : x24_8 = true
    ·subst c18
     have H1 : ((some (([] : List (S49)) : List (S49))).bind fun y432 => (if y432.length + t421.length < 8796093022208 then ((some (y432 ++ t421 : List (S49))).bind fun y435 => ((spec_l01Next.f t417 x421001_8 x421002_8 (y435.length : Int)).bind fun bt438 => (if 0 ≤ bt438.1 then (if bt438.1 < (y435.length : Int) then ((spec_l01Next.f t417 bt438.2.1 bt438.2.2 3).bind fun bt442 => (some (t421, (y435.set (bt438.1 : Int).toNat (⟨wrap64 ((wrap64 (((rd_T49 y435 bt438.1).f0) + bt442.1)) - 1), (rd_T49 y435 bt438.1).f1⟩ : S49))))) else (none)) else (none)))) else (none))) = some (r1, r2) := by rw [if_pos rfl] at H; exact H
     clear H
     have H := H1
     clear H1
     obtain ⟨y432, hy432⟩ : ∃ y_ : List (S49), y_ = (([] : List (S49))) := ⟨_, rfl⟩
     replace H : (if y432.length + t421.length < 8796093022208 then ((some (y432 ++ t421 : List (S49))).bind fun y435 => ((spec_l01Next.f t417 x421001_8 x421002_8 (y435.length : Int)).bind fun bt438 => (if 0 ≤ bt438.1 then (if bt438.1 < (y435.length : Int) then ((spec_l01Next.f t417 bt438.2.1 bt438.2.2 3).bind fun bt442 => (some (t421, (y435.set (bt438.1 : Int).toNat (⟨wrap64 ((wrap64 (((rd_T49 y435 bt438.1).f0) + bt442.1)) - 1), (rd_T49 y435 bt438.1).f1⟩ : S49))))) else (none)) else (none)))) else (none)) = some (r1, r2) := by first | (rw [hy432]; with_reducible exact H) | (have H2_ := (Option.bind_some _ _).symm.trans H; rw [hy432]; with_reducible exact H2_) | (have H2_ := (Option.bind_some _ _).symm.trans H; with_reducible exact H2_) | with_reducible exact H | (rw [hy432]; exact H) | exact H
     have Ny432 := Aside0.mk hy432
     clear hy432
     by_cases c19 : y432.length + t421.length < 8796093022208
     ·rw [if_pos c19] at H
      have LMc19 := Aside0.mk c19
      clear c19
      obtain ⟨y435, hy435⟩ : ∃ y_ : List (S49), y_ = (y432 ++ t421) := ⟨_, rfl⟩
      replace H : ((spec_l01Next.f t417 x421001_8 x421002_8 (y435.length : Int)).bind fun bt438 => (if 0 ≤ bt438.1 then (if bt438.1 < (y435.length : Int) then ((spec_l01Next.f t417 bt438.2.1 bt438.2.2 3).bind fun bt442 => (some (t421, (y435.set (bt438.1 : Int).toNat (⟨wrap64 ((wrap64 (((rd_T49 y435 bt438.1).f0) + bt442.1)) - 1), (rd_T49 y435 bt438.1).f1⟩ : S49))))) else (none)) else (none))) = some (r1, r2) := by first | (rw [hy435]; with_reducible exact H) | (have H2_ := (Option.bind_some _ _).symm.trans H; rw [hy435]; with_reducible exact H2_) | (have H2_ := (Option.bind_some _ _).symm.trans H; with_reducible exact H2_) | with_reducible exact H | (rw [hy435]; exact H) | exact H
      have Ny435 := Aside0.mk hy435
      clear hy435
      replace H := Option.bind_eq_some_iff.mp H
      obtain ⟨⟨t438, t439, t440⟩, A200, H⟩ := H
      replace H : (if 0 ≤ t438 then (if t438 < (y435.length : Int) then ((spec_l01Next.f t417 t439 t440 3).bind fun bt442 => (some (t421, (y435.set (t438 : Int).toNat (⟨wrap64 ((wrap64 (((rd_T49 y435 t438).f0) + bt442.1)) - 1), (rd_T49 y435 t438).f1⟩ : S49))))) else (none)) else (none)) = some (r1, r2) := H
      have A20 := Aside0.mk A200
      clear A200
      by_cases c21 : 0 ≤ t438
      ·rw [if_pos c21] at H
       have c21b0 : decide (0 ≤ t438) = true := decide_eq_true c21
       clear c21
       by_cases c22 : t438 < (y435.length : Int)
       ·rw [if_pos c22] at H
        have c22b0 : decide (t438 < (y435.length : Int)) = true := decide_eq_true c22
        clear c22
        replace H := Option.bind_eq_some_iff.mp H
        obtain ⟨⟨t442, t443, t444⟩, A230, H⟩ := H
        replace H : (some (t421, (y435.set (t438 : Int).toNat (⟨wrap64 ((wrap64 (((rd_T49 y435 t438).f0) + t442)) - 1), (rd_T49 y435 t438).f1⟩ : S49)))) = some (r1, r2) := H
        have A23 := Aside0.mk A230
        clear A230
        obtain ⟨y446, hy446⟩ : ∃ y_ : List (S49), y_ = (y435.set (t438 : Int).toNat (⟨wrap64 ((wrap64 (((rd_T49 y435 t438).f0) + t442)) - 1), (rd_T49 y435 t438).f1⟩ : S49)) := ⟨_, rfl⟩
        replace H : (some (t421, y446)) = some (r1, r2) := by first | (rw [hy446]; with_reducible exact H) | (have H2_ := (Option.bind_some _ _).symm.trans H; rw [hy446]; with_reducible exact H2_) | (have H2_ := (Option.bind_some _ _).symm.trans H; with_reducible exact H2_) | with_reducible exact H | (rw [hy446]; exact H) | exact H
        have Ny446 := Aside0.mk hy446
        clear hy446
        simp only [Option.some.injEq, Prod.mk.injEq] at H
        obtain ⟨rfl, rfl⟩ := H
        try go_wp2_with (first | ((with_reducible refine gate_dst (N := 25) rfl ?_); refine Kd.R_lit k49 _ 49 ?hg (N := 25) ?hd (xs := ([] : List (S49))) (inner := []) (ok := fun _ => True) (okp := fun _ => True) ?hr ?hp (fun _ hk => hk) trivial (Below.refl _ _) (Nat.le_refl _) (by simp) ?_; (case hd => rfl); (case hg => rfl); (case hr => first | (go_simp; done) | (go_simp; rfl)); (case hp => exact (Reps.none _ _)); intro v433 w25 ho26 hb hg_ hnew_; clear hg_ hnew_; (first | rw [← Ny432.out] at ho26 | (simp only [Int.reduceToNat] at ho26; rw [← Ny432.out] at ho26)); have n0_ := Aside0.mk (Kd.R_elder' (ra_ HO_5.out) (Kd.R_base ho26) hb); have n1_ := Aside0.mk (Kd.R_lower (Kd.R_new' (Kd.R_newM (M := fun k_ => (w.heap.size ≤ k_)) ho26 (below_size (by repeat (first | (with_reducible first | exact HB.out | apply below_alloc | apply pw_below_drewN | apply below_drew1 | refine below_set ?_ (IsS62.ge HI420.out)) | exact HB.out))) (fun k_ h_ => h_)) (Kd.R_lt (ra_ HO_5.out))) (below_size (by repeat (first | (with_reducible first | exact HB.out | apply below_alloc | apply pw_below_drewN | apply below_drew1 | refine below_set ?_ (IsS62.ge HI420.out)) | exact HB.out)))); have n2_ := Aside0.mk (IsS62.below (is62_ HI420.out) hb); have n3_ := Aside0.mk (below_step (by repeat (first | (with_reducible first | exact HB.out | apply below_alloc | apply pw_below_drewN | apply below_drew1 | refine below_set ?_ (IsS62.ge HI420.out)) | exact HB.out)) hb); clear HO_5; clear HI420; clear HB; have HO_5 := n0_; have HO434 := n1_; have HI420 := n2_; have HB := n3_; clear n0_ n1_ n2_ n3_; clear hb ho26; obtain ⟨Ao28, co28, eo28⟩ := Kd.R_slice HO_5.out; subst eo28) | ((with_reducible refine gate_builtin (b := .append) (xs := #[.tmp 25, .tmp 26]) rfl ?_); at_builtin; refine Kd.R_append_rows k49 (w0 := w) w.heap.size rfl (.tmp 25) (.tmp 26) 24 49 (.agg #[(.int .i64 0), (.int .i64 0)]) 16 rfl Try.underlying24 info49 rfl (by decide) (by omega) v433 y432 t421 _ _ _ (fun k_ => (w.heap.size ≤ k_) ∧ some k_ ≠ (.slice Ao28 t421.length co28 : Value).ownBlock) (fun _ => False) rfl rfl ?aO ?aR (fun _ _ h => h) (fun _ h => h.elim) ?aF ?aB ?aS ?aL ?_; (case aR => exact ca_ (Kd.R_reads' HO_5.out).2.2); (case aB => exact (by repeat (first | (with_reducible first | exact HB.out | apply below_alloc | apply pw_below_drewN | apply below_drew1 | refine below_set ?_ (IsS62.ge HI420.out)) | exact HB.out))); (case aF => exact (fun k_ hk => ⟨(Nat.le_trans (below_size (by repeat (first | (with_reducible first | exact HB.out | apply below_alloc | apply pw_below_drewN | apply below_drew1 | refine below_set ?_ (IsS62.ge HI420.out)) | exact HB.out))) hk), Kd.fresh' (Kd.R_lt (ra_ HO_5.out)) k_ hk⟩)); (case aO => exact (by (with_reducible repeat (first | apply Kd.R_alloc | apply Kd.R_drewN | apply Kd.R_drew)); exact Kd.R_mono HO434.out (fun _ hk => ⟨hk.1.1, hk.2⟩))); (case aS => exact (below_size (by repeat (first | (with_reducible first | exact HB.out | apply below_alloc | apply pw_below_drewN | apply below_drew1 | refine below_set ?_ (IsS62.ge HI420.out)) | exact HB.out)))); (case aL => have := LMc19.out; omega); intro v436 w27 ho hb hg hat; rw [← Ny435.out] at ho; have n0_ := Aside0.mk (Kd.R_after (ok := (fun k_ => (w.heap.size ≤ k_))) (ra_ HO_5.out) hg hat); have n1_ := Aside0.mk (IsS62.grown (is62_ HI420.out) hg (IsS62.own_ne HI420.out HO434.out (by decide))); have n2_ := Aside0.mk (hb); have n3_ := Aside0.mk (ho); clear HO_5; clear HI420; clear HB; clear HO434; have HO_5 := n0_; have HI420 := n1_; have HB := n2_; have HO437 := n3_; clear n0_ n1_ n2_ n3_; clear ho hb hg hat; obtain ⟨Ao29, co29, eo29⟩ := Kd.R_slice HO437.out; subst eo29) | ((with_reducible refine gate_callee (f := 31) rfl ?_); refine goesL_ (some 31) rfl rfl Try.func31 kr_ rfl #[.pointer (some ⟨g420, 0, none⟩), .int .i64 (y435.length : Int)] rfl ta_ ?_; (with_reducible refine (spec_l01Next.calls g420 t417 x421001_8 x421002_8 (y435.length : Int) t438 t439 t440 w _ ?side1 ?side2 A20.out).mono ?_); (case side1 => exact is62_ HI420.out); (case side2 => repeat (first | (with_reducible first | exact HB.out | apply below_alloc | apply pw_below_drewN | apply below_drew1 | refine below_set ?_ (IsS62.ge HI420.out)) | exact HB.out)); rintro e w30 ⟨rfl, hi, hb, hk⟩; refine ⟨_, rfl, ?_⟩; have n0_ := Aside0.mk (Kd.R_mono (Kd.R_keep (IsS62.apart (show IsS62 w _ g420 t417 x421001_8 x421002_8 from is62_ HI420.out) (ra_ HO_5.out) (by decide)) hk (fun _ h => h.2)) (fun _ h => h.1)); have n1_ := Aside0.mk (Kd.R_mono (Kd.R_keep (IsS62.apart (show IsS62 w _ g420 t417 x421001_8 x421002_8 from is62_ HI420.out) (ra_ HO437.out) (by decide)) hk (fun _ h => h.2)) (fun _ h => h.1)); have n2_ := Aside0.mk (hb); have n3_ := Aside0.mk (hi); clear HO_5; clear HO437; clear HB; clear HI420; have HO_5 := n0_; have HO437 := n1_; have HB := n2_; have HI420 := n3_; clear n0_ n1_ n2_ n3_; (try clear hb); (try clear hb2); (try clear hk); (try clear hi)))
        have n0_ := Aside0.mk (Kd.R_drew HO_5.out)
        have n1_ := Aside0.mk (Kd.R_drew HO437.out)
        have n2_ := Aside0.mk (IsS62.drew HI420.out)
        have n3_ := Aside0.mk (below_drew1 HB.out)
        clear HO_5
        clear HO437
        clear HI420
        clear HB
        have HO_5 := n0_
        have HO437 := n1_
        have HI420 := n2_
        have HB := n3_
        clear n0_ n1_ n2_ n3_
        have p441 : 0 ≤ (t438 : Int) := od_
        have q441 : t438 < (y435.length : Int) := od_
        obtain ⟨ad441, e441, hx441_0, hx441_1⟩ := at_T49 (Kd.R_reads' HO437.out).2.2 t438 p441 q441
        cases e441
        replace p441 := eq_true p441
        replace q441 := eq_true q441
        have p445 : 0 ≤ (t438 : Int) := od_
        have q445 : t438 < (y435.length : Int) := od_
        obtain ⟨ad445, e445, hx445_0, hx445_1⟩ := at_T49 (Kd.R_reads' HO437.out).2.2 t438 p445 q445
        obtain rfl : ad441 = ad445 := (by injection e445)
        replace p445 := eq_true p445
        replace q445 := eq_true q445
        refine start_ (n := 19) (S := fun w' => w'.cell? (ad441.add ((t438).toNat * 2)) = some (.int .i64 ((rd_T49 y435 t438).f0)) ∧ w'.cell? ⟨(ad441.add ((t438).toNat * 2)).block, (ad441.add ((t438).toNat * 2)).off + 1, none⟩ = some (.int .i64 ((rd_T49 y435 t438).f1)) ∧ w'.cell? (ad441.add ((t438).toNat * 2)) = some (.int .i64 ((rd_T49 y435 t438).f0)) ∧ w'.cell? ⟨(ad441.add ((t438).toNat * 2)).block, (ad441.add ((t438).toNat * 2)).off + 1, none⟩ = some (.int .i64 ((rd_T49 y435 t438).f1))) (ds := [18]) #[false, false, false, false, false, false, false, false, false, false, false, false, false, false, false, false, false, false, false] kr_ rfl rfl ⟨hx441_0, hx441_1, hx445_0, hx445_1⟩ (fun hHeld => ?_); refine with_tabW spec_DrawCompareShapes.tab8 spec_DrawCompareShapes.bits8 (fun HT_ HW_ => ?_)
        generalize w30.drew = w31 at HO_5 HO437 HI420 HB hx441_0 hx441_1 hx445_0 hx445_1 hHeld ⊢
        refine pure_ (i := 0) (N := some 32) (v := ?_) (a' := ?_) #[true, false, false, false, false, false, false, false, false, false, false, false, false, false, false, false, false, false, false] rfl rfl (any_of HT_.out kr_) (fun _ _ _ h => h) (Or.inl ⟨by rfl, ?_⟩) ?_ ?_
        rotate_left
        ·intro w'
         go_simp
         with_reducible rfl
        rotate_left
        ·simp only [sp_]
         rfl
        refine pure_ (i := 1) (N := some 33) (v := ?_) (a' := ?_) #[true, true, false, false, false, false, false, false, false, false, false, false, false, false, false, false, false, false, false] rfl rfl (any_of HT_.out kr_) (fun _ _ _ h => h) (Or.inl ⟨by rfl, ?_⟩) ?_ ?_
        rotate_left
        ·intro w'
         go_simp
         with_reducible rfl
        rotate_left
        ·simp only [sp_]
         rfl
        refine pure_ (i := 2) (N := some 34) (v := ?_) (a' := ?_) #[true, true, true, false, false, false, false, false, false, false, false, false, false, false, false, false, false, false, false] rfl rfl (any_of HT_.out kr_) (fun _ _ _ h => h) (Or.inl ⟨by rfl, ?_⟩) ?_ ?_
        rotate_left
        ·intro w'
         go_simp
         with_reducible rfl
        rotate_left
        ·simp only [sp_]
         rfl
        refine pure_ (i := 3) (N := some 35) (v := ?_) (a' := ?_) #[true, true, true, true, false, false, false, false, false, false, false, false, false, false, false, false, false, false, false] rfl rfl (any_of HT_.out kr_) (fun _ _ _ h => h) (Or.inl ⟨by rfl, ?_⟩) ?_ ?_
        rotate_left
        ·intro w'
         go_simp
         with_reducible rfl
        rotate_left
        ·simp only [sp_]
         rfl
        refine pure_ (i := 4) (N := some 36) (v := ?_) (a' := ?_) #[true, true, true, true, true, false, false, false, false, false, false, false, false, false, false, false, false, false, false] rfl rfl (any_of HT_.out kr_) (fun _ _ _ h => h) (Or.inl ⟨by rfl, ?_⟩) ?_ ?_
        rotate_left
        ·intro w'
         go_simp
         with_reducible rfl
        rotate_left
        ·simp only [sp_]
         rfl
        refine pure_ (i := 5) (N := some 37) (v := ?_) (a' := ?_) #[true, true, true, true, true, true, false, false, false, false, false, false, false, false, false, false, false, false, false] rfl rfl (any_of HT_.out kr_) (fun _ _ _ h => h) (Or.inl ⟨by rfl, ?_⟩) ?_ ?_
        rotate_left
        ·intro w'
         go_simp
         with_reducible rfl
        rotate_left
        ·simp only [sp_]
         rfl
        refine pure_ (i := 7) (N := some 39) (v := ?_) (a' := ?_) #[true, true, true, true, true, true, false, true, false, false, false, false, false, false, false, false, false, false, false] rfl rfl (any_of HT_.out kr_) (fun _ _ _ h => h) (Or.inl ⟨by rfl, ?_⟩) ?_ ?_
        rotate_left
        ·intro w'
         go_simp
         with_reducible rfl
        rotate_left
        ·simp only [sp_]
         rfl
        refine pure_ (i := 11) (N := some 43) (v := ?_) (a' := ?_) #[true, true, true, true, true, true, false, true, false, false, false, true, false, false, false, false, false, false, false] rfl rfl (any_of HT_.out kr_) (fun _ _ _ h => h) (Or.inl ⟨by rfl, ?_⟩) ?_ ?_
        rotate_left
        ·intro w'
         go_simp
         with_reducible rfl
        rotate_left
        ·simp only [sp_]
         rfl
        refine pure_ (i := 12) (N := some 44) (v := ?_) (a' := ?_) #[true, true, true, true, true, true, false, true, false, false, false, true, true, false, false, false, false, false, false] rfl rfl (any_of HT_.out kr_) (fun _ _ _ h => h) (Or.inl ⟨by rfl, ?_⟩) ?_ ?_
        rotate_left
        ·intro w'
         go_simp
         with_reducible rfl
        rotate_left
        ·simp only [sp_]
         rfl
        refine pure_ (i := 13) (N := some 45) (v := ?_) (a' := ?_) #[true, true, true, true, true, true, false, true, false, false, false, true, true, true, false, false, false, false, false] rfl rfl (any_of HT_.out kr_) (fun _ _ _ h => h) (Or.inl ⟨by rfl, ?_⟩) ?_ ?_
        rotate_left
        ·intro w'
         go_simp
         with_reducible rfl
        rotate_left
        ·simp only [sp_]
         rfl
        refine pure_ (i := 14) (N := some 46) (v := ?_) (a' := ?_) #[true, true, true, true, true, true, false, true, false, false, false, true, true, true, true, false, false, false, false] rfl rfl (any_of HT_.out kr_) (fun _ _ _ h => h) (Or.inl ⟨by rfl, ?_⟩) ?_ ?_
        rotate_left
        ·intro w'
         go_simp
         with_reducible rfl
        rotate_left
        ·simp only [sp_]
         rfl
        refine take_ (i := 6) (N := some 38) (v := ?_) (a' := ?_) #[true, true, true, true, true, true, true, true, false, false, false, true, true, true, true, false, false, false, false] rfl rfl (take_ofW HT_.out HW_.out kr_) (fun _ _ _ h => h) (Or.inl ⟨by rfl, ?_⟩) hHeld ?_ ?_
        rotate_left
        ·rintro w' ⟨s0, s1, s2, s3⟩
         go_simp
         with_reducible rfl
        rotate_left
        ·simp only [sp_]
         rfl
        refine take_ (i := 15) (N := some 47) (v := ?_) (a' := ?_) #[true, true, true, true, true, true, true, true, false, false, false, true, true, true, true, true, false, false, false] rfl rfl (take_ofW HT_.out HW_.out kr_) (fun _ _ _ h => h) (Or.inl ⟨by rfl, ?_⟩) hHeld ?_ ?_
        rotate_left
        ·rintro w' ⟨s0, s1, s2, s3⟩
         go_simp
         with_reducible rfl
        rotate_left
        ·simp only [sp_]
         rfl
        refine one_ (i := 8) (N := some 40) #[true, true, true, true, true, true, true, true, true, false, false, true, true, true, true, true, false, false, false] rfl rfl (one_of HT_.out kr_) (by decide) (fun K hK => ?_)
        refine goes_ Try.func31 kr_ rfl #[.pointer (some ⟨g420, 0, none⟩), .int .i64 3] (by rfl) rfl rfl ta_ ?_
        with_reducible refine (spec_l01Next.calls g420 t417 t439 t440 3 t442 t443 t444 w _ ?side1 ?side2 A23.out).mono ?_
        (case side1 => exact is62_ HI420.out)
        (case side2 => repeat (first | (with_reducible first | exact HB.out | apply below_alloc | apply pw_below_drewN | apply below_drew1 | refine below_set ?_ (IsS62.ge HI420.out)) | exact HB.out))
        rintro e w32 ⟨rfl, hi, hb, hk⟩
        have HS0_ := keep_cell hk (hHeld.1) (by first | (rw [add_block]; exact Kd.own_blk (IsS62.own_ne HI420.out HO437.out (by decide))) | (show (Addr.add _ _).block ≠ _; rw [add_block]; exact Kd.own_blk (IsS62.own_ne HI420.out HO437.out (by decide))) | exact Kd.own_blk (IsS62.own_ne HI420.out HO437.out (by decide)))
        have HS1_ := keep_cell hk (hHeld.2.1) (by first | (rw [add_block]; exact Kd.own_blk (IsS62.own_ne HI420.out HO437.out (by decide))) | (show (Addr.add _ _).block ≠ _; rw [add_block]; exact Kd.own_blk (IsS62.own_ne HI420.out HO437.out (by decide))) | exact Kd.own_blk (IsS62.own_ne HI420.out HO437.out (by decide)))
        have HS2_ := keep_cell hk (hHeld.2.2.1) (by first | (rw [add_block]; exact Kd.own_blk (IsS62.own_ne HI420.out HO437.out (by decide))) | (show (Addr.add _ _).block ≠ _; rw [add_block]; exact Kd.own_blk (IsS62.own_ne HI420.out HO437.out (by decide))) | exact Kd.own_blk (IsS62.own_ne HI420.out HO437.out (by decide)))
        have HS3_ := keep_cell hk (hHeld.2.2.2) (by first | (rw [add_block]; exact Kd.own_blk (IsS62.own_ne HI420.out HO437.out (by decide))) | (show (Addr.add _ _).block ≠ _; rw [add_block]; exact Kd.own_blk (IsS62.own_ne HI420.out HO437.out (by decide))) | exact Kd.own_blk (IsS62.own_ne HI420.out HO437.out (by decide)))
        refine ⟨_, rfl, ?_⟩
        have n0_ := Aside0.mk (Kd.R_mono (Kd.R_keep (IsS62.apart (show IsS62 w _ g420 t417 t439 t440 from is62_ HI420.out) (ra_ HO_5.out) (by decide)) hk (fun _ h => h.2)) (fun _ h => h.1))
        have n1_ := Aside0.mk (Kd.R_mono (Kd.R_keep (IsS62.apart (show IsS62 w _ g420 t417 t439 t440 from is62_ HI420.out) (ra_ HO437.out) (by decide)) hk (fun _ h => h.2)) (fun _ h => h.1))
        have n2_ := Aside0.mk (hb)
        have n3_ := Aside0.mk (hi)
        clear HO_5
        clear HO437
        clear HB
        clear HI420
        have HO_5 := n0_
        have HO437 := n1_
        have HB := n2_
        have HI420 := n3_
        clear n0_ n1_ n2_ n3_
        (try clear hb)
        (try clear hb2)
        (try clear hk)
        (try clear hi)
        have p24 : 0 ≤ (t438 : Int) := od_
        have q24 : (t438 : Int) < ((y435.length : Int) : Int) := od_
        obtain ⟨go24, co24, eo24, gb24, gl24, cl24, HG24⟩ := Kd.R_form HO437.out (by omega)
        (first | cases eo24 | (injection eo24 with ea_ en_ ec_; (first | subst ea_ | (injection ea_ with ea_; subst ea_)); subst ec_; clear en_))
        have GB24 := Aside0.mk gb24
        have GG24 := Aside0.mk HG24
        clear gb24 gl24 HG24
        (first | simp only [add_plain] at hx441_0 | skip)
        (first | simp only [add_plain] at hx441_1 | skip)
        (first | simp only [add_plain] at hx445_0 | skip)
        (first | simp only [add_plain] at hx445_1 | skip)
        obtain ⟨ce24, hcl24, hM24, hcc24, hfr24⟩ := Kd.R_elem HO437.out z49 (t438 : Int) p24 q24
        obtain rfl := k49_openM hM24
        have hx24_0 : World.cell? _ ⟨go24, (t438 : Int).toNat * 2, none⟩ = some (.int .i64 ((rd_T49 y435 t438).f0)) := hcc24 0 _ rfl
        have hx24_1 : World.cell? _ ⟨go24, (t438 : Int).toNat * 2 + 1, none⟩ = some (.int .i64 ((rd_T49 y435 t438).f1)) := hcc24 1 _ rfl
        have hf24_0 : World.frozen? _ ⟨go24, (t438 : Int).toNat * 2, none⟩ = false := hfr24 0
        have hf24_1 : World.frozen? _ ⟨go24, (t438 : Int).toNat * 2 + 1, none⟩ = false := hfr24 1
        clear hcl24 hcc24 hfr24 hM24
        replace p24 := eq_true p24
        replace q24 := eq_true q24
        have HN420_go24 := Aside0.mk (show g420 ≠ go24 from by have h_ := IsS62.own_ne HI420.out HO437.out (by decide); intro e_; exact h_ (by rw [e_]; rfl))
        obtain ⟨ce33, hcl33, hM33, hcc33, hfr33⟩ := Kd.R_elem HO437.out z49 (t438 : Int) (od_) (by have h_ : (t438 : Int) < ((y435.length : Int) : Int) := od_; first | exact h_ | (have e_ := (Kd.R_reads' HO437.out).1; omega) | simpa using h_)
        obtain rfl := k49_openM hM33
        have HP33 := (Kd.R_seg HO437.out (t438 : Int) (od_) (by have h_ : (t438 : Int) < ((y435.length : Int) : Int) := od_; first | exact h_ | (have e_ := (Kd.R_reads' HO437.out).1; omega) | simpa using h_) (seg := [.int .i64 (wrap64 ((wrap64 (((rd_T49 y435 t438).f0) + t442)) - 1)), .int .i64 ((rd_T49 y435 t438).f1)]) (j := 0) hcl33 hcc33 (show 2 ≤ 2 from by decide) (x' := (⟨wrap64 ((wrap64 (((rd_T49 y435 t438).f0) + t442)) - 1), (rd_T49 y435 t438).f1⟩ : S49)) (k49_mkM _ _ _ (⟨wrap64 ((wrap64 (((rd_T49 y435 t438).f0) + t442)) - 1), (rd_T49 y435 t438).f1⟩ : S49) ) (fun _ hk => hk)).1
        rw [← Ny446.out] at HP33
        have HQ33 := Aside0.mk HP33
        clear hcl33 hcc33 hfr33 hM33 HP33
        refine hK.out _ _ ⟨HS0_, HS1_, HS2_, HS3_⟩ (fun hHeld => ?_)
        clear hK K
        refine norm_ (a' := ?_) ?_ ?_
        rotate_left
        ·show Act.put _ (some 40) _ = _
         simp only [sp_]
         rfl
        refine pure_ (i := 9) (N := some 41) (v := ?_) (a' := ?_) #[true, true, true, true, true, true, true, true, true, true, false, true, true, true, true, true, false, false, false] rfl rfl (any_of HT_.out kr_) (fun _ _ _ h => h) (Or.inl ⟨by rfl, ?_⟩) ?_ ?_
        rotate_left
        ·intro w'
         go_simp
         with_reducible rfl
        rotate_left
        ·simp only [sp_]
         rfl
        refine pure_ (i := 10) (N := some 42) (v := ?_) (a' := ?_) #[true, true, true, true, true, true, true, true, true, true, true, true, true, true, true, true, false, false, false] rfl rfl (any_of HT_.out kr_) (fun _ _ _ h => h) (Or.inl ⟨by rfl, ?_⟩) ?_ ?_
        rotate_left
        ·intro w'
         go_simp
         with_reducible rfl
        rotate_left
        ·simp only [sp_]
         rfl
        refine pure_ (i := 16) (N := some 48) (v := ?_) (a' := ?_) #[true, true, true, true, true, true, true, true, true, true, true, true, true, true, true, true, true, false, false] rfl rfl (any_of HT_.out kr_) (fun _ _ _ h => h) (Or.inl ⟨by rfl, ?_⟩) ?_ ?_
        rotate_left
        ·intro w'
         go_simp
         with_reducible rfl
        rotate_left
        ·simp only [sp_]
         rfl
        refine pure_ (i := 17) (N := some 49) (v := ?_) (a' := ?_) #[true, true, true, true, true, true, true, true, true, true, true, true, true, true, true, true, true, true, false] rfl rfl (any_of HT_.out kr_) (fun _ _ _ h => h) (Or.inl ⟨by rfl, ?_⟩) ?_ ?_
        rotate_left
        ·intro w'
         go_simp
         with_reducible rfl
        rotate_left
        ·simp only [sp_]
         rfl
        refine last_ (i := 18) (N := none) #[true, true, true, true, true, true, true, true, true, true, true, true, true, true, true, true, true, true, true] rfl rfl (one_of HT_.out kr_) (by decide) (fun K hK => ?_)
        refine skip_ (w1 := ?_) (by rfl) rfl ?_ ?_
        rotate_left
        ·go_simp
         rfl
        refine hK.out _ _ ?_
        clear hK K
        refine done_ (done_of HT_.out kr_) ?_
        try go_wp2
        go_ret2
        exact ⟨_, _, er_, Kd.R_V (by (with_reducible repeat (first | apply Kd.R_alloc | apply Kd.R_drewN | apply Kd.R_drew)); exact Kd.R_mono (Kd.R_far (p := ⟨go24, (t438 : Int).toNat * 2 + 1, none⟩) (Kd.R_far (p := ⟨go24, (t438 : Int).toNat * 2, none⟩) (Kd.R_mono HO_5.out (fun k_ hk => (⟨hk, fun e_ => hk.2 (by rw [e_]; rfl)⟩ : _ ∧ k_ ≠ go24))) (fun _ hk => hk.2) (.int .i64 (wrap64 ((wrap64 (((rd_T49 y435 t438).f0) + t442)) - 1)))) (fun _ hk => hk.2) (.int .i64 ((rd_T49 y435 t438).f1))) (fun _ hk => hk.1.1)), Kd.R_V (by (with_reducible repeat (first | apply Kd.R_alloc | apply Kd.R_drewN | apply Kd.R_drew)); exact Kd.R_mono HQ33.out (fun _ hk => hk.1)), by repeat (first | (with_reducible first | exact HB.out | apply below_alloc | apply pw_below_drewN | apply below_drew1 | refine below_set ?_ GB24.out | refine below_set ?_ GB24.out | refine below_set ?_ (IsS62.ge HI420.out)) | exact HB.out)⟩
       ·rw [if_neg c22] at H
        exact absurd H (by simp)
      ·rw [if_neg c21] at H
       exact absurd H (by simp)
     ·rw [if_neg c19] at H
      exact absurd H (by simp)
    ·replace c18 := Bool.eq_false_iff.mpr c18
     subst c18
     have H1 : ((spec_l02Draw.f kj8 t417 x421001_8 x421002_8).bind fun bt447 => (some (t421, bt447.1))) = some (r1, r2) := by rw [if_neg (show ¬ (false = true) by decide)] at H; exact H
     clear H
     have H := H1
     clear H1
     replace H := Option.bind_eq_some_iff.mp H
     obtain ⟨⟨t447, t450, t451⟩, A340, H⟩ := H
     replace H : (some (t421, t447)) = some (r1, r2) := H
     have A34 := Aside0.mk A340
     clear A340
     simp only [Option.some.injEq, Prod.mk.injEq] at H
     obtain ⟨rfl, rfl⟩ := H
     go_wp2_with (first | ((with_reducible refine gate_callee (f := 30) rfl ?_); refine goesL_ (some 54) rfl rfl Try.func30 kr_ rfl #[.pointer (some ⟨g420, 0, none⟩)] rfl ta_ ?_; (with_reducible refine (spec_l02Draw.calls kj8 g420 t417 x421001_8 x421002_8 t447 t450 t451 w _ ?side1 ?side2 A34.out).mono ?_); (case side1 => exact is62_ HI420.out); (case side2 => repeat (first | (with_reducible first | exact HB.out | apply below_alloc | apply pw_below_drewN | apply below_drew1 | refine below_set ?_ (IsS62.ge HI420.out)) | exact HB.out)); rintro e w35 ⟨v448, rfl, ho0, hi, hb, hk⟩; refine ⟨_, rfl, ?_⟩; have n0_ := Aside0.mk (Kd.R_mono (Kd.R_told (Kd.R_oldK (IsS62.apart (show IsS62 w _ g420 t417 x421001_8 x421002_8 from is62_ HI420.out) (ra_ HO_5.out) (by decide)) hk) (Kd.R_base ho0)) (fun _ h_ => h_.1)); have n1_ := Aside0.mk (Kd.R_lower (Kd.R_new' (Kd.R_newM (M := fun k_ => (w.heap.size ≤ k_)) ho0 (below_size (by repeat (first | (with_reducible first | exact HB.out | apply below_alloc | apply pw_below_drewN | apply below_drew1 | refine below_set ?_ (IsS62.ge HI420.out)) | exact HB.out))) (fun k_ h_ => h_)) (Kd.R_lt (ra_ HO_5.out))) (below_size (by repeat (first | (with_reducible first | exact HB.out | apply below_alloc | apply pw_below_drewN | apply below_drew1 | refine below_set ?_ (IsS62.ge HI420.out)) | exact HB.out)))); have n2_ := Aside0.mk (hb); have n3_ := Aside0.mk (hi); clear HO_5; clear HB; clear HI420; have HO_5 := n0_; have HO449 := n1_; have HB := n2_; have HI420 := n3_; clear n0_ n1_ n2_ n3_; (try clear hb); (try clear hb2); (try clear hk); (try clear hi); (try clear ho0)))
     go_ret2
     exact ⟨_, _, er_, Kd.R_V (by (with_reducible repeat (first | apply Kd.R_alloc | apply Kd.R_drewN | apply Kd.R_drew)); exact Kd.R_mono HO_5.out (fun _ hk => hk.1)), Kd.R_V (by (with_reducible repeat (first | apply Kd.R_alloc | apply Kd.R_drewN | apply Kd.R_drew)); exact Kd.R_mono HO449.out (fun _ hk => hk.1.1)), by repeat (first | (with_reducible first | exact HB.out | apply below_alloc | apply pw_below_drewN | apply below_drew1 | refine below_set ?_ (IsS62.ge HI420.out)) | exact HB.out)⟩

/-! ### laws_likeCells: function 12 -/
def laws_likeCells.l0 : Nat → List (S49) → List (S49) → Int → Option (Bool)
 | 0, _, _, _ => none
 | k + 1, x0, x1, x5 => if x5 < (x0.length : Int) then (if 0 ≤ x5 then (if x5 < (x1.length : Int) then (if (!(((rd_T49 x0 x5).f0) == ((rd_T49 x1 x5).f0)) || (!(((rd_T49 x0 x5).f1) == ((rd_T49 x1 x5).f1)))) = true then (some false) else (laws_likeCells.l0 k x0 x1 (wrap64 (x5 + 1)))) else (none)) else (none)) else (some true)
def laws_likeCells.f (k : Nat) (l0 : List (S49)) (l1 : List (S49)) : Option (Bool) := if (l0.length : Int) = (l1.length : Int) then (laws_likeCells.l0 k l0 l1 0) else (some false)
theorem laws_likeCells.mono_l : ∀ k, (∀ y0 y1 y2, LeO (laws_likeCells.l0 k y0 y1 y2) (laws_likeCells.l0 (k + 1) y0 y1 y2))
 | 0 => fun _ _ _ r h => by simp [laws_likeCells.l0] at h
 | k + 1 => by
  have ih0 := laws_likeCells.mono_l k
  ·intro y0 y1 y2
   unfold laws_likeCells.l0
   repeat' first
   | (with_reducible exact ih0 _ _ _)
   | (with_reducible exact LeO.refl _)
   | (with_reducible exact LeO.none _)
   | (with_reducible refine LeO.ite ?_ ?_)
   | (with_reducible refine LeO.bind ?_ (fun _ => ?_))
   | exact ih0 _ _ _
   | exact LeO.none _
   | refine LeO.ite ?_ ?_
   | refine LeO.bind ?_ (fun _ => ?_)
theorem laws_likeCells.mono : ∀ a0 a1 k, LeO (laws_likeCells.f k a0 a1) (laws_likeCells.f (k + 1) a0 a1) := by
 intro a0 a1 k
 have ih0 := laws_likeCells.mono_l k
 unfold laws_likeCells.f
 repeat' first
   | (with_reducible exact ih0 _ _ _)
   | (with_reducible exact LeO.refl _)
   | (with_reducible exact LeO.none _)
   | (with_reducible refine LeO.ite ?_ ?_)
   | (with_reducible refine LeO.bind ?_ (fun _ => ?_))
   | exact ih0 _ _ _
   | exact LeO.none _
   | refine LeO.ite ?_ ?_
   | refine LeO.bind ?_ (fun _ => ?_)
set_option maxHeartbeats 8000000 in
set_option maxRecDepth 100000 in
theorem laws_likeCells.calls (k : Nat) (A0 : Option Addr) (c0 : Nat) (l0 : List (S49)) (A1 : Option Addr) (c1 : Nat) (l1 : List (S49)) (r : Bool) (w : World) (hr0 : Kd.C k49 w A0 l0.length l0) (hc0 : l0.length ≤ c0) (hr1 : Kd.C k49 w A1 l1.length l1) (hc1 : l1.length ≤ c1) (h : laws_likeCells.f k l0 l1 = some r) :
  Calls Try.prog 12 #[.slice A0 l0.length c0, .slice A1 l1.length c1] w fun e w' => e = .returned (.bool r) ∧ Drawn0 w w' := by
 have hu49 := Try.underlying49
 have HR0 := Aside0.mk hr0
 have HC0 := Aside0.mk hc0
 clear hr0 hc0
 have HR1 := Aside0.mk hr1
 have HC1 := Aside0.mk hc1
 clear hr1 hc1
 have H : (if (l0.length : Int) = (l1.length : Int) then (laws_likeCells.l0 k l0 l1 0) else (some false)) = some r := h
 clear h
 by_cases c3 : (l0.length : Int) = (l1.length : Int)
 ·rw [if_pos c3] at H
  have c3b0 : ((l0.length : Int) == (l1.length : Int)) = true := beq_iff_eq.mpr c3
  have c3b1 : ((l0.length : Int) != (l1.length : Int)) = false := bne_eq_false_iff_eq.mpr c3
  have c3b2 : (l0.length == l1.length) = true := by first | simpa using c3 | (simp at c3 ⊢; omega)
  clear c3
  have H' := Aside0.mk H
  clear H
  go_enter Try.func12, Try.ntmps12
  go_wp2
  repeat (go_quiet (fail); try go_wp2)
  go_loopg [5] k (fun kq v5 w' => ∃ (x5_1 : Int), v5 = .int .i64 x5_1 ∧ Aside0 (laws_likeCells.l0 kq l0 l1 x5_1 = some r) ∧ Aside0 (kq ≤ k) ∧ Drawn0 w w')
  case atStart => exact ⟨(0), rs_, H', ⟨Nat.le_refl _⟩, by repeat (first | exact Drawn0.refl _ | apply Drawn0.step)⟩
  case round =>
   clear H'
   try clear c1
   try clear p2
   try clear c3
   try clear c3b0
   try clear c3b1
   try clear c3b2
   obtain ⟨x5_1, rfl, HA, HK1, ⟨m1, rfl⟩⟩ := hrel
   cases gk with
   | zero => exact absurd HA.out (by simp [laws_likeCells.l0])
   | succ k1 =>
    have H := HA.out
    clear HA
    simp only [laws_likeCells.l0] at H
    by_cases c4 : x5_1 < (l0.length : Int)
    ·rw [if_pos c4] at H
     have c4b0 : decide (x5_1 < (l0.length : Int)) = true := decide_eq_true c4
     clear c4
     by_cases c5 : 0 ≤ x5_1
     ·rw [if_pos c5] at H
      have c5b0 : decide (0 ≤ x5_1) = true := decide_eq_true c5
      clear c5
      by_cases c6 : x5_1 < (l1.length : Int)
      ·rw [if_pos c6] at H
       have c6b0 : decide (x5_1 < (l1.length : Int)) = true := decide_eq_true c6
       clear c6
       by_cases c7 : (!(((rd_T49 l0 x5_1).f0) == ((rd_T49 l1 x5_1).f0)) || (!(((rd_T49 l0 x5_1).f1) == ((rd_T49 l1 x5_1).f1)))) = true
       ·rw [if_pos c7] at H
        have c7b0 : (!(((rd_T49 l0 x5_1).f0) == ((rd_T49 l1 x5_1).f0)) || (!(((rd_T49 l0 x5_1).f1) == ((rd_T49 l1 x5_1).f1)))) = true := c7
        clear c7
        obtain rfl := Option.some.inj H
        have p452 : 0 ≤ (x5_1 : Int) := od_
        have q452 : x5_1 < (l0.length : Int) := od_
        obtain ⟨ad452, e452, hx452_0, hx452_1⟩ := at_T49 HR0.out x5_1 p452 q452
        cases e452
        replace p452 := eq_true p452
        replace q452 := eq_true q452
        have p453 : 0 ≤ (x5_1 : Int) := od_
        have q453 : x5_1 < (l1.length : Int) := od_
        obtain ⟨ad453, e453, hx453_0, hx453_1⟩ := at_T49 HR1.out x5_1 p453 q453
        cases e453
        replace p453 := eq_true p453
        replace q453 := eq_true q453
        go_wp2
        repeat (go_quiet (fail); try go_wp2)
        go_ret
        exact ⟨by first | rfl | (simp; done) | (simp [*]; done), by repeat (first | exact Drawn0.refl _ | apply Drawn0.step)⟩
       ·rw [if_neg c7] at H
        have c7b0 : (!(((rd_T49 l0 x5_1).f0) == ((rd_T49 l1 x5_1).f0)) || (!(((rd_T49 l0 x5_1).f1) == ((rd_T49 l1 x5_1).f1)))) = false := by simpa using c7
        clear c7
        have H' := Aside0.mk H
        clear H
        have p452 : 0 ≤ (x5_1 : Int) := od_
        have q452 : x5_1 < (l0.length : Int) := od_
        obtain ⟨ad452, e452, hx452_0, hx452_1⟩ := at_T49 HR0.out x5_1 p452 q452
        cases e452
        replace p452 := eq_true p452
        replace q452 := eq_true q452
        have p453 : 0 ≤ (x5_1 : Int) := od_
        have q453 : x5_1 < (l1.length : Int) := od_
        obtain ⟨ad453, e453, hx453_0, hx453_1⟩ := at_T49 HR1.out x5_1 p453 q453
        cases e453
        replace p453 := eq_true p453
        replace q453 := eq_true q453
        go_wp2
        repeat (go_quiet (fail); try go_wp2)
        go_roundg k1
        case measure => have := HK1.out; omega
        case rel => exact ⟨(wrap64 (x5_1 + 1)), rs_, H', ⟨by have := HK1.out; omega⟩, by repeat (first | exact Drawn0.refl _ | apply Drawn0.step)⟩
      ·rw [if_neg c6] at H
       exact absurd H (by simp)
     ·rw [if_neg c5] at H
      exact absurd H (by simp)
    ·rw [if_neg c4] at H
     have c4b0 : decide (x5_1 < (l0.length : Int)) = false := decide_eq_false c4
     clear c4
     obtain rfl := Option.some.inj H
     go_wp2
     repeat (go_quiet (fail); try go_wp2)
     go_ret
     exact ⟨by first | rfl | (simp; done) | (simp [*]; done), by repeat (first | exact Drawn0.refl _ | apply Drawn0.step)⟩
 ·rw [if_neg c3] at H
  have c3b0 : ((l0.length : Int) == (l1.length : Int)) = false := beq_eq_false_iff_ne.mpr c3
  have c3b1 : ((l0.length : Int) != (l1.length : Int)) = true := bne_iff_ne.mpr c3
  have c3b2 : (l0.length == l1.length) = false := by first | simpa using c3 | (simp at c3 ⊢; omega)
  obtain rfl := Option.some.inj H
  go_enter Try.func12, Try.ntmps12
  go_wp2
  repeat (go_quiet (fail); try go_wp2)
  go_ret
  exact ⟨by first | rfl | (simp; done) | (simp [*]; done), by repeat (first | exact Drawn0.refl _ | apply Drawn0.step)⟩

/-! ### impl_CompareShapes: function 13 -/
def impl_CompareShapes.f (l0 : List (S49)) (l1 : List (S49)) : Option (Int) := (impl_compareShapes.f l0 l1).bind fun t454 => (some t454)
set_option maxHeartbeats 8000000 in
set_option maxRecDepth 100000 in
theorem impl_CompareShapes.calls (A0 : Option Addr) (c0 : Nat) (l0 : List (S49)) (A1 : Option Addr) (c1 : Nat) (l1 : List (S49)) (r : Int) (w : World) (hr0 : Kd.C k49 w A0 l0.length l0) (hc0 : l0.length ≤ c0) (hr1 : Kd.C k49 w A1 l1.length l1) (hc1 : l1.length ≤ c1) (h : impl_CompareShapes.f l0 l1 = some r) :
  Calls Try.prog 13 #[.slice A0 l0.length c0, .slice A1 l1.length c1] w fun e w' => e = .returned (.int .i64 r) ∧ Below w.heap.size w w' := by
 have HR0 := Aside0.mk hr0
 have HC0 := Aside0.mk hc0
 clear hr0 hc0
 have HR1 := Aside0.mk hr1
 have HC1 := Aside0.mk hc1
 clear hr1 hc1
 have HB := Aside0.mk (Below.refl w.heap.size w)
 have H : ((impl_compareShapes.f l0 l1).bind fun t454 => (some t454)) = some r := h
 clear h
 replace H := Option.bind_eq_some_iff.mp H
 obtain ⟨t454, A30, H⟩ := H
 replace H : (some t454) = some r := H
 have A3 := Aside0.mk A30
 clear A30
 obtain rfl := Option.some.inj H
 go_enter Try.func13, Try.ntmps13
 go_wp2_with (first | ((with_reducible refine gate_callee (f := 32) rfl ?_); refine goesL_ (some 7) rfl rfl Try.func32 kr_ rfl #[.slice A0 l0.length c0, .slice A1 l1.length c1] rfl ta_ ?_; (with_reducible refine (impl_compareShapes.calls _ _ l0 _ _ l1 t454 _ ?side1 ?side2 ?side3 ?side4 A3.out).mono ?_); (case side1 => exact ca_ HR0.out); (case side2 => exact HC0.out); (case side3 => exact ca_ HR1.out); (case side4 => exact HC1.out); rintro e w4 ⟨rfl, hb⟩; refine ⟨_, rfl, ?_⟩; have n0_ := Aside0.mk (below_step (bl0_) hb); clear HB; have HB := n0_; clear n0_; (try clear hb); (try clear hb2); (try clear hk); (try clear hi)))
 go_ret
 exact ⟨er_, bl0_⟩

/-! ### impl_isTurn: function 35 -/
def impl_isTurn.f (a0 : Int) : Option (Bool) := (impl_within.f a0 0 7).bind fun t455 => (some t455)
set_option maxHeartbeats 8000000 in
set_option maxRecDepth 100000 in
theorem impl_isTurn.calls (a0 : Int) (r : Bool) (w : World) (h : impl_isTurn.f a0 = some r) :
  Calls Try.prog 35 #[.int .i64 a0] w fun e w' => e = .returned (.bool r) ∧ Drawn0 w w' := by
 have H : ((impl_within.f a0 0 7).bind fun t455 => (some t455)) = some r := h
 clear h
 replace H := Option.bind_eq_some_iff.mp H
 obtain ⟨t455, A20, H⟩ := H
 replace H : (some t455) = some r := H
 have A2 := Aside0.mk A20
 clear A20
 obtain rfl := Option.some.inj H
 go_enter Try.func35, Try.ntmps35
 go_wp2_with (first | ((with_reducible refine gate_callee (f := 51) rfl ?_); refine goesL_ (some 4) rfl rfl Try.func51 kr_ rfl #[.int .i64 a0, .int .i64 0, .int .i64 7] rfl ta_ ?_; (with_reducible refine (impl_within.calls a0 0 7 t455 _ A2.out).mono ?_); rintro e w' ⟨rfl, ⟨nd, rfl⟩⟩; refine ⟨_, rfl, ?_⟩))
 go_ret
 exact ⟨by first | rfl | (simp; done) | (simp [*]; done), by repeat (first | exact Drawn0.refl _ | apply Drawn0.step)⟩

/-! ### impl_TurnShape: function 15 -/
def impl_TurnShape.f (k : Nat) (l0 : List (S49)) (a1 : Int) : Option ((List (S49)) × Int) := (impl_IsShape.f k l0).bind fun t456 => (if t456 = true then ((impl_isTurn.f a1).bind fun t457 => (if t457 = true then ((impl_shapeCode.f k l0).bind fun t458 => (if t458 = 0 then ((impl_form.f k l0 a1).bind fun t459 => (some (t459, 0))) else (some (([] : List (S49)), t458)))) else (some (([] : List (S49)), 2)))) else (some (([] : List (S49)), 1)))
theorem impl_TurnShape.mono : ∀ a0 a1 k, LeO (impl_TurnShape.f k a0 a1) (impl_TurnShape.f (k + 1) a0 a1) := by
 intro a0 a1 k
 unfold impl_TurnShape.f
 repeat' first
   | (with_reducible exact impl_IsShape.mono _ _)
   | (with_reducible exact impl_form.mono _ _ _)
   | (with_reducible exact impl_shapeCode.mono _ _)
   | (with_reducible exact LeO.refl _)
   | (with_reducible exact LeO.none _)
   | (with_reducible refine LeO.ite ?_ ?_)
   | (with_reducible refine LeO.bind ?_ (fun _ => ?_))
   | exact impl_IsShape.mono _ _
   | exact impl_form.mono _ _ _
   | exact impl_shapeCode.mono _ _
   | exact LeO.none _
   | refine LeO.ite ?_ ?_
   | refine LeO.bind ?_ (fun _ => ?_)
set_option maxHeartbeats 8000000 in
set_option maxRecDepth 100000 in
theorem impl_TurnShape.calls (k : Nat) (A0 : Option Addr) (c0 : Nat) (l0 : List (S49)) (a1 : Int) (r1 : List (S49)) (r2 : Int) (w : World) (hr0 : Kd.C k49 w A0 l0.length l0) (hc0 : l0.length ≤ c0) (h : impl_TurnShape.f k l0 a1 = some (r1, r2)) :
  Calls Try.prog 15 #[.slice A0 l0.length c0, .int .i64 a1] w fun e w' => ∃ v0_ : Value, e = .returned (.tuple #[v0_, .int .i64 r2]) ∧ Kd.R k49 49 w' w.heap.size (fun _ => True) v0_ r1 ∧ Below w.heap.size w w' := by
 have HR0 := Aside0.mk hr0
 have HC0 := Aside0.mk hc0
 clear hr0 hc0
 have HB := Aside0.mk (Below.refl w.heap.size w)
 have H : ((impl_IsShape.f k l0).bind fun t456 => (if t456 = true then ((impl_isTurn.f a1).bind fun t457 => (if t457 = true then ((impl_shapeCode.f k l0).bind fun t458 => (if t458 = 0 then ((impl_form.f k l0 a1).bind fun t459 => (some (t459, 0))) else (some (([] : List (S49)), t458)))) else (some (([] : List (S49)), 2)))) else (some (([] : List (S49)), 1)))) = some (r1, r2) := h
 clear h
 replace H := Option.bind_eq_some_iff.mp H
 obtain ⟨t456, A30, H⟩ := H
 replace H : (if t456 = true then ((impl_isTurn.f a1).bind fun t457 => (if t457 = true then ((impl_shapeCode.f k l0).bind fun t458 => (if t458 = 0 then ((impl_form.f k l0 a1).bind fun t459 => (some (t459, 0))) else (some (([] : List (S49)), t458)))) else (some (([] : List (S49)), 2)))) else (some (([] : List (S49)), 1))) = some (r1, r2) := H
 have A3 := Aside0.mk A30
 clear A30
 by_cases c4 : t456 = true
 ·subst c4
  have H1 : ((impl_isTurn.f a1).bind fun t457 => (if t457 = true then ((impl_shapeCode.f k l0).bind fun t458 => (if t458 = 0 then ((impl_form.f k l0 a1).bind fun t459 => (some (t459, 0))) else (some (([] : List (S49)), t458)))) else (some (([] : List (S49)), 2)))) = some (r1, r2) := by rw [if_pos rfl] at H; exact H
  clear H
  have H := H1
  clear H1
  replace H := Option.bind_eq_some_iff.mp H
  obtain ⟨t457, A50, H⟩ := H
  replace H : (if t457 = true then ((impl_shapeCode.f k l0).bind fun t458 => (if t458 = 0 then ((impl_form.f k l0 a1).bind fun t459 => (some (t459, 0))) else (some (([] : List (S49)), t458)))) else (some (([] : List (S49)), 2))) = some (r1, r2) := H
  have A5 := Aside0.mk A50
  clear A50
  by_cases c6 : t457 = true
  ·subst c6
   have H1 : ((impl_shapeCode.f k l0).bind fun t458 => (if t458 = 0 then ((impl_form.f k l0 a1).bind fun t459 => (some (t459, 0))) else (some (([] : List (S49)), t458)))) = some (r1, r2) := by rw [if_pos rfl] at H; exact H
   clear H
   have H := H1
   clear H1
   replace H := Option.bind_eq_some_iff.mp H
   obtain ⟨t458, A70, H⟩ := H
   replace H : (if t458 = 0 then ((impl_form.f k l0 a1).bind fun t459 => (some (t459, 0))) else (some (([] : List (S49)), t458))) = some (r1, r2) := H
   have A7 := Aside0.mk A70
   clear A70
   by_cases c8 : t458 = 0
   ·rw [if_pos c8] at H
    have c8b0 : (t458 == 0) = true := beq_iff_eq.mpr c8
    have c8b1 : (t458 != 0) = false := bne_eq_false_iff_eq.mpr c8
    clear c8
    replace H := Option.bind_eq_some_iff.mp H
    obtain ⟨t459, A90, H⟩ := H
    replace H : (some (t459, 0)) = some (r1, r2) := H
    have A9 := Aside0.mk A90
    clear A90
    simp only [Option.some.injEq, Prod.mk.injEq] at H
    obtain ⟨rfl, rfl⟩ := H
    go_enter Try.func15, Try.ntmps15
    go_wp2_with (first | ((with_reducible refine gate_callee (f := 34) rfl ?_); refine goesL_ (some 8) rfl rfl Try.func34 kr_ rfl #[.slice A0 l0.length c0] rfl ta_ ?_; (with_reducible refine (impl_IsShape.calls k _ _ l0 true _ ?side1 ?side2 A3.out).mono ?_); (case side1 => exact ca_ HR0.out); (case side2 => exact HC0.out); rintro e w10 ⟨rfl, hb⟩; refine ⟨_, rfl, ?_⟩; have n0_ := Aside0.mk (below_step (bl0_) hb); clear HB; have HB := n0_; clear n0_; (try clear hb); (try clear hb2); (try clear hk); (try clear hi)) | ((with_reducible refine gate_callee (f := 35) rfl ?_); refine goesL_ (some 11) rfl rfl Try.func35 kr_ rfl #[.int .i64 a1] rfl ta_ ?_; (with_reducible refine (impl_isTurn.calls a1 true _ A5.out).mono ?_); rintro e w' ⟨rfl, ⟨nd, rfl⟩⟩; refine ⟨_, rfl, ?_⟩) | ((with_reducible refine gate_callee (f := 23) rfl ?_); refine goesL_ (some 14) rfl rfl Try.func23 kr_ rfl #[.slice A0 l0.length c0] rfl ta_ ?_; (with_reducible refine (impl_shapeCode.calls k _ _ l0 t458 _ ?side1 ?side2 A7.out).mono ?_); (case side1 => repeat (first | exact (Kd.C_below HR0.out (bl0_)) | (with_reducible refine Kd.C_alloc ?_ _) | (with_reducible refine Kd.C_drewN ?_ _) | (with_reducible refine Kd.C_drew ?_))); (case side2 => exact HC0.out); rintro e w11 ⟨rfl, hb⟩; refine ⟨_, rfl, ?_⟩; have n0_ := Aside0.mk (below_step (bl0_) hb); clear HB; have HB := n0_; clear n0_; (try clear hb); (try clear hb2); (try clear hk); (try clear hi)) | ((with_reducible refine gate_callee (f := 36) rfl ?_); refine goesL_ (some 20) rfl rfl Try.func36 kr_ rfl #[.slice A0 l0.length c0, .int .i64 a1] rfl ta_ ?_; (with_reducible refine (impl_form.calls k _ _ l0 a1 t459 _ ?side1 ?side2 A9.out).mono ?_); (case side1 => exact ca_ (Kd.C_below HR0.out HB.out)); (case side2 => exact HC0.out); rintro e w12 ⟨v460, rfl, ho0, hb⟩; refine ⟨_, rfl, ?_⟩; have n0_ := Aside0.mk (Kd.R_lower ho0 (below_size (bl0_))); have n1_ := Aside0.mk (below_step (bl0_) hb); clear HB; have HO461 := n0_; have HB := n1_; clear n0_ n1_; (try clear hb); (try clear hb2); (try clear hk); (try clear hi); (try clear ho0)))
    go_ret2
    exact ⟨_, er_, ra_ HO461.out, bl0_⟩
   ·rw [if_neg c8] at H
    have c8b0 : (t458 == 0) = false := beq_eq_false_iff_ne.mpr c8
    have c8b1 : (t458 != 0) = true := bne_iff_ne.mpr c8
    simp only [Option.some.injEq, Prod.mk.injEq] at H
    obtain ⟨rfl, rfl⟩ := H
    go_enter Try.func15, Try.ntmps15
    go_wp2_with (first | ((with_reducible refine gate_callee (f := 34) rfl ?_); refine goesL_ (some 8) rfl rfl Try.func34 kr_ rfl #[.slice A0 l0.length c0] rfl ta_ ?_; (with_reducible refine (impl_IsShape.calls k _ _ l0 true _ ?side1 ?side2 A3.out).mono ?_); (case side1 => exact ca_ HR0.out); (case side2 => exact HC0.out); rintro e w13 ⟨rfl, hb⟩; refine ⟨_, rfl, ?_⟩; have n0_ := Aside0.mk (below_step (bl0_) hb); clear HB; have HB := n0_; clear n0_; (try clear hb); (try clear hb2); (try clear hk); (try clear hi)) | ((with_reducible refine gate_callee (f := 35) rfl ?_); refine goesL_ (some 11) rfl rfl Try.func35 kr_ rfl #[.int .i64 a1] rfl ta_ ?_; (with_reducible refine (impl_isTurn.calls a1 true _ A5.out).mono ?_); rintro e w' ⟨rfl, ⟨nd, rfl⟩⟩; refine ⟨_, rfl, ?_⟩) | ((with_reducible refine gate_callee (f := 23) rfl ?_); refine goesL_ (some 14) rfl rfl Try.func23 kr_ rfl #[.slice A0 l0.length c0] rfl ta_ ?_; (with_reducible refine (impl_shapeCode.calls k _ _ l0 t458 _ ?side1 ?side2 A7.out).mono ?_); (case side1 => repeat (first | exact (Kd.C_below HR0.out (bl0_)) | (with_reducible refine Kd.C_alloc ?_ _) | (with_reducible refine Kd.C_drewN ?_ _) | (with_reducible refine Kd.C_drew ?_))); (case side2 => exact HC0.out); rintro e w14 ⟨rfl, hb⟩; refine ⟨_, rfl, ?_⟩; have n0_ := Aside0.mk (below_step (bl0_) hb); clear HB; have HB := n0_; clear n0_; (try clear hb); (try clear hb2); (try clear hk); (try clear hi)))
    go_ret2
    exact ⟨_, er_, by first | exact Kd.R_nil _ _ _ _ _ | exact Kd.N_nil _ _ _ _ _ | exact Kd.V_nil _ _ _ _ _ | exact Kd.Q_nil _ _ _ _ _ | exact Kd.S_nil _ _ _ _ _, bl0_⟩
  ·replace c6 := Bool.eq_false_iff.mpr c6
   subst c6
   have H1 : (some (([] : List (S49)), 2)) = some (r1, r2) := by rw [if_neg (show ¬ (false = true) by decide)] at H; exact H
   clear H
   have H := H1
   clear H1
   simp only [Option.some.injEq, Prod.mk.injEq] at H
   obtain ⟨rfl, rfl⟩ := H
   go_enter Try.func15, Try.ntmps15
   go_wp2_with (first | ((with_reducible refine gate_callee (f := 34) rfl ?_); refine goesL_ (some 8) rfl rfl Try.func34 kr_ rfl #[.slice A0 l0.length c0] rfl ta_ ?_; (with_reducible refine (impl_IsShape.calls k _ _ l0 true _ ?side1 ?side2 A3.out).mono ?_); (case side1 => exact ca_ HR0.out); (case side2 => exact HC0.out); rintro e w15 ⟨rfl, hb⟩; refine ⟨_, rfl, ?_⟩; have n0_ := Aside0.mk (below_step (bl0_) hb); clear HB; have HB := n0_; clear n0_; (try clear hb); (try clear hb2); (try clear hk); (try clear hi)) | ((with_reducible refine gate_callee (f := 35) rfl ?_); refine goesL_ (some 11) rfl rfl Try.func35 kr_ rfl #[.int .i64 a1] rfl ta_ ?_; (with_reducible refine (impl_isTurn.calls a1 false _ A5.out).mono ?_); rintro e w' ⟨rfl, ⟨nd, rfl⟩⟩; refine ⟨_, rfl, ?_⟩))
   go_ret2
   exact ⟨_, er_, by first | exact Kd.R_nil _ _ _ _ _ | exact Kd.N_nil _ _ _ _ _ | exact Kd.V_nil _ _ _ _ _ | exact Kd.Q_nil _ _ _ _ _ | exact Kd.S_nil _ _ _ _ _, bl0_⟩
 ·replace c4 := Bool.eq_false_iff.mpr c4
  subst c4
  have H1 : (some (([] : List (S49)), 1)) = some (r1, r2) := by rw [if_neg (show ¬ (false = true) by decide)] at H; exact H
  clear H
  have H := H1
  clear H1
  simp only [Option.some.injEq, Prod.mk.injEq] at H
  obtain ⟨rfl, rfl⟩ := H
  go_enter Try.func15, Try.ntmps15
  go_wp2_with (first | ((with_reducible refine gate_callee (f := 34) rfl ?_); refine goesL_ (some 8) rfl rfl Try.func34 kr_ rfl #[.slice A0 l0.length c0] rfl ta_ ?_; (with_reducible refine (impl_IsShape.calls k _ _ l0 false _ ?side1 ?side2 A3.out).mono ?_); (case side1 => exact ca_ HR0.out); (case side2 => exact HC0.out); rintro e w16 ⟨rfl, hb⟩; refine ⟨_, rfl, ?_⟩; have n0_ := Aside0.mk (below_step (bl0_) hb); clear HB; have HB := n0_; clear n0_; (try clear hb); (try clear hb2); (try clear hk); (try clear hi)))
  go_ret2
  exact ⟨_, er_, by first | exact Kd.R_nil _ _ _ _ _ | exact Kd.N_nil _ _ _ _ _ | exact Kd.V_nil _ _ _ _ _ | exact Kd.Q_nil _ _ _ _ _ | exact Kd.S_nil _ _ _ _ _, bl0_⟩

end Go.Proofs.Ytaaodakmelihaaa.PFnOneSided
