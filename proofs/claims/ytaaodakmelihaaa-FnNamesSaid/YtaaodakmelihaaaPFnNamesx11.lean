/- Over the kit's printer by a driver of mine (hprint.py), with parts by hand: functions of the program as Lean functions, and that each call comes to exactly these answers. -/
import Derived.Test.YtaaodakmelihaaaPFnNamesx0
import Derived.Test.YtaaodakmelihaaaPFnNamesx4
import Derived.Test.YtaaodakmelihaaaPFnNamesx5
import Derived.Test.YtaaodakmelihaaaPFnNamesx6
import Derived.Test.YtaaodakmelihaaaPFnNamesx7
import Derived.Test.YtaaodakmelihaaaPFnNamesx10
namespace Go.Proofs.Ytaaodakmelihaaa.PFnNames
open Go.RowKit Go.Proofs.YtaaodakmelihaaaW.PrintWords Go.Proofs.YtaaodakmelihaaaW.PrintLast Go.Proofs.YtaaodakmelihaaaW.PrintMore
attribute [local go_sem] max2_int min2_int max_two min_two max_three min_three max_four min_four   -- for this text's walks alone
set_option linter.unusedVariables false
set_option linter.unusedSimpArgs false

/-! ### spec_DrawNormalForm: function 22 -/
def spec_DrawNormalForm.f (k : Nat) (l0 : List Int) : Option ((List (S49))) := (spec_l01From.f k l0).bind fun bt329 => ((spec_l02Draw.f k bt329.1 bt329.2.1 bt329.2.2).bind fun bt333 => ((spec_l01Next.f bt329.1 bt333.2.1 bt333.2.2 24).bind fun bt338 => (if bt338.1 = 0 then ((spec_l01Next.f bt329.1 bt338.2.1 bt338.2.2 2).bind fun bt341 => (some (([(⟨(-60), 0⟩ : S49), (⟨wrap64 (40 + bt341.1), 0⟩ : S49)] : List (S49))))) else (some bt333.1))))
theorem spec_DrawNormalForm.mono : ∀ a0 k, LeO (spec_DrawNormalForm.f k a0) (spec_DrawNormalForm.f (k + 1) a0) := by
 intro a0 k
 unfold spec_DrawNormalForm.f
 repeat' first
   | (with_reducible exact spec_l01From.mono _ _)
   | (with_reducible exact spec_l02Draw.mono _ _ _ _)
   | (with_reducible exact LeO.refl _)
   | (with_reducible exact LeO.none _)
   | (with_reducible refine LeO.ite ?_ ?_)
   | (with_reducible refine LeO.bind ?_ (fun _ => ?_))
   | exact spec_l01From.mono _ _
   | exact spec_l02Draw.mono _ _ _ _
   | exact LeO.none _
   | refine LeO.ite ?_ ?_
   | refine LeO.bind ?_ (fun _ => ?_)
set_option maxHeartbeats 8000000 in
set_option maxRecDepth 100000 in
theorem spec_DrawNormalForm.calls (k : Nat) (A0 : Option Addr) (c0 : Nat) (l0 : List Int) (r : List (S49)) (w : World) (hr0 : Kd.C (Kd.int .u8) w A0 l0.length l0) (hc0 : l0.length ≤ c0) (h : spec_DrawNormalForm.f k l0 = some r) :
  Calls Try.prog 22 #[.slice A0 l0.length c0] w fun e w' => ∃ v0_ : Value, e = .returned (v0_) ∧ Kd.R k49 49 w' w.heap.size (fun _ => True) v0_ r ∧ Below w.heap.size w w' := by
 have hu49 := Try.underlying49
 have HR0 := Aside0.mk hr0
 have HC0 := Aside0.mk hc0
 clear hr0 hc0
 have HB := Aside0.mk (Below.refl w.heap.size w)
 have H : ((spec_l01From.f k l0).bind fun bt329 => ((spec_l02Draw.f k bt329.1 bt329.2.1 bt329.2.2).bind fun bt333 => ((spec_l01Next.f bt329.1 bt333.2.1 bt333.2.2 24).bind fun bt338 => (if bt338.1 = 0 then ((spec_l01Next.f bt329.1 bt338.2.1 bt338.2.2 2).bind fun bt341 => (some (([(⟨(-60), 0⟩ : S49), (⟨wrap64 (40 + bt341.1), 0⟩ : S49)] : List (S49))))) else (some bt333.1))))) = some r := h
 clear h
 replace H := Option.bind_eq_some_iff.mp H
 obtain ⟨⟨t329, t330, t331⟩, A20, H⟩ := H
 replace H : ((spec_l02Draw.f k t329 t330 t331).bind fun bt333 => ((spec_l01Next.f t329 bt333.2.1 bt333.2.2 24).bind fun bt338 => (if bt338.1 = 0 then ((spec_l01Next.f t329 bt338.2.1 bt338.2.2 2).bind fun bt341 => (some (([(⟨(-60), 0⟩ : S49), (⟨wrap64 (40 + bt341.1), 0⟩ : S49)] : List (S49))))) else (some bt333.1)))) = some r := H
 have A2 := Aside0.mk A20
 clear A20
 replace H := Option.bind_eq_some_iff.mp H
 obtain ⟨⟨t333, t336, t337⟩, A30, H⟩ := H
 replace H : ((spec_l01Next.f t329 t336 t337 24).bind fun bt338 => (if bt338.1 = 0 then ((spec_l01Next.f t329 bt338.2.1 bt338.2.2 2).bind fun bt341 => (some (([(⟨(-60), 0⟩ : S49), (⟨wrap64 (40 + bt341.1), 0⟩ : S49)] : List (S49))))) else (some t333))) = some r := H
 have A3 := Aside0.mk A30
 clear A30
 replace H := Option.bind_eq_some_iff.mp H
 obtain ⟨⟨t338, t339, t340⟩, A40, H⟩ := H
 replace H : (if t338 = 0 then ((spec_l01Next.f t329 t339 t340 2).bind fun bt341 => (some (([(⟨(-60), 0⟩ : S49), (⟨wrap64 (40 + bt341.1), 0⟩ : S49)] : List (S49))))) else (some t333)) = some r := H
 have A4 := Aside0.mk A40
 clear A40
 by_cases c5 : t338 = 0
 ·rw [if_pos c5] at H
  have c5b0 : (t338 == 0) = true := beq_iff_eq.mpr c5
  have c5b1 : (t338 != 0) = false := bne_eq_false_iff_eq.mpr c5
  clear c5
  replace H := Option.bind_eq_some_iff.mp H
  obtain ⟨⟨t341, t342, t343⟩, A60, H⟩ := H
  replace H : (some (([(⟨(-60), 0⟩ : S49), (⟨wrap64 (40 + t341), 0⟩ : S49)] : List (S49)))) = some r := H
  have A6 := Aside0.mk A60
  clear A60
  obtain ⟨y344, hy344⟩ : ∃ y_ : List (S49), y_ = (([(⟨(-60), 0⟩ : S49), (⟨wrap64 (40 + t341), 0⟩ : S49)] : List (S49))) := ⟨_, rfl⟩
  replace H : (some y344) = some r := by first | (rw [hy344]; with_reducible exact H) | (have H2_ := (Option.bind_some _ _).symm.trans H; rw [hy344]; with_reducible exact H2_) | (have H2_ := (Option.bind_some _ _).symm.trans H; with_reducible exact H2_) | with_reducible exact H | (rw [hy344]; exact H) | exact H
  have Ny344 := Aside0.mk hy344
  clear hy344
  obtain rfl := Option.some.inj H
  go_enter Try.func22, Try.ntmps22
  go_wp2_with (first | ((with_reducible refine gate_callee (f := 29) rfl ?_); refine goesL_ (some 6) rfl rfl Try.func29 kr_ rfl #[.slice A0 l0.length c0] rfl ta_ ?_; (with_reducible refine (spec_l01From.calls k _ _ l0 t329 t330 t331 w _ ?side1 ?side2 ?side3 A2.out).mono ?_); (case side1 => repeat (first | (with_reducible first | exact HB.out | apply below_alloc | apply pw_below_drewN | apply below_drew1) | exact HB.out)); (case side2 => exact HR0.out); (case side3 => exact HC0.out); rintro e w7 ⟨g332, rfl, hi, hb, hb2⟩; refine ⟨_, rfl, ?_⟩; have n0_ := Aside0.mk (hb); have n1_ := Aside0.mk (hi); clear HB; have HB := n0_; have HI332 := n1_; clear n0_ n1_; (try clear hb); (try clear hb2); (try clear hk); (try clear hi)) | ((with_reducible refine gate_callee (f := 30) rfl ?_); refine goesL_ (some 8) rfl rfl Try.func30 kr_ rfl #[.pointer (some ⟨g332, 0, none⟩)] rfl ta_ ?_; (with_reducible refine (spec_l02Draw.calls k g332 t329 t330 t331 t333 t336 t337 w _ ?side1 ?side2 A3.out).mono ?_); (case side1 => exact is62_ HI332.out); (case side2 => repeat (first | (with_reducible first | exact HB.out | apply below_alloc | apply pw_below_drewN | apply below_drew1 | refine below_set ?_ (IsS62.ge HI332.out)) | exact HB.out)); rintro e w8 ⟨v334, rfl, ho0, hi, hb, hk⟩; refine ⟨_, rfl, ?_⟩; have n0_ := Aside0.mk (Kd.R_lower ho0 (below_size (by repeat (first | (with_reducible first | exact HB.out | apply below_alloc | apply pw_below_drewN | apply below_drew1 | refine below_set ?_ (IsS62.ge HI332.out)) | exact HB.out)))); have n1_ := Aside0.mk (hb); have n2_ := Aside0.mk (hi); clear HB; clear HI332; have HO335 := n0_; have HB := n1_; have HI332 := n2_; clear n0_ n1_ n2_; (try clear hb); (try clear hb2); (try clear hk); (try clear hi); (try clear ho0)) | ((with_reducible refine gate_callee (f := 31) rfl ?_); refine goesL_ (some 10) rfl rfl Try.func31 kr_ rfl #[.pointer (some ⟨g332, 0, none⟩), .int .i64 24] rfl ta_ ?_; (with_reducible refine (spec_l01Next.calls g332 t329 t336 t337 24 t338 t339 t340 w _ ?side1 ?side2 A4.out).mono ?_); (case side1 => exact is62_ HI332.out); (case side2 => repeat (first | (with_reducible first | exact HB.out | apply below_alloc | apply pw_below_drewN | apply below_drew1 | refine below_set ?_ (IsS62.ge HI332.out)) | exact HB.out)); rintro e w9 ⟨rfl, hi, hb, hk⟩; refine ⟨_, rfl, ?_⟩; have n0_ := Aside0.mk (Kd.R_mono (Kd.R_keep (IsS62.apart (show IsS62 w _ g332 t329 t336 t337 from is62_ HI332.out) (ra_ HO335.out) (by decide)) hk (fun _ h => h.2)) (fun _ h => h.1)); have n1_ := Aside0.mk (hb); have n2_ := Aside0.mk (hi); clear HO335; clear HB; clear HI332; have HO335 := n0_; have HB := n1_; have HI332 := n2_; clear n0_ n1_ n2_; (try clear hb); (try clear hb2); (try clear hk); (try clear hi)) | ((with_reducible refine gate_callee (f := 31) rfl ?_); refine goesL_ (some 14) rfl rfl Try.func31 kr_ rfl #[.pointer (some ⟨g332, 0, none⟩), .int .i64 2] rfl ta_ ?_; (with_reducible refine (spec_l01Next.calls g332 t329 t339 t340 2 t341 t342 t343 w _ ?side1 ?side2 A6.out).mono ?_); (case side1 => exact is62_ HI332.out); (case side2 => repeat (first | (with_reducible first | exact HB.out | apply below_alloc | apply pw_below_drewN | apply below_drew1 | refine below_set ?_ (IsS62.ge HI332.out)) | exact HB.out)); rintro e w10 ⟨rfl, hi, hb, hk⟩; refine ⟨_, rfl, ?_⟩; have n0_ := Aside0.mk (Kd.R_mono (Kd.R_keep (IsS62.apart (show IsS62 w _ g332 t329 t339 t340 from is62_ HI332.out) (ra_ HO335.out) (by decide)) hk (fun _ h => h.2)) (fun _ h => h.1)); have n1_ := Aside0.mk (hb); have n2_ := Aside0.mk (hi); clear HO335; clear HB; clear HI332; have HO335 := n0_; have HB := n1_; have HI332 := n2_; clear n0_ n1_ n2_; (try clear hb); (try clear hb2); (try clear hk); (try clear hi)) | ((with_reducible refine gate_dst (N := 17) rfl ?_); refine Kd.R_lit k49 _ 49 ?hg (N := 17) ?hd (xs := ([(⟨(-60), 0⟩ : S49), (⟨wrap64 (40 + t341), 0⟩ : S49)] : List (S49))) (inner := [.int .i64 (-60), .int .i64 0, .int .i64 (wrap64 (40 + t341)), .int .i64 0]) (ok := fun _ => True) (okp := fun _ => True) ?hr ?hp (fun _ hk => hk) trivial (Below.refl _ _) (Nat.le_refl _) (by simp) ?_; (case hd => rfl); (case hg => rfl); (case hr => first | (go_simp; done) | (go_simp; rfl)); (case hp => exact (Reps.c2 (show Kd.M k49 _ _ _ (⟨(-60), 0⟩ : S49) [.int .i64 (-60), .int .i64 0] from (k49_mkM _ _ _ (⟨(-60), 0⟩ : S49) )) (Reps.c2 (show Kd.M k49 _ _ _ (⟨wrap64 (40 + t341), 0⟩ : S49) [.int .i64 (wrap64 (40 + t341)), .int .i64 0] from (k49_mkM _ _ _ (⟨wrap64 (40 + t341), 0⟩ : S49) )) (Reps.none _ _)))); intro v345 w11 ho12 hb hg_ hnew_; clear hg_ hnew_; (first | rw [← Ny344.out] at ho12 | (simp only [Int.reduceToNat] at ho12; rw [← Ny344.out] at ho12)); have n0_ := Aside0.mk (Kd.R_elder' (ra_ HO335.out) (Kd.R_base ho12) hb); have n1_ := Aside0.mk (Kd.R_lower (Kd.R_new' ho12 (Kd.R_lt (ra_ HO335.out))) (below_size (by repeat (first | (with_reducible first | exact HB.out | apply below_alloc | apply pw_below_drewN | apply below_drew1 | refine below_set ?_ (IsS62.ge HI332.out)) | exact HB.out)))); have n2_ := Aside0.mk (IsS62.below (is62_ HI332.out) hb); have n3_ := Aside0.mk (below_step (by repeat (first | (with_reducible first | exact HB.out | apply below_alloc | apply pw_below_drewN | apply below_drew1 | refine below_set ?_ (IsS62.ge HI332.out)) | exact HB.out)) hb); clear HO335; clear HI332; clear HB; have HO335 := n0_; have HO346 := n1_; have HI332 := n2_; have HB := n3_; clear n0_ n1_ n2_ n3_; clear hb ho12))
  go_ret
  exact ⟨_, er_, by (with_reducible repeat (first | apply Kd.R_alloc | apply Kd.R_drewN | apply Kd.R_drew)); exact Kd.R_mono HO346.out (fun _ hk => trivial), by repeat (first | (with_reducible first | exact HB.out | apply below_alloc | apply pw_below_drewN | apply below_drew1 | refine below_set ?_ (IsS62.ge HI332.out)) | exact HB.out)⟩
 ·rw [if_neg c5] at H
  have c5b0 : (t338 == 0) = false := beq_eq_false_iff_ne.mpr c5
  have c5b1 : (t338 != 0) = true := bne_iff_ne.mpr c5
  obtain rfl := Option.some.inj H
  go_enter Try.func22, Try.ntmps22
  go_wp2_with (first | ((with_reducible refine gate_callee (f := 29) rfl ?_); refine goesL_ (some 6) rfl rfl Try.func29 kr_ rfl #[.slice A0 l0.length c0] rfl ta_ ?_; (with_reducible refine (spec_l01From.calls k _ _ l0 t329 t330 t331 w _ ?side1 ?side2 ?side3 A2.out).mono ?_); (case side1 => repeat (first | (with_reducible first | exact HB.out | apply below_alloc | apply pw_below_drewN | apply below_drew1) | exact HB.out)); (case side2 => exact HR0.out); (case side3 => exact HC0.out); rintro e w13 ⟨g332, rfl, hi, hb, hb2⟩; refine ⟨_, rfl, ?_⟩; have n0_ := Aside0.mk (hb); have n1_ := Aside0.mk (hi); clear HB; have HB := n0_; have HI332 := n1_; clear n0_ n1_; (try clear hb); (try clear hb2); (try clear hk); (try clear hi)) | ((with_reducible refine gate_callee (f := 30) rfl ?_); refine goesL_ (some 8) rfl rfl Try.func30 kr_ rfl #[.pointer (some ⟨g332, 0, none⟩)] rfl ta_ ?_; (with_reducible refine (spec_l02Draw.calls k g332 t329 t330 t331 t333 t336 t337 w _ ?side1 ?side2 A3.out).mono ?_); (case side1 => exact is62_ HI332.out); (case side2 => repeat (first | (with_reducible first | exact HB.out | apply below_alloc | apply pw_below_drewN | apply below_drew1 | refine below_set ?_ (IsS62.ge HI332.out)) | exact HB.out)); rintro e w14 ⟨v334, rfl, ho0, hi, hb, hk⟩; refine ⟨_, rfl, ?_⟩; have n0_ := Aside0.mk (Kd.R_lower ho0 (below_size (by repeat (first | (with_reducible first | exact HB.out | apply below_alloc | apply pw_below_drewN | apply below_drew1 | refine below_set ?_ (IsS62.ge HI332.out)) | exact HB.out)))); have n1_ := Aside0.mk (hb); have n2_ := Aside0.mk (hi); clear HB; clear HI332; have HO335 := n0_; have HB := n1_; have HI332 := n2_; clear n0_ n1_ n2_; (try clear hb); (try clear hb2); (try clear hk); (try clear hi); (try clear ho0)) | ((with_reducible refine gate_callee (f := 31) rfl ?_); refine goesL_ (some 10) rfl rfl Try.func31 kr_ rfl #[.pointer (some ⟨g332, 0, none⟩), .int .i64 24] rfl ta_ ?_; (with_reducible refine (spec_l01Next.calls g332 t329 t336 t337 24 t338 t339 t340 w _ ?side1 ?side2 A4.out).mono ?_); (case side1 => exact is62_ HI332.out); (case side2 => repeat (first | (with_reducible first | exact HB.out | apply below_alloc | apply pw_below_drewN | apply below_drew1 | refine below_set ?_ (IsS62.ge HI332.out)) | exact HB.out)); rintro e w15 ⟨rfl, hi, hb, hk⟩; refine ⟨_, rfl, ?_⟩; have n0_ := Aside0.mk (Kd.R_mono (Kd.R_keep (IsS62.apart (show IsS62 w _ g332 t329 t336 t337 from is62_ HI332.out) (ra_ HO335.out) (by decide)) hk (fun _ h => h.2)) (fun _ h => h.1)); have n1_ := Aside0.mk (hb); have n2_ := Aside0.mk (hi); clear HO335; clear HB; clear HI332; have HO335 := n0_; have HB := n1_; have HI332 := n2_; clear n0_ n1_ n2_; (try clear hb); (try clear hb2); (try clear hk); (try clear hi)))
  go_ret
  exact ⟨_, er_, ra_ HO335.out, by repeat (first | (with_reducible first | exact HB.out | apply below_alloc | apply pw_below_drewN | apply below_drew1 | refine below_set ?_ (IsS62.ge HI332.out)) | exact HB.out)⟩

/-! ### spec_DrawNameOf: function 18 -/
def spec_DrawNameOf.f (k : Nat) (l0 : List Int) : Option ((List (S49))) := (spec_DrawNormalForm.f k l0).bind fun t347 => (some t347)
theorem spec_DrawNameOf.mono : ∀ a0 k, LeO (spec_DrawNameOf.f k a0) (spec_DrawNameOf.f (k + 1) a0) := by
 intro a0 k
 unfold spec_DrawNameOf.f
 repeat' first
   | (with_reducible exact spec_DrawNormalForm.mono _ _)
   | (with_reducible exact LeO.refl _)
   | (with_reducible exact LeO.none _)
   | (with_reducible refine LeO.ite ?_ ?_)
   | (with_reducible refine LeO.bind ?_ (fun _ => ?_))
   | exact spec_DrawNormalForm.mono _ _
   | exact LeO.none _
   | refine LeO.ite ?_ ?_
   | refine LeO.bind ?_ (fun _ => ?_)
set_option maxHeartbeats 8000000 in
set_option maxRecDepth 100000 in
theorem spec_DrawNameOf.calls (k : Nat) (A0 : Option Addr) (c0 : Nat) (l0 : List Int) (r : List (S49)) (w : World) (hr0 : Kd.C (Kd.int .u8) w A0 l0.length l0) (hc0 : l0.length ≤ c0) (h : spec_DrawNameOf.f k l0 = some r) :
  Calls Try.prog 18 #[.slice A0 l0.length c0] w fun e w' => ∃ v0_ : Value, e = .returned (v0_) ∧ Kd.R k49 49 w' w.heap.size (fun _ => True) v0_ r ∧ Below w.heap.size w w' := by
 have HR0 := Aside0.mk hr0
 have HC0 := Aside0.mk hc0
 clear hr0 hc0
 have HB := Aside0.mk (Below.refl w.heap.size w)
 have H : ((spec_DrawNormalForm.f k l0).bind fun t347 => (some t347)) = some r := h
 clear h
 replace H := Option.bind_eq_some_iff.mp H
 obtain ⟨t347, A20, H⟩ := H
 replace H : (some t347) = some r := H
 have A2 := Aside0.mk A20
 clear A20
 obtain rfl := Option.some.inj H
 go_enter Try.func18, Try.ntmps18
 go_wp2_with (first | ((with_reducible refine gate_callee (f := 22) rfl ?_); refine goesL_ (some 4) rfl rfl Try.func22 kr_ rfl #[.slice A0 l0.length c0] rfl ta_ ?_; (with_reducible refine (spec_DrawNormalForm.calls k _ _ l0 t347 _ ?side1 ?side2 A2.out).mono ?_); (case side1 => exact ca_ HR0.out); (case side2 => exact HC0.out); rintro e w3 ⟨v348, rfl, ho0, hb⟩; refine ⟨_, rfl, ?_⟩; have n0_ := Aside0.mk (Kd.R_lower ho0 (below_size (bl0_))); have n1_ := Aside0.mk (below_step (bl0_) hb); clear HB; have HO349 := n0_; have HB := n1_; clear n0_ n1_; (try clear hb); (try clear hb2); (try clear hk); (try clear hi); (try clear ho0)))
 go_ret
 exact ⟨_, er_, ra_ HO349.out, bl0_⟩

/-! ### spec_DrawFreeForm: function 19 -/
def spec_DrawFreeForm.f (k : Nat) (l0 : List Int) : Option ((List (S49))) := (spec_DrawNormalForm.f k l0).bind fun t350 => (some t350)
theorem spec_DrawFreeForm.mono : ∀ a0 k, LeO (spec_DrawFreeForm.f k a0) (spec_DrawFreeForm.f (k + 1) a0) := by
 intro a0 k
 unfold spec_DrawFreeForm.f
 repeat' first
   | (with_reducible exact spec_DrawNormalForm.mono _ _)
   | (with_reducible exact LeO.refl _)
   | (with_reducible exact LeO.none _)
   | (with_reducible refine LeO.ite ?_ ?_)
   | (with_reducible refine LeO.bind ?_ (fun _ => ?_))
   | exact spec_DrawNormalForm.mono _ _
   | exact LeO.none _
   | refine LeO.ite ?_ ?_
   | refine LeO.bind ?_ (fun _ => ?_)
set_option maxHeartbeats 8000000 in
set_option maxRecDepth 100000 in
theorem spec_DrawFreeForm.calls (k : Nat) (A0 : Option Addr) (c0 : Nat) (l0 : List Int) (r : List (S49)) (w : World) (hr0 : Kd.C (Kd.int .u8) w A0 l0.length l0) (hc0 : l0.length ≤ c0) (h : spec_DrawFreeForm.f k l0 = some r) :
  Calls Try.prog 19 #[.slice A0 l0.length c0] w fun e w' => ∃ v0_ : Value, e = .returned (v0_) ∧ Kd.R k49 49 w' w.heap.size (fun _ => True) v0_ r ∧ Below w.heap.size w w' := by
 have HR0 := Aside0.mk hr0
 have HC0 := Aside0.mk hc0
 clear hr0 hc0
 have HB := Aside0.mk (Below.refl w.heap.size w)
 have H : ((spec_DrawNormalForm.f k l0).bind fun t350 => (some t350)) = some r := h
 clear h
 replace H := Option.bind_eq_some_iff.mp H
 obtain ⟨t350, A20, H⟩ := H
 replace H : (some t350) = some r := H
 have A2 := Aside0.mk A20
 clear A20
 obtain rfl := Option.some.inj H
 go_enter Try.func19, Try.ntmps19
 go_wp2_with (first | ((with_reducible refine gate_callee (f := 22) rfl ?_); refine goesL_ (some 4) rfl rfl Try.func22 kr_ rfl #[.slice A0 l0.length c0] rfl ta_ ?_; (with_reducible refine (spec_DrawNormalForm.calls k _ _ l0 t350 _ ?side1 ?side2 A2.out).mono ?_); (case side1 => exact ca_ HR0.out); (case side2 => exact HC0.out); rintro e w3 ⟨v351, rfl, ho0, hb⟩; refine ⟨_, rfl, ?_⟩; have n0_ := Aside0.mk (Kd.R_lower ho0 (below_size (bl0_))); have n1_ := Aside0.mk (below_step (bl0_) hb); clear HB; have HO352 := n0_; have HB := n1_; clear n0_ n1_; (try clear hb); (try clear hb2); (try clear hk); (try clear hi); (try clear ho0)))
 go_ret
 exact ⟨_, er_, ra_ HO352.out, bl0_⟩

/-! ### impl_reach: function 54 -/
def impl_reach.l0 : Nat → List (S49) → Int → Int → Int → Int → Option (Int × Int)
 | 0, _, _, _, _, _ => none
 | k + 1, x9, x10, x11, x356000, x356001 => if x11 < x10 then (if 0 ≤ x11 then (if x11 < (x9.length : Int) then (impl_reach.l0 k x9 x10 (wrap64 (x11 + 1)) (mx x356000 ((rd_T49 x9 x11).f0)) (mx x356001 ((rd_T49 x9 x11).f1))) else (none)) else (none)) else (some (x356000, x356001))
def impl_reach.f (k : Nat) (l0 : List (S49)) : Option (Int × Int) := if 0 < (l0.length : Int) then (impl_reach.l0 k l0 (l0.length : Int) 0 ((rd_T49 l0 0).f0) ((rd_T49 l0 0).f1)) else (none)
theorem impl_reach.mono_l : ∀ k, (∀ y0 y1 y2 y3 y4, LeO (impl_reach.l0 k y0 y1 y2 y3 y4) (impl_reach.l0 (k + 1) y0 y1 y2 y3 y4))
 | 0 => fun _ _ _ _ _ r h => by simp [impl_reach.l0] at h
 | k + 1 => by
  have ih0 := impl_reach.mono_l k
  ·intro y0 y1 y2 y3 y4
   unfold impl_reach.l0
   repeat' first
   | (with_reducible exact ih0 _ _ _ _ _)
   | (with_reducible exact LeO.refl _)
   | (with_reducible exact LeO.none _)
   | (with_reducible refine LeO.ite ?_ ?_)
   | (with_reducible refine LeO.bind ?_ (fun _ => ?_))
   | exact ih0 _ _ _ _ _
   | exact LeO.none _
   | refine LeO.ite ?_ ?_
   | refine LeO.bind ?_ (fun _ => ?_)
theorem impl_reach.mono : ∀ a0 k, LeO (impl_reach.f k a0) (impl_reach.f (k + 1) a0) := by
 intro a0 k
 have ih0 := impl_reach.mono_l k
 unfold impl_reach.f
 repeat' first
   | (with_reducible exact ih0 _ _ _ _ _)
   | (with_reducible exact LeO.refl _)
   | (with_reducible exact LeO.none _)
   | (with_reducible refine LeO.ite ?_ ?_)
   | (with_reducible refine LeO.bind ?_ (fun _ => ?_))
   | exact ih0 _ _ _ _ _
   | exact LeO.none _
   | refine LeO.ite ?_ ?_
   | refine LeO.bind ?_ (fun _ => ?_)
set_option maxHeartbeats 8000000 in
set_option maxRecDepth 100000 in
theorem impl_reach.calls (k : Nat) (A0 : Option Addr) (c0 : Nat) (l0 : List (S49)) (r1 : Int) (r2 : Int) (w : World) (hr0 : Kd.C k49 w A0 l0.length l0) (hc0 : l0.length ≤ c0) (h : impl_reach.f k l0 = some (r1, r2)) :
  Calls Try.prog 54 #[.slice A0 l0.length c0] w fun e w' => e = .returned (.agg #[.int .i64 r1, .int .i64 r2]) ∧ Below w.heap.size w w' := by
 have hu49 := Try.underlying49
 have HR0 := Aside0.mk hr0
 have HC0 := Aside0.mk hc0
 clear hr0 hc0
 have HB := Aside0.mk (Below.refl w.heap.size w)
 have H : (if 0 < (l0.length : Int) then (impl_reach.l0 k l0 (l0.length : Int) 0 ((rd_T49 l0 0).f0) ((rd_T49 l0 0).f1)) else (none)) = some (r1, r2) := h
 clear h
 by_cases c2 : 0 < (l0.length : Int)
 ·rw [if_pos c2] at H
  have c2b0 : decide (0 < (l0.length : Int)) = true := decide_eq_true c2
  have c2b1 : decide (0 < l0.length) = true := decide_eq_true (by omega)
  clear c2
  have H' := Aside0.mk H
  clear H
  go_enter Try.func54, Try.ntmps54
  go_wp2_with (first | ((with_reducible refine gate_dst (N := 2) rfl ?_); refine box_event ?hg (N := 2) ?hd (cs := #[.int .i64 0, .int .i64 0]) (t := 49) ?hr ?_; (case hd => rfl); (case hg => rfl); (case hr => first | (go_simp; done) | (go_simp; rfl)); intro gb353 hg w3 hbox hb; have n0_ := Aside0.mk (below_step (bl0_) hb); have n1_ := Aside0.mk (hbox); have n2_ := Aside0.mk ((sz_ hg (bl0_) : w.heap.size ≤ gb353)); have n3_ := Aside0.mk ((sz_ hg (bl0_) : w.heap.size ≤ gb353)); clear HB; have HB := n0_; have BK353 := n1_; have GW353 := n2_; have GE353 := n3_; clear n0_ n1_ n2_ n3_; clear hb hbox hg; have p354 : 0 ≤ (0 : Int) := (by omega); have q354 : 0 < (l0.length : Int) := od_; obtain ⟨ad354, e354, hx354_0, hx354_1⟩ := at_T49 HR0.out 0 p354 q354; cases e354; have qi354 : (0 < l0.length) = True := eq_true (by omega); (try rw [show ((0 : Int)).toNat = 0 from rfl] at hx354_0); (try rw [show 0 * 2 = 0 from rfl] at hx354_0); (try rw [Addr.add_zero'] at hx354_0); (try rw [show ((0 : Int)).toNat = 0 from rfl] at hx354_1); (try rw [show 0 * 2 = 0 from rfl] at hx354_1); (try rw [Addr.add_zero'] at hx354_1); replace hx354_0 := (HB.out.cell (World.block_lt_of_cell? w _ hx354_0)).trans hx354_0; replace hx354_1 := (HB.out.cell (World.block_lt_of_cell? w _ hx354_1)).trans hx354_1; replace p354 := eq_true p354; replace q354 := eq_true q354) | ((with_reducible refine gate_dst (N := 3) rfl ?_); refine box_event ?hg (N := 3) ?hd (cs := #[.int .i64 0, .int .i64 0]) (t := 49) ?hr ?_; (case hd => rfl); (case hg => rfl); (case hr => first | (go_simp; done) | (go_simp; rfl)); intro gb355 hg w4 hbox hb; have n0_ := Aside0.mk (blk_below (g := gb353) (o := .cells #[.int .i64 0, .int .i64 0] 49 (0, 0)) (bk_ BK353.out) hb); have n1_ := Aside0.mk (below_step (bl1_ GE353.out) hb); have n2_ := Aside0.mk (hbox); have n3_ := Aside0.mk ((sz_ hg (bl1_ GE353.out) : w.heap.size ≤ gb355)); have n4_ := Aside0.mk ((sz_ hg (bl1_ GE353.out) : w.heap.size ≤ gb355)); have n5_ := Aside0.mk ((by rw [hg]; exact Nat.ne_of_lt (blk_lt (g := gb353) (o := .cells #[.int .i64 0, .int .i64 0] 49 (0, 0)) (bk_ BK353.out)) : gb353 ≠ gb355)); have n6_ := Aside0.mk ((by rw [hg]; exact Nat.ne_of_gt (blk_lt (g := gb353) (o := .cells #[.int .i64 0, .int .i64 0] 49 (0, 0)) (bk_ BK353.out)) : gb355 ≠ gb353)); clear BK353; clear HB; have BK353 := n0_; have HB := n1_; have BK355 := n2_; have GW355 := n3_; have GE355 := n4_; have NB353_355 := n5_; have NB355_353 := n6_; clear n0_ n1_ n2_ n3_ n4_ n5_ n6_; clear hb hbox hg; have hnb5 := NB355_353.out; have hnc5 := NB353_355.out; have hcz6_0 : w4.cell? ⟨gb355, 0, none⟩ = some (.int .i64 0) := (blk_cell BK355.out 0).trans rfl; have hcz6_1 : w4.cell? ⟨gb355, 1, none⟩ = some (.int .i64 0) := (blk_cell BK355.out 1).trans rfl; have hfz6_0 := blk_frozen BK355.out 0; have hfz6_1 := blk_frozen BK355.out 1))
  go_loopg [11] k (fun kq v11 w' => ∃ (x11_1 : Int) (x356000_1 : Int) (x356001_1 : Int), v11 = .int .i64 x11_1 ∧ Aside0 (impl_reach.l0 kq l0 (l0.length : Int) x11_1 x356000_1 x356001_1 = some (r1, r2)) ∧ Aside0 (kq ≤ k) ∧ Aside0 (w'.heap[gb353]? = some (.cells #[.int .i64 0, .int .i64 0] 49 (0, 0))) ∧ Aside0 (w'.heap[gb355]? = some (.cells #[.int .i64 x356000_1, .int .i64 x356001_1] 49 (0, 0))) ∧ Aside0 (Below w.heap.size w w'))
  case atStart => exact ⟨(0), ((rd_T49 l0 0).f0), ((rd_T49 l0 0).f1), rs_, H', ⟨Nat.le_refl _⟩, ⟨by (with_reducible repeat (first | refine blk_drewN ?_ _ | refine blk_drew ?_ | refine blk_alloc ?_ _)); refine blk_far ?_ NB353_355.out _; (with_reducible repeat (first | refine blk_drewN ?_ _ | refine blk_drew ?_ | refine blk_alloc ?_ _)); refine blk_far ?_ NB353_355.out _; (with_reducible repeat (first | refine blk_drewN ?_ _ | refine blk_drew ?_ | refine blk_alloc ?_ _)); exact BK353.out⟩, ⟨by (with_reducible repeat (first | refine blk_drewN ?_ _ | refine blk_drew ?_ | refine blk_alloc ?_ _)); refine blk_put (cs := #[.int .i64 ((rd_T49 l0 0).f0), .int .i64 0]) ?_ 1 _ rfl; (with_reducible repeat (first | refine blk_drewN ?_ _ | refine blk_drew ?_ | refine blk_alloc ?_ _)); refine blk_put (cs := #[.int .i64 0, .int .i64 0]) ?_ 0 _ rfl; (with_reducible repeat (first | refine blk_drewN ?_ _ | refine blk_drew ?_ | refine blk_alloc ?_ _)); exact BK355.out⟩, ⟨bl2_ GE353.out GE355.out⟩⟩
  case round =>
   clear H'
   try clear c2
   try clear c2b0
   try clear c2b1
   try clear p2
   try clear p3
   try clear q3
   try clear hx3
   try clear qi3
   try clear c5
   try clear hcz6_0
   try clear hcz6_1
   try clear hfz6_0
   try clear hfz6_1
   try clear hx354_0
   try clear hx354_1
   try clear p354
   try clear q354
   obtain ⟨x11_1, x356000_1, x356001_1, rfl, HA, HK1, BK353, BK355, HB⟩ := hrel
   cases gk with
   | zero => exact absurd HA.out (by simp [impl_reach.l0])
   | succ k1 =>
    have H := HA.out
    clear HA
    simp only [impl_reach.l0] at H
    by_cases c7 : x11_1 < (l0.length : Int)
    ·rw [if_pos c7] at H
     have c7b0 : decide (x11_1 < (l0.length : Int)) = true := decide_eq_true c7
     clear c7
     by_cases c8 : 0 ≤ x11_1
     ·rw [if_pos c8] at H
      have c8b0 : decide (0 ≤ x11_1) = true := decide_eq_true c8
      clear c8
      by_cases c9 : x11_1 < (l0.length : Int)
      ·rw [if_pos c9] at H
       have c9b0 : decide (x11_1 < (l0.length : Int)) = true := decide_eq_true c9
       clear c9
       obtain ⟨ji10, hji10⟩ : ∃ j_ : Int, (mx x356000_1 ((rd_T49 l0 x11_1).f0)) = j_ := ⟨_, rfl⟩
       replace H : (impl_reach.l0 k1 l0 (l0.length : Int) (wrap64 (x11_1 + 1)) ji10 (mx x356001_1 ((rd_T49 l0 x11_1).f1))) = some (r1, r2) := by first | (rw [hji10] at H; exact H) | (simp only [hji10] at H ⊢; exact H)
       have hji10_ : (if x356000_1 < ((rd_T49 l0 x11_1).f0) then ((rd_T49 l0 x11_1).f0) else x356000_1) = ji10 := hji10
       obtain ⟨ji11, hji11⟩ : ∃ j_ : Int, (mx x356001_1 ((rd_T49 l0 x11_1).f1)) = j_ := ⟨_, rfl⟩
       replace H : (impl_reach.l0 k1 l0 (l0.length : Int) (wrap64 (x11_1 + 1)) ji10 ji11) = some (r1, r2) := by first | (rw [hji11] at H; exact H) | (simp only [hji11] at H ⊢; exact H)
       have hji11_ : (if x356001_1 < ((rd_T49 l0 x11_1).f1) then ((rd_T49 l0 x11_1).f1) else x356001_1) = ji11 := hji11
       have H' := Aside0.mk H
       clear H
       have p356 : 0 ≤ (x11_1 : Int) := od_
       have q356 : x11_1 < (l0.length : Int) := od_
       obtain ⟨ad356, e356, hx356_0, hx356_1⟩ := at_T49 HR0.out x11_1 p356 q356
       obtain rfl : ad354 = ad356 := (by injection e356)
       replace hx356_0 := (HB.out.cell (World.block_lt_of_cell? w _ hx356_0)).trans hx356_0
       replace hx356_1 := (HB.out.cell (World.block_lt_of_cell? w _ hx356_1)).trans hx356_1
       replace p356 := eq_true p356
       replace q356 := eq_true q356
       go_wp2_with (first | ((with_reducible refine gate_dst (N := 5) rfl ?_); refine box_event ?hg (N := 5) ?hd (cs := #[.int .i64 0, .int .i64 0]) (t := 49) ?hr ?_; (case hd => rfl); (case hg => rfl); (case hr => first | (go_simp; done) | (go_simp; rfl)); intro gb357 hg w12 hbox hb; have n0_ := Aside0.mk (blk_below (g := gb353) (o := .cells #[.int .i64 0, .int .i64 0] 49 (0, 0)) (bk_ BK353.out) hb); have n1_ := Aside0.mk (blk_below (g := gb355) (o := .cells #[.int .i64 x356000_1, .int .i64 x356001_1] 49 (0, 0)) (bk_ BK355.out) hb); have n2_ := Aside0.mk (below_step (bl2_ GE353.out GE355.out) hb); have n3_ := Aside0.mk (hbox); have n4_ := Aside0.mk ((sz_ hg (bl2_ GE353.out GE355.out) : w.heap.size ≤ gb357)); have n5_ := Aside0.mk ((sz_ hg (bl2_ GE353.out GE355.out) : w.heap.size ≤ gb357)); have n6_ := Aside0.mk ((by rw [hg]; exact Nat.ne_of_lt (blk_lt (g := gb353) (o := .cells #[.int .i64 0, .int .i64 0] 49 (0, 0)) (bk_ BK353.out)) : gb353 ≠ gb357)); have n7_ := Aside0.mk ((by rw [hg]; exact Nat.ne_of_gt (blk_lt (g := gb353) (o := .cells #[.int .i64 0, .int .i64 0] 49 (0, 0)) (bk_ BK353.out)) : gb357 ≠ gb353)); have n8_ := Aside0.mk ((by rw [hg]; exact Nat.ne_of_lt (blk_lt (g := gb355) (o := .cells #[.int .i64 x356000_1, .int .i64 x356001_1] 49 (0, 0)) (bk_ BK355.out)) : gb355 ≠ gb357)); have n9_ := Aside0.mk ((by rw [hg]; exact Nat.ne_of_gt (blk_lt (g := gb355) (o := .cells #[.int .i64 x356000_1, .int .i64 x356001_1] 49 (0, 0)) (bk_ BK355.out)) : gb357 ≠ gb355)); clear BK353; clear BK355; clear HB; have BK353 := n0_; have BK355 := n1_; have HB := n2_; have BK357 := n3_; have GW357 := n4_; have GE357 := n5_; have NB353_357 := n6_; have NB357_353 := n7_; have NB355_357 := n8_; have NB357_355 := n9_; clear n0_ n1_ n2_ n3_ n4_ n5_ n6_ n7_ n8_ n9_; clear hb hbox hg; have hnb13 := NB357_353.out; have hnc13 := NB353_357.out; have hnb14 := NB357_355.out; have hnc14 := NB355_357.out; have hcz15_0 : w12.cell? ⟨gb357, 0, none⟩ = some (.int .i64 0) := (blk_cell BK357.out 0).trans rfl; have hcz15_1 : w12.cell? ⟨gb357, 1, none⟩ = some (.int .i64 0) := (blk_cell BK357.out 1).trans rfl; have hfz15_0 := blk_frozen BK357.out 0; have hfz15_1 := blk_frozen BK357.out 1; have hnb16 := NB355_353.out; have hnc16 := NB353_355.out; have hcz17_0 : w12.cell? ⟨gb355, 0, none⟩ = some (.int .i64 x356000_1) := (blk_cell BK355.out 0).trans rfl; have hcz17_1 : w12.cell? ⟨gb355, 1, none⟩ = some (.int .i64 x356001_1) := (blk_cell BK355.out 1).trans rfl; have hfz17_0 := blk_frozen BK355.out 0; have hfz17_1 := blk_frozen BK355.out 1))
       go_roundg k1
       case measure => have := HK1.out; omega
       case rel => exact ⟨(wrap64 (x11_1 + 1)), (ji10), (ji11), rs_, H', ⟨by have := HK1.out; omega⟩, ⟨by (with_reducible repeat (first | refine blk_drewN ?_ _ | refine blk_drew ?_ | refine blk_alloc ?_ _)); refine blk_far ?_ NB353_355.out _; (with_reducible repeat (first | refine blk_drewN ?_ _ | refine blk_drew ?_ | refine blk_alloc ?_ _)); refine blk_far ?_ NB353_355.out _; (with_reducible repeat (first | refine blk_drewN ?_ _ | refine blk_drew ?_ | refine blk_alloc ?_ _)); refine blk_far ?_ NB353_357.out _; (with_reducible repeat (first | refine blk_drewN ?_ _ | refine blk_drew ?_ | refine blk_alloc ?_ _)); refine blk_far ?_ NB353_357.out _; (with_reducible repeat (first | refine blk_drewN ?_ _ | refine blk_drew ?_ | refine blk_alloc ?_ _)); exact BK353.out⟩, ⟨by (with_reducible repeat (first | refine blk_drewN ?_ _ | refine blk_drew ?_ | refine blk_alloc ?_ _)); refine blk_put (cs := #[.int .i64 ji10, .int .i64 x356001_1]) ?_ 1 _ rfl; (with_reducible repeat (first | refine blk_drewN ?_ _ | refine blk_drew ?_ | refine blk_alloc ?_ _)); refine blk_put (cs := #[.int .i64 x356000_1, .int .i64 x356001_1]) ?_ 0 _ rfl; (with_reducible repeat (first | refine blk_drewN ?_ _ | refine blk_drew ?_ | refine blk_alloc ?_ _)); refine blk_far ?_ NB355_357.out _; (with_reducible repeat (first | refine blk_drewN ?_ _ | refine blk_drew ?_ | refine blk_alloc ?_ _)); refine blk_far ?_ NB355_357.out _; (with_reducible repeat (first | refine blk_drewN ?_ _ | refine blk_drew ?_ | refine blk_alloc ?_ _)); exact BK355.out⟩, ⟨bl3_ GE353.out GE355.out GE357.out⟩⟩
      ·rw [if_neg c9] at H
       exact absurd H (by simp)
     ·rw [if_neg c8] at H
      exact absurd H (by simp)
    ·rw [if_neg c7] at H
     have c7b0 : decide (x11_1 < (l0.length : Int)) = false := decide_eq_false c7
     clear c7
     simp only [Option.some.injEq, Prod.mk.injEq] at H
     obtain ⟨rfl, rfl⟩ := H
     have hnb18 := NB355_353.out
     have hnc18 := NB353_355.out
     have hcz19_0 : wr.cell? ⟨gb355, 0, none⟩ = some (.int .i64 x356000_1) := (blk_cell BK355.out 0).trans rfl
     have hcz19_1 : wr.cell? ⟨gb355, 1, none⟩ = some (.int .i64 x356001_1) := (blk_cell BK355.out 1).trans rfl
     have hfz19_0 := blk_frozen BK355.out 0
     have hfz19_1 := blk_frozen BK355.out 1
     have hcz20_0 : wr.cell? ⟨gb353, 0, none⟩ = some (.int .i64 0) := (blk_cell BK353.out 0).trans rfl
     have hcz20_1 : wr.cell? ⟨gb353, 1, none⟩ = some (.int .i64 0) := (blk_cell BK353.out 1).trans rfl
     have hfz20_0 := blk_frozen BK353.out 0
     have hfz20_1 := blk_frozen BK353.out 1
     go_wp2
     refine bodyPost_ret (results_cell_row rfl _ _ gb353 49 #[.int .i64 x356000_1, .int .i64 x356001_1] (0, 0) _ rfl (by (with_reducible repeat (first | refine blk_drewN ?_ _ | refine blk_drew ?_ | refine blk_alloc ?_ _)); refine blk_put (cs := #[.int .i64 x356000_1, .int .i64 0]) ?_ 1 _ rfl; (with_reducible repeat (first | refine blk_drewN ?_ _ | refine blk_drew ?_ | refine blk_alloc ?_ _)); refine blk_put (cs := #[.int .i64 0, .int .i64 0]) ?_ 0 _ rfl; (with_reducible repeat (first | refine blk_drewN ?_ _ | refine blk_drew ?_ | refine blk_alloc ?_ _)); exact BK353.out) Try.underlying49 rfl kr_) rfl ?_
     exact ⟨er_, bl2_ GE353.out GE355.out⟩
 ·rw [if_neg c2] at H
  exact absurd H (by simp)

/-! ### strings_Join: function 56 -/
def joined (xs : List ByteArray) (sep : ByteArray) : ByteArray := ⟨(Lib.join (xs.map (·.data.toList)) sep.data.toList).toArray⟩
def strings_Join.f (l0 : List ByteArray) (a1 : ByteArray) : Option ByteArray := if l0.length ≤ 140737488355328 ∧ (joined l0 a1).size ≤ 140737488355328 then some (joined l0 a1) else none
theorem spot_noneJ {w : World} {a : Addr} {v : Value} (h : w.cell? a = some v) : a = ⟨a.block, a.off, none⟩ := by
 obtain ⟨b, o, s⟩ := a
 cases s with
 | none => rfl
 | some z =>
  simp only [World.cell?] at h
  split at h <;> simp_all
theorem add_off (b o j : Nat) : (⟨b, o, none⟩ : Addr).add j = ⟨b, o + j, none⟩ := by
 unfold Addr.add
 split <;> simp_all
theorem strings_Join.calls (A0 : Option Addr) (c0 : Nat) (l0 : List ByteArray) (a1 : ByteArray) (r : ByteArray) (w : World) (hr0 : Kd.C Kd.string w A0 l0.length l0) (hc0 : l0.length ≤ c0) (h : strings_Join.f l0 a1 = some r) :
  Calls Try.prog 56 #[.slice A0 l0.length c0, .string a1] w fun e w' => e = .returned (.string r) ∧ Below w.heap.size w w' := by
 unfold strings_Join.f at h
 split at h
 ·rename_i hl
  obtain rfl := Option.some.inj h
  rcases Nat.eq_zero_or_pos l0.length with h0 | h0
  ·obtain rfl : l0 = [] := List.eq_nil_of_length_eq_zero h0
   refine (Try.strings_Join_none A0 c0 a1 w).mono ?_
   rintro e w' ⟨rfl, rfl⟩
   exact ⟨rfl, Below.refl _ _⟩
  ·obtain ⟨ad, rfl, hc⟩ := hr0.2.2 h0
   have hcell : ∀ (j : Nat) x, l0[j]? = some x → w.cell? (ad.add j) = some (.string x) := by
    intro j x hx
    obtain ⟨c, hc1, hc2, hc3⟩ := hc j x hx
    obtain rfl : c = [.string x] := hc2
    have := hc3 0 _ rfl
    rwa [show j * Kd.string.sz + 0 = j from Nat.mul_one j] at this
   have h00 := hcell 0 _ (List.getElem?_eq_getElem h0)
   have hs := spot_noneJ h00
   rw [show ad.add 0 = ad by simp [Addr.add]] at hs h00
   obtain ⟨b, o, s⟩ := ad
   injection hs with _ _ hs
   subst hs
   refine (Try.strings_Join b o c0 l0 a1 w (fun j x hx => ?_) (World.block_lt_of_cell? w _ h00) hl.1 hc0 (Nat.le_trans (Nat.le_of_eq (by show _ = (Lib.join (l0.map (·.data.toList)) a1.data.toList).toArray.size; exact List.size_toArray.symm)) hl.2)).mono ?_
   ·have := hcell j x hx
    rwa [add_off] at this
   ·rintro e w' ⟨rfl, hb⟩
    exact ⟨rfl, hb⟩
 ·cases h


/-! ### impl_shapeText: function 37 -/
/-! The text of a shape: rows of dots, marked. -/
def dotsG (h m : Nat) : List (List Int) := List.replicate h (List.replicate m 46)
def markT (G : List (List Int)) (c : S49) : List (List Int) := G.set c.f1.toNat ((G.getD c.f1.toNat []).set c.f0.toNat 35)
def hashG (N : List S49) (mx my : Int) : List (List Int) := N.foldl markT (dotsG (my + 1).toNat (mx + 1).toNat)
def textT (G : List (List Int)) : ByteArray := joined (G.map strOfNums) ⟨#[47]⟩
def okT (N : List S49) (mx my : Int) : Prop := ((0 ≤ mx ∧ mx ≤ 1000) ∧ (0 ≤ my ∧ my ≤ 1000)) ∧ N.length ≤ 1000 ∧ (∀ c ∈ N, (0 ≤ c.f0 ∧ c.f0 ≤ mx) ∧ (0 ≤ c.f1 ∧ c.f1 ≤ my)) ∧ (textT (hashG N mx my)).size ≤ 140737488355328
instance (N : List S49) (mx my : Int) : Decidable (okT N mx my) := by unfold okT; infer_instance
theorem dots_bytes (m : Nat) : ((⟨(Lib.repeatL (⟨#[46]⟩ : ByteArray).data.toList m).toArray⟩ : ByteArray).data.toList.map fun b => (b.toNat : Int)) = List.replicate m 46 := by
 show (Lib.repeatL [46] m).map (fun b : UInt8 => (b.toNat : Int)) = _
 induction m with
 | zero => rfl
 | succ m ih =>
  rw [Lib.repeatL, List.map_append, ih]
  rfl
theorem dots_size (m : Nat) : (⟨(Lib.repeatL (⟨#[46]⟩ : ByteArray).data.toList m).toArray⟩ : ByteArray).size = m := by
 have h := congrArg List.length (dots_bytes m)
 rw [List.length_map, List.length_replicate] at h
 exact h
theorem infoRowT : (Try.prog.info? 22).map (fun i => (i.zero, i.size, i.bytes)) = some (some (.slice none 0 0), 1, 24) := by kernel_rfl
theorem infoStrT : (Try.prog.info? 9).map (fun i => (i.zero, i.size, i.bytes)) = some (some (.string ⟨#[]⟩), 1, 16) := by kernel_rfl
theorem made_reps (v : Value) (n : Nat) : madeCells #[v] n = (List.replicate n v).toArray := by
 apply Array.ext
 ·simp [size_madeCells]
 ·intro i h1 h2
  simp [madeCells, Nat.mod_one]
theorem rd_memT (l : List S49) (j : Nat) (h : j < l.length) : rd_T49 l (j : Int) = l[j] := by
 show l.getD j _ = _
 rw [List.getD_eq_getElem?_getD, List.getElem?_eq_getElem h, Option.getD_some]
/-- The texts, being laid: n places in block T, the first ones told. -/
def TextsT (w : World) (T n : Nat) (G : List (List Int)) : Prop := w.heap[T]? = some (.cells ((G.map fun r => Value.string (strOfNums r)) ++ List.replicate (n - G.length) (Value.string ⟨#[]⟩)).toArray 9 (0, 0))
theorem TextsT.next {w : World} {T n : Nat} {G : List (List Int)} {j : Nat} (hl : G.length = n) (hj : j < n) (h : TextsT w T n (G.take j)) :
  TextsT (w.setCell ⟨T, j, none⟩ (.string (strOfNums (G.getD j [])))) T n (G.take (j + 1)) := by
 have hlt : j < G.length := by omega
 refine blk_put h j _ ?_
 apply Array.toList_inj.1
 rw [Array.toList_setIfInBounds]
 have e : List.replicate (n - (G.take j).length) (Value.string ⟨#[]⟩) = Value.string ⟨#[]⟩ :: List.replicate (n - (G.take (j + 1)).length) (Value.string ⟨#[]⟩) := by
  rw [List.length_take, List.length_take, show n - min j G.length = (n - min (j + 1) G.length) + 1 by omega, List.replicate_succ]
 rw [e, List.set_append_right _ _ (by simp [List.length_take]; omega), show j - ((G.take j).map fun r => Value.string (strOfNums r)).length = 0 by simp [List.length_take]; omega, List.set_cons_zero, List.take_succ_eq_append_getElem hlt, List.map_append, List.getD_eq_getElem?_getD, List.getElem?_eq_getElem hlt, Option.getD_some]
 simp
set_option maxHeartbeats 4000000 in
set_option maxRecDepth 100000 in
theorem shapeText_walk (k : Nat) (A0 : Option Addr) (c0 : Nat) (l0 N : List S49) (W0 H : Nat) (w : World) (hr0 : Kd.C k49 w A0 l0.length l0) (hc0 : l0.length ≤ c0) (hN : impl_normal.f k l0 = some N) (hM : impl_reach.f k N = some ((W0 : Int), (H : Int)))
  (hH : H ≤ 1000) (hW : W0 ≤ 1000) (hl : N.length ≤ 1000) (hcs : ∀ c ∈ N, ∃ x y : Nat, (c.f0 = (x : Int) ∧ x ≤ W0) ∧ c.f1 = (y : Int) ∧ y ≤ H) (ht : (textT (N.foldl markT (dotsG (H + 1) (W0 + 1)))).size ≤ 140737488355328) :
  Calls Try.prog 37 #[.slice A0 l0.length c0] w fun e w' => e = .returned (.string (textT (N.foldl markT (dotsG (H + 1) (W0 + 1))))) ∧ Below w.heap.size w w' := by
 have hn := impl_normal.calls k A0 c0 l0 N w hr0 hc0 hN
 have HHW := Aside0.mk (And.intro hH hW)
 have HNL := Aside0.mk hl
 have HCS := Aside0.mk hcs
 have HT := Aside0.mk ht
 have HM := Aside0.mk hM
 obtain ⟨i0, hi, hzz⟩ := Option.map_eq_some_iff.1 infoRowT
 simp only [Prod.mk.injEq] at hzz
 obtain ⟨hz0, hz1, hz2⟩ := hzz
 have hmk : ∀ W' : World, (Instr.makeSlice 71 (.int .i64 ((H : Int) + 1)) (.int .i64 ((H : Int) + 1))).run Try.prog W' = .ok (.slice (some ⟨W'.heap.size, 0, none⟩) (H + 1) (H + 1)) (W'.alloc (.cells (List.replicate (H + 1) (Value.slice none 0 0)).toArray 22)) := fun W' => by
  have h := run_make (P := Try.prog) W' 71 22 i0 (.slice none 0 0) Try.underlying71 hi hz0 .i64 .i64 ((H : Int) + 1) ((H : Int) + 1) (by omega) (Int.le_refl _) (by rw [hz2]; omega) (by omega)
  rw [hz1, show ((H : Int) + 1).toNat = H + 1 by omega] at h
  simpa [made_reps, Value.cells] using h
 have hw1 : wrap64 ((H : Int) + 1) = (H : Int) + 1 := by unfold wrap64; omega
 clear hr0 hc0 hN hl hcs ht hM hi hz0 hz1 hz2 hH hW
 go_enter Try.func37, Try.ntmps37
 go_wp2_with (first | (go_at_call 39; ((with_reducible refine hn.mono ?_); rintro e w1 ⟨v, rfl, hR, hb⟩; obtain ⟨An, cn, rfl, hln, hCn⟩ := Kd.R_reads hR; have HR := Aside0.mk hR; have HB := Aside0.mk hb; have HCn := Aside0.mk (And.intro hCn hln); clear hR hb hCn hln)) | (go_at_call 54; ((refine (impl_reach.calls k An cn N _ _ _ HCn.out.1 HCn.out.2 HM.out).mono ?_); rintro e w2 ⟨rfl, hb⟩; have HB2 := Aside0.mk (below_step HB.out hb); have HC2 := Aside0.mk (Kd.C_below HCn.out.1 hb); clear hb)))
 clear hmk hw1
 obtain ⟨W3, hW3⟩ : ∃ W3, W3 = w2.alloc (.cells #[.int .i64 (W0 : Int), .int .i64 (H : Int)] 49) := ⟨_, rfl⟩
 have X3 := Aside0.mk (show W3.cell? ⟨w2.heap.size, 0, none⟩ = some (.int .i64 (W0 : Int)) from by rw [hW3]; exact (blk_cell (heap_alloc_new w2 _) 0).trans rfl)
 have C3 : Aside0 (Kd.C k49 W3 An N.length N) := ⟨by rw [hW3]; exact Kd.C_alloc HC2.out _⟩
 have B3 : Aside0 (Below w.heap.size w W3) := ⟨by rw [hW3]; exact below_alloc HB2.out _⟩
 have hs3 : w2.heap.size + 1 = W3.heap.size := by rw [hW3]; simp only [World.alloc, Array.size_push]
 rw [hs3, ← hW3]
 clear hW3 hs3 HR HB HCn HB2 HC2 hn
 generalize w2.heap.size = bx at X3 ⊢
 have R3 : Aside0 (RowsT (W3.alloc (.cells (Array.replicate (H + 1) (Value.slice none 0 0)) 22)) 22 5 W3.heap.size (H + 1) (W0 + 1) [] []) := ⟨⟨rfl, Nat.zero_le _, by simpa using heap_alloc_new W3 (.cells (Array.replicate (H + 1) (Value.slice none 0 0)) 22), fun y b hy => by simp at hy, fun r hr => absurd hr (by simp), List.nodup_nil, fun b hb => absurd hb (by simp)⟩⟩
 have Y3 := Aside0.mk (below_alloc (Below.refl W3.heap.size W3) (.cells (Array.replicate (H + 1) (Value.slice none 0 0)) 22))
 generalize W3.alloc (.cells (Array.replicate (H + 1) (Value.slice none 0 0)) 22) = W4 at R3 Y3 ⊢
 go_loopg [22] (H + 1) (fun kq v22 w' => ∃ (j : Nat) (bs : List (Nat × Nat)), v22 = .int .i64 j ∧ Aside0 (kq + j = H + 1 ∧ bs.length = j) ∧ Aside0 (RowsT w' 22 5 W3.heap.size (H + 1) (W0 + 1) bs (List.replicate j (List.replicate (W0 + 1) 46))) ∧ Aside0 (∀ b ∈ bs, W3.heap.size ≤ b.1) ∧ Aside0 (Below W3.heap.size W3 w'))
 case atStart => exact ⟨0, [], rfl, ⟨rfl, rfl⟩, R3, ⟨fun b hb => by cases hb⟩, Y3⟩
 case round =>
  clear R3 Y3
  obtain ⟨j, bs, rfl, HJ, RA, BB, HB⟩ := hrel
  cases gk with
  | succ kk =>
   have hj : j < H + 1 := by have := HJ.out; omega
   have hji : (j : Int) < (H : Int) + 1 := by omega
   have d0 : decide ((j : Int) < (H : Int) + 1) = true := decide_eq_true hji
   have hwh := HHW.out
   have hw1 : wrap64 ((W0 : Int) + 1) = (W0 : Int) + 1 := by unfold wrap64; omega
   have m0 : wr.cell? ⟨bx, 0, none⟩ = some (.int .i64 (W0 : Int)) := (HB.out.cell (World.block_lt_of_cell? W3 _ X3.out)).trans X3.out
   obtain ⟨s, hs⟩ : ∃ s : ByteArray, s = ⟨(Lib.repeatL (⟨#[46]⟩ : ByteArray).data.toList (W0 + 1)).toArray⟩ := ⟨_, rfl⟩
   have hrep : ∀ W' : World, Calls Try.prog 55 #[.string ⟨#[46]⟩, .int .i64 ((W0 : Int) + 1)] W' fun e w' => e = .returned (.string s) ∧ Below W'.heap.size W' w' := fun W' => by
    have h := Try.strings_Repeat ⟨#[46]⟩ (W0 + 1) W' (by omega) (by show 1 * (W0 + 1) ≤ _; omega)
    rw [← hs] at h
    exact h
   have hsz : s.size = W0 + 1 := by rw [hs]; exact dots_size _
   have hby : (s.data.toList.map fun b => (b.toNat : Int)) = List.replicate (W0 + 1) 46 := by rw [hs]; exact dots_bytes _
   have hcv : ∀ W' : World, (convert 9 22 (.string s)).run Try.prog W' = .ok (.slice (some ⟨W'.heap.size, 0, none⟩) (W0 + 1) (grownCap W' (W0 + 1) 0 5)) (Lib.bytesWorld W' 5 s) := fun W' => by
    have h := Lib.run_convert_string_bytes (P := Try.prog) W' 9 22 5 s Try.underlying9 Try.underlying22 Try.underlying5
    rw [hsz] at h
    exact h
   have HBY := Aside0.mk hby
   have HLJ := Aside0.mk hj
   clear hwh hs hsz hby hj
   go_wp2_with (go_at_call 55; ((with_reducible refine (hrep _).mono ?_); rintro e w5 ⟨rfl, hb⟩; have hbb : Below wr.heap.size wr (Lib.bytesWorld w5 5 s) := below_bytes hb hb.size _ _; obtain ⟨s1, s2⟩ := (RA.out.below hbb).spot (by rw [HJ.out.2]; exact HLJ.out); rw [HJ.out.2] at s1 s2; have hnx := RA.out.next (g := w5.heap.size) (c := grownCap w5 (W0 + 1) 0 5) (by rw [HJ.out.2]; exact HLJ.out) hbb hb.size (ByteRow.laid w5 5 s) (by rw [HBY.out, List.length_replicate]); rw [HBY.out, HJ.out.2, ← List.replicate_succ'] at hnx; have RN := Aside0.mk hnx; have QN := Aside0.mk (show ∀ b ∈ bs ++ [(w5.heap.size, grownCap w5 (W0 + 1) 0 5)], W3.heap.size ≤ b.1 from fun b hm => (by rcases List.mem_append.1 hm with h1 | h1; exact BB.out b h1; obtain rfl := List.mem_singleton.1 h1; exact Nat.le_trans HB.out.size hb.size)); have BN := Aside0.mk ((below_step HB.out hbb).setCell (p := ⟨W3.heap.size, j, none⟩) (Nat.le_refl _) (.slice (some ⟨w5.heap.size, 0, none⟩) (W0 + 1) (grownCap w5 (W0 + 1) 0 5))); clear hb hbb hnx))
   go_roundg kk
   case measure => omega
   case rel => exact ⟨j + 1, bs ++ [(w5.heap.size, grownCap w5 (W0 + 1) 0 5)], congrArg (Value.int .i64) (by have := HHW.out; have := HLJ.out; unfold wrap64; omega), ⟨by have := HJ.out; simp; omega⟩, RN, QN, BN⟩
  | zero =>
   obtain rfl : j = H + 1 := by have := HJ.out; omega
   have d9 : decide (((H + 1 : Nat) : Int) < (H : Int) + 1) = false := decide_eq_false (by omega)
   have RD : Aside0 (RowsT wr 22 5 W3.heap.size (H + 1) (W0 + 1) bs ((N.take 0).foldl markT (dotsG (H + 1) (W0 + 1)))) := ⟨RA.out⟩
   have HLB : Aside0 (bs.length = H + 1) := ⟨HJ.out.2⟩
   clear RA HJ
   go_wp2
   clear d9
   go_loopg [36] N.length (fun kq v36 w' => ∃ (j : Nat), v36 = .int .i64 j ∧ Aside0 (kq + j = N.length) ∧ Aside0 (RowsT w' 22 5 W3.heap.size (H + 1) (W0 + 1) bs ((N.take j).foldl markT (dotsG (H + 1) (W0 + 1)))) ∧ Aside0 (Below W3.heap.size W3 w'))
   case atStart => exact ⟨0, rfl, ⟨rfl⟩, RD, HB⟩
   case round =>
    clear RD HB
    obtain ⟨j, rfl, HJ, RA, HB⟩ := hrel
    cases gk with
    | succ kk =>
     have hj : j < N.length := by have := HJ.out; omega
     have d0 : decide ((j : Int) < (N.length : Int)) = true := decide_eq_true (by omega)
     have d1 : decide (j < N.length) = true := decide_eq_true hj
     have q0 : (0 ≤ (j : Int)) = True := eq_true (by omega)
     have q1 : ((j : Int) < (N.length : Int)) = True := eq_true (by omega)
     have q2 : (j < N.length) = True := eq_true hj
     obtain ⟨ad, ea, hx0, hx1⟩ := at_T49 C3.out (j : Int) (by omega) (by omega)
     cases ea
     obtain ⟨x, y, ⟨ex, hx⟩, ey, hy⟩ := HCS.out N[j] (List.getElem_mem hj)
     simp only [Int.toNat_natCast, rd_memT N j hj, ex, ey] at hx0 hx1
     replace hx0 := (HB.out.cell (World.block_lt_of_cell? W3 _ hx0)).trans hx0
     replace hx1 := (HB.out.cell (World.block_lt_of_cell? W3 _ hx1)).trans hx1
     have hG : ((N.take j).foldl markT (dotsG (H + 1) (W0 + 1))).length = H + 1 := by rw [← RA.out.len, HLB.out]
     have hstep : (N.take (j + 1)).foldl markT (dotsG (H + 1) (W0 + 1)) = ((N.take j).foldl markT (dotsG (H + 1) (W0 + 1))).set y ((((N.take j).foldl markT (dotsG (H + 1) (W0 + 1))).getD y []).set x 35) := by
      rw [List.take_succ_eq_append_getElem hj, List.foldl_append, List.foldl_cons, List.foldl_nil]
      unfold markT
      rw [ex, ey, Int.toNat_natCast, Int.toNat_natCast]
     generalize (N.take j).foldl markT (dotsG (H + 1) (W0 + 1)) = G at RA hG hstep
     have hbl := below_alloc (Below.refl wr.heap.size wr) (.cells #[.int .i64 (x : Int), .int .i64 (y : Int)] 49)
     obtain ⟨b, hb, hrow⟩ := RA.out.get (y := y) (by omega)
     have hGr : (G.getD y []).length = W0 + 1 := RA.out.wide _ (by rw [List.getD_eq_getElem?_getD, List.getElem?_eq_getElem (by omega : y < G.length)]; exact List.getElem_mem (by omega))
     have c1 := (hbl.cell (World.block_lt_of_cell? wr _ hrow)).trans hrow
     have hcy := ((RA.out.below hbl).cell y b hb)
     have c2 := hcy.cell (i := x) (by rw [hGr]; omega)
     have f2 := hcy.thaw (i := x) (by rw [hGr]; omega)
     have n0 : (wr.alloc (.cells #[.int .i64 (x : Int), .int .i64 (y : Int)] 49)).cell? ⟨wr.heap.size, 0, none⟩ = some (.int .i64 (x : Int)) := (blk_cell (heap_alloc_new wr _) 0).trans rfl
     have n1 : (wr.alloc (.cells #[.int .i64 (x : Int), .int .i64 (y : Int)] 49)).cell? ⟨wr.heap.size, 1, none⟩ = some (.int .i64 (y : Int)) := (blk_cell (heap_alloc_new wr _) 1).trans rfl
     have hput := (RA.out.below hbl.drew).put hb (x := x) (by omega) 35
     rw [← hstep] at hput
     have G2 := Aside0.mk hput
     have B2 := Aside0.mk (((HB.out.alloc HB.out.size (.cells #[.int .i64 (x : Int), .int .i64 (y : Int)] 49)).drew).setCell (p := ⟨b.1, x, none⟩) (BB.out b (List.mem_of_getElem? hb)) (.int .u8 35))
     have e1 : decide (0 ≤ (x : Int)) = true := decide_eq_true (by omega)
     have e2 : decide ((x : Int) < ((W0 + 1 : Nat) : Int)) = true := decide_eq_true (by omega)
     have e3 : decide (0 ≤ (y : Int)) = true := decide_eq_true (by omega)
     have e4 : decide ((y : Int) < ((H + 1 : Nat) : Int)) = true := decide_eq_true (by omega)
     have hxx : (x : Int) < (W0 : Int) + 1 := by omega
     have hyy : (y : Int) < (H : Int) + 1 := by omega
     have hjw : wrap64 ((j : Int) + 1) = ((j + 1 : Nat) : Int) := by have := HNL.out; unfold wrap64; omega
     have HJW := Aside0.mk hjw
     clear hbl hcy hstep hput hG hGr hrow ex ey hx hy hb hjw
     go_wp2
     go_region
     go_wp2
     go_roundg kk
     case measure => omega
     case rel => exact ⟨j + 1, congrArg (Value.int .i64) HJW.out, ⟨by have := HJ.out; omega⟩, G2, B2⟩
    | zero =>
     obtain rfl : j = N.length := by have := HJ.out; omega
     have d0 : decide ((N.length : Int) < (N.length : Int)) = false := decide_eq_false (by omega)
     have d1 : decide (N.length < N.length) = false := decide_eq_false (by omega)
     rw [List.take_length] at RA
     have hGl : (N.foldl markT (dotsG (H + 1) (W0 + 1))).length = H + 1 := by rw [← RA.out.len, HLB.out]
     have HGL := Aside0.mk hGl
     clear hGl HCS C3
     generalize hGG : N.foldl markT (dotsG (H + 1) (W0 + 1)) = G at RA HT HGL
     have HGG := Aside0.mk hGG
     clear hGG
     obtain ⟨i1, hi, hzz⟩ := Option.map_eq_some_iff.1 infoStrT
     simp only [Prod.mk.injEq] at hzz
     obtain ⟨hz0, hz1, hz2⟩ := hzz
     have hwh := HHW.out
     have hmk : ∀ W' : World, (Instr.makeSlice 73 (.int .i64 ((H : Int) + 1)) (.int .i64 ((H : Int) + 1))).run Try.prog W' = .ok (.slice (some ⟨W'.heap.size, 0, none⟩) (H + 1) (H + 1)) (W'.alloc (.cells (List.replicate (H + 1) (Value.string ⟨#[]⟩)).toArray 9)) := fun W' => by
      have h := run_make (P := Try.prog) W' 73 9 i1 (.string ⟨#[]⟩) Try.underlying73 hi hz0 .i64 .i64 ((H : Int) + 1) ((H : Int) + 1) (by omega) (Int.le_refl _) (by rw [hz2]; omega) (by omega)
      rw [hz1, show ((H : Int) + 1).toNat = H + 1 by omega] at h
      simpa [made_reps, Value.cells] using h
     clear hi hz0 hz1 hz2 hwh
     go_wp2
     clear hmk d0 d1
     have T5 : Aside0 (TextsT (wr.alloc (.cells (Array.replicate (H + 1) (Value.string ⟨#[]⟩)) 9)) wr.heap.size (H + 1) (G.take 0)) := ⟨by simpa [TextsT] using heap_alloc_new wr (.cells (Array.replicate (H + 1) (Value.string ⟨#[]⟩)) 9)⟩
     have Y5 := Aside0.mk (below_alloc (Below.refl wr.heap.size wr) (.cells (Array.replicate (H + 1) (Value.string ⟨#[]⟩)) 9))
     have B5 := Aside0.mk (below_step B3.out HB.out)
     generalize wr.alloc (.cells (Array.replicate (H + 1) (Value.string ⟨#[]⟩)) 9) = W6 at T5 Y5 ⊢
     clear HB BB X3
     generalize W3.heap.size = R at RA ⊢
     obtain ⟨W5, hW5⟩ : ∃ W5, W5 = wr := ⟨_, rfl⟩
     subst hW5
     go_loopg [54] (H + 1) (fun kq v54 w' => ∃ (j : Nat), v54 = .int .i64 j ∧ Aside0 (kq + j = H + 1) ∧ Aside0 (TextsT w' W5.heap.size (H + 1) (G.take j)) ∧ Aside0 (Below W5.heap.size W5 w'))
     case atStart => exact ⟨0, rfl, ⟨rfl⟩, T5, Y5⟩
     case round =>
      clear T5 Y5
      obtain ⟨j, rfl, HJ, TA, HB⟩ := hrel
      cases gk with
      | succ kk =>
       have hj : j < H + 1 := by have := HJ.out; omega
       have hji : (j : Int) < (H : Int) + 1 := by omega
       have d0 : decide ((j : Int) < (H : Int) + 1) = true := decide_eq_true hji
       obtain ⟨b, hb, hrow⟩ := RA.out.get (y := j) (by rw [HGL.out]; exact hj)
       replace hrow := (HB.out.cell (World.block_lt_of_cell? W5 _ hrow)).trans hrow
       have hGr : (G.getD j []).length = W0 + 1 := RA.out.wide _ (by rw [List.getD_eq_getElem?_getD, List.getElem?_eq_getElem (by rw [HGL.out]; exact hj)]; exact List.getElem_mem (by rw [HGL.out]; exact hj))
       have hby := (RA.out.below HB.out).cell j b hb
       have hcv : (convert 22 9 (.slice (some ⟨b.1, 0, none⟩) (W0 + 1) b.2)).run Try.prog wr = .ok (.string (strOfNums (G.getD j []))) wr := string_of_reads Try.underlying22 Try.underlying5 Try.underlying9 ⟨hGr, by have := HHW.out; omega, fun _ => ⟨_, rfl, fun x hx => by rw [add_plain]; exact hby.cell (by rw [hGr]; exact hx)⟩⟩
       have c1 : wr.cell? ⟨W5.heap.size, j, none⟩ = some (.string ⟨#[]⟩) := by
        rw [blk_cell TA.out, List.getElem?_toArray, List.getElem?_append_right (by simp [List.length_take]; omega), List.getElem?_replicate, if_pos (by simp [List.length_take, HGL.out]; omega)]
       have f1 : wr.frozen? ⟨W5.heap.size, j, none⟩ = false := blk_frozen TA.out _
       have T7 := Aside0.mk (TextsT.next HGL.out hj TA.out)
       have Y7 := Aside0.mk (HB.out.setCell (p := ⟨W5.heap.size, j, none⟩) (Nat.le_refl _) (.string (strOfNums (G.getD j []))))
       have hjw : wrap64 ((j : Int) + 1) = ((j + 1 : Nat) : Int) := by have := HHW.out; unfold wrap64; omega
       have HJW := Aside0.mk hjw
       clear hby hGr hb hjw
       generalize G.getD j [] = row at hcv T7 Y7
       go_wp2
       go_roundg kk
       case measure => omega
       case rel => exact ⟨j + 1, congrArg (Value.int .i64) HJW.out, ⟨by have := HJ.out; omega⟩, T7, Y7⟩
      | zero =>
       obtain rfl : j = H + 1 := by have := HJ.out; omega
       have d9 : decide (((H + 1 : Nat) : Int) < (H : Int) + 1) = false := decide_eq_false (by omega)
       have hT := TA.out
       rw [List.take_of_length_le (by rw [HGL.out]; omega)] at hT
       unfold TextsT at hT
       rw [HGL.out, Nat.sub_self, List.replicate_zero, List.append_nil] at hT
       have hC : Kd.C Kd.string wr (some ⟨W5.heap.size, 0, none⟩) (G.map strOfNums).length (G.map strOfNums) := ⟨rfl, by rw [List.length_map, HGL.out]; have := HHW.out; omega, fun _ => ⟨_, rfl, fun p q hp => ⟨[.string q], rfl, rfl, fun i u hu => by
        match i, hu with
        | 0, hu =>
         cases hu
         show wr.cell? ((⟨W5.heap.size, 0, none⟩ : Addr).add (p * 1 + 0)) = _
         rw [add_plain, blk_cell hT, List.getElem?_toArray, Nat.mul_one, Nat.add_zero, List.getElem?_map]
         rw [List.getElem?_map] at hp
         cases hG : G[p]? with
         | none => rw [hG] at hp; cases hp
         | some z => rw [hG] at hp; cases hp; rfl⟩⟩⟩
       have hJn : strings_Join.f (G.map strOfNums) ⟨#[47]⟩ = some (textT G) := by
        unfold strings_Join.f
        rw [if_pos ⟨by rw [List.length_map, HGL.out]; have := HHW.out; omega, HT.out⟩]
        rfl
       have hcall := strings_Join.calls (some ⟨W5.heap.size, 0, none⟩) (H + 1) (G.map strOfNums) ⟨#[47]⟩ (textT G) wr hC (by rw [List.length_map, HGL.out]; exact Nat.le_refl _) hJn
       rw [List.length_map, HGL.out] at hcall
       have Y7 := Aside0.mk (below_step B5.out HB.out)
       clear hT hC hJn
       go_wp2_with (go_at_call 56; ((with_reducible refine hcall.mono ?_); rintro e w8 ⟨rfl, hb⟩; have B8 := Aside0.mk (below_step Y7.out hb); clear hb))
       go_ret
       exact ⟨by rw [HGG.out]; rfl, B8.out⟩
def impl_shapeText.f (k : Nat) (l0 : List S49) : Option ByteArray := (impl_normal.f k l0).bind fun N => (impl_reach.f k N).bind fun m => if okT N m.1 m.2 then some (textT (hashG N m.1 m.2)) else none
theorem impl_shapeText.mono : ∀ l0 k, LeO (impl_shapeText.f k l0) (impl_shapeText.f (k + 1) l0) := by
 intro l0 k
 unfold impl_shapeText.f
 exact LeO.bind (impl_normal.mono l0 k) (fun N => LeO.bind (impl_reach.mono N k) (fun _ => LeO.refl _))
theorem impl_shapeText.calls (k : Nat) (A0 : Option Addr) (c0 : Nat) (l0 : List S49) (r : ByteArray) (w : World) (hr0 : Kd.C k49 w A0 l0.length l0) (hc0 : l0.length ≤ c0) (h : impl_shapeText.f k l0 = some r) :
  Calls Try.prog 37 #[.slice A0 l0.length c0] w fun e w' => e = .returned (.string r) ∧ Below w.heap.size w w' := by
 obtain ⟨N, hN, h⟩ := Option.bind_eq_some_iff.1 h
 obtain ⟨⟨mx, my⟩, hM, h⟩ := Option.bind_eq_some_iff.1 h
 simp only at h
 by_cases hok : okT N mx my
 case neg => rw [if_neg hok] at h; cases h
 rw [if_pos hok] at h
 obtain rfl := Option.some.inj h
 obtain ⟨⟨⟨w0, w1⟩, h0, h1⟩, hl, hcs, ht⟩ := hok
 obtain ⟨W0, rfl⟩ := Int.eq_ofNat_of_zero_le w0
 obtain ⟨H, rfl⟩ := Int.eq_ofNat_of_zero_le h0
 unfold hashG at ht ⊢
 rw [show ((H : Int) + 1).toNat = H + 1 by omega, show ((W0 : Int) + 1).toNat = W0 + 1 by omega] at ht ⊢
 refine shapeText_walk k A0 c0 l0 N W0 H w hr0 hc0 hN hM (by omega) (by omega) hl (fun c hc => ?_) ht
 have hh := hcs c hc
 exact ⟨c.f0.toNat, c.f1.toNat, ⟨by omega, by omega⟩, by omega, by omega⟩


/-! ### impl_NameOf: function 20 -/
def impl_NameOf.f (k : Nat) (l0 : List (S49)) : Option (ByteArray × Int) := (impl_shapeCode.f k l0).bind fun t358 => (if t358 = 0 then ((impl_freeForm.f k l0).bind fun t359 => ((impl_shapeText.f k t359).bind fun t362 => (some (t362, 0)))) else (some ((⟨#[]⟩ : ByteArray), t358)))
theorem impl_NameOf.mono : ∀ a0 k, LeO (impl_NameOf.f k a0) (impl_NameOf.f (k + 1) a0) := by
 intro a0 k
 unfold impl_NameOf.f
 repeat' first
   | (with_reducible exact impl_freeForm.mono _ _)
   | (with_reducible exact impl_shapeCode.mono _ _)
   | (with_reducible exact impl_shapeText.mono _ _)
   | (with_reducible exact LeO.refl _)
   | (with_reducible exact LeO.none _)
   | (with_reducible refine LeO.ite ?_ ?_)
   | (with_reducible refine LeO.bind ?_ (fun _ => ?_))
   | exact impl_freeForm.mono _ _
   | exact impl_shapeCode.mono _ _
   | exact impl_shapeText.mono _ _
   | exact LeO.none _
   | refine LeO.ite ?_ ?_
   | refine LeO.bind ?_ (fun _ => ?_)
set_option maxHeartbeats 8000000 in
set_option maxRecDepth 100000 in
theorem impl_NameOf.calls (k : Nat) (A0 : Option Addr) (c0 : Nat) (l0 : List (S49)) (r1 : ByteArray) (r2 : Int) (w : World) (hr0 : Kd.C k49 w A0 l0.length l0) (hc0 : l0.length ≤ c0) (h : impl_NameOf.f k l0 = some (r1, r2)) :
  Calls Try.prog 20 #[.slice A0 l0.length c0] w fun e w' => e = .returned (.tuple #[.string r1, .int .i64 r2]) ∧ Below w.heap.size w w' := by
 have HR0 := Aside0.mk hr0
 have HC0 := Aside0.mk hc0
 clear hr0 hc0
 have HB := Aside0.mk (Below.refl w.heap.size w)
 have H : ((impl_shapeCode.f k l0).bind fun t358 => (if t358 = 0 then ((impl_freeForm.f k l0).bind fun t359 => ((impl_shapeText.f k t359).bind fun t362 => (some (t362, 0)))) else (some ((⟨#[]⟩ : ByteArray), t358)))) = some (r1, r2) := h
 clear h
 replace H := Option.bind_eq_some_iff.mp H
 obtain ⟨t358, A20, H⟩ := H
 replace H : (if t358 = 0 then ((impl_freeForm.f k l0).bind fun t359 => ((impl_shapeText.f k t359).bind fun t362 => (some (t362, 0)))) else (some ((⟨#[]⟩ : ByteArray), t358))) = some (r1, r2) := H
 have A2 := Aside0.mk A20
 clear A20
 by_cases c3 : t358 = 0
 ·rw [if_pos c3] at H
  have c3b0 : (t358 == 0) = true := beq_iff_eq.mpr c3
  have c3b1 : (t358 != 0) = false := bne_eq_false_iff_eq.mpr c3
  clear c3
  replace H := Option.bind_eq_some_iff.mp H
  obtain ⟨t359, A40, H⟩ := H
  replace H : ((impl_shapeText.f k t359).bind fun t362 => (some (t362, 0))) = some (r1, r2) := H
  have A4 := Aside0.mk A40
  clear A40
  replace H := Option.bind_eq_some_iff.mp H
  obtain ⟨t362, A50, H⟩ := H
  replace H : (some (t362, 0)) = some (r1, r2) := H
  have A5 := Aside0.mk A50
  clear A50
  simp only [Option.some.injEq, Prod.mk.injEq] at H
  obtain ⟨rfl, rfl⟩ := H
  go_enter Try.func20, Try.ntmps20
  go_wp2_with (first | ((with_reducible refine gate_callee (f := 23) rfl ?_); refine goesL_ (some 6) rfl rfl Try.func23 kr_ rfl #[.slice A0 l0.length c0] rfl ta_ ?_; (with_reducible refine (impl_shapeCode.calls k _ _ l0 t358 _ ?side1 ?side2 A2.out).mono ?_); (case side1 => exact ca_ HR0.out); (case side2 => exact HC0.out); rintro e w6 ⟨rfl, hb⟩; refine ⟨_, rfl, ?_⟩; have n0_ := Aside0.mk (below_step (bl0_) hb); clear HB; have HB := n0_; clear n0_; (try clear hb); (try clear hb2); (try clear hk); (try clear hi)) | ((with_reducible refine gate_callee (f := 28) rfl ?_); refine goesL_ (some 11) rfl rfl Try.func28 kr_ rfl #[.slice A0 l0.length c0] rfl ta_ ?_; (with_reducible refine (impl_freeForm.calls k _ _ l0 t359 _ ?side1 ?side2 A4.out).mono ?_); (case side1 => exact ca_ (Kd.C_below HR0.out HB.out)); (case side2 => exact HC0.out); rintro e w7 ⟨v360, rfl, ho0, hb⟩; refine ⟨_, rfl, ?_⟩; have n0_ := Aside0.mk (Kd.R_lower ho0 (below_size (bl0_))); have n1_ := Aside0.mk (below_step (bl0_) hb); clear HB; have HO361 := n0_; have HB := n1_; clear n0_ n1_; (try clear hb); (try clear hb2); (try clear hk); (try clear hi); (try clear ho0); obtain ⟨Ao8, co8, eo8⟩ := Kd.R_slice HO361.out; subst eo8) | ((with_reducible refine gate_callee (f := 37) rfl ?_); refine goesL_ (some 12) rfl rfl Try.func37 kr_ rfl #[.slice Ao8 t359.length co8] rfl ta_ ?_; (with_reducible refine (impl_shapeText.calls k _ _ t359 t362 _ ?side1 ?side2 A5.out).mono ?_); (case side1 => exact ca_ (Kd.R_reads' HO361.out).2.2); (case side2 => exact (Kd.R_reads' HO361.out).2.1); rintro e w9 ⟨rfl, hb⟩; refine ⟨_, rfl, ?_⟩; have n0_ := Aside0.mk (Kd.R_below (ra_ HO361.out) hb); have n1_ := Aside0.mk (below_step (bl0_) hb); clear HO361; clear HB; have HO361 := n0_; have HB := n1_; clear n0_ n1_; (try clear hb); (try clear hb2); (try clear hk); (try clear hi)))
  go_ret2
  exact ⟨er_, bl0_⟩
 ·rw [if_neg c3] at H
  have c3b0 : (t358 == 0) = false := beq_eq_false_iff_ne.mpr c3
  have c3b1 : (t358 != 0) = true := bne_iff_ne.mpr c3
  simp only [Option.some.injEq, Prod.mk.injEq] at H
  obtain ⟨rfl, rfl⟩ := H
  go_enter Try.func20, Try.ntmps20
  go_wp2_with (first | ((with_reducible refine gate_callee (f := 23) rfl ?_); refine goesL_ (some 6) rfl rfl Try.func23 kr_ rfl #[.slice A0 l0.length c0] rfl ta_ ?_; (with_reducible refine (impl_shapeCode.calls k _ _ l0 t358 _ ?side1 ?side2 A2.out).mono ?_); (case side1 => exact ca_ HR0.out); (case side2 => exact HC0.out); rintro e w10 ⟨rfl, hb⟩; refine ⟨_, rfl, ?_⟩; have n0_ := Aside0.mk (below_step (bl0_) hb); clear HB; have HB := n0_; clear n0_; (try clear hb); (try clear hb2); (try clear hk); (try clear hi)))
  go_ret2
  exact ⟨er_, bl0_⟩

/-! ### spec_l01In: function 62 -/
def spec_l01In.f (a0 : Int) (a1 : Int) (a2 : Int) : Option (Bool) := if a0 ≥ a1 then (some (decide (a0 ≤ a2))) else (some false)
set_option maxHeartbeats 8000000 in
set_option maxRecDepth 100000 in
theorem spec_l01In.calls (a0 : Int) (a1 : Int) (a2 : Int) (r : Bool) (w : World) (h : spec_l01In.f a0 a1 a2 = some r) :
  Calls Try.prog 62 #[.int .i64 a0, .int .i64 a1, .int .i64 a2] w fun e w' => e = .returned (.bool r) ∧ Drawn0 w w' := by
 have H : (if a0 ≥ a1 then (some (decide (a0 ≤ a2))) else (some false)) = some r := h
 clear h
 by_cases c4 : a0 ≥ a1
 ·rw [if_pos c4] at H
  have c4b0 : decide (a1 ≤ a0) = true := decide_eq_true c4
  clear c4
  obtain rfl := Option.some.inj H
  go_enter Try.func62, Try.ntmps62
  go_wp2
  go_ret
  exact ⟨by first | rfl | (simp; done) | (simp [*]; done), by repeat (first | exact Drawn0.refl _ | apply Drawn0.step)⟩
 ·rw [if_neg c4] at H
  have c4b0 : decide (a1 ≤ a0) = false := decide_eq_false c4
  clear c4
  obtain rfl := Option.some.inj H
  go_enter Try.func62, Try.ntmps62
  go_wp2
  go_ret
  exact ⟨by first | rfl | (simp; done) | (simp [*]; done), by repeat (first | exact Drawn0.refl _ | apply Drawn0.step)⟩

/-! ### spec_l02Cell: function 61 -/
def spec_l02Cell.f (a0_0 : Int) (a0_1 : Int) : Option (Bool) := (spec_l01In.f a0_0 (-100) 100).bind fun t364 => (if t364 = true then ((spec_l01In.f a0_1 (-100) 100).bind fun t365 => (some t365)) else (some false))
set_option maxHeartbeats 8000000 in
set_option maxRecDepth 100000 in
theorem spec_l02Cell.calls (a0_0 : Int) (a0_1 : Int) (r : Bool) (w : World) (h : spec_l02Cell.f a0_0 a0_1 = some r) :
  Calls Try.prog 61 #[.agg #[.int .i64 a0_0, .int .i64 a0_1]] w fun e w' => e = .returned (.bool r) ∧ Below w.heap.size w w' := by
 have hu49 := Try.underlying49
 have HB := Aside0.mk (Below.refl w.heap.size w)
 have H : ((spec_l01In.f a0_0 (-100) 100).bind fun t364 => (if t364 = true then ((spec_l01In.f a0_1 (-100) 100).bind fun t365 => (some t365)) else (some false))) = some r := h
 clear h
 replace H := Option.bind_eq_some_iff.mp H
 obtain ⟨t364, A20, H⟩ := H
 replace H : (if t364 = true then ((spec_l01In.f a0_1 (-100) 100).bind fun t365 => (some t365)) else (some false)) = some r := H
 have A2 := Aside0.mk A20
 clear A20
 by_cases c3 : t364 = true
 ·subst c3
  have H1 : ((spec_l01In.f a0_1 (-100) 100).bind fun t365 => (some t365)) = some r := by rw [if_pos rfl] at H; exact H
  clear H
  have H := H1
  clear H1
  replace H := Option.bind_eq_some_iff.mp H
  obtain ⟨t365, A40, H⟩ := H
  replace H : (some t365) = some r := H
  have A4 := Aside0.mk A40
  clear A40
  obtain rfl := Option.some.inj H
  go_enter Try.func61, Try.ntmps61
  go_wp2_with (first | ((with_reducible refine gate_dst (N := 1) rfl ?_); refine box_event ?hg (N := 1) ?hd (cs := #[.int .i64 a0_0, .int .i64 a0_1]) (t := 49) ?hr ?_; (case hd => rfl); (case hg => rfl); (case hr => first | (go_simp; done) | (go_simp; rfl)); intro gb363 hg w5 hbox hb; have n0_ := Aside0.mk (below_step (bl0_) hb); have n1_ := Aside0.mk (hbox); have n2_ := Aside0.mk ((sz_ hg (bl0_) : w.heap.size ≤ gb363)); have n3_ := Aside0.mk ((sz_ hg (bl0_) : w.heap.size ≤ gb363)); clear HB; have HB := n0_; have BK363 := n1_; have GW363 := n2_; have GE363 := n3_; clear n0_ n1_ n2_ n3_; clear hb hbox hg; have hcz6_0 : w5.cell? ⟨gb363, 0, none⟩ = some (.int .i64 a0_0) := (blk_cell BK363.out 0).trans rfl; have hcz6_1 : w5.cell? ⟨gb363, 1, none⟩ = some (.int .i64 a0_1) := (blk_cell BK363.out 1).trans rfl; have hfz6_0 := blk_frozen BK363.out 0; have hfz6_1 := blk_frozen BK363.out 1) | ((with_reducible refine gate_callee (f := 62) rfl ?_); refine goesL_ (some 5) rfl rfl Try.func62 kr_ rfl #[.int .i64 a0_0, .int .i64 (-100), .int .i64 100] rfl ta_ ?_; (with_reducible refine (spec_l01In.calls a0_0 (-100) 100 true _ A2.out).mono ?_); rintro e w' ⟨rfl, ⟨nd, rfl⟩⟩; refine ⟨_, rfl, ?_⟩) | (go_at_call 62; (with_reducible refine (spec_l01In.calls a0_1 (-100) 100 t365 _ A4.out).mono ?_); rintro e w' ⟨rfl, ⟨nd, rfl⟩⟩))
  go_ret
  exact ⟨er_, bl1_ GE363.out⟩
 ·replace c3 := Bool.eq_false_iff.mpr c3
  subst c3
  have H1 : (some false) = some r := by rw [if_neg (show ¬ (false = true) by decide)] at H; exact H
  clear H
  have H := H1
  clear H1
  obtain rfl := Option.some.inj H
  go_enter Try.func61, Try.ntmps61
  go_wp2_with (first | ((with_reducible refine gate_dst (N := 1) rfl ?_); refine box_event ?hg (N := 1) ?hd (cs := #[.int .i64 a0_0, .int .i64 a0_1]) (t := 49) ?hr ?_; (case hd => rfl); (case hg => rfl); (case hr => first | (go_simp; done) | (go_simp; rfl)); intro gb363 hg w7 hbox hb; have n0_ := Aside0.mk (below_step (bl0_) hb); have n1_ := Aside0.mk (hbox); have n2_ := Aside0.mk ((sz_ hg (bl0_) : w.heap.size ≤ gb363)); have n3_ := Aside0.mk ((sz_ hg (bl0_) : w.heap.size ≤ gb363)); clear HB; have HB := n0_; have BK363 := n1_; have GW363 := n2_; have GE363 := n3_; clear n0_ n1_ n2_ n3_; clear hb hbox hg; have hcz8_0 : w7.cell? ⟨gb363, 0, none⟩ = some (.int .i64 a0_0) := (blk_cell BK363.out 0).trans rfl; have hcz8_1 : w7.cell? ⟨gb363, 1, none⟩ = some (.int .i64 a0_1) := (blk_cell BK363.out 1).trans rfl; have hfz8_0 := blk_frozen BK363.out 0; have hfz8_1 := blk_frozen BK363.out 1) | ((with_reducible refine gate_callee (f := 62) rfl ?_); refine goesL_ (some 5) rfl rfl Try.func62 kr_ rfl #[.int .i64 a0_0, .int .i64 (-100), .int .i64 100] rfl ta_ ?_; (with_reducible refine (spec_l01In.calls a0_0 (-100) 100 false _ A2.out).mono ?_); rintro e w' ⟨rfl, ⟨nd, rfl⟩⟩; refine ⟨_, rfl, ?_⟩))
  go_ret
  exact ⟨er_, bl1_ GE363.out⟩

end Go.Proofs.Ytaaodakmelihaaa.PFnNames
