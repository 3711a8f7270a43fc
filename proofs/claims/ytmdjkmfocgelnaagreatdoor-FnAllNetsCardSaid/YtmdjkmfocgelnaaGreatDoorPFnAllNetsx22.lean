/- Over the kit's printer by a driver of mine (hprint.py), with parts by hand: functions of the program as Lean functions, and that each call comes to exactly these answers. -/
import Derived.Test.YtmdjkmfocgelnaaGreatDoorPFnAllNetsx0
import Derived.Test.YtmdjkmfocgelnaaGreatDoorPFnAllNetsx8
import Derived.Test.YtmdjkmfocgelnaaGreatDoorPFnAllNetsx9
import Derived.Test.YtmdjkmfocgelnaaGreatDoorPFnAllNetsx10
import Derived.Test.YtmdjkmfocgelnaaGreatDoorPFnAllNetsx20
import Derived.Test.YtmdjkmfocgelnaaGreatDoorPFnAllNetsx21
namespace Go.Proofs.YtmdjkmfocgelnaaGreatDoor.PFnAllNets
open Go.RowKit Go.Proofs.YtmdjkmfocgelnaaGreatDoorW.PrintWords Go.Proofs.YtmdjkmfocgelnaaGreatDoorW.PrintLast Go.Proofs.YtmdjkmfocgelnaaGreatDoorW.PrintMore
attribute [local go_sem] max2_int min2_int max_two min_two max_three min_three max_four min_four   
set_option linter.unusedVariables false
set_option linter.unusedSimpArgs false
def spec_l32Draw.l0 : Nat → List (S56) → List Int → Int → Int → Option ((List (S56)) × Int × Int)
 | 0, _, _, _, _ => none
 | k + 1, x3, x1000, x1001, x1002 => if (x3.length : Int) < 6 then ((spec_l02Neighbours.f k x3).bind fun t551 => ((spec_l01Next.f x1000 x1001 x1002 (t551.length : Int)).bind fun bt554 => (if 0 ≤ bt554.1 then (if bt554.1 < (t551.length : Int) then ((spec_l02Insert.f k x3 ((rd_T56 t551 bt554.1).f0) ((rd_T56 t551 bt554.1).f1)).bind fun t558 => (spec_l32Draw.l0 k t558 x1000 bt554.2.1 bt554.2.2)) else (none)) else (none)))) else (some (x3, x1001, x1002))
def spec_l32Draw.f (k : Nat) (s0_0 : List Int) (s0_1 : Int) (s0_2 : Int) : Option ((List (S56)) × Int × Int) := (spec_l01Next.f s0_0 s0_1 s0_2 3).bind fun bt519 => (if bt519.1 = 0 then ((spec_l02Draw.f k s0_0 bt519.2.1 bt519.2.2).bind fun bt522 => (some (bt522.1, bt522.2.1, bt522.2.2))) else ((spec_l01Next.f s0_0 bt519.2.1 bt519.2.2 2).bind fun bt527 => (if bt527.1 = 0 then ((spec_l01Next.f s0_0 bt527.2.1 bt527.2.2 4).bind fun bt530 => ((spec_l01Next.f s0_0 bt530.2.1 bt530.2.2 4).bind fun bt533 => ((spec_l02Sort.f k (([(⟨0, 1⟩ : S56), (⟨1, 1⟩ : S56), (⟨2, 1⟩ : S56), (⟨3, 1⟩ : S56), (⟨bt530.1, 0⟩ : S56), (⟨bt533.1, 2⟩ : S56)] : List (S56)))).bind fun t539 => ((spec_l01Next.f s0_0 bt533.2.1 bt533.2.2 8).bind fun bt542 => ((spec_l03Form.f k t539 bt542.1).bind fun t545 => (some (t545, bt542.2.1, bt542.2.2))))))) else (spec_l32Draw.l0 k (([(⟨0, 0⟩ : S56)] : List (S56))) s0_0 bt527.2.1 bt527.2.2))))
set_option maxHeartbeats 8000000 in
set_option maxRecDepth 100000 in
theorem spec_l32Draw.calls (k : Nat) (g : Nat) (s0_0 : List Int) (s0_1 : Int) (s0_2 : Int) (r1 : List (S56)) (r2 : Int) (r3 : Int) (w0 w : World) (hI : IsS67 w0 w g s0_0 s0_1 s0_2) (hB : Below w0.heap.size w0 w) (h : spec_l32Draw.f k s0_0 s0_1 s0_2 = some (r1, r2, r3)) :
  Calls Tryz.prog 27 #[.pointer (some ⟨g, 0, none⟩)] w fun e w' => ∃ v0_ : Value, e = .returned (v0_) ∧ Kd.R k56 56 w' w.heap.size (fun _ => True) v0_ r1 ∧ IsS67 w0 w' g s0_0 r2 r3 ∧ Below w0.heap.size w0 w' ∧ KeepBut w w' g none := by
 have hu56 := Tryz.underlying56
 have HI0 := Aside0.mk hI
 have HK := a0_ (KeepBut.refl w g none)
 have HL := Aside0.mk hB.size
 clear hI
 have HW0 := Aside0.mk hB.size
 have HB := Aside0.mk hB
 clear hB
 have H := h
 clear h
 unfold spec_l32Draw.f at H
 obtain ⟨⟨t519, t520, t521⟩, A2, H⟩ := bs_ H
 dsimp only at H
 by_cases c3 : t519 = 0
 ·rw [if_pos c3] at H
  have c3b0 : (t519 == 0) = true := beq_iff_eq.mpr c3
  have c3b1 : (t519 != 0) = false := bne_eq_false_iff_eq.mpr c3
  clear c3
  obtain ⟨⟨t522, t525, t526⟩, A4, H⟩ := bs_ H
  dsimp only at H
  simp only [Option.some.injEq, Prod.mk.injEq] at H
  obtain ⟨rfl, rfl, rfl⟩ := H
  go_enter Tryz.func27, Tryz.ntmps27
  go_wp2_with (first | ((with_reducible refine gate_callee (f := 46) rfl ?_); refine goesL_ (some 6) rfl rfl Tryz.func46 kr_ rfl #[.pointer (some ⟨g, 0, none⟩), .int .i64 3] rfl ta_ ?_; (with_reducible refine (spec_l01Next.calls g s0_0 s0_1 s0_2 3 t519 t520 t521 w0 _ ?side1 ?side2 A2.out).mono ?_); (case side1 => exact is67_ HI0.out); (case side2 => exact bl1_ (IsS67.ge HI0.out)); rintro e w5 ⟨rfl, hi, hb, hk⟩; refine ⟨_, rfl, ?_⟩; replace HK := a0_ (KeepBut.trans (kb0_) hk (.inl rfl)); replace HB := a0_ (hb); replace HI0 := a0_ (hi); (try clear hb); (try clear hk); (try clear hi)) | ((with_reducible refine gate_callee (f := 47) rfl ?_); refine goesL_ (some 9) rfl rfl Tryz.func47 kr_ rfl #[.pointer (some ⟨g, 0, none⟩)] rfl ta_ ?_; (with_reducible refine (spec_l02Draw.calls k g s0_0 t520 t521 t522 t525 t526 w0 _ ?side1 ?side2 A4.out).mono ?_); (case side1 => exact is67_ HI0.out); (case side2 => exact bl1_ (IsS67.ge HI0.out)); rintro e w6 ⟨v523, rfl, ho0, hi, hb, hk⟩; refine ⟨_, rfl, ?_⟩; have HO524 := a0_ (Kd.R_lower ho0 (keep_size (w := w) (g := g) (row := none) (kb0_))); replace HK := a0_ (KeepBut.trans (kb0_) hk (.inl rfl)); replace HB := a0_ (hb); replace HI0 := a0_ (hi); (try clear hb); (try clear hk); (try clear hi); (try clear ho0)))
  go_ret
  exact ⟨_, er_, ra_ HO524.out, is67_ HI0.out, bl1_ (IsS67.ge HI0.out), kb0_⟩
 ·rw [if_neg c3] at H
  have c3b0 : (t519 == 0) = false := beq_eq_false_iff_ne.mpr c3
  have c3b1 : (t519 != 0) = true := bne_iff_ne.mpr c3
  obtain ⟨⟨t527, t528, t529⟩, A7, H⟩ := bs_ H
  dsimp only at H
  by_cases c8 : t527 = 0
  ·rw [if_pos c8] at H
   have c8b0 : (t527 == 0) = true := beq_iff_eq.mpr c8
   have c8b1 : (t527 != 0) = false := bne_eq_false_iff_eq.mpr c8
   clear c8
   obtain ⟨⟨t530, t531, t532⟩, A9, H⟩ := bs_ H
   dsimp only at H
   obtain ⟨⟨t533, t534, t535⟩, A10, H⟩ := bs_ H
   dsimp only at H
   obtain ⟨y536, hy536⟩ : ∃ y_ : List (S56), y_ = (([(⟨0, 1⟩ : S56), (⟨1, 1⟩ : S56), (⟨2, 1⟩ : S56), (⟨3, 1⟩ : S56), (⟨t530, 0⟩ : S56), (⟨t533, 2⟩ : S56)] : List (S56))) := ⟨_, rfl⟩
   replace H : ((spec_l02Sort.f k y536).bind fun t539 => ((spec_l01Next.f s0_0 t534 t535 8).bind fun bt542 => ((spec_l03Form.f k t539 bt542.1).bind fun t545 => (some (t545, bt542.2.1, bt542.2.2))))) = some (r1, r2, r3) := hh_ hy536 H
   have Ny536 := Aside0.mk hy536
   clear hy536
   obtain ⟨t539, A11, H⟩ := bs_ H
   obtain ⟨⟨t542, t543, t544⟩, A12, H⟩ := bs_ H
   dsimp only at H
   obtain ⟨t545, A13, H⟩ := bs_ H
   simp only [Option.some.injEq, Prod.mk.injEq] at H
   obtain ⟨rfl, rfl, rfl⟩ := H
   go_enter Tryz.func27, Tryz.ntmps27
   go_wp2_with (first | ((with_reducible refine gate_callee (f := 46) rfl ?_); refine goesL_ (some 6) rfl rfl Tryz.func46 kr_ rfl #[.pointer (some ⟨g, 0, none⟩), .int .i64 3] rfl ta_ ?_; (with_reducible refine (spec_l01Next.calls g s0_0 s0_1 s0_2 3 t519 t520 t521 w0 _ ?side1 ?side2 A2.out).mono ?_); (case side1 => exact is67_ HI0.out); (case side2 => exact bl1_ (IsS67.ge HI0.out)); rintro e w14 ⟨rfl, hi, hb, hk⟩; refine ⟨_, rfl, ?_⟩; replace HK := a0_ (KeepBut.trans (kb0_) hk (.inl rfl)); replace HB := a0_ (hb); replace HI0 := a0_ (hi); (try clear hb); (try clear hk); (try clear hi)) | ((with_reducible refine gate_callee (f := 46) rfl ?_); refine goesL_ (some 11) rfl rfl Tryz.func46 kr_ rfl #[.pointer (some ⟨g, 0, none⟩), .int .i64 2] rfl ta_ ?_; (with_reducible refine (spec_l01Next.calls g s0_0 t520 t521 2 t527 t528 t529 w0 _ ?side1 ?side2 A7.out).mono ?_); (case side1 => exact is67_ HI0.out); (case side2 => exact bl1_ (IsS67.ge HI0.out)); rintro e w15 ⟨rfl, hi, hb, hk⟩; refine ⟨_, rfl, ?_⟩; replace HK := a0_ (KeepBut.trans (kb0_) hk (.inl rfl)); replace HB := a0_ (hb); replace HI0 := a0_ (hi); (try clear hb); (try clear hk); (try clear hi)) | ((with_reducible refine gate_callee (f := 46) rfl ?_); refine goesL_ (some 18) rfl rfl Tryz.func46 kr_ rfl #[.pointer (some ⟨g, 0, none⟩), .int .i64 4] rfl ta_ ?_; (with_reducible refine (spec_l01Next.calls g s0_0 t528 t529 4 t530 t531 t532 w0 _ ?side1 ?side2 A9.out).mono ?_); (case side1 => exact is67_ HI0.out); (case side2 => exact bl1_ (IsS67.ge HI0.out)); rintro e w16 ⟨rfl, hi, hb, hk⟩; refine ⟨_, rfl, ?_⟩; replace HK := a0_ (KeepBut.trans (kb0_) hk (.inl rfl)); replace HB := a0_ (hb); replace HI0 := a0_ (hi); (try clear hb); (try clear hk); (try clear hi)) | ((with_reducible refine gate_callee (f := 46) rfl ?_); refine goesL_ (some 21) rfl rfl Tryz.func46 kr_ rfl #[.pointer (some ⟨g, 0, none⟩), .int .i64 4] rfl ta_ ?_; (with_reducible refine (spec_l01Next.calls g s0_0 t531 t532 4 t533 t534 t535 w0 _ ?side1 ?side2 A10.out).mono ?_); (case side1 => exact is67_ HI0.out); (case side2 => exact bl1_ (IsS67.ge HI0.out)); rintro e w17 ⟨rfl, hi, hb, hk⟩; refine ⟨_, rfl, ?_⟩; replace HK := a0_ (KeepBut.trans (kb0_) hk (.inl rfl)); replace HB := a0_ (hb); replace HI0 := a0_ (hi); (try clear hb); (try clear hk); (try clear hi)) | ((with_reducible refine gate_dst (N := 23) rfl ?_); refine Kd.R_lit k56 _ 56 ?hg (N := 23) ?hd (xs := ([(⟨0, 1⟩ : S56), (⟨1, 1⟩ : S56), (⟨2, 1⟩ : S56), (⟨3, 1⟩ : S56), (⟨t530, 0⟩ : S56), (⟨t533, 2⟩ : S56)] : List (S56))) (inner := [.int .i64 0, .int .i64 1, .int .i64 1, .int .i64 1, .int .i64 2, .int .i64 1, .int .i64 3, .int .i64 1, .int .i64 t530, .int .i64 0, .int .i64 t533, .int .i64 2]) (ok := fun _ => True) (okp := fun _ => True) ?hr ?hp (fun _ hk => hk) trivial (Below.refl _ _) (Nat.le_refl _) (by simp) ?_; (case hd => rfl); (case hg => rfl); (case hr => first | (go_simp; done) | (go_simp; rfl)); (case hp => exact (Reps.c2 (show Kd.M k56 _ _ _ (⟨0, 1⟩ : S56) [.int .i64 0, .int .i64 1] from (k56_mkM _ _ _ (⟨0, 1⟩ : S56) )) (Reps.c2 (show Kd.M k56 _ _ _ (⟨1, 1⟩ : S56) [.int .i64 1, .int .i64 1] from (k56_mkM _ _ _ (⟨1, 1⟩ : S56) )) (Reps.c2 (show Kd.M k56 _ _ _ (⟨2, 1⟩ : S56) [.int .i64 2, .int .i64 1] from (k56_mkM _ _ _ (⟨2, 1⟩ : S56) )) (Reps.c2 (show Kd.M k56 _ _ _ (⟨3, 1⟩ : S56) [.int .i64 3, .int .i64 1] from (k56_mkM _ _ _ (⟨3, 1⟩ : S56) )) (Reps.c2 (show Kd.M k56 _ _ _ (⟨t530, 0⟩ : S56) [.int .i64 t530, .int .i64 0] from (k56_mkM _ _ _ (⟨t530, 0⟩ : S56) )) (Reps.c2 (show Kd.M k56 _ _ _ (⟨t533, 2⟩ : S56) [.int .i64 t533, .int .i64 2] from (k56_mkM _ _ _ (⟨t533, 2⟩ : S56) )) (Reps.none _ _)))))))); intro v537 w18 ho19 hb hg_ hnew_; clear hg_ hnew_; (first | rw [← Ny536.out] at ho19 | (simp only [Int.reduceToNat] at ho19; rw [← Ny536.out] at ho19)); have HO538 := a0_ (Kd.R_lower ho19 (keep_size (w := w) (g := g) (row := none) (kb0_))); replace HK := a0_ (KeepBut.trans (kb0_) (KeepBut.of_below hb g none) (.inl rfl)); replace HB := a0_ (below_step (bl1_ (IsS67.ge HI0.out)) hb); replace HI0 := a0_ (IsS67.below (is67_ HI0.out) hb); clear hb ho19; obtain ⟨Ao20, co20, eo20⟩ := Kd.R_slice HO538.out; subst eo20) | ((with_reducible refine gate_callee (f := 48) rfl ?_); refine goesL_ (some 24) rfl rfl Tryz.func48 kr_ rfl #[.slice Ao20 y536.length co20] rfl ta_ ?_; (with_reducible refine (spec_l02Sort.calls k _ _ y536 t539 _ ?side1 ?side2 A11.out).mono ?_); (case side1 => exact ca_ (Kd.R_reads' HO538.out).2.2); (case side2 => exact (Kd.R_reads' HO538.out).2.1); rintro e w21 ⟨v540, rfl, ho0, hb⟩; refine ⟨_, rfl, ?_⟩; have HO541 := a0_ (Kd.R_lower (Kd.R_new' ho0 (Kd.R_lt (ra_ HO538.out))) (keep_size (w := w) (g := g) (row := none) (kb0_))); replace HO538 := a0_ (Kd.R_elder' (ra_ HO538.out) (Kd.R_base ho0) hb); replace HK := a0_ (KeepBut.trans (kb0_) (KeepBut.of_below hb g none) (.inl rfl)); replace HB := a0_ (below_step (bl1_ (IsS67.ge HI0.out)) hb); replace HI0 := a0_ (IsS67.below (is67_ HI0.out) hb); (try clear hb); (try clear ho0)) | ((with_reducible refine gate_callee (f := 46) rfl ?_); refine goesL_ (some 26) rfl rfl Tryz.func46 kr_ rfl #[.pointer (some ⟨g, 0, none⟩), .int .i64 8] rfl ta_ ?_; (with_reducible refine (spec_l01Next.calls g s0_0 t534 t535 8 t542 t543 t544 w0 _ ?side1 ?side2 A12.out).mono ?_); (case side1 => exact is67_ HI0.out); (case side2 => exact bl1_ (IsS67.ge HI0.out)); rintro e w22 ⟨rfl, hi, hb, hk⟩; refine ⟨_, rfl, ?_⟩; replace HO538 := a0_ (Kd.R_mono (Kd.R_keep (IsS67.apart (show IsS67 w0 _ g s0_0 t534 t535 from is67_ HI0.out) (ra_ HO538.out) (by decide)) hk (fun _ h => h.2)) (fun _ h => h.1)); replace HO541 := a0_ (Kd.R_mono (Kd.R_keep (IsS67.apart (show IsS67 w0 _ g s0_0 t534 t535 from is67_ HI0.out) (ra_ HO541.out) (by decide)) hk (fun _ h => h.2)) (fun _ h => h.1)); replace HK := a0_ (KeepBut.trans (kb0_) hk (.inl rfl)); replace HB := a0_ (hb); replace HI0 := a0_ (hi); (try clear hb); (try clear hk); (try clear hi); obtain ⟨Ao23, co23, eo23⟩ := Kd.R_slice HO541.out; subst eo23) | ((with_reducible refine gate_callee (f := 38) rfl ?_); refine goesL_ (some 27) rfl rfl Tryz.func38 kr_ rfl #[.slice Ao23 t539.length co23, .int .i64 t542] rfl ta_ ?_; (with_reducible refine (spec_l03Form.calls k _ _ t539 t542 t545 _ ?side1 ?side2 A13.out).mono ?_); (case side1 => exact ca_ (Kd.R_reads' HO541.out).2.2); (case side2 => exact (Kd.R_reads' HO541.out).2.1); rintro e w24 ⟨v546, rfl, ho0, hb⟩; refine ⟨_, rfl, ?_⟩; have HO547 := a0_ (Kd.R_lower (Kd.R_new' (Kd.R_new' ho0 (Kd.R_lt (ra_ HO538.out))) (Kd.R_lt (ra_ HO541.out))) (keep_size (w := w) (g := g) (row := none) (kb0_))); replace HO538 := a0_ (Kd.R_elder' (ra_ HO538.out) (Kd.R_base ho0) hb); replace HO541 := a0_ (Kd.R_elder' (ra_ HO541.out) (Kd.R_base ho0) hb); replace HK := a0_ (KeepBut.trans (kb0_) (KeepBut.of_below hb g none) (.inl rfl)); replace HB := a0_ (below_step (bl1_ (IsS67.ge HI0.out)) hb); replace HI0 := a0_ (IsS67.below (is67_ HI0.out) hb); (try clear hb); (try clear ho0)))
   go_ret
   exact ⟨_, er_, by (with_reducible repeat (first | apply Kd.R_alloc | apply Kd.R_drewN | apply Kd.R_drew)); exact Kd.R_mono HO547.out (fun _ hk => trivial), is67_ HI0.out, bl1_ (IsS67.ge HI0.out), kb0_⟩
  ·rw [if_neg c8] at H
   have c8b0 : (t527 == 0) = false := beq_eq_false_iff_ne.mpr c8
   have c8b1 : (t527 != 0) = true := bne_iff_ne.mpr c8
   obtain ⟨y548, hy548⟩ : ∃ y_ : List (S56), y_ = (([(⟨0, 0⟩ : S56)] : List (S56))) := ⟨_, rfl⟩
   replace H : (spec_l32Draw.l0 k y548 s0_0 t528 t529) = some (r1, r2, r3) := hh_ hy548 H
   have Ny548 := Aside0.mk hy548
   clear hy548
   have H' := Aside0.mk H
   clear H
   go_enter Tryz.func27, Tryz.ntmps27
   go_wp2_with (first | ((with_reducible refine gate_callee (f := 46) rfl ?_); refine goesL_ (some 6) rfl rfl Tryz.func46 kr_ rfl #[.pointer (some ⟨g, 0, none⟩), .int .i64 3] rfl ta_ ?_; (with_reducible refine (spec_l01Next.calls g s0_0 s0_1 s0_2 3 t519 t520 t521 w0 _ ?side1 ?side2 A2.out).mono ?_); (case side1 => exact is67_ HI0.out); (case side2 => exact bl1_ (IsS67.ge HI0.out)); rintro e w25 ⟨rfl, hi, hb, hk⟩; refine ⟨_, rfl, ?_⟩; replace HK := a0_ (KeepBut.trans (kb0_) hk (.inl rfl)); replace HB := a0_ (hb); replace HI0 := a0_ (hi); (try clear hb); (try clear hk); (try clear hi)) | ((with_reducible refine gate_callee (f := 46) rfl ?_); refine goesL_ (some 11) rfl rfl Tryz.func46 kr_ rfl #[.pointer (some ⟨g, 0, none⟩), .int .i64 2] rfl ta_ ?_; (with_reducible refine (spec_l01Next.calls g s0_0 t520 t521 2 t527 t528 t529 w0 _ ?side1 ?side2 A7.out).mono ?_); (case side1 => exact is67_ HI0.out); (case side2 => exact bl1_ (IsS67.ge HI0.out)); rintro e w26 ⟨rfl, hi, hb, hk⟩; refine ⟨_, rfl, ?_⟩; replace HK := a0_ (KeepBut.trans (kb0_) hk (.inl rfl)); replace HB := a0_ (hb); replace HI0 := a0_ (hi); (try clear hb); (try clear hk); (try clear hi)) | ((with_reducible refine gate_dst (N := 29) rfl ?_); refine Kd.R_lit k56 _ 56 ?hg (N := 29) ?hd (xs := ([(⟨0, 0⟩ : S56)] : List (S56))) (inner := [.int .i64 0, .int .i64 0]) (ok := fun _ => True) (okp := fun _ => True) ?hr ?hp (fun _ hk => hk) trivial (Below.refl _ _) (Nat.le_refl _) (by simp) ?_; (case hd => rfl); (case hg => rfl); (case hr => first | (go_simp; done) | (go_simp; rfl)); (case hp => exact (Reps.c2 (show Kd.M k56 _ _ _ (⟨0, 0⟩ : S56) [.int .i64 0, .int .i64 0] from (k56_mkM _ _ _ (⟨0, 0⟩ : S56) )) (Reps.none _ _))); intro v549 w27 ho28 hb hg_ hnew_; clear hg_ hnew_; (first | rw [← Ny548.out] at ho28 | (simp only [Int.reduceToNat] at ho28; rw [← Ny548.out] at ho28)); have HO550 := a0_ (Kd.R_lower ho28 (keep_size (w := w) (g := g) (row := none) (kb0_))); replace HK := a0_ (KeepBut.trans (kb0_) (KeepBut.of_below hb g none) (.inl rfl)); replace HB := a0_ (below_step (bl1_ (IsS67.ge HI0.out)) hb); replace HI0 := a0_ (IsS67.below (is67_ HI0.out) hb); clear hb ho28))
   go_loopg [3] k (fun kq v3 w' => ∃ (x3_1 : List (S56)) (x1001_1 : Int) (x1002_1 : Int), Aside0 (spec_l32Draw.l0 kq x3_1 s0_0 x1001_1 x1002_1 = some (r1, r2, r3)) ∧ Aside0 (kq ≤ k) ∧ Aside0 (Kd.R k56 56 w' w.heap.size (fun _ => True) v3 x3_1) ∧ Aside0 (IsS67 w0 w' g s0_0 x1001_1 x1002_1) ∧ Aside0 (KeepBut w w' g none) ∧ Aside0 (Below w0.heap.size w0 w'))
   case atStart => exact ⟨(y548), (t528), (t529), H', ⟨Nat.le_refl _⟩, ⟨ra_ HO550.out⟩, ⟨is67_ HI0.out⟩, ⟨kb0_⟩, ⟨bl1_ (IsS67.ge HI0.out)⟩⟩
   case round =>
    clear H'
    try clear c3
    try clear c3b0
    try clear c3b1
    try clear c8
    try clear c8b0
    try clear c8b1
    obtain ⟨x3_1, x1001_1, x1002_1, HA, HK1, HO_3, HI0, HK, HB⟩ := hrel
    cases gk with
    | zero => exact absurd HA.out (by simp [spec_l32Draw.l0])
    | succ k1 =>
     have H := HA.out
     clear HA
     simp only [spec_l32Draw.l0] at H
     by_cases c29 : (x3_1.length : Int) < 6
     ·rw [if_pos c29] at H
      have c29b0 : decide ((x3_1.length : Int) < 6) = true := decide_eq_true c29
      have c29b1 : decide (x3_1.length < 6) = true := decide_eq_true (by omega)
      clear c29
      obtain ⟨t551, A30, H⟩ := bs_ H
      obtain ⟨⟨t554, t555, t556⟩, A31, H⟩ := bs_ H
      dsimp only at H
      by_cases c32 : 0 ≤ t554
      ·rw [if_pos c32] at H
       have c32b0 : decide (0 ≤ t554) = true := decide_eq_true c32
       clear c32
       by_cases c33 : t554 < (t551.length : Int)
       ·rw [if_pos c33] at H
        have c33b0 : decide (t554 < (t551.length : Int)) = true := decide_eq_true c33
        clear c33
        obtain ⟨t558, A34, H⟩ := bs_ H
        have H' := Aside0.mk H
        clear H
        obtain ⟨Ao35, co35, eo35⟩ := Kd.R_slice HO_3.out
        subst eo35
        go_wp2_with (first | ((with_reducible refine gate_callee (f := 49) rfl ?_); refine goesL_ (some 34) rfl rfl Tryz.func49 kr_ rfl #[.slice Ao35 x3_1.length co35] rfl ta_ ?_; (with_reducible refine (spec_l02Neighbours.calls k1 _ _ x3_1 t551 _ ?side1 ?side2 A30.out).mono ?_); (case side1 => exact ca_ (Kd.R_reads' HO_3.out).2.2); (case side2 => exact (Kd.R_reads' HO_3.out).2.1); rintro e w36 ⟨v552, rfl, ho0, hb⟩; refine ⟨_, rfl, ?_⟩; have HO553 := a0_ (Kd.R_lower (Kd.R_new' ho0 (Kd.R_lt (ra_ HO_3.out))) (keep_size (w := w) (g := g) (row := none) (kb0_))); replace HO_3 := a0_ (Kd.R_elder' (ra_ HO_3.out) (Kd.R_base ho0) hb); replace HK := a0_ (KeepBut.trans (kb0_) (KeepBut.of_below hb g none) (.inl rfl)); replace HB := a0_ (below_step (bl1_ (IsS67.ge HI0.out)) hb); replace HI0 := a0_ (IsS67.below (is67_ HI0.out) hb); (try clear hb); (try clear ho0); obtain ⟨Ao37, co37, eo37⟩ := Kd.R_slice HO553.out; subst eo37) | ((with_reducible refine gate_callee (f := 46) rfl ?_); refine goesL_ (some 40) rfl rfl Tryz.func46 kr_ rfl #[.pointer (some ⟨g, 0, none⟩), .int .i64 (t551.length : Int)] rfl ta_ ?_; (with_reducible refine (spec_l01Next.calls g s0_0 x1001_1 x1002_1 (t551.length : Int) t554 t555 t556 w0 _ ?side1 ?side2 A31.out).mono ?_); (case side1 => exact is67_ HI0.out); (case side2 => exact bl1_ (IsS67.ge HI0.out)); rintro e w38 ⟨rfl, hi, hb, hk⟩; refine ⟨_, rfl, ?_⟩; replace HO_3 := a0_ (Kd.R_mono (Kd.R_keep (IsS67.apart (show IsS67 w0 _ g s0_0 x1001_1 x1002_1 from is67_ HI0.out) (ra_ HO_3.out) (by decide)) hk (fun _ h => h.2)) (fun _ h => h.1)); replace HO553 := a0_ (Kd.R_mono (Kd.R_keep (IsS67.apart (show IsS67 w0 _ g s0_0 x1001_1 x1002_1 from is67_ HI0.out) (ra_ HO553.out) (by decide)) hk (fun _ h => h.2)) (fun _ h => h.1)); replace HK := a0_ (KeepBut.trans (kb0_) hk (.inl rfl)); replace HB := a0_ (hb); replace HI0 := a0_ (hi); (try clear hb); (try clear hk); (try clear hi); have p557 : 0 ≤ (t554 : Int) := od_; have q557 : t554 < (t551.length : Int) := od_; obtain ⟨ad557, e557, hx557_0, hx557_1⟩ := at_T56 (Kd.R_reads' HO553.out).2.2 t554 p557 q557; cases e557; replace p557 := eq_true p557; replace q557 := eq_true q557) | ((with_reducible refine gate_callee (f := 50) rfl ?_); refine goesL_ (some 43) rfl rfl Tryz.func50 kr_ rfl #[.slice Ao35 x3_1.length co35, .agg #[.int .i64 ((rd_T56 t551 t554).f0), .int .i64 ((rd_T56 t551 t554).f1)]] rfl ta_ ?_; (with_reducible refine (spec_l02Insert.calls k1 _ _ x3_1 ((rd_T56 t551 t554).f0) ((rd_T56 t551 t554).f1) t558 _ ?side1 ?side2 A34.out).mono ?_); (case side1 => exact ca_ (Kd.R_reads' HO_3.out).2.2); (case side2 => exact (Kd.R_reads' HO_3.out).2.1); rintro e w39 ⟨v559, rfl, ho0, hb⟩; refine ⟨_, rfl, ?_⟩; have HO560 := a0_ (Kd.R_lower (Kd.R_new' (Kd.R_new' ho0 (Kd.R_lt (ra_ HO_3.out))) (Kd.R_lt (ra_ HO553.out))) (keep_size (w := w) (g := g) (row := none) (kb0_))); replace HO_3 := a0_ (Kd.R_elder' (ra_ HO_3.out) (Kd.R_base ho0) hb); replace HO553 := a0_ (Kd.R_elder' (ra_ HO553.out) (Kd.R_base ho0) hb); replace HK := a0_ (KeepBut.trans (kb0_) (KeepBut.of_below hb g none) (.inl rfl)); replace HB := a0_ (below_step (bl1_ (IsS67.ge HI0.out)) hb); replace HI0 := a0_ (IsS67.below (is67_ HI0.out) hb); (try clear hb); (try clear ho0)))
        go_roundg k1
        case measure => have := HK1.out; omega
        case rel => exact ⟨(t558), (t555), (t556), H', ⟨by have := HK1.out; omega⟩, ⟨by (with_reducible repeat (first | apply Kd.R_alloc | apply Kd.R_drewN | apply Kd.R_drew)); exact Kd.R_mono HO560.out (fun _ hk => trivial)⟩, ⟨is67_ HI0.out⟩, ⟨kb0_⟩, ⟨bl1_ (IsS67.ge HI0.out)⟩⟩
       ·rw [if_neg c33] at H
        exact absurd H (by simp)
      ·rw [if_neg c32] at H
       exact absurd H (by simp)
     ·rw [if_neg c29] at H
      have c29b0 : decide ((x3_1.length : Int) < 6) = false := decide_eq_false c29
      have c29b1 : decide (x3_1.length < 6) = false := decide_eq_false (by omega)
      clear c29
      simp only [Option.some.injEq, Prod.mk.injEq] at H
      obtain ⟨rfl, rfl, rfl⟩ := H
      obtain ⟨Ao40, co40, eo40⟩ := Kd.R_slice HO_3.out
      subst eo40
      go_wp2
      go_ret
      exact ⟨_, er_, ra_ HO_3.out, is67_ HI0.out, bl1_ (IsS67.ge HI0.out), kb0_⟩
def spec_l01From.l0 : Nat → List Int → Int → List Int → Int → Int → Option (List Int × Int × Int)
 | 0, _, _, _, _, _ => none
 | k + 1, x0, x4, x562000, x562001, x562002 => if x4 < (x0.length : Int) then (if x4 < 64 then (if 0 ≤ x4 then (spec_l01From.l0 k x0 (wrap64 (x4 + 1)) x562000 x562001 (Int.tmod (wrap64 ((wrap64 (x562002 * 47)) + (wrap64 (rd x0 x4)))) 2147483647)) else (none)) else (some (x562000, x562001, x562002))) else (some (x562000, x562001, x562002))
def spec_l01From.f (k : Nat) (l0 : List Int) : Option (List Int × Int × Int) := spec_l01From.l0 k l0 0 l0 0 61003
def spec_l01From.T5 : Bool × List (List Nat × List Nat) := (true, [([], []), ([], []), ([1], [1]), ([2], [2]), ([3], [3]), ([4], [4]), ([], []), ([], []), ([6, 7], [6, 7]), ([8], [8]), ([9], [9]), ([5, 10], [5, 10]), ([11], [11]), ([0, 0, 1, 2, 3, 4, 5, 6, 7, 8, 9, 10, 11, 12], [0]), ([13, 0, 1, 2, 3, 4, 5, 6, 7, 8, 9, 10, 11, 12], [13]), ([14, 12, 0, 1, 2, 3, 4, 5, 6, 7, 8, 9, 10, 11, 12], [12, 14])])
def spec_l01From.B5 : List Nat := [0, 0, 2, 6, 14, 30, 0, 0, 192, 448, 960, 2046, 4094, 8191, 16383, 32767]
theorem spec_l01From.tab5 : rtab .any (opsOf Tryz.f28 5) = spec_l01From.T5 := by kernel_rfl
theorem spec_l01From.bits5 : waitsOk spec_l01From.T5.2 spec_l01From.B5 = true := by kernel_rfl
set_option maxHeartbeats 8000000 in
set_option maxRecDepth 100000 in
theorem spec_l01From.calls (k : Nat) (A0 : Option Addr) (c0 : Nat) (l0 : List Int) (r1 : List Int) (r2 : Int) (r3 : Int) (w0 w : World) (hB : Below w0.heap.size w0 w) (hr0 : Kd.C (Kd.int .u8) w0 A0 l0.length l0) (hc0 : l0.length ≤ c0) (h : spec_l01From.f k l0 = some (r1, r2, r3)) :
  Calls Tryz.prog 28 #[.slice A0 l0.length c0] w fun e w' => ∃ g_ : Nat, e = .returned (.pointer (some ⟨g_, 0, none⟩)) ∧ IsS67 w0 w' g_ r1 r2 r3 ∧ Below w0.heap.size w0 w' ∧ Below w.heap.size w w' := by
 have hu67 := Tryz.underlying67
 have HR0 := Aside0.mk hr0
 have HC0 := Aside0.mk hc0
 clear hr0 hc0
 have HBW := a0_ (Below.refl w.heap.size w)
 have HW0 := Aside0.mk hB.size
 have HB := Aside0.mk hB
 clear hB
 have H : (spec_l01From.l0 k l0 0 l0 0 61003) = some (r1, r2, r3) := h
 clear h
 have H' := Aside0.mk H
 clear H
 go_enter Tryz.func28, Tryz.ntmps28
 go_wp2_with (first | ((with_reducible refine gate_dst (N := 7) rfl ?_); refine bx_ (N := 7) (cs := #[.slice A0 l0.length c0, .int .i64 0, .int .i64 61003]) (t := 67) ?_; intro gb561 hg w2 hbox hb; replace HB := a0_ (below_step (bl0_) hb); have BK561 := a0_ (hbox); have GW561 := a0_ ((by rw [hg]; exact (below_size (by repeat (first | (with_reducible first | exact HBW.out | apply below_alloc | apply pw_below_drewN | apply below_drew1) | exact HBW.out))) : w.heap.size ≤ gb561)); have GE561 := a0_ ((Nat.le_trans HW0.out (by rw [hg]; exact (below_size (by repeat (first | (with_reducible first | exact HBW.out | apply below_alloc | apply pw_below_drewN | apply below_drew1) | exact HBW.out))) : w.heap.size ≤ gb561) : w0.heap.size ≤ gb561)); replace HBW := a0_ (below_step HBW.out hb); clear hb hbox hg))
 go_loopg [4] k (fun kq v4 w' => ∃ (x4_1 : Int) (x562002_1 : Int), v4 = .int .i64 x4_1 ∧ Aside0 (spec_l01From.l0 kq l0 x4_1 l0 0 x562002_1 = some (r1, r2, r3)) ∧ Aside0 (kq ≤ k) ∧ Aside0 (w'.heap[gb561]? = some (.cells #[(.slice A0 l0.length c0), .int .i64 0, .int .i64 x562002_1] 67 (0, 0))) ∧ Aside0 (Below w0.heap.size w0 w') ∧ Aside0 (Below w.heap.size w w'))
 case atStart => exact ⟨(0), (61003), rs_, H', ⟨Nat.le_refl _⟩, ⟨bk_ BK561.out⟩, ⟨bl1_ GE561.out⟩, ⟨by repeat (first | (with_reducible first | exact HBW.out | apply below_alloc | apply pw_below_drewN | apply below_drew1 | refine below_set ?_ GW561.out) | exact HBW.out)⟩⟩
 case round =>
  clear H'
  obtain ⟨x4_1, x562002_1, rfl, HA, HK1, BK561, HB, HBW⟩ := hrel
  cases gk with
  | zero => exact absurd HA.out (by simp [spec_l01From.l0])
  | succ k1 =>
   have H := HA.out
   clear HA
   simp only [spec_l01From.l0] at H
   by_cases c3 : x4_1 < (l0.length : Int)
   ·rw [if_pos c3] at H
    have c3b0 : decide (x4_1 < (l0.length : Int)) = true := decide_eq_true c3
    clear c3
    by_cases c4 : x4_1 < 64
    ·rw [if_pos c4] at H
     have c4b0 : decide (x4_1 < 64) = true := decide_eq_true c4
     clear c4
     by_cases c5 : 0 ≤ x4_1
     ·rw [if_pos c5] at H
      have c5b0 : decide (0 ≤ x4_1) = true := decide_eq_true c5
      clear c5
      have H' := Aside0.mk H
      clear H
      try go_wp2
      have n0_ := a0_ (blk_drew BK561.out)
      have n1_ := a0_ (below_drew1 HB.out)
      replace HBW := a0_ (below_drew1 HBW.out)
      clear BK561
      clear HB
      have BK561 := n0_
      have HB := n1_
      clear n0_ n1_
      have p562 : 0 ≤ (x4_1 : Int) := od_
      have q562 : x4_1 < (l0.length : Int) := od_
      obtain ⟨ad562, e562, hx562_0⟩ := Kd.at_int HR0.out x4_1 p562 q562
      have hw562_0 := hx562_0
      cases e562
      replace hx562_0 := pw_cell_below HB.out hx562_0
      replace p562 := eq_true p562
      replace q562 := eq_true q562
      refine start_ (n := 16) (S := fun w' => w'.cell? ⟨gb561, 0, none⟩ = some (.slice (some ad562) l0.length c0) ∧ w'.cell? ⟨gb561, 1, none⟩ = some (.int .i64 0) ∧ w'.cell? ⟨gb561, 2, none⟩ = some (.int .i64 x562002_1) ∧ w'.cell? (ad562.add (x4_1).toNat) = some (.int .u8 (rd l0 x4_1))) (ds := [15]) (mk_ 0 16) kr_ rfl rfl ⟨(blk_cell BK561.out 0).trans rfl, (blk_cell BK561.out 1).trans rfl, (blk_cell BK561.out 2).trans rfl, ((HB.out.cell (World.block_lt_of_cell? w0 _ hw562_0)).trans hw562_0)⟩ (fun hHeld => ?_); refine with_tabW spec_l01From.tab5 spec_l01From.bits5 (fun HT_ HW_ => ?_)
      generalize wr.drew = w6 at BK561 HB HBW hx562_0 hHeld ⊢
      refine pu_ 0 (some 18) (mk_ 1 15) HT_ ?_
      refine pu_ 1 (some 19) (mk_ 2 14) HT_ ?_
      refine pu_ 2 (some 20) (mk_ 3 13) HT_ ?_
      refine pu_ 3 (some 21) (mk_ 4 12) HT_ ?_
      refine pu_ 6 (some 24) #[true, true, true, true, false, false, true, false, false, false, false, false, false, false, false, false] HT_ ?_
      refine pu_ 7 (some 25) #[true, true, true, true, false, false, true, true, false, false, false, false, false, false, false, false] HT_ ?_
      refine pu_ 8 (some 26) #[true, true, true, true, false, false, true, true, true, false, false, false, false, false, false, false] HT_ ?_
      refine tk_ 4 (some 22) #[true, true, true, true, true, false, true, true, true, false, false, false, false, false, false, false] HT_ HW_ hHeld (hy := .inl ⟨by rfl, by rintro w' ⟨s0, s1, s2, s3⟩; go_simp; with_reducible rfl⟩) ?_
      refine pu_ 5 (some 23) (mk_ 9 7) HT_ ?_
      refine tk_ 9 (some 27) (mk_ 10 6) HT_ HW_ hHeld (hy := .inl ⟨by rfl, by rintro w' ⟨s0, s1, s2, s3⟩; go_simp; with_reducible rfl⟩) ?_
      refine pu_ 10 (some 28) (mk_ 11 5) HT_ ?_
      refine pu_ 11 (some 29) (mk_ 12 4) HT_ ?_
      refine pu_ 12 (some 30) (mk_ 13 3) HT_ ?_
      refine pu_ 13 (some 31) (mk_ 14 2) HT_ ?_
      refine pu_ 14 (some 32) (mk_ 15 1) HT_ ?_
      refine last_ (i := 15) (N := none) (mk_ 16 0) rfl rfl (one_of HT_.out kr_) (by decide) (fun K hK => ?_)
      have hs7 : w6.cell? ⟨gb561, 2, none⟩ = some (.int .i64 x562002_1) := (blk_cell BK561.out 2).trans rfl
      have hfs7 := blk_frozen BK561.out 2
      refine skip_ (w1 := ?_) (by rfl) rfl ?_ ?_
      rotate_left
      ·go_simp
       rfl
      refine hK.out _ _ ?_
      clear hK K
      refine done_ (done_of HT_.out kr_) ?_
      try go_wp2
      go_roundg k1
      case measure => have := HK1.out; omega
      case rel => exact ⟨(wrap64 (x4_1 + 1)), (Int.tmod (wrap64 ((wrap64 (x562002_1 * 47)) + (wrap64 (rd l0 x4_1)))) 2147483647), rs_, H', ⟨by have := HK1.out; omega⟩, ⟨by (with_reducible repeat (first | refine blk_drewN ?_ _ | refine blk_drew ?_ | refine blk_alloc ?_ _)); refine blk_put (cs := #[.slice (some ad562) l0.length c0, .int .i64 0, .int .i64 x562002_1]) ?_ 2 _ rfl; (with_reducible repeat (first | refine blk_drewN ?_ _ | refine blk_drew ?_ | refine blk_alloc ?_ _)); exact BK561.out⟩, ⟨bl1_ GE561.out⟩, ⟨by repeat (first | (with_reducible first | exact HBW.out | apply below_alloc | apply pw_below_drewN | apply below_drew1 | refine below_set ?_ GW561.out) | exact HBW.out)⟩⟩
     ·rw [if_neg c5] at H
      exact absurd H (by simp)
    ·rw [if_neg c4] at H
     have c4b0 : decide (x4_1 < 64) = false := decide_eq_false c4
     clear c4
     simp only [Option.some.injEq, Prod.mk.injEq] at H
     obtain ⟨rfl, rfl, rfl⟩ := H
     go_wp2
     go_ret
     exact ⟨_, rfl, (show IsS67 w0 _ gb561 l0 0 x562002_1 from ⟨_, _, bk_ BK561.out, GE561.out, HR0.out⟩), bl1_ GE561.out, by repeat (first | (with_reducible first | exact HBW.out | apply below_alloc | apply pw_below_drewN | apply below_drew1 | refine below_set ?_ GW561.out) | exact HBW.out)⟩
   ·rw [if_neg c3] at H
    have c3b0 : decide (x4_1 < (l0.length : Int)) = false := decide_eq_false c3
    clear c3
    simp only [Option.some.injEq, Prod.mk.injEq] at H
    obtain ⟨rfl, rfl, rfl⟩ := H
    go_wp2
    go_ret
    exact ⟨_, rfl, (show IsS67 w0 _ gb561 l0 0 x562002_1 from ⟨_, _, bk_ BK561.out, GE561.out, HR0.out⟩), bl1_ GE561.out, by repeat (first | (with_reducible first | exact HBW.out | apply below_alloc | apply pw_below_drewN | apply below_drew1 | refine below_set ?_ GW561.out) | exact HBW.out)⟩
def spec_DrawIsNet.f (k : Nat) (l0 : List Int) : Option ((List (S56))) := (spec_l01From.f k l0).bind fun bt563 => ((spec_l32Draw.f k bt563.1 bt563.2.1 bt563.2.2).bind fun bt567 => (some bt567.1))
set_option maxHeartbeats 8000000 in
set_option maxRecDepth 100000 in
theorem spec_DrawIsNet.calls (k : Nat) (A0 : Option Addr) (c0 : Nat) (l0 : List Int) (r : List (S56)) (w : World) (hr0 : Kd.C (Kd.int .u8) w A0 l0.length l0) (hc0 : l0.length ≤ c0) (h : spec_DrawIsNet.f k l0 = some r) :
  Calls Tryz.prog 11 #[.slice A0 l0.length c0] w fun e w' => ∃ v0_ : Value, e = .returned (v0_) ∧ Kd.R k56 56 w' w.heap.size (fun _ => True) v0_ r ∧ Below w.heap.size w w' := by
 have HR0 := Aside0.mk hr0
 have HC0 := Aside0.mk hc0
 clear hr0 hc0
 have HB := a0_ (Below.refl w.heap.size w)
 have H := h
 clear h
 unfold spec_DrawIsNet.f at H
 obtain ⟨⟨t563, t564, t565⟩, A2, H⟩ := bs_ H
 dsimp only at H
 obtain ⟨⟨t567, t570, t571⟩, A3, H⟩ := bs_ H
 dsimp only at H
 obtain rfl := Option.some.inj H
 go_enter Tryz.func11, Tryz.ntmps11
 go_wp2_with (first | ((with_reducible refine gate_callee (f := 28) rfl ?_); refine goesL_ (some 4) rfl rfl Tryz.func28 kr_ rfl #[.slice A0 l0.length c0] rfl ta_ ?_; (with_reducible refine (spec_l01From.calls k _ _ l0 t563 t564 t565 w _ ?side1 ?side2 ?side3 A2.out).mono ?_); (case side1 => repeat (first | (with_reducible first | exact HB.out | apply below_alloc | apply pw_below_drewN | apply below_drew1) | exact HB.out)); (case side2 => exact HR0.out); (case side3 => exact HC0.out); rintro e w4 ⟨g566, rfl, hi, hb, hb2⟩; refine ⟨_, rfl, ?_⟩; replace HB := a0_ (hb); have HI566 := a0_ (hi); (try clear hb); (try clear hb2); (try clear hi)) | ((with_reducible refine gate_callee (f := 27) rfl ?_); refine goesL_ (some 5) rfl rfl Tryz.func27 kr_ rfl #[.pointer (some ⟨g566, 0, none⟩)] rfl ta_ ?_; (with_reducible refine (spec_l32Draw.calls k g566 t563 t564 t565 t567 t570 t571 w _ ?side1 ?side2 A3.out).mono ?_); (case side1 => exact is67_ HI566.out); (case side2 => exact bl1_ (IsS67.ge HI566.out)); rintro e w5 ⟨v568, rfl, ho0, hi, hb, hk⟩; refine ⟨_, rfl, ?_⟩; have HO569 := a0_ (Kd.R_lower ho0 (below_size (bl1_ (IsS67.ge HI566.out)))); replace HB := a0_ (hb); replace HI566 := a0_ (hi); (try clear hb); (try clear hk); (try clear hi); (try clear ho0)))
 go_ret
 exact ⟨_, er_, ra_ HO569.out, bl1_ (IsS67.ge HI566.out)⟩
def IsS51 (w0 W : World) (g : Nat) (f0 : List Int) (f1 : Int) (f2 : Int) : Prop := ∃ A0 c0, W.heap[g]? = some (.cells #[.slice A0 f0.length c0, .int .i64 f1, .int .u64 f2] 51 (0, 0)) ∧ w0.heap.size ≤ g ∧ Kd.C (Kd.int .u8) w0 A0 f0.length f0
theorem IsS51.grown {w0 W : World} {g : Nat} {f0 : List Int} {f1 : Int} {f2 : Int} {W1 : World} {row : Option Nat} (h : IsS51 w0 W g f0 f1 f2) (hw : W.grownBy W1 row) (hne : some g ≠ row) : IsS51 w0 W1 g f0 f1 f2 := by
 obtain ⟨A0, c0, hb, hg, hr0⟩ := h
 exact ⟨A0, c0, blk_grown hb hw hne, hg, hr0⟩
theorem IsS51.fresh {w0 W : World} {g : Nat} {f0 : List Int} {f1 : Int} {f2 : Int} (h : IsS51 w0 W g f0 f1 f2) : ∀ k, W.heap.size ≤ k → k ≠ g := by
 obtain ⟨A0, c0, hb, hg, hr0⟩ := h
 exact Kd.freshB hb
theorem IsS51.below {w0 W : World} {g : Nat} {f0 : List Int} {f1 : Int} {f2 : Int} {W1 : World} (h : IsS51 w0 W g f0 f1 f2) (hw : Below W.heap.size W W1) : IsS51 w0 W1 g f0 f1 f2 := h.grown (grown_of_below hw none) (by simp)
theorem IsS51.drewN {w0 W : World} {g : Nat} {f0 : List Int} {f1 : Int} {f2 : Int} (h : IsS51 w0 W g f0 f1 f2) (m : Nat) : IsS51 w0 (W.drewN m) g f0 f1 f2 := h
theorem IsS51.apart {w0 W : World} {g : Nat} {f0 : List Int} {f1 : Int} {f2 : Int} {α : Type} {d : Kd α} {e : Nat} {base : Nat} {ok : Nat → Prop} {v : Value} {xs : List α} (h : IsS51 w0 W g f0 f1 f2) (ho : d.R e W base ok v xs) (ht : ∀ q, q ∈ e :: d.E → q ≠ 51) : d.R e W base (fun k => ok k ∧ k ≠ g) v xs := by
 obtain ⟨A0, c0, hb, hg, hr0⟩ := h
 exact Kd.R_types ho hb ht
theorem IsS51.lt {w0 W : World} {g : Nat} {f0 : List Int} {f1 : Int} {f2 : Int} (h : IsS51 w0 W g f0 f1 f2) : g < W.heap.size := by
 obtain ⟨A0, c0, hb, hg, hr0⟩ := h
 exact blk_lt hb
theorem IsS51.ge {w0 W : World} {g : Nat} {f0 : List Int} {f1 : Int} {f2 : Int} (h : IsS51 w0 W g f0 f1 f2) : w0.heap.size ≤ g := by
 obtain ⟨A0, c0, hb, hg, hr0⟩ := h
 exact hg
theorem IsS51.far {w0 W : World} {g : Nat} {f0 : List Int} {f1 : Int} {f2 : Int} {p : Addr} (h : IsS51 w0 W g f0 f1 f2) (hne : g ≠ p.block) (u : Value) : IsS51 w0 (W.setCell p u) g f0 f1 f2 := by
 obtain ⟨A0, c0, hb, hg, hr0⟩ := h
 exact ⟨A0, c0, blk_far hb hne u, hg, hr0⟩
theorem cellS51_0 {W : World} {g : Nat} {A0 : Option Addr} {c0 : Nat} {f0 : List Int} {f1 : Int} {f2 : Int} (h : W.heap[g]? = some (.cells #[.slice A0 f0.length c0, .int .i64 f1, .int .u64 f2] 51 (0, 0))) : W.cell? ⟨g, 0, none⟩ = some (.slice A0 f0.length c0) := (blk_cell h 0).trans rfl
theorem cellS51_1 {W : World} {g : Nat} {A0 : Option Addr} {c0 : Nat} {f0 : List Int} {f1 : Int} {f2 : Int} (h : W.heap[g]? = some (.cells #[.slice A0 f0.length c0, .int .i64 f1, .int .u64 f2] 51 (0, 0))) : W.cell? ⟨g, 1, none⟩ = some (.int .i64 f1) := (blk_cell h 1).trans rfl
theorem IsS51.set_1 {w0 W : World} {g : Nat} {f0 : List Int} {f1 : Int} {f2 : Int} (h : IsS51 w0 W g f0 f1 f2) (x : Int) : IsS51 w0 (W.setCell ⟨g, 1, none⟩ (.int .i64 x)) g f0 x f2 := by
 obtain ⟨A0, c0, hb, hg, hr0⟩ := h
 exact ⟨A0, c0, by simpa using blk_set hb 1 (.int .i64 x), hg, hr0⟩
theorem cellS51_2 {W : World} {g : Nat} {A0 : Option Addr} {c0 : Nat} {f0 : List Int} {f1 : Int} {f2 : Int} (h : W.heap[g]? = some (.cells #[.slice A0 f0.length c0, .int .i64 f1, .int .u64 f2] 51 (0, 0))) : W.cell? ⟨g, 2, none⟩ = some (.int .u64 f2) := (blk_cell h 2).trans rfl
theorem IsS51.set_2 {w0 W : World} {g : Nat} {f0 : List Int} {f1 : Int} {f2 : Int} (h : IsS51 w0 W g f0 f1 f2) (x : Int) : IsS51 w0 (W.setCell ⟨g, 2, none⟩ (.int .u64 x)) g f0 f1 x := by
 obtain ⟨A0, c0, hb, hg, hr0⟩ := h
 exact ⟨A0, c0, by simpa using blk_set hb 2 (.int .u64 x), hg, hr0⟩
theorem is51_ {p q : Prop} (g : q) (h : q → p := by intro G_; repeat (first | (with_reducible first | exact G_ | apply IsS51.alloc | apply IsS51.drewN | apply IsS51.drew | apply IsS51.set_1 | apply IsS51.set_2) | exact G_)) : p := h g
def laws_roll.l0 : Nat → List Int → Int → List Int → Int → Int → Option (List Int × Int × Int)
 | 0, _, _, _, _, _ => none
 | k + 1, x0, x6, x573000, x573001, x573002 => if x6 < (x0.length : Int) then (if 0 ≤ x6 then (laws_roll.l0 k x0 (wrap64 (x6 + 1)) x573000 x573001 (IntKind.u64.wrap ((IntKind.u64.wrap ((IntKind.u64.wrap (x573002 * 1099511628211)) + (IntKind.u64.wrap (rd x0 x6)))) + 3))) else (none)) else (some (x573000, x573001, x573002))
def laws_roll.f (k : Nat) (l0 : List Int) (a1 : Int) : Option (List Int × Int × Int) := laws_roll.l0 k l0 0 l0 0 (IntKind.u64.wrap ((IntKind.u64.wrap (a1 * 7919)) + (IntKind.u64.wrap ((l0.length : Int)))))
def laws_roll.T5 : Bool × List (List Nat × List Nat) := (true, [([], []), ([], []), ([1], [1]), ([2], [2]), ([3], [3]), ([4], [4]), ([], []), ([], []), ([6, 7], [6, 7]), ([8], [8]), ([9], [9]), ([5, 10], [5, 10]), ([11], [11]), ([0, 0, 1, 2, 3, 4, 5, 6, 7, 8, 9, 10, 11, 12], [0]), ([13, 0, 1, 2, 3, 4, 5, 6, 7, 8, 9, 10, 11, 12], [13]), ([14, 12, 0, 1, 2, 3, 4, 5, 6, 7, 8, 9, 10, 11, 12], [12, 14])])
def laws_roll.B5 : List Nat := [0, 0, 2, 6, 14, 30, 0, 0, 192, 448, 960, 2046, 4094, 8191, 16383, 32767]
theorem laws_roll.tab5 : rtab .any (opsOf Tryz.f14 5) = laws_roll.T5 := by kernel_rfl
theorem laws_roll.bits5 : waitsOk laws_roll.T5.2 laws_roll.B5 = true := by kernel_rfl
set_option maxHeartbeats 8000000 in
set_option maxRecDepth 100000 in
theorem laws_roll.calls (k : Nat) (A0 : Option Addr) (c0 : Nat) (l0 : List Int) (a1 : Int) (r1 : List Int) (r2 : Int) (r3 : Int) (w0 w : World) (hB : Below w0.heap.size w0 w) (hr0 : Kd.C (Kd.int .u8) w0 A0 l0.length l0) (hc0 : l0.length ≤ c0) (h : laws_roll.f k l0 a1 = some (r1, r2, r3)) :
  Calls Tryz.prog 14 #[.slice A0 l0.length c0, .int .u64 a1] w fun e w' => ∃ g_ : Nat, e = .returned (.pointer (some ⟨g_, 0, none⟩)) ∧ IsS51 w0 w' g_ r1 r2 r3 ∧ Below w0.heap.size w0 w' ∧ Below w.heap.size w w' := by
 have hu51 := Tryz.underlying51
 have HR0 := Aside0.mk hr0
 have HC0 := Aside0.mk hc0
 clear hr0 hc0
 have HBW := a0_ (Below.refl w.heap.size w)
 have HW0 := Aside0.mk hB.size
 have HB := Aside0.mk hB
 clear hB
 have H := h
 clear h
 unfold laws_roll.f at H
 have H' := Aside0.mk H
 clear H
 go_enter Tryz.func14, Tryz.ntmps14
 go_wp2_with (first | ((with_reducible refine gate_dst (N := 15) rfl ?_); refine bx_ (N := 15) (cs := #[.slice A0 l0.length c0, .int .i64 0, .int .u64 (IntKind.u64.wrap ((IntKind.u64.wrap (a1 * 7919)) + (IntKind.u64.wrap ((l0.length : Int)))))]) (t := 51) ?_; intro gb572 hg w3 hbox hb; replace HB := a0_ (below_step (bl0_) hb); have BK572 := a0_ (hbox); have GW572 := a0_ ((by rw [hg]; exact (below_size (by repeat (first | (with_reducible first | exact HBW.out | apply below_alloc | apply pw_below_drewN | apply below_drew1) | exact HBW.out))) : w.heap.size ≤ gb572)); have GE572 := a0_ ((Nat.le_trans HW0.out (by rw [hg]; exact (below_size (by repeat (first | (with_reducible first | exact HBW.out | apply below_alloc | apply pw_below_drewN | apply below_drew1) | exact HBW.out))) : w.heap.size ≤ gb572) : w0.heap.size ≤ gb572)); replace HBW := a0_ (below_step HBW.out hb); clear hb hbox hg))
 go_loopg [6] k (fun kq v6 w' => ∃ (x6_1 : Int) (x573002_1 : Int), v6 = .int .i64 x6_1 ∧ Aside0 (laws_roll.l0 kq l0 x6_1 l0 0 x573002_1 = some (r1, r2, r3)) ∧ Aside0 (kq ≤ k) ∧ Aside0 (w'.heap[gb572]? = some (.cells #[(.slice A0 l0.length c0), .int .i64 0, .int .u64 x573002_1] 51 (0, 0))) ∧ Aside0 (Below w0.heap.size w0 w') ∧ Aside0 (Below w.heap.size w w'))
 case atStart => exact ⟨(0), (IntKind.u64.wrap ((IntKind.u64.wrap (a1 * 7919)) + (IntKind.u64.wrap ((l0.length : Int))))), rs_, H', ⟨Nat.le_refl _⟩, ⟨bk_ BK572.out⟩, ⟨bl1_ GE572.out⟩, ⟨by repeat (first | (with_reducible first | exact HBW.out | apply below_alloc | apply pw_below_drewN | apply below_drew1 | refine below_set ?_ GW572.out) | exact HBW.out)⟩⟩
 case round =>
  clear H'
  obtain ⟨x6_1, x573002_1, rfl, HA, HK1, BK572, HB, HBW⟩ := hrel
  cases gk with
  | zero => exact absurd HA.out (by simp [laws_roll.l0])
  | succ k1 =>
   have H := HA.out
   clear HA
   simp only [laws_roll.l0] at H
   by_cases c4 : x6_1 < (l0.length : Int)
   ·rw [if_pos c4] at H
    have c4b0 : decide (x6_1 < (l0.length : Int)) = true := decide_eq_true c4
    clear c4
    by_cases c5 : 0 ≤ x6_1
    ·rw [if_pos c5] at H
     have c5b0 : decide (0 ≤ x6_1) = true := decide_eq_true c5
     clear c5
     have H' := Aside0.mk H
     clear H
     try go_wp2
     have n0_ := a0_ (blk_drew BK572.out)
     have n1_ := a0_ (below_drew1 HB.out)
     replace HBW := a0_ (below_drew1 HBW.out)
     clear BK572
     clear HB
     have BK572 := n0_
     have HB := n1_
     clear n0_ n1_
     have p573 : 0 ≤ (x6_1 : Int) := od_
     have q573 : x6_1 < (l0.length : Int) := od_
     obtain ⟨ad573, e573, hx573_0⟩ := Kd.at_int HR0.out x6_1 p573 q573
     have hw573_0 := hx573_0
     cases e573
     replace hx573_0 := pw_cell_below HB.out hx573_0
     replace p573 := eq_true p573
     replace q573 := eq_true q573
     refine start_ (n := 16) (S := fun w' => w'.cell? ⟨gb572, 0, none⟩ = some (.slice (some ad573) l0.length c0) ∧ w'.cell? ⟨gb572, 1, none⟩ = some (.int .i64 0) ∧ w'.cell? ⟨gb572, 2, none⟩ = some (.int .u64 x573002_1) ∧ w'.cell? (ad573.add (x6_1).toNat) = some (.int .u8 (rd l0 x6_1))) (ds := [15]) (mk_ 0 16) kr_ rfl rfl ⟨(blk_cell BK572.out 0).trans rfl, (blk_cell BK572.out 1).trans rfl, (blk_cell BK572.out 2).trans rfl, ((HB.out.cell (World.block_lt_of_cell? w0 _ hw573_0)).trans hw573_0)⟩ (fun hHeld => ?_); refine with_tabW laws_roll.tab5 laws_roll.bits5 (fun HT_ HW_ => ?_)
     generalize wr.drew = w6 at BK572 HB HBW hx573_0 hHeld ⊢
     refine pu_ 0 (some 22) (mk_ 1 15) HT_ ?_
     refine pu_ 1 (some 23) (mk_ 2 14) HT_ ?_
     refine pu_ 2 (some 24) (mk_ 3 13) HT_ ?_
     refine pu_ 3 (some 25) (mk_ 4 12) HT_ ?_
     refine pu_ 6 (some 28) #[true, true, true, true, false, false, true, false, false, false, false, false, false, false, false, false] HT_ ?_
     refine pu_ 7 (some 29) #[true, true, true, true, false, false, true, true, false, false, false, false, false, false, false, false] HT_ ?_
     refine pu_ 8 (some 30) #[true, true, true, true, false, false, true, true, true, false, false, false, false, false, false, false] HT_ ?_
     refine tk_ 4 (some 26) #[true, true, true, true, true, false, true, true, true, false, false, false, false, false, false, false] HT_ HW_ hHeld (hy := .inl ⟨by rfl, by rintro w' ⟨s0, s1, s2, s3⟩; go_simp; with_reducible rfl⟩) ?_
     refine pu_ 5 (some 27) (mk_ 9 7) HT_ ?_
     refine tk_ 9 (some 31) (mk_ 10 6) HT_ HW_ hHeld (hy := .inl ⟨by rfl, by rintro w' ⟨s0, s1, s2, s3⟩; go_simp; with_reducible rfl⟩) ?_
     refine pu_ 10 (some 32) (mk_ 11 5) HT_ ?_
     refine pu_ 11 (some 33) (mk_ 12 4) HT_ ?_
     refine pu_ 12 (some 34) (mk_ 13 3) HT_ ?_
     refine pu_ 13 (some 35) (mk_ 14 2) HT_ ?_
     refine pu_ 14 (some 36) (mk_ 15 1) HT_ ?_
     refine last_ (i := 15) (N := none) (mk_ 16 0) rfl rfl (one_of HT_.out kr_) (by decide) (fun K hK => ?_)
     have hs7 : w6.cell? ⟨gb572, 2, none⟩ = some (.int .u64 x573002_1) := (blk_cell BK572.out 2).trans rfl
     have hfs7 := blk_frozen BK572.out 2
     refine skip_ (w1 := ?_) (by rfl) rfl ?_ ?_
     rotate_left
     ·go_simp
      rfl
     refine hK.out _ _ ?_
     clear hK K
     refine done_ (done_of HT_.out kr_) ?_
     try go_wp2
     go_roundg k1
     case measure => have := HK1.out; omega
     case rel => exact ⟨(wrap64 (x6_1 + 1)), (IntKind.u64.wrap ((IntKind.u64.wrap ((IntKind.u64.wrap (x573002_1 * 1099511628211)) + (IntKind.u64.wrap (rd l0 x6_1)))) + 3)), rs_, H', ⟨by have := HK1.out; omega⟩, ⟨by (with_reducible repeat (first | refine blk_drewN ?_ _ | refine blk_drew ?_ | refine blk_alloc ?_ _)); refine blk_put (cs := #[.slice (some ad573) l0.length c0, .int .i64 0, .int .u64 x573002_1]) ?_ 2 _ rfl; (with_reducible repeat (first | refine blk_drewN ?_ _ | refine blk_drew ?_ | refine blk_alloc ?_ _)); exact BK572.out⟩, ⟨bl1_ GE572.out⟩, ⟨by repeat (first | (with_reducible first | exact HBW.out | apply below_alloc | apply pw_below_drewN | apply below_drew1 | refine below_set ?_ GW572.out) | exact HBW.out)⟩⟩
    ·rw [if_neg c5] at H
     exact absurd H (by simp)
   ·rw [if_neg c4] at H
    have c4b0 : decide (x6_1 < (l0.length : Int)) = false := decide_eq_false c4
    clear c4
    simp only [Option.some.injEq, Prod.mk.injEq] at H
    obtain ⟨rfl, rfl, rfl⟩ := H
    go_wp2
    go_ret
    exact ⟨_, rfl, (show IsS51 w0 _ gb572 l0 0 x573002_1 from ⟨_, _, bk_ BK572.out, GE572.out, HR0.out⟩), bl1_ GE572.out, by repeat (first | (with_reducible first | exact HBW.out | apply below_alloc | apply pw_below_drewN | apply below_drew1 | refine below_set ?_ GW572.out) | exact HBW.out)⟩
end Go.Proofs.YtmdjkmfocgelnaaGreatDoor.PFnAllNets
