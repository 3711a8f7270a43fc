/- Over the kit's printer by a driver of mine (hprint.py), with parts by hand: functions of the program as Lean functions, and that each call comes to exactly these answers. -/
import Derived.Test.YtmdjkmfocgelnaaGreatPFnHexShapesx0
import Derived.Test.YtmdjkmfocgelnaaGreatPFnHexShapesx3
import Derived.Test.YtmdjkmfocgelnaaGreatPFnHexShapesx4
import Derived.Test.YtmdjkmfocgelnaaGreatPFnHexShapesx5
import Derived.Test.YtmdjkmfocgelnaaGreatPFnHexShapesx9
import Derived.Test.YtmdjkmfocgelnaaGreatPFnHexShapesx11
import Derived.Test.YtmdjkmfocgelnaaGreatPFnHexShapesx13
import Derived.Test.YtmdjkmfocgelnaaGreatPFnHexShapesx14
import Derived.Test.YtmdjkmfocgelnaaGreatPFnHexShapesx20
namespace Go.Proofs.YtmdjkmfocgelnaaGreat.PFnHexShapes
open Go.RowKit Go.Proofs.YtmdjkmfocgelnaaGreatW.PrintWords Go.Proofs.YtmdjkmfocgelnaaGreatW.PrintLast Go.Proofs.YtmdjkmfocgelnaaGreatW.PrintMore
attribute [local go_sem] max2_int min2_int max_two min_two max_three min_three max_four min_four   -- for this text's walks alone
set_option linter.unusedVariables false
set_option linter.unusedSimpArgs false

/-! ### spec_l07DrawTurn: function 74 -/
def spec_l07DrawTurn.f (s0_0 : List Int) (s0_1 : Int) (s0_2 : Int) : Option (Int × Int × Int) := (spec_l01Next.f s0_0 s0_1 s0_2 16).bind fun bt496 => (if bt496.1 = 0 then ((some (([(-1), 12] : List Int) : List Int)).bind fun y499 => ((spec_l01Next.f s0_0 bt496.2.1 bt496.2.2 2).bind fun bt502 => (if 0 ≤ bt502.1 then (if bt502.1 < (y499.length : Int) then (some (rd y499 bt502.1, bt502.2.1, bt502.2.2)) else (none)) else (none)))) else ((spec_l01Next.f s0_0 bt496.2.1 bt496.2.2 12).bind fun bt506 => (some (bt506.1, bt506.2.1, bt506.2.2))))
set_option maxHeartbeats 8000000 in
set_option maxRecDepth 100000 in
theorem spec_l07DrawTurn.calls (g : Nat) (s0_0 : List Int) (s0_1 : Int) (s0_2 : Int) (r1 : Int) (r2 : Int) (r3 : Int) (w0 w : World) (hI : IsS85 w0 w g s0_0 s0_1 s0_2) (hB : Below w0.heap.size w0 w) (h : spec_l07DrawTurn.f s0_0 s0_1 s0_2 = some (r1, r2, r3)) :
  Calls Tryz.prog 74 #[.pointer (some ⟨g, 0, none⟩)] w fun e w' => e = .returned (.int .i64 r1) ∧ IsS85 w0 w' g s0_0 r2 r3 ∧ Below w0.heap.size w0 w' ∧ KeepBut w w' g none := by
 have HI0 := Aside0.mk hI
 have HK := a0_ (KeepBut.refl w g none)
 have HL := Aside0.mk hB.size
 clear hI
 have HW0 := Aside0.mk hB.size
 have HB := Aside0.mk hB
 clear hB
 have H := h
 clear h
 unfold spec_l07DrawTurn.f at H
 obtain ⟨⟨t496, t497, t498⟩, A2, H⟩ := bs_ H
 dsimp only at H
 by_cases c3 : t496 = 0
 ·rw [if_pos c3] at H
  have c3b0 : (t496 == 0) = true := beq_iff_eq.mpr c3
  have c3b1 : (t496 != 0) = false := bne_eq_false_iff_eq.mpr c3
  clear c3
  obtain ⟨y499, hy499⟩ : ∃ y_ : List Int, y_ = (([(-1), 12] : List Int)) := ⟨_, rfl⟩
  replace H : ((spec_l01Next.f s0_0 t497 t498 2).bind fun bt502 => (if 0 ≤ bt502.1 then (if bt502.1 < (y499.length : Int) then (some (rd y499 bt502.1, bt502.2.1, bt502.2.2)) else (none)) else (none))) = some (r1, r2, r3) := hh_ hy499 H
  have Ny499 := Aside0.mk hy499
  clear hy499
  obtain ⟨⟨t502, t503, t504⟩, A4, H⟩ := bs_ H
  dsimp only at H
  by_cases c5 : 0 ≤ t502
  ·rw [if_pos c5] at H
   have c5b0 : decide (0 ≤ t502) = true := decide_eq_true c5
   clear c5
   by_cases c6 : t502 < (y499.length : Int)
   ·rw [if_pos c6] at H
    have c6b0 : decide (t502 < (y499.length : Int)) = true := decide_eq_true c6
    clear c6
    simp only [Option.some.injEq, Prod.mk.injEq] at H
    obtain ⟨rfl, rfl, rfl⟩ := H
    go_enter Tryz.func74, Tryz.ntmps74
    go_wp2_with (first | ((with_reducible refine gate_callee (f := 38) rfl ?_); refine goesL_ (some 4) rfl rfl Tryz.func38 kr_ rfl #[.pointer (some ⟨g, 0, none⟩), .int .i64 16] rfl ta_ ?_; (with_reducible refine (spec_l01Next.calls g s0_0 s0_1 s0_2 16 t496 t497 t498 w0 _ ?side1 ?side2 A2.out).mono ?_); (case side1 => exact is85_ HI0.out); (case side2 => exact bl1_ (IsS85.ge HI0.out)); rintro e w7 ⟨rfl, hi, hb, hk⟩; refine ⟨_, rfl, ?_⟩; replace HK := a0_ (KeepBut.trans (kb0_) hk (.inl rfl)); replace HB := a0_ (hb); replace HI0 := a0_ (hi); (try clear hb); (try clear hb2); (try clear hk); (try clear hi)) | ((with_reducible refine gate_dst (N := 6) rfl ?_); refine Kd.R_lit (Kd.int .i64) _ 2 ?hg (N := 6) ?hd (xs := ([(-1), 12] : List Int)) (inner := [.int .i64 (-1), .int .i64 12]) (ok := fun _ => True) (okp := fun _ => True) ?hr ?hp (fun _ hk => hk) trivial (Below.refl _ _) (Nat.le_refl _) (by simp) ?_; (case hd => rfl); (case hg => rfl); (case hr => first | (go_simp; done) | (go_simp; rfl)); (case hp => exact (Reps.one (show Kd.M (Kd.int .i64) _ _ _ (-1) [.int .i64 (-1)] from rfl) (Reps.one (show Kd.M (Kd.int .i64) _ _ _ 12 [.int .i64 12] from rfl) (Reps.none _ _)))); intro v500 w8 ho9 hb hg_ hnew_; clear hg_ hnew_; (first | rw [← Ny499.out] at ho9 | (simp only [Int.reduceToNat] at ho9; rw [← Ny499.out] at ho9)); have HO501 := a0_ (Kd.R_lower ho9 (keep_size (w := w) (g := g) (row := none) (kb0_))); replace HK := a0_ (KeepBut.trans (kb0_) (KeepBut.of_below hb g none) (.inl rfl)); replace HB := a0_ (below_step (bl1_ (IsS85.ge HI0.out)) hb); replace HI0 := a0_ (IsS85.below (is85_ HI0.out) hb); clear hb ho9) | ((with_reducible refine gate_callee (f := 38) rfl ?_); refine goesL_ (some 8) rfl rfl Tryz.func38 kr_ rfl #[.pointer (some ⟨g, 0, none⟩), .int .i64 2] rfl ta_ ?_; (with_reducible refine (spec_l01Next.calls g s0_0 t497 t498 2 t502 t503 t504 w0 _ ?side1 ?side2 A4.out).mono ?_); (case side1 => exact is85_ HI0.out); (case side2 => exact bl1_ (IsS85.ge HI0.out)); rintro e w10 ⟨rfl, hi, hb, hk⟩; refine ⟨_, rfl, ?_⟩; replace HO501 := a0_ (Kd.R_mono (Kd.R_keep (IsS85.apart (show IsS85 w0 _ g s0_0 t497 t498 from is85_ HI0.out) (ra_ HO501.out) (by decide)) hk (fun _ h => h.2)) (fun _ h => h.1)); replace HK := a0_ (KeepBut.trans (kb0_) hk (.inl rfl)); replace HB := a0_ (hb); replace HI0 := a0_ (hi); (try clear hb); (try clear hb2); (try clear hk); (try clear hi); obtain ⟨Ao11, co11, eo11⟩ := Kd.R_slice HO501.out; subst eo11; have p505 : 0 ≤ (t502 : Int) := od_; have q505 : t502 < (y499.length : Int) := od_; obtain ⟨ad505, e505, hx505_0⟩ := Kd.at_int (Kd.R_reads' HO501.out).2.2 t502 p505 q505; cases e505; replace p505 := eq_true p505; replace q505 := eq_true q505))
    go_ret
    exact ⟨er_, is85_ HI0.out, bl1_ (IsS85.ge HI0.out), kb0_⟩
   ·rw [if_neg c6] at H
    exact absurd H (by simp)
  ·rw [if_neg c5] at H
   exact absurd H (by simp)
 ·rw [if_neg c3] at H
  have c3b0 : (t496 == 0) = false := beq_eq_false_iff_ne.mpr c3
  have c3b1 : (t496 != 0) = true := bne_iff_ne.mpr c3
  obtain ⟨⟨t506, t507, t508⟩, A12, H⟩ := bs_ H
  dsimp only at H
  simp only [Option.some.injEq, Prod.mk.injEq] at H
  obtain ⟨rfl, rfl, rfl⟩ := H
  go_enter Tryz.func74, Tryz.ntmps74
  go_wp2_with (first | ((with_reducible refine gate_callee (f := 38) rfl ?_); refine goesL_ (some 4) rfl rfl Tryz.func38 kr_ rfl #[.pointer (some ⟨g, 0, none⟩), .int .i64 16] rfl ta_ ?_; (with_reducible refine (spec_l01Next.calls g s0_0 s0_1 s0_2 16 t496 t497 t498 w0 _ ?side1 ?side2 A2.out).mono ?_); (case side1 => exact is85_ HI0.out); (case side2 => exact bl1_ (IsS85.ge HI0.out)); rintro e w13 ⟨rfl, hi, hb, hk⟩; refine ⟨_, rfl, ?_⟩; replace HK := a0_ (KeepBut.trans (kb0_) hk (.inl rfl)); replace HB := a0_ (hb); replace HI0 := a0_ (hi); (try clear hb); (try clear hb2); (try clear hk); (try clear hi)) | ((with_reducible refine gate_callee (f := 38) rfl ?_); refine goesL_ (some 12) rfl rfl Tryz.func38 kr_ rfl #[.pointer (some ⟨g, 0, none⟩), .int .i64 12] rfl ta_ ?_; (with_reducible refine (spec_l01Next.calls g s0_0 t497 t498 12 t506 t507 t508 w0 _ ?side1 ?side2 A12.out).mono ?_); (case side1 => exact is85_ HI0.out); (case side2 => exact bl1_ (IsS85.ge HI0.out)); rintro e w14 ⟨rfl, hi, hb, hk⟩; refine ⟨_, rfl, ?_⟩; replace HK := a0_ (KeepBut.trans (kb0_) hk (.inl rfl)); replace HB := a0_ (hb); replace HI0 := a0_ (hi); (try clear hb); (try clear hb2); (try clear hk); (try clear hi)))
  go_ret
  exact ⟨er_, is85_ HI0.out, bl1_ (IsS85.ge HI0.out), kb0_⟩

/-! ### spec_DrawHexForm: function 32 -/
def spec_DrawHexForm.f (k : Nat) (l0 : List Int) : Option ((List (S46)) × Int) := (spec_l01From.f k l0).bind fun bt509 => ((spec_l07DrawFar.f k bt509.1 bt509.2.1 bt509.2.2 1).bind fun bt513 => ((spec_l07DrawTurn.f bt509.1 bt513.2.1 bt513.2.2).bind fun bt518 => (some (bt513.1, bt518.1))))
theorem spec_DrawHexForm.mono : ∀ a0 k, LeO (spec_DrawHexForm.f k a0) (spec_DrawHexForm.f (k + 1) a0) := by
 intro a0 k
 unfold spec_DrawHexForm.f
 with_reducible (repeat' first | exact spec_l01From.mono _ _ | exact spec_l07DrawFar.mono _ _ _ _ _ | exact LeO.refl _ | exact LeO.none _ | refine LeO.ite ?_ ?_ | refine LeO.bind ?_ (fun _ => ?_))
set_option maxHeartbeats 8000000 in
set_option maxRecDepth 100000 in
theorem spec_DrawHexForm.calls (k : Nat) (A0 : Option Addr) (c0 : Nat) (l0 : List Int) (r1 : List (S46)) (r2 : Int) (w : World) (hr0 : Kd.C (Kd.int .u8) w A0 l0.length l0) (hc0 : l0.length ≤ c0) (h : spec_DrawHexForm.f k l0 = some (r1, r2)) :
  Calls Tryz.prog 32 #[.slice A0 l0.length c0] w fun e w' => ∃ v0_ : Value, e = .returned (.tuple #[v0_, .int .i64 r2]) ∧ Kd.R k46 46 w' w.heap.size (fun _ => True) v0_ r1 ∧ Below w.heap.size w w' := by
 have HR0 := Aside0.mk hr0
 have HC0 := Aside0.mk hc0
 clear hr0 hc0
 have HB := a0_ (Below.refl w.heap.size w)
 have H := h
 clear h
 unfold spec_DrawHexForm.f at H
 obtain ⟨⟨t509, t510, t511⟩, A2, H⟩ := bs_ H
 dsimp only at H
 obtain ⟨⟨t513, t516, t517⟩, A3, H⟩ := bs_ H
 dsimp only at H
 obtain ⟨⟨t518, t519, t520⟩, A4, H⟩ := bs_ H
 dsimp only at H
 simp only [Option.some.injEq, Prod.mk.injEq] at H
 obtain ⟨rfl, rfl⟩ := H
 go_enter Tryz.func32, Tryz.ntmps32
 go_wp2_with (first | ((with_reducible refine gate_callee (f := 37) rfl ?_); refine goesL_ (some 7) rfl rfl Tryz.func37 kr_ rfl #[.slice A0 l0.length c0] rfl ta_ ?_; (with_reducible refine (spec_l01From.calls k _ _ l0 t509 t510 t511 w _ ?side1 ?side2 ?side3 A2.out).mono ?_); (case side1 => repeat (first | (with_reducible first | exact HB.out | apply below_alloc | apply pw_below_drewN | apply below_drew1) | exact HB.out)); (case side2 => exact HR0.out); (case side3 => exact HC0.out); rintro e w5 ⟨g512, rfl, hi, hb, hb2⟩; refine ⟨_, rfl, ?_⟩; replace HB := a0_ (hb); have HI512 := a0_ (hi); (try clear hb); (try clear hb2); (try clear hk); (try clear hi)) | ((with_reducible refine gate_callee (f := 73) rfl ?_); refine goesL_ (some 9) rfl rfl Tryz.func73 kr_ rfl #[.pointer (some ⟨g512, 0, none⟩), .int .i64 1] rfl ta_ ?_; (with_reducible refine (spec_l07DrawFar.calls k g512 t509 t510 t511 1 t513 t516 t517 w _ ?side1 ?side2 A3.out).mono ?_); (case side1 => exact is85_ HI512.out); (case side2 => exact bl1_ (IsS85.ge HI512.out)); rintro e w6 ⟨v514, rfl, ho0, hi, hb, hk⟩; refine ⟨_, rfl, ?_⟩; have HO515 := a0_ (Kd.R_lower ho0 (below_size (bl1_ (IsS85.ge HI512.out)))); replace HB := a0_ (hb); replace HI512 := a0_ (hi); (try clear hb); (try clear hb2); (try clear hk); (try clear hi); (try clear ho0)) | ((with_reducible refine gate_callee (f := 74) rfl ?_); refine goesL_ (some 12) rfl rfl Tryz.func74 kr_ rfl #[.pointer (some ⟨g512, 0, none⟩)] rfl ta_ ?_; (with_reducible refine (spec_l07DrawTurn.calls g512 t509 t516 t517 t518 t519 t520 w _ ?side1 ?side2 A4.out).mono ?_); (case side1 => exact is85_ HI512.out); (case side2 => exact bl1_ (IsS85.ge HI512.out)); rintro e w7 ⟨rfl, hi, hb, hk⟩; refine ⟨_, rfl, ?_⟩; replace HO515 := a0_ (Kd.R_mono (Kd.R_keep (IsS85.apart (show IsS85 w _ g512 t509 t516 t517 from is85_ HI512.out) (ra_ HO515.out) (by decide)) hk (fun _ h => h.2)) (fun _ h => h.1)); replace HB := a0_ (hb); replace HI512 := a0_ (hi); (try clear hb); (try clear hb2); (try clear hk); (try clear hi)))
 go_ret2
 exact ⟨_, er_, ra_ HO515.out, bl1_ (IsS85.ge HI512.out)⟩

/-! ### impl_isLatticeTurn: function 75 -/
def impl_isLatticeTurn.f (a0 : Int) : Option (Bool) := (impl_within.f a0 0 11).bind fun t521 => (some t521)
set_option maxHeartbeats 8000000 in
set_option maxRecDepth 100000 in
theorem impl_isLatticeTurn.calls (a0 : Int) (r : Bool) (w : World) (h : impl_isLatticeTurn.f a0 = some r) :
  Calls Tryz.prog 75 #[.int .i64 a0] w fun e w' => e = .returned (.bool r) ∧ Drawn0 w w' := by
 have H : ((impl_within.f a0 0 11).bind fun t521 => (some t521)) = some r := h
 clear h
 obtain ⟨t521, A2, H⟩ := bs_ H
 obtain rfl := Option.some.inj H
 go_enter Tryz.func75, Tryz.ntmps75
 go_wp2_with (first | ((with_reducible refine gate_callee (f := 39) rfl ?_); refine goesL_ (some 4) rfl rfl Tryz.func39 kr_ rfl #[.int .i64 a0, .int .i64 0, .int .i64 11] rfl ta_ ?_; (with_reducible refine (impl_within.calls a0 0 11 t521 _ A2.out).mono ?_); rintro e w' ⟨rfl, ⟨nd, rfl⟩⟩; refine ⟨_, rfl, ?_⟩))
 go_ret
 exact ⟨by first | rfl | (simp; done) | (simp [*]; done), by repeat (first | exact Drawn0.refl _ | apply Drawn0.step)⟩

/-! ### impl_HexForm: function 33 -/
def impl_HexForm.f (k : Nat) (l0 : List (S46)) (a1 : Int) : Option ((List (S46)) × Int) := (impl_IsShape.f k l0).bind fun t522 => (if t522 = true then ((impl_isLatticeTurn.f a1).bind fun t523 => (if t523 = true then ((impl_hexForm.f k l0 a1).bind fun t524 => ((impl_IsShape.f k t524).bind fun t527 => (if t527 = true then (some (t524, 0)) else (some (([] : List (S46)), 3))))) else (some (([] : List (S46)), 2)))) else (some (([] : List (S46)), 1)))
theorem impl_HexForm.mono : ∀ a0 a1 k, LeO (impl_HexForm.f k a0 a1) (impl_HexForm.f (k + 1) a0 a1) := by
 intro a0 a1 k
 unfold impl_HexForm.f
 with_reducible (repeat' first | exact impl_IsShape.mono _ _ | exact impl_hexForm.mono _ _ _ | exact LeO.refl _ | exact LeO.none _ | refine LeO.ite ?_ ?_ | refine LeO.bind ?_ (fun _ => ?_))
set_option maxHeartbeats 8000000 in
set_option maxRecDepth 100000 in
theorem impl_HexForm.calls (k : Nat) (A0 : Option Addr) (c0 : Nat) (l0 : List (S46)) (a1 : Int) (r1 : List (S46)) (r2 : Int) (w : World) (hr0 : Kd.C k46 w A0 l0.length l0) (hc0 : l0.length ≤ c0) (h : impl_HexForm.f k l0 a1 = some (r1, r2)) :
  Calls Tryz.prog 33 #[.slice A0 l0.length c0, .int .i64 a1] w fun e w' => ∃ v0_ : Value, e = .returned (.tuple #[v0_, .int .i64 r2]) ∧ Kd.R k46 46 w' w.heap.size (fun _ => True) v0_ r1 ∧ Below w.heap.size w w' := by
 have HR0 := Aside0.mk hr0
 have HC0 := Aside0.mk hc0
 clear hr0 hc0
 have HB := a0_ (Below.refl w.heap.size w)
 have H := h
 clear h
 unfold impl_HexForm.f at H
 obtain ⟨t522, A3, H⟩ := bs_ H
 by_cases c4 : t522 = true
 ·subst c4
  rw [if_pos rfl] at H
  obtain ⟨t523, A5, H⟩ := bs_ H
  by_cases c6 : t523 = true
  ·subst c6
   rw [if_pos rfl] at H
   obtain ⟨t524, A7, H⟩ := bs_ H
   obtain ⟨t527, A8, H⟩ := bs_ H
   by_cases c9 : t527 = true
   ·subst c9
    rw [if_pos rfl] at H
    simp only [Option.some.injEq, Prod.mk.injEq] at H
    obtain ⟨rfl, rfl⟩ := H
    go_enter Tryz.func33, Tryz.ntmps33
    go_wp2_with (first | ((with_reducible refine gate_callee (f := 65) rfl ?_); refine goesL_ (some 8) rfl rfl Tryz.func65 kr_ rfl #[.slice A0 l0.length c0] rfl ta_ ?_; (with_reducible refine (impl_IsShape.calls k _ _ l0 true _ ?side1 ?side2 A3.out).mono ?_); (case side1 => exact ca_ HR0.out); (case side2 => exact HC0.out); rintro e w10 ⟨rfl, hb⟩; refine ⟨_, rfl, ?_⟩; replace HB := a0_ (below_step (bl0_) hb); (try clear hb); (try clear hb2); (try clear hk); (try clear hi)) | ((with_reducible refine gate_callee (f := 75) rfl ?_); refine goesL_ (some 11) rfl rfl Tryz.func75 kr_ rfl #[.int .i64 a1] rfl ta_ ?_; (with_reducible refine (impl_isLatticeTurn.calls a1 true _ A5.out).mono ?_); rintro e w' ⟨rfl, ⟨nd, rfl⟩⟩; refine ⟨_, rfl, ?_⟩) | ((with_reducible refine gate_callee (f := 68) rfl ?_); refine goesL_ (some 15) rfl rfl Tryz.func68 kr_ rfl #[.slice A0 l0.length c0, .int .i64 a1] rfl ta_ ?_; (with_reducible refine (impl_hexForm.calls k _ _ l0 a1 t524 _ ?side1 ?side2 A7.out).mono ?_); (case side1 => repeat (first | exact (Kd.C_below HR0.out (bl0_)) | (with_reducible refine Kd.C_alloc ?_ _) | (with_reducible refine Kd.C_drewN ?_ _) | (with_reducible refine Kd.C_drew ?_))); (case side2 => exact HC0.out); rintro e w11 ⟨v525, rfl, ho0, hb⟩; refine ⟨_, rfl, ?_⟩; have HO526 := a0_ (Kd.R_lower ho0 (below_size (bl0_))); replace HB := a0_ (below_step (bl0_) hb); (try clear hb); (try clear hb2); (try clear hk); (try clear hi); (try clear ho0); obtain ⟨Ao12, co12, eo12⟩ := Kd.R_slice HO526.out; subst eo12) | ((with_reducible refine gate_callee (f := 65) rfl ?_); refine goesL_ (some 17) rfl rfl Tryz.func65 kr_ rfl #[.slice Ao12 t524.length co12] rfl ta_ ?_; (with_reducible refine (impl_IsShape.calls k _ _ t524 true _ ?side1 ?side2 A8.out).mono ?_); (case side1 => exact ca_ (Kd.R_reads' HO526.out).2.2); (case side2 => exact (Kd.R_reads' HO526.out).2.1); rintro e w13 ⟨rfl, hb⟩; refine ⟨_, rfl, ?_⟩; replace HO526 := a0_ (Kd.R_below (ra_ HO526.out) hb); replace HB := a0_ (below_step (bl0_) hb); (try clear hb); (try clear hb2); (try clear hk); (try clear hi)))
    go_ret2
    exact ⟨_, er_, ra_ HO526.out, bl0_⟩
   ·replace c9 := Bool.eq_false_iff.mpr c9
    subst c9
    rw [if_neg (show ¬ (false = true) by decide)] at H
    simp only [Option.some.injEq, Prod.mk.injEq] at H
    obtain ⟨rfl, rfl⟩ := H
    go_enter Tryz.func33, Tryz.ntmps33
    go_wp2_with (first | ((with_reducible refine gate_callee (f := 65) rfl ?_); refine goesL_ (some 8) rfl rfl Tryz.func65 kr_ rfl #[.slice A0 l0.length c0] rfl ta_ ?_; (with_reducible refine (impl_IsShape.calls k _ _ l0 true _ ?side1 ?side2 A3.out).mono ?_); (case side1 => exact ca_ HR0.out); (case side2 => exact HC0.out); rintro e w14 ⟨rfl, hb⟩; refine ⟨_, rfl, ?_⟩; replace HB := a0_ (below_step (bl0_) hb); (try clear hb); (try clear hb2); (try clear hk); (try clear hi)) | ((with_reducible refine gate_callee (f := 75) rfl ?_); refine goesL_ (some 11) rfl rfl Tryz.func75 kr_ rfl #[.int .i64 a1] rfl ta_ ?_; (with_reducible refine (impl_isLatticeTurn.calls a1 true _ A5.out).mono ?_); rintro e w' ⟨rfl, ⟨nd, rfl⟩⟩; refine ⟨_, rfl, ?_⟩) | ((with_reducible refine gate_callee (f := 68) rfl ?_); refine goesL_ (some 15) rfl rfl Tryz.func68 kr_ rfl #[.slice A0 l0.length c0, .int .i64 a1] rfl ta_ ?_; (with_reducible refine (impl_hexForm.calls k _ _ l0 a1 t524 _ ?side1 ?side2 A7.out).mono ?_); (case side1 => repeat (first | exact (Kd.C_below HR0.out (bl0_)) | (with_reducible refine Kd.C_alloc ?_ _) | (with_reducible refine Kd.C_drewN ?_ _) | (with_reducible refine Kd.C_drew ?_))); (case side2 => exact HC0.out); rintro e w15 ⟨v525, rfl, ho0, hb⟩; refine ⟨_, rfl, ?_⟩; have HO526 := a0_ (Kd.R_lower ho0 (below_size (bl0_))); replace HB := a0_ (below_step (bl0_) hb); (try clear hb); (try clear hb2); (try clear hk); (try clear hi); (try clear ho0); obtain ⟨Ao16, co16, eo16⟩ := Kd.R_slice HO526.out; subst eo16) | ((with_reducible refine gate_callee (f := 65) rfl ?_); refine goesL_ (some 17) rfl rfl Tryz.func65 kr_ rfl #[.slice Ao16 t524.length co16] rfl ta_ ?_; (with_reducible refine (impl_IsShape.calls k _ _ t524 false _ ?side1 ?side2 A8.out).mono ?_); (case side1 => exact ca_ (Kd.R_reads' HO526.out).2.2); (case side2 => exact (Kd.R_reads' HO526.out).2.1); rintro e w17 ⟨rfl, hb⟩; refine ⟨_, rfl, ?_⟩; replace HO526 := a0_ (Kd.R_below (ra_ HO526.out) hb); replace HB := a0_ (below_step (bl0_) hb); (try clear hb); (try clear hb2); (try clear hk); (try clear hi)))
    go_ret2
    exact ⟨_, er_, by first | exact Kd.R_nil _ _ _ _ _ | exact Kd.N_nil _ _ _ _ _ | exact Kd.V_nil _ _ _ _ _ | exact Kd.Q_nil _ _ _ _ _ | exact Kd.S_nil _ _ _ _ _, bl0_⟩
  ·replace c6 := Bool.eq_false_iff.mpr c6
   subst c6
   rw [if_neg (show ¬ (false = true) by decide)] at H
   simp only [Option.some.injEq, Prod.mk.injEq] at H
   obtain ⟨rfl, rfl⟩ := H
   go_enter Tryz.func33, Tryz.ntmps33
   go_wp2_with (first | ((with_reducible refine gate_callee (f := 65) rfl ?_); refine goesL_ (some 8) rfl rfl Tryz.func65 kr_ rfl #[.slice A0 l0.length c0] rfl ta_ ?_; (with_reducible refine (impl_IsShape.calls k _ _ l0 true _ ?side1 ?side2 A3.out).mono ?_); (case side1 => exact ca_ HR0.out); (case side2 => exact HC0.out); rintro e w18 ⟨rfl, hb⟩; refine ⟨_, rfl, ?_⟩; replace HB := a0_ (below_step (bl0_) hb); (try clear hb); (try clear hb2); (try clear hk); (try clear hi)) | ((with_reducible refine gate_callee (f := 75) rfl ?_); refine goesL_ (some 11) rfl rfl Tryz.func75 kr_ rfl #[.int .i64 a1] rfl ta_ ?_; (with_reducible refine (impl_isLatticeTurn.calls a1 false _ A5.out).mono ?_); rintro e w' ⟨rfl, ⟨nd, rfl⟩⟩; refine ⟨_, rfl, ?_⟩))
   go_ret2
   exact ⟨_, er_, by first | exact Kd.R_nil _ _ _ _ _ | exact Kd.N_nil _ _ _ _ _ | exact Kd.V_nil _ _ _ _ _ | exact Kd.Q_nil _ _ _ _ _ | exact Kd.S_nil _ _ _ _ _, bl0_⟩
 ·replace c4 := Bool.eq_false_iff.mpr c4
  subst c4
  rw [if_neg (show ¬ (false = true) by decide)] at H
  simp only [Option.some.injEq, Prod.mk.injEq] at H
  obtain ⟨rfl, rfl⟩ := H
  go_enter Tryz.func33, Tryz.ntmps33
  go_wp2_with (first | ((with_reducible refine gate_callee (f := 65) rfl ?_); refine goesL_ (some 8) rfl rfl Tryz.func65 kr_ rfl #[.slice A0 l0.length c0] rfl ta_ ?_; (with_reducible refine (impl_IsShape.calls k _ _ l0 false _ ?side1 ?side2 A3.out).mono ?_); (case side1 => exact ca_ HR0.out); (case side2 => exact HC0.out); rintro e w19 ⟨rfl, hb⟩; refine ⟨_, rfl, ?_⟩; replace HB := a0_ (below_step (bl0_) hb); (try clear hb); (try clear hb2); (try clear hk); (try clear hi)))
  go_ret2
  exact ⟨_, er_, by first | exact Kd.R_nil _ _ _ _ _ | exact Kd.N_nil _ _ _ _ _ | exact Kd.V_nil _ _ _ _ _ | exact Kd.Q_nil _ _ _ _ _ | exact Kd.S_nil _ _ _ _ _, bl0_⟩

/-! ### spec_l07Is: function 122 -/
def spec_l07Is.f (a0 : Int) (a1_0 : Int) (a1_1 : Int) : Option (Bool) := if a0 = 1 then (some true) else ((spec_l01Mod.f a1_0 3).bind fun t529 => ((spec_l01Mod.f a1_1 3).bind fun t530 => (if t529 = t530 then ((spec_l01Mod.f a1_0 3).bind fun t531 => (some (t531 != 0))) else (some false))))
set_option maxHeartbeats 8000000 in
set_option maxRecDepth 100000 in
theorem spec_l07Is.calls (a0 : Int) (a1_0 : Int) (a1_1 : Int) (r : Bool) (w : World) (h : spec_l07Is.f a0 a1_0 a1_1 = some r) :
  Calls Tryz.prog 122 #[.int .i64 a0, .agg #[.int .i64 a1_0, .int .i64 a1_1]] w fun e w' => e = .returned (.bool r) ∧ Below w.heap.size w w' := by
 have hu46 := Tryz.underlying46
 have HB := a0_ (Below.refl w.heap.size w)
 have H := h
 clear h
 unfold spec_l07Is.f at H
 by_cases c3 : a0 = 1
 ·rw [if_pos c3] at H
  have c3b0 : (a0 == 1) = true := beq_iff_eq.mpr c3
  have c3b1 : (a0 != 1) = false := bne_eq_false_iff_eq.mpr c3
  clear c3
  obtain rfl := Option.some.inj H
  go_enter Tryz.func122, Tryz.ntmps122
  go_wp2_with (first | ((with_reducible refine gate_dst (N := 3) rfl ?_); refine bx_ (N := 3) (cs := #[.int .i64 a1_0, .int .i64 a1_1]) (t := 46) ?_; intro gb528 hg w4 hbox hb; have BK528 := a0_ (hbox); have GW528 := a0_ ((sz_ hg (bl0_) : w.heap.size ≤ gb528)); have GE528 := a0_ ((sz_ hg (bl0_) : w.heap.size ≤ gb528)); replace HB := a0_ (below_step (bl0_) hb); clear hb hbox hg))
  repeat (go_quiet (first | ((with_reducible refine gate_dst (N := 3) rfl ?_); refine bx_ (N := 3) (cs := #[.int .i64 a1_0, .int .i64 a1_1]) (t := 46) ?_; intro gb528 hg w4 hbox hb; have BK528 := a0_ (hbox); have GW528 := a0_ ((sz_ hg (bl0_) : w.heap.size ≤ gb528)); have GE528 := a0_ ((sz_ hg (bl0_) : w.heap.size ≤ gb528)); replace HB := a0_ (below_step (bl0_) hb); clear hb hbox hg)); try go_wp2_with (first | ((with_reducible refine gate_dst (N := 3) rfl ?_); refine bx_ (N := 3) (cs := #[.int .i64 a1_0, .int .i64 a1_1]) (t := 46) ?_; intro gb528 hg w4 hbox hb; have BK528 := a0_ (hbox); have GW528 := a0_ ((sz_ hg (bl0_) : w.heap.size ≤ gb528)); have GE528 := a0_ ((sz_ hg (bl0_) : w.heap.size ≤ gb528)); replace HB := a0_ (below_step (bl0_) hb); clear hb hbox hg)))
  go_ret
  exact ⟨er_, bl1_ GE528.out⟩
 ·rw [if_neg c3] at H
  have c3b0 : (a0 == 1) = false := beq_eq_false_iff_ne.mpr c3
  have c3b1 : (a0 != 1) = true := bne_iff_ne.mpr c3
  obtain ⟨t529, A5, H⟩ := bs_ H
  obtain ⟨t530, A6, H⟩ := bs_ H
  by_cases c7 : t529 = t530
  ·rw [if_pos c7] at H
   have c7b0 : (t529 == t530) = true := beq_iff_eq.mpr c7
   have c7b1 : (t529 != t530) = false := bne_eq_false_iff_eq.mpr c7
   clear c7
   replace H := Option.bind_eq_some_iff.mp H
   obtain ⟨t531, A80, H⟩ := H
   have ew_ : t529 = t531 := Option.some.inj (A5.out.symm.trans A80)
   subst ew_
   replace H : (some (t529 != 0)) = some r := H
   have A8 := Aside0.mk A80
   clear A80
   obtain rfl := Option.some.inj H
   go_enter Tryz.func122, Tryz.ntmps122
   go_wp2_with (first | ((with_reducible refine gate_dst (N := 3) rfl ?_); refine bx_ (N := 3) (cs := #[.int .i64 a1_0, .int .i64 a1_1]) (t := 46) ?_; intro gb528 hg w9 hbox hb; have BK528 := a0_ (hbox); have GW528 := a0_ ((sz_ hg (bl0_) : w.heap.size ≤ gb528)); have GE528 := a0_ ((sz_ hg (bl0_) : w.heap.size ≤ gb528)); replace HB := a0_ (below_step (bl0_) hb); clear hb hbox hg; obtain ⟨hcz10_0, hcz10_1, hfz10_0, hfz10_1⟩ := bc2_ BK528.out) | (go_at_call 107; (with_reducible refine (spec_l01Mod.calls a1_0 3 t529 _ A5.out).mono ?_); rintro e w' ⟨rfl, ⟨nd, rfl⟩⟩; (try first | exact ⟨rfl, _, World.drewN_drewN _ _ _⟩ | exact ⟨rfl, _, Eq.trans (World.drewN_drewN _ _ _) (congrArg (World.drewN _) (Nat.add_assoc _ _ _))⟩)) | (go_at_call 107; (with_reducible refine (spec_l01Mod.calls a1_1 3 t530 _ A6.out).mono ?_); rintro e w' ⟨rfl, ⟨nd, rfl⟩⟩; (try first | exact ⟨rfl, _, World.drewN_drewN _ _ _⟩ | exact ⟨rfl, _, Eq.trans (World.drewN_drewN _ _ _) (congrArg (World.drewN _) (Nat.add_assoc _ _ _))⟩)) | (go_at_call 107; (with_reducible refine (spec_l01Mod.calls a1_0 3 t529 _ A8.out).mono ?_); rintro e w' ⟨rfl, ⟨nd, rfl⟩⟩; (try first | exact ⟨rfl, _, World.drewN_drewN _ _ _⟩ | exact ⟨rfl, _, Eq.trans (World.drewN_drewN _ _ _) (congrArg (World.drewN _) (Nat.add_assoc _ _ _))⟩)))
   repeat (go_quiet (first | ((with_reducible refine gate_dst (N := 3) rfl ?_); refine bx_ (N := 3) (cs := #[.int .i64 a1_0, .int .i64 a1_1]) (t := 46) ?_; intro gb528 hg w9 hbox hb; have BK528 := a0_ (hbox); have GW528 := a0_ ((sz_ hg (bl0_) : w.heap.size ≤ gb528)); have GE528 := a0_ ((sz_ hg (bl0_) : w.heap.size ≤ gb528)); replace HB := a0_ (below_step (bl0_) hb); clear hb hbox hg; obtain ⟨hcz10_0, hcz10_1, hfz10_0, hfz10_1⟩ := bc2_ BK528.out) | (go_at_call 107; (with_reducible refine (spec_l01Mod.calls a1_0 3 t529 _ A5.out).mono ?_); rintro e w' ⟨rfl, ⟨nd, rfl⟩⟩; (try first | exact ⟨rfl, _, World.drewN_drewN _ _ _⟩ | exact ⟨rfl, _, Eq.trans (World.drewN_drewN _ _ _) (congrArg (World.drewN _) (Nat.add_assoc _ _ _))⟩)) | (go_at_call 107; (with_reducible refine (spec_l01Mod.calls a1_1 3 t530 _ A6.out).mono ?_); rintro e w' ⟨rfl, ⟨nd, rfl⟩⟩; (try first | exact ⟨rfl, _, World.drewN_drewN _ _ _⟩ | exact ⟨rfl, _, Eq.trans (World.drewN_drewN _ _ _) (congrArg (World.drewN _) (Nat.add_assoc _ _ _))⟩)) | (go_at_call 107; (with_reducible refine (spec_l01Mod.calls a1_0 3 t529 _ A8.out).mono ?_); rintro e w' ⟨rfl, ⟨nd, rfl⟩⟩; (try first | exact ⟨rfl, _, World.drewN_drewN _ _ _⟩ | exact ⟨rfl, _, Eq.trans (World.drewN_drewN _ _ _) (congrArg (World.drewN _) (Nat.add_assoc _ _ _))⟩))); try go_wp2_with (first | ((with_reducible refine gate_dst (N := 3) rfl ?_); refine bx_ (N := 3) (cs := #[.int .i64 a1_0, .int .i64 a1_1]) (t := 46) ?_; intro gb528 hg w9 hbox hb; have BK528 := a0_ (hbox); have GW528 := a0_ ((sz_ hg (bl0_) : w.heap.size ≤ gb528)); have GE528 := a0_ ((sz_ hg (bl0_) : w.heap.size ≤ gb528)); replace HB := a0_ (below_step (bl0_) hb); clear hb hbox hg; obtain ⟨hcz10_0, hcz10_1, hfz10_0, hfz10_1⟩ := bc2_ BK528.out) | (go_at_call 107; (with_reducible refine (spec_l01Mod.calls a1_0 3 t529 _ A5.out).mono ?_); rintro e w' ⟨rfl, ⟨nd, rfl⟩⟩; (try first | exact ⟨rfl, _, World.drewN_drewN _ _ _⟩ | exact ⟨rfl, _, Eq.trans (World.drewN_drewN _ _ _) (congrArg (World.drewN _) (Nat.add_assoc _ _ _))⟩)) | (go_at_call 107; (with_reducible refine (spec_l01Mod.calls a1_1 3 t530 _ A6.out).mono ?_); rintro e w' ⟨rfl, ⟨nd, rfl⟩⟩; (try first | exact ⟨rfl, _, World.drewN_drewN _ _ _⟩ | exact ⟨rfl, _, Eq.trans (World.drewN_drewN _ _ _) (congrArg (World.drewN _) (Nat.add_assoc _ _ _))⟩)) | (go_at_call 107; (with_reducible refine (spec_l01Mod.calls a1_0 3 t529 _ A8.out).mono ?_); rintro e w' ⟨rfl, ⟨nd, rfl⟩⟩; (try first | exact ⟨rfl, _, World.drewN_drewN _ _ _⟩ | exact ⟨rfl, _, Eq.trans (World.drewN_drewN _ _ _) (congrArg (World.drewN _) (Nat.add_assoc _ _ _))⟩))))
   go_ret
   exact ⟨er_, bl1_ GE528.out⟩
  ·rw [if_neg c7] at H
   have c7b0 : (t529 == t530) = false := beq_eq_false_iff_ne.mpr c7
   have c7b1 : (t529 != t530) = true := bne_iff_ne.mpr c7
   obtain rfl := Option.some.inj H
   go_enter Tryz.func122, Tryz.ntmps122
   go_wp2_with (first | ((with_reducible refine gate_dst (N := 3) rfl ?_); refine bx_ (N := 3) (cs := #[.int .i64 a1_0, .int .i64 a1_1]) (t := 46) ?_; intro gb528 hg w11 hbox hb; have BK528 := a0_ (hbox); have GW528 := a0_ ((sz_ hg (bl0_) : w.heap.size ≤ gb528)); have GE528 := a0_ ((sz_ hg (bl0_) : w.heap.size ≤ gb528)); replace HB := a0_ (below_step (bl0_) hb); clear hb hbox hg; obtain ⟨hcz12_0, hcz12_1, hfz12_0, hfz12_1⟩ := bc2_ BK528.out) | (go_at_call 107; (with_reducible refine (spec_l01Mod.calls a1_0 3 t529 _ A5.out).mono ?_); rintro e w' ⟨rfl, ⟨nd, rfl⟩⟩; (try first | exact ⟨rfl, _, World.drewN_drewN _ _ _⟩ | exact ⟨rfl, _, Eq.trans (World.drewN_drewN _ _ _) (congrArg (World.drewN _) (Nat.add_assoc _ _ _))⟩)) | (go_at_call 107; (with_reducible refine (spec_l01Mod.calls a1_1 3 t530 _ A6.out).mono ?_); rintro e w' ⟨rfl, ⟨nd, rfl⟩⟩; (try first | exact ⟨rfl, _, World.drewN_drewN _ _ _⟩ | exact ⟨rfl, _, Eq.trans (World.drewN_drewN _ _ _) (congrArg (World.drewN _) (Nat.add_assoc _ _ _))⟩)))
   repeat (go_quiet (first | ((with_reducible refine gate_dst (N := 3) rfl ?_); refine bx_ (N := 3) (cs := #[.int .i64 a1_0, .int .i64 a1_1]) (t := 46) ?_; intro gb528 hg w11 hbox hb; have BK528 := a0_ (hbox); have GW528 := a0_ ((sz_ hg (bl0_) : w.heap.size ≤ gb528)); have GE528 := a0_ ((sz_ hg (bl0_) : w.heap.size ≤ gb528)); replace HB := a0_ (below_step (bl0_) hb); clear hb hbox hg; obtain ⟨hcz12_0, hcz12_1, hfz12_0, hfz12_1⟩ := bc2_ BK528.out) | (go_at_call 107; (with_reducible refine (spec_l01Mod.calls a1_0 3 t529 _ A5.out).mono ?_); rintro e w' ⟨rfl, ⟨nd, rfl⟩⟩; (try first | exact ⟨rfl, _, World.drewN_drewN _ _ _⟩ | exact ⟨rfl, _, Eq.trans (World.drewN_drewN _ _ _) (congrArg (World.drewN _) (Nat.add_assoc _ _ _))⟩)) | (go_at_call 107; (with_reducible refine (spec_l01Mod.calls a1_1 3 t530 _ A6.out).mono ?_); rintro e w' ⟨rfl, ⟨nd, rfl⟩⟩; (try first | exact ⟨rfl, _, World.drewN_drewN _ _ _⟩ | exact ⟨rfl, _, Eq.trans (World.drewN_drewN _ _ _) (congrArg (World.drewN _) (Nat.add_assoc _ _ _))⟩))); try go_wp2_with (first | ((with_reducible refine gate_dst (N := 3) rfl ?_); refine bx_ (N := 3) (cs := #[.int .i64 a1_0, .int .i64 a1_1]) (t := 46) ?_; intro gb528 hg w11 hbox hb; have BK528 := a0_ (hbox); have GW528 := a0_ ((sz_ hg (bl0_) : w.heap.size ≤ gb528)); have GE528 := a0_ ((sz_ hg (bl0_) : w.heap.size ≤ gb528)); replace HB := a0_ (below_step (bl0_) hb); clear hb hbox hg; obtain ⟨hcz12_0, hcz12_1, hfz12_0, hfz12_1⟩ := bc2_ BK528.out) | (go_at_call 107; (with_reducible refine (spec_l01Mod.calls a1_0 3 t529 _ A5.out).mono ?_); rintro e w' ⟨rfl, ⟨nd, rfl⟩⟩; (try first | exact ⟨rfl, _, World.drewN_drewN _ _ _⟩ | exact ⟨rfl, _, Eq.trans (World.drewN_drewN _ _ _) (congrArg (World.drewN _) (Nat.add_assoc _ _ _))⟩)) | (go_at_call 107; (with_reducible refine (spec_l01Mod.calls a1_1 3 t530 _ A6.out).mono ?_); rintro e w' ⟨rfl, ⟨nd, rfl⟩⟩; (try first | exact ⟨rfl, _, World.drewN_drewN _ _ _⟩ | exact ⟨rfl, _, Eq.trans (World.drewN_drewN _ _ _) (congrArg (World.drewN _) (Nat.add_assoc _ _ _))⟩))))
   go_ret
   exact ⟨er_, bl1_ GE528.out⟩

/-! ### spec_l07Shape: function 109 -/
def spec_l07Shape.l0 : Nat → Int → List (S46) → Int → Option (Bool)
 | 0, _, _, _ => none
 | k + 1, x0, x1, x5 => if x5 < (x1.length : Int) then (if 0 ≤ x5 then ((spec_l07Is.f x0 ((rd_T46 x1 x5).f0) ((rd_T46 x1 x5).f1)).bind fun t533 => (if t533 = true then (spec_l07Shape.l0 k x0 x1 (wrap64 (x5 + 1))) else (some false))) else (none)) else ((spec_IsShape.f k x1).bind fun t534 => (some t534))
def spec_l07Shape.f (k : Nat) (a0 : Int) (l1 : List (S46)) : Option (Bool) := spec_l07Shape.l0 k a0 l1 0
theorem spec_l07Shape.mono_l : ∀ k, (∀ y0 y1 y2, LeO (spec_l07Shape.l0 k y0 y1 y2) (spec_l07Shape.l0 (k + 1) y0 y1 y2))
 | 0 => fun _ _ _ r h => by simp [spec_l07Shape.l0] at h
 | k + 1 => by
  have ih0 := spec_l07Shape.mono_l k
  ·intro y0 y1 y2
   unfold spec_l07Shape.l0
   with_reducible (repeat' first | exact ih0 _ _ _ | exact spec_IsShape.mono _ _ | exact LeO.refl _ | exact LeO.none _ | refine LeO.ite ?_ ?_ | refine LeO.bind ?_ (fun _ => ?_))
theorem spec_l07Shape.mono : ∀ a0 a1 k, LeO (spec_l07Shape.f k a0 a1) (spec_l07Shape.f (k + 1) a0 a1) := by
 intro a0 a1 k
 have ih0 := spec_l07Shape.mono_l k
 unfold spec_l07Shape.f
 with_reducible (repeat' first | exact ih0 _ _ _ | exact spec_IsShape.mono _ _ | exact LeO.refl _ | exact LeO.none _ | refine LeO.ite ?_ ?_ | refine LeO.bind ?_ (fun _ => ?_))
set_option maxHeartbeats 8000000 in
set_option maxRecDepth 100000 in
theorem spec_l07Shape.calls (k : Nat) (a0 : Int) (A1 : Option Addr) (c1 : Nat) (l1 : List (S46)) (r : Bool) (w : World) (hr1 : Kd.C k46 w A1 l1.length l1) (hc1 : l1.length ≤ c1) (h : spec_l07Shape.f k a0 l1 = some r) :
  Calls Tryz.prog 109 #[.int .i64 a0, .slice A1 l1.length c1] w fun e w' => e = .returned (.bool r) ∧ Below w.heap.size w w' := by
 have hu46 := Tryz.underlying46
 have HR1 := Aside0.mk hr1
 have HC1 := Aside0.mk hc1
 clear hr1 hc1
 have HB := a0_ (Below.refl w.heap.size w)
 have H : (spec_l07Shape.l0 k a0 l1 0) = some r := h
 clear h
 have H' := Aside0.mk H
 clear H
 go_enter Tryz.func109, Tryz.ntmps109
 go_wp2
 go_loopg [5] k (fun kq v5 w' => ∃ (x5_1 : Int), v5 = .int .i64 x5_1 ∧ Aside0 (spec_l07Shape.l0 kq a0 l1 x5_1 = some r) ∧ Aside0 (kq ≤ k) ∧ Aside0 (Below w.heap.size w w'))
 case atStart => exact ⟨(0), rs_, H', ⟨Nat.le_refl _⟩, ⟨bl0_⟩⟩
 case round =>
  clear H'
  try clear c1
  try clear p2
  obtain ⟨x5_1, rfl, HA, HK1, HB⟩ := hrel
  cases gk with
  | zero => exact absurd HA.out (by simp [spec_l07Shape.l0])
  | succ k1 =>
   have H := HA.out
   clear HA
   simp only [spec_l07Shape.l0] at H
   by_cases c3 : x5_1 < (l1.length : Int)
   ·rw [if_pos c3] at H
    have c3b0 : decide (x5_1 < (l1.length : Int)) = true := decide_eq_true c3
    clear c3
    by_cases c4 : 0 ≤ x5_1
    ·rw [if_pos c4] at H
     have c4b0 : decide (0 ≤ x5_1) = true := decide_eq_true c4
     clear c4
     obtain ⟨t533, A5, H⟩ := bs_ H
     by_cases c6 : t533 = true
     ·subst c6
      rw [if_pos rfl] at H
      have H' := Aside0.mk H
      clear H
      have p532 : 0 ≤ (x5_1 : Int) := od_
      have q532 : x5_1 < (l1.length : Int) := od_
      obtain ⟨ad532, e532, hx532_0, hx532_1⟩ := at_T46 HR1.out x5_1 p532 q532
      cases e532
      replace hx532_0 := (HB.out.cell (World.block_lt_of_cell? w _ hx532_0)).trans hx532_0
      replace hx532_1 := (HB.out.cell (World.block_lt_of_cell? w _ hx532_1)).trans hx532_1
      replace p532 := eq_true p532
      replace q532 := eq_true q532
      go_wp2_with (first | ((with_reducible refine gate_callee (f := 122) rfl ?_); refine goesL_ (some 17) rfl rfl Tryz.func122 kr_ rfl #[.int .i64 a0, .agg #[.int .i64 ((rd_T46 l1 x5_1).f0), .int .i64 ((rd_T46 l1 x5_1).f1)]] rfl ta_ ?_; (with_reducible refine (spec_l07Is.calls a0 ((rd_T46 l1 x5_1).f0) ((rd_T46 l1 x5_1).f1) true _ A5.out).mono ?_); rintro e w7 ⟨rfl, hb⟩; refine ⟨_, rfl, ?_⟩; replace HB := a0_ (below_step (bl0_) hb); (try clear hb); (try clear hb2); (try clear hk); (try clear hi)))
      go_roundg k1
      case measure => have := HK1.out; omega
      case rel => exact ⟨(wrap64 (x5_1 + 1)), rs_, H', ⟨by have := HK1.out; omega⟩, ⟨bl0_⟩⟩
     ·replace c6 := Bool.eq_false_iff.mpr c6
      subst c6
      rw [if_neg (show ¬ (false = true) by decide)] at H
      obtain rfl := Option.some.inj H
      have p532 : 0 ≤ (x5_1 : Int) := od_
      have q532 : x5_1 < (l1.length : Int) := od_
      obtain ⟨ad532, e532, hx532_0, hx532_1⟩ := at_T46 HR1.out x5_1 p532 q532
      cases e532
      replace hx532_0 := (HB.out.cell (World.block_lt_of_cell? w _ hx532_0)).trans hx532_0
      replace hx532_1 := (HB.out.cell (World.block_lt_of_cell? w _ hx532_1)).trans hx532_1
      replace p532 := eq_true p532
      replace q532 := eq_true q532
      go_wp2_with (first | ((with_reducible refine gate_callee (f := 122) rfl ?_); refine goesL_ (some 17) rfl rfl Tryz.func122 kr_ rfl #[.int .i64 a0, .agg #[.int .i64 ((rd_T46 l1 x5_1).f0), .int .i64 ((rd_T46 l1 x5_1).f1)]] rfl ta_ ?_; (with_reducible refine (spec_l07Is.calls a0 ((rd_T46 l1 x5_1).f0) ((rd_T46 l1 x5_1).f1) false _ A5.out).mono ?_); rintro e w8 ⟨rfl, hb⟩; refine ⟨_, rfl, ?_⟩; replace HB := a0_ (below_step (bl0_) hb); (try clear hb); (try clear hb2); (try clear hk); (try clear hi)))
      go_ret
      exact ⟨er_, bl0_⟩
    ·rw [if_neg c4] at H
     exact absurd H (by simp)
   ·rw [if_neg c3] at H
    have c3b0 : decide (x5_1 < (l1.length : Int)) = false := decide_eq_false c3
    clear c3
    obtain ⟨t534, A9, H⟩ := bs_ H
    obtain rfl := Option.some.inj H
    go_wp2_with (first | ((with_reducible refine gate_callee (f := 111) rfl ?_); refine goesL_ (some 20) rfl rfl Tryz.func111 kr_ rfl #[.slice A1 l1.length c1] rfl ta_ ?_; (with_reducible refine (spec_IsShape.calls k1 _ _ l1 t534 _ ?side1 ?side2 A9.out).mono ?_); (case side1 => exact ca_ (Kd.C_below HR1.out HB.out)); (case side2 => exact HC1.out); rintro e w10 ⟨rfl, hb⟩; refine ⟨_, rfl, ?_⟩; replace HB := a0_ (below_step (bl0_) hb); (try clear hb); (try clear hb2); (try clear hk); (try clear hi)))
    go_ret
    exact ⟨er_, bl0_⟩

/-! ### spec_l07FormCode: function 76 -/
def spec_l07FormCode.f (k : Nat) (a0 : Int) (l1 : List (S46)) (a2 : Int) : Option ((List (S46)) × Int) := (spec_l07Shape.f k a0 l1).bind fun t535 => (if t535 = true then ((spec_l01In.f a2 0 11).bind fun t536 => (if t536 = true then ((spec_l07Form.f k a0 l1 a2).bind fun t537 => ((spec_IsShape.f k t537).bind fun t540 => (if t540 = true then (some (t537, 0)) else (some (([] : List (S46)), 3))))) else (some (([] : List (S46)), 2)))) else (some (([] : List (S46)), 1)))
theorem spec_l07FormCode.mono : ∀ a0 a1 a2 k, LeO (spec_l07FormCode.f k a0 a1 a2) (spec_l07FormCode.f (k + 1) a0 a1 a2) := by
 intro a0 a1 a2 k
 unfold spec_l07FormCode.f
 with_reducible (repeat' first | exact spec_IsShape.mono _ _ | exact spec_l07Form.mono _ _ _ _ | exact spec_l07Shape.mono _ _ _ | exact LeO.refl _ | exact LeO.none _ | refine LeO.ite ?_ ?_ | refine LeO.bind ?_ (fun _ => ?_))
set_option maxHeartbeats 8000000 in
set_option maxRecDepth 100000 in
theorem spec_l07FormCode.calls (k : Nat) (a0 : Int) (A1 : Option Addr) (c1 : Nat) (l1 : List (S46)) (a2 : Int) (r1 : List (S46)) (r2 : Int) (w : World) (hr1 : Kd.C k46 w A1 l1.length l1) (hc1 : l1.length ≤ c1) (h : spec_l07FormCode.f k a0 l1 a2 = some (r1, r2)) :
  Calls Tryz.prog 76 #[.int .i64 a0, .slice A1 l1.length c1, .int .i64 a2] w fun e w' => ∃ v0_ : Value, e = .returned (.tuple #[v0_, .int .i64 r2]) ∧ Kd.R k46 46 w' w.heap.size (fun _ => True) v0_ r1 ∧ Below w.heap.size w w' := by
 have HR1 := Aside0.mk hr1
 have HC1 := Aside0.mk hc1
 clear hr1 hc1
 have HB := a0_ (Below.refl w.heap.size w)
 have H := h
 clear h
 unfold spec_l07FormCode.f at H
 obtain ⟨t535, A4, H⟩ := bs_ H
 by_cases c5 : t535 = true
 ·subst c5
  rw [if_pos rfl] at H
  obtain ⟨t536, A6, H⟩ := bs_ H
  by_cases c7 : t536 = true
  ·subst c7
   rw [if_pos rfl] at H
   obtain ⟨t537, A8, H⟩ := bs_ H
   obtain ⟨t540, A9, H⟩ := bs_ H
   by_cases c10 : t540 = true
   ·subst c10
    rw [if_pos rfl] at H
    simp only [Option.some.injEq, Prod.mk.injEq] at H
    obtain ⟨rfl, rfl⟩ := H
    go_enter Tryz.func76, Tryz.ntmps76
    go_wp2_with (first | ((with_reducible refine gate_callee (f := 109) rfl ?_); refine goesL_ (some 11) rfl rfl Tryz.func109 kr_ rfl #[.int .i64 a0, .slice A1 l1.length c1] rfl ta_ ?_; (with_reducible refine (spec_l07Shape.calls k a0 _ _ l1 true _ ?side1 ?side2 A4.out).mono ?_); (case side1 => exact ca_ HR1.out); (case side2 => exact HC1.out); rintro e w11 ⟨rfl, hb⟩; refine ⟨_, rfl, ?_⟩; replace HB := a0_ (below_step (bl0_) hb); (try clear hb); (try clear hb2); (try clear hk); (try clear hi)) | ((with_reducible refine gate_callee (f := 43) rfl ?_); refine goesL_ (some 14) rfl rfl Tryz.func43 kr_ rfl #[.int .i64 a2, .int .i64 0, .int .i64 11] rfl ta_ ?_; (with_reducible refine (spec_l01In.calls a2 0 11 true _ A6.out).mono ?_); rintro e w' ⟨rfl, ⟨nd, rfl⟩⟩; refine ⟨_, rfl, ?_⟩) | ((with_reducible refine gate_callee (f := 110) rfl ?_); refine goesL_ (some 19) rfl rfl Tryz.func110 kr_ rfl #[.int .i64 a0, .slice A1 l1.length c1, .int .i64 a2] rfl ta_ ?_; (with_reducible refine (spec_l07Form.calls k a0 _ _ l1 a2 t537 _ ?side1 ?side2 A8.out).mono ?_); (case side1 => repeat (first | exact (Kd.C_below HR1.out (bl0_)) | (with_reducible refine Kd.C_alloc ?_ _) | (with_reducible refine Kd.C_drewN ?_ _) | (with_reducible refine Kd.C_drew ?_))); (case side2 => exact HC1.out); rintro e w12 ⟨v538, rfl, ho0, hb⟩; refine ⟨_, rfl, ?_⟩; have HO539 := a0_ (Kd.R_lower ho0 (below_size (bl0_))); replace HB := a0_ (below_step (bl0_) hb); (try clear hb); (try clear hb2); (try clear hk); (try clear hi); (try clear ho0); obtain ⟨Ao13, co13, eo13⟩ := Kd.R_slice HO539.out; subst eo13) | ((with_reducible refine gate_callee (f := 111) rfl ?_); refine goesL_ (some 21) rfl rfl Tryz.func111 kr_ rfl #[.slice Ao13 t537.length co13] rfl ta_ ?_; (with_reducible refine (spec_IsShape.calls k _ _ t537 true _ ?side1 ?side2 A9.out).mono ?_); (case side1 => exact ca_ (Kd.R_reads' HO539.out).2.2); (case side2 => exact (Kd.R_reads' HO539.out).2.1); rintro e w14 ⟨rfl, hb⟩; refine ⟨_, rfl, ?_⟩; replace HO539 := a0_ (Kd.R_below (ra_ HO539.out) hb); replace HB := a0_ (below_step (bl0_) hb); (try clear hb); (try clear hb2); (try clear hk); (try clear hi)))
    go_ret2
    exact ⟨_, er_, ra_ HO539.out, bl0_⟩
   ·replace c10 := Bool.eq_false_iff.mpr c10
    subst c10
    rw [if_neg (show ¬ (false = true) by decide)] at H
    simp only [Option.some.injEq, Prod.mk.injEq] at H
    obtain ⟨rfl, rfl⟩ := H
    go_enter Tryz.func76, Tryz.ntmps76
    go_wp2_with (first | ((with_reducible refine gate_callee (f := 109) rfl ?_); refine goesL_ (some 11) rfl rfl Tryz.func109 kr_ rfl #[.int .i64 a0, .slice A1 l1.length c1] rfl ta_ ?_; (with_reducible refine (spec_l07Shape.calls k a0 _ _ l1 true _ ?side1 ?side2 A4.out).mono ?_); (case side1 => exact ca_ HR1.out); (case side2 => exact HC1.out); rintro e w15 ⟨rfl, hb⟩; refine ⟨_, rfl, ?_⟩; replace HB := a0_ (below_step (bl0_) hb); (try clear hb); (try clear hb2); (try clear hk); (try clear hi)) | ((with_reducible refine gate_callee (f := 43) rfl ?_); refine goesL_ (some 14) rfl rfl Tryz.func43 kr_ rfl #[.int .i64 a2, .int .i64 0, .int .i64 11] rfl ta_ ?_; (with_reducible refine (spec_l01In.calls a2 0 11 true _ A6.out).mono ?_); rintro e w' ⟨rfl, ⟨nd, rfl⟩⟩; refine ⟨_, rfl, ?_⟩) | ((with_reducible refine gate_callee (f := 110) rfl ?_); refine goesL_ (some 19) rfl rfl Tryz.func110 kr_ rfl #[.int .i64 a0, .slice A1 l1.length c1, .int .i64 a2] rfl ta_ ?_; (with_reducible refine (spec_l07Form.calls k a0 _ _ l1 a2 t537 _ ?side1 ?side2 A8.out).mono ?_); (case side1 => repeat (first | exact (Kd.C_below HR1.out (bl0_)) | (with_reducible refine Kd.C_alloc ?_ _) | (with_reducible refine Kd.C_drewN ?_ _) | (with_reducible refine Kd.C_drew ?_))); (case side2 => exact HC1.out); rintro e w16 ⟨v538, rfl, ho0, hb⟩; refine ⟨_, rfl, ?_⟩; have HO539 := a0_ (Kd.R_lower ho0 (below_size (bl0_))); replace HB := a0_ (below_step (bl0_) hb); (try clear hb); (try clear hb2); (try clear hk); (try clear hi); (try clear ho0); obtain ⟨Ao17, co17, eo17⟩ := Kd.R_slice HO539.out; subst eo17) | ((with_reducible refine gate_callee (f := 111) rfl ?_); refine goesL_ (some 21) rfl rfl Tryz.func111 kr_ rfl #[.slice Ao17 t537.length co17] rfl ta_ ?_; (with_reducible refine (spec_IsShape.calls k _ _ t537 false _ ?side1 ?side2 A9.out).mono ?_); (case side1 => exact ca_ (Kd.R_reads' HO539.out).2.2); (case side2 => exact (Kd.R_reads' HO539.out).2.1); rintro e w18 ⟨rfl, hb⟩; refine ⟨_, rfl, ?_⟩; replace HO539 := a0_ (Kd.R_below (ra_ HO539.out) hb); replace HB := a0_ (below_step (bl0_) hb); (try clear hb); (try clear hb2); (try clear hk); (try clear hi)))
    go_ret2
    exact ⟨_, er_, by first | exact Kd.R_nil _ _ _ _ _ | exact Kd.N_nil _ _ _ _ _ | exact Kd.V_nil _ _ _ _ _ | exact Kd.Q_nil _ _ _ _ _ | exact Kd.S_nil _ _ _ _ _, bl0_⟩
  ·replace c7 := Bool.eq_false_iff.mpr c7
   subst c7
   rw [if_neg (show ¬ (false = true) by decide)] at H
   simp only [Option.some.injEq, Prod.mk.injEq] at H
   obtain ⟨rfl, rfl⟩ := H
   go_enter Tryz.func76, Tryz.ntmps76
   go_wp2_with (first | ((with_reducible refine gate_callee (f := 109) rfl ?_); refine goesL_ (some 11) rfl rfl Tryz.func109 kr_ rfl #[.int .i64 a0, .slice A1 l1.length c1] rfl ta_ ?_; (with_reducible refine (spec_l07Shape.calls k a0 _ _ l1 true _ ?side1 ?side2 A4.out).mono ?_); (case side1 => exact ca_ HR1.out); (case side2 => exact HC1.out); rintro e w19 ⟨rfl, hb⟩; refine ⟨_, rfl, ?_⟩; replace HB := a0_ (below_step (bl0_) hb); (try clear hb); (try clear hb2); (try clear hk); (try clear hi)) | ((with_reducible refine gate_callee (f := 43) rfl ?_); refine goesL_ (some 14) rfl rfl Tryz.func43 kr_ rfl #[.int .i64 a2, .int .i64 0, .int .i64 11] rfl ta_ ?_; (with_reducible refine (spec_l01In.calls a2 0 11 false _ A6.out).mono ?_); rintro e w' ⟨rfl, ⟨nd, rfl⟩⟩; refine ⟨_, rfl, ?_⟩))
   go_ret2
   exact ⟨_, er_, by first | exact Kd.R_nil _ _ _ _ _ | exact Kd.N_nil _ _ _ _ _ | exact Kd.V_nil _ _ _ _ _ | exact Kd.Q_nil _ _ _ _ _ | exact Kd.S_nil _ _ _ _ _, bl0_⟩
 ·replace c5 := Bool.eq_false_iff.mpr c5
  subst c5
  rw [if_neg (show ¬ (false = true) by decide)] at H
  simp only [Option.some.injEq, Prod.mk.injEq] at H
  obtain ⟨rfl, rfl⟩ := H
  go_enter Tryz.func76, Tryz.ntmps76
  go_wp2_with (first | ((with_reducible refine gate_callee (f := 109) rfl ?_); refine goesL_ (some 11) rfl rfl Tryz.func109 kr_ rfl #[.int .i64 a0, .slice A1 l1.length c1] rfl ta_ ?_; (with_reducible refine (spec_l07Shape.calls k a0 _ _ l1 false _ ?side1 ?side2 A4.out).mono ?_); (case side1 => exact ca_ HR1.out); (case side2 => exact HC1.out); rintro e w20 ⟨rfl, hb⟩; refine ⟨_, rfl, ?_⟩; replace HB := a0_ (below_step (bl0_) hb); (try clear hb); (try clear hb2); (try clear hk); (try clear hi)))
  go_ret2
  exact ⟨_, er_, by first | exact Kd.R_nil _ _ _ _ _ | exact Kd.N_nil _ _ _ _ _ | exact Kd.V_nil _ _ _ _ _ | exact Kd.Q_nil _ _ _ _ _ | exact Kd.S_nil _ _ _ _ _, bl0_⟩

/-! ### spec_HexForm: function 34 -/
def spec_HexForm.f (k : Nat) (l0 : List (S46)) (a1 : Int) : Option ((List (S46)) × Int) := (spec_l07FormCode.f k 1 l0 a1).bind fun bt541 => (some (bt541.1, bt541.2))
theorem spec_HexForm.mono : ∀ a0 a1 k, LeO (spec_HexForm.f k a0 a1) (spec_HexForm.f (k + 1) a0 a1) := by
 intro a0 a1 k
 unfold spec_HexForm.f
 with_reducible (repeat' first | exact spec_l07FormCode.mono _ _ _ _ | exact LeO.refl _ | exact LeO.none _ | refine LeO.ite ?_ ?_ | refine LeO.bind ?_ (fun _ => ?_))
set_option maxHeartbeats 8000000 in
set_option maxRecDepth 100000 in
theorem spec_HexForm.calls (k : Nat) (A0 : Option Addr) (c0 : Nat) (l0 : List (S46)) (a1 : Int) (r1 : List (S46)) (r2 : Int) (w : World) (hr0 : Kd.C k46 w A0 l0.length l0) (hc0 : l0.length ≤ c0) (h : spec_HexForm.f k l0 a1 = some (r1, r2)) :
  Calls Tryz.prog 34 #[.slice A0 l0.length c0, .int .i64 a1] w fun e w' => ∃ v0_ : Value, e = .returned (.tuple #[v0_, .int .i64 r2]) ∧ Kd.R k46 46 w' w.heap.size (fun _ => True) v0_ r1 ∧ Below w.heap.size w w' := by
 have HR0 := Aside0.mk hr0
 have HC0 := Aside0.mk hc0
 clear hr0 hc0
 have HB := a0_ (Below.refl w.heap.size w)
 have H := h
 clear h
 unfold spec_HexForm.f at H
 obtain ⟨⟨t541, t542⟩, A3, H⟩ := bs_ H
 dsimp only at H
 simp only [Option.some.injEq, Prod.mk.injEq] at H
 obtain ⟨rfl, rfl⟩ := H
 go_enter Tryz.func34, Tryz.ntmps34
 go_wp2_with (first | ((with_reducible refine gate_callee (f := 76) rfl ?_); refine goesL_ (some 8) rfl rfl Tryz.func76 kr_ rfl #[.int .i64 1, .slice A0 l0.length c0, .int .i64 a1] rfl ta_ ?_; (with_reducible refine (spec_l07FormCode.calls k 1 _ _ l0 a1 t541 t542 _ ?side1 ?side2 A3.out).mono ?_); (case side1 => exact ca_ HR0.out); (case side2 => exact HC0.out); rintro e w4 ⟨v543, rfl, ho0, hb⟩; refine ⟨_, rfl, ?_⟩; have HO544 := a0_ (Kd.R_lower ho0 (below_size (bl0_))); replace HB := a0_ (below_step (bl0_) hb); (try clear hb); (try clear hb2); (try clear hk); (try clear hi); (try clear ho0)))
 go_ret2
 exact ⟨_, er_, ra_ HO544.out, bl0_⟩

/-! ### impl_HexFree: function 35 -/
/-! The least hex form of a shape. -/
def impl_HexFree.f (k : Nat) (s : List S46) : Option (List S46 × Int) := if impl_IsShape.f k s = some true then (formsG k (impl_hexForm.f k) s 12).bind fun L => some (leastL L, 0) else none
theorem impl_HexFree.mono (s : List S46) (k : Nat) : LeO (impl_HexFree.f k s) (impl_HexFree.f (k + 1) s) := by
 unfold impl_HexFree.f
 intro r h
 split at h
 case isFalse => cases h
 rename_i hc
 rw [if_pos (impl_IsShape.mono s k _ hc)]
 exact LeO.bind (formsG_mono k s 12) (fun L => LeO.refl _) r h
set_option maxHeartbeats 1000000 in
theorem impl_HexFree.calls (k : Nat) (A0 : Option Addr) (c0 : Nat) (l0 : List S46) (r1 : List S46) (r2 : Int) (w : World) (hr0 : Kd.C k46 w A0 l0.length l0) (hc0 : l0.length ≤ c0) (h : impl_HexFree.f k l0 = some (r1, r2)) :
  Calls Tryz.prog 35 #[.slice A0 l0.length c0] w fun e w' => ∃ v0_ : Value, e = .returned (.tuple #[v0_, .int .i64 r2]) ∧ Kd.R k46 46 w' w.heap.size (fun _ => True) v0_ r1 ∧ Below w.heap.size w w' := by
 unfold impl_HexFree.f at h
 split at h
 case isFalse => cases h
 rename_i hc
 obtain ⟨L, hL, h2⟩ := Option.bind_eq_some_iff.mp h
 have h4 := Option.some.inj h2
 injection h4 with h5 h6
 subst h5 h6
 have HS := a0_ (impl_IsShape.calls k A0 c0 l0 true w hr0 hc0 hc)
 have hlf := fun W (hb : Below w.heap.size w W) => leastForm_calls k 68 _ (formH k) A0 c0 l0 L W (Kd.C_below hr0 hb) hc0 hL
 clear h h2 hL hc hr0 hc0
 go_enter Tryz.func35, Tryz.ntmps35
 go_wp2_with (first | (go_at_call 65; refine HS.out.mono ?_; rintro e w1 ⟨rfl, hb⟩; have HB := Aside0.mk hb; clear hb) | (go_at_call 47; (refine (hlf _ HB.out).mono ?_; rintro e w2 ⟨v2, rfl, hR, hb⟩; have HR2 := a0_ (Kd.R_lower hR HB.out.size); have HB2 := a0_ (below_step HB.out hb); clear hR hb hlf)))
 go_ret2
 exact ⟨_, rfl, HR2.out, HB2.out⟩


/-! ### slices_Max_int64_int64: function 91 -/
def slices_Max_int64_int64.l0 : Nat → List Int → Int → Int → Option (Int)
 | 0, _, _, _ => none
 | k + 1, x0, x3, x4 => if x4 < (x0.length : Int) then (if 0 ≤ x4 then (slices_Max_int64_int64.l0 k x0 (mx x3 (rd x0 x4)) (wrap64 (x4 + 1))) else (none)) else (some x3)
def slices_Max_int64_int64.f (k : Nat) (l0 : List Int) : Option (Int) := if (l0.length : Int) < 1 then (none) else (if 0 < (l0.length : Int) then (slices_Max_int64_int64.l0 k l0 (rd l0 0) 1) else (none))
theorem slices_Max_int64_int64.mono_l : ∀ k, (∀ y0 y1 y2, LeO (slices_Max_int64_int64.l0 k y0 y1 y2) (slices_Max_int64_int64.l0 (k + 1) y0 y1 y2))
 | 0 => fun _ _ _ r h => by simp [slices_Max_int64_int64.l0] at h
 | k + 1 => by
  have ih0 := slices_Max_int64_int64.mono_l k
  ·intro y0 y1 y2
   unfold slices_Max_int64_int64.l0
   with_reducible (repeat' first | exact ih0 _ _ _ | exact LeO.refl _ | exact LeO.none _ | refine LeO.ite ?_ ?_ | refine LeO.bind ?_ (fun _ => ?_))
theorem slices_Max_int64_int64.mono : ∀ a0 k, LeO (slices_Max_int64_int64.f k a0) (slices_Max_int64_int64.f (k + 1) a0) := by
 intro a0 k
 have ih0 := slices_Max_int64_int64.mono_l k
 unfold slices_Max_int64_int64.f
 with_reducible (repeat' first | exact ih0 _ _ _ | exact LeO.refl _ | exact LeO.none _ | refine LeO.ite ?_ ?_ | refine LeO.bind ?_ (fun _ => ?_))
set_option maxHeartbeats 8000000 in
set_option maxRecDepth 100000 in
theorem slices_Max_int64_int64.calls (k : Nat) (A0 : Option Addr) (c0 : Nat) (l0 : List Int) (r : Int) (w : World) (hr0 : Kd.C (Kd.int .i64) w A0 l0.length l0) (hc0 : l0.length ≤ c0) (h : slices_Max_int64_int64.f k l0 = some r) :
  Calls Tryz.prog 91 #[.slice A0 l0.length c0] w fun e w' => e = .returned (.int .i64 r) ∧ Below w.heap.size w w' := by
 have HR0 := Aside0.mk hr0
 have HC0 := Aside0.mk hc0
 clear hr0 hc0
 have HB := a0_ (Below.refl w.heap.size w)
 have H := h
 clear h
 unfold slices_Max_int64_int64.f at H
 by_cases c2 : (l0.length : Int) < 1
 ·rw [if_pos c2] at H
  exact absurd H (by simp)
 ·rw [if_neg c2] at H
  have c2b0 : decide ((l0.length : Int) < 1) = false := decide_eq_false c2
  have c2b1 : decide (l0.length < 1) = false := decide_eq_false (by omega)
  clear c2
  by_cases c3 : 0 < (l0.length : Int)
  ·rw [if_pos c3] at H
   have c3b0 : decide (0 < (l0.length : Int)) = true := decide_eq_true c3
   have c3b1 : decide (0 < l0.length) = true := decide_eq_true (by omega)
   clear c3
   have H' := Aside0.mk H
   clear H
   have p545 : 0 ≤ (0 : Int) := (by omega)
   have q545 : 0 < (l0.length : Int) := od_
   obtain ⟨ad545, e545, hx545_0⟩ := Kd.at_int HR0.out 0 p545 q545
   cases e545
   have qi545 : (0 < l0.length) = True := eq_true (by omega)
   (try rw [show ((0 : Int)).toNat = 0 from rfl] at hx545_0)
   (try rw [Addr.add_zero'] at hx545_0)
   replace p545 := eq_true p545
   replace q545 := eq_true q545
   go_enter Tryz.func91, Tryz.ntmps91
   go_wp2
   go_loopg [3, 4] k (fun kq v3 v4 w' => ∃ (x3_1 : Int) (x4_1 : Int), v3 = .int .i64 x3_1 ∧ v4 = .int .i64 x4_1 ∧ Aside0 (slices_Max_int64_int64.l0 kq l0 x3_1 x4_1 = some r) ∧ Aside0 (kq ≤ k) ∧ Aside0 (Below w.heap.size w w'))
   case atStart => exact ⟨(rd l0 0), (1), rs_, rs_, H', ⟨Nat.le_refl _⟩, ⟨bl0_⟩⟩
   case round =>
    clear H'
    try clear c2
    try clear c2b0
    try clear c2b1
    try clear p2
    try clear c3
    try clear c3b0
    try clear c3b1
    try clear hx545_0
    try clear p545
    try clear q545
    obtain ⟨x3_1, x4_1, rfl, rfl, HA, HK1, HB⟩ := hrel
    cases gk with
    | zero => exact absurd HA.out (by simp [slices_Max_int64_int64.l0])
    | succ k1 =>
     have H := HA.out
     clear HA
     simp only [slices_Max_int64_int64.l0] at H
     by_cases c4 : x4_1 < (l0.length : Int)
     ·rw [if_pos c4] at H
      have c4b0 : decide (x4_1 < (l0.length : Int)) = true := decide_eq_true c4
      clear c4
      by_cases c5 : 0 ≤ x4_1
      ·rw [if_pos c5] at H
       have c5b0 : decide (0 ≤ x4_1) = true := decide_eq_true c5
       clear c5
       obtain ⟨ji6, hji6⟩ : ∃ j_ : Int, (mx x3_1 (rd l0 x4_1)) = j_ := ⟨_, rfl⟩
       replace H : (slices_Max_int64_int64.l0 k1 l0 ji6 (wrap64 (x4_1 + 1))) = some r := by first | (rw [hji6] at H; exact H) | (simp only [hji6] at H ⊢; exact H)
       have hji6_ : (if x3_1 < (rd l0 x4_1) then (rd l0 x4_1) else x3_1) = ji6 := hji6
       have H' := Aside0.mk H
       clear H
       have p546 : 0 ≤ (x4_1 : Int) := od_
       have q546 : x4_1 < (l0.length : Int) := od_
       obtain ⟨ad546, e546, hx546_0⟩ := Kd.at_int HR0.out x4_1 p546 q546
       obtain rfl : ad545 = ad546 := (by injection e546)
       replace hx546_0 := (HB.out.cell (World.block_lt_of_cell? w _ hx546_0)).trans hx546_0
       replace p546 := eq_true p546
       replace q546 := eq_true q546
       go_wp2
       go_roundg k1
       case measure => have := HK1.out; omega
       case rel => exact ⟨(ji6), (wrap64 (x4_1 + 1)), (by first | rfl | (simp; done) | (simp only [← hji6] <;> (first | rfl | simp)) | (simp [*]; done)), rs_, H', ⟨by have := HK1.out; omega⟩, ⟨bl0_⟩⟩
      ·rw [if_neg c5] at H
       exact absurd H (by simp)
     ·rw [if_neg c4] at H
      have c4b0 : decide (x4_1 < (l0.length : Int)) = false := decide_eq_false c4
      clear c4
      obtain rfl := Option.some.inj H
      go_wp2
      go_ret
      exact ⟨er_, bl0_⟩
  ·rw [if_neg c3] at H
   exact absurd H (by simp)

end Go.Proofs.YtmdjkmfocgelnaaGreat.PFnHexShapes
