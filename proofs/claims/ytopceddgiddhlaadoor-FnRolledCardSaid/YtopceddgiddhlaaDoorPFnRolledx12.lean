/- Over the kit's printer by a driver of mine (hprint.py), with parts by hand: functions of the program as Lean functions, and that each call comes to exactly these answers. -/
import Derived.Test.YtopceddgiddhlaaDoorPFnRolledx0
import Derived.Test.YtopceddgiddhlaaDoorPFnRolledx3
import Derived.Test.YtopceddgiddhlaaDoorPFnRolledx6
import Derived.Test.YtopceddgiddhlaaDoorPFnRolledx10
import Derived.Test.YtopceddgiddhlaaDoorPFnRolledx11
namespace Go.Proofs.YtopceddgiddhlaaDoor.PFnRolled
open Go.RowKit Go.Proofs.YtopceddgiddhlaaDoorW.PrintWords Go.Proofs.YtopceddgiddhlaaDoorW.PrintLast Go.Proofs.YtopceddgiddhlaaDoorW.PrintMore
attribute [local go_sem] max2_int min2_int max_two min_two max_three min_three max_four min_four   -- for this text's walks alone
set_option linter.unusedVariables false
set_option linter.unusedSimpArgs false

/-! ### spec_l23Draw: function 53 -/
mutual
def spec_l23Draw.j0 : Nat → List Int → Int → Int → Option (ByteArray × Int × Int)
 | 0, _, _, _ => none
 | k + 1, x1000, x1001, x1002 => (spec_l01Next.f x1000 x1001 x1002 12).bind fun bt315 => (spec_l23Draw.l0 k (⟨#[]⟩ : ByteArray) bt315.1 x1000 bt315.2.1 bt315.2.2)
def spec_l23Draw.l0 : Nat → ByteArray → Int → List Int → Int → Int → Option (ByteArray × Int × Int)
 | 0, _, _, _, _, _ => none
 | k + 1, x4, x5, x1000, x1001, x1002 => if x5 > 0 then ((some (([(⟨#[114]⟩ : ByteArray), (⟨#[100]⟩ : ByteArray), (⟨#[108]⟩ : ByteArray), (⟨#[117]⟩ : ByteArray)] : List ByteArray) : List ByteArray)).bind fun y318 => ((spec_l01Next.f x1000 x1001 x1002 4).bind fun bt321 => (if 0 ≤ bt321.1 then (if bt321.1 < (y318.length : Int) then (if x4.size + (rdOf ByteArray.empty y318 bt321.1).size ≤ 9223372036854775807 then (spec_l23Draw.l0 k (x4 ++ (rdOf ByteArray.empty y318 bt321.1)) (wrap64 (x5 - 1)) x1000 bt321.2.1 bt321.2.2) else (none)) else (none)) else (none)))) else ((spec_l01Next.f x1000 x1001 x1002 12).bind fun bt325 => (if bt325.1 = 0 then (if x4.size + 1 ≤ 9223372036854775807 then (some (x4 ++ (⟨#[120]⟩ : ByteArray), bt325.2.1, bt325.2.2)) else (none)) else (if bt325.1 = 1 then (spec_l23Draw.l1 k x4 x1000 bt325.2.1 bt325.2.2) else (some (x4, bt325.2.1, bt325.2.2)))))
def spec_l23Draw.l1 : Nat → ByteArray → List Int → Int → Int → Option (ByteArray × Int × Int)
 | 0, _, _, _, _ => none
 | k + 1, x4, x1000, x1001, x1002 => (spec_l01Next.f x1000 x1001 x1002 2).bind fun bt328 => (if (x4.size : Int) < (wrap64 (200 + bt328.1)) then (if x4.size + 1 ≤ 9223372036854775807 then (spec_l23Draw.l1 k (x4 ++ (⟨#[114]⟩ : ByteArray)) x1000 bt328.2.1 bt328.2.2) else (none)) else (some (x4, bt328.2.1, bt328.2.2)))
end
def spec_l23Draw.f (k : Nat) (s0_0 : List Int) (s0_1 : Int) (s0_2 : Int) : Option (ByteArray × Int × Int) := (spec_l01Next.f s0_0 s0_1 s0_2 3).bind fun bt305 => (if bt305.1 > 0 then ((spec_l02DrawPoly.f k s0_0 bt305.2.1 bt305.2.2 8).bind fun bt308 => ((spec_IsPlain.f k bt308.1).bind fun t313 => (if t313 = true then ((spec_l23Word.f k bt308.1).bind fun t314 => (some (t314, bt308.2.1, bt308.2.2))) else (spec_l23Draw.j0 k s0_0 bt308.2.1 bt308.2.2)))) else (spec_l23Draw.j0 k s0_0 bt305.2.1 bt305.2.2))
theorem spec_l23Draw.mono_l : ∀ k, (∀ y0 y1 y2, LeO (spec_l23Draw.j0 k y0 y1 y2) (spec_l23Draw.j0 (k + 1) y0 y1 y2)) ∧ (∀ y0 y1 y2 y3 y4, LeO (spec_l23Draw.l0 k y0 y1 y2 y3 y4) (spec_l23Draw.l0 (k + 1) y0 y1 y2 y3 y4)) ∧ (∀ y0 y1 y2 y3, LeO (spec_l23Draw.l1 k y0 y1 y2 y3) (spec_l23Draw.l1 (k + 1) y0 y1 y2 y3))
 | 0 => ⟨fun _ _ _ r h => by simp [spec_l23Draw.j0] at h, fun _ _ _ _ _ r h => by simp [spec_l23Draw.l0] at h, fun _ _ _ _ r h => by simp [spec_l23Draw.l1] at h⟩
 | k + 1 => by
  obtain ⟨ih0, ih1, ih2⟩ := spec_l23Draw.mono_l k
  refine ⟨?_, ?_, ?_⟩
  ·intro y0 y1 y2
   unfold spec_l23Draw.j0
   with_reducible (repeat' first | exact ih0 _ _ _ | exact ih1 _ _ _ _ _ | exact ih2 _ _ _ _ | exact spec_IsPlain.mono _ _ | exact spec_l02DrawPoly.mono _ _ _ _ _ | exact spec_l23Word.mono _ _ | exact LeO.refl _ | exact LeO.none _ | refine LeO.ite ?_ ?_ | refine LeO.bind ?_ (fun _ => ?_))
  ·intro y0 y1 y2 y3 y4
   unfold spec_l23Draw.l0
   with_reducible (repeat' first | exact ih0 _ _ _ | exact ih1 _ _ _ _ _ | exact ih2 _ _ _ _ | exact spec_IsPlain.mono _ _ | exact spec_l02DrawPoly.mono _ _ _ _ _ | exact spec_l23Word.mono _ _ | exact LeO.refl _ | exact LeO.none _ | refine LeO.ite ?_ ?_ | refine LeO.bind ?_ (fun _ => ?_))
  ·intro y0 y1 y2 y3
   unfold spec_l23Draw.l1
   with_reducible (repeat' first | exact ih0 _ _ _ | exact ih1 _ _ _ _ _ | exact ih2 _ _ _ _ | exact spec_IsPlain.mono _ _ | exact spec_l02DrawPoly.mono _ _ _ _ _ | exact spec_l23Word.mono _ _ | exact LeO.refl _ | exact LeO.none _ | refine LeO.ite ?_ ?_ | refine LeO.bind ?_ (fun _ => ?_))
theorem spec_l23Draw.mono : ∀ a0 a1 a2 k, LeO (spec_l23Draw.f k a0 a1 a2) (spec_l23Draw.f (k + 1) a0 a1 a2) := by
 intro a0 a1 a2 k
 obtain ⟨ih0, ih1, ih2⟩ := spec_l23Draw.mono_l k
 unfold spec_l23Draw.f
 with_reducible (repeat' first | exact ih0 _ _ _ | exact ih1 _ _ _ _ _ | exact ih2 _ _ _ _ | exact spec_IsPlain.mono _ _ | exact spec_l02DrawPoly.mono _ _ _ _ _ | exact spec_l23Word.mono _ _ | exact LeO.refl _ | exact LeO.none _ | refine LeO.ite ?_ ?_ | refine LeO.bind ?_ (fun _ => ?_))
set_option maxHeartbeats 8000000 in
set_option maxRecDepth 100000 in
theorem spec_l23Draw.calls (k : Nat) (g : Nat) (s0_0 : List Int) (s0_1 : Int) (s0_2 : Int) (r1 : ByteArray) (r2 : Int) (r3 : Int) (w0 w : World) (hI : IsS81 w0 w g s0_0 s0_1 s0_2) (hB : Below w0.heap.size w0 w) (h : spec_l23Draw.f k s0_0 s0_1 s0_2 = some (r1, r2, r3)) :
  Calls Tryd.prog 53 #[.pointer (some ⟨g, 0, none⟩)] w fun e w' => e = .returned (.string r1) ∧ IsS81 w0 w' g s0_0 r2 r3 ∧ Below w0.heap.size w0 w' ∧ KeepBut w w' g none := by
 have HI0 := Aside0.mk hI
 have HK := a0_ (KeepBut.refl w g none)
 have HL := Aside0.mk hB.size
 clear hI
 have HW0 := Aside0.mk hB.size
 have HB := Aside0.mk hB
 clear hB
 have H := h
 clear h
 unfold spec_l23Draw.f at H
 obtain ⟨⟨t305, t306, t307⟩, A2, H⟩ := bs_ H
 dsimp only at H
 have HC3 := Aside0.mk H
 clear H
 go_enter Tryd.func53, Tryd.ntmps53
 go_upto_if 8 with (first | ((with_reducible refine gate_callee (f := 58) rfl ?_); refine goesL_ (some 7) rfl rfl Tryd.func58 kr_ rfl #[.pointer (some ⟨g, 0, none⟩), .int .i64 3] rfl ta_ ?_; (with_reducible refine (spec_l01Next.calls g s0_0 s0_1 s0_2 3 t305 t306 t307 w0 _ ?side1 ?side2 A2.out).mono ?_); (case side1 => exact is81_ HI0.out); (case side2 => exact bl1_ (IsS81.ge HI0.out)); rintro e w4 ⟨rfl, hi, hb, hk⟩; refine ⟨_, rfl, ?_⟩; replace HK := a0_ (KeepBut.trans (kb0_) hk (.inl rfl)); replace HB := a0_ (hb); replace HI0 := a0_ (hi); (try clear hb); (try clear hb2); (try clear hk); (try clear hi)))
 (try simp only [Act.put, List.setIfInBounds_toArray, List.set_cons_zero, List.set_cons_succ])
 go_cut [] (fun wc => ∃ (kq : Nat) (x1001_2 : Int) (x1002_2 : Int), Aside0 (spec_l23Draw.j0 kq s0_0 x1001_2 x1002_2 = some (r1, r2, r3)) ∧ Aside0 (kq ≤ k) ∧ Aside0 (IsS81 w0 wc g s0_0 x1001_2 x1002_2) ∧ Aside0 (KeepBut w wc g none) ∧ Aside0 (Below w0.heap.size w0 wc))
 case first =>
  have H := HC3.out
  clear HC3
  by_cases c5 : t305 > 0
  ·rw [if_pos c5] at H
   have c5b0 : decide (0 < t305) = true := decide_eq_true c5
   clear c5
   (first | rw [c5b0] | (simp only [i64_w, i32_w]; rw [c5b0]) | skip)
   obtain ⟨⟨t308, t311, t312⟩, A6, H⟩ := bs_ H
   dsimp only at H
   obtain ⟨t313, A7, H⟩ := bs_ H
   by_cases c8 : t313 = true
   ·subst c8
    rw [if_pos rfl] at H
    obtain ⟨t314, A9, H⟩ := bs_ H
    simp only [Option.some.injEq, Prod.mk.injEq] at H
    obtain ⟨rfl, rfl, rfl⟩ := H
    go_wp2_with (first | ((with_reducible refine gate_callee (f := 62) rfl ?_); refine goesL_ (some 10) rfl rfl Tryd.func62 kr_ rfl #[.pointer (some ⟨g, 0, none⟩), .int .i64 8] rfl ta_ ?_; (with_reducible refine (spec_l02DrawPoly.calls k g s0_0 t306 t307 8 t308 t311 t312 w0 _ ?side1 ?side2 A6.out).mono ?_); (case side1 => exact is81_ HI0.out); (case side2 => exact bl1_ (IsS81.ge HI0.out)); rintro e w10 ⟨v309, rfl, ho0, hi, hb, hk⟩; refine ⟨_, rfl, ?_⟩; have HO310 := a0_ (Kd.R_lower ho0 (keep_size (w := w) (g := g) (row := none) (kb0_))); replace HK := a0_ (KeepBut.trans (kb0_) hk (.inl rfl)); replace HB := a0_ (hb); replace HI0 := a0_ (hi); (try clear hb); (try clear hb2); (try clear hk); (try clear hi); (try clear ho0); obtain ⟨Ao11, co11, eo11⟩ := Kd.R_slice HO310.out; subst eo11) | ((with_reducible refine gate_callee (f := 93) rfl ?_); refine goesL_ (some 12) rfl rfl Tryd.func93 kr_ rfl #[.slice Ao11 t308.length co11] rfl ta_ ?_; (with_reducible refine (spec_IsPlain.calls k _ _ t308 true _ ?side1 ?side2 A7.out).mono ?_); (case side1 => exact ca_ (Kd.R_reads' HO310.out).2.2); (case side2 => exact (Kd.R_reads' HO310.out).2.1); rintro e w12 ⟨rfl, hb⟩; refine ⟨_, rfl, ?_⟩; replace HO310 := a0_ (Kd.R_below (ra_ HO310.out) hb); replace HK := a0_ (KeepBut.trans (kb0_) (KeepBut.of_below hb g none) (.inl rfl)); replace HB := a0_ (below_step (bl1_ (IsS81.ge HI0.out)) hb); replace HI0 := a0_ (IsS81.below (is81_ HI0.out) hb); (try clear hb); (try clear hb2); (try clear hk); (try clear hi)) | ((with_reducible refine gate_callee (f := 94) rfl ?_); refine goesL_ (some 14) rfl rfl Tryd.func94 kr_ rfl #[.slice Ao11 t308.length co11] rfl ta_ ?_; (with_reducible refine (spec_l23Word.calls k _ _ t308 t314 _ ?side1 ?side2 A9.out).mono ?_); (case side1 => exact ca_ (Kd.R_reads' HO310.out).2.2); (case side2 => exact (Kd.R_reads' HO310.out).2.1); rintro e w13 ⟨rfl, hb⟩; refine ⟨_, rfl, ?_⟩; replace HO310 := a0_ (Kd.R_below (ra_ HO310.out) hb); replace HK := a0_ (KeepBut.trans (kb0_) (KeepBut.of_below hb g none) (.inl rfl)); replace HB := a0_ (below_step (bl1_ (IsS81.ge HI0.out)) hb); replace HI0 := a0_ (IsS81.below (is81_ HI0.out) hb); (try clear hb); (try clear hb2); (try clear hk); (try clear hi)))
    go_ret
    exact ⟨er_, is81_ HI0.out, bl1_ (IsS81.ge HI0.out), kb0_⟩
   ·replace c8 := Bool.eq_false_iff.mpr c8
    subst c8
    rw [if_neg (show ¬ (false = true) by decide)] at H
    have H' := Aside0.mk H
    clear H
    go_wp2_with (first | ((with_reducible refine gate_callee (f := 62) rfl ?_); refine goesL_ (some 10) rfl rfl Tryd.func62 kr_ rfl #[.pointer (some ⟨g, 0, none⟩), .int .i64 8] rfl ta_ ?_; (with_reducible refine (spec_l02DrawPoly.calls k g s0_0 t306 t307 8 t308 t311 t312 w0 _ ?side1 ?side2 A6.out).mono ?_); (case side1 => exact is81_ HI0.out); (case side2 => exact bl1_ (IsS81.ge HI0.out)); rintro e w14 ⟨v309, rfl, ho0, hi, hb, hk⟩; refine ⟨_, rfl, ?_⟩; have HO310 := a0_ (Kd.R_lower ho0 (keep_size (w := w) (g := g) (row := none) (kb0_))); replace HK := a0_ (KeepBut.trans (kb0_) hk (.inl rfl)); replace HB := a0_ (hb); replace HI0 := a0_ (hi); (try clear hb); (try clear hb2); (try clear hk); (try clear hi); (try clear ho0); obtain ⟨Ao15, co15, eo15⟩ := Kd.R_slice HO310.out; subst eo15) | ((with_reducible refine gate_callee (f := 93) rfl ?_); refine goesL_ (some 12) rfl rfl Tryd.func93 kr_ rfl #[.slice Ao15 t308.length co15] rfl ta_ ?_; (with_reducible refine (spec_IsPlain.calls k _ _ t308 false _ ?side1 ?side2 A7.out).mono ?_); (case side1 => exact ca_ (Kd.R_reads' HO310.out).2.2); (case side2 => exact (Kd.R_reads' HO310.out).2.1); rintro e w16 ⟨rfl, hb⟩; refine ⟨_, rfl, ?_⟩; replace HO310 := a0_ (Kd.R_below (ra_ HO310.out) hb); replace HK := a0_ (KeepBut.trans (kb0_) (KeepBut.of_below hb g none) (.inl rfl)); replace HB := a0_ (below_step (bl1_ (IsS81.ge HI0.out)) hb); replace HI0 := a0_ (IsS81.below (is81_ HI0.out) hb); (try clear hb); (try clear hb2); (try clear hk); (try clear hi)))
    go_meet
    case rel => exact ⟨_, (t311), (t312), H', ⟨by first | omega | exact Nat.le_refl _⟩, ⟨is81_ HI0.out⟩, ⟨kb0_⟩, ⟨bl1_ (IsS81.ge HI0.out)⟩⟩
  ·rw [if_neg c5] at H
   have c5b0 : decide (0 < t305) = false := decide_eq_false c5
   clear c5
   (first | rw [c5b0] | (simp only [i64_w, i32_w]; rw [c5b0]) | skip)
   have H' := Aside0.mk H
   clear H
   go_wp2
   go_meet
   case rel => exact ⟨_, (t306), (t307), H', ⟨by first | omega | exact Nat.le_refl _⟩, ⟨is81_ HI0.out⟩, ⟨kb0_⟩, ⟨bl1_ (IsS81.ge HI0.out)⟩⟩
 case rest =>
  clear HC3
  try clear p2
  try clear c5
  try clear c5b0
  try clear c6
  try clear c8
  try clear c9
  obtain ⟨kq, x1001_2, x1002_2, HA, HJ2, HI0, HK, HB⟩ := hcut
  cases kq with
  | zero => exact absurd HA.out (by simp [spec_l23Draw.j0])
  | succ kj2 =>
   have H := HA.out
   clear HA
   simp only [spec_l23Draw.j0] at H
   obtain ⟨⟨t315, t316, t317⟩, A17, H⟩ := bs_ H
   dsimp only at H
   have H' := Aside0.mk H
   clear H
   go_wp2_with (first | ((with_reducible refine gate_callee (f := 58) rfl ?_); refine goesL_ (some 16) rfl rfl Tryd.func58 kr_ rfl #[.pointer (some ⟨g, 0, none⟩), .int .i64 12] rfl ta_ ?_; (with_reducible refine (spec_l01Next.calls g s0_0 x1001_2 x1002_2 12 t315 t316 t317 w0 _ ?side1 ?side2 A17.out).mono ?_); (case side1 => exact is81_ HI0.out); (case side2 => exact bl1_ (IsS81.ge HI0.out)); rintro e w18 ⟨rfl, hi, hb, hk⟩; refine ⟨_, rfl, ?_⟩; replace HK := a0_ (KeepBut.trans (kb0_) hk (.inl rfl)); replace HB := a0_ (hb); replace HI0 := a0_ (hi); (try clear hb); (try clear hb2); (try clear hk); (try clear hi)))
   go_loopg [4, 5] kj2 (fun kq v4 v5 w' => ∃ (x4_2 : ByteArray) (x5_2 : Int) (x1001_2 : Int) (x1002_2 : Int), v4 = .string x4_2 ∧ v5 = .int .i64 x5_2 ∧ Aside0 (spec_l23Draw.l0 kq x4_2 x5_2 s0_0 x1001_2 x1002_2 = some (r1, r2, r3)) ∧ Aside0 (kq ≤ kj2) ∧ Aside0 (IsS81 w0 w' g s0_0 x1001_2 x1002_2) ∧ Aside0 (KeepBut w w' g none) ∧ Aside0 (Below w0.heap.size w0 w'))
   case atStart => exact ⟨((⟨#[]⟩ : ByteArray)), (t315), (t316), (t317), rs_, rs_, H', ⟨Nat.le_refl _⟩, ⟨is81_ HI0.out⟩, ⟨kb0_⟩, ⟨bl1_ (IsS81.ge HI0.out)⟩⟩
   case round =>
    clear H'
    try clear p2
    try clear c5
    try clear c5b0
    try clear c6
    try clear c8
    try clear c9
    try clear p2
    obtain ⟨x4_2, x5_2, x1001_2, x1002_2, rfl, rfl, HA, HK2, HI0, HK, HB⟩ := hrel
    cases gk with
    | zero => exact absurd HA.out (by simp [spec_l23Draw.l0])
    | succ k2 =>
     have H := HA.out
     clear HA
     simp only [spec_l23Draw.l0] at H
     by_cases c19 : x5_2 > 0
     ·rw [if_pos c19] at H
      have c19b0 : decide (0 < x5_2) = true := decide_eq_true c19
      clear c19
      obtain ⟨y318, hy318⟩ : ∃ y_ : List ByteArray, y_ = (([(⟨#[114]⟩ : ByteArray), (⟨#[100]⟩ : ByteArray), (⟨#[108]⟩ : ByteArray), (⟨#[117]⟩ : ByteArray)] : List ByteArray)) := ⟨_, rfl⟩
      replace H : ((spec_l01Next.f s0_0 x1001_2 x1002_2 4).bind fun bt321 => (if 0 ≤ bt321.1 then (if bt321.1 < (y318.length : Int) then (if x4_2.size + (rdOf ByteArray.empty y318 bt321.1).size ≤ 9223372036854775807 then (spec_l23Draw.l0 k2 (x4_2 ++ (rdOf ByteArray.empty y318 bt321.1)) (wrap64 (x5_2 - 1)) s0_0 bt321.2.1 bt321.2.2) else (none)) else (none)) else (none))) = some (r1, r2, r3) := hh_ hy318 H
      have Ny318 := Aside0.mk hy318
      clear hy318
      obtain ⟨⟨t321, t322, t323⟩, A20, H⟩ := bs_ H
      dsimp only at H
      by_cases c21 : 0 ≤ t321
      ·rw [if_pos c21] at H
       have c21b0 : decide (0 ≤ t321) = true := decide_eq_true c21
       clear c21
       by_cases c22 : t321 < (y318.length : Int)
       ·rw [if_pos c22] at H
        have c22b0 : decide (t321 < (y318.length : Int)) = true := decide_eq_true c22
        clear c22
        by_cases c23 : x4_2.size + (rdOf ByteArray.empty y318 t321).size ≤ 9223372036854775807
        ·rw [if_pos c23] at H
         have c23b0 := eq_true c23
         have c23b1 : decide (x4_2.size + (rdOf ByteArray.empty y318 t321).size ≤ 9223372036854775807) = true := decide_eq_true c23
         try have c23b2 : (9223372036854775807 < x4_2.size + (rdOf ByteArray.empty y318 t321).size) = False := eq_false (Nat.not_lt.2 c23)
         have H' := Aside0.mk H
         clear H
         go_wp2_with (first | ((with_reducible refine gate_dst (N := 22) rfl ?_); refine Kd.R_lit Kd.string _ 9 ?hg (N := 22) ?hd (xs := ([(⟨#[114]⟩ : ByteArray), (⟨#[100]⟩ : ByteArray), (⟨#[108]⟩ : ByteArray), (⟨#[117]⟩ : ByteArray)] : List ByteArray)) (inner := [.string (⟨#[114]⟩ : ByteArray), .string (⟨#[100]⟩ : ByteArray), .string (⟨#[108]⟩ : ByteArray), .string (⟨#[117]⟩ : ByteArray)]) (ok := fun _ => True) (okp := fun _ => True) ?hr ?hp (fun _ hk => hk) trivial (Below.refl _ _) (Nat.le_refl _) (by simp) ?_; (case hd => rfl); (case hg => rfl); (case hr => first | (go_simp; done) | (go_simp; rfl)); (case hp => exact (Reps.one (show Kd.M Kd.string _ _ _ (⟨#[114]⟩ : ByteArray) [.string (⟨#[114]⟩ : ByteArray)] from rfl) (Reps.one (show Kd.M Kd.string _ _ _ (⟨#[100]⟩ : ByteArray) [.string (⟨#[100]⟩ : ByteArray)] from rfl) (Reps.one (show Kd.M Kd.string _ _ _ (⟨#[108]⟩ : ByteArray) [.string (⟨#[108]⟩ : ByteArray)] from rfl) (Reps.one (show Kd.M Kd.string _ _ _ (⟨#[117]⟩ : ByteArray) [.string (⟨#[117]⟩ : ByteArray)] from rfl) (Reps.none _ _)))))); intro v319 w24 ho25 hb hg_ hnew_; clear hg_ hnew_; (first | rw [← Ny318.out] at ho25 | (simp only [Int.reduceToNat] at ho25; rw [← Ny318.out] at ho25)); have HO320 := a0_ (Kd.R_lower ho25 (keep_size (w := w) (g := g) (row := none) (kb0_))); replace HK := a0_ (KeepBut.trans (kb0_) (KeepBut.of_below hb g none) (.inl rfl)); replace HB := a0_ (below_step (bl1_ (IsS81.ge HI0.out)) hb); replace HI0 := a0_ (IsS81.below (is81_ HI0.out) hb); clear hb ho25) | ((with_reducible refine gate_callee (f := 58) rfl ?_); refine goesL_ (some 24) rfl rfl Tryd.func58 kr_ rfl #[.pointer (some ⟨g, 0, none⟩), .int .i64 4] rfl ta_ ?_; (with_reducible refine (spec_l01Next.calls g s0_0 x1001_2 x1002_2 4 t321 t322 t323 w0 _ ?side1 ?side2 A20.out).mono ?_); (case side1 => exact is81_ HI0.out); (case side2 => exact bl1_ (IsS81.ge HI0.out)); rintro e w26 ⟨rfl, hi, hb, hk⟩; refine ⟨_, rfl, ?_⟩; replace HO320 := a0_ (Kd.R_mono (Kd.R_keep (IsS81.apart (show IsS81 w0 _ g s0_0 x1001_2 x1002_2 from is81_ HI0.out) (ra_ HO320.out) (by decide)) hk (fun _ h => h.2)) (fun _ h => h.1)); replace HK := a0_ (KeepBut.trans (kb0_) hk (.inl rfl)); replace HB := a0_ (hb); replace HI0 := a0_ (hi); (try clear hb); (try clear hb2); (try clear hk); (try clear hi); obtain ⟨Ao27, co27, eo27⟩ := Kd.R_slice HO320.out; subst eo27; have p324 : 0 ≤ (t321 : Int) := od_; have q324 : t321 < (y318.length : Int) := od_; obtain ⟨ad324, e324, hx324_0⟩ := Kd.at_string (Kd.R_reads' HO320.out).2.2 t321 p324 q324; cases e324; replace p324 := eq_true p324; replace q324 := eq_true q324))
         go_roundg k2
         case measure => have := HJ2.out; have := HK2.out; omega
         case rel => exact ⟨(x4_2 ++ (rdOf ByteArray.empty y318 t321)), (wrap64 (x5_2 - 1)), (t322), (t323), rs_, rs_, H', ⟨by have := HJ2.out; have := HK2.out; omega⟩, ⟨is81_ HI0.out⟩, ⟨kb0_⟩, ⟨bl1_ (IsS81.ge HI0.out)⟩⟩
        ·rw [if_neg c23] at H
         exact absurd H (by simp)
       ·rw [if_neg c22] at H
        exact absurd H (by simp)
      ·rw [if_neg c21] at H
       exact absurd H (by simp)
     ·rw [if_neg c19] at H
      have c19b0 : decide (0 < x5_2) = false := decide_eq_false c19
      clear c19
      obtain ⟨⟨t325, t326, t327⟩, A28, H⟩ := bs_ H
      dsimp only at H
      by_cases c29 : t325 = 0
      ·rw [if_pos c29] at H
       have c29b0 : (t325 == 0) = true := beq_iff_eq.mpr c29
       have c29b1 : (t325 != 0) = false := bne_eq_false_iff_eq.mpr c29
       clear c29
       by_cases c30 : x4_2.size + 1 ≤ 9223372036854775807
       ·rw [if_pos c30] at H
        have c30b0 := eq_true c30
        have c30b1 : decide (x4_2.size + 1 ≤ 9223372036854775807) = true := decide_eq_true c30
        try have c30b2 : (9223372036854775807 < x4_2.size + 1) = False := eq_false (Nat.not_lt.2 c30)
        simp only [Option.some.injEq, Prod.mk.injEq] at H
        obtain ⟨rfl, rfl, rfl⟩ := H
        go_wp2_with (first | ((with_reducible refine gate_callee (f := 58) rfl ?_); refine goesL_ (some 29) rfl rfl Tryd.func58 kr_ rfl #[.pointer (some ⟨g, 0, none⟩), .int .i64 12] rfl ta_ ?_; (with_reducible refine (spec_l01Next.calls g s0_0 x1001_2 x1002_2 12 t325 t326 t327 w0 _ ?side1 ?side2 A28.out).mono ?_); (case side1 => exact is81_ HI0.out); (case side2 => exact bl1_ (IsS81.ge HI0.out)); rintro e w31 ⟨rfl, hi, hb, hk⟩; refine ⟨_, rfl, ?_⟩; replace HK := a0_ (KeepBut.trans (kb0_) hk (.inl rfl)); replace HB := a0_ (hb); replace HI0 := a0_ (hi); (try clear hb); (try clear hb2); (try clear hk); (try clear hi)))
        go_ret
        exact ⟨er_, is81_ HI0.out, bl1_ (IsS81.ge HI0.out), kb0_⟩
       ·rw [if_neg c30] at H
        exact absurd H (by simp)
      ·rw [if_neg c29] at H
       have c29b0 : (t325 == 0) = false := beq_eq_false_iff_ne.mpr c29
       have c29b1 : (t325 != 0) = true := bne_iff_ne.mpr c29
       by_cases c32 : t325 = 1
       ·rw [if_pos c32] at H
        have c32b0 : (t325 == 1) = true := beq_iff_eq.mpr c32
        have c32b1 : (t325 != 1) = false := bne_eq_false_iff_eq.mpr c32
        clear c32
        have H' := Aside0.mk H
        clear H
        go_wp2_with (first | ((with_reducible refine gate_callee (f := 58) rfl ?_); refine goesL_ (some 29) rfl rfl Tryd.func58 kr_ rfl #[.pointer (some ⟨g, 0, none⟩), .int .i64 12] rfl ta_ ?_; (with_reducible refine (spec_l01Next.calls g s0_0 x1001_2 x1002_2 12 t325 t326 t327 w0 _ ?side1 ?side2 A28.out).mono ?_); (case side1 => exact is81_ HI0.out); (case side2 => exact bl1_ (IsS81.ge HI0.out)); rintro e w33 ⟨rfl, hi, hb, hk⟩; refine ⟨_, rfl, ?_⟩; replace HK := a0_ (KeepBut.trans (kb0_) hk (.inl rfl)); replace HB := a0_ (hb); replace HI0 := a0_ (hi); (try clear hb); (try clear hb2); (try clear hk); (try clear hi)))
        go_loopg [4] k2 (fun kq v4 w' => ∃ (x4_3 : ByteArray) (x1001_3 : Int) (x1002_3 : Int), v4 = .string x4_3 ∧ Aside0 (spec_l23Draw.l1 kq x4_3 s0_0 x1001_3 x1002_3 = some (r1, r2, r3)) ∧ Aside0 (kq ≤ k2) ∧ Aside0 (IsS81 w0 w' g s0_0 x1001_3 x1002_3) ∧ Aside0 (KeepBut w w' g none) ∧ Aside0 (Below w0.heap.size w0 w'))
        case atStart => exact ⟨(x4_2), (t326), (t327), rs_, H', ⟨Nat.le_refl _⟩, ⟨is81_ HI0.out⟩, ⟨kb0_⟩, ⟨bl1_ (IsS81.ge HI0.out)⟩⟩
        case round =>
         clear H'
         try clear c1
         try clear c2
         try clear p2
         try clear c3
         try clear p3
         try clear q3
         try clear hx3
         try clear c5
         try clear c5b0
         try clear c6
         try clear p6
         try clear c8
         try clear c9
         try clear c19
         try clear c19b0
         try clear c21
         try clear c21b0
         try clear c22
         try clear c22b0
         try clear c23
         try clear c23b0
         try clear c23b1
         try clear c23b2
         try clear c29
         try clear c29b0
         try clear c29b1
         try clear c30
         try clear c30b0
         try clear c30b1
         try clear c30b2
         try clear c32
         try clear c32b0
         try clear c32b1
         try clear p32
         try clear q32
         try clear hx32
         try clear hx324_0
         try clear p2
         try clear p324
         try clear q324
         obtain ⟨x4_3, x1001_3, x1002_3, rfl, HA, HK3, HI0, HK, HB⟩ := hrel
         cases gk with
         | zero => exact absurd HA.out (by simp [spec_l23Draw.l1])
         | succ k3 =>
          have H := HA.out
          clear HA
          simp only [spec_l23Draw.l1] at H
          obtain ⟨⟨t328, t329, t330⟩, A34, H⟩ := bs_ H
          dsimp only at H
          by_cases c35 : (x4_3.size : Int) < (wrap64 (200 + t328))
          ·rw [if_pos c35] at H
           have c35b0 : decide ((x4_3.size : Int) < (wrap64 (200 + t328))) = true := decide_eq_true c35
           clear c35
           by_cases c36 : x4_3.size + 1 ≤ 9223372036854775807
           ·rw [if_pos c36] at H
            have c36b0 := eq_true c36
            have c36b1 : decide (x4_3.size + 1 ≤ 9223372036854775807) = true := decide_eq_true c36
            try have c36b2 : (9223372036854775807 < x4_3.size + 1) = False := eq_false (Nat.not_lt.2 c36)
            have H' := Aside0.mk H
            clear H
            go_wp2_with (first | ((with_reducible refine gate_callee (f := 58) rfl ?_); refine goesL_ (some 39) rfl rfl Tryd.func58 kr_ rfl #[.pointer (some ⟨g, 0, none⟩), .int .i64 2] rfl ta_ ?_; (with_reducible refine (spec_l01Next.calls g s0_0 x1001_3 x1002_3 2 t328 t329 t330 w0 _ ?side1 ?side2 A34.out).mono ?_); (case side1 => exact is81_ HI0.out); (case side2 => exact bl1_ (IsS81.ge HI0.out)); rintro e w37 ⟨rfl, hi, hb, hk⟩; refine ⟨_, rfl, ?_⟩; replace HK := a0_ (KeepBut.trans (kb0_) hk (.inl rfl)); replace HB := a0_ (hb); replace HI0 := a0_ (hi); (try clear hb); (try clear hb2); (try clear hk); (try clear hi)))
            go_roundg k3
            case measure => have := HJ2.out; have := HK2.out; have := HK3.out; omega
            case rel => exact ⟨(x4_3 ++ (⟨#[114]⟩ : ByteArray)), (t329), (t330), rs_, H', ⟨by have := HJ2.out; have := HK2.out; have := HK3.out; omega⟩, ⟨is81_ HI0.out⟩, ⟨kb0_⟩, ⟨bl1_ (IsS81.ge HI0.out)⟩⟩
           ·rw [if_neg c36] at H
            exact absurd H (by simp)
          ·rw [if_neg c35] at H
           have c35b0 : decide ((x4_3.size : Int) < (wrap64 (200 + t328))) = false := decide_eq_false c35
           clear c35
           simp only [Option.some.injEq, Prod.mk.injEq] at H
           obtain ⟨rfl, rfl, rfl⟩ := H
           go_wp2_with (first | ((with_reducible refine gate_callee (f := 58) rfl ?_); refine goesL_ (some 39) rfl rfl Tryd.func58 kr_ rfl #[.pointer (some ⟨g, 0, none⟩), .int .i64 2] rfl ta_ ?_; (with_reducible refine (spec_l01Next.calls g s0_0 x1001_3 x1002_3 2 t328 t329 t330 w0 _ ?side1 ?side2 A34.out).mono ?_); (case side1 => exact is81_ HI0.out); (case side2 => exact bl1_ (IsS81.ge HI0.out)); rintro e w38 ⟨rfl, hi, hb, hk⟩; refine ⟨_, rfl, ?_⟩; replace HK := a0_ (KeepBut.trans (kb0_) hk (.inl rfl)); replace HB := a0_ (hb); replace HI0 := a0_ (hi); (try clear hb); (try clear hb2); (try clear hk); (try clear hi)))
           go_ret
           exact ⟨er_, is81_ HI0.out, bl1_ (IsS81.ge HI0.out), kb0_⟩
       ·rw [if_neg c32] at H
        have c32b0 : (t325 == 1) = false := beq_eq_false_iff_ne.mpr c32
        have c32b1 : (t325 != 1) = true := bne_iff_ne.mpr c32
        simp only [Option.some.injEq, Prod.mk.injEq] at H
        obtain ⟨rfl, rfl, rfl⟩ := H
        go_wp2_with (first | ((with_reducible refine gate_callee (f := 58) rfl ?_); refine goesL_ (some 29) rfl rfl Tryd.func58 kr_ rfl #[.pointer (some ⟨g, 0, none⟩), .int .i64 12] rfl ta_ ?_; (with_reducible refine (spec_l01Next.calls g s0_0 x1001_2 x1002_2 12 t325 t326 t327 w0 _ ?side1 ?side2 A28.out).mono ?_); (case side1 => exact is81_ HI0.out); (case side2 => exact bl1_ (IsS81.ge HI0.out)); rintro e w39 ⟨rfl, hi, hb, hk⟩; refine ⟨_, rfl, ?_⟩; replace HK := a0_ (KeepBut.trans (kb0_) hk (.inl rfl)); replace HB := a0_ (hb); replace HI0 := a0_ (hi); (try clear hb); (try clear hb2); (try clear hk); (try clear hi)))
        go_ret
        exact ⟨er_, is81_ HI0.out, bl1_ (IsS81.ge HI0.out), kb0_⟩

/-! ### spec_DrawRollOrder: function 21 -/
def spec_DrawRollOrder.f (k : Nat) (l0 : List Int) : Option (ByteArray) := (spec_l01From.f k l0).bind fun bt331 => ((spec_l23Draw.f k bt331.1 bt331.2.1 bt331.2.2).bind fun bt335 => (some bt335.1))
theorem spec_DrawRollOrder.mono : ∀ a0 k, LeO (spec_DrawRollOrder.f k a0) (spec_DrawRollOrder.f (k + 1) a0) := by
 intro a0 k
 unfold spec_DrawRollOrder.f
 with_reducible (repeat' first | exact spec_l01From.mono _ _ | exact spec_l23Draw.mono _ _ _ _ | exact LeO.refl _ | exact LeO.none _ | refine LeO.ite ?_ ?_ | refine LeO.bind ?_ (fun _ => ?_))
set_option maxHeartbeats 8000000 in
set_option maxRecDepth 100000 in
theorem spec_DrawRollOrder.calls (k : Nat) (A0 : Option Addr) (c0 : Nat) (l0 : List Int) (r : ByteArray) (w : World) (hr0 : Kd.C (Kd.int .u8) w A0 l0.length l0) (hc0 : l0.length ≤ c0) (h : spec_DrawRollOrder.f k l0 = some r) :
  Calls Tryd.prog 21 #[.slice A0 l0.length c0] w fun e w' => e = .returned (.string r) ∧ Below w.heap.size w w' := by
 have HR0 := Aside0.mk hr0
 have HC0 := Aside0.mk hc0
 clear hr0 hc0
 have HB := a0_ (Below.refl w.heap.size w)
 have H := h
 clear h
 unfold spec_DrawRollOrder.f at H
 obtain ⟨⟨t331, t332, t333⟩, A2, H⟩ := bs_ H
 dsimp only at H
 obtain ⟨⟨t335, t336, t337⟩, A3, H⟩ := bs_ H
 dsimp only at H
 obtain rfl := Option.some.inj H
 go_enter Tryd.func21, Tryd.ntmps21
 go_wp2_with (first | ((with_reducible refine gate_callee (f := 34) rfl ?_); refine goesL_ (some 4) rfl rfl Tryd.func34 kr_ rfl #[.slice A0 l0.length c0] rfl ta_ ?_; (with_reducible refine (spec_l01From.calls k _ _ l0 t331 t332 t333 w _ ?side1 ?side2 ?side3 A2.out).mono ?_); (case side1 => repeat (first | (with_reducible first | exact HB.out | apply below_alloc | apply pw_below_drewN | apply below_drew1) | exact HB.out)); (case side2 => exact HR0.out); (case side3 => exact HC0.out); rintro e w4 ⟨g334, rfl, hi, hb, hb2⟩; refine ⟨_, rfl, ?_⟩; replace HB := a0_ (hb); have HI334 := a0_ (hi); (try clear hb); (try clear hb2); (try clear hk); (try clear hi)) | ((with_reducible refine gate_callee (f := 53) rfl ?_); refine goesL_ (some 5) rfl rfl Tryd.func53 kr_ rfl #[.pointer (some ⟨g334, 0, none⟩)] rfl ta_ ?_; (with_reducible refine (spec_l23Draw.calls k g334 t331 t332 t333 t335 t336 t337 w _ ?side1 ?side2 A3.out).mono ?_); (case side1 => exact is81_ HI334.out); (case side2 => exact bl1_ (IsS81.ge HI334.out)); rintro e w5 ⟨rfl, hi, hb, hk⟩; refine ⟨_, rfl, ?_⟩; replace HB := a0_ (hb); replace HI334 := a0_ (hi); (try clear hb); (try clear hb2); (try clear hk); (try clear hi)))
 go_ret
 exact ⟨er_, bl1_ (IsS81.ge HI334.out)⟩

/-! ### impl_isWord: function 54 -/
def wordTrim (s : ByteArray) : ByteArray := ⟨(Lib.trimS s.data.toList [114, 100, 108, 117]).toArray⟩
def impl_isWord.f (a0 : ByteArray) : Option Bool := if (a0.size : Int) ≤ 200 then (some (wordTrim a0).toList.isEmpty) else some false
theorem trim_calls (s : ByteArray) (w : World) (hs : s.size ≤ 200) : Calls Tryd.prog 95 #[.string s, .string ⟨#[114, 100, 108, 117]⟩] w fun e w' => e = .returned (.string (wordTrim s)) ∧ Below w.heap.size w w' :=
 Any.strings_Trim_laid Tryd.lays160 kr_ s ⟨#[114, 100, 108, 117]⟩ w (by omega) (by decide) (ascii_of_all (by decide))
set_option maxHeartbeats 1000000 in
theorem impl_isWord.calls (a0 : ByteArray) (r : Bool) (w : World) (h : impl_isWord.f a0 = some r) :
  Calls Tryd.prog 54 #[.string a0] w fun e w' => e = .returned (.bool r) ∧ Below w.heap.size w w' := by
 unfold impl_isWord.f at h
 by_cases c : (a0.size : Int) ≤ 200
 ·rw [if_pos c] at h
  have ht := trim_calls a0 w (by omega)
  generalize wordTrim a0 = t at h ht
  obtain rfl := Option.some.inj h
  have c0 : decide ((a0.size : Int) ≤ 200) = true := decide_eq_true c
  go_enter Tryd.func54, Tryd.ntmps54
  go_wp2_with (go_at_call 95; refine ht.mono ?_; rintro e w' ⟨rfl, hb⟩)
  go_ret
  exact ⟨rfl, hb⟩
 ·rw [if_neg c] at h
  obtain rfl := Option.some.inj h
  have c0 : decide ((a0.size : Int) ≤ 200) = false := decide_eq_false c
  go_enter Tryd.func54, Tryd.ntmps54
  go_wp2
  go_ret
  exact ⟨rfl, Below.refl _ _⟩


/-! ### impl_die_roll: function 85 -/
def impl_die_roll.f (a0_0 : Int) (a0_1 : Int) (a0_2 : Int) (a1 : Int) : Option (Int × Int × Int) := if a1 = 114 then (some (a0_1, wrap64 (5 - a0_0), a0_2)) else (if a1 = 100 then (some (a0_2, a0_1, wrap64 (5 - a0_0))) else (if a1 = 108 then (some (wrap64 (5 - a0_1), a0_0, a0_2)) else (some (wrap64 (5 - a0_2), a0_1, a0_0))))
set_option maxHeartbeats 8000000 in
set_option maxRecDepth 100000 in
theorem impl_die_roll.calls (a0_0 : Int) (a0_1 : Int) (a0_2 : Int) (a1 : Int) (r1 : Int) (r2 : Int) (r3 : Int) (w : World) (h : impl_die_roll.f a0_0 a0_1 a0_2 a1 = some (r1, r2, r3)) :
  Calls Tryd.prog 85 #[.agg #[.int .i64 a0_0, .int .i64 a0_1, .int .i64 a0_2], .int .u8 a1] w fun e w' => e = .returned (.agg #[.int .i64 r1, .int .i64 r2, .int .i64 r3]) ∧ Below w.heap.size w w' := by
 have hu68 := Tryd.underlying68
 have HB := a0_ (Below.refl w.heap.size w)
 have H : (if a1 = 114 then (some (a0_1, wrap64 (5 - a0_0), a0_2)) else (if a1 = 100 then (some (a0_2, a0_1, wrap64 (5 - a0_0))) else (if a1 = 108 then (some (wrap64 (5 - a0_1), a0_0, a0_2)) else (some (wrap64 (5 - a0_2), a0_1, a0_0))))) = some (r1, r2, r3) := h
 clear h
 by_cases c3 : a1 = 114
 ·rw [if_pos c3] at H
  have c3b0 : (a1 == 114) = true := beq_iff_eq.mpr c3
  have c3b1 : (a1 != 114) = false := bne_eq_false_iff_eq.mpr c3
  clear c3
  simp only [Option.some.injEq, Prod.mk.injEq] at H
  obtain ⟨rfl, rfl, rfl⟩ := H
  go_enter Tryd.func85, Tryd.ntmps85
  go_wp2_with (first | ((with_reducible refine gate_dst (N := 2) rfl ?_); refine bx_ (N := 2) (cs := #[.int .i64 a0_0, .int .i64 a0_1, .int .i64 a0_2]) (t := 68) ?_; intro gb338 hg w4 hbox hb; have BK338 := a0_ (hbox); have GW338 := a0_ ((sz_ hg (bl0_) : w.heap.size ≤ gb338)); have GE338 := a0_ ((sz_ hg (bl0_) : w.heap.size ≤ gb338)); replace HB := a0_ (below_step (bl0_) hb); clear hb hbox hg) | ((with_reducible refine gate_dst (N := 4) rfl ?_); refine bx_ (N := 4) (cs := #[.int .i64 0, .int .i64 0, .int .i64 0]) (t := 68) ?_; intro gb339 hg w5 hbox hb; have BK339 := a0_ (hbox); have GW339 := a0_ ((sz_ hg (bl1_ GE338.out) : w.heap.size ≤ gb339)); have GE339 := a0_ ((sz_ hg (bl1_ GE338.out) : w.heap.size ≤ gb339)); replace HB := a0_ (below_step (bl1_ GE338.out) hb); have NB338_339 := a0_ ((nl_ hg BK338.out : gb338 ≠ gb339)); have NB339_338 := a0_ ((ng_ hg BK338.out : gb339 ≠ gb338)); replace BK338 := a0_ (bb_ BK338.out hb); clear hb hbox hg; have hnb6 := NB338_339.out; have hnc6 := NB339_338.out; obtain ⟨hcz7_0, hcz7_1, hcz7_2, hfz7_0, hfz7_1, hfz7_2⟩ := bc3_ BK338.out; obtain ⟨hcz8_0, hcz8_1, hcz8_2, hfz8_0, hfz8_1, hfz8_2⟩ := bc3_ BK339.out))
  refine bodyPost_ret (results_cell_row rfl _ _ gb339 68 #[.int .i64 a0_1, .int .i64 (wrap64 (5 - a0_0)), .int .i64 a0_2] (0, 0) _ rfl (by (with_reducible repeat (first | refine blk_drewN ?_ _ | refine blk_drew ?_ | refine blk_alloc ?_ _)); refine blk_put (cs := #[.int .i64 a0_1, .int .i64 (wrap64 (5 - a0_0)), .int .i64 0]) ?_ 2 _ rfl; (with_reducible repeat (first | refine blk_drewN ?_ _ | refine blk_drew ?_ | refine blk_alloc ?_ _)); refine blk_put (cs := #[.int .i64 a0_1, .int .i64 0, .int .i64 0]) ?_ 1 _ rfl; (with_reducible repeat (first | refine blk_drewN ?_ _ | refine blk_drew ?_ | refine blk_alloc ?_ _)); refine blk_put (cs := #[.int .i64 0, .int .i64 0, .int .i64 0]) ?_ 0 _ rfl; (with_reducible repeat (first | refine blk_drewN ?_ _ | refine blk_drew ?_ | refine blk_alloc ?_ _)); exact BK339.out) Tryd.underlying68 rfl kr_) rfl ?_
  exact ⟨er_, bl2_ GE338.out GE339.out⟩
 ·rw [if_neg c3] at H
  have c3b0 : (a1 == 114) = false := beq_eq_false_iff_ne.mpr c3
  have c3b1 : (a1 != 114) = true := bne_iff_ne.mpr c3
  by_cases c9 : a1 = 100
  ·rw [if_pos c9] at H
   have c9b0 : (a1 == 100) = true := beq_iff_eq.mpr c9
   have c9b1 : (a1 != 100) = false := bne_eq_false_iff_eq.mpr c9
   clear c9
   simp only [Option.some.injEq, Prod.mk.injEq] at H
   obtain ⟨rfl, rfl, rfl⟩ := H
   go_enter Tryd.func85, Tryd.ntmps85
   go_wp2_with (first | ((with_reducible refine gate_dst (N := 2) rfl ?_); refine bx_ (N := 2) (cs := #[.int .i64 a0_0, .int .i64 a0_1, .int .i64 a0_2]) (t := 68) ?_; intro gb338 hg w10 hbox hb; have BK338 := a0_ (hbox); have GW338 := a0_ ((sz_ hg (bl0_) : w.heap.size ≤ gb338)); have GE338 := a0_ ((sz_ hg (bl0_) : w.heap.size ≤ gb338)); replace HB := a0_ (below_step (bl0_) hb); clear hb hbox hg) | ((with_reducible refine gate_dst (N := 4) rfl ?_); refine bx_ (N := 4) (cs := #[.int .i64 0, .int .i64 0, .int .i64 0]) (t := 68) ?_; intro gb339 hg w11 hbox hb; have BK339 := a0_ (hbox); have GW339 := a0_ ((sz_ hg (bl1_ GE338.out) : w.heap.size ≤ gb339)); have GE339 := a0_ ((sz_ hg (bl1_ GE338.out) : w.heap.size ≤ gb339)); replace HB := a0_ (below_step (bl1_ GE338.out) hb); have NB338_339 := a0_ ((nl_ hg BK338.out : gb338 ≠ gb339)); have NB339_338 := a0_ ((ng_ hg BK338.out : gb339 ≠ gb338)); replace BK338 := a0_ (bb_ BK338.out hb); clear hb hbox hg; have hnb12 := NB338_339.out; have hnc12 := NB339_338.out; obtain ⟨hcz13_0, hcz13_1, hcz13_2, hfz13_0, hfz13_1, hfz13_2⟩ := bc3_ BK338.out; obtain ⟨hcz14_0, hcz14_1, hcz14_2, hfz14_0, hfz14_1, hfz14_2⟩ := bc3_ BK339.out))
   refine bodyPost_ret (results_cell_row rfl _ _ gb339 68 #[.int .i64 a0_2, .int .i64 a0_1, .int .i64 (wrap64 (5 - a0_0))] (0, 0) _ rfl (by (with_reducible repeat (first | refine blk_drewN ?_ _ | refine blk_drew ?_ | refine blk_alloc ?_ _)); refine blk_put (cs := #[.int .i64 a0_2, .int .i64 a0_1, .int .i64 0]) ?_ 2 _ rfl; (with_reducible repeat (first | refine blk_drewN ?_ _ | refine blk_drew ?_ | refine blk_alloc ?_ _)); refine blk_put (cs := #[.int .i64 a0_2, .int .i64 0, .int .i64 0]) ?_ 1 _ rfl; (with_reducible repeat (first | refine blk_drewN ?_ _ | refine blk_drew ?_ | refine blk_alloc ?_ _)); refine blk_put (cs := #[.int .i64 0, .int .i64 0, .int .i64 0]) ?_ 0 _ rfl; (with_reducible repeat (first | refine blk_drewN ?_ _ | refine blk_drew ?_ | refine blk_alloc ?_ _)); exact BK339.out) Tryd.underlying68 rfl kr_) rfl ?_
   exact ⟨er_, bl2_ GE338.out GE339.out⟩
  ·rw [if_neg c9] at H
   have c9b0 : (a1 == 100) = false := beq_eq_false_iff_ne.mpr c9
   have c9b1 : (a1 != 100) = true := bne_iff_ne.mpr c9
   by_cases c15 : a1 = 108
   ·rw [if_pos c15] at H
    have c15b0 : (a1 == 108) = true := beq_iff_eq.mpr c15
    have c15b1 : (a1 != 108) = false := bne_eq_false_iff_eq.mpr c15
    clear c15
    simp only [Option.some.injEq, Prod.mk.injEq] at H
    obtain ⟨rfl, rfl, rfl⟩ := H
    go_enter Tryd.func85, Tryd.ntmps85
    go_wp2_with (first | ((with_reducible refine gate_dst (N := 2) rfl ?_); refine bx_ (N := 2) (cs := #[.int .i64 a0_0, .int .i64 a0_1, .int .i64 a0_2]) (t := 68) ?_; intro gb338 hg w16 hbox hb; have BK338 := a0_ (hbox); have GW338 := a0_ ((sz_ hg (bl0_) : w.heap.size ≤ gb338)); have GE338 := a0_ ((sz_ hg (bl0_) : w.heap.size ≤ gb338)); replace HB := a0_ (below_step (bl0_) hb); clear hb hbox hg) | ((with_reducible refine gate_dst (N := 4) rfl ?_); refine bx_ (N := 4) (cs := #[.int .i64 0, .int .i64 0, .int .i64 0]) (t := 68) ?_; intro gb339 hg w17 hbox hb; have BK339 := a0_ (hbox); have GW339 := a0_ ((sz_ hg (bl1_ GE338.out) : w.heap.size ≤ gb339)); have GE339 := a0_ ((sz_ hg (bl1_ GE338.out) : w.heap.size ≤ gb339)); replace HB := a0_ (below_step (bl1_ GE338.out) hb); have NB338_339 := a0_ ((nl_ hg BK338.out : gb338 ≠ gb339)); have NB339_338 := a0_ ((ng_ hg BK338.out : gb339 ≠ gb338)); replace BK338 := a0_ (bb_ BK338.out hb); clear hb hbox hg; have hnb18 := NB338_339.out; have hnc18 := NB339_338.out; obtain ⟨hcz19_0, hcz19_1, hcz19_2, hfz19_0, hfz19_1, hfz19_2⟩ := bc3_ BK338.out; obtain ⟨hcz20_0, hcz20_1, hcz20_2, hfz20_0, hfz20_1, hfz20_2⟩ := bc3_ BK339.out))
    refine bodyPost_ret (results_cell_row rfl _ _ gb339 68 #[.int .i64 (wrap64 (5 - a0_1)), .int .i64 a0_0, .int .i64 a0_2] (0, 0) _ rfl (by (with_reducible repeat (first | refine blk_drewN ?_ _ | refine blk_drew ?_ | refine blk_alloc ?_ _)); refine blk_put (cs := #[.int .i64 (wrap64 (5 - a0_1)), .int .i64 a0_0, .int .i64 0]) ?_ 2 _ rfl; (with_reducible repeat (first | refine blk_drewN ?_ _ | refine blk_drew ?_ | refine blk_alloc ?_ _)); refine blk_put (cs := #[.int .i64 (wrap64 (5 - a0_1)), .int .i64 0, .int .i64 0]) ?_ 1 _ rfl; (with_reducible repeat (first | refine blk_drewN ?_ _ | refine blk_drew ?_ | refine blk_alloc ?_ _)); refine blk_put (cs := #[.int .i64 0, .int .i64 0, .int .i64 0]) ?_ 0 _ rfl; (with_reducible repeat (first | refine blk_drewN ?_ _ | refine blk_drew ?_ | refine blk_alloc ?_ _)); exact BK339.out) Tryd.underlying68 rfl kr_) rfl ?_
    exact ⟨er_, bl2_ GE338.out GE339.out⟩
   ·rw [if_neg c15] at H
    have c15b0 : (a1 == 108) = false := beq_eq_false_iff_ne.mpr c15
    have c15b1 : (a1 != 108) = true := bne_iff_ne.mpr c15
    simp only [Option.some.injEq, Prod.mk.injEq] at H
    obtain ⟨rfl, rfl, rfl⟩ := H
    go_enter Tryd.func85, Tryd.ntmps85
    go_wp2_with (first | ((with_reducible refine gate_dst (N := 2) rfl ?_); refine bx_ (N := 2) (cs := #[.int .i64 a0_0, .int .i64 a0_1, .int .i64 a0_2]) (t := 68) ?_; intro gb338 hg w21 hbox hb; have BK338 := a0_ (hbox); have GW338 := a0_ ((sz_ hg (bl0_) : w.heap.size ≤ gb338)); have GE338 := a0_ ((sz_ hg (bl0_) : w.heap.size ≤ gb338)); replace HB := a0_ (below_step (bl0_) hb); clear hb hbox hg) | ((with_reducible refine gate_dst (N := 4) rfl ?_); refine bx_ (N := 4) (cs := #[.int .i64 0, .int .i64 0, .int .i64 0]) (t := 68) ?_; intro gb339 hg w22 hbox hb; have BK339 := a0_ (hbox); have GW339 := a0_ ((sz_ hg (bl1_ GE338.out) : w.heap.size ≤ gb339)); have GE339 := a0_ ((sz_ hg (bl1_ GE338.out) : w.heap.size ≤ gb339)); replace HB := a0_ (below_step (bl1_ GE338.out) hb); have NB338_339 := a0_ ((nl_ hg BK338.out : gb338 ≠ gb339)); have NB339_338 := a0_ ((ng_ hg BK338.out : gb339 ≠ gb338)); replace BK338 := a0_ (bb_ BK338.out hb); clear hb hbox hg; have hnb23 := NB338_339.out; have hnc23 := NB339_338.out; obtain ⟨hcz24_0, hcz24_1, hcz24_2, hfz24_0, hfz24_1, hfz24_2⟩ := bc3_ BK338.out; obtain ⟨hcz25_0, hcz25_1, hcz25_2, hfz25_0, hfz25_1, hfz25_2⟩ := bc3_ BK339.out))
    refine bodyPost_ret (results_cell_row rfl _ _ gb339 68 #[.int .i64 (wrap64 (5 - a0_2)), .int .i64 a0_1, .int .i64 a0_0] (0, 0) _ rfl (by (with_reducible repeat (first | refine blk_drewN ?_ _ | refine blk_drew ?_ | refine blk_alloc ?_ _)); refine blk_put (cs := #[.int .i64 (wrap64 (5 - a0_2)), .int .i64 a0_1, .int .i64 0]) ?_ 2 _ rfl; (with_reducible repeat (first | refine blk_drewN ?_ _ | refine blk_drew ?_ | refine blk_alloc ?_ _)); refine blk_put (cs := #[.int .i64 (wrap64 (5 - a0_2)), .int .i64 0, .int .i64 0]) ?_ 1 _ rfl; (with_reducible repeat (first | refine blk_drewN ?_ _ | refine blk_drew ?_ | refine blk_alloc ?_ _)); refine blk_put (cs := #[.int .i64 0, .int .i64 0, .int .i64 0]) ?_ 0 _ rfl; (with_reducible repeat (first | refine blk_drewN ?_ _ | refine blk_drew ?_ | refine blk_alloc ?_ _)); exact BK339.out) Tryd.underlying68 rfl kr_) rfl ?_
    exact ⟨er_, bl2_ GE338.out GE339.out⟩

/-! ### impl_rollWord: function 55 -/
def impl_rollWord.l0 : Nat → ByteArray → Int → Int → Int → Int → Option (Int × Int × Int)
 | 0, _, _, _, _, _ => none
 | k + 1, x1, x5, x341000, x341001, x341002 => if x5 < (x1.size : Int) then (if 0 ≤ x5 then ((impl_die_roll.f x341000 x341001 x341002 (bt x1 x5)).bind fun bt342 => (impl_rollWord.l0 k x1 (wrap64 (x5 + 1)) bt342.1 bt342.2.1 bt342.2.2)) else (none)) else (some (x341000, x341001, x341002))
def impl_rollWord.f (k : Nat) (a0_0 : Int) (a0_1 : Int) (a0_2 : Int) (a1 : ByteArray) : Option (Int × Int × Int) := impl_rollWord.l0 k a1 0 a0_0 a0_1 a0_2
theorem impl_rollWord.mono_l : ∀ k, (∀ y0 y1 y2 y3 y4, LeO (impl_rollWord.l0 k y0 y1 y2 y3 y4) (impl_rollWord.l0 (k + 1) y0 y1 y2 y3 y4))
 | 0 => fun _ _ _ _ _ r h => by simp [impl_rollWord.l0] at h
 | k + 1 => by
  have ih0 := impl_rollWord.mono_l k
  ·intro y0 y1 y2 y3 y4
   unfold impl_rollWord.l0
   with_reducible (repeat' first | exact ih0 _ _ _ _ _ | exact LeO.refl _ | exact LeO.none _ | refine LeO.ite ?_ ?_ | refine LeO.bind ?_ (fun _ => ?_))
theorem impl_rollWord.mono : ∀ a0 a1 a2 a3 k, LeO (impl_rollWord.f k a0 a1 a2 a3) (impl_rollWord.f (k + 1) a0 a1 a2 a3) := by
 intro a0 a1 a2 a3 k
 have ih0 := impl_rollWord.mono_l k
 unfold impl_rollWord.f
 with_reducible (repeat' first | exact ih0 _ _ _ _ _ | exact LeO.refl _ | exact LeO.none _ | refine LeO.ite ?_ ?_ | refine LeO.bind ?_ (fun _ => ?_))
set_option maxHeartbeats 8000000 in
set_option maxRecDepth 100000 in
theorem impl_rollWord.calls (k : Nat) (a0_0 : Int) (a0_1 : Int) (a0_2 : Int) (a1 : ByteArray) (r1 : Int) (r2 : Int) (r3 : Int) (w : World) (h : impl_rollWord.f k a0_0 a0_1 a0_2 a1 = some (r1, r2, r3)) :
  Calls Tryd.prog 55 #[.agg #[.int .i64 a0_0, .int .i64 a0_1, .int .i64 a0_2], .string a1] w fun e w' => e = .returned (.agg #[.int .i64 r1, .int .i64 r2, .int .i64 r3]) ∧ Below w.heap.size w w' := by
 have hu68 := Tryd.underlying68
 have HB := a0_ (Below.refl w.heap.size w)
 have H : (impl_rollWord.l0 k a1 0 a0_0 a0_1 a0_2) = some (r1, r2, r3) := h
 clear h
 have H' := Aside0.mk H
 clear H
 go_enter Tryd.func55, Tryd.ntmps55
 go_wp2_with (first | ((with_reducible refine gate_dst (N := 2) rfl ?_); refine bx_ (N := 2) (cs := #[.int .i64 a0_0, .int .i64 a0_1, .int .i64 a0_2]) (t := 68) ?_; intro gb340 hg w3 hbox hb; have BK340 := a0_ (hbox); have GW340 := a0_ ((sz_ hg (bl0_) : w.heap.size ≤ gb340)); have GE340 := a0_ ((sz_ hg (bl0_) : w.heap.size ≤ gb340)); replace HB := a0_ (below_step (bl0_) hb); clear hb hbox hg) | ((with_reducible refine gate_dst (N := 4) rfl ?_); refine bx_ (N := 4) (cs := #[.int .i64 0, .int .i64 0, .int .i64 0]) (t := 68) ?_; intro gb341 hg w4 hbox hb; have BK341 := a0_ (hbox); have GW341 := a0_ ((sz_ hg (bl1_ GE340.out) : w.heap.size ≤ gb341)); have GE341 := a0_ ((sz_ hg (bl1_ GE340.out) : w.heap.size ≤ gb341)); replace HB := a0_ (below_step (bl1_ GE340.out) hb); have NB340_341 := a0_ ((nl_ hg BK340.out : gb340 ≠ gb341)); have NB341_340 := a0_ ((ng_ hg BK340.out : gb341 ≠ gb340)); replace BK340 := a0_ (bb_ BK340.out hb); clear hb hbox hg))
 go_loopg [5] k (fun kq v5 w' => ∃ (x5_1 : Int) (x341000_1 : Int) (x341001_1 : Int) (x341002_1 : Int), v5 = .int .i64 x5_1 ∧ Aside0 (impl_rollWord.l0 kq a1 x5_1 x341000_1 x341001_1 x341002_1 = some (r1, r2, r3)) ∧ Aside0 (kq ≤ k) ∧ Aside0 (w'.heap[gb340]? = some (.cells #[.int .i64 x341000_1, .int .i64 x341001_1, .int .i64 x341002_1] 68 (0, 0))) ∧ Aside0 (w'.heap[gb341]? = some (.cells #[.int .i64 0, .int .i64 0, .int .i64 0] 68 (0, 0))) ∧ Aside0 (Below w.heap.size w w'))
 case atStart => exact ⟨(0), (a0_0), (a0_1), (a0_2), rs_, H', ⟨Nat.le_refl _⟩, ⟨bk_ BK340.out⟩, ⟨bk_ BK341.out⟩, ⟨bl2_ GE340.out GE341.out⟩⟩
 case round =>
  clear H'
  try clear p2
  obtain ⟨x5_1, x341000_1, x341001_1, x341002_1, rfl, HA, HK1, BK340, BK341, HB⟩ := hrel
  cases gk with
  | zero => exact absurd HA.out (by simp [impl_rollWord.l0])
  | succ k1 =>
   have H := HA.out
   clear HA
   simp only [impl_rollWord.l0] at H
   by_cases c5 : x5_1 < (a1.size : Int)
   ·rw [if_pos c5] at H
    have c5b0 : decide (x5_1 < (a1.size : Int)) = true := decide_eq_true c5
    clear c5
    by_cases c6 : 0 ≤ x5_1
    ·rw [if_pos c6] at H
     have c6b0 : decide (0 ≤ x5_1) = true := decide_eq_true c6
     clear c6
     obtain ⟨⟨t342, t343, t344⟩, A8, H⟩ := bs_ H
     dsimp only at H
     have H' := Aside0.mk H
     clear H
     try go_wp2
     replace BK340 := a0_ (blk_drew BK340.out)
     replace BK341 := a0_ (blk_drew BK341.out)
     replace HB := a0_ (below_drew1 HB.out)
     have p7 : 0 ≤ (x5_1 : Int) := od_
     have q7 : x5_1 < (a1.size : Int) := od_
     have hx7 := bt_at a1 x5_1
     replace p7 := eq_true p7
     replace q7 := eq_true q7
     refine start_ (n := 6) (S := fun w' => w'.cell? ⟨gb340, 0, none⟩ = some (.int .i64 x341000_1) ∧ w'.cell? ⟨gb340, 1, none⟩ = some (.int .i64 x341001_1) ∧ w'.cell? ⟨gb340, 2, none⟩ = some (.int .i64 x341002_1)) (ds := [5]) (mk_ 0 6) kr_ rfl rfl ⟨(blk_cell BK340.out 0).trans rfl, (blk_cell BK340.out 1).trans rfl, (blk_cell BK340.out 2).trans rfl⟩ (fun hHeld => ?_)
     generalize wr.drew = w9 at BK340 BK341 HB hHeld ⊢
     refine pure_ (i := 1) (N := some 13) (v := ?_) (a' := ?_) #[false, true, false, false, false, false] rfl rfl kr_ (fun _ _ _ h => h) (Or.inl ⟨by rfl, ?_⟩) ?_ ?_
     rotate_left
     ·intro w'
      go_simp
      with_reducible rfl
     rotate_left
     ·simp only [sp_]
      rfl
     refine pure_ (i := 2) (N := some 14) (v := ?_) (a' := ?_) #[false, true, true, false, false, false] rfl rfl kr_ (fun _ _ _ h => h) (Or.inl ⟨by rfl, ?_⟩) ?_ ?_
     rotate_left
     ·intro w'
      go_simp
      with_reducible rfl
     rotate_left
     ·simp only [sp_]
      rfl
     refine take_ (i := 0) (N := some 12) (v := ?_) (a' := ?_) (mk_ 3 3) rfl rfl kr_ (fun _ _ _ h => h) (Or.inl ⟨by rfl, ?_⟩) hHeld ?_ ?_
     rotate_left
     ·rintro w' ⟨s0, s1, s2⟩
      go_simp
      with_reducible rfl
     rotate_left
     ·simp only [sp_]
      rfl
     refine take_ (i := 3) (N := some 15) (v := ?_) (a' := ?_) (mk_ 4 2) rfl rfl kr_ (fun _ _ _ h => h) (Or.inl ⟨by rfl, ?_⟩) hHeld ?_ ?_
     rotate_left
     ·rintro w' ⟨s0, s1, s2⟩
      go_simp
      with_reducible rfl
     rotate_left
     ·simp only [sp_]
      rfl
     refine one_ (i := 4) (N := some 16) (mk_ 5 1) rfl rfl kr_ (by decide) (fun K hK => ?_)
     refine goes_ Tryd.func85 kr_ rfl #[.agg #[.int .i64 x341000_1, .int .i64 x341001_1, .int .i64 x341002_1], .int .u8 (bt a1 x5_1)] (by rfl) rfl rfl ta_ ?_
     with_reducible refine (impl_die_roll.calls x341000_1 x341001_1 x341002_1 (bt a1 x5_1) t342 t343 t344 _ A8.out).mono ?_
     rintro e w10 ⟨rfl, hb⟩
     refine ⟨_, rfl, ?_⟩
     replace BK340 := a0_ (bb_ BK340.out hb)
     replace BK341 := a0_ (bb_ BK341.out hb)
     replace HB := a0_ (below_step (bl2_ GE340.out GE341.out) hb)
     (try clear hb)
     (try clear hb2)
     (try clear hk)
     (try clear hi)
     refine hK.out _ _ ⟨(blk_cell BK340.out 0).trans rfl, (blk_cell BK340.out 1).trans rfl, (blk_cell BK340.out 2).trans rfl⟩ (fun hHeld => ?_)
     clear hK K
     refine nm_ ?_
     refine last_ (i := 5) (N := none) (mk_ 6 0) rfl rfl kr_ (by decide) (fun K hK => ?_)
     have hs11 : w10.cell? ⟨gb340, 0, none⟩ = some (.int .i64 x341000_1) := (blk_cell BK340.out 0).trans rfl
     have hfs11 := blk_frozen BK340.out 0
     have hns11_1 := NB341_340.out
     have hms11_1 := NB340_341.out
     have hs12 : w10.cell? ⟨gb340, 1, none⟩ = some (.int .i64 x341001_1) := (blk_cell BK340.out 1).trans rfl
     have hfs12 := blk_frozen BK340.out 1
     have hns12_1 := NB341_340.out
     have hms12_1 := NB340_341.out
     have hs13 : w10.cell? ⟨gb340, 2, none⟩ = some (.int .i64 x341002_1) := (blk_cell BK340.out 2).trans rfl
     have hfs13 := blk_frozen BK340.out 2
     have hns13_1 := NB341_340.out
     have hms13_1 := NB340_341.out
     refine skip_ (w1 := ?_) (by rfl) rfl ?_ ?_
     rotate_left
     ·go_simp
      rfl
     refine hK.out _ _ ?_
     clear hK K
     refine done_ kr_ ?_
     try go_wp2
     go_roundg k1
     case measure => have := HK1.out; omega
     case rel => exact ⟨(wrap64 (x5_1 + 1)), (t342), (t343), (t344), rs_, H', ⟨by have := HK1.out; omega⟩, ⟨by (with_reducible repeat (first | refine blk_drewN ?_ _ | refine blk_drew ?_ | refine blk_alloc ?_ _)); refine blk_put (cs := #[.int .i64 t342, .int .i64 t343, .int .i64 x341002_1]) ?_ 2 _ rfl; (with_reducible repeat (first | refine blk_drewN ?_ _ | refine blk_drew ?_ | refine blk_alloc ?_ _)); refine blk_put (cs := #[.int .i64 t342, .int .i64 x341001_1, .int .i64 x341002_1]) ?_ 1 _ rfl; (with_reducible repeat (first | refine blk_drewN ?_ _ | refine blk_drew ?_ | refine blk_alloc ?_ _)); refine blk_put (cs := #[.int .i64 x341000_1, .int .i64 x341001_1, .int .i64 x341002_1]) ?_ 0 _ rfl; (with_reducible repeat (first | refine blk_drewN ?_ _ | refine blk_drew ?_ | refine blk_alloc ?_ _)); exact BK340.out⟩, ⟨bf_ BK341.out NB341_340.out⟩, ⟨bl2_ GE340.out GE341.out⟩⟩
    ·rw [if_neg c6] at H
     exact absurd H (by simp)
   ·rw [if_neg c5] at H
    have c5b0 : decide (x5_1 < (a1.size : Int)) = false := decide_eq_false c5
    clear c5
    simp only [Option.some.injEq, Prod.mk.injEq] at H
    obtain ⟨rfl, rfl, rfl⟩ := H
    have hnb14 := NB340_341.out
    have hnc14 := NB341_340.out
    have hcz15_0 : wr.cell? ⟨gb340, 0, none⟩ = some (.int .i64 x341000_1) := (blk_cell BK340.out 0).trans rfl
    have hcz15_1 : wr.cell? ⟨gb340, 1, none⟩ = some (.int .i64 x341001_1) := (blk_cell BK340.out 1).trans rfl
    have hcz15_2 : wr.cell? ⟨gb340, 2, none⟩ = some (.int .i64 x341002_1) := (blk_cell BK340.out 2).trans rfl
    have hfz15_0 := blk_frozen BK340.out 0
    have hfz15_1 := blk_frozen BK340.out 1
    have hfz15_2 := blk_frozen BK340.out 2
    have hcz16_0 : wr.cell? ⟨gb341, 0, none⟩ = some (.int .i64 0) := (blk_cell BK341.out 0).trans rfl
    have hcz16_1 : wr.cell? ⟨gb341, 1, none⟩ = some (.int .i64 0) := (blk_cell BK341.out 1).trans rfl
    have hcz16_2 : wr.cell? ⟨gb341, 2, none⟩ = some (.int .i64 0) := (blk_cell BK341.out 2).trans rfl
    have hfz16_0 := blk_frozen BK341.out 0
    have hfz16_1 := blk_frozen BK341.out 1
    have hfz16_2 := blk_frozen BK341.out 2
    go_wp2
    refine bodyPost_ret (results_cell_row rfl _ _ gb341 68 #[.int .i64 x341000_1, .int .i64 x341001_1, .int .i64 x341002_1] (0, 0) _ rfl (by (with_reducible repeat (first | refine blk_drewN ?_ _ | refine blk_drew ?_ | refine blk_alloc ?_ _)); refine blk_put (cs := #[.int .i64 x341000_1, .int .i64 x341001_1, .int .i64 0]) ?_ 2 _ rfl; (with_reducible repeat (first | refine blk_drewN ?_ _ | refine blk_drew ?_ | refine blk_alloc ?_ _)); refine blk_put (cs := #[.int .i64 x341000_1, .int .i64 0, .int .i64 0]) ?_ 1 _ rfl; (with_reducible repeat (first | refine blk_drewN ?_ _ | refine blk_drew ?_ | refine blk_alloc ?_ _)); refine blk_put (cs := #[.int .i64 0, .int .i64 0, .int .i64 0]) ?_ 0 _ rfl; (with_reducible repeat (first | refine blk_drewN ?_ _ | refine blk_drew ?_ | refine blk_alloc ?_ _)); exact BK341.out) Tryd.underlying68 rfl kr_) rfl ?_
    exact ⟨er_, bl2_ GE340.out GE341.out⟩

/-! ### impl_RollOrder: function 22 -/
/-- What the listed package-level variables hold. -/
def Laid (w : World) : Prop := (w.cell? ⟨0, 0, none⟩ = some (.int .i64 0) ∧ w.cell? ⟨0, 1, none⟩ = some (.int .i64 1) ∧ w.cell? ⟨0, 2, none⟩ = some (.int .i64 2)) ∧ True ∧ True
theorem Laid.die {w : World} (h : Laid w) : (w.cell? ⟨0, 0, none⟩ = some (.int .i64 0) ∧ w.cell? ⟨0, 1, none⟩ = some (.int .i64 1) ∧ w.cell? ⟨0, 2, none⟩ = some (.int .i64 2)) := h.1
theorem Laid.pow {w : World} (h : Laid w) : True := h.2.1
theorem Laid.max {w : World} (h : Laid w) : True := h.2.2
theorem Laid.below {w w' : World} (h : Laid w) (hb : Below w.heap.size w w') : Laid w' := ⟨⟨pw_cell_below hb h.1.1, pw_cell_below hb h.1.2.1, pw_cell_below hb h.1.2.2⟩, trivial, trivial⟩
theorem eqHA68 (d : Nat) (w : World) (x0 y0 : Int) (x1 y1 : Int) (x2 y2 : Int) :
  (Op.equalIn (d + 2) 68 (.agg #[.int .i64 x0, .int .i64 x1, .int .i64 x2]) (.agg #[.int .i64 y0, .int .i64 y1, .int .i64 y2])).run Tryd.prog w = .ok (x0 == y0 && (x1 == y1 && (x2 == y2))) w := by
 refine eqA_of Tryd.underlying68 kr_ ?_
 refine eqf_cons (by rfl) (by go_simp; rfl) (by go_simp; rfl) (by go_simp) ?_
 refine eqf_cons (by rfl) (by go_simp; rfl) (by go_simp; rfl) (by go_simp) ?_
 exact eqf_last (by rfl) (by go_simp; rfl) (by go_simp; rfl) (by go_simp)
attribute [local go_sem high] eqHA68
def impl_RollOrder.l0 : Nat → ByteArray → Int → Int → Int → Int → Option (Int × Int)
 | 0, _, _, _, _, _ => none
 | k + 1, a, n, x, y, z => if (!(x == 0) || (!(y == 1) || (!(z == 2)))) = true then ((impl_rollWord.f k x y z a).bind fun d => impl_RollOrder.l0 k a (wrap64 (n + 1)) d.1 d.2.1 d.2.2) else some (n, 0)
def impl_RollOrder.f (k : Nat) (a0 : ByteArray) : Option (Int × Int) := (impl_isWord.f a0).bind fun t => if t = true then (impl_rollWord.f k 0 1 2 a0).bind fun d => impl_RollOrder.l0 k a0 1 d.1 d.2.1 d.2.2 else some (0, 6)
theorem impl_RollOrder.mono_l : ∀ k a n x y z, LeO (impl_RollOrder.l0 k a n x y z) (impl_RollOrder.l0 (k + 1) a n x y z)
 | 0, _, _, _, _, _ => LeO.none _
 | k + 1, a, n, x, y, z => by
  unfold impl_RollOrder.l0
  exact LeO.ite (LeO.bind (impl_rollWord.mono x y z a k) (fun d => impl_RollOrder.mono_l k _ _ _ _ _)) (LeO.refl _)
theorem impl_RollOrder.mono : ∀ a0 k, LeO (impl_RollOrder.f k a0) (impl_RollOrder.f (k + 1) a0) := by
 intro a0 k
 unfold impl_RollOrder.f
 exact LeO.bind (LeO.refl _) (fun t => LeO.ite (LeO.bind (impl_rollWord.mono 0 1 2 a0 k) (fun d => impl_RollOrder.mono_l _ _ _ _ _ _)) (LeO.refl _))
set_option maxHeartbeats 1000000 in
set_option maxRecDepth 100000 in
theorem impl_RollOrder.calls (k : Nat) (a0 : ByteArray) (r1 r2 : Int) (w : World) (h : impl_RollOrder.f k a0 = some (r1, r2)) (hG : Laid w) :
  Calls Tryd.prog 22 #[.string a0] w fun e w' => e = .returned (.tuple #[.int .i64 r1, .int .i64 r2]) ∧ Below w.heap.size w w' := by
 obtain ⟨t, ht, h⟩ := Option.bind_eq_some_iff.1 h
 have hw := impl_isWord.calls a0 t w ht
 clear ht
 cases t with
 | false =>
  simp only [Bool.false_eq_true, if_false, Option.some.injEq, Prod.mk.injEq] at h
  obtain ⟨rfl, rfl⟩ := h
  go_enter Tryd.func22, Tryd.ntmps22
  go_wp2_with (go_at_call 54; refine hw.mono ?_; rintro e w' ⟨rfl, hb⟩)
  go_ret2
  exact ⟨rfl, hb⟩
 | true =>
  simp only [if_true] at h
  obtain ⟨⟨d1, d2, d3⟩, hd, h⟩ := Option.bind_eq_some_iff.1 h
  have hd' := Aside0.mk hd
  clear hd
  have H' := Aside0.mk h
  clear h
  go_enter Tryd.func22, Tryd.ntmps22
  go_wp2_with (go_at_call 54; refine hw.mono ?_; rintro e w1 ⟨rfl, hb⟩; obtain ⟨g0, g1, g2⟩ := (hG.below hb).die)
  refine (impl_rollWord.calls k 0 1 2 a0 d1 d2 d3 _ hd'.out).mono ?_
  rintro e w2 ⟨rfl, hb2⟩
  go_wp2
  have HB := a0_ (below_alloc (below_step hb hb2) (.cells #[.int .i64 d1, .int .i64 d2, .int .i64 d3] 68))
  have HS : Aside0 (w.heap.size ≤ w2.heap.size) := a0_ (below_step hb hb2).size
  have BK : Aside0 ((w2.alloc (.cells #[.int .i64 d1, .int .i64 d2, .int .i64 d3] 68)).heap[w2.heap.size]? = some (.cells #[.int .i64 d1, .int .i64 d2, .int .i64 d3] 68 (0, 0))) := a0_ (heap_alloc_new w2 _)
  clear g0 g1 g2 hb hb2 hw hd'
  go_loopg [4, 5] k (fun kq v4 v5 w' => ∃ (n x y z : Int) (g : Nat), v4 = .int .i64 n ∧ v5 = .pointer (some ⟨g, 0, none⟩) ∧ Aside0 (w.heap.size ≤ g) ∧ Aside0 (impl_RollOrder.l0 kq a0 n x y z = some (r1, r2)) ∧ Aside0 (kq ≤ k) ∧ Aside0 (w'.heap[g]? = some (.cells #[.int .i64 x, .int .i64 y, .int .i64 z] 68 (0, 0))) ∧ Aside0 (Below w.heap.size w w'))
  case atStart => exact ⟨1, d1, d2, d3, _, rfl, rfl, HS, H', ⟨Nat.le_refl _⟩, BK, HB⟩
  case round =>
   clear H' HB BK HS
   obtain ⟨n, x, y, z, g, rfl, rfl, HS, HA, HK, BK, HB⟩ := hrel
   obtain ⟨g0, g1, g2⟩ := (hG.below HB.out).die
   have c0 : wr.cell? ⟨g, 0, none⟩ = some (.int .i64 x) := (blk_cell BK.out 0).trans rfl
   have c1 : wr.cell? ⟨g, 1, none⟩ = some (.int .i64 y) := (blk_cell BK.out 1).trans rfl
   have c2 : wr.cell? ⟨g, 2, none⟩ = some (.int .i64 z) := (blk_cell BK.out 2).trans rfl
   have f0 := blk_frozen BK.out 0
   have f1 := blk_frozen BK.out 1
   have f2 := blk_frozen BK.out 2
   cases gk with
   | zero => exact absurd HA.out (by simp [impl_RollOrder.l0])
   | succ k1 =>
    have H := HA.out
    clear HA
    simp only [impl_RollOrder.l0] at H
    have hu := Tryd.underlying68
    by_cases c : (!(x == 0) || (!(y == 1) || (!(z == 2)))) = true
    ·rw [if_pos c] at H
     obtain ⟨⟨t1, t2, t3⟩, hd, H⟩ := Option.bind_eq_some_iff.1 H
     have hd' := Aside0.mk hd
     have H' := Aside0.mk H
     clear hd H
     go_wp2_with (go_at_call 55; refine (impl_rollWord.calls k1 x y z a0 t1 t2 t3 _ hd'.out).mono ?_; rintro e w3 ⟨rfl, hb3⟩; have B3 := a0_ (blk_below (g := wr.heap.size) (o := .cells #[.int .i64 x, .int .i64 y, .int .i64 z] 68 (0, 0)) (heap_alloc_new wr _) hb3); have e0 : w3.cell? ⟨wr.heap.size, 0, none⟩ = some (.int .i64 x) := (blk_cell B3.out 0).trans rfl; have e1 : w3.cell? ⟨wr.heap.size, 1, none⟩ = some (.int .i64 y) := (blk_cell B3.out 1).trans rfl; have e2 : w3.cell? ⟨wr.heap.size, 2, none⟩ = some (.int .i64 z) := (blk_cell B3.out 2).trans rfl; have i0 := blk_frozen B3.out 0; have i1 := blk_frozen B3.out 1; have i2 := blk_frozen B3.out 2; have HB3 := a0_ (below_step (below_alloc HB.out _) hb3); have HS3 : Aside0 (w.heap.size ≤ wr.heap.size) := Aside0.mk HB.out.size)
     go_roundg k1
     case measure => omega
     case rel => exact ⟨wrap64 (n + 1), t1, t2, t3, wr.heap.size, rfl, rfl, HS3, H', ⟨by have := HK.out; omega⟩, ⟨blk_put (cs := #[.int .i64 t1, .int .i64 t2, .int .i64 z]) (blk_put (cs := #[.int .i64 t1, .int .i64 y, .int .i64 z]) (blk_put (cs := #[.int .i64 x, .int .i64 y, .int .i64 z]) B3.out 0 _ rfl) 1 _ rfl) 2 _ rfl⟩, ⟨below_set (below_set (below_set HB3.out HS3.out) HS3.out) HS3.out⟩⟩
    ·rw [if_neg c] at H
     have cc : (!(x == 0) || (!(y == 1) || (!(z == 2)))) = false := by simpa using c
     clear c
     simp only [Option.some.injEq, Prod.mk.injEq] at H
     obtain ⟨rfl, rfl⟩ := H
     go_wp2
     go_ret2
     exact ⟨rfl, HB.out⟩


end Go.Proofs.YtopceddgiddhlaaDoor.PFnRolled
