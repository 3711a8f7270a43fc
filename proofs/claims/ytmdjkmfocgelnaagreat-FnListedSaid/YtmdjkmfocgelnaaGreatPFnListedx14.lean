/- Over the kit's printer by a driver of mine (hprint.py), with parts by hand: functions of the program as Lean functions, and that each call comes to exactly these answers. -/
import Derived.Test.YtmdjkmfocgelnaaGreatPFnListedx0
import Derived.Test.YtmdjkmfocgelnaaGreatPFnListedx3
import Derived.Test.YtmdjkmfocgelnaaGreatPFnListedx4
import Derived.Test.YtmdjkmfocgelnaaGreatPFnListedx8
import Derived.Test.YtmdjkmfocgelnaaGreatPFnListedx12
import Derived.Test.YtmdjkmfocgelnaaGreatPFnListedx13
namespace Go.Proofs.YtmdjkmfocgelnaaGreat.PFnListed
open Go.RowKit Go.Proofs.YtmdjkmfocgelnaaGreatW.PrintWords Go.Proofs.YtmdjkmfocgelnaaGreatW.PrintLast Go.Proofs.YtmdjkmfocgelnaaGreatW.PrintMore
attribute [local go_sem] max2_int min2_int max_two min_two max_three min_three max_four min_four   -- for this text's walks alone
set_option linter.unusedVariables false
set_option linter.unusedSimpArgs false

/-! ### spec_DrawRankOf: function 20 -/
def spec_DrawRankOf.f (k : Nat) (l0 : List Int) : Option ((List (S46))) := (spec_l01From.f k l0).bind fun bt372 => ((spec_l01Next.f bt372.1 bt372.2.1 bt372.2.2 5).bind fun bt376 => (if bt376.1 = 0 then ((spec_l02Draw.f k bt372.1 bt376.2.1 bt376.2.2).bind fun bt379 => (some bt379.1)) else ((spec_l02DrawPoly.f k bt372.1 bt376.2.1 bt376.2.2 5).bind fun bt384 => ((spec_l01Next.f bt372.1 bt384.2.1 bt384.2.2 5).bind fun bt389 => ((spec_l01Next.f bt372.1 bt389.2.1 bt389.2.2 5).bind fun bt392 => ((spec_l02Move.f k bt384.1 bt389.1 bt392.1).bind fun t395 => (some t395)))))))
theorem spec_DrawRankOf.mono : ∀ a0 k, LeO (spec_DrawRankOf.f k a0) (spec_DrawRankOf.f (k + 1) a0) := by
 intro a0 k
 unfold spec_DrawRankOf.f
 with_reducible (repeat' first | exact spec_l01From.mono _ _ | exact spec_l02Draw.mono _ _ _ _ | exact spec_l02DrawPoly.mono _ _ _ _ _ | exact spec_l02Move.mono _ _ _ _ | exact LeO.refl _ | exact LeO.none _ | refine LeO.ite ?_ ?_ | refine LeO.bind ?_ (fun _ => ?_))
set_option maxHeartbeats 8000000 in
set_option maxRecDepth 100000 in
theorem spec_DrawRankOf.calls (k : Nat) (A0 : Option Addr) (c0 : Nat) (l0 : List Int) (r : List (S46)) (w : World) (hr0 : Kd.C (Kd.int .u8) w A0 l0.length l0) (hc0 : l0.length ≤ c0) (h : spec_DrawRankOf.f k l0 = some r) :
  Calls Tryz.prog 20 #[.slice A0 l0.length c0] w fun e w' => ∃ v0_ : Value, e = .returned (v0_) ∧ Kd.R k46 46 w' w.heap.size (fun _ => True) v0_ r ∧ Below w.heap.size w w' := by
 have HR0 := Aside0.mk hr0
 have HC0 := Aside0.mk hc0
 clear hr0 hc0
 have HB := a0_ (Below.refl w.heap.size w)
 have H := h
 clear h
 unfold spec_DrawRankOf.f at H
 obtain ⟨⟨t372, t373, t374⟩, A2, H⟩ := bs_ H
 dsimp only at H
 obtain ⟨⟨t376, t377, t378⟩, A3, H⟩ := bs_ H
 dsimp only at H
 by_cases c4 : t376 = 0
 ·rw [if_pos c4] at H
  have c4b0 : (t376 == 0) = true := beq_iff_eq.mpr c4
  have c4b1 : (t376 != 0) = false := bne_eq_false_iff_eq.mpr c4
  clear c4
  obtain ⟨⟨t379, t382, t383⟩, A5, H⟩ := bs_ H
  dsimp only at H
  obtain rfl := Option.some.inj H
  go_enter Tryz.func20, Tryz.ntmps20
  go_wp2_with (first | ((with_reducible refine gate_callee (f := 37) rfl ?_); refine goesL_ (some 5) rfl rfl Tryz.func37 kr_ rfl #[.slice A0 l0.length c0] rfl ta_ ?_; (with_reducible refine (spec_l01From.calls k _ _ l0 t372 t373 t374 w _ ?side1 ?side2 ?side3 A2.out).mono ?_); (case side1 => repeat (first | (with_reducible first | exact HB.out | apply below_alloc | apply pw_below_drewN | apply below_drew1) | exact HB.out)); (case side2 => exact HR0.out); (case side3 => exact HC0.out); rintro e w6 ⟨g375, rfl, hi, hb, hb2⟩; refine ⟨_, rfl, ?_⟩; replace HB := a0_ (hb); have HI375 := a0_ (hi); (try clear hb); (try clear hb2); (try clear hk); (try clear hi)) | ((with_reducible refine gate_callee (f := 38) rfl ?_); refine goesL_ (some 7) rfl rfl Tryz.func38 kr_ rfl #[.pointer (some ⟨g375, 0, none⟩), .int .i64 5] rfl ta_ ?_; (with_reducible refine (spec_l01Next.calls g375 t372 t373 t374 5 t376 t377 t378 w _ ?side1 ?side2 A3.out).mono ?_); (case side1 => exact is85_ HI375.out); (case side2 => exact bl1_ (IsS85.ge HI375.out)); rintro e w7 ⟨rfl, hi, hb, hk⟩; refine ⟨_, rfl, ?_⟩; replace HB := a0_ (hb); replace HI375 := a0_ (hi); (try clear hb); (try clear hb2); (try clear hk); (try clear hi)) | ((with_reducible refine gate_callee (f := 55) rfl ?_); refine goesL_ (some 10) rfl rfl Tryz.func55 kr_ rfl #[.pointer (some ⟨g375, 0, none⟩)] rfl ta_ ?_; (with_reducible refine (spec_l02Draw.calls k g375 t372 t377 t378 t379 t382 t383 w _ ?side1 ?side2 A5.out).mono ?_); (case side1 => exact is85_ HI375.out); (case side2 => exact bl1_ (IsS85.ge HI375.out)); rintro e w8 ⟨v380, rfl, ho0, hi, hb, hk⟩; refine ⟨_, rfl, ?_⟩; have HO381 := a0_ (Kd.R_lower ho0 (below_size (bl1_ (IsS85.ge HI375.out)))); replace HB := a0_ (hb); replace HI375 := a0_ (hi); (try clear hb); (try clear hb2); (try clear hk); (try clear hi); (try clear ho0)))
  go_ret
  exact ⟨_, er_, ra_ HO381.out, bl1_ (IsS85.ge HI375.out)⟩
 ·rw [if_neg c4] at H
  have c4b0 : (t376 == 0) = false := beq_eq_false_iff_ne.mpr c4
  have c4b1 : (t376 != 0) = true := bne_iff_ne.mpr c4
  obtain ⟨⟨t384, t387, t388⟩, A9, H⟩ := bs_ H
  dsimp only at H
  obtain ⟨⟨t389, t390, t391⟩, A10, H⟩ := bs_ H
  dsimp only at H
  obtain ⟨⟨t392, t393, t394⟩, A11, H⟩ := bs_ H
  dsimp only at H
  obtain ⟨t395, A12, H⟩ := bs_ H
  obtain rfl := Option.some.inj H
  go_enter Tryz.func20, Tryz.ntmps20
  go_wp2_with (first | ((with_reducible refine gate_callee (f := 37) rfl ?_); refine goesL_ (some 5) rfl rfl Tryz.func37 kr_ rfl #[.slice A0 l0.length c0] rfl ta_ ?_; (with_reducible refine (spec_l01From.calls k _ _ l0 t372 t373 t374 w _ ?side1 ?side2 ?side3 A2.out).mono ?_); (case side1 => repeat (first | (with_reducible first | exact HB.out | apply below_alloc | apply pw_below_drewN | apply below_drew1) | exact HB.out)); (case side2 => exact HR0.out); (case side3 => exact HC0.out); rintro e w13 ⟨g375, rfl, hi, hb, hb2⟩; refine ⟨_, rfl, ?_⟩; replace HB := a0_ (hb); have HI375 := a0_ (hi); (try clear hb); (try clear hb2); (try clear hk); (try clear hi)) | ((with_reducible refine gate_callee (f := 38) rfl ?_); refine goesL_ (some 7) rfl rfl Tryz.func38 kr_ rfl #[.pointer (some ⟨g375, 0, none⟩), .int .i64 5] rfl ta_ ?_; (with_reducible refine (spec_l01Next.calls g375 t372 t373 t374 5 t376 t377 t378 w _ ?side1 ?side2 A3.out).mono ?_); (case side1 => exact is85_ HI375.out); (case side2 => exact bl1_ (IsS85.ge HI375.out)); rintro e w14 ⟨rfl, hi, hb, hk⟩; refine ⟨_, rfl, ?_⟩; replace HB := a0_ (hb); replace HI375 := a0_ (hi); (try clear hb); (try clear hb2); (try clear hk); (try clear hi)) | ((with_reducible refine gate_callee (f := 57) rfl ?_); refine goesL_ (some 12) rfl rfl Tryz.func57 kr_ rfl #[.pointer (some ⟨g375, 0, none⟩), .int .i64 5] rfl ta_ ?_; (with_reducible refine (spec_l02DrawPoly.calls k g375 t372 t377 t378 5 t384 t387 t388 w _ ?side1 ?side2 A9.out).mono ?_); (case side1 => exact is85_ HI375.out); (case side2 => exact bl1_ (IsS85.ge HI375.out)); rintro e w15 ⟨v385, rfl, ho0, hi, hb, hk⟩; refine ⟨_, rfl, ?_⟩; have HO386 := a0_ (Kd.R_lower ho0 (below_size (bl1_ (IsS85.ge HI375.out)))); replace HB := a0_ (hb); replace HI375 := a0_ (hi); (try clear hb); (try clear hb2); (try clear hk); (try clear hi); (try clear ho0)) | ((with_reducible refine gate_callee (f := 38) rfl ?_); refine goesL_ (some 14) rfl rfl Tryz.func38 kr_ rfl #[.pointer (some ⟨g375, 0, none⟩), .int .i64 5] rfl ta_ ?_; (with_reducible refine (spec_l01Next.calls g375 t372 t387 t388 5 t389 t390 t391 w _ ?side1 ?side2 A10.out).mono ?_); (case side1 => exact is85_ HI375.out); (case side2 => exact bl1_ (IsS85.ge HI375.out)); rintro e w16 ⟨rfl, hi, hb, hk⟩; refine ⟨_, rfl, ?_⟩; replace HO386 := a0_ (Kd.R_mono (Kd.R_keep (IsS85.apart (show IsS85 w _ g375 t372 t387 t388 from is85_ HI375.out) (ra_ HO386.out) (by decide)) hk (fun _ h => h.2)) (fun _ h => h.1)); replace HB := a0_ (hb); replace HI375 := a0_ (hi); (try clear hb); (try clear hb2); (try clear hk); (try clear hi)) | ((with_reducible refine gate_callee (f := 38) rfl ?_); refine goesL_ (some 16) rfl rfl Tryz.func38 kr_ rfl #[.pointer (some ⟨g375, 0, none⟩), .int .i64 5] rfl ta_ ?_; (with_reducible refine (spec_l01Next.calls g375 t372 t390 t391 5 t392 t393 t394 w _ ?side1 ?side2 A11.out).mono ?_); (case side1 => exact is85_ HI375.out); (case side2 => exact bl1_ (IsS85.ge HI375.out)); rintro e w17 ⟨rfl, hi, hb, hk⟩; refine ⟨_, rfl, ?_⟩; replace HO386 := a0_ (Kd.R_mono (Kd.R_keep (IsS85.apart (show IsS85 w _ g375 t372 t390 t391 from is85_ HI375.out) (ra_ HO386.out) (by decide)) hk (fun _ h => h.2)) (fun _ h => h.1)); replace HB := a0_ (hb); replace HI375 := a0_ (hi); (try clear hb); (try clear hb2); (try clear hk); (try clear hi); obtain ⟨Ao18, co18, eo18⟩ := Kd.R_slice HO386.out; subst eo18) | ((with_reducible refine gate_callee (f := 56) rfl ?_); refine goesL_ (some 17) rfl rfl Tryz.func56 kr_ rfl #[.slice Ao18 t384.length co18, .int .i64 t389, .int .i64 t392] rfl ta_ ?_; (with_reducible refine (spec_l02Move.calls k _ _ t384 t389 t392 t395 _ ?side1 ?side2 A12.out).mono ?_); (case side1 => exact ca_ (Kd.R_reads' HO386.out).2.2); (case side2 => exact (Kd.R_reads' HO386.out).2.1); rintro e w19 ⟨v396, rfl, ho0, hb⟩; refine ⟨_, rfl, ?_⟩; have HO397 := a0_ (Kd.R_lower (Kd.R_new' ho0 (Kd.R_lt (ra_ HO386.out))) (below_size (bl1_ (IsS85.ge HI375.out)))); replace HO386 := a0_ (Kd.R_elder' (ra_ HO386.out) (Kd.R_base ho0) hb); replace HB := a0_ (below_step (bl1_ (IsS85.ge HI375.out)) hb); replace HI375 := a0_ (IsS85.below (is85_ HI375.out) hb); (try clear hb); (try clear hb2); (try clear hk); (try clear hi); (try clear ho0)))
  go_ret
  exact ⟨_, er_, by (with_reducible repeat (first | apply Kd.R_alloc | apply Kd.R_drewN | apply Kd.R_drew)); exact Kd.R_mono HO397.out (fun _ hk => trivial), bl1_ (IsS85.ge HI375.out)⟩

/-! ### slices_Max_int64_int64: function 91 -/
def slices_Max_int64_int64.l0 : Nat → List Int → Int → Int → Option (Int)
 | 0, _, _, _ => none
 | k + 1, x0, x3, x4 => if x4 < (x0.length : Int) then (if 0 ≤ x4 then (slices_Max_int64_int64.l0 k x0 (mx x3 (rd x0 x4)) (wrap64 (x4 + 1))) else (none)) else (some x3)
def slices_Max_int64_int64.f (k : Nat) (l0 : List Int) : Option (Int) := if (l0.length : Int) < 1 then (none) else (if 0 < (l0.length : Int) then (slices_Max_int64_int64.l0 k l0 (rd l0 0) 1) else (none))
theorem slices_Max_int64_int64.mono_l : ∀ k, (∀ y0 y1 y2, LeO (slices_Max_int64_int64.l0 k y0 y1 y2) (slices_Max_int64_int64.l0 (k + 1) y0 y1 y2))
 | 0 => fun _ _ _ r h => by simp [slices_Max_int64_int64.l0] at h
 | k + 1 => by
  have ih0 := slices_Max_int64_int64.mono_l k
  ·intro y0 y1 y2
   unfold slices_Max_int64_int64.l0
   with_reducible (repeat' first | exact ih0 _ _ _ | exact LeO.refl _ | exact LeO.none _ | refine LeO.ite ?_ ?_ | refine LeO.bind ?_ (fun _ => ?_))
theorem slices_Max_int64_int64.mono : ∀ a0 k, LeO (slices_Max_int64_int64.f k a0) (slices_Max_int64_int64.f (k + 1) a0) := by
 intro a0 k
 have ih0 := slices_Max_int64_int64.mono_l k
 unfold slices_Max_int64_int64.f
 with_reducible (repeat' first | exact ih0 _ _ _ | exact LeO.refl _ | exact LeO.none _ | refine LeO.ite ?_ ?_ | refine LeO.bind ?_ (fun _ => ?_))
set_option maxHeartbeats 8000000 in
set_option maxRecDepth 100000 in
theorem slices_Max_int64_int64.calls (k : Nat) (A0 : Option Addr) (c0 : Nat) (l0 : List Int) (r : Int) (w : World) (hr0 : Kd.C (Kd.int .i64) w A0 l0.length l0) (hc0 : l0.length ≤ c0) (h : slices_Max_int64_int64.f k l0 = some r) :
  Calls Tryz.prog 91 #[.slice A0 l0.length c0] w fun e w' => e = .returned (.int .i64 r) ∧ Below w.heap.size w w' := by
 have HR0 := Aside0.mk hr0
 have HC0 := Aside0.mk hc0
 clear hr0 hc0
 have HB := a0_ (Below.refl w.heap.size w)
 have H := h
 clear h
 unfold slices_Max_int64_int64.f at H
 by_cases c2 : (l0.length : Int) < 1
 ·rw [if_pos c2] at H
  exact absurd H (by simp)
 ·rw [if_neg c2] at H
  have c2b0 : decide ((l0.length : Int) < 1) = false := decide_eq_false c2
  have c2b1 : decide (l0.length < 1) = false := decide_eq_false (by omega)
  clear c2
  by_cases c3 : 0 < (l0.length : Int)
  ·rw [if_pos c3] at H
   have c3b0 : decide (0 < (l0.length : Int)) = true := decide_eq_true c3
   have c3b1 : decide (0 < l0.length) = true := decide_eq_true (by omega)
   clear c3
   have H' := Aside0.mk H
   clear H
   have p398 : 0 ≤ (0 : Int) := (by omega)
   have q398 : 0 < (l0.length : Int) := od_
   obtain ⟨ad398, e398, hx398_0⟩ := Kd.at_int HR0.out 0 p398 q398
   cases e398
   have qi398 : (0 < l0.length) = True := eq_true (by omega)
   (try rw [show ((0 : Int)).toNat = 0 from rfl] at hx398_0)
   (try rw [Addr.add_zero'] at hx398_0)
   replace p398 := eq_true p398
   replace q398 := eq_true q398
   go_enter Tryz.func91, Tryz.ntmps91
   go_wp2
   go_loopg [3, 4] k (fun kq v3 v4 w' => ∃ (x3_1 : Int) (x4_1 : Int), v3 = .int .i64 x3_1 ∧ v4 = .int .i64 x4_1 ∧ Aside0 (slices_Max_int64_int64.l0 kq l0 x3_1 x4_1 = some r) ∧ Aside0 (kq ≤ k) ∧ Aside0 (Below w.heap.size w w'))
   case atStart => exact ⟨(rd l0 0), (1), rs_, rs_, H', ⟨Nat.le_refl _⟩, ⟨bl0_⟩⟩
   case round =>
    clear H'
    try clear c2
    try clear c2b0
    try clear c2b1
    try clear p2
    try clear c3
    try clear c3b0
    try clear c3b1
    try clear p3
    try clear q3
    try clear hx3
    try clear qi3
    try clear hx398_0
    try clear p398
    try clear q398
    obtain ⟨x3_1, x4_1, rfl, rfl, HA, HK1, HB⟩ := hrel
    cases gk with
    | zero => exact absurd HA.out (by simp [slices_Max_int64_int64.l0])
    | succ k1 =>
     have H := HA.out
     clear HA
     simp only [slices_Max_int64_int64.l0] at H
     by_cases c4 : x4_1 < (l0.length : Int)
     ·rw [if_pos c4] at H
      have c4b0 : decide (x4_1 < (l0.length : Int)) = true := decide_eq_true c4
      clear c4
      by_cases c5 : 0 ≤ x4_1
      ·rw [if_pos c5] at H
       have c5b0 : decide (0 ≤ x4_1) = true := decide_eq_true c5
       clear c5
       obtain ⟨ji6, hji6⟩ : ∃ j_ : Int, (mx x3_1 (rd l0 x4_1)) = j_ := ⟨_, rfl⟩
       replace H : (slices_Max_int64_int64.l0 k1 l0 ji6 (wrap64 (x4_1 + 1))) = some r := by first | (rw [hji6] at H; exact H) | (simp only [hji6] at H ⊢; exact H)
       have hji6_ : (if x3_1 < (rd l0 x4_1) then (rd l0 x4_1) else x3_1) = ji6 := hji6
       have H' := Aside0.mk H
       clear H
       have p399 : 0 ≤ (x4_1 : Int) := od_
       have q399 : x4_1 < (l0.length : Int) := od_
       obtain ⟨ad399, e399, hx399_0⟩ := Kd.at_int HR0.out x4_1 p399 q399
       obtain rfl : ad398 = ad399 := (by injection e399)
       replace hx399_0 := (HB.out.cell (World.block_lt_of_cell? w _ hx399_0)).trans hx399_0
       replace p399 := eq_true p399
       replace q399 := eq_true q399
       go_wp2
       go_roundg k1
       case measure => have := HK1.out; omega
       case rel => exact ⟨(ji6), (wrap64 (x4_1 + 1)), (by first | rfl | (simp; done) | (simp only [← hji6] <;> (first | rfl | simp)) | (simp [*]; done)), rs_, H', ⟨by have := HK1.out; omega⟩, ⟨bl0_⟩⟩
      ·rw [if_neg c5] at H
       exact absurd H (by simp)
     ·rw [if_neg c4] at H
      have c4b0 : decide (x4_1 < (l0.length : Int)) = false := decide_eq_false c4
      clear c4
      obtain rfl := Option.some.inj H
      go_wp2
      go_ret
      exact ⟨er_, bl0_⟩
  ·rw [if_neg c3] at H
   exact absurd H (by simp)

/-! ### impl_parts: function 92 -/
/-- The pair of a cell's numbers; the last place among the first i at which a cell stands. -/
def cellKey (c : S46) : Int × Int := (c.f0, c.f1)
def okc (c : S46) : Prop := (-9223372036854775808 ≤ c.f0 ∧ c.f0 ≤ 9223372036854775807) ∧ (-9223372036854775808 ≤ c.f1 ∧ c.f1 ≤ 9223372036854775807)
instance (c : S46) : Decidable (okc c) := inferInstanceAs (Decidable (_ ∧ _))
def atCell (l : List S46) : Nat → Int × Int → Option Int
 | 0, _ => none
 | i + 1, p => if p = cellKey (rd_T46 l (i : Int)) then some (i : Int) else atCell l i p
def placeF (l : List S46) (i : Nat) (p : Int × Int) : Option Value := (atCell l i p).map (fun q => .int .i64 q)
mutual
def impl_parts.l1 : Nat → List S46 → List Int → Int → Option (List Int)
 | 0, _, _, _ => none
 | k + 1, l, out, i => if i < (l.length : Int) then (if 0 ≤ i then (if rd out i ≥ 0 then impl_parts.l1 k l out (wrap64 (i + 1)) else impl_parts.l2 k l (out.set i.toNat i) i [i] 0) else none) else some out
def impl_parts.l2 : Nat → List S46 → List Int → Int → List Int → Int → Option (List Int)
 | 0, _, _, _, _, _ => none
 | k + 1, l, out, i, list, t => if t < (list.length : Int) then (if (0 ≤ t ∧ 0 ≤ rd list t) ∧ rd list t < (l.length : Int) then ((impl_around.f (rd_T46 l (rd list t)).f0 (rd_T46 l (rd list t)).f1).bind fun ds => impl_parts.l3 k l out i list t ds 0) else none) else impl_parts.l1 k l out (wrap64 (i + 1))
def impl_parts.l3 : Nat → List S46 → List Int → Int → List Int → Int → List S46 → Int → Option (List Int)
 | 0, _, _, _, _, _, _, _ => none
 | k + 1, l, out, i, list, t, ds, j => if j < (ds.length : Int) then (if 0 ≤ j ∧ okc (rd_T46 ds j) then (match atCell l l.length (cellKey (rd_T46 ds j)) with
   | none => impl_parts.l3 k l out i list t ds (wrap64 (j + 1))
   | some q => if 0 ≤ q ∧ q < (l.length : Int) then (if rd out q < 0 then (if list.length < 17592186044416 then impl_parts.l3 k l (out.set q.toNat i) i (list ++ [q]) t ds (wrap64 (j + 1)) else none) else impl_parts.l3 k l out i list t ds (wrap64 (j + 1))) else none) else none) else impl_parts.l2 k l out i list (wrap64 (t + 1))
end
def impl_parts.f (k : Nat) (l : List S46) : Option (List Int) := if (0 < l.length ∧ l.length ≤ 35184372088832) ∧ (∀ c ∈ l, okc c) then impl_parts.l1 k l (List.replicate l.length (-1)) 0 else none
theorem mapZ (w : World) : (zeroValue 3).run Tryz.prog w = .ok (.int .i64 0) w := by kernel_rfl
theorem cellLaid : Go.Maps.Keyed Tryz.prog 46 := Go.Maps.Keyed.of_law (Go.deep_law_laid (m := 3) kr_ (by omega) (of_decide_eq_true kr_) kr_ kr_)
theorem cellKeyed (c : S46) (h : okc c) : ∃ l, keyOf Tryz.prog 46 (enc2 (cellKey c)) = some l :=
 key2 Tryz.underlying46 kr_ kr_ Tryz.underlying2 Tryz.underlying2 kr_ kr_ rfl rfl (by decide) (by decide) ⟨Tryz.prog.types.size - 1, by kernel_rfl⟩ c.f0 c.f1 h.1 h.2
theorem info8 : (Tryz.prog.info? 2).map (fun i => (i.zero, i.size, i.bytes)) = some (some (.int .i64 0), 1, 8) := by kernel_rfl
theorem wrapS (i : Nat) (h : i < 4611686018427387904) : wrap64 ((i : Int) + 1) = ((i + 1 : Nat) : Int) := by unfold wrap64; omega
theorem fillS (i n : Nat) (h : i < n) : (List.replicate i (-1 : Int) ++ List.replicate (n - i) 0).set i (-1) = List.replicate (i + 1) (-1) ++ List.replicate (n - (i + 1)) 0 := by
 rw [List.set_append_right _ _ (by simp), List.length_replicate, Nat.sub_self, List.replicate_succ', List.append_assoc]
 congr 1
 rw [show n - i = (n - (i + 1)) + 1 from by omega, List.replicate_succ]
 rfl
theorem placeS (l : List S46) (i : Nat) (x : Int × Int) : (if x = cellKey (rd_T46 l (i : Int)) then some (Value.int .i64 (i : Int)) else placeF l i x) = placeF l (i + 1) x := by
 unfold placeF
 rw [atCell]
 by_cases h : x = cellKey (rd_T46 l (i : Int))
 ·rw [if_pos h, if_pos h]
  rfl
 ·rw [if_neg h, if_neg h]
theorem rd_mem (l : List S46) (i : Int) (h0 : 0 ≤ i) (h : i < (l.length : Int)) : rd_T46 l i ∈ l := by
 unfold rd_T46
 rw [List.getD_eq_getElem?_getD, List.getElem?_eq_getElem (by omega), Option.getD_some]
 exact List.getElem_mem _
theorem info8i : (Tryz.prog.info? 3).map (fun i => (i.zero, i.size, i.bytes)) = some (some (.int .i64 0), 1, 8) := by kernel_rfl
set_option maxHeartbeats 4000000 in
set_option maxRecDepth 100000 in
theorem impl_parts.calls (k : Nat) (A0 : Option Addr) (c0 : Nat) (l0 : List S46) (r : List Int) (w : World) (hr0 : Kd.C k46 w A0 l0.length l0) (hc0 : l0.length ≤ c0) (h : impl_parts.f k l0 = some r) :
  Calls Tryz.prog 92 #[.slice A0 l0.length c0, .func (.func 66) #[] #[]] w fun e w' => ∃ v0_ : Value, e = .returned v0_ ∧ Kd.R (Kd.int .i64) 2 w' w.heap.size (fun _ => True) v0_ r ∧ Below w.heap.size w w' := by
 unfold impl_parts.f at h
 split at h
 case isFalse => exact absurd h (by simp)
 rename_i hl
 obtain ⟨⟨hp, hl⟩, hok⟩ := hl
 have hu := Tryz.underlying46
 have HR0 := Aside0.mk hr0
 have HL0 := Aside0.mk hc0
 have H' := Aside0.mk h
 have HL := Aside0.mk hl
 have HP := Aside0.mk hp
 have HOK := Aside0.mk hok
 clear hr0 hc0 h hl hok hp
 have HB := a0_ (Below.refl w.heap.size w)
 have hmm := @run_makeMap Tryz.prog
 go_enter Tryz.func92, Tryz.ntmps92
 have HM := a0_ (MapF.made Tryz.prog 46 enc2 w)
 go_wp2_with (first | ((with_reducible refine gate_dst (N := 19) rfl ?_); refine Kd.R_make (Kd.int .i64) (w0 := w) w.heap.size 2 rfl (N := 19) rfl 53 _ _ rfl (l0.length : Int) rfl rfl Tryz.underlying53 (.int .i64 0) 8 info8 rfl (by decide) (by omega) 0 (ok := fun _ => True) (okp := fun _ => True) rfl (fun _ hk => hk) trivial (by omega) (by have := HL.out; omega) (below_alloc HB.out _) (below_size (below_alloc HB.out _)) ?_; intro vo w2 ho hb hg _; obtain ⟨g, cap, eo, gb, _, _, _⟩ := Kd.R_form ho (by have := HP.out; simp; omega); subst eo; have GB := Aside0.mk gb; have HM2 := a0_ (HM.out.grown hg (by simp)); have HO := Aside0.mk ho; have HB2 := Aside0.mk hb; clear ho hb hg gb))
 clear HM HB
 simp only [List.length_replicate, Int.toNat_natCast] at HO ⊢
 have HO0 : Aside0 (Kd.R (Kd.int .i64) 2 w2 w.heap.size (fun _ => True) (.slice (some ⟨g, 0, none⟩) l0.length cap) (List.replicate 0 (-1) ++ List.replicate (l0.length - 0) 0)) := a0_ (by simpa using HO.out)
 have HM0 : Aside0 (MapF Tryz.prog 46 enc2 w2 w.heap.size 0 (placeF l0 0)) := a0_ (HM2.out.ext (fun _ => rfl))
 clear HO HM2
 go_loopg [22] l0.length (fun kq v22 w' => ∃ i : Nat, v22 = .int .i64 (i : Int) ∧ Aside0 (kq + i = l0.length) ∧ Aside0 (MapF Tryz.prog 46 enc2 w' w.heap.size i (placeF l0 i)) ∧ Aside0 (Kd.R (Kd.int .i64) 2 w' w.heap.size (fun _ => True) (.slice (some ⟨g, 0, none⟩) l0.length cap) (List.replicate i (-1) ++ List.replicate (l0.length - i) 0)) ∧ Aside0 (Below w.heap.size w w'))
 case atStart => exact ⟨0, rfl, ⟨by omega⟩, HM0, HO0, HB2⟩
 case round =>
  clear HM0 HO0 HB2
  obtain ⟨i, rfl, HI, HM, HO, HB⟩ := hrel
  cases gk with
  | succ k1 =>
   have c1 : decide ((i : Int) < (l0.length : Int)) = true := decide_eq_true (by have := HI.out; omega)
   have c1n : decide (i < l0.length) = true := decide_eq_true (by have := HI.out; omega)
   have p1 : 0 ≤ (i : Int) := by omega
   have q1 : (i : Int) < (l0.length : Int) := of_decide_eq_true c1
   obtain ⟨ad1, e1, hx0, hx1⟩ := at_T46 HR0.out (i : Int) p1 q1
   cases e1
   rw [Int.toNat_natCast] at hx0 hx1
   replace hx0 := (HB.out.cell (World.block_lt_of_cell? w _ hx0)).trans hx0
   replace hx1 := (HB.out.cell (World.block_lt_of_cell? w _ hx1)).trans hx1
   have KC := a0_ (HOK.out _ (rd_mem l0 (i : Int) p1 q1))
   replace p1 := eq_true p1
   replace q1 := eq_true q1
   go_wp2_with (first | (at_mapUpdate; refine wpList_putF rfl _ _ _ 108 rfl 46 3 cellLaid Tryz.underlying108 enc2 w.heap.size i (placeF l0 i) rfl (HM.out.alloc _) (by have := HI.out; have := HL.out; unfold maxLen; omega) (cellKey (rd_T46 l0 (i : Int))) rfl (fun q hq => enc2_inj _ _ hq) (cellKeyed _ KC.out) (.int .i64 (i : Int)) rfl ?_; intro w3 hm3 hg3; have HM3 := a0_ (hm3.ext (placeS l0 i)); have HO3 := a0_ (Kd.R_mapTurn (Kd.R_alloc HO.out _) (MapF.block (HM.out.alloc _)) hg3); have HB3 := a0_ (below_mapTurn (below_alloc HB.out _) hg3 (Nat.le_refl _) (below_size (below_alloc HB.out _))); clear hm3 hg3; obtain ⟨hx5, hf5⟩ := Kd.R_celln 0 HO3.out (i : Int) (by omega) (of_decide_eq_true c1); rw [Int.toNat_natCast] at hx5 hf5; have HP3 := Kd.R_putg HO3.out (i : Int) (-1); rw [Int.toNat_natCast] at HP3) | ((with_reducible refine gate_store (t := 2) (p := 32) rfl ?_); refine store_event (t := 2) (p := 32) (v := ?vo_) (w1 := (w3.setCell ⟨g, i, none⟩ (.int .i64 (-1)))) ?hg ?ho ?hn ?hr ?_; (case ho => rfl); (case hg => rfl); (case hn => rfl); (case hr => first | (go_simp; done) | (go_simp; rfl)); intro w4 hw; have hg4 : w3.grownBy w4 (some g) := (by rw [hw]; exact HP3.2); have HM4 := a0_ (HM3.out.cellTurn (Kd.R_typed HO3.out g rfl |>.elim fun c hc => ⟨c, _, _, hc⟩) hg4); have HO4 := a0_ (by rw [hw]; exact HP3.1 : Kd.R (Kd.int .i64) 2 w4 w.heap.size (fun _ => True) (.slice (some ⟨g, 0, none⟩) l0.length cap) ((List.replicate i (-1) ++ List.replicate (l0.length - i) 0).set i (-1))); have HB4 := a0_ (by rw [hw]; exact below_set HB3.out GB.out : Below w.heap.size w w4); clear hw HP3 hg4))
   go_roundg k1
   case measure => omega
   case rel => exact ⟨i + 1, by rw [wrapS i (by have := HI.out; have := HL.out; omega)], ⟨by have := HI.out; omega⟩, HM4, ⟨by have h := HO4.out; rw [fillS i l0.length (by have := HI.out; omega)] at h; exact h⟩, HB4⟩
  | zero =>
   obtain rfl : i = l0.length := by have := HI.out; omega
   have c1 : decide ((l0.length : Int) < (l0.length : Int)) = false := decide_eq_false (by omega)
   rw [Nat.sub_self, List.replicate_zero, List.append_nil] at HO
   go_wp2
   clear HI c1
   go_loopg [36] k (fun kq v36 w' => ∃ (out : List Int) (i : Int), v36 = .int .i64 i ∧ Aside0 (impl_parts.l1 kq l0 out i = some r) ∧ Aside0 (kq ≤ k) ∧ Aside0 (MapF Tryz.prog 46 enc2 w' w.heap.size l0.length (placeF l0 l0.length)) ∧ Aside0 (Kd.R (Kd.int .i64) 2 w' w.heap.size (fun _ => True) (.slice (some ⟨g, 0, none⟩) l0.length cap) out) ∧ Aside0 (Below w.heap.size w w'))
   case atStart => exact ⟨_, 0, rfl, H', ⟨Nat.le_refl _⟩, HM, HO, HB⟩
   case round =>
    clear H' HM HO HB
    obtain ⟨out, i, rfl, HA, HK1, HM, HO, HB⟩ := hrel
    cases gk with
    | zero => exact absurd HA.out (by simp [impl_parts.l1])
    | succ k1 =>
     have H := HA.out
     clear HA
     simp only [impl_parts.l1] at H
     by_cases c : i < (l0.length : Int)
     ·rw [if_pos c] at H
      have c0 : decide (i < (l0.length : Int)) = true := decide_eq_true c
      by_cases d : 0 ≤ i
      ·rw [if_pos d] at H
       obtain ⟨hx, hf⟩ := Kd.R_celln 0 HO.out i d c
       replace hx : wr.cell? ⟨g, i.toNat, none⟩ = some (.int .i64 (rd out i)) := hx
       by_cases e : rd out i ≥ 0
       ·rw [if_pos e] at H
        have e0 : decide (0 ≤ rd out i) = true := decide_eq_true e
        have H' := Aside0.mk H
        replace c := eq_true c
        replace d := eq_true d
        clear H e
        go_wp2
        go_roundg k1
        case measure => have := HK1.out; omega
        case rel => exact ⟨out, wrap64 (i + 1), rfl, H', ⟨by have := HK1.out; omega⟩, HM, HO, HB⟩
       ·rw [if_neg e] at H
        have e0 : decide (0 ≤ rd out i) = false := decide_eq_false e
        have H' := Aside0.mk H
        have HP3 := Kd.R_putg HO.out i i
        replace c := eq_true c
        replace d := eq_true d
        clear H e
        have HMc := HM
        have HOc := HO
        have HBc := HB
        go_wp2_with (first | ((with_reducible refine gate_store (t := 2) (p := 47) rfl ?_); refine store_event (t := 2) (p := 47) (v := ?vo_47) (w1 := (wr.setCell ⟨g, (i : Int).toNat, none⟩ (.int .i64 i))) ?hg ?ho ?hn ?hr ?_; (case ho => rfl); (case hg => rfl); (case hn => rfl); (case hr => first | (go_simp; done) | (go_simp; rfl)); intro w4 hw; have hg4 : World.grownBy _ w4 (some g) := (by rw [hw]; exact HP3.2); have nM := a0_ (HMc.out.cellTurn (Kd.R_typed HOc.out g rfl |>.elim fun c hc => ⟨c, _, _, hc⟩) hg4); have nO := a0_ (by rw [hw]; exact HP3.1 : Kd.R (Kd.int .i64) 2 w4 w.heap.size (fun _ => True) (.slice (some ⟨g, 0, none⟩) l0.length cap) (out.set i.toNat i)); have nB := a0_ (by rw [hw]; exact below_set HBc.out GB.out : Below w.heap.size w w4); clear hw HP3; clear hg4) | ((with_reducible refine gate_dst (N := 49) rfl ?_); refine Kd.R_lit (Kd.int .i64) _ 3 ?hg (N := 49) ?hd (xs := ([i] : List Int)) (inner := [.int .i64 i]) (ok := fun _ => True) (okp := fun _ => True) ?hr ?hp (fun _ hk => hk) trivial (Below.refl _ _) (Nat.le_refl _) (by simp) ?_; (case hd => rfl); (case hg => rfl); (case hr => first | (go_simp; done) | (go_simp; rfl)); (case hp => exact (Reps.one (show Kd.M (Kd.int .i64) _ _ _ i [.int .i64 i] from rfl) (Reps.none _ _))); intro vl w5 ho5 hb5 hg5 hn5; have HM5 := a0_ (nM.out.below' hb5); have HO5 := a0_ (Kd.R_below nO.out hb5); have HL5 := a0_ (Kd.R_lower ho5 (below_size nB.out)); have HB5 := a0_ (below_step nB.out hb5); clear ho5 hb5 hg5 hn5))
        clear HMc HOc HBc nM nO nB HM HO HB hx hf c0 c d e0
        go_loopg [10, 11] k1 (fun kq v10 v11 w' => ∃ (out list : List Int) (t : Int), v11 = .int .i64 t ∧ Aside0 (impl_parts.l2 kq l0 out i list t = some r) ∧ Aside0 (kq ≤ k1) ∧ Aside0 (MapF Tryz.prog 46 enc2 w' w.heap.size l0.length (placeF l0 l0.length)) ∧ Aside0 (Kd.R (Kd.int .i64) 2 w' w.heap.size (fun _ => True) (.slice (some ⟨g, 0, none⟩) l0.length cap) out) ∧ Aside0 (Kd.R (Kd.int .i64) 3 w' w.heap.size (fun _ => True) v10 list) ∧ Aside0 (Below w.heap.size w w'))
        case atStart => exact ⟨_, _, 0, rfl, H', ⟨Nat.le_refl _⟩, HM5, HO5, HL5, HB5⟩
        case round =>
         clear H' HM5 HO5 HL5 HB5
         obtain ⟨out, list, t, rfl, HA, HK2, HM, HO, HQ, HB⟩ := hrel
         cases gk with
         | zero => exact absurd HA.out (by simp [impl_parts.l2])
         | succ k2 =>
          have H := HA.out
          clear HA
          simp only [impl_parts.l2] at H
          obtain ⟨Al, cl, el⟩ := Kd.R_slice HQ.out
          subst el
          by_cases c : t < (list.length : Int)
          ·rw [if_pos c] at H
           have c0 : decide (t < (list.length : Int)) = true := decide_eq_true c
           by_cases d : (0 ≤ t ∧ 0 ≤ rd list t) ∧ rd list t < (l0.length : Int)
           ·rw [if_pos d] at H
            obtain ⟨⟨d0, d1⟩, d2⟩ := d
            obtain ⟨ds, hA, H⟩ := Option.bind_eq_some_iff.1 H
            have A' := Aside0.mk hA
            have H' := Aside0.mk H
            clear H hA
            obtain ⟨adl, e1, hxl⟩ := Kd.at_int (Kd.R_reads' HQ.out).2.2 t d0 c
            cases e1
            obtain ⟨ad, e2, hx0, hx1⟩ := at_T46 HR0.out (rd list t) d1 d2
            cases e2
            replace hx0 := (HB.out.cell (World.block_lt_of_cell? w _ hx0)).trans hx0
            replace hx1 := (HB.out.cell (World.block_lt_of_cell? w _ hx1)).trans hx1
            replace c := eq_true c
            replace d0 := eq_true d0
            replace d1 := eq_true d1
            replace d2 := eq_true d2
            go_wp2_with (first | (go_at_call 66; refine (impl_around.calls _ _ ds _ A'.out).mono ?_; rintro e w5 ⟨vd, rfl, hod, hb5⟩; obtain ⟨Ad, cd, ed⟩ := Kd.R_slice hod; subst ed; have HD5 := a0_ (Kd.R_lower hod (below_size HB.out)); have HM5 := a0_ (HM.out.below' hb5); have HO5 := a0_ (Kd.R_below HO.out hb5); have HQ5 := a0_ (Kd.R_below HQ.out hb5); have HB5 := a0_ (below_step HB.out hb5); clear hod hb5))
            clear HM HO HQ HB hx0 hx1 hxl c c0 d0 d1 d2
            go_loopg [10, 66] k2 (fun kq v10 v66 w' => ∃ (out list : List Int) (j : Int), v66 = .int .i64 j ∧ Aside0 (impl_parts.l3 kq l0 out i list t ds j = some r) ∧ Aside0 (kq ≤ k2) ∧ Aside0 (MapF Tryz.prog 46 enc2 w' w.heap.size l0.length (placeF l0 l0.length)) ∧ Aside0 (Kd.R (Kd.int .i64) 2 w' w.heap.size (fun _ => True) (.slice (some ⟨g, 0, none⟩) l0.length cap) out) ∧ Aside0 (Kd.R (Kd.int .i64) 3 w' w.heap.size (fun _ => True) v10 list) ∧ Aside0 (Kd.R k46 46 w' w.heap.size (fun _ => True) (.slice Ad ds.length cd) ds) ∧ Aside0 (Below w.heap.size w w'))
            case atStart => exact ⟨_, _, 0, rfl, H', ⟨Nat.le_refl _⟩, HM5, HO5, HQ5, HD5, HB5⟩
            case round =>
             clear H' HM5 HO5 HQ5 HD5 HB5 A'
             obtain ⟨out, list, j, rfl, HA, HK3, HM, HO, HQ, HD, HB⟩ := hrel
             cases gk with
             | zero => exact absurd HA.out (by simp [impl_parts.l3])
             | succ k3 =>
              have H := HA.out
              clear HA
              simp only [impl_parts.l3] at H
              by_cases c : j < (ds.length : Int)
              ·rw [if_pos c] at H
               have c0 : decide (j < (ds.length : Int)) = true := decide_eq_true c
               by_cases d : 0 ≤ j ∧ okc (rd_T46 ds j)
               ·rw [if_pos d] at H
                obtain ⟨d0, d1⟩ := d
                have KC := Aside0.mk d1
                clear d1
                obtain ⟨ad, e2, hx0, hx1⟩ := at_T46 (Kd.R_reads' HD.out).2.2 j d0 c
                cases e2
                replace c := eq_true c
                replace d0 := eq_true d0
                cases hq : atCell l0 l0.length (cellKey (rd_T46 ds j)) with
                | none =>
                 rw [hq] at H
                 have H' := Aside0.mk H
                 clear H
                 go_wp2_with (first | (at_lookup; refine wpList_lookF rfl _ _ 108 rfl 46 3 cellLaid Tryz.underlying108 (mapZ _) enc2 w.heap.size l0.length (placeF l0 l0.length) rfl (HM.out.alloc _) (cellKey (rd_T46 ds j)) rfl (cellKeyed _ KC.out) none (by unfold placeF; rw [hq]; rfl) (.int .i64 0) false rfl rfl ?_))
                 go_roundg k3
                 case measure => have := HK1.out; have := HK2.out; have := HK3.out; omega
                 case rel => exact ⟨out, list, wrap64 (j + 1), rfl, H', ⟨by have := HK3.out; omega⟩, HM.out.alloc _ |> Aside0.mk, ⟨Kd.R_alloc HO.out _⟩, ⟨Kd.R_alloc HQ.out _⟩, ⟨Kd.R_alloc HD.out _⟩, ⟨below_alloc HB.out _⟩⟩
                | some q =>
                 rw [hq] at H
                 simp only at H
                 by_cases e : 0 ≤ q ∧ q < (l0.length : Int)
                 ·rw [if_pos e] at H
                  obtain ⟨e0, e1⟩ := e
                  obtain ⟨hy, hf⟩ := Kd.R_celln 0 (Kd.R_alloc HO.out (.cells #[.int .i64 (rd_T46 ds j).f0, .int .i64 (rd_T46 ds j).f1] 46)) q e0 e1
                  replace hy : World.cell? _ ⟨g, q.toNat, none⟩ = some (.int .i64 (rd out q)) := hy
                  have HP3 := Kd.R_putg (Kd.R_alloc HO.out (.cells #[.int .i64 (rd_T46 ds j).f0, .int .i64 (rd_T46 ds j).f1] 46)) q i
                  have e0b := decide_eq_true e0
                  have e1b := decide_eq_true e1
                  replace e0 := eq_true e0
                  replace e1 := eq_true e1
                  by_cases f : rd out q < 0
                  ·rw [if_pos f] at H
                   have f0 : decide (rd out q < 0) = true := decide_eq_true f
                   by_cases b : list.length < 17592186044416
                   ·rw [if_pos b] at H
                    have H' := Aside0.mk H
                    have LB := Aside0.mk b
                    clear H b
                    have HMc := a0_ (HM.out.alloc (.cells #[.int .i64 (rd_T46 ds j).f0, .int .i64 (rd_T46 ds j).f1] 46))
                    have HOc := a0_ (Kd.R_alloc HO.out (.cells #[.int .i64 (rd_T46 ds j).f0, .int .i64 (rd_T46 ds j).f1] 46))
                    have HBc := a0_ (below_alloc HB.out (.cells #[.int .i64 (rd_T46 ds j).f0, .int .i64 (rd_T46 ds j).f1] 46))
                    have HQc := a0_ (Kd.R_alloc HQ.out (.cells #[.int .i64 (rd_T46 ds j).f0, .int .i64 (rd_T46 ds j).f1] 46))
                    have HDc := a0_ (Kd.R_alloc HD.out (.cells #[.int .i64 (rd_T46 ds j).f0, .int .i64 (rd_T46 ds j).f1] 46))
                    go_wp2_with (first | (at_lookup; refine wpList_lookF rfl _ _ 108 rfl 46 3 cellLaid Tryz.underlying108 (mapZ _) enc2 w.heap.size l0.length (placeF l0 l0.length) rfl (HM.out.alloc _) (cellKey (rd_T46 ds j)) rfl (cellKeyed _ KC.out) (some (.int .i64 q)) (by unfold placeF; rw [hq]; rfl) (.int .i64 q) true rfl rfl ?_) | ((with_reducible refine gate_store (t := 2) (p := 87) rfl ?_); refine store_event (t := 2) (p := 87) (v := ?vo_87) (w1 := ((wr.alloc (.cells #[.int .i64 (rd_T46 ds j).f0, .int .i64 (rd_T46 ds j).f1] 46)).setCell ⟨g, (q : Int).toNat, none⟩ (.int .i64 i))) ?hg ?ho ?hn ?hr ?_; (case ho => rfl); (case hg => rfl); (case hn => rfl); (case hr => first | (go_simp; done) | (go_simp; rfl)); intro w6 hw; have hg4 : World.grownBy _ w6 (some g) := (by rw [hw]; exact HP3.2); have nM := a0_ (HMc.out.cellTurn (Kd.R_typed HOc.out g rfl |>.elim fun c hc => ⟨c, _, _, hc⟩) hg4); have nO := a0_ (by rw [hw]; exact HP3.1 : Kd.R (Kd.int .i64) 2 w6 w.heap.size (fun _ => True) (.slice (some ⟨g, 0, none⟩) l0.length cap) (out.set q.toNat i)); have nB := a0_ (by rw [hw]; exact below_set HBc.out GB.out : Below w.heap.size w w6); have nQ := a0_ (Kd.R_over' (v := (.slice (some ⟨g, 0, none⟩) l0.length cap)) HQc.out (Kd.R_typed HOc.out) (by decide) hg4); have nD := a0_ (Kd.R_over' (v := (.slice (some ⟨g, 0, none⟩) l0.length cap)) HDc.out (Kd.R_typed HOc.out) (by decide) hg4); clear hw HP3; clear hg4) | ((with_reducible refine gate_builtin (b := .append) (xs := #[.tmp 88, .tmp 90]) rfl ?_); at_builtin; refine Kd.R_append (Kd.int .i64) (w0 := w) w.heap.size rfl (.tmp 88) (.tmp 90) 109 3 (.int .i64 0) 8 rfl Tryz.underlying109 info8i rfl (by decide) (by omega) u10 list q [.int .i64 q] (fun _ => True) (fun _ => False) rfl (by first | (go_simp; done) | (go_simp; rfl)) ?aP (fun _ hk => hk.elim) ?aF ?aO ?aB ?aS ?aL ?_; (case aP => exact rfl); (case aB => exact nB.out); (case aF => exact (fun _ _ => trivial)); (case aO => exact nQ.out); (case aS => exact below_size nB.out); (case aL => have := LB.out; omega); intro v7 w7 ho hb hg hat; have HM7 := a0_ (nM.out.rowTurn nQ.out hg); have HO7 := a0_ (Kd.R_over' nO.out (Kd.R_typed nQ.out) (by decide) hg); have HD7 := a0_ (Kd.R_over' nD.out (Kd.R_typed nQ.out) (by decide) hg); have HQ7 := Aside0.mk ho; have HB7 := Aside0.mk hb; clear ho hb hg hat))
                    go_roundg k3
                    case measure => have := HK1.out; have := HK2.out; have := HK3.out; omega
                    case rel => exact ⟨_, _, wrap64 (j + 1), rfl, H', ⟨by have := HK3.out; omega⟩, HM7, HO7, HQ7, HD7, HB7⟩
                   ·rw [if_neg b] at H
                    exact absurd H (by simp)
                  ·rw [if_neg f] at H
                   have f0 : decide (rd out q < 0) = false := decide_eq_false f
                   have H' := Aside0.mk H
                   clear H HP3
                   go_wp2_with (first | (at_lookup; refine wpList_lookF rfl _ _ 108 rfl 46 3 cellLaid Tryz.underlying108 (mapZ _) enc2 w.heap.size l0.length (placeF l0 l0.length) rfl (HM.out.alloc _) (cellKey (rd_T46 ds j)) rfl (cellKeyed _ KC.out) (some (.int .i64 q)) (by unfold placeF; rw [hq]; rfl) (.int .i64 q) true rfl rfl ?_))
                   go_roundg k3
                   case measure => have := HK1.out; have := HK2.out; have := HK3.out; omega
                   case rel => exact ⟨out, list, wrap64 (j + 1), rfl, H', ⟨by have := HK3.out; omega⟩, HM.out.alloc _ |> Aside0.mk, ⟨Kd.R_alloc HO.out _⟩, ⟨Kd.R_alloc HQ.out _⟩, ⟨Kd.R_alloc HD.out _⟩, ⟨below_alloc HB.out _⟩⟩
                 ·rw [if_neg e] at H
                  exact absurd H (by simp)
               ·rw [if_neg d] at H
                exact absurd H (by simp)
              ·rw [if_neg c] at H
               have c0 : decide (j < (ds.length : Int)) = false := decide_eq_false c
               have H' := Aside0.mk H
               clear H c
               go_wp2
               go_roundg k3
               case measure => have := HK1.out; have := HK2.out; have := HK3.out; omega
               case rel => exact ⟨out, list, wrap64 (t + 1), rfl, H', ⟨by have := HK2.out; have := HK3.out; omega⟩, HM, HO, HQ, HB⟩
           ·rw [if_neg d] at H
            exact absurd H (by simp)
          ·rw [if_neg c] at H
           have c0 : decide (t < (list.length : Int)) = false := decide_eq_false c
           have H' := Aside0.mk H
           clear H c
           go_wp2
           go_roundg k2
           case measure => have := HK1.out; have := HK2.out; omega
           case rel => exact ⟨out, wrap64 (i + 1), rfl, H', ⟨by have := HK1.out; have := HK2.out; omega⟩, HM, HO, HB⟩
      ·rw [if_neg d] at H
       exact absurd H (by simp)
     ·rw [if_neg c] at H
      have c0 : decide (i < (l0.length : Int)) = false := decide_eq_false c
      obtain rfl := Option.some.inj H
      clear H c
      go_wp2
      go_ret
      exact ⟨_, rfl, HO.out, HB.out⟩
theorem impl_parts.mono_l : ∀ k, (∀ l out i, LeO (impl_parts.l1 k l out i) (impl_parts.l1 (k + 1) l out i)) ∧ (∀ l out i list t, LeO (impl_parts.l2 k l out i list t) (impl_parts.l2 (k + 1) l out i list t)) ∧ (∀ l out i list t ds j, LeO (impl_parts.l3 k l out i list t ds j) (impl_parts.l3 (k + 1) l out i list t ds j))
 | 0 => ⟨fun _ _ _ r h => by simp [impl_parts.l1] at h, fun _ _ _ _ _ r h => by simp [impl_parts.l2] at h, fun _ _ _ _ _ _ _ r h => by simp [impl_parts.l3] at h⟩
 | k + 1 => by
  obtain ⟨i1, i2, i3⟩ := impl_parts.mono_l k
  refine ⟨fun l out i => ?_, fun l out i list t => ?_, fun l out i list t ds j => ?_⟩
  ·unfold impl_parts.l1
   exact LeO.ite (LeO.ite (LeO.ite (i1 _ _ _) (i2 _ _ _ _ _)) (LeO.none _)) (LeO.refl _)
  ·unfold impl_parts.l2
   exact LeO.ite (LeO.ite (LeO.bind (LeO.refl _) (fun ds => i3 _ _ _ _ _ _ _)) (LeO.none _)) (i1 _ _ _)
  ·unfold impl_parts.l3
   refine LeO.ite (LeO.ite ?_ (LeO.none _)) (i2 _ _ _ _ _)
   cases atCell l l.length (cellKey (rd_T46 ds j)) with
   | none => exact i3 _ _ _ _ _ _ _
   | some q => exact LeO.ite (LeO.ite (LeO.ite (i3 _ _ _ _ _ _ _) (LeO.none _)) (i3 _ _ _ _ _ _ _)) (LeO.none _)


/-! ### impl_connected: function 48 -/
/-! Whether the cells hang together. -/
def impl_connected.f (k : Nat) (l : List S46) : Option Bool := (impl_parts.f k l).bind fun o => (slices_Max_int64_int64.f k o).bind fun m => if m = 0 then some true else some false
theorem impl_connected.mono (l0 : List S46) (k : Nat) : LeO (impl_connected.f k l0) (impl_connected.f (k + 1) l0) := by
 unfold impl_connected.f
 refine LeO.bind ?_ (fun o => LeO.bind (slices_Max_int64_int64.mono o k) (fun m => LeO.refl _))
 unfold impl_parts.f
 exact LeO.ite ((impl_parts.mono_l k).1 _ _ _) (LeO.refl _)
set_option maxHeartbeats 1000000 in
theorem impl_connected.calls (k : Nat) (A0 : Option Addr) (c0 : Nat) (l0 : List S46) (r : Bool) (w : World) (hr0 : Kd.C k46 w A0 l0.length l0) (hc0 : l0.length ≤ c0) (h : impl_connected.f k l0 = some r) :
  Calls Tryz.prog 48 #[.slice A0 l0.length c0, .func (.func 66) #[] #[]] w fun e w' => e = .returned (.bool r) ∧ Below w.heap.size w w' := by
 unfold impl_connected.f at h
 obtain ⟨o, ho, h⟩ := Option.bind_eq_some_iff.1 h
 obtain ⟨m, hm, h⟩ := Option.bind_eq_some_iff.1 h
 have HP := a0_ (impl_parts.calls k A0 c0 l0 o w hr0 hc0 ho)
 have HM := Aside0.mk hm
 clear ho hm hr0 hc0
 have hd : (m == 0) = r := by
  by_cases c : m = 0
  ·rw [if_pos c] at h
   rw [← Option.some.inj h]
   simp [c]
  ·rw [if_neg c] at h
   rw [← Option.some.inj h]
   simp [c]
 clear h
 go_enter Tryz.func48, Tryz.ntmps48
 go_wp2_with (first | (go_at_call 92; refine HP.out.mono ?_; rintro e w1 ⟨v, rfl, ho, hb⟩; obtain ⟨Ao, co, eo⟩ := Kd.R_slice ho; subst eo; have HO := Aside0.mk ho; have HB := Aside0.mk hb; clear ho hb) | (go_at_call 91; refine (slices_Max_int64_int64.calls k _ _ o m _ (Kd.R_reads' HO.out).2.2 (Kd.R_reads' HO.out).2.1 HM.out).mono ?_; rintro e w2 ⟨rfl, hb2⟩; have HB2 := a0_ (below_step HB.out hb2); clear hb2))
 go_ret
 exact ⟨by rw [← hd]; rfl, HB2.out⟩


/-! ### impl_isCoordinate: function 69 -/
def impl_isCoordinate.f (a0 : Int) : Option (Bool) := (impl_within.f a0 (-100) 100).bind fun t400 => (some t400)
set_option maxHeartbeats 8000000 in
set_option maxRecDepth 100000 in
theorem impl_isCoordinate.calls (a0 : Int) (r : Bool) (w : World) (h : impl_isCoordinate.f a0 = some r) :
  Calls Tryz.prog 69 #[.int .i64 a0] w fun e w' => e = .returned (.bool r) ∧ Drawn0 w w' := by
 have H : ((impl_within.f a0 (-100) 100).bind fun t400 => (some t400)) = some r := h
 clear h
 obtain ⟨t400, A2, H⟩ := bs_ H
 obtain rfl := Option.some.inj H
 go_enter Tryz.func69, Tryz.ntmps69
 go_wp2_with (first | ((with_reducible refine gate_callee (f := 39) rfl ?_); refine goesL_ (some 4) rfl rfl Tryz.func39 kr_ rfl #[.int .i64 a0, .int .i64 (-100), .int .i64 100] rfl ta_ ?_; (with_reducible refine (impl_within.calls a0 (-100) 100 t400 _ A2.out).mono ?_); rintro e w' ⟨rfl, ⟨nd, rfl⟩⟩; refine ⟨_, rfl, ?_⟩))
 go_ret
 exact ⟨by first | rfl | (simp; done) | (simp [*]; done), by repeat (first | exact Drawn0.refl _ | apply Drawn0.step)⟩

end Go.Proofs.YtmdjkmfocgelnaaGreat.PFnListed
