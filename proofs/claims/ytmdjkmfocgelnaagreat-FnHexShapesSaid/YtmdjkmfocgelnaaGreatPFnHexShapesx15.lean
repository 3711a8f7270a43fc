/- Over the kit's printer by a driver of mine (hprint.py), with parts by hand: functions of the program as Lean functions, and that each call comes to exactly these answers. -/
import Derived.Test.YtmdjkmfocgelnaaGreatPFnHexShapesx0
import Derived.Test.YtmdjkmfocgelnaaGreatPFnHexShapesx10
import Derived.Test.YtmdjkmfocgelnaaGreatPFnHexShapesx13
import Derived.Test.YtmdjkmfocgelnaaGreatPFnHexShapesx14
namespace Go.Proofs.YtmdjkmfocgelnaaGreat.PFnHexShapes
open Go.RowKit Go.Proofs.YtmdjkmfocgelnaaGreatW.PrintWords Go.Proofs.YtmdjkmfocgelnaaGreatW.PrintLast Go.Proofs.YtmdjkmfocgelnaaGreatW.PrintMore
attribute [local go_sem] max2_int min2_int max_two min_two max_three min_three max_four min_four   -- for this text's walks alone
set_option linter.unusedVariables false
set_option linter.unusedSimpArgs false

/-! ### spec_l07Forms: function 81 -/
def spec_l07Forms.l0 : Nat → Int → List (S46) → List (List (S46)) → Bool → Int → Option ((List (List (S46))) × Bool)
 | 0, _, _, _, _, _ => none
 | k + 1, x0, x1, x6, x7, x8 => if x8 < 12 then ((spec_l07Form.f k x0 x1 x8).bind fun t274 => (if x7 = true then ((spec_IsShape.f k t274).bind fun t277 => (if x6.length < 5864062014805 then (spec_l07Forms.l0 k x0 x1 (x6 ++ [t274]) t277 (wrap64 (x8 + 1))) else (none))) else (if x6.length < 5864062014805 then (spec_l07Forms.l0 k x0 x1 (x6 ++ [t274]) false (wrap64 (x8 + 1))) else (none)))) else (some (x6, x7))
def spec_l07Forms.f (k : Nat) (a0 : Int) (l1 : List (S46)) : Option ((List (List (S46))) × Bool) := spec_l07Forms.l0 k a0 l1 (([] : List (List (S46)))) true 0
theorem spec_l07Forms.mono_l : ∀ k, (∀ y0 y1 y2 y3 y4, LeO (spec_l07Forms.l0 k y0 y1 y2 y3 y4) (spec_l07Forms.l0 (k + 1) y0 y1 y2 y3 y4))
 | 0 => fun _ _ _ _ _ r h => by simp [spec_l07Forms.l0] at h
 | k + 1 => by
  have ih0 := spec_l07Forms.mono_l k
  ·intro y0 y1 y2 y3 y4
   unfold spec_l07Forms.l0
   with_reducible (repeat' first | exact ih0 _ _ _ _ _ | exact spec_IsShape.mono _ _ | exact spec_l07Form.mono _ _ _ _ | exact LeO.refl _ | exact LeO.none _ | refine LeO.ite ?_ ?_ | refine LeO.bind ?_ (fun _ => ?_))
theorem spec_l07Forms.mono : ∀ a0 a1 k, LeO (spec_l07Forms.f k a0 a1) (spec_l07Forms.f (k + 1) a0 a1) := by
 intro a0 a1 k
 have ih0 := spec_l07Forms.mono_l k
 unfold spec_l07Forms.f
 with_reducible (repeat' first | exact ih0 _ _ _ _ _ | exact spec_IsShape.mono _ _ | exact spec_l07Form.mono _ _ _ _ | exact LeO.refl _ | exact LeO.none _ | refine LeO.ite ?_ ?_ | refine LeO.bind ?_ (fun _ => ?_))
set_option maxHeartbeats 8000000 in
set_option maxRecDepth 100000 in
theorem spec_l07Forms.calls (k : Nat) (a0 : Int) (A1 : Option Addr) (c1 : Nat) (l1 : List (S46)) (r1 : List (List (S46))) (r2 : Bool) (w : World) (hr1 : Kd.C k46 w A1 l1.length l1) (hc1 : l1.length ≤ c1) (h : spec_l07Forms.f k a0 l1 = some (r1, r2)) :
  Calls Tryz.prog 81 #[.int .i64 a0, .slice A1 l1.length c1] w fun e w' => ∃ v0_ : Value, e = .returned (.tuple #[v0_, .bool r2]) ∧ Kd.S (Kd.slice 46 k46) 35 w' w.heap.size (fun _ => True) v0_ r1 ∧ Below w.heap.size w w' := by
 have HR1 := Aside0.mk hr1
 have HC1 := Aside0.mk hc1
 clear hr1 hc1
 have HB := a0_ (Below.refl w.heap.size w)
 have H : (spec_l07Forms.l0 k a0 l1 (([] : List (List (S46)))) true 0) = some (r1, r2) := h
 clear h
 obtain ⟨y271, hy271⟩ : ∃ y_ : List (List (S46)), y_ = (([] : List (List (S46)))) := ⟨_, rfl⟩
 replace H : (spec_l07Forms.l0 k a0 l1 y271 true 0) = some (r1, r2) := hh_ hy271 H
 have Ny271 := Aside0.mk hy271
 clear hy271
 have H' := Aside0.mk H
 clear H
 go_enter Tryz.func81, Tryz.ntmps81
 go_wp2_with (first | ((with_reducible refine gate_dst (N := 10) rfl ?_); refine Kd.S_lit (Kd.slice 46 k46) _ 35 ?hg (N := 10) ?hd (xs := ([] : List (List (S46)))) (inner := []) (ok := fun _ => True) (okp := fun _ => True) ?hr ?hp (fun _ hk => hk) trivial (Below.refl _ _) (Nat.le_refl _) (by simp) ?_; (case hd => rfl); (case hg => rfl); (case hr => first | (go_simp; done) | (go_simp; rfl)); (case hp => exact (Reps.none _ _)); intro v272 w3 ho4 hb hg_ hnew_; clear hg_ hnew_; (first | rw [← Ny271.out] at ho4 | (simp only [Int.reduceToNat] at ho4; rw [← Ny271.out] at ho4)); have HO273 := a0_ (Kd.S_lower ho4 (below_size (bl0_))); replace HB := a0_ (below_step (bl0_) hb); clear hb ho4))
 go_loopg [6, 7, 8] k (fun kq v6 v7 v8 w' => ∃ (x6_1 : List (List (S46))) (x7_1 : Bool) (x8_1 : Int), v7 = .bool x7_1 ∧ v8 = .int .i64 x8_1 ∧ Aside0 (spec_l07Forms.l0 kq a0 l1 x6_1 x7_1 x8_1 = some (r1, r2)) ∧ Aside0 (kq ≤ k) ∧ Aside0 (Kd.S (Kd.slice 46 k46) 35 w' w.heap.size (fun _ => True) v6 x6_1) ∧ Aside0 (Below w.heap.size w w'))
 case atStart => exact ⟨(y271), (true), (0), rs_, rs_, H', ⟨Nat.le_refl _⟩, ⟨sa_ HO273.out⟩, ⟨bl0_⟩⟩
 case round =>
  clear H'
  try clear c1
  try clear p2
  obtain ⟨x6_1, x7_1, x8_1, rfl, rfl, HA, HK1, HO_6, HB⟩ := hrel
  cases gk with
  | zero => exact absurd HA.out (by simp [spec_l07Forms.l0])
  | succ k1 =>
   have H := HA.out
   clear HA
   simp only [spec_l07Forms.l0] at H
   by_cases c5 : x8_1 < 12
   ·rw [if_pos c5] at H
    have c5b0 : decide (x8_1 < 12) = true := decide_eq_true c5
    clear c5
    obtain ⟨t274, A6, H⟩ := bs_ H
    by_cases c7 : x7_1 = true
    ·subst c7
     rw [if_pos rfl] at H
     obtain ⟨t277, A8, H⟩ := bs_ H
     by_cases c9 : x6_1.length < 5864062014805
     ·rw [if_pos c9] at H
      have LMc9 := Aside0.mk c9
      clear c9
      obtain ⟨y278, hy278⟩ : ∃ y_ : List (List (S46)), y_ = (x6_1 ++ [t274]) := ⟨_, rfl⟩
      replace H : (spec_l07Forms.l0 k1 a0 l1 y278 t277 (wrap64 (x8_1 + 1))) = some (r1, r2) := hh_ hy278 H
      have Ny278 := Aside0.mk hy278
      clear hy278
      have H' := Aside0.mk H
      clear H
      go_wp2_with (first | ((with_reducible refine gate_callee (f := 110) rfl ?_); refine goesL_ (some 18) rfl rfl Tryz.func110 kr_ rfl #[.int .i64 a0, .slice A1 l1.length c1, .int .i64 x8_1] rfl ta_ ?_; (with_reducible refine (spec_l07Form.calls k1 a0 _ _ l1 x8_1 t274 _ ?side1 ?side2 A6.out).mono ?_); (case side1 => exact ca_ (Kd.C_below HR1.out HB.out)); (case side2 => exact HC1.out); rintro e w10 ⟨v275, rfl, ho0, hb⟩; refine ⟨_, rfl, ?_⟩; replace HO_6 := a0_ (Kd.S_elder' (sa_ HO_6.out) (Kd.R_base ho0) hb); have HO276 := a0_ (Kd.R_lower ho0 (below_size (bl0_))); replace HB := a0_ (below_step (bl0_) hb); (try clear hb); (try clear hb2); (try clear hk); (try clear hi); (try clear ho0); obtain ⟨Ao11, co11, eo11⟩ := Kd.R_slice HO276.out; subst eo11) | (go_at_call 111; (with_reducible refine (spec_IsShape.calls k1 _ _ t274 t277 _ ?side1 ?side2 A8.out).mono ?_); (case side1 => exact ca_ (Kd.R_reads' HO276.out).2.2); (case side2 => exact (Kd.R_reads' HO276.out).2.1); rintro e w12 ⟨rfl, hb⟩; replace HO_6 := a0_ (Kd.S_below (sa_ HO_6.out) hb); replace HO276 := a0_ (Kd.R_below (ra_ HO276.out) hb); replace HB := a0_ (below_step (bl0_) hb); (try clear hb); (try clear hb2); (try clear hk); (try clear hi)) | ((with_reducible refine gate_builtin (b := .append) (xs := #[.tmp 24, .tmp 26]) rfl ?_); at_builtin; refine Kd.S_append (Kd.slice 46 k46) (w0 := w) w.heap.size rfl (.tmp 24) (.tmp 26) 25 35 (.slice none 0 0) 24 rfl Tryz.underlying25 info35 rfl (by decide) (by omega) u6 x6_1 t274 [.slice Ao11 t274.length co11] (fun _ => True) (fun k_ => some k_ = (.slice Ao11 t274.length co11 : Value).ownBlock) rfl rfl ?aP (fun k_ hk_ => ((Kd.R_mono (ok' := fun k_ => ((fun _ => True)) k_ ∧ some k_ ≠ (u6 : Value).ownBlock) (Kd.R_apart' (HO276.out) (Kd.S_typed HO_6.out) (by decide)) (fun k_ hk => ⟨trivial, hk.2⟩))).1 k_ hk_.symm) ?aF ?aO ?aB ?aS ?aL ?_; (case aP => exact Kd.M_row (Kd.R_mono (Kd.R_tight rfl (Kd.R_mono (ok' := fun k_ => ((fun _ => True)) k_ ∧ some k_ ≠ (u6 : Value).ownBlock) (Kd.R_apart' (HO276.out) (Kd.S_typed HO_6.out) (by decide)) (fun k_ hk => ⟨trivial, hk.2⟩))) (fun _ h_ => h_))); (case aB => exact (bl0_)); (case aF => exact (fun _ _ => trivial)); (case aO => exact (by (with_reducible repeat (first | apply Kd.S_alloc | apply Kd.S_drewN | apply Kd.S_drew)); exact Kd.S_mono HO_6.out (fun k_ hk => ⟨trivial, fun e_ => hk.2 e_⟩))); (case aS => exact (below_size (bl0_))); (case aL => have := LMc9.out; omega); intro v279 w13 ho hb hg hat; rw [← Ny278.out] at ho; replace HB := a0_ (hb); have HO280 := a0_ (ho); clear HO_6 HO276; clear ho hb hg hat))
      go_roundg k1
      case measure => have := HK1.out; omega
      case rel => exact ⟨(y278), (t277), (wrap64 (x8_1 + 1)), rs_, rs_, H', ⟨by have := HK1.out; omega⟩, ⟨sa_ HO280.out⟩, ⟨bl0_⟩⟩
     ·rw [if_neg c9] at H
      exact absurd H (by simp)
    ·replace c7 := Bool.eq_false_iff.mpr c7
     subst c7
     rw [if_neg (show ¬ (false = true) by decide)] at H
     by_cases c14 : x6_1.length < 5864062014805
     ·rw [if_pos c14] at H
      have LMc14 := Aside0.mk c14
      clear c14
      obtain ⟨y281, hy281⟩ : ∃ y_ : List (List (S46)), y_ = (x6_1 ++ [t274]) := ⟨_, rfl⟩
      replace H : (spec_l07Forms.l0 k1 a0 l1 y281 false (wrap64 (x8_1 + 1))) = some (r1, r2) := hh_ hy281 H
      have Ny281 := Aside0.mk hy281
      clear hy281
      have H' := Aside0.mk H
      clear H
      go_wp2_with (first | ((with_reducible refine gate_callee (f := 110) rfl ?_); refine goesL_ (some 18) rfl rfl Tryz.func110 kr_ rfl #[.int .i64 a0, .slice A1 l1.length c1, .int .i64 x8_1] rfl ta_ ?_; (with_reducible refine (spec_l07Form.calls k1 a0 _ _ l1 x8_1 t274 _ ?side1 ?side2 A6.out).mono ?_); (case side1 => exact ca_ (Kd.C_below HR1.out HB.out)); (case side2 => exact HC1.out); rintro e w15 ⟨v275, rfl, ho0, hb⟩; refine ⟨_, rfl, ?_⟩; replace HO_6 := a0_ (Kd.S_elder' (sa_ HO_6.out) (Kd.R_base ho0) hb); have HO276 := a0_ (Kd.R_lower ho0 (below_size (bl0_))); replace HB := a0_ (below_step (bl0_) hb); (try clear hb); (try clear hb2); (try clear hk); (try clear hi); (try clear ho0); obtain ⟨Ao17, co17, eo17⟩ := Kd.R_slice HO276.out; subst eo17) | ((with_reducible refine gate_builtin (b := .append) (xs := #[.tmp 24, .tmp 26]) rfl ?_); at_builtin; refine Kd.S_append (Kd.slice 46 k46) (w0 := w) w.heap.size rfl (.tmp 24) (.tmp 26) 25 35 (.slice none 0 0) 24 rfl Tryz.underlying25 info35 rfl (by decide) (by omega) u6 x6_1 t274 [.slice Ao17 t274.length co17] (fun _ => True) (fun k_ => some k_ = (.slice Ao17 t274.length co17 : Value).ownBlock) rfl rfl ?aP (fun k_ hk_ => ((Kd.R_mono (ok' := fun k_ => ((fun _ => True)) k_ ∧ some k_ ≠ (u6 : Value).ownBlock) (Kd.R_apart' (HO276.out) (Kd.S_typed HO_6.out) (by decide)) (fun k_ hk => ⟨trivial, hk.2⟩))).1 k_ hk_.symm) ?aF ?aO ?aB ?aS ?aL ?_; (case aP => exact Kd.M_row (Kd.R_mono (Kd.R_tight rfl (Kd.R_mono (ok' := fun k_ => ((fun _ => True)) k_ ∧ some k_ ≠ (u6 : Value).ownBlock) (Kd.R_apart' (HO276.out) (Kd.S_typed HO_6.out) (by decide)) (fun k_ hk => ⟨trivial, hk.2⟩))) (fun _ h_ => h_))); (case aB => exact (bl0_)); (case aF => exact (fun _ _ => trivial)); (case aO => exact (by (with_reducible repeat (first | apply Kd.S_alloc | apply Kd.S_drewN | apply Kd.S_drew)); exact Kd.S_mono HO_6.out (fun k_ hk => ⟨trivial, fun e_ => hk.2 e_⟩))); (case aS => exact (below_size (bl0_))); (case aL => have := LMc14.out; omega); intro v282 w16 ho hb hg hat; rw [← Ny281.out] at ho; replace HB := a0_ (hb); have HO283 := a0_ (ho); clear HO_6 HO276; clear ho hb hg hat))
      go_roundg k1
      case measure => have := HK1.out; omega
      case rel => exact ⟨(y281), (false), (wrap64 (x8_1 + 1)), rs_, rs_, H', ⟨by have := HK1.out; omega⟩, ⟨sa_ HO283.out⟩, ⟨bl0_⟩⟩
     ·rw [if_neg c14] at H
      exact absurd H (by simp)
   ·rw [if_neg c5] at H
    have c5b0 : decide (x8_1 < 12) = false := decide_eq_false c5
    clear c5
    simp only [Option.some.injEq, Prod.mk.injEq] at H
    obtain ⟨rfl, rfl⟩ := H
    go_wp2
    go_ret2
    exact ⟨_, er_, sa_ HO_6.out, bl0_⟩

/-! ### spec_l07Least: function 82 -/
def spec_l07Least.l0 : Nat → List (List (S46)) → List (S46) → Int → Option ((List (S46)))
 | 0, _, _, _ => none
 | k + 1, x0, x3, x4 => if x4 < (x0.length : Int) then (if 0 ≤ x4 then ((spec_CompareShapes.f k (rd_L3 x0 x4) x3).bind fun t286 => (if t286 < 0 then (spec_l07Least.l0 k x0 (rd_L3 x0 x4) (wrap64 (x4 + 1))) else (spec_l07Least.l0 k x0 x3 (wrap64 (x4 + 1))))) else (none)) else (some x3)
def spec_l07Least.f (k : Nat) (l0 : List (List (S46))) : Option ((List (S46))) := if 0 < (l0.length : Int) then (spec_l07Least.l0 k l0 (rd_L3 l0 0) 1) else (none)
theorem spec_l07Least.mono_l : ∀ k, (∀ y0 y1 y2, LeO (spec_l07Least.l0 k y0 y1 y2) (spec_l07Least.l0 (k + 1) y0 y1 y2))
 | 0 => fun _ _ _ r h => by simp [spec_l07Least.l0] at h
 | k + 1 => by
  have ih0 := spec_l07Least.mono_l k
  ·intro y0 y1 y2
   unfold spec_l07Least.l0
   with_reducible (repeat' first | exact ih0 _ _ _ | exact spec_CompareShapes.mono _ _ _ | exact LeO.refl _ | exact LeO.none _ | refine LeO.ite ?_ ?_ | refine LeO.bind ?_ (fun _ => ?_))
theorem spec_l07Least.mono : ∀ a0 k, LeO (spec_l07Least.f k a0) (spec_l07Least.f (k + 1) a0) := by
 intro a0 k
 have ih0 := spec_l07Least.mono_l k
 unfold spec_l07Least.f
 with_reducible (repeat' first | exact ih0 _ _ _ | exact spec_CompareShapes.mono _ _ _ | exact LeO.refl _ | exact LeO.none _ | refine LeO.ite ?_ ?_ | refine LeO.bind ?_ (fun _ => ?_))
set_option maxHeartbeats 8000000 in
set_option maxRecDepth 100000 in
theorem spec_l07Least.calls (k : Nat) (P0_ : Nat → Prop) (A0 : Option Addr) (c0 : Nat) (l0 : List (List (S46))) (r : List (S46)) (w : World) (hs0 : Kd.V (Kd.slice 46 k46) 35 w w.heap.size (fun k_ => P0_ k_) (.slice A0 l0.length c0) l0) (h : spec_l07Least.f k l0 = some r) :
  Calls Tryz.prog 82 #[.slice A0 l0.length c0] w fun e w' => ∃ v0_ : Value, e = .returned (v0_) ∧ Kd.V k46 46 w' w.heap.size (fun k_ => (P0_ k_ ∨ w.heap.size ≤ k_)) v0_ r ∧ Below w.heap.size w w' := by
 have HO0 := a0_ (show Kd.V (Kd.slice 46 k46) 35 w w.heap.size (fun k_ => (P0_ k_ ∨ w.heap.size ≤ k_)) (.slice A0 l0.length c0) l0 from Kd.V_mono hs0 (fun k_ hk => .inl hk))
 have HB := a0_ (Below.refl w.heap.size w)
 have H := h
 clear h
 unfold spec_l07Least.f at H
 by_cases c2 : 0 < (l0.length : Int)
 ·rw [if_pos c2] at H
  have c2b0 : decide (0 < (l0.length : Int)) = true := decide_eq_true c2
  have c2b1 : decide (0 < l0.length) = true := decide_eq_true (by omega)
  clear c2
  have H' := Aside0.mk H
  clear H
  have p284 : 0 ≤ (0 : Int) := (by omega)
  have q284 : 0 < (l0.length : Int) := od_
  obtain ⟨ad284, A284_0, c284_0, e284, hx284_0, hl284_0, hi284_0⟩ := at_L3 (Kd.V_reads' HO0.out).2.2 0 p284 q284
  cases e284
  obtain ⟨ce284, hce284, hMe284, hcc284⟩ := Kd.V_get HO0.out [] 0 p284 (by first | exact q284 | exact od_ | (have e_ := (Kd.V_reads' HO0.out).1; omega))
  obtain ⟨ua284_0, uc284_0, rfl, ul284_0, ge284_0⟩ := Kd.FK_slice_open hMe284
  have hv284_0 := hcc284 0 _ rfl
  rw [Nat.add_zero, show ((Kd.slice 46 k46)).sz = 1 from rfl, Nat.mul_one] at hv284_0
  replace hv284_0 := Option.some.inj (hv284_0.symm.trans hx284_0)
  injection hv284_0 with hva_ hvn_ hvc_
  rw [hva_] at ge284_0
  rw [hvc_] at ul284_0
  have HL284_0 := a0_ (show Kd.V k46 46 _ w.heap.size _ _ (rd_L3 l0 0) from Kd.V_mk ul284_0 ge284_0)
  clear hva_ hvn_ hvc_ ge284_0 ul284_0
  clear hcc284 hce284
  have qi284 : (0 < l0.length) = True := eq_true (by omega)
  (try rw [show ((0 : Int)).toNat = 0 from rfl] at hx284_0)
  (try rw [Addr.add_zero'] at hx284_0)
  have HR284_0 := Aside0.mk hi284_0
  have HC284_0 := Aside0.mk hl284_0
  clear hi284_0 hl284_0
  replace p284 := eq_true p284
  replace q284 := eq_true q284
  go_enter Tryz.func82, Tryz.ntmps82
  go_wp2
  go_loopg [3, 4] k (fun kq v3 v4 w' => ∃ (x3_1 : List (S46)) (x4_1 : Int), v4 = .int .i64 x4_1 ∧ Aside0 (spec_l07Least.l0 kq l0 x3_1 x4_1 = some r) ∧ Aside0 (kq ≤ k) ∧ Aside0 (Kd.V (Kd.slice 46 k46) 35 w' w.heap.size (fun k_ => (P0_ k_ ∨ w.heap.size ≤ k_)) (.slice (some ad284) l0.length c0) l0) ∧ Aside0 (Kd.V k46 46 w' w.heap.size (fun k_ => (P0_ k_ ∨ w.heap.size ≤ k_)) v3 x3_1) ∧ Aside0 (Kd.C k46 w' A284_0 (rd_L3 l0 0).length (rd_L3 l0 0)) ∧ Aside0 (Below w.heap.size w w'))
  case atStart => exact ⟨(rd_L3 l0 0), (1), rs_, H', ⟨Nat.le_refl _⟩, ⟨va_ HO0.out⟩, ⟨va_ HL284_0.out⟩, ⟨by repeat (first | (with_reducible exact HR284_0.out) | (with_reducible refine Kd.C_alloc ?_ _) | (with_reducible refine Kd.C_drewN ?_ _) | (with_reducible refine Kd.C_drew ?_) | exact HR284_0.out)⟩, ⟨bl0_⟩⟩
  case round =>
   clear H'
   try clear c2
   try clear c2b0
   try clear c2b1
   try clear p2
   try clear q2
   try clear hx2
   try clear qi2
   try clear hx284_0
   try clear p284
   try clear q284
   obtain ⟨x3_1, x4_1, rfl, HA, HK1, HO_0, HO_3, HR284_0, HB⟩ := hrel
   cases gk with
   | zero => exact absurd HA.out (by simp [spec_l07Least.l0])
   | succ k1 =>
    have H := HA.out
    clear HA
    simp only [spec_l07Least.l0] at H
    by_cases c3 : x4_1 < (l0.length : Int)
    ·rw [if_pos c3] at H
     have c3b0 : decide (x4_1 < (l0.length : Int)) = true := decide_eq_true c3
     clear c3
     by_cases c4 : 0 ≤ x4_1
     ·rw [if_pos c4] at H
      have c4b0 : decide (0 ≤ x4_1) = true := decide_eq_true c4
      clear c4
      obtain ⟨t286, A5, H⟩ := bs_ H
      by_cases c6 : t286 < 0
      ·rw [if_pos c6] at H
       have c6b0 : decide (t286 < 0) = true := decide_eq_true c6
       clear c6
       have H' := Aside0.mk H
       clear H
       have p285 : 0 ≤ (x4_1 : Int) := od_
       have q285 : x4_1 < (l0.length : Int) := od_
       obtain ⟨ad285, A285_0, c285_0, e285, hx285_0, hl285_0, hi285_0⟩ := at_L3 (Kd.V_reads' HO_0.out).2.2 x4_1 p285 q285
       obtain rfl : ad284 = ad285 := (by injection e285)
       obtain ⟨ce285, hce285, hMe285, hcc285⟩ := Kd.V_get HO_0.out [] x4_1 p285 (by first | exact q285 | exact od_ | (have e_ := (Kd.V_reads' HO_0.out).1; omega))
       obtain ⟨ua285_0, uc285_0, rfl, ul285_0, ge285_0⟩ := Kd.FK_slice_open hMe285
       have hv285_0 := hcc285 0 _ rfl
       rw [Nat.add_zero, show ((Kd.slice 46 k46)).sz = 1 from rfl, Nat.mul_one] at hv285_0
       replace hv285_0 := Option.some.inj (hv285_0.symm.trans hx285_0)
       injection hv285_0 with hva_ hvn_ hvc_
       rw [hva_] at ge285_0
       rw [hvc_] at ul285_0
       have HL285_0 := a0_ (show Kd.V k46 46 _ w.heap.size _ _ (rd_L3 l0 x4_1) from Kd.V_mk ul285_0 ge285_0)
       clear hva_ hvn_ hvc_ ge285_0 ul285_0
       clear hcc285 hce285
       have HR285_0 := Aside0.mk hi285_0
       have HC285_0 := Aside0.mk hl285_0
       clear hi285_0 hl285_0
       replace p285 := eq_true p285
       replace q285 := eq_true q285
       obtain ⟨Ao7, co7, eo7⟩ := Kd.V_slice HO_3.out
       subst eo7
       go_wp2_with (first | ((with_reducible refine gate_callee (f := 63) rfl ?_); refine goesL_ (some 19) rfl rfl Tryz.func63 kr_ rfl #[.slice A285_0 (rd_L3 l0 x4_1).length c285_0, .slice Ao7 x3_1.length co7] rfl ta_ ?_; (with_reducible refine (spec_CompareShapes.calls k1 _ _ (rd_L3 l0 x4_1) _ _ x3_1 t286 _ ?side1 ?side2 ?side3 ?side4 A5.out).mono ?_); (case side1 => repeat (first | exact (by repeat (first | (with_reducible exact HR285_0.out) | (with_reducible refine Kd.C_alloc ?_ _) | (with_reducible refine Kd.C_drewN ?_ _) | (with_reducible refine Kd.C_drew ?_) | exact HR285_0.out)) | (with_reducible refine Kd.C_alloc ?_ _) | (with_reducible refine Kd.C_drewN ?_ _) | (with_reducible refine Kd.C_drew ?_))); (case side2 => exact HC285_0.out); (case side3 => exact ca_ (Kd.V_reads' HO_3.out).2.2); (case side4 => exact (Kd.V_reads' HO_3.out).2.1); rintro e w8 ⟨rfl, hb⟩; refine ⟨_, rfl, ?_⟩; replace HO_0 := a0_ (Kd.V_below (va_ HO_0.out) hb); replace HO_3 := a0_ (Kd.V_below (va_ HO_3.out) hb); replace HL285_0 := a0_ (Kd.V_below (va_ HL285_0.out) hb); replace HR284_0 := a0_ (Kd.C_below (by repeat (first | (with_reducible exact HR284_0.out) | (with_reducible refine Kd.C_alloc ?_ _) | (with_reducible refine Kd.C_drewN ?_ _) | (with_reducible refine Kd.C_drew ?_) | exact HR284_0.out)) hb); replace HR285_0 := a0_ (Kd.C_below (by repeat (first | (with_reducible exact HR285_0.out) | (with_reducible refine Kd.C_alloc ?_ _) | (with_reducible refine Kd.C_drewN ?_ _) | (with_reducible refine Kd.C_drew ?_) | exact HR285_0.out)) hb); replace HB := a0_ (below_step (bl0_) hb); (try clear hb); (try clear hb2); (try clear hk); (try clear hi); have p287 : 0 ≤ (x4_1 : Int) := od_; have q287 : x4_1 < (l0.length : Int) := od_; obtain ⟨ad287, A287_0, c287_0, e287, hx287_0, hl287_0, hi287_0⟩ := at_L3 (Kd.V_reads' HO_0.out).2.2 x4_1 p287 q287; obtain rfl : ad284 = ad287 := (by injection e287); obtain ⟨ce287, hce287, hMe287, hcc287⟩ := Kd.V_get HO_0.out [] x4_1 p287 (by first | exact q287 | exact od_ | (have e_ := (Kd.V_reads' HO_0.out).1; omega)); obtain ⟨ua287_0, uc287_0, rfl, ul287_0, ge287_0⟩ := Kd.FK_slice_open hMe287; have hv287_0 := hcc287 0 _ rfl; rw [Nat.add_zero, show ((Kd.slice 46 k46)).sz = 1 from rfl, Nat.mul_one] at hv287_0; replace hv287_0 := Option.some.inj (hv287_0.symm.trans hx287_0); injection hv287_0 with hva_ hvn_ hvc_; rw [hva_] at ge287_0; rw [hvc_] at ul287_0; have HL287_0 := a0_ (show Kd.V k46 46 _ w.heap.size _ _ (rd_L3 l0 x4_1) from Kd.V_mk ul287_0 ge287_0); clear hva_ hvn_ hvc_ ge287_0 ul287_0; clear hcc287 hce287; have HR287_0 := Aside0.mk hi287_0; have HC287_0 := Aside0.mk hl287_0; clear hi287_0 hl287_0; replace p287 := eq_true p287; replace q287 := eq_true q287))
       go_roundg k1
       case measure => have := HK1.out; omega
       case rel => exact ⟨(rd_L3 l0 x4_1), (wrap64 (x4_1 + 1)), rs_, H', ⟨by have := HK1.out; omega⟩, ⟨va_ HO_0.out⟩, ⟨va_ HL287_0.out⟩, ⟨by repeat (first | (with_reducible exact HR284_0.out) | (with_reducible refine Kd.C_alloc ?_ _) | (with_reducible refine Kd.C_drewN ?_ _) | (with_reducible refine Kd.C_drew ?_) | exact HR284_0.out)⟩, ⟨bl0_⟩⟩
      ·rw [if_neg c6] at H
       have c6b0 : decide (t286 < 0) = false := decide_eq_false c6
       clear c6
       have H' := Aside0.mk H
       clear H
       have p285 : 0 ≤ (x4_1 : Int) := od_
       have q285 : x4_1 < (l0.length : Int) := od_
       obtain ⟨ad285, A285_0, c285_0, e285, hx285_0, hl285_0, hi285_0⟩ := at_L3 (Kd.V_reads' HO_0.out).2.2 x4_1 p285 q285
       obtain rfl : ad284 = ad285 := (by injection e285)
       obtain ⟨ce285, hce285, hMe285, hcc285⟩ := Kd.V_get HO_0.out [] x4_1 p285 (by first | exact q285 | exact od_ | (have e_ := (Kd.V_reads' HO_0.out).1; omega))
       obtain ⟨ua285_0, uc285_0, rfl, ul285_0, ge285_0⟩ := Kd.FK_slice_open hMe285
       have hv285_0 := hcc285 0 _ rfl
       rw [Nat.add_zero, show ((Kd.slice 46 k46)).sz = 1 from rfl, Nat.mul_one] at hv285_0
       replace hv285_0 := Option.some.inj (hv285_0.symm.trans hx285_0)
       injection hv285_0 with hva_ hvn_ hvc_
       rw [hva_] at ge285_0
       rw [hvc_] at ul285_0
       have HL285_0 := a0_ (show Kd.V k46 46 _ w.heap.size _ _ (rd_L3 l0 x4_1) from Kd.V_mk ul285_0 ge285_0)
       clear hva_ hvn_ hvc_ ge285_0 ul285_0
       clear hcc285 hce285
       have HR285_0 := Aside0.mk hi285_0
       have HC285_0 := Aside0.mk hl285_0
       clear hi285_0 hl285_0
       replace p285 := eq_true p285
       replace q285 := eq_true q285
       obtain ⟨Ao9, co9, eo9⟩ := Kd.V_slice HO_3.out
       subst eo9
       go_wp2_with (first | ((with_reducible refine gate_callee (f := 63) rfl ?_); refine goesL_ (some 19) rfl rfl Tryz.func63 kr_ rfl #[.slice A285_0 (rd_L3 l0 x4_1).length c285_0, .slice Ao9 x3_1.length co9] rfl ta_ ?_; (with_reducible refine (spec_CompareShapes.calls k1 _ _ (rd_L3 l0 x4_1) _ _ x3_1 t286 _ ?side1 ?side2 ?side3 ?side4 A5.out).mono ?_); (case side1 => repeat (first | exact (by repeat (first | (with_reducible exact HR285_0.out) | (with_reducible refine Kd.C_alloc ?_ _) | (with_reducible refine Kd.C_drewN ?_ _) | (with_reducible refine Kd.C_drew ?_) | exact HR285_0.out)) | (with_reducible refine Kd.C_alloc ?_ _) | (with_reducible refine Kd.C_drewN ?_ _) | (with_reducible refine Kd.C_drew ?_))); (case side2 => exact HC285_0.out); (case side3 => exact ca_ (Kd.V_reads' HO_3.out).2.2); (case side4 => exact (Kd.V_reads' HO_3.out).2.1); rintro e w10 ⟨rfl, hb⟩; refine ⟨_, rfl, ?_⟩; replace HO_0 := a0_ (Kd.V_below (va_ HO_0.out) hb); replace HO_3 := a0_ (Kd.V_below (va_ HO_3.out) hb); replace HL285_0 := a0_ (Kd.V_below (va_ HL285_0.out) hb); replace HR284_0 := a0_ (Kd.C_below (by repeat (first | (with_reducible exact HR284_0.out) | (with_reducible refine Kd.C_alloc ?_ _) | (with_reducible refine Kd.C_drewN ?_ _) | (with_reducible refine Kd.C_drew ?_) | exact HR284_0.out)) hb); replace HR285_0 := a0_ (Kd.C_below (by repeat (first | (with_reducible exact HR285_0.out) | (with_reducible refine Kd.C_alloc ?_ _) | (with_reducible refine Kd.C_drewN ?_ _) | (with_reducible refine Kd.C_drew ?_) | exact HR285_0.out)) hb); replace HB := a0_ (below_step (bl0_) hb); (try clear hb); (try clear hb2); (try clear hk); (try clear hi)))
       go_roundg k1
       case measure => have := HK1.out; omega
       case rel => exact ⟨(x3_1), (wrap64 (x4_1 + 1)), rs_, H', ⟨by have := HK1.out; omega⟩, ⟨va_ HO_0.out⟩, ⟨va_ HO_3.out⟩, ⟨by repeat (first | (with_reducible exact HR284_0.out) | (with_reducible refine Kd.C_alloc ?_ _) | (with_reducible refine Kd.C_drewN ?_ _) | (with_reducible refine Kd.C_drew ?_) | exact HR284_0.out)⟩, ⟨bl0_⟩⟩
     ·rw [if_neg c4] at H
      exact absurd H (by simp)
    ·rw [if_neg c3] at H
     have c3b0 : decide (x4_1 < (l0.length : Int)) = false := decide_eq_false c3
     clear c3
     obtain rfl := Option.some.inj H
     go_wp2
     go_ret
     exact ⟨_, er_, va_ HO_3.out, bl0_⟩
 ·rw [if_neg c2] at H
  exact absurd H (by simp)

end Go.Proofs.YtmdjkmfocgelnaaGreat.PFnHexShapes
