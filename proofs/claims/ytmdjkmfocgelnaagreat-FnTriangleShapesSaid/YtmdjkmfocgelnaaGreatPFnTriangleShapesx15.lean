/- Over the kit's printer by a driver of mine (hprint.py), with parts by hand: functions of the program as Lean functions, and that each call comes to exactly these answers. -/
import Derived.Test.YtmdjkmfocgelnaaGreatPFnTriangleShapesx0
import Derived.Test.YtmdjkmfocgelnaaGreatPFnTriangleShapesx10
import Derived.Test.YtmdjkmfocgelnaaGreatPFnTriangleShapesx13
import Derived.Test.YtmdjkmfocgelnaaGreatPFnTriangleShapesx14
namespace Go.Proofs.YtmdjkmfocgelnaaGreat.PFnTriangleShapes
open Go.RowKit Go.Proofs.YtmdjkmfocgelnaaGreatW.PrintWords Go.Proofs.YtmdjkmfocgelnaaGreatW.PrintLast Go.Proofs.YtmdjkmfocgelnaaGreatW.PrintMore
attribute [local go_sem] max2_int min2_int max_two min_two max_three min_three max_four min_four   -- for this text's walks alone
set_option linter.unusedVariables false
set_option linter.unusedSimpArgs false

/-! ### spec_l07Forms: function 81 -/
def spec_l07Forms.l0 : Nat → Int → List (S46) → List (List (S46)) → Bool → Int → Option ((List (List (S46))) × Bool)
 | 0, _, _, _, _, _ => none
 | k + 1, x0, x1, x6, x7, x8 => if x8 < 12 then ((spec_l07Form.f k x0 x1 x8).bind fun t278 => (if x7 = true then ((spec_IsShape.f k t278).bind fun t281 => (if x6.length < 5864062014805 then (spec_l07Forms.l0 k x0 x1 (x6 ++ [t278]) t281 (wrap64 (x8 + 1))) else (none))) else (if x6.length < 5864062014805 then (spec_l07Forms.l0 k x0 x1 (x6 ++ [t278]) false (wrap64 (x8 + 1))) else (none)))) else (some (x6, x7))
def spec_l07Forms.f (k : Nat) (a0 : Int) (l1 : List (S46)) : Option ((List (List (S46))) × Bool) := spec_l07Forms.l0 k a0 l1 (([] : List (List (S46)))) true 0
theorem spec_l07Forms.mono_l : ∀ k, (∀ y0 y1 y2 y3 y4, LeO (spec_l07Forms.l0 k y0 y1 y2 y3 y4) (spec_l07Forms.l0 (k + 1) y0 y1 y2 y3 y4))
 | 0 => fun _ _ _ _ _ r h => by simp [spec_l07Forms.l0] at h
 | k + 1 => by
  have ih0 := spec_l07Forms.mono_l k
  ·intro y0 y1 y2 y3 y4
   unfold spec_l07Forms.l0
   with_reducible (repeat' first | exact ih0 _ _ _ _ _ | exact spec_IsShape.mono _ _ | exact spec_l07Form.mono _ _ _ _ | exact LeO.refl _ | exact LeO.none _ | refine LeO.ite ?_ ?_ | refine LeO.bind ?_ (fun _ => ?_))
theorem spec_l07Forms.mono : ∀ a0 a1 k, LeO (spec_l07Forms.f k a0 a1) (spec_l07Forms.f (k + 1) a0 a1) := by
 intro a0 a1 k
 have ih0 := spec_l07Forms.mono_l k
 unfold spec_l07Forms.f
 with_reducible (repeat' first | exact ih0 _ _ _ _ _ | exact spec_IsShape.mono _ _ | exact spec_l07Form.mono _ _ _ _ | exact LeO.refl _ | exact LeO.none _ | refine LeO.ite ?_ ?_ | refine LeO.bind ?_ (fun _ => ?_))
set_option maxHeartbeats 8000000 in
set_option maxRecDepth 100000 in
theorem spec_l07Forms.calls (k : Nat) (a0 : Int) (A1 : Option Addr) (c1 : Nat) (l1 : List (S46)) (r1 : List (List (S46))) (r2 : Bool) (w : World) (hr1 : Kd.C k46 w A1 l1.length l1) (hc1 : l1.length ≤ c1) (h : spec_l07Forms.f k a0 l1 = some (r1, r2)) :
  Calls Tryz.prog 81 #[.int .i64 a0, .slice A1 l1.length c1] w fun e w' => ∃ v0_ : Value, e = .returned (.tuple #[v0_, .bool r2]) ∧ Kd.S (Kd.slice 46 k46) 35 w' w.heap.size (fun _ => True) v0_ r1 ∧ Below w.heap.size w w' := by
 have HR1 := Aside0.mk hr1
 have HC1 := Aside0.mk hc1
 clear hr1 hc1
 have HB := a0_ (Below.refl w.heap.size w)
 have H : (spec_l07Forms.l0 k a0 l1 (([] : List (List (S46)))) true 0) = some (r1, r2) := h
 clear h
 obtain ⟨y275, hy275⟩ : ∃ y_ : List (List (S46)), y_ = (([] : List (List (S46)))) := ⟨_, rfl⟩
 replace H : (spec_l07Forms.l0 k a0 l1 y275 true 0) = some (r1, r2) := hh_ hy275 H
 have Ny275 := Aside0.mk hy275
 clear hy275
 have H' := Aside0.mk H
 clear H
 go_enter Tryz.func81, Tryz.ntmps81
 go_wp2_with (first | ((with_reducible refine gate_dst (N := 10) rfl ?_); refine Kd.S_lit (Kd.slice 46 k46) _ 35 ?hg (N := 10) ?hd (xs := ([] : List (List (S46)))) (inner := []) (ok := fun _ => True) (okp := fun _ => True) ?hr ?hp (fun _ hk => hk) trivial (Below.refl _ _) (Nat.le_refl _) (by simp) ?_; (case hd => rfl); (case hg => rfl); (case hr => first | (go_simp; done) | (go_simp; rfl)); (case hp => exact (Reps.none _ _)); intro v276 w3 ho4 hb hg_ hnew_; clear hg_ hnew_; (first | rw [← Ny275.out] at ho4 | (simp only [Int.reduceToNat] at ho4; rw [← Ny275.out] at ho4)); have HO277 := a0_ (Kd.S_lower ho4 (below_size (bl0_))); replace HB := a0_ (below_step (bl0_) hb); clear hb ho4))
 go_loopg [6, 7, 8] k (fun kq v6 v7 v8 w' => ∃ (x6_1 : List (List (S46))) (x7_1 : Bool) (x8_1 : Int), v7 = .bool x7_1 ∧ v8 = .int .i64 x8_1 ∧ Aside0 (spec_l07Forms.l0 kq a0 l1 x6_1 x7_1 x8_1 = some (r1, r2)) ∧ Aside0 (kq ≤ k) ∧ Aside0 (Kd.S (Kd.slice 46 k46) 35 w' w.heap.size (fun _ => True) v6 x6_1) ∧ Aside0 (Below w.heap.size w w'))
 case atStart => exact ⟨(y275), (true), (0), rs_, rs_, H', ⟨Nat.le_refl _⟩, ⟨sa_ HO277.out⟩, ⟨bl0_⟩⟩
 case round =>
  clear H'
  try clear c1
  try clear p2
  obtain ⟨x6_1, x7_1, x8_1, rfl, rfl, HA, HK1, HO_6, HB⟩ := hrel
  cases gk with
  | zero => exact absurd HA.out (by simp [spec_l07Forms.l0])
  | succ k1 =>
   have H := HA.out
   clear HA
   simp only [spec_l07Forms.l0] at H
   by_cases c5 : x8_1 < 12
   ·rw [if_pos c5] at H
    have c5b0 : decide (x8_1 < 12) = true := decide_eq_true c5
    clear c5
    obtain ⟨t278, A6, H⟩ := bs_ H
    by_cases c7 : x7_1 = true
    ·subst c7
     rw [if_pos rfl] at H
     obtain ⟨t281, A8, H⟩ := bs_ H
     by_cases c9 : x6_1.length < 5864062014805
     ·rw [if_pos c9] at H
      have LMc9 := Aside0.mk c9
      clear c9
      obtain ⟨y282, hy282⟩ : ∃ y_ : List (List (S46)), y_ = (x6_1 ++ [t278]) := ⟨_, rfl⟩
      replace H : (spec_l07Forms.l0 k1 a0 l1 y282 t281 (wrap64 (x8_1 + 1))) = some (r1, r2) := hh_ hy282 H
      have Ny282 := Aside0.mk hy282
      clear hy282
      have H' := Aside0.mk H
      clear H
      go_wp2_with (first | ((with_reducible refine gate_callee (f := 110) rfl ?_); refine goesL_ (some 18) rfl rfl Tryz.func110 kr_ rfl #[.int .i64 a0, .slice A1 l1.length c1, .int .i64 x8_1] rfl ta_ ?_; (with_reducible refine (spec_l07Form.calls k1 a0 _ _ l1 x8_1 t278 _ ?side1 ?side2 A6.out).mono ?_); (case side1 => exact ca_ (Kd.C_below HR1.out HB.out)); (case side2 => exact HC1.out); rintro e w10 ⟨v279, rfl, ho0, hb⟩; refine ⟨_, rfl, ?_⟩; replace HO_6 := a0_ (Kd.S_elder' (sa_ HO_6.out) (Kd.R_base ho0) hb); have HO280 := a0_ (Kd.R_lower ho0 (below_size (bl0_))); replace HB := a0_ (below_step (bl0_) hb); (try clear hb); (try clear hb2); (try clear hk); (try clear hi); (try clear ho0); obtain ⟨Ao11, co11, eo11⟩ := Kd.R_slice HO280.out; subst eo11) | (go_at_call 111; (with_reducible refine (spec_IsShape.calls k1 _ _ t278 t281 _ ?side1 ?side2 A8.out).mono ?_); (case side1 => exact ca_ (Kd.R_reads' HO280.out).2.2); (case side2 => exact (Kd.R_reads' HO280.out).2.1); rintro e w12 ⟨rfl, hb⟩; replace HO_6 := a0_ (Kd.S_below (sa_ HO_6.out) hb); replace HO280 := a0_ (Kd.R_below (ra_ HO280.out) hb); replace HB := a0_ (below_step (bl0_) hb); (try clear hb); (try clear hb2); (try clear hk); (try clear hi)) | ((with_reducible refine gate_builtin (b := .append) (xs := #[.tmp 24, .tmp 26]) rfl ?_); at_builtin; refine Kd.S_append (Kd.slice 46 k46) (w0 := w) w.heap.size rfl (.tmp 24) (.tmp 26) 25 35 (.slice none 0 0) 24 rfl Tryz.underlying25 info35 rfl (by decide) (by omega) u6 x6_1 t278 [.slice Ao11 t278.length co11] (fun _ => True) (fun k_ => some k_ = (.slice Ao11 t278.length co11 : Value).ownBlock) rfl rfl ?aP (fun k_ hk_ => ((Kd.R_mono (ok' := fun k_ => ((fun _ => True)) k_ ∧ some k_ ≠ (u6 : Value).ownBlock) (Kd.R_apart' (HO280.out) (Kd.S_typed HO_6.out) (by decide)) (fun k_ hk => ⟨trivial, hk.2⟩))).1 k_ hk_.symm) ?aF ?aO ?aB ?aS ?aL ?_; (case aP => exact Kd.M_row (Kd.R_mono (Kd.R_tight rfl (Kd.R_mono (ok' := fun k_ => ((fun _ => True)) k_ ∧ some k_ ≠ (u6 : Value).ownBlock) (Kd.R_apart' (HO280.out) (Kd.S_typed HO_6.out) (by decide)) (fun k_ hk => ⟨trivial, hk.2⟩))) (fun _ h_ => h_))); (case aB => exact (bl0_)); (case aF => exact (fun _ _ => trivial)); (case aO => exact (by (with_reducible repeat (first | apply Kd.S_alloc | apply Kd.S_drewN | apply Kd.S_drew)); exact Kd.S_mono HO_6.out (fun k_ hk => ⟨trivial, fun e_ => hk.2 e_⟩))); (case aS => exact (below_size (bl0_))); (case aL => have := LMc9.out; omega); intro v283 w13 ho hb hg hat; rw [← Ny282.out] at ho; replace HB := a0_ (hb); have HO284 := a0_ (ho); clear HO_6 HO280; clear ho hb hg hat))
      go_roundg k1
      case measure => have := HK1.out; omega
      case rel => exact ⟨(y282), (t281), (wrap64 (x8_1 + 1)), rs_, rs_, H', ⟨by have := HK1.out; omega⟩, ⟨sa_ HO284.out⟩, ⟨bl0_⟩⟩
     ·rw [if_neg c9] at H
      exact absurd H (by simp)
    ·replace c7 := Bool.eq_false_iff.mpr c7
     subst c7
     rw [if_neg (show ¬ (false = true) by decide)] at H
     by_cases c14 : x6_1.length < 5864062014805
     ·rw [if_pos c14] at H
      have LMc14 := Aside0.mk c14
      clear c14
      obtain ⟨y285, hy285⟩ : ∃ y_ : List (List (S46)), y_ = (x6_1 ++ [t278]) := ⟨_, rfl⟩
      replace H : (spec_l07Forms.l0 k1 a0 l1 y285 false (wrap64 (x8_1 + 1))) = some (r1, r2) := hh_ hy285 H
      have Ny285 := Aside0.mk hy285
      clear hy285
      have H' := Aside0.mk H
      clear H
      go_wp2_with (first | ((with_reducible refine gate_callee (f := 110) rfl ?_); refine goesL_ (some 18) rfl rfl Tryz.func110 kr_ rfl #[.int .i64 a0, .slice A1 l1.length c1, .int .i64 x8_1] rfl ta_ ?_; (with_reducible refine (spec_l07Form.calls k1 a0 _ _ l1 x8_1 t278 _ ?side1 ?side2 A6.out).mono ?_); (case side1 => exact ca_ (Kd.C_below HR1.out HB.out)); (case side2 => exact HC1.out); rintro e w15 ⟨v279, rfl, ho0, hb⟩; refine ⟨_, rfl, ?_⟩; replace HO_6 := a0_ (Kd.S_elder' (sa_ HO_6.out) (Kd.R_base ho0) hb); have HO280 := a0_ (Kd.R_lower ho0 (below_size (bl0_))); replace HB := a0_ (below_step (bl0_) hb); (try clear hb); (try clear hb2); (try clear hk); (try clear hi); (try clear ho0); obtain ⟨Ao17, co17, eo17⟩ := Kd.R_slice HO280.out; subst eo17) | ((with_reducible refine gate_builtin (b := .append) (xs := #[.tmp 24, .tmp 26]) rfl ?_); at_builtin; refine Kd.S_append (Kd.slice 46 k46) (w0 := w) w.heap.size rfl (.tmp 24) (.tmp 26) 25 35 (.slice none 0 0) 24 rfl Tryz.underlying25 info35 rfl (by decide) (by omega) u6 x6_1 t278 [.slice Ao17 t278.length co17] (fun _ => True) (fun k_ => some k_ = (.slice Ao17 t278.length co17 : Value).ownBlock) rfl rfl ?aP (fun k_ hk_ => ((Kd.R_mono (ok' := fun k_ => ((fun _ => True)) k_ ∧ some k_ ≠ (u6 : Value).ownBlock) (Kd.R_apart' (HO280.out) (Kd.S_typed HO_6.out) (by decide)) (fun k_ hk => ⟨trivial, hk.2⟩))).1 k_ hk_.symm) ?aF ?aO ?aB ?aS ?aL ?_; (case aP => exact Kd.M_row (Kd.R_mono (Kd.R_tight rfl (Kd.R_mono (ok' := fun k_ => ((fun _ => True)) k_ ∧ some k_ ≠ (u6 : Value).ownBlock) (Kd.R_apart' (HO280.out) (Kd.S_typed HO_6.out) (by decide)) (fun k_ hk => ⟨trivial, hk.2⟩))) (fun _ h_ => h_))); (case aB => exact (bl0_)); (case aF => exact (fun _ _ => trivial)); (case aO => exact (by (with_reducible repeat (first | apply Kd.S_alloc | apply Kd.S_drewN | apply Kd.S_drew)); exact Kd.S_mono HO_6.out (fun k_ hk => ⟨trivial, fun e_ => hk.2 e_⟩))); (case aS => exact (below_size (bl0_))); (case aL => have := LMc14.out; omega); intro v286 w16 ho hb hg hat; rw [← Ny285.out] at ho; replace HB := a0_ (hb); have HO287 := a0_ (ho); clear HO_6 HO280; clear ho hb hg hat))
      go_roundg k1
      case measure => have := HK1.out; omega
      case rel => exact ⟨(y285), (false), (wrap64 (x8_1 + 1)), rs_, rs_, H', ⟨by have := HK1.out; omega⟩, ⟨sa_ HO287.out⟩, ⟨bl0_⟩⟩
     ·rw [if_neg c14] at H
      exact absurd H (by simp)
   ·rw [if_neg c5] at H
    have c5b0 : decide (x8_1 < 12) = false := decide_eq_false c5
    clear c5
    simp only [Option.some.injEq, Prod.mk.injEq] at H
    obtain ⟨rfl, rfl⟩ := H
    go_wp2
    go_ret2
    exact ⟨_, er_, sa_ HO_6.out, bl0_⟩

/-! ### spec_l07Least: function 82 -/
def spec_l07Least.l0 : Nat → List (List (S46)) → List (S46) → Int → Option ((List (S46)))
 | 0, _, _, _ => none
 | k + 1, x0, x3, x4 => if x4 < (x0.length : Int) then (if 0 ≤ x4 then ((spec_CompareShapes.f k (rd_L3 x0 x4) x3).bind fun t290 => (if t290 < 0 then (spec_l07Least.l0 k x0 (rd_L3 x0 x4) (wrap64 (x4 + 1))) else (spec_l07Least.l0 k x0 x3 (wrap64 (x4 + 1))))) else (none)) else (some x3)
def spec_l07Least.f (k : Nat) (l0 : List (List (S46))) : Option ((List (S46))) := if 0 < (l0.length : Int) then (spec_l07Least.l0 k l0 (rd_L3 l0 0) 1) else (none)
theorem spec_l07Least.mono_l : ∀ k, (∀ y0 y1 y2, LeO (spec_l07Least.l0 k y0 y1 y2) (spec_l07Least.l0 (k + 1) y0 y1 y2))
 | 0 => fun _ _ _ r h => by simp [spec_l07Least.l0] at h
 | k + 1 => by
  have ih0 := spec_l07Least.mono_l k
  ·intro y0 y1 y2
   unfold spec_l07Least.l0
   with_reducible (repeat' first | exact ih0 _ _ _ | exact spec_CompareShapes.mono _ _ _ | exact LeO.refl _ | exact LeO.none _ | refine LeO.ite ?_ ?_ | refine LeO.bind ?_ (fun _ => ?_))
theorem spec_l07Least.mono : ∀ a0 k, LeO (spec_l07Least.f k a0) (spec_l07Least.f (k + 1) a0) := by
 intro a0 k
 have ih0 := spec_l07Least.mono_l k
 unfold spec_l07Least.f
 with_reducible (repeat' first | exact ih0 _ _ _ | exact spec_CompareShapes.mono _ _ _ | exact LeO.refl _ | exact LeO.none _ | refine LeO.ite ?_ ?_ | refine LeO.bind ?_ (fun _ => ?_))
set_option maxHeartbeats 8000000 in
set_option maxRecDepth 100000 in
theorem spec_l07Least.calls (k : Nat) (P0_ : Nat → Prop) (A0 : Option Addr) (c0 : Nat) (l0 : List (List (S46))) (r : List (S46)) (w : World) (hs0 : Kd.V (Kd.slice 46 k46) 35 w w.heap.size (fun k_ => P0_ k_) (.slice A0 l0.length c0) l0) (h : spec_l07Least.f k l0 = some r) :
  Calls Tryz.prog 82 #[.slice A0 l0.length c0] w fun e w' => ∃ v0_ : Value, e = .returned (v0_) ∧ Kd.V k46 46 w' w.heap.size (fun k_ => (P0_ k_ ∨ w.heap.size ≤ k_)) v0_ r ∧ Below w.heap.size w w' := by
 have HO0 := a0_ (show Kd.V (Kd.slice 46 k46) 35 w w.heap.size (fun k_ => (P0_ k_ ∨ w.heap.size ≤ k_)) (.slice A0 l0.length c0) l0 from Kd.V_mono hs0 (fun k_ hk => .inl hk))
 have HB := a0_ (Below.refl w.heap.size w)
 have H := h
 clear h
 unfold spec_l07Least.f at H
 by_cases c2 : 0 < (l0.length : Int)
 ·rw [if_pos c2] at H
  have c2b0 : decide (0 < (l0.length : Int)) = true := decide_eq_true c2
  have c2b1 : decide (0 < l0.length) = true := decide_eq_true (by omega)
  clear c2
  have H' := Aside0.mk H
  clear H
  have p288 : 0 ≤ (0 : Int) := (by omega)
  have q288 : 0 < (l0.length : Int) := od_
  obtain ⟨ad288, A288_0, c288_0, e288, hx288_0, hl288_0, hi288_0⟩ := at_L3 (Kd.V_reads' HO0.out).2.2 0 p288 q288
  cases e288
  obtain ⟨ce288, hce288, hMe288, hcc288⟩ := Kd.V_get HO0.out [] 0 p288 (by first | exact q288 | exact od_ | (have e_ := (Kd.V_reads' HO0.out).1; omega))
  obtain ⟨ua288_0, uc288_0, rfl, ul288_0, ge288_0⟩ := Kd.FK_slice_open hMe288
  have hv288_0 := hcc288 0 _ rfl
  rw [Nat.add_zero, show ((Kd.slice 46 k46)).sz = 1 from rfl, Nat.mul_one] at hv288_0
  replace hv288_0 := Option.some.inj (hv288_0.symm.trans hx288_0)
  injection hv288_0 with hva_ hvn_ hvc_
  rw [hva_] at ge288_0
  rw [hvc_] at ul288_0
  have HL288_0 := a0_ (show Kd.V k46 46 _ w.heap.size _ _ (rd_L3 l0 0) from Kd.V_mk ul288_0 ge288_0)
  clear hva_ hvn_ hvc_ ge288_0 ul288_0
  clear hcc288 hce288
  have qi288 : (0 < l0.length) = True := eq_true (by omega)
  (try rw [show ((0 : Int)).toNat = 0 from rfl] at hx288_0)
  (try rw [Addr.add_zero'] at hx288_0)
  have HR288_0 := Aside0.mk hi288_0
  have HC288_0 := Aside0.mk hl288_0
  clear hi288_0 hl288_0
  replace p288 := eq_true p288
  replace q288 := eq_true q288
  go_enter Tryz.func82, Tryz.ntmps82
  go_wp2
  go_loopg [3, 4] k (fun kq v3 v4 w' => ∃ (x3_1 : List (S46)) (x4_1 : Int), v4 = .int .i64 x4_1 ∧ Aside0 (spec_l07Least.l0 kq l0 x3_1 x4_1 = some r) ∧ Aside0 (kq ≤ k) ∧ Aside0 (Kd.V (Kd.slice 46 k46) 35 w' w.heap.size (fun k_ => (P0_ k_ ∨ w.heap.size ≤ k_)) (.slice (some ad288) l0.length c0) l0) ∧ Aside0 (Kd.V k46 46 w' w.heap.size (fun k_ => (P0_ k_ ∨ w.heap.size ≤ k_)) v3 x3_1) ∧ Aside0 (Kd.C k46 w' A288_0 (rd_L3 l0 0).length (rd_L3 l0 0)) ∧ Aside0 (Below w.heap.size w w'))
  case atStart => exact ⟨(rd_L3 l0 0), (1), rs_, H', ⟨Nat.le_refl _⟩, ⟨va_ HO0.out⟩, ⟨va_ HL288_0.out⟩, ⟨by repeat (first | (with_reducible exact HR288_0.out) | (with_reducible refine Kd.C_alloc ?_ _) | (with_reducible refine Kd.C_drewN ?_ _) | (with_reducible refine Kd.C_drew ?_) | exact HR288_0.out)⟩, ⟨bl0_⟩⟩
  case round =>
   clear H'
   try clear c2
   try clear c2b0
   try clear c2b1
   try clear p2
   try clear q2
   try clear hx2
   try clear qi2
   try clear hx288_0
   try clear p288
   try clear q288
   obtain ⟨x3_1, x4_1, rfl, HA, HK1, HO_0, HO_3, HR288_0, HB⟩ := hrel
   cases gk with
   | zero => exact absurd HA.out (by simp [spec_l07Least.l0])
   | succ k1 =>
    have H := HA.out
    clear HA
    simp only [spec_l07Least.l0] at H
    by_cases c3 : x4_1 < (l0.length : Int)
    ·rw [if_pos c3] at H
     have c3b0 : decide (x4_1 < (l0.length : Int)) = true := decide_eq_true c3
     clear c3
     by_cases c4 : 0 ≤ x4_1
     ·rw [if_pos c4] at H
      have c4b0 : decide (0 ≤ x4_1) = true := decide_eq_true c4
      clear c4
      obtain ⟨t290, A5, H⟩ := bs_ H
      by_cases c6 : t290 < 0
      ·rw [if_pos c6] at H
       have c6b0 : decide (t290 < 0) = true := decide_eq_true c6
       clear c6
       have H' := Aside0.mk H
       clear H
       have p289 : 0 ≤ (x4_1 : Int) := od_
       have q289 : x4_1 < (l0.length : Int) := od_
       obtain ⟨ad289, A289_0, c289_0, e289, hx289_0, hl289_0, hi289_0⟩ := at_L3 (Kd.V_reads' HO_0.out).2.2 x4_1 p289 q289
       obtain rfl : ad288 = ad289 := (by injection e289)
       obtain ⟨ce289, hce289, hMe289, hcc289⟩ := Kd.V_get HO_0.out [] x4_1 p289 (by first | exact q289 | exact od_ | (have e_ := (Kd.V_reads' HO_0.out).1; omega))
       obtain ⟨ua289_0, uc289_0, rfl, ul289_0, ge289_0⟩ := Kd.FK_slice_open hMe289
       have hv289_0 := hcc289 0 _ rfl
       rw [Nat.add_zero, show ((Kd.slice 46 k46)).sz = 1 from rfl, Nat.mul_one] at hv289_0
       replace hv289_0 := Option.some.inj (hv289_0.symm.trans hx289_0)
       injection hv289_0 with hva_ hvn_ hvc_
       rw [hva_] at ge289_0
       rw [hvc_] at ul289_0
       have HL289_0 := a0_ (show Kd.V k46 46 _ w.heap.size _ _ (rd_L3 l0 x4_1) from Kd.V_mk ul289_0 ge289_0)
       clear hva_ hvn_ hvc_ ge289_0 ul289_0
       clear hcc289 hce289
       have HR289_0 := Aside0.mk hi289_0
       have HC289_0 := Aside0.mk hl289_0
       clear hi289_0 hl289_0
       replace p289 := eq_true p289
       replace q289 := eq_true q289
       obtain ⟨Ao7, co7, eo7⟩ := Kd.V_slice HO_3.out
       subst eo7
       go_wp2_with (first | ((with_reducible refine gate_callee (f := 63) rfl ?_); refine goesL_ (some 19) rfl rfl Tryz.func63 kr_ rfl #[.slice A289_0 (rd_L3 l0 x4_1).length c289_0, .slice Ao7 x3_1.length co7] rfl ta_ ?_; (with_reducible refine (spec_CompareShapes.calls k1 _ _ (rd_L3 l0 x4_1) _ _ x3_1 t290 _ ?side1 ?side2 ?side3 ?side4 A5.out).mono ?_); (case side1 => repeat (first | exact (by repeat (first | (with_reducible exact HR289_0.out) | (with_reducible refine Kd.C_alloc ?_ _) | (with_reducible refine Kd.C_drewN ?_ _) | (with_reducible refine Kd.C_drew ?_) | exact HR289_0.out)) | (with_reducible refine Kd.C_alloc ?_ _) | (with_reducible refine Kd.C_drewN ?_ _) | (with_reducible refine Kd.C_drew ?_))); (case side2 => exact HC289_0.out); (case side3 => exact ca_ (Kd.V_reads' HO_3.out).2.2); (case side4 => exact (Kd.V_reads' HO_3.out).2.1); rintro e w8 ⟨rfl, hb⟩; refine ⟨_, rfl, ?_⟩; replace HO_0 := a0_ (Kd.V_below (va_ HO_0.out) hb); replace HO_3 := a0_ (Kd.V_below (va_ HO_3.out) hb); replace HL289_0 := a0_ (Kd.V_below (va_ HL289_0.out) hb); replace HR288_0 := a0_ (Kd.C_below (by repeat (first | (with_reducible exact HR288_0.out) | (with_reducible refine Kd.C_alloc ?_ _) | (with_reducible refine Kd.C_drewN ?_ _) | (with_reducible refine Kd.C_drew ?_) | exact HR288_0.out)) hb); replace HR289_0 := a0_ (Kd.C_below (by repeat (first | (with_reducible exact HR289_0.out) | (with_reducible refine Kd.C_alloc ?_ _) | (with_reducible refine Kd.C_drewN ?_ _) | (with_reducible refine Kd.C_drew ?_) | exact HR289_0.out)) hb); replace HB := a0_ (below_step (bl0_) hb); (try clear hb); (try clear hb2); (try clear hk); (try clear hi); have p291 : 0 ≤ (x4_1 : Int) := od_; have q291 : x4_1 < (l0.length : Int) := od_; obtain ⟨ad291, A291_0, c291_0, e291, hx291_0, hl291_0, hi291_0⟩ := at_L3 (Kd.V_reads' HO_0.out).2.2 x4_1 p291 q291; obtain rfl : ad288 = ad291 := (by injection e291); obtain ⟨ce291, hce291, hMe291, hcc291⟩ := Kd.V_get HO_0.out [] x4_1 p291 (by first | exact q291 | exact od_ | (have e_ := (Kd.V_reads' HO_0.out).1; omega)); obtain ⟨ua291_0, uc291_0, rfl, ul291_0, ge291_0⟩ := Kd.FK_slice_open hMe291; have hv291_0 := hcc291 0 _ rfl; rw [Nat.add_zero, show ((Kd.slice 46 k46)).sz = 1 from rfl, Nat.mul_one] at hv291_0; replace hv291_0 := Option.some.inj (hv291_0.symm.trans hx291_0); injection hv291_0 with hva_ hvn_ hvc_; rw [hva_] at ge291_0; rw [hvc_] at ul291_0; have HL291_0 := a0_ (show Kd.V k46 46 _ w.heap.size _ _ (rd_L3 l0 x4_1) from Kd.V_mk ul291_0 ge291_0); clear hva_ hvn_ hvc_ ge291_0 ul291_0; clear hcc291 hce291; have HR291_0 := Aside0.mk hi291_0; have HC291_0 := Aside0.mk hl291_0; clear hi291_0 hl291_0; replace p291 := eq_true p291; replace q291 := eq_true q291))
       go_roundg k1
       case measure => have := HK1.out; omega
       case rel => exact ⟨(rd_L3 l0 x4_1), (wrap64 (x4_1 + 1)), rs_, H', ⟨by have := HK1.out; omega⟩, ⟨va_ HO_0.out⟩, ⟨va_ HL291_0.out⟩, ⟨by repeat (first | (with_reducible exact HR288_0.out) | (with_reducible refine Kd.C_alloc ?_ _) | (with_reducible refine Kd.C_drewN ?_ _) | (with_reducible refine Kd.C_drew ?_) | exact HR288_0.out)⟩, ⟨bl0_⟩⟩
      ·rw [if_neg c6] at H
       have c6b0 : decide (t290 < 0) = false := decide_eq_false c6
       clear c6
       have H' := Aside0.mk H
       clear H
       have p289 : 0 ≤ (x4_1 : Int) := od_
       have q289 : x4_1 < (l0.length : Int) := od_
       obtain ⟨ad289, A289_0, c289_0, e289, hx289_0, hl289_0, hi289_0⟩ := at_L3 (Kd.V_reads' HO_0.out).2.2 x4_1 p289 q289
       obtain rfl : ad288 = ad289 := (by injection e289)
       obtain ⟨ce289, hce289, hMe289, hcc289⟩ := Kd.V_get HO_0.out [] x4_1 p289 (by first | exact q289 | exact od_ | (have e_ := (Kd.V_reads' HO_0.out).1; omega))
       obtain ⟨ua289_0, uc289_0, rfl, ul289_0, ge289_0⟩ := Kd.FK_slice_open hMe289
       have hv289_0 := hcc289 0 _ rfl
       rw [Nat.add_zero, show ((Kd.slice 46 k46)).sz = 1 from rfl, Nat.mul_one] at hv289_0
       replace hv289_0 := Option.some.inj (hv289_0.symm.trans hx289_0)
       injection hv289_0 with hva_ hvn_ hvc_
       rw [hva_] at ge289_0
       rw [hvc_] at ul289_0
       have HL289_0 := a0_ (show Kd.V k46 46 _ w.heap.size _ _ (rd_L3 l0 x4_1) from Kd.V_mk ul289_0 ge289_0)
       clear hva_ hvn_ hvc_ ge289_0 ul289_0
       clear hcc289 hce289
       have HR289_0 := Aside0.mk hi289_0
       have HC289_0 := Aside0.mk hl289_0
       clear hi289_0 hl289_0
       replace p289 := eq_true p289
       replace q289 := eq_true q289
       obtain ⟨Ao9, co9, eo9⟩ := Kd.V_slice HO_3.out
       subst eo9
       go_wp2_with (first | ((with_reducible refine gate_callee (f := 63) rfl ?_); refine goesL_ (some 19) rfl rfl Tryz.func63 kr_ rfl #[.slice A289_0 (rd_L3 l0 x4_1).length c289_0, .slice Ao9 x3_1.length co9] rfl ta_ ?_; (with_reducible refine (spec_CompareShapes.calls k1 _ _ (rd_L3 l0 x4_1) _ _ x3_1 t290 _ ?side1 ?side2 ?side3 ?side4 A5.out).mono ?_); (case side1 => repeat (first | exact (by repeat (first | (with_reducible exact HR289_0.out) | (with_reducible refine Kd.C_alloc ?_ _) | (with_reducible refine Kd.C_drewN ?_ _) | (with_reducible refine Kd.C_drew ?_) | exact HR289_0.out)) | (with_reducible refine Kd.C_alloc ?_ _) | (with_reducible refine Kd.C_drewN ?_ _) | (with_reducible refine Kd.C_drew ?_))); (case side2 => exact HC289_0.out); (case side3 => exact ca_ (Kd.V_reads' HO_3.out).2.2); (case side4 => exact (Kd.V_reads' HO_3.out).2.1); rintro e w10 ⟨rfl, hb⟩; refine ⟨_, rfl, ?_⟩; replace HO_0 := a0_ (Kd.V_below (va_ HO_0.out) hb); replace HO_3 := a0_ (Kd.V_below (va_ HO_3.out) hb); replace HL289_0 := a0_ (Kd.V_below (va_ HL289_0.out) hb); replace HR288_0 := a0_ (Kd.C_below (by repeat (first | (with_reducible exact HR288_0.out) | (with_reducible refine Kd.C_alloc ?_ _) | (with_reducible refine Kd.C_drewN ?_ _) | (with_reducible refine Kd.C_drew ?_) | exact HR288_0.out)) hb); replace HR289_0 := a0_ (Kd.C_below (by repeat (first | (with_reducible exact HR289_0.out) | (with_reducible refine Kd.C_alloc ?_ _) | (with_reducible refine Kd.C_drewN ?_ _) | (with_reducible refine Kd.C_drew ?_) | exact HR289_0.out)) hb); replace HB := a0_ (below_step (bl0_) hb); (try clear hb); (try clear hb2); (try clear hk); (try clear hi)))
       go_roundg k1
       case measure => have := HK1.out; omega
       case rel => exact ⟨(x3_1), (wrap64 (x4_1 + 1)), rs_, H', ⟨by have := HK1.out; omega⟩, ⟨va_ HO_0.out⟩, ⟨va_ HO_3.out⟩, ⟨by repeat (first | (with_reducible exact HR288_0.out) | (with_reducible refine Kd.C_alloc ?_ _) | (with_reducible refine Kd.C_drewN ?_ _) | (with_reducible refine Kd.C_drew ?_) | exact HR288_0.out)⟩, ⟨bl0_⟩⟩
     ·rw [if_neg c4] at H
      exact absurd H (by simp)
    ·rw [if_neg c3] at H
     have c3b0 : decide (x4_1 < (l0.length : Int)) = false := decide_eq_false c3
     clear c3
     obtain rfl := Option.some.inj H
     go_wp2
     go_ret
     exact ⟨_, er_, va_ HO_3.out, bl0_⟩
 ·rw [if_neg c2] at H
  exact absurd H (by simp)

end Go.Proofs.YtmdjkmfocgelnaaGreat.PFnTriangleShapes
