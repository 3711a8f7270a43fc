/- Over the kit's printer by a driver of mine (hprint.py), with parts by hand: functions of the program as Lean functions, and that each call comes to exactly these answers. -/
import Derived.Test.YtmdjkmfocgelnaaGreatPFnHexShapesx0
import Derived.Test.YtmdjkmfocgelnaaGreatPFnHexShapesx10
namespace Go.Proofs.YtmdjkmfocgelnaaGreat.PFnHexShapes
open Go.RowKit Go.Proofs.YtmdjkmfocgelnaaGreatW.PrintWords Go.Proofs.YtmdjkmfocgelnaaGreatW.PrintLast Go.Proofs.YtmdjkmfocgelnaaGreatW.PrintMore
attribute [local go_sem] max2_int min2_int max_two min_two max_three min_three max_four min_four   -- for this text's walks alone
set_option linter.unusedVariables false
set_option linter.unusedSimpArgs false

/-! ### spec_l03Add: function 84 -/
def spec_l03Add.l0 : Nat → List (List (S46)) → List (S46) → List (List (S46)) → Bool → Int → Option ((List (List (S46))))
 | 0, _, _, _, _, _ => none
 | k + 1, x0, x1, x5, x6, x7 => if x7 < (x0.length : Int) then (if 0 ≤ x7 then ((spec_CompareShapes.f k x1 (rd_L3 x0 x7)).bind fun t325 => (if t325 = 0 then (some x0) else (if t325 < 0 then (if x6 = true then (if x5.length < 5864062014805 then (spec_l03Add.l0 k x0 x1 (x5 ++ [rd_L3 x0 x7]) x6 (wrap64 (x7 + 1))) else (none)) else (if x5.length < 5864062014805 then ((some (x5 ++ [x1] : List (List (S46)))).bind fun y330 => (if y330.length < 5864062014805 then (spec_l03Add.l0 k x0 x1 (y330 ++ [rd_L3 x0 x7]) true (wrap64 (x7 + 1))) else (none))) else (none))) else (if x5.length < 5864062014805 then (spec_l03Add.l0 k x0 x1 (x5 ++ [rd_L3 x0 x7]) x6 (wrap64 (x7 + 1))) else (none))))) else (none)) else (if x6 = true then (some x5) else (if x5.length < 5864062014805 then (some (x5 ++ [x1])) else (none)))
def spec_l03Add.f (k : Nat) (l0 : List (List (S46))) (l1 : List (S46)) : Option ((List (List (S46)))) := spec_l03Add.l0 k l0 l1 (([] : List (List (S46)))) false 0
theorem spec_l03Add.mono_l : ∀ k, (∀ y0 y1 y2 y3 y4, LeO (spec_l03Add.l0 k y0 y1 y2 y3 y4) (spec_l03Add.l0 (k + 1) y0 y1 y2 y3 y4))
 | 0 => fun _ _ _ _ _ r h => by simp [spec_l03Add.l0] at h
 | k + 1 => by
  have ih0 := spec_l03Add.mono_l k
  ·intro y0 y1 y2 y3 y4
   unfold spec_l03Add.l0
   with_reducible (repeat' first | exact ih0 _ _ _ _ _ | exact spec_CompareShapes.mono _ _ _ | exact LeO.refl _ | exact LeO.none _ | refine LeO.ite ?_ ?_ | refine LeO.bind ?_ (fun _ => ?_))
theorem spec_l03Add.mono : ∀ a0 a1 k, LeO (spec_l03Add.f k a0 a1) (spec_l03Add.f (k + 1) a0 a1) := by
 intro a0 a1 k
 have ih0 := spec_l03Add.mono_l k
 unfold spec_l03Add.f
 with_reducible (repeat' first | exact ih0 _ _ _ _ _ | exact spec_CompareShapes.mono _ _ _ | exact LeO.refl _ | exact LeO.none _ | refine LeO.ite ?_ ?_ | refine LeO.bind ?_ (fun _ => ?_))
set_option maxHeartbeats 8000000 in
set_option maxRecDepth 100000 in
theorem spec_l03Add.calls (k : Nat) (P0_ : Nat → Prop) (A0 : Option Addr) (c0 : Nat) (l0 : List (List (S46))) (P1_ : Nat → Prop) (A1 : Option Addr) (c1 : Nat) (l1 : List (S46)) (r : List (List (S46))) (w : World) (hs0 : Kd.V (Kd.slice 46 k46) 35 w w.heap.size (fun k_ => P0_ k_) (.slice A0 l0.length c0) l0) (hs1 : Kd.V k46 46 w w.heap.size (fun k_ => P1_ k_) (.slice A1 l1.length c1) l1) (h : spec_l03Add.f k l0 l1 = some r) :
  Calls Tryz.prog 84 #[.slice A0 l0.length c0, .slice A1 l1.length c1] w fun e w' => ∃ v0_ : Value, e = .returned (v0_) ∧ Kd.V (Kd.slice 46 k46) 35 w' w.heap.size (fun k_ => ((P0_ k_ ∨ P1_ k_) ∨ w.heap.size ≤ k_)) v0_ r ∧ Below w.heap.size w w' := by
 have HO0 := a0_ (show Kd.V (Kd.slice 46 k46) 35 w w.heap.size (fun k_ => ((P0_ k_ ∨ P1_ k_) ∨ w.heap.size ≤ k_)) (.slice A0 l0.length c0) l0 from Kd.V_mono hs0 (fun k_ hk => .inl (.inl hk)))
 have HO1 := a0_ (show Kd.V k46 46 w w.heap.size (fun k_ => ((P0_ k_ ∨ P1_ k_) ∨ w.heap.size ≤ k_)) (.slice A1 l1.length c1) l1 from Kd.V_mono hs1 (fun k_ hk => .inl (.inr hk)))
 have HB := a0_ (Below.refl w.heap.size w)
 have H : (spec_l03Add.l0 k l0 l1 (([] : List (List (S46)))) false 0) = some r := h
 clear h
 obtain ⟨y318, hy318⟩ : ∃ y_ : List (List (S46)), y_ = (([] : List (List (S46)))) := ⟨_, rfl⟩
 replace H : (spec_l03Add.l0 k l0 l1 y318 false 0) = some r := hh_ hy318 H
 have Ny318 := Aside0.mk hy318
 clear hy318
 have H' := Aside0.mk H
 clear H
 go_enter Tryz.func84, Tryz.ntmps84
 go_wp2_with (first | ((with_reducible refine gate_dst (N := 9) rfl ?_); refine Kd.N_lit (Kd.slice 46 k46) _ 35 ?hg (N' := 9) ?hd (xs := ([] : List (List (S46)))) (inner := []) (ok := (fun k_ => ((P0_ k_ ∨ P1_ k_) ∨ w.heap.size ≤ k_))) (okp := (fun k_ => ((P0_ k_ ∨ P1_ k_) ∨ w.heap.size ≤ k_))) ?hr ?hp (fun _ hk => hk) ((show ∀ k_, w.heap.size ≤ k_ → (fun k_ => ((P0_ k_ ∨ P1_ k_) ∨ w.heap.size ≤ k_)) k_ from fun k_ hk => (.inr (Nat.le_trans (below_size (bl0_)) hk))) _ (Nat.le_refl _)) (Below.refl _ _) (Nat.le_refl _) (by simp) ?_; (case hd => rfl); (case hg => rfl); (case hr => first | (go_simp; done) | (go_simp; rfl)); (case hp => exact (Reps.none _ _)); intro v319 w3 ho4 hb hg_ hnew_; clear hg_ hnew_; (first | rw [← Ny318.out] at ho4 | (simp only [Int.reduceToNat] at ho4; rw [← Ny318.out] at ho4)); replace HO0 := a0_ (Kd.V_elder' (va_ HO0.out) (Kd.N_base ho4) hb); replace HO1 := a0_ (Kd.V_elder' (va_ HO1.out) (Kd.N_base ho4) hb); have HO320 := a0_ (Kd.N_lower ho4 (below_size (bl0_))); replace HB := a0_ (below_step (bl0_) hb); clear hb ho4))
 go_loopg [5, 6, 7] k (fun kq v5 v6 v7 w' => ∃ (x5_1 : List (List (S46))) (x6_1 : Bool) (x7_1 : Int), v6 = .bool x6_1 ∧ v7 = .int .i64 x7_1 ∧ Aside0 (spec_l03Add.l0 kq l0 l1 x5_1 x6_1 x7_1 = some r) ∧ Aside0 (kq ≤ k) ∧ Aside0 (Kd.V (Kd.slice 46 k46) 35 w' w.heap.size (fun k_ => ((P0_ k_ ∨ P1_ k_) ∨ w.heap.size ≤ k_) ∧ some k_ ≠ (v5 : Value).ownBlock) (.slice A0 l0.length c0) l0) ∧ Aside0 (Kd.V k46 46 w' w.heap.size (fun k_ => ((P0_ k_ ∨ P1_ k_) ∨ w.heap.size ≤ k_) ∧ some k_ ≠ (v5 : Value).ownBlock) (.slice A1 l1.length c1) l1) ∧ Aside0 (Kd.N (Kd.slice 46 k46) 35 w' w.heap.size (fun k_ => ((P0_ k_ ∨ P1_ k_) ∨ w.heap.size ≤ k_)) v5 x5_1) ∧ Aside0 (Below w.heap.size w w'))
 case atStart => exact ⟨(y318), (false), (0), rs_, rs_, H', ⟨Nat.le_refl _⟩, ⟨va_ HO0.out⟩, ⟨va_ HO1.out⟩, ⟨by (with_reducible repeat (first | apply Kd.N_alloc | apply Kd.N_drewN | apply Kd.N_drew)); exact HO320.out⟩, ⟨bl0_⟩⟩
 case round =>
  clear H'
  try clear c1
  try clear p2
  obtain ⟨x5_1, x6_1, x7_1, rfl, rfl, HA, HK1, HO_0, HO_1, HO_5, HB⟩ := hrel
  cases gk with
  | zero => exact absurd HA.out (by simp [spec_l03Add.l0])
  | succ k1 =>
   have H := HA.out
   clear HA
   simp only [spec_l03Add.l0] at H
   by_cases c5 : x7_1 < (l0.length : Int)
   ·rw [if_pos c5] at H
    have c5b0 : decide (x7_1 < (l0.length : Int)) = true := decide_eq_true c5
    clear c5
    by_cases c6 : 0 ≤ x7_1
    ·rw [if_pos c6] at H
     have c6b0 : decide (0 ≤ x7_1) = true := decide_eq_true c6
     clear c6
     obtain ⟨t325, A7, H⟩ := bs_ H
     by_cases c8 : t325 = 0
     ·rw [if_pos c8] at H
      have c8b0 : (t325 == 0) = true := beq_iff_eq.mpr c8
      have c8b1 : (t325 != 0) = false := bne_eq_false_iff_eq.mpr c8
      clear c8
      obtain rfl := Option.some.inj H
      have p324 : 0 ≤ (x7_1 : Int) := od_
      have q324 : x7_1 < (l0.length : Int) := od_
      obtain ⟨ad324, A324_0, c324_0, e324, hx324_0, hl324_0, hi324_0⟩ := at_L3 (Kd.V_reads' HO_0.out).2.2 x7_1 p324 q324
      cases e324
      obtain ⟨ce324, hce324, hMe324, hcc324⟩ := Kd.V_get HO_0.out [] x7_1 p324 (by first | exact q324 | exact od_ | (have e_ := (Kd.V_reads' HO_0.out).1; omega))
      obtain ⟨ua324_0, uc324_0, rfl, ul324_0, ge324_0⟩ := Kd.FK_slice_open hMe324
      have hv324_0 := hcc324 0 _ rfl
      rw [Nat.add_zero, show ((Kd.slice 46 k46)).sz = 1 from rfl, Nat.mul_one] at hv324_0
      replace hv324_0 := Option.some.inj (hv324_0.symm.trans hx324_0)
      injection hv324_0 with hva_ hvn_ hvc_
      rw [hva_] at ge324_0
      rw [hvc_] at ul324_0
      have HL324_0 := a0_ (show Kd.V k46 46 _ w.heap.size _ _ (rd_L3 l0 x7_1) from Kd.V_mk ul324_0 ge324_0)
      clear hva_ hvn_ hvc_ ge324_0 ul324_0
      clear hcc324 hce324
      have HR324_0 := Aside0.mk hi324_0
      have HC324_0 := Aside0.mk hl324_0
      clear hi324_0 hl324_0
      replace p324 := eq_true p324
      replace q324 := eq_true q324
      go_wp2_with (first | ((with_reducible refine gate_callee (f := 63) rfl ?_); refine goesL_ (some 21) rfl rfl Tryz.func63 kr_ rfl #[.slice A1 l1.length c1, .slice A324_0 (rd_L3 l0 x7_1).length c324_0] rfl ta_ ?_; (with_reducible refine (spec_CompareShapes.calls k1 _ _ l1 _ _ (rd_L3 l0 x7_1) t325 _ ?side1 ?side2 ?side3 ?side4 A7.out).mono ?_); (case side1 => exact ca_ (Kd.V_reads' HO_1.out).2.2); (case side2 => exact (Kd.V_reads' HO_1.out).2.1); (case side3 => repeat (first | exact (by repeat (first | (with_reducible exact HR324_0.out) | (with_reducible refine Kd.C_alloc ?_ _) | (with_reducible refine Kd.C_drewN ?_ _) | (with_reducible refine Kd.C_drew ?_) | exact HR324_0.out)) | (with_reducible refine Kd.C_alloc ?_ _) | (with_reducible refine Kd.C_drewN ?_ _) | (with_reducible refine Kd.C_drew ?_))); (case side4 => exact HC324_0.out); rintro e w9 ⟨rfl, hb⟩; refine ⟨_, rfl, ?_⟩; replace HO_0 := a0_ (Kd.V_below (va_ HO_0.out) hb); replace HO_1 := a0_ (Kd.V_below (va_ HO_1.out) hb); replace HO_5 := a0_ (Kd.N_below (by (with_reducible repeat (first | apply Kd.N_alloc | apply Kd.N_drewN | apply Kd.N_drew)); exact HO_5.out) hb); replace HL324_0 := a0_ (Kd.V_below (va_ HL324_0.out) hb); replace HR324_0 := a0_ (Kd.C_below (by repeat (first | (with_reducible exact HR324_0.out) | (with_reducible refine Kd.C_alloc ?_ _) | (with_reducible refine Kd.C_drewN ?_ _) | (with_reducible refine Kd.C_drew ?_) | exact HR324_0.out)) hb); replace HB := a0_ (below_step (bl0_) hb); (try clear hb); (try clear hb2); (try clear hk); (try clear hi)))
      go_ret
      exact ⟨_, er_, by (with_reducible repeat (first | apply Kd.V_alloc | apply Kd.V_drewN | apply Kd.V_drew)); exact Kd.V_mono HO_0.out (fun _ hk => hk.1), bl0_⟩
     ·rw [if_neg c8] at H
      have c8b0 : (t325 == 0) = false := beq_eq_false_iff_ne.mpr c8
      have c8b1 : (t325 != 0) = true := bne_iff_ne.mpr c8
      by_cases c10 : t325 < 0
      ·rw [if_pos c10] at H
       have c10b0 : decide (t325 < 0) = true := decide_eq_true c10
       clear c10
       by_cases c11 : x6_1 = true
       ·subst c11
        rw [if_pos rfl] at H
        by_cases c12 : x5_1.length < 5864062014805
        ·rw [if_pos c12] at H
         have LMc12 := Aside0.mk c12
         clear c12
         obtain ⟨y327, hy327⟩ : ∃ y_ : List (List (S46)), y_ = (x5_1 ++ [rd_L3 l0 x7_1]) := ⟨_, rfl⟩
         replace H : (spec_l03Add.l0 k1 l0 l1 y327 true (wrap64 (x7_1 + 1))) = some r := hh_ hy327 H
         have Ny327 := Aside0.mk hy327
         clear hy327
         have H' := Aside0.mk H
         clear H
         have p324 : 0 ≤ (x7_1 : Int) := od_
         have q324 : x7_1 < (l0.length : Int) := od_
         obtain ⟨ad324, A324_0, c324_0, e324, hx324_0, hl324_0, hi324_0⟩ := at_L3 (Kd.V_reads' HO_0.out).2.2 x7_1 p324 q324
         cases e324
         obtain ⟨ce324, hce324, hMe324, hcc324⟩ := Kd.V_get HO_0.out [] x7_1 p324 (by first | exact q324 | exact od_ | (have e_ := (Kd.V_reads' HO_0.out).1; omega))
         obtain ⟨ua324_0, uc324_0, rfl, ul324_0, ge324_0⟩ := Kd.FK_slice_open hMe324
         have hv324_0 := hcc324 0 _ rfl
         rw [Nat.add_zero, show ((Kd.slice 46 k46)).sz = 1 from rfl, Nat.mul_one] at hv324_0
         replace hv324_0 := Option.some.inj (hv324_0.symm.trans hx324_0)
         injection hv324_0 with hva_ hvn_ hvc_
         rw [hva_] at ge324_0
         rw [hvc_] at ul324_0
         have HL324_0 := a0_ (show Kd.V k46 46 _ w.heap.size _ _ (rd_L3 l0 x7_1) from Kd.V_mk ul324_0 ge324_0)
         clear hva_ hvn_ hvc_ ge324_0 ul324_0
         clear hcc324 hce324
         have HR324_0 := Aside0.mk hi324_0
         have HC324_0 := Aside0.mk hl324_0
         clear hi324_0 hl324_0
         replace p324 := eq_true p324
         replace q324 := eq_true q324
         go_wp2_with (first | ((with_reducible refine gate_callee (f := 63) rfl ?_); refine goesL_ (some 21) rfl rfl Tryz.func63 kr_ rfl #[.slice A1 l1.length c1, .slice A324_0 (rd_L3 l0 x7_1).length c324_0] rfl ta_ ?_; (with_reducible refine (spec_CompareShapes.calls k1 _ _ l1 _ _ (rd_L3 l0 x7_1) t325 _ ?side1 ?side2 ?side3 ?side4 A7.out).mono ?_); (case side1 => exact ca_ (Kd.V_reads' HO_1.out).2.2); (case side2 => exact (Kd.V_reads' HO_1.out).2.1); (case side3 => repeat (first | exact (by repeat (first | (with_reducible exact HR324_0.out) | (with_reducible refine Kd.C_alloc ?_ _) | (with_reducible refine Kd.C_drewN ?_ _) | (with_reducible refine Kd.C_drew ?_) | exact HR324_0.out)) | (with_reducible refine Kd.C_alloc ?_ _) | (with_reducible refine Kd.C_drewN ?_ _) | (with_reducible refine Kd.C_drew ?_))); (case side4 => exact HC324_0.out); rintro e w13 ⟨rfl, hb⟩; refine ⟨_, rfl, ?_⟩; replace HO_0 := a0_ (Kd.V_below (va_ HO_0.out) hb); replace HO_1 := a0_ (Kd.V_below (va_ HO_1.out) hb); replace HO_5 := a0_ (Kd.N_below (by (with_reducible repeat (first | apply Kd.N_alloc | apply Kd.N_drewN | apply Kd.N_drew)); exact HO_5.out) hb); replace HL324_0 := a0_ (Kd.V_below (va_ HL324_0.out) hb); replace HR324_0 := a0_ (Kd.C_below (by repeat (first | (with_reducible exact HR324_0.out) | (with_reducible refine Kd.C_alloc ?_ _) | (with_reducible refine Kd.C_drewN ?_ _) | (with_reducible refine Kd.C_drew ?_) | exact HR324_0.out)) hb); replace HB := a0_ (below_step (bl0_) hb); (try clear hb); (try clear hb2); (try clear hk); (try clear hi); have p326 : 0 ≤ (x7_1 : Int) := od_; have q326 : x7_1 < (l0.length : Int) := od_; obtain ⟨ad326, A326_0, c326_0, e326, hx326_0, hl326_0, hi326_0⟩ := at_L3 (Kd.V_reads' HO_0.out).2.2 x7_1 p326 q326; obtain rfl : ad324 = ad326 := (by injection e326); obtain ⟨ce326, hce326, hMe326, hcc326⟩ := Kd.V_get HO_0.out [] x7_1 p326 (by first | exact q326 | exact od_ | (have e_ := (Kd.V_reads' HO_0.out).1; omega)); obtain ⟨ua326_0, uc326_0, rfl, ul326_0, ge326_0⟩ := Kd.FK_slice_open hMe326; have hv326_0 := hcc326 0 _ rfl; rw [Nat.add_zero, show ((Kd.slice 46 k46)).sz = 1 from rfl, Nat.mul_one] at hv326_0; replace hv326_0 := Option.some.inj (hv326_0.symm.trans hx326_0); injection hv326_0 with hva_ hvn_ hvc_; rw [hva_] at ge326_0; rw [hvc_] at ul326_0; have HL326_0 := a0_ (show Kd.V k46 46 _ w.heap.size _ _ (rd_L3 l0 x7_1) from Kd.V_mk ul326_0 ge326_0); clear hva_ hvn_ hvc_ ge326_0 ul326_0; clear hcc326 hce326; have HR326_0 := Aside0.mk hi326_0; have HC326_0 := Aside0.mk hl326_0; clear hi326_0 hl326_0; replace p326 := eq_true p326; replace q326 := eq_true q326) | ((with_reducible refine gate_builtin (b := .append) (xs := #[.tmp 35, .tmp 40]) rfl ?_); at_builtin; refine Kd.N_append (Kd.slice 46 k46) (w0 := w) w.heap.size rfl (.tmp 35) (.tmp 40) 25 35 (.slice none 0 0) 24 rfl Tryz.underlying25 info35 rfl (by decide) (by omega) u5 x5_1 (rd_L3 l0 x7_1) [.slice A326_0 (rd_L3 l0 x7_1).length c326_0] (fun k_ => ((P0_ k_ ∨ P1_ k_) ∨ w.heap.size ≤ k_)) (fun k_ => ((fun k_ => ((P0_ k_ ∨ P1_ k_) ∨ w.heap.size ≤ k_))) k_ ∧ some k_ ≠ (u5 : Value).ownBlock) rfl rfl ?aP (fun _ hk => hk) ?aF ?aO ?aB ?aS ?aL ?_; (case aP => exact (Kd.FK_slice_mk (Kd.V_reads' (Kd.V_mono (ok' := (fun k_ => ((fun k_ => ((P0_ k_ ∨ P1_ k_) ∨ w.heap.size ≤ k_))) k_ ∧ some k_ ≠ (u5 : Value).ownBlock)) (HL326_0.out) (fun k_ hk => ⟨hk.1, hk.2⟩))).2.1 (Kd.V_F (Kd.V_mono (ok' := (fun k_ => ((fun k_ => ((P0_ k_ ∨ P1_ k_) ∨ w.heap.size ≤ k_))) k_ ∧ some k_ ≠ (u5 : Value).ownBlock)) (HL326_0.out) (fun k_ hk => ⟨hk.1, hk.2⟩))))); (case aB => exact (bl0_)); (case aF => exact (fun k_ hk => (.inr (Nat.le_trans (below_size (bl0_)) hk)))); (case aO => exact (by (with_reducible repeat (first | apply Kd.N_alloc | apply Kd.N_drewN | apply Kd.N_drew)); exact HO_5.out)); (case aS => exact (below_size (bl0_))); (case aL => have := LMc12.out; omega); intro v328 w14 ho hb hg hat; rw [← Ny327.out] at ho; replace HO_0 := a0_ (Kd.V_afterv (ok := (fun k_ => ((P0_ k_ ∨ P1_ k_) ∨ w.heap.size ≤ k_))) (va_ HO_0.out) hg hat); replace HO_1 := a0_ (Kd.V_afterv (ok := (fun k_ => ((P0_ k_ ∨ P1_ k_) ∨ w.heap.size ≤ k_))) (va_ HO_1.out) hg hat); replace HL324_0 := a0_ (Kd.V_afterv (ok := (fun k_ => ((P0_ k_ ∨ P1_ k_) ∨ w.heap.size ≤ k_))) (va_ HL324_0.out) hg hat); replace HL326_0 := a0_ (Kd.V_afterv (ok := (fun k_ => ((P0_ k_ ∨ P1_ k_) ∨ w.heap.size ≤ k_))) (va_ HL326_0.out) hg hat); replace HB := a0_ (hb); have HO329 := a0_ (ho); clear HO_5; clear ho hb hg hat))
         go_roundg k1
         case measure => have := HK1.out; omega
         case rel => exact ⟨(y327), (true), (wrap64 (x7_1 + 1)), rs_, rs_, H', ⟨by have := HK1.out; omega⟩, ⟨va_ HO_0.out⟩, ⟨va_ HO_1.out⟩, ⟨by (with_reducible repeat (first | apply Kd.N_alloc | apply Kd.N_drewN | apply Kd.N_drew)); exact HO329.out⟩, ⟨bl0_⟩⟩
        ·rw [if_neg c12] at H
         exact absurd H (by simp)
       ·replace c11 := Bool.eq_false_iff.mpr c11
        subst c11
        rw [if_neg (show ¬ (false = true) by decide)] at H
        by_cases c15 : x5_1.length < 5864062014805
        ·rw [if_pos c15] at H
         have LMc15 := Aside0.mk c15
         clear c15
         obtain ⟨y330, hy330⟩ : ∃ y_ : List (List (S46)), y_ = (x5_1 ++ [l1]) := ⟨_, rfl⟩
         replace H : (if y330.length < 5864062014805 then (spec_l03Add.l0 k1 l0 l1 (y330 ++ [rd_L3 l0 x7_1]) true (wrap64 (x7_1 + 1))) else (none)) = some r := hh_ hy330 H
         have Ny330 := Aside0.mk hy330
         clear hy330
         by_cases c16 : y330.length < 5864062014805
         ·rw [if_pos c16] at H
          have LMc16 := Aside0.mk c16
          clear c16
          obtain ⟨y334, hy334⟩ : ∃ y_ : List (List (S46)), y_ = (y330 ++ [rd_L3 l0 x7_1]) := ⟨_, rfl⟩
          replace H : (spec_l03Add.l0 k1 l0 l1 y334 true (wrap64 (x7_1 + 1))) = some r := hh_ hy334 H
          have Ny334 := Aside0.mk hy334
          clear hy334
          have H' := Aside0.mk H
          clear H
          have p324 : 0 ≤ (x7_1 : Int) := od_
          have q324 : x7_1 < (l0.length : Int) := od_
          obtain ⟨ad324, A324_0, c324_0, e324, hx324_0, hl324_0, hi324_0⟩ := at_L3 (Kd.V_reads' HO_0.out).2.2 x7_1 p324 q324
          cases e324
          obtain ⟨ce324, hce324, hMe324, hcc324⟩ := Kd.V_get HO_0.out [] x7_1 p324 (by first | exact q324 | exact od_ | (have e_ := (Kd.V_reads' HO_0.out).1; omega))
          obtain ⟨ua324_0, uc324_0, rfl, ul324_0, ge324_0⟩ := Kd.FK_slice_open hMe324
          have hv324_0 := hcc324 0 _ rfl
          rw [Nat.add_zero, show ((Kd.slice 46 k46)).sz = 1 from rfl, Nat.mul_one] at hv324_0
          replace hv324_0 := Option.some.inj (hv324_0.symm.trans hx324_0)
          injection hv324_0 with hva_ hvn_ hvc_
          rw [hva_] at ge324_0
          rw [hvc_] at ul324_0
          have HL324_0 := a0_ (show Kd.V k46 46 _ w.heap.size _ _ (rd_L3 l0 x7_1) from Kd.V_mk ul324_0 ge324_0)
          clear hva_ hvn_ hvc_ ge324_0 ul324_0
          clear hcc324 hce324
          have HR324_0 := Aside0.mk hi324_0
          have HC324_0 := Aside0.mk hl324_0
          clear hi324_0 hl324_0
          replace p324 := eq_true p324
          replace q324 := eq_true q324
          go_wp2_with (first | ((with_reducible refine gate_callee (f := 63) rfl ?_); refine goesL_ (some 21) rfl rfl Tryz.func63 kr_ rfl #[.slice A1 l1.length c1, .slice A324_0 (rd_L3 l0 x7_1).length c324_0] rfl ta_ ?_; (with_reducible refine (spec_CompareShapes.calls k1 _ _ l1 _ _ (rd_L3 l0 x7_1) t325 _ ?side1 ?side2 ?side3 ?side4 A7.out).mono ?_); (case side1 => exact ca_ (Kd.V_reads' HO_1.out).2.2); (case side2 => exact (Kd.V_reads' HO_1.out).2.1); (case side3 => repeat (first | exact (by repeat (first | (with_reducible exact HR324_0.out) | (with_reducible refine Kd.C_alloc ?_ _) | (with_reducible refine Kd.C_drewN ?_ _) | (with_reducible refine Kd.C_drew ?_) | exact HR324_0.out)) | (with_reducible refine Kd.C_alloc ?_ _) | (with_reducible refine Kd.C_drewN ?_ _) | (with_reducible refine Kd.C_drew ?_))); (case side4 => exact HC324_0.out); rintro e w17 ⟨rfl, hb⟩; refine ⟨_, rfl, ?_⟩; replace HO_0 := a0_ (Kd.V_below (va_ HO_0.out) hb); replace HO_1 := a0_ (Kd.V_below (va_ HO_1.out) hb); replace HO_5 := a0_ (Kd.N_below (by (with_reducible repeat (first | apply Kd.N_alloc | apply Kd.N_drewN | apply Kd.N_drew)); exact HO_5.out) hb); replace HL324_0 := a0_ (Kd.V_below (va_ HL324_0.out) hb); replace HR324_0 := a0_ (Kd.C_below (by repeat (first | (with_reducible exact HR324_0.out) | (with_reducible refine Kd.C_alloc ?_ _) | (with_reducible refine Kd.C_drewN ?_ _) | (with_reducible refine Kd.C_drew ?_) | exact HR324_0.out)) hb); replace HB := a0_ (below_step (bl0_) hb); (try clear hb); (try clear hb2); (try clear hk); (try clear hi)) | ((with_reducible refine gate_builtin (b := .append) (xs := #[.tmp 31, .tmp 33]) rfl ?_); at_builtin; refine Kd.N_append (Kd.slice 46 k46) (w0 := w) w.heap.size rfl (.tmp 31) (.tmp 33) 25 35 (.slice none 0 0) 24 rfl Tryz.underlying25 info35 rfl (by decide) (by omega) u5 x5_1 l1 [.slice A1 l1.length c1] (fun k_ => ((P0_ k_ ∨ P1_ k_) ∨ w.heap.size ≤ k_)) (fun k_ => ((fun k_ => ((P0_ k_ ∨ P1_ k_) ∨ w.heap.size ≤ k_))) k_ ∧ some k_ ≠ (u5 : Value).ownBlock) rfl rfl ?aP (fun _ hk => hk) ?aF ?aO ?aB ?aS ?aL ?_; (case aP => exact (Kd.FK_slice_mk (Kd.V_reads' (Kd.V_mono (ok' := (fun k_ => ((fun k_ => ((P0_ k_ ∨ P1_ k_) ∨ w.heap.size ≤ k_))) k_ ∧ some k_ ≠ (u5 : Value).ownBlock)) (HO_1.out) (fun k_ hk => ⟨hk.1, hk.2⟩))).2.1 (Kd.V_F (Kd.V_mono (ok' := (fun k_ => ((fun k_ => ((P0_ k_ ∨ P1_ k_) ∨ w.heap.size ≤ k_))) k_ ∧ some k_ ≠ (u5 : Value).ownBlock)) (HO_1.out) (fun k_ hk => ⟨hk.1, hk.2⟩))))); (case aB => exact (bl0_)); (case aF => exact (fun k_ hk => (.inr (Nat.le_trans (below_size (bl0_)) hk)))); (case aO => exact (by (with_reducible repeat (first | apply Kd.N_alloc | apply Kd.N_drewN | apply Kd.N_drew)); exact HO_5.out)); (case aS => exact (below_size (bl0_))); (case aL => have := LMc15.out; omega); intro v331 w18 ho hb hg hat; rw [← Ny330.out] at ho; replace HO_0 := a0_ (Kd.V_afterv (ok := (fun k_ => ((P0_ k_ ∨ P1_ k_) ∨ w.heap.size ≤ k_))) (va_ HO_0.out) hg hat); replace HO_1 := a0_ (Kd.V_afterv (ok := (fun k_ => ((P0_ k_ ∨ P1_ k_) ∨ w.heap.size ≤ k_))) (va_ HO_1.out) hg hat); replace HL324_0 := a0_ (Kd.V_afterv (ok := (fun k_ => ((P0_ k_ ∨ P1_ k_) ∨ w.heap.size ≤ k_))) (va_ HL324_0.out) hg hat); replace HB := a0_ (hb); have HO332 := a0_ (ho); clear HO_5; clear ho hb hg hat; have p333 : 0 ≤ (x7_1 : Int) := od_; have q333 : x7_1 < (l0.length : Int) := od_; obtain ⟨ad333, A333_0, c333_0, e333, hx333_0, hl333_0, hi333_0⟩ := at_L3 (Kd.V_reads' HO_0.out).2.2 x7_1 p333 q333; obtain rfl : ad324 = ad333 := (by injection e333); obtain ⟨ce333, hce333, hMe333, hcc333⟩ := Kd.V_get HO_0.out [] x7_1 p333 (by first | exact q333 | exact od_ | (have e_ := (Kd.V_reads' HO_0.out).1; omega)); obtain ⟨ua333_0, uc333_0, rfl, ul333_0, ge333_0⟩ := Kd.FK_slice_open hMe333; have hv333_0 := hcc333 0 _ rfl; rw [Nat.add_zero, show ((Kd.slice 46 k46)).sz = 1 from rfl, Nat.mul_one] at hv333_0; replace hv333_0 := Option.some.inj (hv333_0.symm.trans hx333_0); injection hv333_0 with hva_ hvn_ hvc_; rw [hva_] at ge333_0; rw [hvc_] at ul333_0; have HL333_0 := a0_ (show Kd.V k46 46 _ w.heap.size _ _ (rd_L3 l0 x7_1) from Kd.V_mk ul333_0 ge333_0); clear hva_ hvn_ hvc_ ge333_0 ul333_0; clear hcc333 hce333; have HR333_0 := Aside0.mk hi333_0; have HC333_0 := Aside0.mk hl333_0; clear hi333_0 hl333_0; replace p333 := eq_true p333; replace q333 := eq_true q333) | ((with_reducible refine gate_builtin (b := .append) (xs := #[.tmp 35, .tmp 40]) rfl ?_); at_builtin; refine Kd.N_append (Kd.slice 46 k46) (w0 := w) w.heap.size rfl (.tmp 35) (.tmp 40) 25 35 (.slice none 0 0) 24 rfl Tryz.underlying25 info35 rfl (by decide) (by omega) v331 y330 (rd_L3 l0 x7_1) [.slice A333_0 (rd_L3 l0 x7_1).length c333_0] (fun k_ => ((P0_ k_ ∨ P1_ k_) ∨ w.heap.size ≤ k_)) (fun k_ => ((fun k_ => ((P0_ k_ ∨ P1_ k_) ∨ w.heap.size ≤ k_))) k_ ∧ some k_ ≠ (v331 : Value).ownBlock) rfl rfl ?aP (fun _ hk => hk) ?aF ?aO ?aB ?aS ?aL ?_; (case aP => exact (Kd.FK_slice_mk (Kd.V_reads' (Kd.V_mono (ok' := (fun k_ => ((fun k_ => ((P0_ k_ ∨ P1_ k_) ∨ w.heap.size ≤ k_))) k_ ∧ some k_ ≠ (v331 : Value).ownBlock)) (HL333_0.out) (fun k_ hk => ⟨hk.1, hk.2⟩))).2.1 (Kd.V_F (Kd.V_mono (ok' := (fun k_ => ((fun k_ => ((P0_ k_ ∨ P1_ k_) ∨ w.heap.size ≤ k_))) k_ ∧ some k_ ≠ (v331 : Value).ownBlock)) (HL333_0.out) (fun k_ hk => ⟨hk.1, hk.2⟩))))); (case aB => exact (bl0_)); (case aF => exact (fun k_ hk => (.inr (Nat.le_trans (below_size (bl0_)) hk)))); (case aO => exact (by (with_reducible repeat (first | apply Kd.N_alloc | apply Kd.N_drewN | apply Kd.N_drew)); exact HO332.out)); (case aS => exact (below_size (bl0_))); (case aL => have := LMc16.out; omega); intro v335 w19 ho hb hg hat; rw [← Ny334.out] at ho; replace HO_0 := a0_ (Kd.V_afterv (ok := (fun k_ => ((P0_ k_ ∨ P1_ k_) ∨ w.heap.size ≤ k_))) (va_ HO_0.out) hg hat); replace HO_1 := a0_ (Kd.V_afterv (ok := (fun k_ => ((P0_ k_ ∨ P1_ k_) ∨ w.heap.size ≤ k_))) (va_ HO_1.out) hg hat); replace HL324_0 := a0_ (Kd.V_afterv (ok := (fun k_ => ((P0_ k_ ∨ P1_ k_) ∨ w.heap.size ≤ k_))) (va_ HL324_0.out) hg hat); replace HL333_0 := a0_ (Kd.V_afterv (ok := (fun k_ => ((P0_ k_ ∨ P1_ k_) ∨ w.heap.size ≤ k_))) (va_ HL333_0.out) hg hat); replace HB := a0_ (hb); have HO336 := a0_ (ho); clear HO332; clear ho hb hg hat))
          go_roundg k1
          case measure => have := HK1.out; omega
          case rel => exact ⟨(y334), (true), (wrap64 (x7_1 + 1)), rs_, rs_, H', ⟨by have := HK1.out; omega⟩, ⟨va_ HO_0.out⟩, ⟨va_ HO_1.out⟩, ⟨by (with_reducible repeat (first | apply Kd.N_alloc | apply Kd.N_drewN | apply Kd.N_drew)); exact HO336.out⟩, ⟨bl0_⟩⟩
         ·rw [if_neg c16] at H
          exact absurd H (by simp)
        ·rw [if_neg c15] at H
         exact absurd H (by simp)
      ·rw [if_neg c10] at H
       have c10b0 : decide (t325 < 0) = false := decide_eq_false c10
       clear c10
       by_cases c20 : x5_1.length < 5864062014805
       ·rw [if_pos c20] at H
        have LMc20 := Aside0.mk c20
        clear c20
        obtain ⟨y338, hy338⟩ : ∃ y_ : List (List (S46)), y_ = (x5_1 ++ [rd_L3 l0 x7_1]) := ⟨_, rfl⟩
        replace H : (spec_l03Add.l0 k1 l0 l1 y338 x6_1 (wrap64 (x7_1 + 1))) = some r := hh_ hy338 H
        have Ny338 := Aside0.mk hy338
        clear hy338
        have H' := Aside0.mk H
        clear H
        have p324 : 0 ≤ (x7_1 : Int) := od_
        have q324 : x7_1 < (l0.length : Int) := od_
        obtain ⟨ad324, A324_0, c324_0, e324, hx324_0, hl324_0, hi324_0⟩ := at_L3 (Kd.V_reads' HO_0.out).2.2 x7_1 p324 q324
        cases e324
        obtain ⟨ce324, hce324, hMe324, hcc324⟩ := Kd.V_get HO_0.out [] x7_1 p324 (by first | exact q324 | exact od_ | (have e_ := (Kd.V_reads' HO_0.out).1; omega))
        obtain ⟨ua324_0, uc324_0, rfl, ul324_0, ge324_0⟩ := Kd.FK_slice_open hMe324
        have hv324_0 := hcc324 0 _ rfl
        rw [Nat.add_zero, show ((Kd.slice 46 k46)).sz = 1 from rfl, Nat.mul_one] at hv324_0
        replace hv324_0 := Option.some.inj (hv324_0.symm.trans hx324_0)
        injection hv324_0 with hva_ hvn_ hvc_
        rw [hva_] at ge324_0
        rw [hvc_] at ul324_0
        have HL324_0 := a0_ (show Kd.V k46 46 _ w.heap.size _ _ (rd_L3 l0 x7_1) from Kd.V_mk ul324_0 ge324_0)
        clear hva_ hvn_ hvc_ ge324_0 ul324_0
        clear hcc324 hce324
        have HR324_0 := Aside0.mk hi324_0
        have HC324_0 := Aside0.mk hl324_0
        clear hi324_0 hl324_0
        replace p324 := eq_true p324
        replace q324 := eq_true q324
        go_wp2_with (first | ((with_reducible refine gate_callee (f := 63) rfl ?_); refine goesL_ (some 21) rfl rfl Tryz.func63 kr_ rfl #[.slice A1 l1.length c1, .slice A324_0 (rd_L3 l0 x7_1).length c324_0] rfl ta_ ?_; (with_reducible refine (spec_CompareShapes.calls k1 _ _ l1 _ _ (rd_L3 l0 x7_1) t325 _ ?side1 ?side2 ?side3 ?side4 A7.out).mono ?_); (case side1 => exact ca_ (Kd.V_reads' HO_1.out).2.2); (case side2 => exact (Kd.V_reads' HO_1.out).2.1); (case side3 => repeat (first | exact (by repeat (first | (with_reducible exact HR324_0.out) | (with_reducible refine Kd.C_alloc ?_ _) | (with_reducible refine Kd.C_drewN ?_ _) | (with_reducible refine Kd.C_drew ?_) | exact HR324_0.out)) | (with_reducible refine Kd.C_alloc ?_ _) | (with_reducible refine Kd.C_drewN ?_ _) | (with_reducible refine Kd.C_drew ?_))); (case side4 => exact HC324_0.out); rintro e w21 ⟨rfl, hb⟩; refine ⟨_, rfl, ?_⟩; replace HO_0 := a0_ (Kd.V_below (va_ HO_0.out) hb); replace HO_1 := a0_ (Kd.V_below (va_ HO_1.out) hb); replace HO_5 := a0_ (Kd.N_below (by (with_reducible repeat (first | apply Kd.N_alloc | apply Kd.N_drewN | apply Kd.N_drew)); exact HO_5.out) hb); replace HL324_0 := a0_ (Kd.V_below (va_ HL324_0.out) hb); replace HR324_0 := a0_ (Kd.C_below (by repeat (first | (with_reducible exact HR324_0.out) | (with_reducible refine Kd.C_alloc ?_ _) | (with_reducible refine Kd.C_drewN ?_ _) | (with_reducible refine Kd.C_drew ?_) | exact HR324_0.out)) hb); replace HB := a0_ (below_step (bl0_) hb); (try clear hb); (try clear hb2); (try clear hk); (try clear hi); have p337 : 0 ≤ (x7_1 : Int) := od_; have q337 : x7_1 < (l0.length : Int) := od_; obtain ⟨ad337, A337_0, c337_0, e337, hx337_0, hl337_0, hi337_0⟩ := at_L3 (Kd.V_reads' HO_0.out).2.2 x7_1 p337 q337; obtain rfl : ad324 = ad337 := (by injection e337); obtain ⟨ce337, hce337, hMe337, hcc337⟩ := Kd.V_get HO_0.out [] x7_1 p337 (by first | exact q337 | exact od_ | (have e_ := (Kd.V_reads' HO_0.out).1; omega)); obtain ⟨ua337_0, uc337_0, rfl, ul337_0, ge337_0⟩ := Kd.FK_slice_open hMe337; have hv337_0 := hcc337 0 _ rfl; rw [Nat.add_zero, show ((Kd.slice 46 k46)).sz = 1 from rfl, Nat.mul_one] at hv337_0; replace hv337_0 := Option.some.inj (hv337_0.symm.trans hx337_0); injection hv337_0 with hva_ hvn_ hvc_; rw [hva_] at ge337_0; rw [hvc_] at ul337_0; have HL337_0 := a0_ (show Kd.V k46 46 _ w.heap.size _ _ (rd_L3 l0 x7_1) from Kd.V_mk ul337_0 ge337_0); clear hva_ hvn_ hvc_ ge337_0 ul337_0; clear hcc337 hce337; have HR337_0 := Aside0.mk hi337_0; have HC337_0 := Aside0.mk hl337_0; clear hi337_0 hl337_0; replace p337 := eq_true p337; replace q337 := eq_true q337) | ((with_reducible refine gate_builtin (b := .append) (xs := #[.tmp 35, .tmp 40]) rfl ?_); at_builtin; refine Kd.N_append (Kd.slice 46 k46) (w0 := w) w.heap.size rfl (.tmp 35) (.tmp 40) 25 35 (.slice none 0 0) 24 rfl Tryz.underlying25 info35 rfl (by decide) (by omega) u5 x5_1 (rd_L3 l0 x7_1) [.slice A337_0 (rd_L3 l0 x7_1).length c337_0] (fun k_ => ((P0_ k_ ∨ P1_ k_) ∨ w.heap.size ≤ k_)) (fun k_ => ((fun k_ => ((P0_ k_ ∨ P1_ k_) ∨ w.heap.size ≤ k_))) k_ ∧ some k_ ≠ (u5 : Value).ownBlock) rfl rfl ?aP (fun _ hk => hk) ?aF ?aO ?aB ?aS ?aL ?_; (case aP => exact (Kd.FK_slice_mk (Kd.V_reads' (Kd.V_mono (ok' := (fun k_ => ((fun k_ => ((P0_ k_ ∨ P1_ k_) ∨ w.heap.size ≤ k_))) k_ ∧ some k_ ≠ (u5 : Value).ownBlock)) (HL337_0.out) (fun k_ hk => ⟨hk.1, hk.2⟩))).2.1 (Kd.V_F (Kd.V_mono (ok' := (fun k_ => ((fun k_ => ((P0_ k_ ∨ P1_ k_) ∨ w.heap.size ≤ k_))) k_ ∧ some k_ ≠ (u5 : Value).ownBlock)) (HL337_0.out) (fun k_ hk => ⟨hk.1, hk.2⟩))))); (case aB => exact (bl0_)); (case aF => exact (fun k_ hk => (.inr (Nat.le_trans (below_size (bl0_)) hk)))); (case aO => exact (by (with_reducible repeat (first | apply Kd.N_alloc | apply Kd.N_drewN | apply Kd.N_drew)); exact HO_5.out)); (case aS => exact (below_size (bl0_))); (case aL => have := LMc20.out; omega); intro v339 w22 ho hb hg hat; rw [← Ny338.out] at ho; replace HO_0 := a0_ (Kd.V_afterv (ok := (fun k_ => ((P0_ k_ ∨ P1_ k_) ∨ w.heap.size ≤ k_))) (va_ HO_0.out) hg hat); replace HO_1 := a0_ (Kd.V_afterv (ok := (fun k_ => ((P0_ k_ ∨ P1_ k_) ∨ w.heap.size ≤ k_))) (va_ HO_1.out) hg hat); replace HL324_0 := a0_ (Kd.V_afterv (ok := (fun k_ => ((P0_ k_ ∨ P1_ k_) ∨ w.heap.size ≤ k_))) (va_ HL324_0.out) hg hat); replace HL337_0 := a0_ (Kd.V_afterv (ok := (fun k_ => ((P0_ k_ ∨ P1_ k_) ∨ w.heap.size ≤ k_))) (va_ HL337_0.out) hg hat); replace HB := a0_ (hb); have HO340 := a0_ (ho); clear HO_5; clear ho hb hg hat))
        go_roundg k1
        case measure => have := HK1.out; omega
        case rel => exact ⟨(y338), (x6_1), (wrap64 (x7_1 + 1)), rs_, rs_, H', ⟨by have := HK1.out; omega⟩, ⟨va_ HO_0.out⟩, ⟨va_ HO_1.out⟩, ⟨by (with_reducible repeat (first | apply Kd.N_alloc | apply Kd.N_drewN | apply Kd.N_drew)); exact HO340.out⟩, ⟨bl0_⟩⟩
       ·rw [if_neg c20] at H
        exact absurd H (by simp)
    ·rw [if_neg c6] at H
     exact absurd H (by simp)
   ·rw [if_neg c5] at H
    have c5b0 : decide (x7_1 < (l0.length : Int)) = false := decide_eq_false c5
    clear c5
    by_cases c23 : x6_1 = true
    ·subst c23
     rw [if_pos rfl] at H
     obtain rfl := Option.some.inj H
     go_wp2
     go_ret
     exact ⟨_, er_, Kd.N_V (by (with_reducible repeat (first | apply Kd.N_alloc | apply Kd.N_drewN | apply Kd.N_drew)); exact HO_5.out), bl0_⟩
    ·replace c23 := Bool.eq_false_iff.mpr c23
     subst c23
     rw [if_neg (show ¬ (false = true) by decide)] at H
     by_cases c24 : x5_1.length < 5864062014805
     ·rw [if_pos c24] at H
      have LMc24 := Aside0.mk c24
      clear c24
      obtain ⟨y321, hy321⟩ : ∃ y_ : List (List (S46)), y_ = (x5_1 ++ [l1]) := ⟨_, rfl⟩
      replace H : (some y321) = some r := hh_ hy321 H
      have Ny321 := Aside0.mk hy321
      clear hy321
      obtain rfl := Option.some.inj H
      go_wp2_with (first | ((with_reducible refine gate_builtin (b := .append) (xs := #[.tmp 44, .tmp 46]) rfl ?_); at_builtin; refine Kd.N_append (Kd.slice 46 k46) (w0 := w) w.heap.size rfl (.tmp 44) (.tmp 46) 25 35 (.slice none 0 0) 24 rfl Tryz.underlying25 info35 rfl (by decide) (by omega) u5 x5_1 l1 [.slice A1 l1.length c1] (fun k_ => ((P0_ k_ ∨ P1_ k_) ∨ w.heap.size ≤ k_)) (fun k_ => ((fun k_ => ((P0_ k_ ∨ P1_ k_) ∨ w.heap.size ≤ k_))) k_ ∧ some k_ ≠ (u5 : Value).ownBlock) rfl rfl ?aP (fun _ hk => hk) ?aF ?aO ?aB ?aS ?aL ?_; (case aP => exact (Kd.FK_slice_mk (Kd.V_reads' (Kd.V_mono (ok' := (fun k_ => ((fun k_ => ((P0_ k_ ∨ P1_ k_) ∨ w.heap.size ≤ k_))) k_ ∧ some k_ ≠ (u5 : Value).ownBlock)) (HO_1.out) (fun k_ hk => ⟨hk.1, hk.2⟩))).2.1 (Kd.V_F (Kd.V_mono (ok' := (fun k_ => ((fun k_ => ((P0_ k_ ∨ P1_ k_) ∨ w.heap.size ≤ k_))) k_ ∧ some k_ ≠ (u5 : Value).ownBlock)) (HO_1.out) (fun k_ hk => ⟨hk.1, hk.2⟩))))); (case aB => exact (bl0_)); (case aF => exact (fun k_ hk => (.inr (Nat.le_trans (below_size (bl0_)) hk)))); (case aO => exact (by (with_reducible repeat (first | apply Kd.N_alloc | apply Kd.N_drewN | apply Kd.N_drew)); exact HO_5.out)); (case aS => exact (below_size (bl0_))); (case aL => have := LMc24.out; omega); intro v322 w25 ho hb hg hat; rw [← Ny321.out] at ho; replace HO_0 := a0_ (Kd.V_afterv (ok := (fun k_ => ((P0_ k_ ∨ P1_ k_) ∨ w.heap.size ≤ k_))) (va_ HO_0.out) hg hat); replace HO_1 := a0_ (Kd.V_afterv (ok := (fun k_ => ((P0_ k_ ∨ P1_ k_) ∨ w.heap.size ≤ k_))) (va_ HO_1.out) hg hat); replace HB := a0_ (hb); have HO323 := a0_ (ho); clear HO_5; clear ho hb hg hat))
      go_ret
      exact ⟨_, er_, Kd.N_V (by (with_reducible repeat (first | apply Kd.N_alloc | apply Kd.N_drewN | apply Kd.N_drew)); exact HO323.out), bl0_⟩
     ·rw [if_neg c24] at H
      exact absurd H (by simp)

end Go.Proofs.YtmdjkmfocgelnaaGreat.PFnHexShapes
