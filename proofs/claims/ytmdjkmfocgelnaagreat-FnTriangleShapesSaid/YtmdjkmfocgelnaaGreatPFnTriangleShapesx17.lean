/- Over the kit's printer by a driver of mine (hprint.py), with parts by hand: functions of the program as Lean functions, and that each call comes to exactly these answers. -/
import Derived.Test.YtmdjkmfocgelnaaGreatPFnTriangleShapesx0
import Derived.Test.YtmdjkmfocgelnaaGreatPFnTriangleShapesx10
namespace Go.Proofs.YtmdjkmfocgelnaaGreat.PFnTriangleShapes
open Go.RowKit Go.Proofs.YtmdjkmfocgelnaaGreatW.PrintWords Go.Proofs.YtmdjkmfocgelnaaGreatW.PrintLast Go.Proofs.YtmdjkmfocgelnaaGreatW.PrintMore
attribute [local go_sem] max2_int min2_int max_two min_two max_three min_three max_four min_four   -- for this text's walks alone
set_option linter.unusedVariables false
set_option linter.unusedSimpArgs false

/-! ### spec_l03Add: function 84 -/
def spec_l03Add.l0 : Nat → List (List (S46)) → List (S46) → List (List (S46)) → Bool → Int → Option ((List (List (S46))))
 | 0, _, _, _, _, _ => none
 | k + 1, x0, x1, x5, x6, x7 => if x7 < (x0.length : Int) then (if 0 ≤ x7 then ((spec_CompareShapes.f k x1 (rd_L3 x0 x7)).bind fun t329 => (if t329 = 0 then (some x0) else (if t329 < 0 then (if x6 = true then (if x5.length < 5864062014805 then (spec_l03Add.l0 k x0 x1 (x5 ++ [rd_L3 x0 x7]) x6 (wrap64 (x7 + 1))) else (none)) else (if x5.length < 5864062014805 then ((some (x5 ++ [x1] : List (List (S46)))).bind fun y334 => (if y334.length < 5864062014805 then (spec_l03Add.l0 k x0 x1 (y334 ++ [rd_L3 x0 x7]) true (wrap64 (x7 + 1))) else (none))) else (none))) else (if x5.length < 5864062014805 then (spec_l03Add.l0 k x0 x1 (x5 ++ [rd_L3 x0 x7]) x6 (wrap64 (x7 + 1))) else (none))))) else (none)) else (if x6 = true then (some x5) else (if x5.length < 5864062014805 then (some (x5 ++ [x1])) else (none)))
def spec_l03Add.f (k : Nat) (l0 : List (List (S46))) (l1 : List (S46)) : Option ((List (List (S46)))) := spec_l03Add.l0 k l0 l1 (([] : List (List (S46)))) false 0
theorem spec_l03Add.mono_l : ∀ k, (∀ y0 y1 y2 y3 y4, LeO (spec_l03Add.l0 k y0 y1 y2 y3 y4) (spec_l03Add.l0 (k + 1) y0 y1 y2 y3 y4))
 | 0 => fun _ _ _ _ _ r h => by simp [spec_l03Add.l0] at h
 | k + 1 => by
  have ih0 := spec_l03Add.mono_l k
  ·intro y0 y1 y2 y3 y4
   unfold spec_l03Add.l0
   with_reducible (repeat' first | exact ih0 _ _ _ _ _ | exact spec_CompareShapes.mono _ _ _ | exact LeO.refl _ | exact LeO.none _ | refine LeO.ite ?_ ?_ | refine LeO.bind ?_ (fun _ => ?_))
theorem spec_l03Add.mono : ∀ a0 a1 k, LeO (spec_l03Add.f k a0 a1) (spec_l03Add.f (k + 1) a0 a1) := by
 intro a0 a1 k
 have ih0 := spec_l03Add.mono_l k
 unfold spec_l03Add.f
 with_reducible (repeat' first | exact ih0 _ _ _ _ _ | exact spec_CompareShapes.mono _ _ _ | exact LeO.refl _ | exact LeO.none _ | refine LeO.ite ?_ ?_ | refine LeO.bind ?_ (fun _ => ?_))
set_option maxHeartbeats 8000000 in
set_option maxRecDepth 100000 in
theorem spec_l03Add.calls (k : Nat) (P0_ : Nat → Prop) (A0 : Option Addr) (c0 : Nat) (l0 : List (List (S46))) (P1_ : Nat → Prop) (A1 : Option Addr) (c1 : Nat) (l1 : List (S46)) (r : List (List (S46))) (w : World) (hs0 : Kd.V (Kd.slice 46 k46) 35 w w.heap.size (fun k_ => P0_ k_) (.slice A0 l0.length c0) l0) (hs1 : Kd.V k46 46 w w.heap.size (fun k_ => P1_ k_) (.slice A1 l1.length c1) l1) (h : spec_l03Add.f k l0 l1 = some r) :
  Calls Tryz.prog 84 #[.slice A0 l0.length c0, .slice A1 l1.length c1] w fun e w' => ∃ v0_ : Value, e = .returned (v0_) ∧ Kd.V (Kd.slice 46 k46) 35 w' w.heap.size (fun k_ => ((P0_ k_ ∨ P1_ k_) ∨ w.heap.size ≤ k_)) v0_ r ∧ Below w.heap.size w w' := by
 have HO0 := a0_ (show Kd.V (Kd.slice 46 k46) 35 w w.heap.size (fun k_ => ((P0_ k_ ∨ P1_ k_) ∨ w.heap.size ≤ k_)) (.slice A0 l0.length c0) l0 from Kd.V_mono hs0 (fun k_ hk => .inl (.inl hk)))
 have HO1 := a0_ (show Kd.V k46 46 w w.heap.size (fun k_ => ((P0_ k_ ∨ P1_ k_) ∨ w.heap.size ≤ k_)) (.slice A1 l1.length c1) l1 from Kd.V_mono hs1 (fun k_ hk => .inl (.inr hk)))
 have HB := a0_ (Below.refl w.heap.size w)
 have H : (spec_l03Add.l0 k l0 l1 (([] : List (List (S46)))) false 0) = some r := h
 clear h
 obtain ⟨y322, hy322⟩ : ∃ y_ : List (List (S46)), y_ = (([] : List (List (S46)))) := ⟨_, rfl⟩
 replace H : (spec_l03Add.l0 k l0 l1 y322 false 0) = some r := hh_ hy322 H
 have Ny322 := Aside0.mk hy322
 clear hy322
 have H' := Aside0.mk H
 clear H
 go_enter Tryz.func84, Tryz.ntmps84
 go_wp2_with (first | ((with_reducible refine gate_dst (N := 9) rfl ?_); refine Kd.N_lit (Kd.slice 46 k46) _ 35 ?hg (N' := 9) ?hd (xs := ([] : List (List (S46)))) (inner := []) (ok := (fun k_ => ((P0_ k_ ∨ P1_ k_) ∨ w.heap.size ≤ k_))) (okp := (fun k_ => ((P0_ k_ ∨ P1_ k_) ∨ w.heap.size ≤ k_))) ?hr ?hp (fun _ hk => hk) ((show ∀ k_, w.heap.size ≤ k_ → (fun k_ => ((P0_ k_ ∨ P1_ k_) ∨ w.heap.size ≤ k_)) k_ from fun k_ hk => (.inr (Nat.le_trans (below_size (bl0_)) hk))) _ (Nat.le_refl _)) (Below.refl _ _) (Nat.le_refl _) (by simp) ?_; (case hd => rfl); (case hg => rfl); (case hr => first | (go_simp; done) | (go_simp; rfl)); (case hp => exact (Reps.none _ _)); intro v323 w3 ho4 hb hg_ hnew_; clear hg_ hnew_; (first | rw [← Ny322.out] at ho4 | (simp only [Int.reduceToNat] at ho4; rw [← Ny322.out] at ho4)); replace HO0 := a0_ (Kd.V_elder' (va_ HO0.out) (Kd.N_base ho4) hb); replace HO1 := a0_ (Kd.V_elder' (va_ HO1.out) (Kd.N_base ho4) hb); have HO324 := a0_ (Kd.N_lower ho4 (below_size (bl0_))); replace HB := a0_ (below_step (bl0_) hb); clear hb ho4))
 go_loopg [5, 6, 7] k (fun kq v5 v6 v7 w' => ∃ (x5_1 : List (List (S46))) (x6_1 : Bool) (x7_1 : Int), v6 = .bool x6_1 ∧ v7 = .int .i64 x7_1 ∧ Aside0 (spec_l03Add.l0 kq l0 l1 x5_1 x6_1 x7_1 = some r) ∧ Aside0 (kq ≤ k) ∧ Aside0 (Kd.V (Kd.slice 46 k46) 35 w' w.heap.size (fun k_ => ((P0_ k_ ∨ P1_ k_) ∨ w.heap.size ≤ k_) ∧ some k_ ≠ (v5 : Value).ownBlock) (.slice A0 l0.length c0) l0) ∧ Aside0 (Kd.V k46 46 w' w.heap.size (fun k_ => ((P0_ k_ ∨ P1_ k_) ∨ w.heap.size ≤ k_) ∧ some k_ ≠ (v5 : Value).ownBlock) (.slice A1 l1.length c1) l1) ∧ Aside0 (Kd.N (Kd.slice 46 k46) 35 w' w.heap.size (fun k_ => ((P0_ k_ ∨ P1_ k_) ∨ w.heap.size ≤ k_)) v5 x5_1) ∧ Aside0 (Below w.heap.size w w'))
 case atStart => exact ⟨(y322), (false), (0), rs_, rs_, H', ⟨Nat.le_refl _⟩, ⟨va_ HO0.out⟩, ⟨va_ HO1.out⟩, ⟨by (with_reducible repeat (first | apply Kd.N_alloc | apply Kd.N_drewN | apply Kd.N_drew)); exact HO324.out⟩, ⟨bl0_⟩⟩
 case round =>
  clear H'
  try clear c1
  try clear p2
  obtain ⟨x5_1, x6_1, x7_1, rfl, rfl, HA, HK1, HO_0, HO_1, HO_5, HB⟩ := hrel
  cases gk with
  | zero => exact absurd HA.out (by simp [spec_l03Add.l0])
  | succ k1 =>
   have H := HA.out
   clear HA
   simp only [spec_l03Add.l0] at H
   by_cases c5 : x7_1 < (l0.length : Int)
   ·rw [if_pos c5] at H
    have c5b0 : decide (x7_1 < (l0.length : Int)) = true := decide_eq_true c5
    clear c5
    by_cases c6 : 0 ≤ x7_1
    ·rw [if_pos c6] at H
     have c6b0 : decide (0 ≤ x7_1) = true := decide_eq_true c6
     clear c6
     obtain ⟨t329, A7, H⟩ := bs_ H
     by_cases c8 : t329 = 0
     ·rw [if_pos c8] at H
      have c8b0 : (t329 == 0) = true := beq_iff_eq.mpr c8
      have c8b1 : (t329 != 0) = false := bne_eq_false_iff_eq.mpr c8
      clear c8
      obtain rfl := Option.some.inj H
      have p328 : 0 ≤ (x7_1 : Int) := od_
      have q328 : x7_1 < (l0.length : Int) := od_
      obtain ⟨ad328, A328_0, c328_0, e328, hx328_0, hl328_0, hi328_0⟩ := at_L3 (Kd.V_reads' HO_0.out).2.2 x7_1 p328 q328
      cases e328
      obtain ⟨ce328, hce328, hMe328, hcc328⟩ := Kd.V_get HO_0.out [] x7_1 p328 (by first | exact q328 | exact od_ | (have e_ := (Kd.V_reads' HO_0.out).1; omega))
      obtain ⟨ua328_0, uc328_0, rfl, ul328_0, ge328_0⟩ := Kd.FK_slice_open hMe328
      have hv328_0 := hcc328 0 _ rfl
      rw [Nat.add_zero, show ((Kd.slice 46 k46)).sz = 1 from rfl, Nat.mul_one] at hv328_0
      replace hv328_0 := Option.some.inj (hv328_0.symm.trans hx328_0)
      injection hv328_0 with hva_ hvn_ hvc_
      rw [hva_] at ge328_0
      rw [hvc_] at ul328_0
      have HL328_0 := a0_ (show Kd.V k46 46 _ w.heap.size _ _ (rd_L3 l0 x7_1) from Kd.V_mk ul328_0 ge328_0)
      clear hva_ hvn_ hvc_ ge328_0 ul328_0
      clear hcc328 hce328
      have HR328_0 := Aside0.mk hi328_0
      have HC328_0 := Aside0.mk hl328_0
      clear hi328_0 hl328_0
      replace p328 := eq_true p328
      replace q328 := eq_true q328
      go_wp2_with (first | ((with_reducible refine gate_callee (f := 63) rfl ?_); refine goesL_ (some 21) rfl rfl Tryz.func63 kr_ rfl #[.slice A1 l1.length c1, .slice A328_0 (rd_L3 l0 x7_1).length c328_0] rfl ta_ ?_; (with_reducible refine (spec_CompareShapes.calls k1 _ _ l1 _ _ (rd_L3 l0 x7_1) t329 _ ?side1 ?side2 ?side3 ?side4 A7.out).mono ?_); (case side1 => exact ca_ (Kd.V_reads' HO_1.out).2.2); (case side2 => exact (Kd.V_reads' HO_1.out).2.1); (case side3 => repeat (first | exact (by repeat (first | (with_reducible exact HR328_0.out) | (with_reducible refine Kd.C_alloc ?_ _) | (with_reducible refine Kd.C_drewN ?_ _) | (with_reducible refine Kd.C_drew ?_) | exact HR328_0.out)) | (with_reducible refine Kd.C_alloc ?_ _) | (with_reducible refine Kd.C_drewN ?_ _) | (with_reducible refine Kd.C_drew ?_))); (case side4 => exact HC328_0.out); rintro e w9 ⟨rfl, hb⟩; refine ⟨_, rfl, ?_⟩; replace HO_0 := a0_ (Kd.V_below (va_ HO_0.out) hb); replace HO_1 := a0_ (Kd.V_below (va_ HO_1.out) hb); replace HO_5 := a0_ (Kd.N_below (by (with_reducible repeat (first | apply Kd.N_alloc | apply Kd.N_drewN | apply Kd.N_drew)); exact HO_5.out) hb); replace HL328_0 := a0_ (Kd.V_below (va_ HL328_0.out) hb); replace HR328_0 := a0_ (Kd.C_below (by repeat (first | (with_reducible exact HR328_0.out) | (with_reducible refine Kd.C_alloc ?_ _) | (with_reducible refine Kd.C_drewN ?_ _) | (with_reducible refine Kd.C_drew ?_) | exact HR328_0.out)) hb); replace HB := a0_ (below_step (bl0_) hb); (try clear hb); (try clear hb2); (try clear hk); (try clear hi)))
      go_ret
      exact ⟨_, er_, by (with_reducible repeat (first | apply Kd.V_alloc | apply Kd.V_drewN | apply Kd.V_drew)); exact Kd.V_mono HO_0.out (fun _ hk => hk.1), bl0_⟩
     ·rw [if_neg c8] at H
      have c8b0 : (t329 == 0) = false := beq_eq_false_iff_ne.mpr c8
      have c8b1 : (t329 != 0) = true := bne_iff_ne.mpr c8
      by_cases c10 : t329 < 0
      ·rw [if_pos c10] at H
       have c10b0 : decide (t329 < 0) = true := decide_eq_true c10
       clear c10
       by_cases c11 : x6_1 = true
       ·subst c11
        rw [if_pos rfl] at H
        by_cases c12 : x5_1.length < 5864062014805
        ·rw [if_pos c12] at H
         have LMc12 := Aside0.mk c12
         clear c12
         obtain ⟨y331, hy331⟩ : ∃ y_ : List (List (S46)), y_ = (x5_1 ++ [rd_L3 l0 x7_1]) := ⟨_, rfl⟩
         replace H : (spec_l03Add.l0 k1 l0 l1 y331 true (wrap64 (x7_1 + 1))) = some r := hh_ hy331 H
         have Ny331 := Aside0.mk hy331
         clear hy331
         have H' := Aside0.mk H
         clear H
         have p328 : 0 ≤ (x7_1 : Int) := od_
         have q328 : x7_1 < (l0.length : Int) := od_
         obtain ⟨ad328, A328_0, c328_0, e328, hx328_0, hl328_0, hi328_0⟩ := at_L3 (Kd.V_reads' HO_0.out).2.2 x7_1 p328 q328
         cases e328
         obtain ⟨ce328, hce328, hMe328, hcc328⟩ := Kd.V_get HO_0.out [] x7_1 p328 (by first | exact q328 | exact od_ | (have e_ := (Kd.V_reads' HO_0.out).1; omega))
         obtain ⟨ua328_0, uc328_0, rfl, ul328_0, ge328_0⟩ := Kd.FK_slice_open hMe328
         have hv328_0 := hcc328 0 _ rfl
         rw [Nat.add_zero, show ((Kd.slice 46 k46)).sz = 1 from rfl, Nat.mul_one] at hv328_0
         replace hv328_0 := Option.some.inj (hv328_0.symm.trans hx328_0)
         injection hv328_0 with hva_ hvn_ hvc_
         rw [hva_] at ge328_0
         rw [hvc_] at ul328_0
         have HL328_0 := a0_ (show Kd.V k46 46 _ w.heap.size _ _ (rd_L3 l0 x7_1) from Kd.V_mk ul328_0 ge328_0)
         clear hva_ hvn_ hvc_ ge328_0 ul328_0
         clear hcc328 hce328
         have HR328_0 := Aside0.mk hi328_0
         have HC328_0 := Aside0.mk hl328_0
         clear hi328_0 hl328_0
         replace p328 := eq_true p328
         replace q328 := eq_true q328
         go_wp2_with (first | ((with_reducible refine gate_callee (f := 63) rfl ?_); refine goesL_ (some 21) rfl rfl Tryz.func63 kr_ rfl #[.slice A1 l1.length c1, .slice A328_0 (rd_L3 l0 x7_1).length c328_0] rfl ta_ ?_; (with_reducible refine (spec_CompareShapes.calls k1 _ _ l1 _ _ (rd_L3 l0 x7_1) t329 _ ?side1 ?side2 ?side3 ?side4 A7.out).mono ?_); (case side1 => exact ca_ (Kd.V_reads' HO_1.out).2.2); (case side2 => exact (Kd.V_reads' HO_1.out).2.1); (case side3 => repeat (first | exact (by repeat (first | (with_reducible exact HR328_0.out) | (with_reducible refine Kd.C_alloc ?_ _) | (with_reducible refine Kd.C_drewN ?_ _) | (with_reducible refine Kd.C_drew ?_) | exact HR328_0.out)) | (with_reducible refine Kd.C_alloc ?_ _) | (with_reducible refine Kd.C_drewN ?_ _) | (with_reducible refine Kd.C_drew ?_))); (case side4 => exact HC328_0.out); rintro e w13 ⟨rfl, hb⟩; refine ⟨_, rfl, ?_⟩; replace HO_0 := a0_ (Kd.V_below (va_ HO_0.out) hb); replace HO_1 := a0_ (Kd.V_below (va_ HO_1.out) hb); replace HO_5 := a0_ (Kd.N_below (by (with_reducible repeat (first | apply Kd.N_alloc | apply Kd.N_drewN | apply Kd.N_drew)); exact HO_5.out) hb); replace HL328_0 := a0_ (Kd.V_below (va_ HL328_0.out) hb); replace HR328_0 := a0_ (Kd.C_below (by repeat (first | (with_reducible exact HR328_0.out) | (with_reducible refine Kd.C_alloc ?_ _) | (with_reducible refine Kd.C_drewN ?_ _) | (with_reducible refine Kd.C_drew ?_) | exact HR328_0.out)) hb); replace HB := a0_ (below_step (bl0_) hb); (try clear hb); (try clear hb2); (try clear hk); (try clear hi); have p330 : 0 ≤ (x7_1 : Int) := od_; have q330 : x7_1 < (l0.length : Int) := od_; obtain ⟨ad330, A330_0, c330_0, e330, hx330_0, hl330_0, hi330_0⟩ := at_L3 (Kd.V_reads' HO_0.out).2.2 x7_1 p330 q330; obtain rfl : ad328 = ad330 := (by injection e330); obtain ⟨ce330, hce330, hMe330, hcc330⟩ := Kd.V_get HO_0.out [] x7_1 p330 (by first | exact q330 | exact od_ | (have e_ := (Kd.V_reads' HO_0.out).1; omega)); obtain ⟨ua330_0, uc330_0, rfl, ul330_0, ge330_0⟩ := Kd.FK_slice_open hMe330; have hv330_0 := hcc330 0 _ rfl; rw [Nat.add_zero, show ((Kd.slice 46 k46)).sz = 1 from rfl, Nat.mul_one] at hv330_0; replace hv330_0 := Option.some.inj (hv330_0.symm.trans hx330_0); injection hv330_0 with hva_ hvn_ hvc_; rw [hva_] at ge330_0; rw [hvc_] at ul330_0; have HL330_0 := a0_ (show Kd.V k46 46 _ w.heap.size _ _ (rd_L3 l0 x7_1) from Kd.V_mk ul330_0 ge330_0); clear hva_ hvn_ hvc_ ge330_0 ul330_0; clear hcc330 hce330; have HR330_0 := Aside0.mk hi330_0; have HC330_0 := Aside0.mk hl330_0; clear hi330_0 hl330_0; replace p330 := eq_true p330; replace q330 := eq_true q330) | ((with_reducible refine gate_builtin (b := .append) (xs := #[.tmp 35, .tmp 40]) rfl ?_); at_builtin; refine Kd.N_append (Kd.slice 46 k46) (w0 := w) w.heap.size rfl (.tmp 35) (.tmp 40) 25 35 (.slice none 0 0) 24 rfl Tryz.underlying25 info35 rfl (by decide) (by omega) u5 x5_1 (rd_L3 l0 x7_1) [.slice A330_0 (rd_L3 l0 x7_1).length c330_0] (fun k_ => ((P0_ k_ ∨ P1_ k_) ∨ w.heap.size ≤ k_)) (fun k_ => ((fun k_ => ((P0_ k_ ∨ P1_ k_) ∨ w.heap.size ≤ k_))) k_ ∧ some k_ ≠ (u5 : Value).ownBlock) rfl rfl ?aP (fun _ hk => hk) ?aF ?aO ?aB ?aS ?aL ?_; (case aP => exact (Kd.FK_slice_mk (Kd.V_reads' (Kd.V_mono (ok' := (fun k_ => ((fun k_ => ((P0_ k_ ∨ P1_ k_) ∨ w.heap.size ≤ k_))) k_ ∧ some k_ ≠ (u5 : Value).ownBlock)) (HL330_0.out) (fun k_ hk => ⟨hk.1, hk.2⟩))).2.1 (Kd.V_F (Kd.V_mono (ok' := (fun k_ => ((fun k_ => ((P0_ k_ ∨ P1_ k_) ∨ w.heap.size ≤ k_))) k_ ∧ some k_ ≠ (u5 : Value).ownBlock)) (HL330_0.out) (fun k_ hk => ⟨hk.1, hk.2⟩))))); (case aB => exact (bl0_)); (case aF => exact (fun k_ hk => (.inr (Nat.le_trans (below_size (bl0_)) hk)))); (case aO => exact (by (with_reducible repeat (first | apply Kd.N_alloc | apply Kd.N_drewN | apply Kd.N_drew)); exact HO_5.out)); (case aS => exact (below_size (bl0_))); (case aL => have := LMc12.out; omega); intro v332 w14 ho hb hg hat; rw [← Ny331.out] at ho; replace HO_0 := a0_ (Kd.V_afterv (ok := (fun k_ => ((P0_ k_ ∨ P1_ k_) ∨ w.heap.size ≤ k_))) (va_ HO_0.out) hg hat); replace HO_1 := a0_ (Kd.V_afterv (ok := (fun k_ => ((P0_ k_ ∨ P1_ k_) ∨ w.heap.size ≤ k_))) (va_ HO_1.out) hg hat); replace HL328_0 := a0_ (Kd.V_afterv (ok := (fun k_ => ((P0_ k_ ∨ P1_ k_) ∨ w.heap.size ≤ k_))) (va_ HL328_0.out) hg hat); replace HL330_0 := a0_ (Kd.V_afterv (ok := (fun k_ => ((P0_ k_ ∨ P1_ k_) ∨ w.heap.size ≤ k_))) (va_ HL330_0.out) hg hat); replace HB := a0_ (hb); have HO333 := a0_ (ho); clear HO_5; clear ho hb hg hat))
         go_roundg k1
         case measure => have := HK1.out; omega
         case rel => exact ⟨(y331), (true), (wrap64 (x7_1 + 1)), rs_, rs_, H', ⟨by have := HK1.out; omega⟩, ⟨va_ HO_0.out⟩, ⟨va_ HO_1.out⟩, ⟨by (with_reducible repeat (first | apply Kd.N_alloc | apply Kd.N_drewN | apply Kd.N_drew)); exact HO333.out⟩, ⟨bl0_⟩⟩
        ·rw [if_neg c12] at H
         exact absurd H (by simp)
       ·replace c11 := Bool.eq_false_iff.mpr c11
        subst c11
        rw [if_neg (show ¬ (false = true) by decide)] at H
        by_cases c15 : x5_1.length < 5864062014805
        ·rw [if_pos c15] at H
         have LMc15 := Aside0.mk c15
         clear c15
         obtain ⟨y334, hy334⟩ : ∃ y_ : List (List (S46)), y_ = (x5_1 ++ [l1]) := ⟨_, rfl⟩
         replace H : (if y334.length < 5864062014805 then (spec_l03Add.l0 k1 l0 l1 (y334 ++ [rd_L3 l0 x7_1]) true (wrap64 (x7_1 + 1))) else (none)) = some r := hh_ hy334 H
         have Ny334 := Aside0.mk hy334
         clear hy334
         by_cases c16 : y334.length < 5864062014805
         ·rw [if_pos c16] at H
          have LMc16 := Aside0.mk c16
          clear c16
          obtain ⟨y338, hy338⟩ : ∃ y_ : List (List (S46)), y_ = (y334 ++ [rd_L3 l0 x7_1]) := ⟨_, rfl⟩
          replace H : (spec_l03Add.l0 k1 l0 l1 y338 true (wrap64 (x7_1 + 1))) = some r := hh_ hy338 H
          have Ny338 := Aside0.mk hy338
          clear hy338
          have H' := Aside0.mk H
          clear H
          have p328 : 0 ≤ (x7_1 : Int) := od_
          have q328 : x7_1 < (l0.length : Int) := od_
          obtain ⟨ad328, A328_0, c328_0, e328, hx328_0, hl328_0, hi328_0⟩ := at_L3 (Kd.V_reads' HO_0.out).2.2 x7_1 p328 q328
          cases e328
          obtain ⟨ce328, hce328, hMe328, hcc328⟩ := Kd.V_get HO_0.out [] x7_1 p328 (by first | exact q328 | exact od_ | (have e_ := (Kd.V_reads' HO_0.out).1; omega))
          obtain ⟨ua328_0, uc328_0, rfl, ul328_0, ge328_0⟩ := Kd.FK_slice_open hMe328
          have hv328_0 := hcc328 0 _ rfl
          rw [Nat.add_zero, show ((Kd.slice 46 k46)).sz = 1 from rfl, Nat.mul_one] at hv328_0
          replace hv328_0 := Option.some.inj (hv328_0.symm.trans hx328_0)
          injection hv328_0 with hva_ hvn_ hvc_
          rw [hva_] at ge328_0
          rw [hvc_] at ul328_0
          have HL328_0 := a0_ (show Kd.V k46 46 _ w.heap.size _ _ (rd_L3 l0 x7_1) from Kd.V_mk ul328_0 ge328_0)
          clear hva_ hvn_ hvc_ ge328_0 ul328_0
          clear hcc328 hce328
          have HR328_0 := Aside0.mk hi328_0
          have HC328_0 := Aside0.mk hl328_0
          clear hi328_0 hl328_0
          replace p328 := eq_true p328
          replace q328 := eq_true q328
          go_wp2_with (first | ((with_reducible refine gate_callee (f := 63) rfl ?_); refine goesL_ (some 21) rfl rfl Tryz.func63 kr_ rfl #[.slice A1 l1.length c1, .slice A328_0 (rd_L3 l0 x7_1).length c328_0] rfl ta_ ?_; (with_reducible refine (spec_CompareShapes.calls k1 _ _ l1 _ _ (rd_L3 l0 x7_1) t329 _ ?side1 ?side2 ?side3 ?side4 A7.out).mono ?_); (case side1 => exact ca_ (Kd.V_reads' HO_1.out).2.2); (case side2 => exact (Kd.V_reads' HO_1.out).2.1); (case side3 => repeat (first | exact (by repeat (first | (with_reducible exact HR328_0.out) | (with_reducible refine Kd.C_alloc ?_ _) | (with_reducible refine Kd.C_drewN ?_ _) | (with_reducible refine Kd.C_drew ?_) | exact HR328_0.out)) | (with_reducible refine Kd.C_alloc ?_ _) | (with_reducible refine Kd.C_drewN ?_ _) | (with_reducible refine Kd.C_drew ?_))); (case side4 => exact HC328_0.out); rintro e w17 ⟨rfl, hb⟩; refine ⟨_, rfl, ?_⟩; replace HO_0 := a0_ (Kd.V_below (va_ HO_0.out) hb); replace HO_1 := a0_ (Kd.V_below (va_ HO_1.out) hb); replace HO_5 := a0_ (Kd.N_below (by (with_reducible repeat (first | apply Kd.N_alloc | apply Kd.N_drewN | apply Kd.N_drew)); exact HO_5.out) hb); replace HL328_0 := a0_ (Kd.V_below (va_ HL328_0.out) hb); replace HR328_0 := a0_ (Kd.C_below (by repeat (first | (with_reducible exact HR328_0.out) | (with_reducible refine Kd.C_alloc ?_ _) | (with_reducible refine Kd.C_drewN ?_ _) | (with_reducible refine Kd.C_drew ?_) | exact HR328_0.out)) hb); replace HB := a0_ (below_step (bl0_) hb); (try clear hb); (try clear hb2); (try clear hk); (try clear hi)) | ((with_reducible refine gate_builtin (b := .append) (xs := #[.tmp 31, .tmp 33]) rfl ?_); at_builtin; refine Kd.N_append (Kd.slice 46 k46) (w0 := w) w.heap.size rfl (.tmp 31) (.tmp 33) 25 35 (.slice none 0 0) 24 rfl Tryz.underlying25 info35 rfl (by decide) (by omega) u5 x5_1 l1 [.slice A1 l1.length c1] (fun k_ => ((P0_ k_ ∨ P1_ k_) ∨ w.heap.size ≤ k_)) (fun k_ => ((fun k_ => ((P0_ k_ ∨ P1_ k_) ∨ w.heap.size ≤ k_))) k_ ∧ some k_ ≠ (u5 : Value).ownBlock) rfl rfl ?aP (fun _ hk => hk) ?aF ?aO ?aB ?aS ?aL ?_; (case aP => exact (Kd.FK_slice_mk (Kd.V_reads' (Kd.V_mono (ok' := (fun k_ => ((fun k_ => ((P0_ k_ ∨ P1_ k_) ∨ w.heap.size ≤ k_))) k_ ∧ some k_ ≠ (u5 : Value).ownBlock)) (HO_1.out) (fun k_ hk => ⟨hk.1, hk.2⟩))).2.1 (Kd.V_F (Kd.V_mono (ok' := (fun k_ => ((fun k_ => ((P0_ k_ ∨ P1_ k_) ∨ w.heap.size ≤ k_))) k_ ∧ some k_ ≠ (u5 : Value).ownBlock)) (HO_1.out) (fun k_ hk => ⟨hk.1, hk.2⟩))))); (case aB => exact (bl0_)); (case aF => exact (fun k_ hk => (.inr (Nat.le_trans (below_size (bl0_)) hk)))); (case aO => exact (by (with_reducible repeat (first | apply Kd.N_alloc | apply Kd.N_drewN | apply Kd.N_drew)); exact HO_5.out)); (case aS => exact (below_size (bl0_))); (case aL => have := LMc15.out; omega); intro v335 w18 ho hb hg hat; rw [← Ny334.out] at ho; replace HO_0 := a0_ (Kd.V_afterv (ok := (fun k_ => ((P0_ k_ ∨ P1_ k_) ∨ w.heap.size ≤ k_))) (va_ HO_0.out) hg hat); replace HO_1 := a0_ (Kd.V_afterv (ok := (fun k_ => ((P0_ k_ ∨ P1_ k_) ∨ w.heap.size ≤ k_))) (va_ HO_1.out) hg hat); replace HL328_0 := a0_ (Kd.V_afterv (ok := (fun k_ => ((P0_ k_ ∨ P1_ k_) ∨ w.heap.size ≤ k_))) (va_ HL328_0.out) hg hat); replace HB := a0_ (hb); have HO336 := a0_ (ho); clear HO_5; clear ho hb hg hat; have p337 : 0 ≤ (x7_1 : Int) := od_; have q337 : x7_1 < (l0.length : Int) := od_; obtain ⟨ad337, A337_0, c337_0, e337, hx337_0, hl337_0, hi337_0⟩ := at_L3 (Kd.V_reads' HO_0.out).2.2 x7_1 p337 q337; obtain rfl : ad328 = ad337 := (by injection e337); obtain ⟨ce337, hce337, hMe337, hcc337⟩ := Kd.V_get HO_0.out [] x7_1 p337 (by first | exact q337 | exact od_ | (have e_ := (Kd.V_reads' HO_0.out).1; omega)); obtain ⟨ua337_0, uc337_0, rfl, ul337_0, ge337_0⟩ := Kd.FK_slice_open hMe337; have hv337_0 := hcc337 0 _ rfl; rw [Nat.add_zero, show ((Kd.slice 46 k46)).sz = 1 from rfl, Nat.mul_one] at hv337_0; replace hv337_0 := Option.some.inj (hv337_0.symm.trans hx337_0); injection hv337_0 with hva_ hvn_ hvc_; rw [hva_] at ge337_0; rw [hvc_] at ul337_0; have HL337_0 := a0_ (show Kd.V k46 46 _ w.heap.size _ _ (rd_L3 l0 x7_1) from Kd.V_mk ul337_0 ge337_0); clear hva_ hvn_ hvc_ ge337_0 ul337_0; clear hcc337 hce337; have HR337_0 := Aside0.mk hi337_0; have HC337_0 := Aside0.mk hl337_0; clear hi337_0 hl337_0; replace p337 := eq_true p337; replace q337 := eq_true q337) | ((with_reducible refine gate_builtin (b := .append) (xs := #[.tmp 35, .tmp 40]) rfl ?_); at_builtin; refine Kd.N_append (Kd.slice 46 k46) (w0 := w) w.heap.size rfl (.tmp 35) (.tmp 40) 25 35 (.slice none 0 0) 24 rfl Tryz.underlying25 info35 rfl (by decide) (by omega) v335 y334 (rd_L3 l0 x7_1) [.slice A337_0 (rd_L3 l0 x7_1).length c337_0] (fun k_ => ((P0_ k_ ∨ P1_ k_) ∨ w.heap.size ≤ k_)) (fun k_ => ((fun k_ => ((P0_ k_ ∨ P1_ k_) ∨ w.heap.size ≤ k_))) k_ ∧ some k_ ≠ (v335 : Value).ownBlock) rfl rfl ?aP (fun _ hk => hk) ?aF ?aO ?aB ?aS ?aL ?_; (case aP => exact (Kd.FK_slice_mk (Kd.V_reads' (Kd.V_mono (ok' := (fun k_ => ((fun k_ => ((P0_ k_ ∨ P1_ k_) ∨ w.heap.size ≤ k_))) k_ ∧ some k_ ≠ (v335 : Value).ownBlock)) (HL337_0.out) (fun k_ hk => ⟨hk.1, hk.2⟩))).2.1 (Kd.V_F (Kd.V_mono (ok' := (fun k_ => ((fun k_ => ((P0_ k_ ∨ P1_ k_) ∨ w.heap.size ≤ k_))) k_ ∧ some k_ ≠ (v335 : Value).ownBlock)) (HL337_0.out) (fun k_ hk => ⟨hk.1, hk.2⟩))))); (case aB => exact (bl0_)); (case aF => exact (fun k_ hk => (.inr (Nat.le_trans (below_size (bl0_)) hk)))); (case aO => exact (by (with_reducible repeat (first | apply Kd.N_alloc | apply Kd.N_drewN | apply Kd.N_drew)); exact HO336.out)); (case aS => exact (below_size (bl0_))); (case aL => have := LMc16.out; omega); intro v339 w19 ho hb hg hat; rw [← Ny338.out] at ho; replace HO_0 := a0_ (Kd.V_afterv (ok := (fun k_ => ((P0_ k_ ∨ P1_ k_) ∨ w.heap.size ≤ k_))) (va_ HO_0.out) hg hat); replace HO_1 := a0_ (Kd.V_afterv (ok := (fun k_ => ((P0_ k_ ∨ P1_ k_) ∨ w.heap.size ≤ k_))) (va_ HO_1.out) hg hat); replace HL328_0 := a0_ (Kd.V_afterv (ok := (fun k_ => ((P0_ k_ ∨ P1_ k_) ∨ w.heap.size ≤ k_))) (va_ HL328_0.out) hg hat); replace HL337_0 := a0_ (Kd.V_afterv (ok := (fun k_ => ((P0_ k_ ∨ P1_ k_) ∨ w.heap.size ≤ k_))) (va_ HL337_0.out) hg hat); replace HB := a0_ (hb); have HO340 := a0_ (ho); clear HO336; clear ho hb hg hat))
          go_roundg k1
          case measure => have := HK1.out; omega
          case rel => exact ⟨(y338), (true), (wrap64 (x7_1 + 1)), rs_, rs_, H', ⟨by have := HK1.out; omega⟩, ⟨va_ HO_0.out⟩, ⟨va_ HO_1.out⟩, ⟨by (with_reducible repeat (first | apply Kd.N_alloc | apply Kd.N_drewN | apply Kd.N_drew)); exact HO340.out⟩, ⟨bl0_⟩⟩
         ·rw [if_neg c16] at H
          exact absurd H (by simp)
        ·rw [if_neg c15] at H
         exact absurd H (by simp)
      ·rw [if_neg c10] at H
       have c10b0 : decide (t329 < 0) = false := decide_eq_false c10
       clear c10
       by_cases c20 : x5_1.length < 5864062014805
       ·rw [if_pos c20] at H
        have LMc20 := Aside0.mk c20
        clear c20
        obtain ⟨y342, hy342⟩ : ∃ y_ : List (List (S46)), y_ = (x5_1 ++ [rd_L3 l0 x7_1]) := ⟨_, rfl⟩
        replace H : (spec_l03Add.l0 k1 l0 l1 y342 x6_1 (wrap64 (x7_1 + 1))) = some r := hh_ hy342 H
        have Ny342 := Aside0.mk hy342
        clear hy342
        have H' := Aside0.mk H
        clear H
        have p328 : 0 ≤ (x7_1 : Int) := od_
        have q328 : x7_1 < (l0.length : Int) := od_
        obtain ⟨ad328, A328_0, c328_0, e328, hx328_0, hl328_0, hi328_0⟩ := at_L3 (Kd.V_reads' HO_0.out).2.2 x7_1 p328 q328
        cases e328
        obtain ⟨ce328, hce328, hMe328, hcc328⟩ := Kd.V_get HO_0.out [] x7_1 p328 (by first | exact q328 | exact od_ | (have e_ := (Kd.V_reads' HO_0.out).1; omega))
        obtain ⟨ua328_0, uc328_0, rfl, ul328_0, ge328_0⟩ := Kd.FK_slice_open hMe328
        have hv328_0 := hcc328 0 _ rfl
        rw [Nat.add_zero, show ((Kd.slice 46 k46)).sz = 1 from rfl, Nat.mul_one] at hv328_0
        replace hv328_0 := Option.some.inj (hv328_0.symm.trans hx328_0)
        injection hv328_0 with hva_ hvn_ hvc_
        rw [hva_] at ge328_0
        rw [hvc_] at ul328_0
        have HL328_0 := a0_ (show Kd.V k46 46 _ w.heap.size _ _ (rd_L3 l0 x7_1) from Kd.V_mk ul328_0 ge328_0)
        clear hva_ hvn_ hvc_ ge328_0 ul328_0
        clear hcc328 hce328
        have HR328_0 := Aside0.mk hi328_0
        have HC328_0 := Aside0.mk hl328_0
        clear hi328_0 hl328_0
        replace p328 := eq_true p328
        replace q328 := eq_true q328
        go_wp2_with (first | ((with_reducible refine gate_callee (f := 63) rfl ?_); refine goesL_ (some 21) rfl rfl Tryz.func63 kr_ rfl #[.slice A1 l1.length c1, .slice A328_0 (rd_L3 l0 x7_1).length c328_0] rfl ta_ ?_; (with_reducible refine (spec_CompareShapes.calls k1 _ _ l1 _ _ (rd_L3 l0 x7_1) t329 _ ?side1 ?side2 ?side3 ?side4 A7.out).mono ?_); (case side1 => exact ca_ (Kd.V_reads' HO_1.out).2.2); (case side2 => exact (Kd.V_reads' HO_1.out).2.1); (case side3 => repeat (first | exact (by repeat (first | (with_reducible exact HR328_0.out) | (with_reducible refine Kd.C_alloc ?_ _) | (with_reducible refine Kd.C_drewN ?_ _) | (with_reducible refine Kd.C_drew ?_) | exact HR328_0.out)) | (with_reducible refine Kd.C_alloc ?_ _) | (with_reducible refine Kd.C_drewN ?_ _) | (with_reducible refine Kd.C_drew ?_))); (case side4 => exact HC328_0.out); rintro e w21 ⟨rfl, hb⟩; refine ⟨_, rfl, ?_⟩; replace HO_0 := a0_ (Kd.V_below (va_ HO_0.out) hb); replace HO_1 := a0_ (Kd.V_below (va_ HO_1.out) hb); replace HO_5 := a0_ (Kd.N_below (by (with_reducible repeat (first | apply Kd.N_alloc | apply Kd.N_drewN | apply Kd.N_drew)); exact HO_5.out) hb); replace HL328_0 := a0_ (Kd.V_below (va_ HL328_0.out) hb); replace HR328_0 := a0_ (Kd.C_below (by repeat (first | (with_reducible exact HR328_0.out) | (with_reducible refine Kd.C_alloc ?_ _) | (with_reducible refine Kd.C_drewN ?_ _) | (with_reducible refine Kd.C_drew ?_) | exact HR328_0.out)) hb); replace HB := a0_ (below_step (bl0_) hb); (try clear hb); (try clear hb2); (try clear hk); (try clear hi); have p341 : 0 ≤ (x7_1 : Int) := od_; have q341 : x7_1 < (l0.length : Int) := od_; obtain ⟨ad341, A341_0, c341_0, e341, hx341_0, hl341_0, hi341_0⟩ := at_L3 (Kd.V_reads' HO_0.out).2.2 x7_1 p341 q341; obtain rfl : ad328 = ad341 := (by injection e341); obtain ⟨ce341, hce341, hMe341, hcc341⟩ := Kd.V_get HO_0.out [] x7_1 p341 (by first | exact q341 | exact od_ | (have e_ := (Kd.V_reads' HO_0.out).1; omega)); obtain ⟨ua341_0, uc341_0, rfl, ul341_0, ge341_0⟩ := Kd.FK_slice_open hMe341; have hv341_0 := hcc341 0 _ rfl; rw [Nat.add_zero, show ((Kd.slice 46 k46)).sz = 1 from rfl, Nat.mul_one] at hv341_0; replace hv341_0 := Option.some.inj (hv341_0.symm.trans hx341_0); injection hv341_0 with hva_ hvn_ hvc_; rw [hva_] at ge341_0; rw [hvc_] at ul341_0; have HL341_0 := a0_ (show Kd.V k46 46 _ w.heap.size _ _ (rd_L3 l0 x7_1) from Kd.V_mk ul341_0 ge341_0); clear hva_ hvn_ hvc_ ge341_0 ul341_0; clear hcc341 hce341; have HR341_0 := Aside0.mk hi341_0; have HC341_0 := Aside0.mk hl341_0; clear hi341_0 hl341_0; replace p341 := eq_true p341; replace q341 := eq_true q341) | ((with_reducible refine gate_builtin (b := .append) (xs := #[.tmp 35, .tmp 40]) rfl ?_); at_builtin; refine Kd.N_append (Kd.slice 46 k46) (w0 := w) w.heap.size rfl (.tmp 35) (.tmp 40) 25 35 (.slice none 0 0) 24 rfl Tryz.underlying25 info35 rfl (by decide) (by omega) u5 x5_1 (rd_L3 l0 x7_1) [.slice A341_0 (rd_L3 l0 x7_1).length c341_0] (fun k_ => ((P0_ k_ ∨ P1_ k_) ∨ w.heap.size ≤ k_)) (fun k_ => ((fun k_ => ((P0_ k_ ∨ P1_ k_) ∨ w.heap.size ≤ k_))) k_ ∧ some k_ ≠ (u5 : Value).ownBlock) rfl rfl ?aP (fun _ hk => hk) ?aF ?aO ?aB ?aS ?aL ?_; (case aP => exact (Kd.FK_slice_mk (Kd.V_reads' (Kd.V_mono (ok' := (fun k_ => ((fun k_ => ((P0_ k_ ∨ P1_ k_) ∨ w.heap.size ≤ k_))) k_ ∧ some k_ ≠ (u5 : Value).ownBlock)) (HL341_0.out) (fun k_ hk => ⟨hk.1, hk.2⟩))).2.1 (Kd.V_F (Kd.V_mono (ok' := (fun k_ => ((fun k_ => ((P0_ k_ ∨ P1_ k_) ∨ w.heap.size ≤ k_))) k_ ∧ some k_ ≠ (u5 : Value).ownBlock)) (HL341_0.out) (fun k_ hk => ⟨hk.1, hk.2⟩))))); (case aB => exact (bl0_)); (case aF => exact (fun k_ hk => (.inr (Nat.le_trans (below_size (bl0_)) hk)))); (case aO => exact (by (with_reducible repeat (first | apply Kd.N_alloc | apply Kd.N_drewN | apply Kd.N_drew)); exact HO_5.out)); (case aS => exact (below_size (bl0_))); (case aL => have := LMc20.out; omega); intro v343 w22 ho hb hg hat; rw [← Ny342.out] at ho; replace HO_0 := a0_ (Kd.V_afterv (ok := (fun k_ => ((P0_ k_ ∨ P1_ k_) ∨ w.heap.size ≤ k_))) (va_ HO_0.out) hg hat); replace HO_1 := a0_ (Kd.V_afterv (ok := (fun k_ => ((P0_ k_ ∨ P1_ k_) ∨ w.heap.size ≤ k_))) (va_ HO_1.out) hg hat); replace HL328_0 := a0_ (Kd.V_afterv (ok := (fun k_ => ((P0_ k_ ∨ P1_ k_) ∨ w.heap.size ≤ k_))) (va_ HL328_0.out) hg hat); replace HL341_0 := a0_ (Kd.V_afterv (ok := (fun k_ => ((P0_ k_ ∨ P1_ k_) ∨ w.heap.size ≤ k_))) (va_ HL341_0.out) hg hat); replace HB := a0_ (hb); have HO344 := a0_ (ho); clear HO_5; clear ho hb hg hat))
        go_roundg k1
        case measure => have := HK1.out; omega
        case rel => exact ⟨(y342), (x6_1), (wrap64 (x7_1 + 1)), rs_, rs_, H', ⟨by have := HK1.out; omega⟩, ⟨va_ HO_0.out⟩, ⟨va_ HO_1.out⟩, ⟨by (with_reducible repeat (first | apply Kd.N_alloc | apply Kd.N_drewN | apply Kd.N_drew)); exact HO344.out⟩, ⟨bl0_⟩⟩
       ·rw [if_neg c20] at H
        exact absurd H (by simp)
    ·rw [if_neg c6] at H
     exact absurd H (by simp)
   ·rw [if_neg c5] at H
    have c5b0 : decide (x7_1 < (l0.length : Int)) = false := decide_eq_false c5
    clear c5
    by_cases c23 : x6_1 = true
    ·subst c23
     rw [if_pos rfl] at H
     obtain rfl := Option.some.inj H
     go_wp2
     go_ret
     exact ⟨_, er_, Kd.N_V (by (with_reducible repeat (first | apply Kd.N_alloc | apply Kd.N_drewN | apply Kd.N_drew)); exact HO_5.out), bl0_⟩
    ·replace c23 := Bool.eq_false_iff.mpr c23
     subst c23
     rw [if_neg (show ¬ (false = true) by decide)] at H
     by_cases c24 : x5_1.length < 5864062014805
     ·rw [if_pos c24] at H
      have LMc24 := Aside0.mk c24
      clear c24
      obtain ⟨y325, hy325⟩ : ∃ y_ : List (List (S46)), y_ = (x5_1 ++ [l1]) := ⟨_, rfl⟩
      replace H : (some y325) = some r := hh_ hy325 H
      have Ny325 := Aside0.mk hy325
      clear hy325
      obtain rfl := Option.some.inj H
      go_wp2_with (first | ((with_reducible refine gate_builtin (b := .append) (xs := #[.tmp 44, .tmp 46]) rfl ?_); at_builtin; refine Kd.N_append (Kd.slice 46 k46) (w0 := w) w.heap.size rfl (.tmp 44) (.tmp 46) 25 35 (.slice none 0 0) 24 rfl Tryz.underlying25 info35 rfl (by decide) (by omega) u5 x5_1 l1 [.slice A1 l1.length c1] (fun k_ => ((P0_ k_ ∨ P1_ k_) ∨ w.heap.size ≤ k_)) (fun k_ => ((fun k_ => ((P0_ k_ ∨ P1_ k_) ∨ w.heap.size ≤ k_))) k_ ∧ some k_ ≠ (u5 : Value).ownBlock) rfl rfl ?aP (fun _ hk => hk) ?aF ?aO ?aB ?aS ?aL ?_; (case aP => exact (Kd.FK_slice_mk (Kd.V_reads' (Kd.V_mono (ok' := (fun k_ => ((fun k_ => ((P0_ k_ ∨ P1_ k_) ∨ w.heap.size ≤ k_))) k_ ∧ some k_ ≠ (u5 : Value).ownBlock)) (HO_1.out) (fun k_ hk => ⟨hk.1, hk.2⟩))).2.1 (Kd.V_F (Kd.V_mono (ok' := (fun k_ => ((fun k_ => ((P0_ k_ ∨ P1_ k_) ∨ w.heap.size ≤ k_))) k_ ∧ some k_ ≠ (u5 : Value).ownBlock)) (HO_1.out) (fun k_ hk => ⟨hk.1, hk.2⟩))))); (case aB => exact (bl0_)); (case aF => exact (fun k_ hk => (.inr (Nat.le_trans (below_size (bl0_)) hk)))); (case aO => exact (by (with_reducible repeat (first | apply Kd.N_alloc | apply Kd.N_drewN | apply Kd.N_drew)); exact HO_5.out)); (case aS => exact (below_size (bl0_))); (case aL => have := LMc24.out; omega); intro v326 w25 ho hb hg hat; rw [← Ny325.out] at ho; replace HO_0 := a0_ (Kd.V_afterv (ok := (fun k_ => ((P0_ k_ ∨ P1_ k_) ∨ w.heap.size ≤ k_))) (va_ HO_0.out) hg hat); replace HO_1 := a0_ (Kd.V_afterv (ok := (fun k_ => ((P0_ k_ ∨ P1_ k_) ∨ w.heap.size ≤ k_))) (va_ HO_1.out) hg hat); replace HB := a0_ (hb); have HO327 := a0_ (ho); clear HO_5; clear ho hb hg hat))
      go_ret
      exact ⟨_, er_, Kd.N_V (by (with_reducible repeat (first | apply Kd.N_alloc | apply Kd.N_drewN | apply Kd.N_drew)); exact HO327.out), bl0_⟩
     ·rw [if_neg c24] at H
      exact absurd H (by simp)

end Go.Proofs.YtmdjkmfocgelnaaGreat.PFnTriangleShapes
