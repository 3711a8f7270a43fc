/- Over the kit's printer by a driver of mine (hprint.py), with parts by hand: functions of the program as Lean functions, and that each call comes to exactly these answers. -/
import Derived.Test.YtaaodakmelihaaaGreatPFnPiecesx0
import Derived.Test.YtaaodakmelihaaaGreatPFnPiecesx9
import Derived.Test.YtaaodakmelihaaaGreatPFnPiecesx10
import Derived.Test.YtaaodakmelihaaaGreatPFnPiecesx17
namespace Go.Proofs.YtaaodakmelihaaaGreat.PFnPieces
open Go.RowKit Go.Proofs.YtaaodakmelihaaaGreatW.PrintWords Go.Proofs.YtaaodakmelihaaaGreatW.PrintLast Go.Proofs.YtaaodakmelihaaaGreatW.PrintMore
attribute [local go_sem] max2_int min2_int max_two min_two max_three min_three max_four min_four   -- for this text's walks alone
set_option linter.unusedVariables false
set_option linter.unusedSimpArgs false

/-! ### spec_l03Add: function 64 -/
def spec_l03Add.l0 : Nat → List (List (S60)) → List (S60) → List (List (S60)) → Bool → Int → Option ((List (List (S60))))
 | 0, _, _, _, _, _ => none
 | k + 1, x0, x1, x5, x6, x7 => if x7 < (x0.length : Int) then (if 0 ≤ x7 then ((spec_CompareShapes.f k x1 (rd_L3 x0 x7)).bind fun t499 => (if t499 = 0 then (some x0) else (if t499 < 0 then (if x6 = true then (if x5.length < 5864062014805 then (spec_l03Add.l0 k x0 x1 (x5 ++ [rd_L3 x0 x7]) x6 (wrap64 (x7 + 1))) else (none)) else (if x5.length < 5864062014805 then ((some (x5 ++ [x1] : List (List (S60)))).bind fun y504 => (if y504.length < 5864062014805 then (spec_l03Add.l0 k x0 x1 (y504 ++ [rd_L3 x0 x7]) true (wrap64 (x7 + 1))) else (none))) else (none))) else (if x5.length < 5864062014805 then (spec_l03Add.l0 k x0 x1 (x5 ++ [rd_L3 x0 x7]) x6 (wrap64 (x7 + 1))) else (none))))) else (none)) else (if x6 = true then (some x5) else (if x5.length < 5864062014805 then (some (x5 ++ [x1])) else (none)))
def spec_l03Add.f (k : Nat) (l0 : List (List (S60))) (l1 : List (S60)) : Option ((List (List (S60)))) := spec_l03Add.l0 k l0 l1 (([] : List (List (S60)))) false 0
theorem spec_l03Add.mono_l : ∀ k, (∀ y0 y1 y2 y3 y4, LeO (spec_l03Add.l0 k y0 y1 y2 y3 y4) (spec_l03Add.l0 (k + 1) y0 y1 y2 y3 y4))
 | 0 => fun _ _ _ _ _ r h => by simp [spec_l03Add.l0] at h
 | k + 1 => by
  have ih0 := spec_l03Add.mono_l k
  ·intro y0 y1 y2 y3 y4
   unfold spec_l03Add.l0
   with_reducible (repeat' first | exact ih0 _ _ _ _ _ | exact spec_CompareShapes.mono _ _ _ | exact LeO.refl _ | exact LeO.none _ | refine LeO.ite ?_ ?_ | refine LeO.bind ?_ (fun _ => ?_))
theorem spec_l03Add.mono : ∀ a0 a1 k, LeO (spec_l03Add.f k a0 a1) (spec_l03Add.f (k + 1) a0 a1) := by
 intro a0 a1 k
 have ih0 := spec_l03Add.mono_l k
 unfold spec_l03Add.f
 with_reducible (repeat' first | exact ih0 _ _ _ _ _ | exact spec_CompareShapes.mono _ _ _ | exact LeO.refl _ | exact LeO.none _ | refine LeO.ite ?_ ?_ | refine LeO.bind ?_ (fun _ => ?_))
set_option maxHeartbeats 8000000 in
set_option maxRecDepth 100000 in
theorem spec_l03Add.calls (k : Nat) (P0_ : Nat → Prop) (A0 : Option Addr) (c0 : Nat) (l0 : List (List (S60))) (P1_ : Nat → Prop) (A1 : Option Addr) (c1 : Nat) (l1 : List (S60)) (r : List (List (S60))) (w : World) (hs0 : Kd.V (Kd.slice 60 k60) 24 w w.heap.size (fun k_ => P0_ k_) (.slice A0 l0.length c0) l0) (hs1 : Kd.V k60 60 w w.heap.size (fun k_ => P1_ k_) (.slice A1 l1.length c1) l1) (h : spec_l03Add.f k l0 l1 = some r) :
  Calls Tryz.prog 64 #[.slice A0 l0.length c0, .slice A1 l1.length c1] w fun e w' => ∃ v0_ : Value, e = .returned (v0_) ∧ Kd.V (Kd.slice 60 k60) 24 w' w.heap.size (fun k_ => ((P0_ k_ ∨ P1_ k_) ∨ w.heap.size ≤ k_)) v0_ r ∧ Below w.heap.size w w' := by
 have HO0 := a0_ (show Kd.V (Kd.slice 60 k60) 24 w w.heap.size (fun k_ => ((P0_ k_ ∨ P1_ k_) ∨ w.heap.size ≤ k_)) (.slice A0 l0.length c0) l0 from Kd.V_mono hs0 (fun k_ hk => .inl (.inl hk)))
 have HO1 := a0_ (show Kd.V k60 60 w w.heap.size (fun k_ => ((P0_ k_ ∨ P1_ k_) ∨ w.heap.size ≤ k_)) (.slice A1 l1.length c1) l1 from Kd.V_mono hs1 (fun k_ hk => .inl (.inr hk)))
 have HB := a0_ (Below.refl w.heap.size w)
 have H : (spec_l03Add.l0 k l0 l1 (([] : List (List (S60)))) false 0) = some r := h
 clear h
 obtain ⟨y492, hy492⟩ : ∃ y_ : List (List (S60)), y_ = (([] : List (List (S60)))) := ⟨_, rfl⟩
 replace H : (spec_l03Add.l0 k l0 l1 y492 false 0) = some r := hh_ hy492 H
 have Ny492 := Aside0.mk hy492
 clear hy492
 have H' := Aside0.mk H
 clear H
 go_enter Tryz.func64, Tryz.ntmps64
 go_wp2_with (first | ((with_reducible refine gate_dst (N := 9) rfl ?_); refine Kd.N_lit (Kd.slice 60 k60) _ 24 ?hg (N' := 9) ?hd (xs := ([] : List (List (S60)))) (inner := []) (ok := (fun k_ => ((P0_ k_ ∨ P1_ k_) ∨ w.heap.size ≤ k_))) (okp := (fun k_ => ((P0_ k_ ∨ P1_ k_) ∨ w.heap.size ≤ k_))) ?hr ?hp (fun _ hk => hk) ((show ∀ k_, w.heap.size ≤ k_ → (fun k_ => ((P0_ k_ ∨ P1_ k_) ∨ w.heap.size ≤ k_)) k_ from fun k_ hk => (.inr (Nat.le_trans (below_size (bl0_)) hk))) _ (Nat.le_refl _)) (Below.refl _ _) (Nat.le_refl _) (by simp) ?_; (case hd => rfl); (case hg => rfl); (case hr => first | (go_simp; done) | (go_simp; rfl)); (case hp => exact (Reps.none _ _)); intro v493 w3 ho4 hb hg_ hnew_; clear hg_ hnew_; (first | rw [← Ny492.out] at ho4 | (simp only [Int.reduceToNat] at ho4; rw [← Ny492.out] at ho4)); replace HO0 := a0_ (Kd.V_elder' (va_ HO0.out) (Kd.N_base ho4) hb); replace HO1 := a0_ (Kd.V_elder' (va_ HO1.out) (Kd.N_base ho4) hb); have HO494 := a0_ (Kd.N_lower ho4 (below_size (bl0_))); replace HB := a0_ (below_step (bl0_) hb); clear hb ho4))
 go_loopg [5, 6, 7] k (fun kq v5 v6 v7 w' => ∃ (x5_1 : List (List (S60))) (x6_1 : Bool) (x7_1 : Int), v6 = .bool x6_1 ∧ v7 = .int .i64 x7_1 ∧ Aside0 (spec_l03Add.l0 kq l0 l1 x5_1 x6_1 x7_1 = some r) ∧ Aside0 (kq ≤ k) ∧ Aside0 (Kd.V (Kd.slice 60 k60) 24 w' w.heap.size (fun k_ => ((P0_ k_ ∨ P1_ k_) ∨ w.heap.size ≤ k_) ∧ some k_ ≠ (v5 : Value).ownBlock) (.slice A0 l0.length c0) l0) ∧ Aside0 (Kd.V k60 60 w' w.heap.size (fun k_ => ((P0_ k_ ∨ P1_ k_) ∨ w.heap.size ≤ k_) ∧ some k_ ≠ (v5 : Value).ownBlock) (.slice A1 l1.length c1) l1) ∧ Aside0 (Kd.N (Kd.slice 60 k60) 24 w' w.heap.size (fun k_ => ((P0_ k_ ∨ P1_ k_) ∨ w.heap.size ≤ k_)) v5 x5_1) ∧ Aside0 (Below w.heap.size w w'))
 case atStart => exact ⟨(y492), (false), (0), rs_, rs_, H', ⟨Nat.le_refl _⟩, ⟨va_ HO0.out⟩, ⟨va_ HO1.out⟩, ⟨by (with_reducible repeat (first | apply Kd.N_alloc | apply Kd.N_drewN | apply Kd.N_drew)); exact HO494.out⟩, ⟨bl0_⟩⟩
 case round =>
  clear H'
  try clear c1
  try clear p2
  obtain ⟨x5_1, x6_1, x7_1, rfl, rfl, HA, HK1, HO_0, HO_1, HO_5, HB⟩ := hrel
  cases gk with
  | zero => exact absurd HA.out (by simp [spec_l03Add.l0])
  | succ k1 =>
   have H := HA.out
   clear HA
   simp only [spec_l03Add.l0] at H
   by_cases c5 : x7_1 < (l0.length : Int)
   ·rw [if_pos c5] at H
    have c5b0 : decide (x7_1 < (l0.length : Int)) = true := decide_eq_true c5
    clear c5
    by_cases c6 : 0 ≤ x7_1
    ·rw [if_pos c6] at H
     have c6b0 : decide (0 ≤ x7_1) = true := decide_eq_true c6
     clear c6
     obtain ⟨t499, A7, H⟩ := bs_ H
     by_cases c8 : t499 = 0
     ·rw [if_pos c8] at H
      have c8b0 : (t499 == 0) = true := beq_iff_eq.mpr c8
      have c8b1 : (t499 != 0) = false := bne_eq_false_iff_eq.mpr c8
      clear c8
      obtain rfl := Option.some.inj H
      have p498 : 0 ≤ (x7_1 : Int) := od_
      have q498 : x7_1 < (l0.length : Int) := od_
      obtain ⟨ad498, A498_0, c498_0, e498, hx498_0, hl498_0, hi498_0⟩ := at_L3 (Kd.V_reads' HO_0.out).2.2 x7_1 p498 q498
      cases e498
      obtain ⟨ce498, hce498, hMe498, hcc498⟩ := Kd.V_get HO_0.out [] x7_1 p498 (by first | exact q498 | exact od_ | (have e_ := (Kd.V_reads' HO_0.out).1; omega))
      obtain ⟨ua498_0, uc498_0, rfl, ul498_0, ge498_0⟩ := Kd.FK_slice_open hMe498
      have hv498_0 := hcc498 0 _ rfl
      rw [Nat.add_zero, show ((Kd.slice 60 k60)).sz = 1 from rfl, Nat.mul_one] at hv498_0
      replace hv498_0 := Option.some.inj (hv498_0.symm.trans hx498_0)
      injection hv498_0 with hva_ hvn_ hvc_
      rw [hva_] at ge498_0
      rw [hvc_] at ul498_0
      have HL498_0 := a0_ (show Kd.V k60 60 _ w.heap.size _ _ (rd_L3 l0 x7_1) from Kd.V_mk ul498_0 ge498_0)
      clear hva_ hvn_ hvc_ ge498_0 ul498_0
      clear hcc498 hce498
      have HR498_0 := Aside0.mk hi498_0
      have HC498_0 := Aside0.mk hl498_0
      clear hi498_0 hl498_0
      replace p498 := eq_true p498
      replace q498 := eq_true q498
      go_wp2_with (first | ((with_reducible refine gate_callee (f := 44) rfl ?_); refine goesL_ (some 21) rfl rfl Tryz.func44 kr_ rfl #[.slice A1 l1.length c1, .slice A498_0 (rd_L3 l0 x7_1).length c498_0] rfl ta_ ?_; (with_reducible refine (spec_CompareShapes.calls k1 _ _ l1 _ _ (rd_L3 l0 x7_1) t499 _ ?side1 ?side2 ?side3 ?side4 A7.out).mono ?_); (case side1 => exact ca_ (Kd.V_reads' HO_1.out).2.2); (case side2 => exact (Kd.V_reads' HO_1.out).2.1); (case side3 => repeat (first | exact (by repeat (first | (with_reducible exact HR498_0.out) | (with_reducible refine Kd.C_alloc ?_ _) | (with_reducible refine Kd.C_drewN ?_ _) | (with_reducible refine Kd.C_drew ?_) | exact HR498_0.out)) | (with_reducible refine Kd.C_alloc ?_ _) | (with_reducible refine Kd.C_drewN ?_ _) | (with_reducible refine Kd.C_drew ?_))); (case side4 => exact HC498_0.out); rintro e w9 ⟨rfl, hb⟩; refine ⟨_, rfl, ?_⟩; replace HO_0 := a0_ (Kd.V_below (va_ HO_0.out) hb); replace HO_1 := a0_ (Kd.V_below (va_ HO_1.out) hb); replace HO_5 := a0_ (Kd.N_below (by (with_reducible repeat (first | apply Kd.N_alloc | apply Kd.N_drewN | apply Kd.N_drew)); exact HO_5.out) hb); replace HL498_0 := a0_ (Kd.V_below (va_ HL498_0.out) hb); replace HR498_0 := a0_ (Kd.C_below (by repeat (first | (with_reducible exact HR498_0.out) | (with_reducible refine Kd.C_alloc ?_ _) | (with_reducible refine Kd.C_drewN ?_ _) | (with_reducible refine Kd.C_drew ?_) | exact HR498_0.out)) hb); replace HB := a0_ (below_step (bl0_) hb); (try clear hb); (try clear hb2); (try clear hk); (try clear hi)))
      go_ret
      exact ⟨_, er_, by (with_reducible repeat (first | apply Kd.V_alloc | apply Kd.V_drewN | apply Kd.V_drew)); exact Kd.V_mono HO_0.out (fun _ hk => hk.1), bl0_⟩
     ·rw [if_neg c8] at H
      have c8b0 : (t499 == 0) = false := beq_eq_false_iff_ne.mpr c8
      have c8b1 : (t499 != 0) = true := bne_iff_ne.mpr c8
      by_cases c10 : t499 < 0
      ·rw [if_pos c10] at H
       have c10b0 : decide (t499 < 0) = true := decide_eq_true c10
       clear c10
       by_cases c11 : x6_1 = true
       ·subst c11
        rw [if_pos rfl] at H
        by_cases c12 : x5_1.length < 5864062014805
        ·rw [if_pos c12] at H
         have LMc12 := Aside0.mk c12
         clear c12
         obtain ⟨y501, hy501⟩ : ∃ y_ : List (List (S60)), y_ = (x5_1 ++ [rd_L3 l0 x7_1]) := ⟨_, rfl⟩
         replace H : (spec_l03Add.l0 k1 l0 l1 y501 true (wrap64 (x7_1 + 1))) = some r := hh_ hy501 H
         have Ny501 := Aside0.mk hy501
         clear hy501
         have H' := Aside0.mk H
         clear H
         have p498 : 0 ≤ (x7_1 : Int) := od_
         have q498 : x7_1 < (l0.length : Int) := od_
         obtain ⟨ad498, A498_0, c498_0, e498, hx498_0, hl498_0, hi498_0⟩ := at_L3 (Kd.V_reads' HO_0.out).2.2 x7_1 p498 q498
         cases e498
         obtain ⟨ce498, hce498, hMe498, hcc498⟩ := Kd.V_get HO_0.out [] x7_1 p498 (by first | exact q498 | exact od_ | (have e_ := (Kd.V_reads' HO_0.out).1; omega))
         obtain ⟨ua498_0, uc498_0, rfl, ul498_0, ge498_0⟩ := Kd.FK_slice_open hMe498
         have hv498_0 := hcc498 0 _ rfl
         rw [Nat.add_zero, show ((Kd.slice 60 k60)).sz = 1 from rfl, Nat.mul_one] at hv498_0
         replace hv498_0 := Option.some.inj (hv498_0.symm.trans hx498_0)
         injection hv498_0 with hva_ hvn_ hvc_
         rw [hva_] at ge498_0
         rw [hvc_] at ul498_0
         have HL498_0 := a0_ (show Kd.V k60 60 _ w.heap.size _ _ (rd_L3 l0 x7_1) from Kd.V_mk ul498_0 ge498_0)
         clear hva_ hvn_ hvc_ ge498_0 ul498_0
         clear hcc498 hce498
         have HR498_0 := Aside0.mk hi498_0
         have HC498_0 := Aside0.mk hl498_0
         clear hi498_0 hl498_0
         replace p498 := eq_true p498
         replace q498 := eq_true q498
         go_wp2_with (first | ((with_reducible refine gate_callee (f := 44) rfl ?_); refine goesL_ (some 21) rfl rfl Tryz.func44 kr_ rfl #[.slice A1 l1.length c1, .slice A498_0 (rd_L3 l0 x7_1).length c498_0] rfl ta_ ?_; (with_reducible refine (spec_CompareShapes.calls k1 _ _ l1 _ _ (rd_L3 l0 x7_1) t499 _ ?side1 ?side2 ?side3 ?side4 A7.out).mono ?_); (case side1 => exact ca_ (Kd.V_reads' HO_1.out).2.2); (case side2 => exact (Kd.V_reads' HO_1.out).2.1); (case side3 => repeat (first | exact (by repeat (first | (with_reducible exact HR498_0.out) | (with_reducible refine Kd.C_alloc ?_ _) | (with_reducible refine Kd.C_drewN ?_ _) | (with_reducible refine Kd.C_drew ?_) | exact HR498_0.out)) | (with_reducible refine Kd.C_alloc ?_ _) | (with_reducible refine Kd.C_drewN ?_ _) | (with_reducible refine Kd.C_drew ?_))); (case side4 => exact HC498_0.out); rintro e w13 ⟨rfl, hb⟩; refine ⟨_, rfl, ?_⟩; replace HO_0 := a0_ (Kd.V_below (va_ HO_0.out) hb); replace HO_1 := a0_ (Kd.V_below (va_ HO_1.out) hb); replace HO_5 := a0_ (Kd.N_below (by (with_reducible repeat (first | apply Kd.N_alloc | apply Kd.N_drewN | apply Kd.N_drew)); exact HO_5.out) hb); replace HL498_0 := a0_ (Kd.V_below (va_ HL498_0.out) hb); replace HR498_0 := a0_ (Kd.C_below (by repeat (first | (with_reducible exact HR498_0.out) | (with_reducible refine Kd.C_alloc ?_ _) | (with_reducible refine Kd.C_drewN ?_ _) | (with_reducible refine Kd.C_drew ?_) | exact HR498_0.out)) hb); replace HB := a0_ (below_step (bl0_) hb); (try clear hb); (try clear hb2); (try clear hk); (try clear hi); have p500 : 0 ≤ (x7_1 : Int) := od_; have q500 : x7_1 < (l0.length : Int) := od_; obtain ⟨ad500, A500_0, c500_0, e500, hx500_0, hl500_0, hi500_0⟩ := at_L3 (Kd.V_reads' HO_0.out).2.2 x7_1 p500 q500; obtain rfl : ad498 = ad500 := (by injection e500); obtain ⟨ce500, hce500, hMe500, hcc500⟩ := Kd.V_get HO_0.out [] x7_1 p500 (by first | exact q500 | exact od_ | (have e_ := (Kd.V_reads' HO_0.out).1; omega)); obtain ⟨ua500_0, uc500_0, rfl, ul500_0, ge500_0⟩ := Kd.FK_slice_open hMe500; have hv500_0 := hcc500 0 _ rfl; rw [Nat.add_zero, show ((Kd.slice 60 k60)).sz = 1 from rfl, Nat.mul_one] at hv500_0; replace hv500_0 := Option.some.inj (hv500_0.symm.trans hx500_0); injection hv500_0 with hva_ hvn_ hvc_; rw [hva_] at ge500_0; rw [hvc_] at ul500_0; have HL500_0 := a0_ (show Kd.V k60 60 _ w.heap.size _ _ (rd_L3 l0 x7_1) from Kd.V_mk ul500_0 ge500_0); clear hva_ hvn_ hvc_ ge500_0 ul500_0; clear hcc500 hce500; have HR500_0 := Aside0.mk hi500_0; have HC500_0 := Aside0.mk hl500_0; clear hi500_0 hl500_0; replace p500 := eq_true p500; replace q500 := eq_true q500) | ((with_reducible refine gate_builtin (b := .append) (xs := #[.tmp 35, .tmp 40]) rfl ?_); at_builtin; refine Kd.N_append (Kd.slice 60 k60) (w0 := w) w.heap.size rfl (.tmp 35) (.tmp 40) 31 24 (.slice none 0 0) 24 rfl Tryz.underlying31 info24 rfl (by decide) (by omega) u5 x5_1 (rd_L3 l0 x7_1) [.slice A500_0 (rd_L3 l0 x7_1).length c500_0] (fun k_ => ((P0_ k_ ∨ P1_ k_) ∨ w.heap.size ≤ k_)) (fun k_ => ((fun k_ => ((P0_ k_ ∨ P1_ k_) ∨ w.heap.size ≤ k_))) k_ ∧ some k_ ≠ (u5 : Value).ownBlock) rfl rfl ?aP (fun _ hk => hk) ?aF ?aO ?aB ?aS ?aL ?_; (case aP => exact (Kd.FK_slice_mk (Kd.V_reads' (Kd.V_mono (ok' := (fun k_ => ((fun k_ => ((P0_ k_ ∨ P1_ k_) ∨ w.heap.size ≤ k_))) k_ ∧ some k_ ≠ (u5 : Value).ownBlock)) (HL500_0.out) (fun k_ hk => ⟨hk.1, hk.2⟩))).2.1 (Kd.V_F (Kd.V_mono (ok' := (fun k_ => ((fun k_ => ((P0_ k_ ∨ P1_ k_) ∨ w.heap.size ≤ k_))) k_ ∧ some k_ ≠ (u5 : Value).ownBlock)) (HL500_0.out) (fun k_ hk => ⟨hk.1, hk.2⟩))))); (case aB => exact (bl0_)); (case aF => exact (fun k_ hk => (.inr (Nat.le_trans (below_size (bl0_)) hk)))); (case aO => exact (by (with_reducible repeat (first | apply Kd.N_alloc | apply Kd.N_drewN | apply Kd.N_drew)); exact HO_5.out)); (case aS => exact (below_size (bl0_))); (case aL => have := LMc12.out; omega); intro v502 w14 ho hb hg hat; rw [← Ny501.out] at ho; replace HO_0 := a0_ (Kd.V_afterv (ok := (fun k_ => ((P0_ k_ ∨ P1_ k_) ∨ w.heap.size ≤ k_))) (va_ HO_0.out) hg hat); replace HO_1 := a0_ (Kd.V_afterv (ok := (fun k_ => ((P0_ k_ ∨ P1_ k_) ∨ w.heap.size ≤ k_))) (va_ HO_1.out) hg hat); replace HL498_0 := a0_ (Kd.V_afterv (ok := (fun k_ => ((P0_ k_ ∨ P1_ k_) ∨ w.heap.size ≤ k_))) (va_ HL498_0.out) hg hat); replace HL500_0 := a0_ (Kd.V_afterv (ok := (fun k_ => ((P0_ k_ ∨ P1_ k_) ∨ w.heap.size ≤ k_))) (va_ HL500_0.out) hg hat); replace HB := a0_ (hb); have HO503 := a0_ (ho); clear HO_5; clear ho hb hg hat))
         go_roundg k1
         case measure => have := HK1.out; omega
         case rel => exact ⟨(y501), (true), (wrap64 (x7_1 + 1)), rs_, rs_, H', ⟨by have := HK1.out; omega⟩, ⟨va_ HO_0.out⟩, ⟨va_ HO_1.out⟩, ⟨by (with_reducible repeat (first | apply Kd.N_alloc | apply Kd.N_drewN | apply Kd.N_drew)); exact HO503.out⟩, ⟨bl0_⟩⟩
        ·rw [if_neg c12] at H
         exact absurd H (by simp)
       ·replace c11 := Bool.eq_false_iff.mpr c11
        subst c11
        rw [if_neg (show ¬ (false = true) by decide)] at H
        by_cases c15 : x5_1.length < 5864062014805
        ·rw [if_pos c15] at H
         have LMc15 := Aside0.mk c15
         clear c15
         obtain ⟨y504, hy504⟩ : ∃ y_ : List (List (S60)), y_ = (x5_1 ++ [l1]) := ⟨_, rfl⟩
         replace H : (if y504.length < 5864062014805 then (spec_l03Add.l0 k1 l0 l1 (y504 ++ [rd_L3 l0 x7_1]) true (wrap64 (x7_1 + 1))) else (none)) = some r := hh_ hy504 H
         have Ny504 := Aside0.mk hy504
         clear hy504
         by_cases c16 : y504.length < 5864062014805
         ·rw [if_pos c16] at H
          have LMc16 := Aside0.mk c16
          clear c16
          obtain ⟨y508, hy508⟩ : ∃ y_ : List (List (S60)), y_ = (y504 ++ [rd_L3 l0 x7_1]) := ⟨_, rfl⟩
          replace H : (spec_l03Add.l0 k1 l0 l1 y508 true (wrap64 (x7_1 + 1))) = some r := hh_ hy508 H
          have Ny508 := Aside0.mk hy508
          clear hy508
          have H' := Aside0.mk H
          clear H
          have p498 : 0 ≤ (x7_1 : Int) := od_
          have q498 : x7_1 < (l0.length : Int) := od_
          obtain ⟨ad498, A498_0, c498_0, e498, hx498_0, hl498_0, hi498_0⟩ := at_L3 (Kd.V_reads' HO_0.out).2.2 x7_1 p498 q498
          cases e498
          obtain ⟨ce498, hce498, hMe498, hcc498⟩ := Kd.V_get HO_0.out [] x7_1 p498 (by first | exact q498 | exact od_ | (have e_ := (Kd.V_reads' HO_0.out).1; omega))
          obtain ⟨ua498_0, uc498_0, rfl, ul498_0, ge498_0⟩ := Kd.FK_slice_open hMe498
          have hv498_0 := hcc498 0 _ rfl
          rw [Nat.add_zero, show ((Kd.slice 60 k60)).sz = 1 from rfl, Nat.mul_one] at hv498_0
          replace hv498_0 := Option.some.inj (hv498_0.symm.trans hx498_0)
          injection hv498_0 with hva_ hvn_ hvc_
          rw [hva_] at ge498_0
          rw [hvc_] at ul498_0
          have HL498_0 := a0_ (show Kd.V k60 60 _ w.heap.size _ _ (rd_L3 l0 x7_1) from Kd.V_mk ul498_0 ge498_0)
          clear hva_ hvn_ hvc_ ge498_0 ul498_0
          clear hcc498 hce498
          have HR498_0 := Aside0.mk hi498_0
          have HC498_0 := Aside0.mk hl498_0
          clear hi498_0 hl498_0
          replace p498 := eq_true p498
          replace q498 := eq_true q498
          go_wp2_with (first | ((with_reducible refine gate_callee (f := 44) rfl ?_); refine goesL_ (some 21) rfl rfl Tryz.func44 kr_ rfl #[.slice A1 l1.length c1, .slice A498_0 (rd_L3 l0 x7_1).length c498_0] rfl ta_ ?_; (with_reducible refine (spec_CompareShapes.calls k1 _ _ l1 _ _ (rd_L3 l0 x7_1) t499 _ ?side1 ?side2 ?side3 ?side4 A7.out).mono ?_); (case side1 => exact ca_ (Kd.V_reads' HO_1.out).2.2); (case side2 => exact (Kd.V_reads' HO_1.out).2.1); (case side3 => repeat (first | exact (by repeat (first | (with_reducible exact HR498_0.out) | (with_reducible refine Kd.C_alloc ?_ _) | (with_reducible refine Kd.C_drewN ?_ _) | (with_reducible refine Kd.C_drew ?_) | exact HR498_0.out)) | (with_reducible refine Kd.C_alloc ?_ _) | (with_reducible refine Kd.C_drewN ?_ _) | (with_reducible refine Kd.C_drew ?_))); (case side4 => exact HC498_0.out); rintro e w17 ⟨rfl, hb⟩; refine ⟨_, rfl, ?_⟩; replace HO_0 := a0_ (Kd.V_below (va_ HO_0.out) hb); replace HO_1 := a0_ (Kd.V_below (va_ HO_1.out) hb); replace HO_5 := a0_ (Kd.N_below (by (with_reducible repeat (first | apply Kd.N_alloc | apply Kd.N_drewN | apply Kd.N_drew)); exact HO_5.out) hb); replace HL498_0 := a0_ (Kd.V_below (va_ HL498_0.out) hb); replace HR498_0 := a0_ (Kd.C_below (by repeat (first | (with_reducible exact HR498_0.out) | (with_reducible refine Kd.C_alloc ?_ _) | (with_reducible refine Kd.C_drewN ?_ _) | (with_reducible refine Kd.C_drew ?_) | exact HR498_0.out)) hb); replace HB := a0_ (below_step (bl0_) hb); (try clear hb); (try clear hb2); (try clear hk); (try clear hi)) | ((with_reducible refine gate_builtin (b := .append) (xs := #[.tmp 31, .tmp 33]) rfl ?_); at_builtin; refine Kd.N_append (Kd.slice 60 k60) (w0 := w) w.heap.size rfl (.tmp 31) (.tmp 33) 31 24 (.slice none 0 0) 24 rfl Tryz.underlying31 info24 rfl (by decide) (by omega) u5 x5_1 l1 [.slice A1 l1.length c1] (fun k_ => ((P0_ k_ ∨ P1_ k_) ∨ w.heap.size ≤ k_)) (fun k_ => ((fun k_ => ((P0_ k_ ∨ P1_ k_) ∨ w.heap.size ≤ k_))) k_ ∧ some k_ ≠ (u5 : Value).ownBlock) rfl rfl ?aP (fun _ hk => hk) ?aF ?aO ?aB ?aS ?aL ?_; (case aP => exact (Kd.FK_slice_mk (Kd.V_reads' (Kd.V_mono (ok' := (fun k_ => ((fun k_ => ((P0_ k_ ∨ P1_ k_) ∨ w.heap.size ≤ k_))) k_ ∧ some k_ ≠ (u5 : Value).ownBlock)) (HO_1.out) (fun k_ hk => ⟨hk.1, hk.2⟩))).2.1 (Kd.V_F (Kd.V_mono (ok' := (fun k_ => ((fun k_ => ((P0_ k_ ∨ P1_ k_) ∨ w.heap.size ≤ k_))) k_ ∧ some k_ ≠ (u5 : Value).ownBlock)) (HO_1.out) (fun k_ hk => ⟨hk.1, hk.2⟩))))); (case aB => exact (bl0_)); (case aF => exact (fun k_ hk => (.inr (Nat.le_trans (below_size (bl0_)) hk)))); (case aO => exact (by (with_reducible repeat (first | apply Kd.N_alloc | apply Kd.N_drewN | apply Kd.N_drew)); exact HO_5.out)); (case aS => exact (below_size (bl0_))); (case aL => have := LMc15.out; omega); intro v505 w18 ho hb hg hat; rw [← Ny504.out] at ho; replace HO_0 := a0_ (Kd.V_afterv (ok := (fun k_ => ((P0_ k_ ∨ P1_ k_) ∨ w.heap.size ≤ k_))) (va_ HO_0.out) hg hat); replace HO_1 := a0_ (Kd.V_afterv (ok := (fun k_ => ((P0_ k_ ∨ P1_ k_) ∨ w.heap.size ≤ k_))) (va_ HO_1.out) hg hat); replace HL498_0 := a0_ (Kd.V_afterv (ok := (fun k_ => ((P0_ k_ ∨ P1_ k_) ∨ w.heap.size ≤ k_))) (va_ HL498_0.out) hg hat); replace HB := a0_ (hb); have HO506 := a0_ (ho); clear HO_5; clear ho hb hg hat; have p507 : 0 ≤ (x7_1 : Int) := od_; have q507 : x7_1 < (l0.length : Int) := od_; obtain ⟨ad507, A507_0, c507_0, e507, hx507_0, hl507_0, hi507_0⟩ := at_L3 (Kd.V_reads' HO_0.out).2.2 x7_1 p507 q507; obtain rfl : ad498 = ad507 := (by injection e507); obtain ⟨ce507, hce507, hMe507, hcc507⟩ := Kd.V_get HO_0.out [] x7_1 p507 (by first | exact q507 | exact od_ | (have e_ := (Kd.V_reads' HO_0.out).1; omega)); obtain ⟨ua507_0, uc507_0, rfl, ul507_0, ge507_0⟩ := Kd.FK_slice_open hMe507; have hv507_0 := hcc507 0 _ rfl; rw [Nat.add_zero, show ((Kd.slice 60 k60)).sz = 1 from rfl, Nat.mul_one] at hv507_0; replace hv507_0 := Option.some.inj (hv507_0.symm.trans hx507_0); injection hv507_0 with hva_ hvn_ hvc_; rw [hva_] at ge507_0; rw [hvc_] at ul507_0; have HL507_0 := a0_ (show Kd.V k60 60 _ w.heap.size _ _ (rd_L3 l0 x7_1) from Kd.V_mk ul507_0 ge507_0); clear hva_ hvn_ hvc_ ge507_0 ul507_0; clear hcc507 hce507; have HR507_0 := Aside0.mk hi507_0; have HC507_0 := Aside0.mk hl507_0; clear hi507_0 hl507_0; replace p507 := eq_true p507; replace q507 := eq_true q507) | ((with_reducible refine gate_builtin (b := .append) (xs := #[.tmp 35, .tmp 40]) rfl ?_); at_builtin; refine Kd.N_append (Kd.slice 60 k60) (w0 := w) w.heap.size rfl (.tmp 35) (.tmp 40) 31 24 (.slice none 0 0) 24 rfl Tryz.underlying31 info24 rfl (by decide) (by omega) v505 y504 (rd_L3 l0 x7_1) [.slice A507_0 (rd_L3 l0 x7_1).length c507_0] (fun k_ => ((P0_ k_ ∨ P1_ k_) ∨ w.heap.size ≤ k_)) (fun k_ => ((fun k_ => ((P0_ k_ ∨ P1_ k_) ∨ w.heap.size ≤ k_))) k_ ∧ some k_ ≠ (v505 : Value).ownBlock) rfl rfl ?aP (fun _ hk => hk) ?aF ?aO ?aB ?aS ?aL ?_; (case aP => exact (Kd.FK_slice_mk (Kd.V_reads' (Kd.V_mono (ok' := (fun k_ => ((fun k_ => ((P0_ k_ ∨ P1_ k_) ∨ w.heap.size ≤ k_))) k_ ∧ some k_ ≠ (v505 : Value).ownBlock)) (HL507_0.out) (fun k_ hk => ⟨hk.1, hk.2⟩))).2.1 (Kd.V_F (Kd.V_mono (ok' := (fun k_ => ((fun k_ => ((P0_ k_ ∨ P1_ k_) ∨ w.heap.size ≤ k_))) k_ ∧ some k_ ≠ (v505 : Value).ownBlock)) (HL507_0.out) (fun k_ hk => ⟨hk.1, hk.2⟩))))); (case aB => exact (bl0_)); (case aF => exact (fun k_ hk => (.inr (Nat.le_trans (below_size (bl0_)) hk)))); (case aO => exact (by (with_reducible repeat (first | apply Kd.N_alloc | apply Kd.N_drewN | apply Kd.N_drew)); exact HO506.out)); (case aS => exact (below_size (bl0_))); (case aL => have := LMc16.out; omega); intro v509 w19 ho hb hg hat; rw [← Ny508.out] at ho; replace HO_0 := a0_ (Kd.V_afterv (ok := (fun k_ => ((P0_ k_ ∨ P1_ k_) ∨ w.heap.size ≤ k_))) (va_ HO_0.out) hg hat); replace HO_1 := a0_ (Kd.V_afterv (ok := (fun k_ => ((P0_ k_ ∨ P1_ k_) ∨ w.heap.size ≤ k_))) (va_ HO_1.out) hg hat); replace HL498_0 := a0_ (Kd.V_afterv (ok := (fun k_ => ((P0_ k_ ∨ P1_ k_) ∨ w.heap.size ≤ k_))) (va_ HL498_0.out) hg hat); replace HL507_0 := a0_ (Kd.V_afterv (ok := (fun k_ => ((P0_ k_ ∨ P1_ k_) ∨ w.heap.size ≤ k_))) (va_ HL507_0.out) hg hat); replace HB := a0_ (hb); have HO510 := a0_ (ho); clear HO506; clear ho hb hg hat))
          go_roundg k1
          case measure => have := HK1.out; omega
          case rel => exact ⟨(y508), (true), (wrap64 (x7_1 + 1)), rs_, rs_, H', ⟨by have := HK1.out; omega⟩, ⟨va_ HO_0.out⟩, ⟨va_ HO_1.out⟩, ⟨by (with_reducible repeat (first | apply Kd.N_alloc | apply Kd.N_drewN | apply Kd.N_drew)); exact HO510.out⟩, ⟨bl0_⟩⟩
         ·rw [if_neg c16] at H
          exact absurd H (by simp)
        ·rw [if_neg c15] at H
         exact absurd H (by simp)
      ·rw [if_neg c10] at H
       have c10b0 : decide (t499 < 0) = false := decide_eq_false c10
       clear c10
       by_cases c20 : x5_1.length < 5864062014805
       ·rw [if_pos c20] at H
        have LMc20 := Aside0.mk c20
        clear c20
        obtain ⟨y512, hy512⟩ : ∃ y_ : List (List (S60)), y_ = (x5_1 ++ [rd_L3 l0 x7_1]) := ⟨_, rfl⟩
        replace H : (spec_l03Add.l0 k1 l0 l1 y512 x6_1 (wrap64 (x7_1 + 1))) = some r := hh_ hy512 H
        have Ny512 := Aside0.mk hy512
        clear hy512
        have H' := Aside0.mk H
        clear H
        have p498 : 0 ≤ (x7_1 : Int) := od_
        have q498 : x7_1 < (l0.length : Int) := od_
        obtain ⟨ad498, A498_0, c498_0, e498, hx498_0, hl498_0, hi498_0⟩ := at_L3 (Kd.V_reads' HO_0.out).2.2 x7_1 p498 q498
        cases e498
        obtain ⟨ce498, hce498, hMe498, hcc498⟩ := Kd.V_get HO_0.out [] x7_1 p498 (by first | exact q498 | exact od_ | (have e_ := (Kd.V_reads' HO_0.out).1; omega))
        obtain ⟨ua498_0, uc498_0, rfl, ul498_0, ge498_0⟩ := Kd.FK_slice_open hMe498
        have hv498_0 := hcc498 0 _ rfl
        rw [Nat.add_zero, show ((Kd.slice 60 k60)).sz = 1 from rfl, Nat.mul_one] at hv498_0
        replace hv498_0 := Option.some.inj (hv498_0.symm.trans hx498_0)
        injection hv498_0 with hva_ hvn_ hvc_
        rw [hva_] at ge498_0
        rw [hvc_] at ul498_0
        have HL498_0 := a0_ (show Kd.V k60 60 _ w.heap.size _ _ (rd_L3 l0 x7_1) from Kd.V_mk ul498_0 ge498_0)
        clear hva_ hvn_ hvc_ ge498_0 ul498_0
        clear hcc498 hce498
        have HR498_0 := Aside0.mk hi498_0
        have HC498_0 := Aside0.mk hl498_0
        clear hi498_0 hl498_0
        replace p498 := eq_true p498
        replace q498 := eq_true q498
        go_wp2_with (first | ((with_reducible refine gate_callee (f := 44) rfl ?_); refine goesL_ (some 21) rfl rfl Tryz.func44 kr_ rfl #[.slice A1 l1.length c1, .slice A498_0 (rd_L3 l0 x7_1).length c498_0] rfl ta_ ?_; (with_reducible refine (spec_CompareShapes.calls k1 _ _ l1 _ _ (rd_L3 l0 x7_1) t499 _ ?side1 ?side2 ?side3 ?side4 A7.out).mono ?_); (case side1 => exact ca_ (Kd.V_reads' HO_1.out).2.2); (case side2 => exact (Kd.V_reads' HO_1.out).2.1); (case side3 => repeat (first | exact (by repeat (first | (with_reducible exact HR498_0.out) | (with_reducible refine Kd.C_alloc ?_ _) | (with_reducible refine Kd.C_drewN ?_ _) | (with_reducible refine Kd.C_drew ?_) | exact HR498_0.out)) | (with_reducible refine Kd.C_alloc ?_ _) | (with_reducible refine Kd.C_drewN ?_ _) | (with_reducible refine Kd.C_drew ?_))); (case side4 => exact HC498_0.out); rintro e w21 ⟨rfl, hb⟩; refine ⟨_, rfl, ?_⟩; replace HO_0 := a0_ (Kd.V_below (va_ HO_0.out) hb); replace HO_1 := a0_ (Kd.V_below (va_ HO_1.out) hb); replace HO_5 := a0_ (Kd.N_below (by (with_reducible repeat (first | apply Kd.N_alloc | apply Kd.N_drewN | apply Kd.N_drew)); exact HO_5.out) hb); replace HL498_0 := a0_ (Kd.V_below (va_ HL498_0.out) hb); replace HR498_0 := a0_ (Kd.C_below (by repeat (first | (with_reducible exact HR498_0.out) | (with_reducible refine Kd.C_alloc ?_ _) | (with_reducible refine Kd.C_drewN ?_ _) | (with_reducible refine Kd.C_drew ?_) | exact HR498_0.out)) hb); replace HB := a0_ (below_step (bl0_) hb); (try clear hb); (try clear hb2); (try clear hk); (try clear hi); have p511 : 0 ≤ (x7_1 : Int) := od_; have q511 : x7_1 < (l0.length : Int) := od_; obtain ⟨ad511, A511_0, c511_0, e511, hx511_0, hl511_0, hi511_0⟩ := at_L3 (Kd.V_reads' HO_0.out).2.2 x7_1 p511 q511; obtain rfl : ad498 = ad511 := (by injection e511); obtain ⟨ce511, hce511, hMe511, hcc511⟩ := Kd.V_get HO_0.out [] x7_1 p511 (by first | exact q511 | exact od_ | (have e_ := (Kd.V_reads' HO_0.out).1; omega)); obtain ⟨ua511_0, uc511_0, rfl, ul511_0, ge511_0⟩ := Kd.FK_slice_open hMe511; have hv511_0 := hcc511 0 _ rfl; rw [Nat.add_zero, show ((Kd.slice 60 k60)).sz = 1 from rfl, Nat.mul_one] at hv511_0; replace hv511_0 := Option.some.inj (hv511_0.symm.trans hx511_0); injection hv511_0 with hva_ hvn_ hvc_; rw [hva_] at ge511_0; rw [hvc_] at ul511_0; have HL511_0 := a0_ (show Kd.V k60 60 _ w.heap.size _ _ (rd_L3 l0 x7_1) from Kd.V_mk ul511_0 ge511_0); clear hva_ hvn_ hvc_ ge511_0 ul511_0; clear hcc511 hce511; have HR511_0 := Aside0.mk hi511_0; have HC511_0 := Aside0.mk hl511_0; clear hi511_0 hl511_0; replace p511 := eq_true p511; replace q511 := eq_true q511) | ((with_reducible refine gate_builtin (b := .append) (xs := #[.tmp 35, .tmp 40]) rfl ?_); at_builtin; refine Kd.N_append (Kd.slice 60 k60) (w0 := w) w.heap.size rfl (.tmp 35) (.tmp 40) 31 24 (.slice none 0 0) 24 rfl Tryz.underlying31 info24 rfl (by decide) (by omega) u5 x5_1 (rd_L3 l0 x7_1) [.slice A511_0 (rd_L3 l0 x7_1).length c511_0] (fun k_ => ((P0_ k_ ∨ P1_ k_) ∨ w.heap.size ≤ k_)) (fun k_ => ((fun k_ => ((P0_ k_ ∨ P1_ k_) ∨ w.heap.size ≤ k_))) k_ ∧ some k_ ≠ (u5 : Value).ownBlock) rfl rfl ?aP (fun _ hk => hk) ?aF ?aO ?aB ?aS ?aL ?_; (case aP => exact (Kd.FK_slice_mk (Kd.V_reads' (Kd.V_mono (ok' := (fun k_ => ((fun k_ => ((P0_ k_ ∨ P1_ k_) ∨ w.heap.size ≤ k_))) k_ ∧ some k_ ≠ (u5 : Value).ownBlock)) (HL511_0.out) (fun k_ hk => ⟨hk.1, hk.2⟩))).2.1 (Kd.V_F (Kd.V_mono (ok' := (fun k_ => ((fun k_ => ((P0_ k_ ∨ P1_ k_) ∨ w.heap.size ≤ k_))) k_ ∧ some k_ ≠ (u5 : Value).ownBlock)) (HL511_0.out) (fun k_ hk => ⟨hk.1, hk.2⟩))))); (case aB => exact (bl0_)); (case aF => exact (fun k_ hk => (.inr (Nat.le_trans (below_size (bl0_)) hk)))); (case aO => exact (by (with_reducible repeat (first | apply Kd.N_alloc | apply Kd.N_drewN | apply Kd.N_drew)); exact HO_5.out)); (case aS => exact (below_size (bl0_))); (case aL => have := LMc20.out; omega); intro v513 w22 ho hb hg hat; rw [← Ny512.out] at ho; replace HO_0 := a0_ (Kd.V_afterv (ok := (fun k_ => ((P0_ k_ ∨ P1_ k_) ∨ w.heap.size ≤ k_))) (va_ HO_0.out) hg hat); replace HO_1 := a0_ (Kd.V_afterv (ok := (fun k_ => ((P0_ k_ ∨ P1_ k_) ∨ w.heap.size ≤ k_))) (va_ HO_1.out) hg hat); replace HL498_0 := a0_ (Kd.V_afterv (ok := (fun k_ => ((P0_ k_ ∨ P1_ k_) ∨ w.heap.size ≤ k_))) (va_ HL498_0.out) hg hat); replace HL511_0 := a0_ (Kd.V_afterv (ok := (fun k_ => ((P0_ k_ ∨ P1_ k_) ∨ w.heap.size ≤ k_))) (va_ HL511_0.out) hg hat); replace HB := a0_ (hb); have HO514 := a0_ (ho); clear HO_5; clear ho hb hg hat))
        go_roundg k1
        case measure => have := HK1.out; omega
        case rel => exact ⟨(y512), (x6_1), (wrap64 (x7_1 + 1)), rs_, rs_, H', ⟨by have := HK1.out; omega⟩, ⟨va_ HO_0.out⟩, ⟨va_ HO_1.out⟩, ⟨by (with_reducible repeat (first | apply Kd.N_alloc | apply Kd.N_drewN | apply Kd.N_drew)); exact HO514.out⟩, ⟨bl0_⟩⟩
       ·rw [if_neg c20] at H
        exact absurd H (by simp)
    ·rw [if_neg c6] at H
     exact absurd H (by simp)
   ·rw [if_neg c5] at H
    have c5b0 : decide (x7_1 < (l0.length : Int)) = false := decide_eq_false c5
    clear c5
    by_cases c23 : x6_1 = true
    ·subst c23
     rw [if_pos rfl] at H
     obtain rfl := Option.some.inj H
     go_wp2
     go_ret
     exact ⟨_, er_, Kd.N_V (by (with_reducible repeat (first | apply Kd.N_alloc | apply Kd.N_drewN | apply Kd.N_drew)); exact HO_5.out), bl0_⟩
    ·replace c23 := Bool.eq_false_iff.mpr c23
     subst c23
     rw [if_neg (show ¬ (false = true) by decide)] at H
     by_cases c24 : x5_1.length < 5864062014805
     ·rw [if_pos c24] at H
      have LMc24 := Aside0.mk c24
      clear c24
      obtain ⟨y495, hy495⟩ : ∃ y_ : List (List (S60)), y_ = (x5_1 ++ [l1]) := ⟨_, rfl⟩
      replace H : (some y495) = some r := hh_ hy495 H
      have Ny495 := Aside0.mk hy495
      clear hy495
      obtain rfl := Option.some.inj H
      go_wp2_with (first | ((with_reducible refine gate_builtin (b := .append) (xs := #[.tmp 44, .tmp 46]) rfl ?_); at_builtin; refine Kd.N_append (Kd.slice 60 k60) (w0 := w) w.heap.size rfl (.tmp 44) (.tmp 46) 31 24 (.slice none 0 0) 24 rfl Tryz.underlying31 info24 rfl (by decide) (by omega) u5 x5_1 l1 [.slice A1 l1.length c1] (fun k_ => ((P0_ k_ ∨ P1_ k_) ∨ w.heap.size ≤ k_)) (fun k_ => ((fun k_ => ((P0_ k_ ∨ P1_ k_) ∨ w.heap.size ≤ k_))) k_ ∧ some k_ ≠ (u5 : Value).ownBlock) rfl rfl ?aP (fun _ hk => hk) ?aF ?aO ?aB ?aS ?aL ?_; (case aP => exact (Kd.FK_slice_mk (Kd.V_reads' (Kd.V_mono (ok' := (fun k_ => ((fun k_ => ((P0_ k_ ∨ P1_ k_) ∨ w.heap.size ≤ k_))) k_ ∧ some k_ ≠ (u5 : Value).ownBlock)) (HO_1.out) (fun k_ hk => ⟨hk.1, hk.2⟩))).2.1 (Kd.V_F (Kd.V_mono (ok' := (fun k_ => ((fun k_ => ((P0_ k_ ∨ P1_ k_) ∨ w.heap.size ≤ k_))) k_ ∧ some k_ ≠ (u5 : Value).ownBlock)) (HO_1.out) (fun k_ hk => ⟨hk.1, hk.2⟩))))); (case aB => exact (bl0_)); (case aF => exact (fun k_ hk => (.inr (Nat.le_trans (below_size (bl0_)) hk)))); (case aO => exact (by (with_reducible repeat (first | apply Kd.N_alloc | apply Kd.N_drewN | apply Kd.N_drew)); exact HO_5.out)); (case aS => exact (below_size (bl0_))); (case aL => have := LMc24.out; omega); intro v496 w25 ho hb hg hat; rw [← Ny495.out] at ho; replace HO_0 := a0_ (Kd.V_afterv (ok := (fun k_ => ((P0_ k_ ∨ P1_ k_) ∨ w.heap.size ≤ k_))) (va_ HO_0.out) hg hat); replace HO_1 := a0_ (Kd.V_afterv (ok := (fun k_ => ((P0_ k_ ∨ P1_ k_) ∨ w.heap.size ≤ k_))) (va_ HO_1.out) hg hat); replace HB := a0_ (hb); have HO497 := a0_ (ho); clear HO_5; clear ho hb hg hat))
      go_ret
      exact ⟨_, er_, Kd.N_V (by (with_reducible repeat (first | apply Kd.N_alloc | apply Kd.N_drewN | apply Kd.N_drew)); exact HO497.out), bl0_⟩
     ·rw [if_neg c24] at H
      exact absurd H (by simp)

/-! ### spec_l03Forms: function 43 -/
def spec_l03Forms.l0 : Nat → List (S60) → Int → List (List (S60)) → Int → Option ((List (List (S60))))
 | 0, _, _, _, _ => none
 | k + 1, x0, x1, x5, x6 => if x6 < x1 then ((spec_l03Form.f k x0 x6).bind fun t518 => ((spec_l03Add.f k x5 t518).bind fun t521 => (spec_l03Forms.l0 k x0 x1 t521 (wrap64 (x6 + 1))))) else (some x5)
def spec_l03Forms.f (k : Nat) (l0 : List (S60)) (a1 : Int) : Option ((List (List (S60)))) := spec_l03Forms.l0 k l0 a1 (([] : List (List (S60)))) 0
theorem spec_l03Forms.mono_l : ∀ k, (∀ y0 y1 y2 y3, LeO (spec_l03Forms.l0 k y0 y1 y2 y3) (spec_l03Forms.l0 (k + 1) y0 y1 y2 y3))
 | 0 => fun _ _ _ _ r h => by simp [spec_l03Forms.l0] at h
 | k + 1 => by
  have ih0 := spec_l03Forms.mono_l k
  ·intro y0 y1 y2 y3
   unfold spec_l03Forms.l0
   with_reducible (repeat' first | exact ih0 _ _ _ _ | exact spec_l03Add.mono _ _ _ | exact spec_l03Form.mono _ _ _ | exact LeO.refl _ | exact LeO.none _ | refine LeO.ite ?_ ?_ | refine LeO.bind ?_ (fun _ => ?_))
theorem spec_l03Forms.mono : ∀ a0 a1 k, LeO (spec_l03Forms.f k a0 a1) (spec_l03Forms.f (k + 1) a0 a1) := by
 intro a0 a1 k
 have ih0 := spec_l03Forms.mono_l k
 unfold spec_l03Forms.f
 with_reducible (repeat' first | exact ih0 _ _ _ _ | exact spec_l03Add.mono _ _ _ | exact spec_l03Form.mono _ _ _ | exact LeO.refl _ | exact LeO.none _ | refine LeO.ite ?_ ?_ | refine LeO.bind ?_ (fun _ => ?_))
set_option maxHeartbeats 8000000 in
set_option maxRecDepth 100000 in
theorem spec_l03Forms.calls (k : Nat) (A0 : Option Addr) (c0 : Nat) (l0 : List (S60)) (a1 : Int) (r : List (List (S60))) (w : World) (hr0 : Kd.C k60 w A0 l0.length l0) (hc0 : l0.length ≤ c0) (h : spec_l03Forms.f k l0 a1 = some r) :
  Calls Tryz.prog 43 #[.slice A0 l0.length c0, .int .i64 a1] w fun e w' => ∃ v0_ : Value, e = .returned (v0_) ∧ Kd.V (Kd.slice 60 k60) 24 w' w.heap.size (fun k_ => (w.heap.size ≤ k_)) v0_ r ∧ Below w.heap.size w w' := by
 have HR0 := Aside0.mk hr0
 have HC0 := Aside0.mk hc0
 clear hr0 hc0
 have HB := a0_ (Below.refl w.heap.size w)
 have H : (spec_l03Forms.l0 k l0 a1 (([] : List (List (S60)))) 0) = some r := h
 clear h
 obtain ⟨y515, hy515⟩ : ∃ y_ : List (List (S60)), y_ = (([] : List (List (S60)))) := ⟨_, rfl⟩
 replace H : (spec_l03Forms.l0 k l0 a1 y515 0) = some r := hh_ hy515 H
 have Ny515 := Aside0.mk hy515
 clear hy515
 have H' := Aside0.mk H
 clear H
 go_enter Tryz.func43, Tryz.ntmps43
 go_wp2_with (first | ((with_reducible refine gate_dst (N := 7) rfl ?_); refine Kd.S_lit (Kd.slice 60 k60) _ 24 ?hg (N := 7) ?hd (xs := ([] : List (List (S60)))) (inner := []) (ok := fun _ => True) (okp := fun _ => True) ?hr ?hp (fun _ hk => hk) trivial (Below.refl _ _) (Nat.le_refl _) (by simp) ?_; (case hd => rfl); (case hg => rfl); (case hr => first | (go_simp; done) | (go_simp; rfl)); (case hp => exact (Reps.none _ _)); intro v516 w3 ho4 hb hg_ hnew_; clear hg_ hnew_; (first | rw [← Ny515.out] at ho4 | (simp only [Int.reduceToNat] at ho4; rw [← Ny515.out] at ho4)); have HO517 := a0_ (Kd.S_lower (Kd.S_newM (M := fun k_ => (w.heap.size ≤ k_)) ho4 (below_size (bl0_)) (fun k_ h_ => h_)) (below_size (bl0_))); replace HB := a0_ (below_step (bl0_) hb); clear hb ho4))
 go_loopg [5, 6] k (fun kq v5 v6 w' => ∃ (x5_1 : List (List (S60))) (x6_1 : Int), v6 = .int .i64 x6_1 ∧ Aside0 (spec_l03Forms.l0 kq l0 a1 x5_1 x6_1 = some r) ∧ Aside0 (kq ≤ k) ∧ Aside0 (Kd.V (Kd.slice 60 k60) 24 w' w.heap.size (fun k_ => (w.heap.size ≤ k_)) v5 x5_1) ∧ Aside0 (Below w.heap.size w w'))
 case atStart => exact ⟨(y515), (0), rs_, H', ⟨Nat.le_refl _⟩, ⟨Kd.S_V (by (with_reducible repeat (first | apply Kd.S_alloc | apply Kd.S_drewN | apply Kd.S_drew)); exact Kd.S_mono HO517.out (fun _ hk => hk.1))⟩, ⟨bl0_⟩⟩
 case round =>
  clear H'
  try clear p2
  try clear c4
  obtain ⟨x5_1, x6_1, rfl, HA, HK1, HO_5, HB⟩ := hrel
  cases gk with
  | zero => exact absurd HA.out (by simp [spec_l03Forms.l0])
  | succ k1 =>
   have H := HA.out
   clear HA
   simp only [spec_l03Forms.l0] at H
   by_cases c5 : x6_1 < a1
   ·rw [if_pos c5] at H
    have c5b0 : decide (x6_1 < a1) = true := decide_eq_true c5
    clear c5
    obtain ⟨t518, A6, H⟩ := bs_ H
    obtain ⟨t521, A7, H⟩ := bs_ H
    have H' := Aside0.mk H
    clear H
    go_wp2_with (first | ((with_reducible refine gate_callee (f := 19) rfl ?_); refine goesL_ (some 16) rfl rfl Tryz.func19 kr_ rfl #[.slice A0 l0.length c0, .int .i64 x6_1] rfl ta_ ?_; (with_reducible refine (spec_l03Form.calls k1 _ _ l0 x6_1 t518 _ ?side1 ?side2 A6.out).mono ?_); (case side1 => exact ca_ (Kd.C_below HR0.out HB.out)); (case side2 => exact HC0.out); rintro e w8 ⟨v519, rfl, ho0, hb⟩; refine ⟨_, rfl, ?_⟩; replace HO_5 := a0_ (Kd.V_elder' (va_ HO_5.out) (Kd.R_base ho0) hb); have HO520 := a0_ (Kd.R_lower (Kd.R_newM (M := fun k_ => (w.heap.size ≤ k_)) ho0 (below_size (bl0_)) (fun k_ h_ => h_)) (below_size (bl0_))); replace HB := a0_ (below_step (bl0_) hb); (try clear hb); (try clear hb2); (try clear hk); (try clear hi); (try clear ho0); obtain ⟨Ao9, co9, eo9⟩ := Kd.V_slice HO_5.out; subst eo9; obtain ⟨Ao10, co10, eo10⟩ := Kd.R_slice HO520.out; subst eo10) | ((with_reducible refine gate_callee (f := 64) rfl ?_); refine goesL_ (some 17) rfl rfl Tryz.func64 kr_ rfl #[.slice Ao9 x5_1.length co9, .slice Ao10 t518.length co10] rfl ta_ ?_; (with_reducible refine (spec_l03Add.calls k1 (fun k_ => ((w.heap.size ≤ k_) ∧ some k_ ≠ (.slice Ao10 t518.length co10 : Value).ownBlock)) _ _ x5_1 (fun k_ => some k_ = (.slice Ao10 t518.length co10 : Value).ownBlock) _ _ t518 t521 _ ?side1 ?side2 A7.out).mono ?_); (case side1 => exact HO_5.out); (case side2 => exact Kd.R_V (Kd.R_tight rfl (HO520.out))); rintro e w11 ⟨v522, rfl, ho0, hb⟩; refine ⟨_, rfl, ?_⟩; replace HO_5 := a0_ (Kd.V_below (va_ HO_5.out) hb); have HO523 := a0_ (Kd.V_lower (Kd.V_mono (ok' := fun k_ => (w.heap.size ≤ k_)) ho0 (fun k_ hk_ => Or.elim hk_ (fun hs_ => Or.elim hs_ (fun hs_ => hs_.1) (fun hs_ => ((HO520.out).1 k_ hs_.symm).1)) (fun hn_ => (Nat.le_trans (below_size (bl0_)) hn_)))) (below_size (bl0_))); replace HO520 := a0_ (Kd.R_below (ra_ HO520.out) hb); replace HB := a0_ (below_step (bl0_) hb); (try clear hb); (try clear hb2); (try clear hk); (try clear hi); (try clear ho0)))
    go_roundg k1
    case measure => have := HK1.out; omega
    case rel => exact ⟨(t521), (wrap64 (x6_1 + 1)), rs_, H', ⟨by have := HK1.out; omega⟩, ⟨va_ HO523.out⟩, ⟨bl0_⟩⟩
   ·rw [if_neg c5] at H
    have c5b0 : decide (x6_1 < a1) = false := decide_eq_false c5
    clear c5
    obtain rfl := Option.some.inj H
    go_wp2
    go_ret
    exact ⟨_, er_, va_ HO_5.out, bl0_⟩

/-! ### spec_l11Forms: function 22 -/
def spec_l11Forms.f (k : Nat) (l0_0 : List (S60)) (a0_1 : Int) (a0_2 : Bool) : Option ((List (List (S60)))) := if a0_2 = true then ((spec_l03Forms.f k l0_0 8).bind fun t525 => (some t525)) else ((spec_l03Forms.f k l0_0 4).bind fun t528 => (some t528))
theorem spec_l11Forms.mono : ∀ a0 a1 a2 k, LeO (spec_l11Forms.f k a0 a1 a2) (spec_l11Forms.f (k + 1) a0 a1 a2) := by
 intro a0 a1 a2 k
 unfold spec_l11Forms.f
 with_reducible (repeat' first | exact spec_l03Forms.mono _ _ _ | exact LeO.refl _ | exact LeO.none _ | refine LeO.ite ?_ ?_ | refine LeO.bind ?_ (fun _ => ?_))
set_option maxHeartbeats 8000000 in
set_option maxRecDepth 100000 in
theorem spec_l11Forms.calls (k : Nat) (A0_0 : Option Addr) (c0_0 : Nat) (l0_0 : List (S60)) (a0_1 : Int) (a0_2 : Bool) (r : List (List (S60))) (w : World) (hr0_0 : Kd.C k60 w A0_0 l0_0.length l0_0) (hc0_0 : l0_0.length ≤ c0_0) (h : spec_l11Forms.f k l0_0 a0_1 a0_2 = some r) :
  Calls Tryz.prog 22 #[.agg #[.slice A0_0 l0_0.length c0_0, .int .i64 a0_1, .bool a0_2]] w fun e w' => ∃ v0_ : Value, e = .returned (v0_) ∧ Kd.V (Kd.slice 60 k60) 24 w' w.heap.size (fun k_ => (w.heap.size ≤ k_)) v0_ r ∧ Below w.heap.size w w' := by
 have hu26 := Tryz.underlying26
 have HR0_0 := Aside0.mk hr0_0
 have HC0_0 := Aside0.mk hc0_0
 clear hr0_0 hc0_0
 have HB := a0_ (Below.refl w.heap.size w)
 have H := h
 clear h
 unfold spec_l11Forms.f at H
 by_cases c2 : a0_2 = true
 ·subst c2
  rw [if_pos rfl] at H
  obtain ⟨t525, A3, H⟩ := bs_ H
  obtain rfl := Option.some.inj H
  go_enter Tryz.func22, Tryz.ntmps22
  go_wp2_with (first | ((with_reducible refine gate_dst (N := 1) rfl ?_); refine bx_ (N := 1) (cs := #[.slice A0_0 l0_0.length c0_0, .int .i64 a0_1, .bool true]) (t := 26) ?_; intro gb524 hg w4 hbox hb; have BK524 := a0_ (hbox); have GW524 := a0_ ((sz_ hg (bl0_) : w.heap.size ≤ gb524)); have GE524 := a0_ ((sz_ hg (bl0_) : w.heap.size ≤ gb524)); replace HB := a0_ (below_step (bl0_) hb); clear hb hbox hg; obtain ⟨hcz5_0, hcz5_1, hcz5_2, hfz5_0, hfz5_1, hfz5_2⟩ := bc3_ BK524.out) | ((with_reducible refine gate_callee (f := 43) rfl ?_); refine goesL_ (some 7) rfl rfl Tryz.func43 kr_ rfl #[.slice A0_0 l0_0.length c0_0, .int .i64 8] rfl ta_ ?_; (with_reducible refine (spec_l03Forms.calls k _ _ l0_0 8 t525 _ ?side1 ?side2 A3.out).mono ?_); (case side1 => exact ca_ (Kd.C_below HR0_0.out HB.out)); (case side2 => exact HC0_0.out); rintro e w6 ⟨v526, rfl, ho0, hb⟩; refine ⟨_, rfl, ?_⟩; have HO527 := a0_ (Kd.V_lower (Kd.V_mono (ok' := fun k_ => (w.heap.size ≤ k_) ∧ k_ ≠ gb524) ho0 (fun k_ hk_ => ⟨(Nat.le_trans (below_size (bl1_ GE524.out)) hk_), (Kd.freshB (g := gb524) (o := .cells #[.slice A0_0 l0_0.length c0_0, .int .i64 a0_1, .bool true] 26 (0, 0)) (bk_ BK524.out) k_ hk_)⟩)) (below_size (bl1_ GE524.out))); replace BK524 := a0_ (bb_ BK524.out hb); replace HB := a0_ (below_step (bl1_ GE524.out) hb); (try clear hb); (try clear hb2); (try clear hk); (try clear hi); (try clear ho0)))
  go_ret
  exact ⟨_, er_, by (with_reducible repeat (first | apply Kd.V_alloc | apply Kd.V_drewN | apply Kd.V_drew)); exact Kd.V_mono HO527.out (fun _ hk => hk.1), bl1_ GE524.out⟩
 ·replace c2 := Bool.eq_false_iff.mpr c2
  subst c2
  rw [if_neg (show ¬ (false = true) by decide)] at H
  obtain ⟨t528, A7, H⟩ := bs_ H
  obtain rfl := Option.some.inj H
  go_enter Tryz.func22, Tryz.ntmps22
  go_wp2_with (first | ((with_reducible refine gate_dst (N := 1) rfl ?_); refine bx_ (N := 1) (cs := #[.slice A0_0 l0_0.length c0_0, .int .i64 a0_1, .bool false]) (t := 26) ?_; intro gb524 hg w8 hbox hb; have BK524 := a0_ (hbox); have GW524 := a0_ ((sz_ hg (bl0_) : w.heap.size ≤ gb524)); have GE524 := a0_ ((sz_ hg (bl0_) : w.heap.size ≤ gb524)); replace HB := a0_ (below_step (bl0_) hb); clear hb hbox hg; obtain ⟨hcz9_0, hcz9_1, hcz9_2, hfz9_0, hfz9_1, hfz9_2⟩ := bc3_ BK524.out) | ((with_reducible refine gate_callee (f := 43) rfl ?_); refine goesL_ (some 10) rfl rfl Tryz.func43 kr_ rfl #[.slice A0_0 l0_0.length c0_0, .int .i64 4] rfl ta_ ?_; (with_reducible refine (spec_l03Forms.calls k _ _ l0_0 4 t528 _ ?side1 ?side2 A7.out).mono ?_); (case side1 => exact ca_ (Kd.C_below HR0_0.out HB.out)); (case side2 => exact HC0_0.out); rintro e w10 ⟨v529, rfl, ho0, hb⟩; refine ⟨_, rfl, ?_⟩; have HO530 := a0_ (Kd.V_lower (Kd.V_mono (ok' := fun k_ => (w.heap.size ≤ k_) ∧ k_ ≠ gb524) ho0 (fun k_ hk_ => ⟨(Nat.le_trans (below_size (bl1_ GE524.out)) hk_), (Kd.freshB (g := gb524) (o := .cells #[.slice A0_0 l0_0.length c0_0, .int .i64 a0_1, .bool false] 26 (0, 0)) (bk_ BK524.out) k_ hk_)⟩)) (below_size (bl1_ GE524.out))); replace BK524 := a0_ (bb_ BK524.out hb); replace HB := a0_ (below_step (bl1_ GE524.out) hb); (try clear hb); (try clear hb2); (try clear hk); (try clear hi); (try clear ho0)))
  go_ret
  exact ⟨_, er_, by (with_reducible repeat (first | apply Kd.V_alloc | apply Kd.V_drewN | apply Kd.V_drew)); exact Kd.V_mono HO530.out (fun _ hk => hk.1), bl1_ GE524.out⟩

/-! ### spec_FormsOfPiece: function 9 -/
def spec_FormsOfPiece.f (k : Nat) (l0_0 : List (S60)) (a0_1 : Int) (a0_2 : Bool) : Option ((List (List (S60))) × Int) := (spec_IsPiece.f k l0_0 a0_1 a0_2).bind fun t532 => (if t532 = true then ((spec_l11Forms.f k l0_0 a0_1 a0_2).bind fun t533 => (some (t533, 0))) else (some (([] : List (List (S60))), 1)))
theorem spec_FormsOfPiece.mono : ∀ a0 a1 a2 k, LeO (spec_FormsOfPiece.f k a0 a1 a2) (spec_FormsOfPiece.f (k + 1) a0 a1 a2) := by
 intro a0 a1 a2 k
 unfold spec_FormsOfPiece.f
 with_reducible (repeat' first | exact spec_IsPiece.mono _ _ _ _ | exact spec_l11Forms.mono _ _ _ _ | exact LeO.refl _ | exact LeO.none _ | refine LeO.ite ?_ ?_ | refine LeO.bind ?_ (fun _ => ?_))
set_option maxHeartbeats 8000000 in
set_option maxRecDepth 100000 in
theorem spec_FormsOfPiece.calls (k : Nat) (A0_0 : Option Addr) (c0_0 : Nat) (l0_0 : List (S60)) (a0_1 : Int) (a0_2 : Bool) (r1 : List (List (S60))) (r2 : Int) (w : World) (hr0_0 : Kd.C k60 w A0_0 l0_0.length l0_0) (hc0_0 : l0_0.length ≤ c0_0) (h : spec_FormsOfPiece.f k l0_0 a0_1 a0_2 = some (r1, r2)) :
  Calls Tryz.prog 9 #[.agg #[.slice A0_0 l0_0.length c0_0, .int .i64 a0_1, .bool a0_2]] w fun e w' => ∃ v0_ : Value, e = .returned (.tuple #[v0_, .int .i64 r2]) ∧ Kd.V (Kd.slice 60 k60) 24 w' w.heap.size (fun k_ => (w.heap.size ≤ k_)) v0_ r1 ∧ Below w.heap.size w w' := by
 have hu26 := Tryz.underlying26
 have HR0_0 := Aside0.mk hr0_0
 have HC0_0 := Aside0.mk hc0_0
 clear hr0_0 hc0_0
 have HB := a0_ (Below.refl w.heap.size w)
 have H := h
 clear h
 unfold spec_FormsOfPiece.f at H
 obtain ⟨t532, A2, H⟩ := bs_ H
 by_cases c3 : t532 = true
 ·subst c3
  rw [if_pos rfl] at H
  obtain ⟨t533, A4, H⟩ := bs_ H
  simp only [Option.some.injEq, Prod.mk.injEq] at H
  obtain ⟨rfl, rfl⟩ := H
  go_enter Tryz.func9, Tryz.ntmps9
  go_wp2_with (first | ((with_reducible refine gate_dst (N := 1) rfl ?_); refine bx_ (N := 1) (cs := #[.slice A0_0 l0_0.length c0_0, .int .i64 a0_1, .bool a0_2]) (t := 26) ?_; intro gb531 hg w5 hbox hb; have BK531 := a0_ (hbox); have GW531 := a0_ ((sz_ hg (bl0_) : w.heap.size ≤ gb531)); have GE531 := a0_ ((sz_ hg (bl0_) : w.heap.size ≤ gb531)); replace HB := a0_ (below_step (bl0_) hb); clear hb hbox hg; obtain ⟨hcz6_0, hcz6_1, hcz6_2, hfz6_0, hfz6_1, hfz6_2⟩ := bc3_ BK531.out) | ((with_reducible refine gate_callee (f := 17) rfl ?_); refine goesL_ (some 5) rfl rfl Tryz.func17 kr_ rfl #[.agg #[.slice A0_0 l0_0.length c0_0, .int .i64 a0_1, .bool a0_2]] rfl ta_ ?_; (with_reducible refine (spec_IsPiece.calls k _ _ l0_0 a0_1 a0_2 true _ ?side1 ?side2 A2.out).mono ?_); (case side1 => exact ca_ (Kd.C_below HR0_0.out HB.out)); (case side2 => exact HC0_0.out); rintro e w7 ⟨rfl, hb⟩; refine ⟨_, rfl, ?_⟩; replace BK531 := a0_ (bb_ BK531.out hb); replace HB := a0_ (below_step (bl1_ GE531.out) hb); (try clear hb); (try clear hb2); (try clear hk); (try clear hi); obtain ⟨hcz8_0, hcz8_1, hcz8_2, hfz8_0, hfz8_1, hfz8_2⟩ := bc3_ BK531.out) | ((with_reducible refine gate_callee (f := 22) rfl ?_); refine goesL_ (some 8) rfl rfl Tryz.func22 kr_ rfl #[.agg #[.slice A0_0 l0_0.length c0_0, .int .i64 a0_1, .bool a0_2]] rfl ta_ ?_; (with_reducible refine (spec_l11Forms.calls k _ _ l0_0 a0_1 a0_2 t533 _ ?side1 ?side2 A4.out).mono ?_); (case side1 => exact ca_ (Kd.C_below HR0_0.out HB.out)); (case side2 => exact HC0_0.out); rintro e w9 ⟨v534, rfl, ho0, hb⟩; refine ⟨_, rfl, ?_⟩; have HO535 := a0_ (Kd.V_lower (Kd.V_mono (ok' := fun k_ => (w.heap.size ≤ k_) ∧ k_ ≠ gb531) ho0 (fun k_ hk_ => ⟨(Nat.le_trans (below_size (bl1_ GE531.out)) hk_), (Kd.freshB (g := gb531) (o := .cells #[.slice A0_0 l0_0.length c0_0, .int .i64 a0_1, .bool a0_2] 26 (0, 0)) (bk_ BK531.out) k_ hk_)⟩)) (below_size (bl1_ GE531.out))); replace BK531 := a0_ (bb_ BK531.out hb); replace HB := a0_ (below_step (bl1_ GE531.out) hb); (try clear hb); (try clear hb2); (try clear hk); (try clear hi); (try clear ho0)))
  go_ret2
  exact ⟨_, er_, by (with_reducible repeat (first | apply Kd.V_alloc | apply Kd.V_drewN | apply Kd.V_drew)); exact Kd.V_mono HO535.out (fun _ hk => hk.1), bl1_ GE531.out⟩
 ·replace c3 := Bool.eq_false_iff.mpr c3
  subst c3
  rw [if_neg (show ¬ (false = true) by decide)] at H
  simp only [Option.some.injEq, Prod.mk.injEq] at H
  obtain ⟨rfl, rfl⟩ := H
  go_enter Tryz.func9, Tryz.ntmps9
  go_wp2_with (first | ((with_reducible refine gate_dst (N := 1) rfl ?_); refine bx_ (N := 1) (cs := #[.slice A0_0 l0_0.length c0_0, .int .i64 a0_1, .bool a0_2]) (t := 26) ?_; intro gb531 hg w10 hbox hb; have BK531 := a0_ (hbox); have GW531 := a0_ ((sz_ hg (bl0_) : w.heap.size ≤ gb531)); have GE531 := a0_ ((sz_ hg (bl0_) : w.heap.size ≤ gb531)); replace HB := a0_ (below_step (bl0_) hb); clear hb hbox hg; obtain ⟨hcz11_0, hcz11_1, hcz11_2, hfz11_0, hfz11_1, hfz11_2⟩ := bc3_ BK531.out) | ((with_reducible refine gate_callee (f := 17) rfl ?_); refine goesL_ (some 5) rfl rfl Tryz.func17 kr_ rfl #[.agg #[.slice A0_0 l0_0.length c0_0, .int .i64 a0_1, .bool a0_2]] rfl ta_ ?_; (with_reducible refine (spec_IsPiece.calls k _ _ l0_0 a0_1 a0_2 false _ ?side1 ?side2 A2.out).mono ?_); (case side1 => exact ca_ (Kd.C_below HR0_0.out HB.out)); (case side2 => exact HC0_0.out); rintro e w12 ⟨rfl, hb⟩; refine ⟨_, rfl, ?_⟩; replace BK531 := a0_ (bb_ BK531.out hb); replace HB := a0_ (below_step (bl1_ GE531.out) hb); (try clear hb); (try clear hb2); (try clear hk); (try clear hi)))
  go_ret2
  exact ⟨_, er_, Kd.S_V (Kd.S_nil _ _ _ 0 _), bl1_ GE531.out⟩

end Go.Proofs.YtaaodakmelihaaaGreat.PFnPieces
