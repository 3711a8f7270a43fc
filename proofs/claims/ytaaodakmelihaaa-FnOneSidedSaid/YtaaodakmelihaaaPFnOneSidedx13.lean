/- Over the kit's printer by a driver of mine (hprint.py), with parts by hand: functions of the program as Lean functions, and that each call comes to exactly these answers. -/
import Derived.Test.YtaaodakmelihaaaPFnOneSidedx0
import Derived.Test.YtaaodakmelihaaaPFnOneSidedx3
import Derived.Test.YtaaodakmelihaaaPFnOneSidedx5
import Derived.Test.YtaaodakmelihaaaPFnOneSidedx9
import Derived.Test.YtaaodakmelihaaaPFnOneSidedx10
import Derived.Test.YtaaodakmelihaaaPFnOneSidedx12
namespace Go.Proofs.Ytaaodakmelihaaa.PFnOneSided
open Go.RowKit Go.Proofs.YtaaodakmelihaaaW.PrintWords Go.Proofs.YtaaodakmelihaaaW.PrintLast Go.Proofs.YtaaodakmelihaaaW.PrintMore
attribute [local go_sem] max2_int min2_int max_two min_two max_three min_three max_four min_four   -- for this text's walks alone
set_option linter.unusedVariables false
set_option linter.unusedSimpArgs false

/-! ### spec_l03Add: function 43 -/
def spec_l03Add.l0 : Nat → List (List (S49)) → List (S49) → List (List (S49)) → Bool → Int → Option ((List (List (S49))))
 | 0, _, _, _, _, _ => none
 | k + 1, x0, x1, x5, x6, x7 => if x7 < (x0.length : Int) then (if 0 ≤ x7 then ((spec_CompareShapes.f k x1 (rd_L3 x0 x7)).bind fun t361 => (if t361 = 0 then (some x0) else (if t361 < 0 then (if x6 = true then (if x5.length < 5864062014805 then (spec_l03Add.l0 k x0 x1 (x5 ++ [rd_L3 x0 x7]) x6 (wrap64 (x7 + 1))) else (none)) else (if x5.length < 5864062014805 then ((some (x5 ++ [x1] : List (List (S49)))).bind fun y366 => (if y366.length < 5864062014805 then (spec_l03Add.l0 k x0 x1 (y366 ++ [rd_L3 x0 x7]) true (wrap64 (x7 + 1))) else (none))) else (none))) else (if x5.length < 5864062014805 then (spec_l03Add.l0 k x0 x1 (x5 ++ [rd_L3 x0 x7]) x6 (wrap64 (x7 + 1))) else (none))))) else (none)) else (if x6 = true then (some x5) else (if x5.length < 5864062014805 then (some (x5 ++ [x1])) else (none)))
def spec_l03Add.f (k : Nat) (l0 : List (List (S49))) (l1 : List (S49)) : Option ((List (List (S49)))) := spec_l03Add.l0 k l0 l1 (([] : List (List (S49)))) false 0
theorem spec_l03Add.mono_l : ∀ k, (∀ y0 y1 y2 y3 y4, LeO (spec_l03Add.l0 k y0 y1 y2 y3 y4) (spec_l03Add.l0 (k + 1) y0 y1 y2 y3 y4))
 | 0 => fun _ _ _ _ _ r h => by simp [spec_l03Add.l0] at h
 | k + 1 => by
  have ih0 := spec_l03Add.mono_l k
  ·intro y0 y1 y2 y3 y4
   unfold spec_l03Add.l0
   repeat' first
   | (with_reducible exact ih0 _ _ _ _ _)
   | (with_reducible exact spec_CompareShapes.mono _ _ _)
   | (with_reducible exact LeO.refl _)
   | (with_reducible exact LeO.none _)
   | (with_reducible refine LeO.ite ?_ ?_)
   | (with_reducible refine LeO.bind ?_ (fun _ => ?_))
   | exact ih0 _ _ _ _ _
   | exact spec_CompareShapes.mono _ _ _
   | exact LeO.none _
   | refine LeO.ite ?_ ?_
   | refine LeO.bind ?_ (fun _ => ?_)
theorem spec_l03Add.mono : ∀ a0 a1 k, LeO (spec_l03Add.f k a0 a1) (spec_l03Add.f (k + 1) a0 a1) := by
 intro a0 a1 k
 have ih0 := spec_l03Add.mono_l k
 unfold spec_l03Add.f
 repeat' first
   | (with_reducible exact ih0 _ _ _ _ _)
   | (with_reducible exact spec_CompareShapes.mono _ _ _)
   | (with_reducible exact LeO.refl _)
   | (with_reducible exact LeO.none _)
   | (with_reducible refine LeO.ite ?_ ?_)
   | (with_reducible refine LeO.bind ?_ (fun _ => ?_))
   | exact ih0 _ _ _ _ _
   | exact spec_CompareShapes.mono _ _ _
   | exact LeO.none _
   | refine LeO.ite ?_ ?_
   | refine LeO.bind ?_ (fun _ => ?_)
set_option maxHeartbeats 8000000 in
set_option maxRecDepth 100000 in
theorem spec_l03Add.calls (k : Nat) (P0_ : Nat → Prop) (A0 : Option Addr) (c0 : Nat) (l0 : List (List (S49))) (P1_ : Nat → Prop) (A1 : Option Addr) (c1 : Nat) (l1 : List (S49)) (r : List (List (S49))) (w : World) (hs0 : Kd.V (Kd.slice 49 k49) 24 w w.heap.size (fun k_ => P0_ k_) (.slice A0 l0.length c0) l0) (hs1 : Kd.V k49 49 w w.heap.size (fun k_ => P1_ k_) (.slice A1 l1.length c1) l1) (h : spec_l03Add.f k l0 l1 = some r) :
  Calls Try.prog 43 #[.slice A0 l0.length c0, .slice A1 l1.length c1] w fun e w' => ∃ v0_ : Value, e = .returned (v0_) ∧ Kd.V (Kd.slice 49 k49) 24 w' w.heap.size (fun k_ => ((P0_ k_ ∨ P1_ k_) ∨ w.heap.size ≤ k_)) v0_ r ∧ Below w.heap.size w w' := by
 have HO0 := Aside0.mk (show Kd.V (Kd.slice 49 k49) 24 w w.heap.size (fun k_ => ((P0_ k_ ∨ P1_ k_) ∨ w.heap.size ≤ k_)) (.slice A0 l0.length c0) l0 from Kd.V_mono hs0 (fun k_ hk => .inl (.inl hk)))
 have HO1 := Aside0.mk (show Kd.V k49 49 w w.heap.size (fun k_ => ((P0_ k_ ∨ P1_ k_) ∨ w.heap.size ≤ k_)) (.slice A1 l1.length c1) l1 from Kd.V_mono hs1 (fun k_ hk => .inl (.inr hk)))
 have HB := Aside0.mk (Below.refl w.heap.size w)
 have H : (spec_l03Add.l0 k l0 l1 (([] : List (List (S49)))) false 0) = some r := h
 clear h
 obtain ⟨y354, hy354⟩ : ∃ y_ : List (List (S49)), y_ = (([] : List (List (S49)))) := ⟨_, rfl⟩
 replace H : (spec_l03Add.l0 k l0 l1 y354 false 0) = some r := by first | (rw [hy354]; with_reducible exact H) | (have H2_ := (Option.bind_some _ _).symm.trans H; rw [hy354]; with_reducible exact H2_) | (have H2_ := (Option.bind_some _ _).symm.trans H; with_reducible exact H2_) | with_reducible exact H | (rw [hy354]; exact H) | exact H
 have Ny354 := Aside0.mk hy354
 clear hy354
 have H' := Aside0.mk H
 clear H
 go_enter Try.func43, Try.ntmps43
 go_wp2_with (first | ((with_reducible refine gate_dst (N := 9) rfl ?_); refine Kd.N_lit (Kd.slice 49 k49) _ 24 ?hg (N' := 9) ?hd (xs := ([] : List (List (S49)))) (inner := []) (ok := (fun k_ => ((P0_ k_ ∨ P1_ k_) ∨ w.heap.size ≤ k_))) (okp := (fun k_ => ((P0_ k_ ∨ P1_ k_) ∨ w.heap.size ≤ k_))) ?hr ?hp (fun _ hk => hk) ((show ∀ k_, w.heap.size ≤ k_ → (fun k_ => ((P0_ k_ ∨ P1_ k_) ∨ w.heap.size ≤ k_)) k_ from fun k_ hk => (.inr (Nat.le_trans (below_size (bl0_)) hk))) _ (Nat.le_refl _)) (Below.refl _ _) (Nat.le_refl _) (by simp) ?_; (case hd => rfl); (case hg => rfl); (case hr => first | (go_simp; done) | (go_simp; rfl)); (case hp => exact (Reps.none _ _)); intro v355 w3 ho4 hb hg_ hnew_; clear hg_ hnew_; (first | rw [← Ny354.out] at ho4 | (simp only [Int.reduceToNat] at ho4; rw [← Ny354.out] at ho4)); have n0_ := Aside0.mk (Kd.V_elder' (by (with_reducible repeat (first | apply Kd.V_alloc | apply Kd.V_drewN | apply Kd.V_drew)); exact HO0.out) (Kd.N_base ho4) hb); have n1_ := Aside0.mk (Kd.V_elder' (by (with_reducible repeat (first | apply Kd.V_alloc | apply Kd.V_drewN | apply Kd.V_drew)); exact HO1.out) (Kd.N_base ho4) hb); have n2_ := Aside0.mk (Kd.N_lower ho4 (below_size (bl0_))); have n3_ := Aside0.mk (below_step (bl0_) hb); clear HO0; clear HO1; clear HB; have HO0 := n0_; have HO1 := n1_; have HO356 := n2_; have HB := n3_; clear n0_ n1_ n2_ n3_; clear hb ho4))
 go_loopg [5, 6, 7] k (fun kq v5 v6 v7 w' => ∃ (x5_1 : List (List (S49))) (x6_1 : Bool) (x7_1 : Int), v6 = .bool x6_1 ∧ v7 = .int .i64 x7_1 ∧ Aside0 (spec_l03Add.l0 kq l0 l1 x5_1 x6_1 x7_1 = some r) ∧ Aside0 (kq ≤ k) ∧ Aside0 (Kd.V (Kd.slice 49 k49) 24 w' w.heap.size (fun k_ => ((P0_ k_ ∨ P1_ k_) ∨ w.heap.size ≤ k_) ∧ some k_ ≠ (v5 : Value).ownBlock) (.slice A0 l0.length c0) l0) ∧ Aside0 (Kd.V k49 49 w' w.heap.size (fun k_ => ((P0_ k_ ∨ P1_ k_) ∨ w.heap.size ≤ k_) ∧ some k_ ≠ (v5 : Value).ownBlock) (.slice A1 l1.length c1) l1) ∧ Aside0 (Kd.N (Kd.slice 49 k49) 24 w' w.heap.size (fun k_ => ((P0_ k_ ∨ P1_ k_) ∨ w.heap.size ≤ k_)) v5 x5_1) ∧ Aside0 (Below w.heap.size w w'))
 case atStart => exact ⟨(y354), (false), (0), rs_, rs_, H', ⟨Nat.le_refl _⟩, ⟨by (with_reducible repeat (first | apply Kd.V_alloc | apply Kd.V_drewN | apply Kd.V_drew)); exact HO0.out⟩, ⟨by (with_reducible repeat (first | apply Kd.V_alloc | apply Kd.V_drewN | apply Kd.V_drew)); exact HO1.out⟩, ⟨by (with_reducible repeat (first | apply Kd.N_alloc | apply Kd.N_drewN | apply Kd.N_drew)); exact HO356.out⟩, ⟨bl0_⟩⟩
 case round =>
  clear H'
  try clear c1
  try clear p2
  try clear c4
  obtain ⟨x5_1, x6_1, x7_1, rfl, rfl, HA, HK1, HO_0, HO_1, HO_5, HB⟩ := hrel
  cases gk with
  | zero => exact absurd HA.out (by simp [spec_l03Add.l0])
  | succ k1 =>
   have H := HA.out
   clear HA
   simp only [spec_l03Add.l0] at H
   by_cases c5 : x7_1 < (l0.length : Int)
   ·rw [if_pos c5] at H
    have c5b0 : decide (x7_1 < (l0.length : Int)) = true := decide_eq_true c5
    clear c5
    by_cases c6 : 0 ≤ x7_1
    ·rw [if_pos c6] at H
     have c6b0 : decide (0 ≤ x7_1) = true := decide_eq_true c6
     clear c6
     replace H := Option.bind_eq_some_iff.mp H
     obtain ⟨t361, A70, H⟩ := H
     replace H : (if t361 = 0 then (some l0) else (if t361 < 0 then (if x6_1 = true then (if x5_1.length < 5864062014805 then (spec_l03Add.l0 k1 l0 l1 (x5_1 ++ [rd_L3 l0 x7_1]) x6_1 (wrap64 (x7_1 + 1))) else (none)) else (if x5_1.length < 5864062014805 then ((some (x5_1 ++ [l1] : List (List (S49)))).bind fun y366 => (if y366.length < 5864062014805 then (spec_l03Add.l0 k1 l0 l1 (y366 ++ [rd_L3 l0 x7_1]) true (wrap64 (x7_1 + 1))) else (none))) else (none))) else (if x5_1.length < 5864062014805 then (spec_l03Add.l0 k1 l0 l1 (x5_1 ++ [rd_L3 l0 x7_1]) x6_1 (wrap64 (x7_1 + 1))) else (none)))) = some r := H
     have A7 := Aside0.mk A70
     clear A70
     by_cases c8 : t361 = 0
     ·rw [if_pos c8] at H
      have c8b0 : (t361 == 0) = true := beq_iff_eq.mpr c8
      have c8b1 : (t361 != 0) = false := bne_eq_false_iff_eq.mpr c8
      clear c8
      obtain rfl := Option.some.inj H
      have p360 : 0 ≤ (x7_1 : Int) := od_
      have q360 : x7_1 < (l0.length : Int) := od_
      obtain ⟨ad360, A360_0, c360_0, e360, hx360_0, hl360_0, hi360_0⟩ := at_L3 (Kd.V_reads' HO_0.out).2.2 x7_1 p360 q360
      cases e360
      obtain ⟨ce360, hce360, hMe360, hcc360⟩ := Kd.V_get HO_0.out [] x7_1 p360 (by first | exact q360 | exact od_ | (have e_ := (Kd.V_reads' HO_0.out).1; omega))
      obtain ⟨ua360_0, uc360_0, rfl, ul360_0, ge360_0⟩ := Kd.FK_slice_open hMe360
      have hv360_0 := hcc360 0 _ rfl
      rw [Nat.add_zero, show ((Kd.slice 49 k49)).sz = 1 from rfl, Nat.mul_one] at hv360_0
      replace hv360_0 := Option.some.inj (hv360_0.symm.trans hx360_0)
      injection hv360_0 with hva_ hvn_ hvc_
      rw [hva_] at ge360_0
      rw [hvc_] at ul360_0
      have HL360_0 := Aside0.mk (show Kd.V k49 49 _ w.heap.size _ _ (rd_L3 l0 x7_1) from Kd.V_mk ul360_0 ge360_0)
      clear hva_ hvn_ hvc_ ge360_0 ul360_0
      clear hcc360 hce360
      have HR360_0 := Aside0.mk hi360_0
      have HC360_0 := Aside0.mk hl360_0
      clear hi360_0 hl360_0
      replace p360 := eq_true p360
      replace q360 := eq_true q360
      go_wp2_with (first | ((with_reducible refine gate_callee (f := 14) rfl ?_); refine goesL_ (some 21) rfl rfl Try.func14 kr_ rfl #[.slice A1 l1.length c1, .slice A360_0 (rd_L3 l0 x7_1).length c360_0] rfl ta_ ?_; (with_reducible refine (spec_CompareShapes.calls k1 _ _ l1 _ _ (rd_L3 l0 x7_1) t361 _ ?side1 ?side2 ?side3 ?side4 A7.out).mono ?_); (case side1 => exact ca_ (Kd.V_reads' HO_1.out).2.2); (case side2 => exact (Kd.V_reads' HO_1.out).2.1); (case side3 => repeat (first | exact (by repeat (first | (with_reducible exact HR360_0.out) | (with_reducible refine Kd.C_alloc ?_ _) | (with_reducible refine Kd.C_drewN ?_ _) | (with_reducible refine Kd.C_drew ?_) | exact HR360_0.out)) | (with_reducible refine Kd.C_alloc ?_ _) | (with_reducible refine Kd.C_drewN ?_ _) | (with_reducible refine Kd.C_drew ?_))); (case side4 => exact HC360_0.out); rintro e w9 ⟨rfl, hb⟩; refine ⟨_, rfl, ?_⟩; have n0_ := Aside0.mk (Kd.V_below (by (with_reducible repeat (first | apply Kd.V_alloc | apply Kd.V_drewN | apply Kd.V_drew)); exact HO_0.out) hb); have n1_ := Aside0.mk (Kd.V_below (by (with_reducible repeat (first | apply Kd.V_alloc | apply Kd.V_drewN | apply Kd.V_drew)); exact HO_1.out) hb); have n2_ := Aside0.mk (Kd.N_below (by (with_reducible repeat (first | apply Kd.N_alloc | apply Kd.N_drewN | apply Kd.N_drew)); exact HO_5.out) hb); have n3_ := Aside0.mk (Kd.V_below (by (with_reducible repeat (first | apply Kd.V_alloc | apply Kd.V_drewN | apply Kd.V_drew)); exact HL360_0.out) hb); have n4_ := Aside0.mk (Kd.C_below (by repeat (first | (with_reducible exact HR360_0.out) | (with_reducible refine Kd.C_alloc ?_ _) | (with_reducible refine Kd.C_drewN ?_ _) | (with_reducible refine Kd.C_drew ?_) | exact HR360_0.out)) hb); have n5_ := Aside0.mk (below_step (bl0_) hb); clear HO_0; clear HO_1; clear HO_5; clear HL360_0; clear HR360_0; clear HB; have HO_0 := n0_; have HO_1 := n1_; have HO_5 := n2_; have HL360_0 := n3_; have HR360_0 := n4_; have HB := n5_; clear n0_ n1_ n2_ n3_ n4_ n5_; (try clear hb); (try clear hb2); (try clear hk); (try clear hi)))
      go_ret
      exact ⟨_, er_, by (with_reducible repeat (first | apply Kd.V_alloc | apply Kd.V_drewN | apply Kd.V_drew)); exact Kd.V_mono HO_0.out (fun _ hk => hk.1), bl0_⟩
     ·rw [if_neg c8] at H
      have c8b0 : (t361 == 0) = false := beq_eq_false_iff_ne.mpr c8
      have c8b1 : (t361 != 0) = true := bne_iff_ne.mpr c8
      by_cases c10 : t361 < 0
      ·rw [if_pos c10] at H
       have c10b0 : decide (t361 < 0) = true := decide_eq_true c10
       clear c10
       by_cases c11 : x6_1 = true
       ·subst c11
        have H1 : (if x5_1.length < 5864062014805 then (spec_l03Add.l0 k1 l0 l1 (x5_1 ++ [rd_L3 l0 x7_1]) true (wrap64 (x7_1 + 1))) else (none)) = some r := by rw [if_pos rfl] at H; exact H
        clear H
        have H := H1
        clear H1
        by_cases c12 : x5_1.length < 5864062014805
        ·rw [if_pos c12] at H
         have LMc12 := Aside0.mk c12
         clear c12
         obtain ⟨y363, hy363⟩ : ∃ y_ : List (List (S49)), y_ = (x5_1 ++ [rd_L3 l0 x7_1]) := ⟨_, rfl⟩
         replace H : (spec_l03Add.l0 k1 l0 l1 y363 true (wrap64 (x7_1 + 1))) = some r := by first | (rw [hy363]; with_reducible exact H) | (have H2_ := (Option.bind_some _ _).symm.trans H; rw [hy363]; with_reducible exact H2_) | (have H2_ := (Option.bind_some _ _).symm.trans H; with_reducible exact H2_) | with_reducible exact H | (rw [hy363]; exact H) | exact H
         have Ny363 := Aside0.mk hy363
         clear hy363
         have H' := Aside0.mk H
         clear H
         have p360 : 0 ≤ (x7_1 : Int) := od_
         have q360 : x7_1 < (l0.length : Int) := od_
         obtain ⟨ad360, A360_0, c360_0, e360, hx360_0, hl360_0, hi360_0⟩ := at_L3 (Kd.V_reads' HO_0.out).2.2 x7_1 p360 q360
         cases e360
         obtain ⟨ce360, hce360, hMe360, hcc360⟩ := Kd.V_get HO_0.out [] x7_1 p360 (by first | exact q360 | exact od_ | (have e_ := (Kd.V_reads' HO_0.out).1; omega))
         obtain ⟨ua360_0, uc360_0, rfl, ul360_0, ge360_0⟩ := Kd.FK_slice_open hMe360
         have hv360_0 := hcc360 0 _ rfl
         rw [Nat.add_zero, show ((Kd.slice 49 k49)).sz = 1 from rfl, Nat.mul_one] at hv360_0
         replace hv360_0 := Option.some.inj (hv360_0.symm.trans hx360_0)
         injection hv360_0 with hva_ hvn_ hvc_
         rw [hva_] at ge360_0
         rw [hvc_] at ul360_0
         have HL360_0 := Aside0.mk (show Kd.V k49 49 _ w.heap.size _ _ (rd_L3 l0 x7_1) from Kd.V_mk ul360_0 ge360_0)
         clear hva_ hvn_ hvc_ ge360_0 ul360_0
         clear hcc360 hce360
         have HR360_0 := Aside0.mk hi360_0
         have HC360_0 := Aside0.mk hl360_0
         clear hi360_0 hl360_0
         replace p360 := eq_true p360
         replace q360 := eq_true q360
         go_wp2_with (first | ((with_reducible refine gate_callee (f := 14) rfl ?_); refine goesL_ (some 21) rfl rfl Try.func14 kr_ rfl #[.slice A1 l1.length c1, .slice A360_0 (rd_L3 l0 x7_1).length c360_0] rfl ta_ ?_; (with_reducible refine (spec_CompareShapes.calls k1 _ _ l1 _ _ (rd_L3 l0 x7_1) t361 _ ?side1 ?side2 ?side3 ?side4 A7.out).mono ?_); (case side1 => exact ca_ (Kd.V_reads' HO_1.out).2.2); (case side2 => exact (Kd.V_reads' HO_1.out).2.1); (case side3 => repeat (first | exact (by repeat (first | (with_reducible exact HR360_0.out) | (with_reducible refine Kd.C_alloc ?_ _) | (with_reducible refine Kd.C_drewN ?_ _) | (with_reducible refine Kd.C_drew ?_) | exact HR360_0.out)) | (with_reducible refine Kd.C_alloc ?_ _) | (with_reducible refine Kd.C_drewN ?_ _) | (with_reducible refine Kd.C_drew ?_))); (case side4 => exact HC360_0.out); rintro e w13 ⟨rfl, hb⟩; refine ⟨_, rfl, ?_⟩; have n0_ := Aside0.mk (Kd.V_below (by (with_reducible repeat (first | apply Kd.V_alloc | apply Kd.V_drewN | apply Kd.V_drew)); exact HO_0.out) hb); have n1_ := Aside0.mk (Kd.V_below (by (with_reducible repeat (first | apply Kd.V_alloc | apply Kd.V_drewN | apply Kd.V_drew)); exact HO_1.out) hb); have n2_ := Aside0.mk (Kd.N_below (by (with_reducible repeat (first | apply Kd.N_alloc | apply Kd.N_drewN | apply Kd.N_drew)); exact HO_5.out) hb); have n3_ := Aside0.mk (Kd.V_below (by (with_reducible repeat (first | apply Kd.V_alloc | apply Kd.V_drewN | apply Kd.V_drew)); exact HL360_0.out) hb); have n4_ := Aside0.mk (Kd.C_below (by repeat (first | (with_reducible exact HR360_0.out) | (with_reducible refine Kd.C_alloc ?_ _) | (with_reducible refine Kd.C_drewN ?_ _) | (with_reducible refine Kd.C_drew ?_) | exact HR360_0.out)) hb); have n5_ := Aside0.mk (below_step (bl0_) hb); clear HO_0; clear HO_1; clear HO_5; clear HL360_0; clear HR360_0; clear HB; have HO_0 := n0_; have HO_1 := n1_; have HO_5 := n2_; have HL360_0 := n3_; have HR360_0 := n4_; have HB := n5_; clear n0_ n1_ n2_ n3_ n4_ n5_; (try clear hb); (try clear hb2); (try clear hk); (try clear hi); have p362 : 0 ≤ (x7_1 : Int) := od_; have q362 : x7_1 < (l0.length : Int) := od_; obtain ⟨ad362, A362_0, c362_0, e362, hx362_0, hl362_0, hi362_0⟩ := at_L3 (Kd.V_reads' HO_0.out).2.2 x7_1 p362 q362; obtain rfl : ad360 = ad362 := (by injection e362); obtain ⟨ce362, hce362, hMe362, hcc362⟩ := Kd.V_get HO_0.out [] x7_1 p362 (by first | exact q362 | exact od_ | (have e_ := (Kd.V_reads' HO_0.out).1; omega)); obtain ⟨ua362_0, uc362_0, rfl, ul362_0, ge362_0⟩ := Kd.FK_slice_open hMe362; have hv362_0 := hcc362 0 _ rfl; rw [Nat.add_zero, show ((Kd.slice 49 k49)).sz = 1 from rfl, Nat.mul_one] at hv362_0; replace hv362_0 := Option.some.inj (hv362_0.symm.trans hx362_0); injection hv362_0 with hva_ hvn_ hvc_; rw [hva_] at ge362_0; rw [hvc_] at ul362_0; have HL362_0 := Aside0.mk (show Kd.V k49 49 _ w.heap.size _ _ (rd_L3 l0 x7_1) from Kd.V_mk ul362_0 ge362_0); clear hva_ hvn_ hvc_ ge362_0 ul362_0; clear hcc362 hce362; have HR362_0 := Aside0.mk hi362_0; have HC362_0 := Aside0.mk hl362_0; clear hi362_0 hl362_0; replace p362 := eq_true p362; replace q362 := eq_true q362) | ((with_reducible refine gate_builtin (b := .append) (xs := #[.tmp 35, .tmp 40]) rfl ?_); at_builtin; refine Kd.N_append (Kd.slice 49 k49) (w0 := w) w.heap.size rfl (.tmp 35) (.tmp 40) 41 24 (.slice none 0 0) 24 rfl Try.underlying41 info24 rfl (by decide) (by omega) u5 x5_1 (rd_L3 l0 x7_1) [.slice A362_0 (rd_L3 l0 x7_1).length c362_0] (fun k_ => ((P0_ k_ ∨ P1_ k_) ∨ w.heap.size ≤ k_)) (fun k_ => ((fun k_ => ((P0_ k_ ∨ P1_ k_) ∨ w.heap.size ≤ k_))) k_ ∧ some k_ ≠ (u5 : Value).ownBlock) rfl rfl ?aP (fun _ hk => hk) ?aF ?aO ?aB ?aS ?aL ?_; (case aP => exact (Kd.FK_slice_mk (Kd.V_reads' (Kd.V_mono (ok' := (fun k_ => ((fun k_ => ((P0_ k_ ∨ P1_ k_) ∨ w.heap.size ≤ k_))) k_ ∧ some k_ ≠ (u5 : Value).ownBlock)) (HL362_0.out) (fun k_ hk => ⟨hk.1, hk.2⟩))).2.1 (Kd.V_F (Kd.V_mono (ok' := (fun k_ => ((fun k_ => ((P0_ k_ ∨ P1_ k_) ∨ w.heap.size ≤ k_))) k_ ∧ some k_ ≠ (u5 : Value).ownBlock)) (HL362_0.out) (fun k_ hk => ⟨hk.1, hk.2⟩))))); (case aB => exact (bl0_)); (case aF => exact (fun k_ hk => (.inr (Nat.le_trans (below_size (bl0_)) hk)))); (case aO => exact (by (with_reducible repeat (first | apply Kd.N_alloc | apply Kd.N_drewN | apply Kd.N_drew)); exact HO_5.out)); (case aS => exact (below_size (bl0_))); (case aL => have := LMc12.out; omega); intro v364 w14 ho hb hg hat; rw [← Ny363.out] at ho; have n0_ := Aside0.mk (Kd.V_afterv (ok := (fun k_ => ((P0_ k_ ∨ P1_ k_) ∨ w.heap.size ≤ k_))) (by (with_reducible repeat (first | apply Kd.V_alloc | apply Kd.V_drewN | apply Kd.V_drew)); exact HO_0.out) hg hat); have n1_ := Aside0.mk (Kd.V_afterv (ok := (fun k_ => ((P0_ k_ ∨ P1_ k_) ∨ w.heap.size ≤ k_))) (by (with_reducible repeat (first | apply Kd.V_alloc | apply Kd.V_drewN | apply Kd.V_drew)); exact HO_1.out) hg hat); have n2_ := Aside0.mk (Kd.V_afterv (ok := (fun k_ => ((P0_ k_ ∨ P1_ k_) ∨ w.heap.size ≤ k_))) (by (with_reducible repeat (first | apply Kd.V_alloc | apply Kd.V_drewN | apply Kd.V_drew)); exact HL360_0.out) hg hat); have n3_ := Aside0.mk (Kd.V_afterv (ok := (fun k_ => ((P0_ k_ ∨ P1_ k_) ∨ w.heap.size ≤ k_))) (by (with_reducible repeat (first | apply Kd.V_alloc | apply Kd.V_drewN | apply Kd.V_drew)); exact HL362_0.out) hg hat); have n4_ := Aside0.mk (hb); have n5_ := Aside0.mk (ho); clear HO_0; clear HO_1; clear HL360_0; clear HL362_0; clear HB; clear HO_5; have HO_0 := n0_; have HO_1 := n1_; have HL360_0 := n2_; have HL362_0 := n3_; have HB := n4_; have HO365 := n5_; clear n0_ n1_ n2_ n3_ n4_ n5_; clear ho hb hg hat))
         go_roundg k1
         case measure => have := HK1.out; omega
         case rel => exact ⟨(y363), (true), (wrap64 (x7_1 + 1)), rs_, rs_, H', ⟨by have := HK1.out; omega⟩, ⟨by (with_reducible repeat (first | apply Kd.V_alloc | apply Kd.V_drewN | apply Kd.V_drew)); exact HO_0.out⟩, ⟨by (with_reducible repeat (first | apply Kd.V_alloc | apply Kd.V_drewN | apply Kd.V_drew)); exact HO_1.out⟩, ⟨by (with_reducible repeat (first | apply Kd.N_alloc | apply Kd.N_drewN | apply Kd.N_drew)); exact HO365.out⟩, ⟨bl0_⟩⟩
        ·rw [if_neg c12] at H
         exact absurd H (by simp)
       ·replace c11 := Bool.eq_false_iff.mpr c11
        subst c11
        have H1 : (if x5_1.length < 5864062014805 then ((some (x5_1 ++ [l1] : List (List (S49)))).bind fun y366 => (if y366.length < 5864062014805 then (spec_l03Add.l0 k1 l0 l1 (y366 ++ [rd_L3 l0 x7_1]) true (wrap64 (x7_1 + 1))) else (none))) else (none)) = some r := by rw [if_neg (show ¬ (false = true) by decide)] at H; exact H
        clear H
        have H := H1
        clear H1
        by_cases c15 : x5_1.length < 5864062014805
        ·rw [if_pos c15] at H
         have LMc15 := Aside0.mk c15
         clear c15
         obtain ⟨y366, hy366⟩ : ∃ y_ : List (List (S49)), y_ = (x5_1 ++ [l1]) := ⟨_, rfl⟩
         replace H : (if y366.length < 5864062014805 then (spec_l03Add.l0 k1 l0 l1 (y366 ++ [rd_L3 l0 x7_1]) true (wrap64 (x7_1 + 1))) else (none)) = some r := by first | (rw [hy366]; with_reducible exact H) | (have H2_ := (Option.bind_some _ _).symm.trans H; rw [hy366]; with_reducible exact H2_) | (have H2_ := (Option.bind_some _ _).symm.trans H; with_reducible exact H2_) | with_reducible exact H | (rw [hy366]; exact H) | exact H
         have Ny366 := Aside0.mk hy366
         clear hy366
         by_cases c16 : y366.length < 5864062014805
         ·rw [if_pos c16] at H
          have LMc16 := Aside0.mk c16
          clear c16
          obtain ⟨y370, hy370⟩ : ∃ y_ : List (List (S49)), y_ = (y366 ++ [rd_L3 l0 x7_1]) := ⟨_, rfl⟩
          replace H : (spec_l03Add.l0 k1 l0 l1 y370 true (wrap64 (x7_1 + 1))) = some r := by first | (rw [hy370]; with_reducible exact H) | (have H2_ := (Option.bind_some _ _).symm.trans H; rw [hy370]; with_reducible exact H2_) | (have H2_ := (Option.bind_some _ _).symm.trans H; with_reducible exact H2_) | with_reducible exact H | (rw [hy370]; exact H) | exact H
          have Ny370 := Aside0.mk hy370
          clear hy370
          have H' := Aside0.mk H
          clear H
          have p360 : 0 ≤ (x7_1 : Int) := od_
          have q360 : x7_1 < (l0.length : Int) := od_
          obtain ⟨ad360, A360_0, c360_0, e360, hx360_0, hl360_0, hi360_0⟩ := at_L3 (Kd.V_reads' HO_0.out).2.2 x7_1 p360 q360
          cases e360
          obtain ⟨ce360, hce360, hMe360, hcc360⟩ := Kd.V_get HO_0.out [] x7_1 p360 (by first | exact q360 | exact od_ | (have e_ := (Kd.V_reads' HO_0.out).1; omega))
          obtain ⟨ua360_0, uc360_0, rfl, ul360_0, ge360_0⟩ := Kd.FK_slice_open hMe360
          have hv360_0 := hcc360 0 _ rfl
          rw [Nat.add_zero, show ((Kd.slice 49 k49)).sz = 1 from rfl, Nat.mul_one] at hv360_0
          replace hv360_0 := Option.some.inj (hv360_0.symm.trans hx360_0)
          injection hv360_0 with hva_ hvn_ hvc_
          rw [hva_] at ge360_0
          rw [hvc_] at ul360_0
          have HL360_0 := Aside0.mk (show Kd.V k49 49 _ w.heap.size _ _ (rd_L3 l0 x7_1) from Kd.V_mk ul360_0 ge360_0)
          clear hva_ hvn_ hvc_ ge360_0 ul360_0
          clear hcc360 hce360
          have HR360_0 := Aside0.mk hi360_0
          have HC360_0 := Aside0.mk hl360_0
          clear hi360_0 hl360_0
          replace p360 := eq_true p360
          replace q360 := eq_true q360
          go_wp2_with (first | ((with_reducible refine gate_callee (f := 14) rfl ?_); refine goesL_ (some 21) rfl rfl Try.func14 kr_ rfl #[.slice A1 l1.length c1, .slice A360_0 (rd_L3 l0 x7_1).length c360_0] rfl ta_ ?_; (with_reducible refine (spec_CompareShapes.calls k1 _ _ l1 _ _ (rd_L3 l0 x7_1) t361 _ ?side1 ?side2 ?side3 ?side4 A7.out).mono ?_); (case side1 => exact ca_ (Kd.V_reads' HO_1.out).2.2); (case side2 => exact (Kd.V_reads' HO_1.out).2.1); (case side3 => repeat (first | exact (by repeat (first | (with_reducible exact HR360_0.out) | (with_reducible refine Kd.C_alloc ?_ _) | (with_reducible refine Kd.C_drewN ?_ _) | (with_reducible refine Kd.C_drew ?_) | exact HR360_0.out)) | (with_reducible refine Kd.C_alloc ?_ _) | (with_reducible refine Kd.C_drewN ?_ _) | (with_reducible refine Kd.C_drew ?_))); (case side4 => exact HC360_0.out); rintro e w17 ⟨rfl, hb⟩; refine ⟨_, rfl, ?_⟩; have n0_ := Aside0.mk (Kd.V_below (by (with_reducible repeat (first | apply Kd.V_alloc | apply Kd.V_drewN | apply Kd.V_drew)); exact HO_0.out) hb); have n1_ := Aside0.mk (Kd.V_below (by (with_reducible repeat (first | apply Kd.V_alloc | apply Kd.V_drewN | apply Kd.V_drew)); exact HO_1.out) hb); have n2_ := Aside0.mk (Kd.N_below (by (with_reducible repeat (first | apply Kd.N_alloc | apply Kd.N_drewN | apply Kd.N_drew)); exact HO_5.out) hb); have n3_ := Aside0.mk (Kd.V_below (by (with_reducible repeat (first | apply Kd.V_alloc | apply Kd.V_drewN | apply Kd.V_drew)); exact HL360_0.out) hb); have n4_ := Aside0.mk (Kd.C_below (by repeat (first | (with_reducible exact HR360_0.out) | (with_reducible refine Kd.C_alloc ?_ _) | (with_reducible refine Kd.C_drewN ?_ _) | (with_reducible refine Kd.C_drew ?_) | exact HR360_0.out)) hb); have n5_ := Aside0.mk (below_step (bl0_) hb); clear HO_0; clear HO_1; clear HO_5; clear HL360_0; clear HR360_0; clear HB; have HO_0 := n0_; have HO_1 := n1_; have HO_5 := n2_; have HL360_0 := n3_; have HR360_0 := n4_; have HB := n5_; clear n0_ n1_ n2_ n3_ n4_ n5_; (try clear hb); (try clear hb2); (try clear hk); (try clear hi)) | ((with_reducible refine gate_builtin (b := .append) (xs := #[.tmp 31, .tmp 33]) rfl ?_); at_builtin; refine Kd.N_append (Kd.slice 49 k49) (w0 := w) w.heap.size rfl (.tmp 31) (.tmp 33) 41 24 (.slice none 0 0) 24 rfl Try.underlying41 info24 rfl (by decide) (by omega) u5 x5_1 l1 [.slice A1 l1.length c1] (fun k_ => ((P0_ k_ ∨ P1_ k_) ∨ w.heap.size ≤ k_)) (fun k_ => ((fun k_ => ((P0_ k_ ∨ P1_ k_) ∨ w.heap.size ≤ k_))) k_ ∧ some k_ ≠ (u5 : Value).ownBlock) rfl rfl ?aP (fun _ hk => hk) ?aF ?aO ?aB ?aS ?aL ?_; (case aP => exact (Kd.FK_slice_mk (Kd.V_reads' (Kd.V_mono (ok' := (fun k_ => ((fun k_ => ((P0_ k_ ∨ P1_ k_) ∨ w.heap.size ≤ k_))) k_ ∧ some k_ ≠ (u5 : Value).ownBlock)) (HO_1.out) (fun k_ hk => ⟨hk.1, hk.2⟩))).2.1 (Kd.V_F (Kd.V_mono (ok' := (fun k_ => ((fun k_ => ((P0_ k_ ∨ P1_ k_) ∨ w.heap.size ≤ k_))) k_ ∧ some k_ ≠ (u5 : Value).ownBlock)) (HO_1.out) (fun k_ hk => ⟨hk.1, hk.2⟩))))); (case aB => exact (bl0_)); (case aF => exact (fun k_ hk => (.inr (Nat.le_trans (below_size (bl0_)) hk)))); (case aO => exact (by (with_reducible repeat (first | apply Kd.N_alloc | apply Kd.N_drewN | apply Kd.N_drew)); exact HO_5.out)); (case aS => exact (below_size (bl0_))); (case aL => have := LMc15.out; omega); intro v367 w18 ho hb hg hat; rw [← Ny366.out] at ho; have n0_ := Aside0.mk (Kd.V_afterv (ok := (fun k_ => ((P0_ k_ ∨ P1_ k_) ∨ w.heap.size ≤ k_))) (by (with_reducible repeat (first | apply Kd.V_alloc | apply Kd.V_drewN | apply Kd.V_drew)); exact HO_0.out) hg hat); have n1_ := Aside0.mk (Kd.V_afterv (ok := (fun k_ => ((P0_ k_ ∨ P1_ k_) ∨ w.heap.size ≤ k_))) (by (with_reducible repeat (first | apply Kd.V_alloc | apply Kd.V_drewN | apply Kd.V_drew)); exact HO_1.out) hg hat); have n2_ := Aside0.mk (Kd.V_afterv (ok := (fun k_ => ((P0_ k_ ∨ P1_ k_) ∨ w.heap.size ≤ k_))) (by (with_reducible repeat (first | apply Kd.V_alloc | apply Kd.V_drewN | apply Kd.V_drew)); exact HL360_0.out) hg hat); have n3_ := Aside0.mk (hb); have n4_ := Aside0.mk (ho); clear HO_0; clear HO_1; clear HL360_0; clear HB; clear HO_5; have HO_0 := n0_; have HO_1 := n1_; have HL360_0 := n2_; have HB := n3_; have HO368 := n4_; clear n0_ n1_ n2_ n3_ n4_; clear ho hb hg hat; have p369 : 0 ≤ (x7_1 : Int) := od_; have q369 : x7_1 < (l0.length : Int) := od_; obtain ⟨ad369, A369_0, c369_0, e369, hx369_0, hl369_0, hi369_0⟩ := at_L3 (Kd.V_reads' HO_0.out).2.2 x7_1 p369 q369; obtain rfl : ad360 = ad369 := (by injection e369); obtain ⟨ce369, hce369, hMe369, hcc369⟩ := Kd.V_get HO_0.out [] x7_1 p369 (by first | exact q369 | exact od_ | (have e_ := (Kd.V_reads' HO_0.out).1; omega)); obtain ⟨ua369_0, uc369_0, rfl, ul369_0, ge369_0⟩ := Kd.FK_slice_open hMe369; have hv369_0 := hcc369 0 _ rfl; rw [Nat.add_zero, show ((Kd.slice 49 k49)).sz = 1 from rfl, Nat.mul_one] at hv369_0; replace hv369_0 := Option.some.inj (hv369_0.symm.trans hx369_0); injection hv369_0 with hva_ hvn_ hvc_; rw [hva_] at ge369_0; rw [hvc_] at ul369_0; have HL369_0 := Aside0.mk (show Kd.V k49 49 _ w.heap.size _ _ (rd_L3 l0 x7_1) from Kd.V_mk ul369_0 ge369_0); clear hva_ hvn_ hvc_ ge369_0 ul369_0; clear hcc369 hce369; have HR369_0 := Aside0.mk hi369_0; have HC369_0 := Aside0.mk hl369_0; clear hi369_0 hl369_0; replace p369 := eq_true p369; replace q369 := eq_true q369) | ((with_reducible refine gate_builtin (b := .append) (xs := #[.tmp 35, .tmp 40]) rfl ?_); at_builtin; refine Kd.N_append (Kd.slice 49 k49) (w0 := w) w.heap.size rfl (.tmp 35) (.tmp 40) 41 24 (.slice none 0 0) 24 rfl Try.underlying41 info24 rfl (by decide) (by omega) v367 y366 (rd_L3 l0 x7_1) [.slice A369_0 (rd_L3 l0 x7_1).length c369_0] (fun k_ => ((P0_ k_ ∨ P1_ k_) ∨ w.heap.size ≤ k_)) (fun k_ => ((fun k_ => ((P0_ k_ ∨ P1_ k_) ∨ w.heap.size ≤ k_))) k_ ∧ some k_ ≠ (v367 : Value).ownBlock) rfl rfl ?aP (fun _ hk => hk) ?aF ?aO ?aB ?aS ?aL ?_; (case aP => exact (Kd.FK_slice_mk (Kd.V_reads' (Kd.V_mono (ok' := (fun k_ => ((fun k_ => ((P0_ k_ ∨ P1_ k_) ∨ w.heap.size ≤ k_))) k_ ∧ some k_ ≠ (v367 : Value).ownBlock)) (HL369_0.out) (fun k_ hk => ⟨hk.1, hk.2⟩))).2.1 (Kd.V_F (Kd.V_mono (ok' := (fun k_ => ((fun k_ => ((P0_ k_ ∨ P1_ k_) ∨ w.heap.size ≤ k_))) k_ ∧ some k_ ≠ (v367 : Value).ownBlock)) (HL369_0.out) (fun k_ hk => ⟨hk.1, hk.2⟩))))); (case aB => exact (bl0_)); (case aF => exact (fun k_ hk => (.inr (Nat.le_trans (below_size (bl0_)) hk)))); (case aO => exact (by (with_reducible repeat (first | apply Kd.N_alloc | apply Kd.N_drewN | apply Kd.N_drew)); exact HO368.out)); (case aS => exact (below_size (bl0_))); (case aL => have := LMc16.out; omega); intro v371 w19 ho hb hg hat; rw [← Ny370.out] at ho; have n0_ := Aside0.mk (Kd.V_afterv (ok := (fun k_ => ((P0_ k_ ∨ P1_ k_) ∨ w.heap.size ≤ k_))) (by (with_reducible repeat (first | apply Kd.V_alloc | apply Kd.V_drewN | apply Kd.V_drew)); exact HO_0.out) hg hat); have n1_ := Aside0.mk (Kd.V_afterv (ok := (fun k_ => ((P0_ k_ ∨ P1_ k_) ∨ w.heap.size ≤ k_))) (by (with_reducible repeat (first | apply Kd.V_alloc | apply Kd.V_drewN | apply Kd.V_drew)); exact HO_1.out) hg hat); have n2_ := Aside0.mk (Kd.V_afterv (ok := (fun k_ => ((P0_ k_ ∨ P1_ k_) ∨ w.heap.size ≤ k_))) (by (with_reducible repeat (first | apply Kd.V_alloc | apply Kd.V_drewN | apply Kd.V_drew)); exact HL360_0.out) hg hat); have n3_ := Aside0.mk (Kd.V_afterv (ok := (fun k_ => ((P0_ k_ ∨ P1_ k_) ∨ w.heap.size ≤ k_))) (by (with_reducible repeat (first | apply Kd.V_alloc | apply Kd.V_drewN | apply Kd.V_drew)); exact HL369_0.out) hg hat); have n4_ := Aside0.mk (hb); have n5_ := Aside0.mk (ho); clear HO_0; clear HO_1; clear HL360_0; clear HL369_0; clear HB; clear HO368; have HO_0 := n0_; have HO_1 := n1_; have HL360_0 := n2_; have HL369_0 := n3_; have HB := n4_; have HO372 := n5_; clear n0_ n1_ n2_ n3_ n4_ n5_; clear ho hb hg hat))
          go_roundg k1
          case measure => have := HK1.out; omega
          case rel => exact ⟨(y370), (true), (wrap64 (x7_1 + 1)), rs_, rs_, H', ⟨by have := HK1.out; omega⟩, ⟨by (with_reducible repeat (first | apply Kd.V_alloc | apply Kd.V_drewN | apply Kd.V_drew)); exact HO_0.out⟩, ⟨by (with_reducible repeat (first | apply Kd.V_alloc | apply Kd.V_drewN | apply Kd.V_drew)); exact HO_1.out⟩, ⟨by (with_reducible repeat (first | apply Kd.N_alloc | apply Kd.N_drewN | apply Kd.N_drew)); exact HO372.out⟩, ⟨bl0_⟩⟩
         ·rw [if_neg c16] at H
          exact absurd H (by simp)
        ·rw [if_neg c15] at H
         exact absurd H (by simp)
      ·rw [if_neg c10] at H
       have c10b0 : decide (t361 < 0) = false := decide_eq_false c10
       clear c10
       by_cases c20 : x5_1.length < 5864062014805
       ·rw [if_pos c20] at H
        have LMc20 := Aside0.mk c20
        clear c20
        obtain ⟨y374, hy374⟩ : ∃ y_ : List (List (S49)), y_ = (x5_1 ++ [rd_L3 l0 x7_1]) := ⟨_, rfl⟩
        replace H : (spec_l03Add.l0 k1 l0 l1 y374 x6_1 (wrap64 (x7_1 + 1))) = some r := by first | (rw [hy374]; with_reducible exact H) | (have H2_ := (Option.bind_some _ _).symm.trans H; rw [hy374]; with_reducible exact H2_) | (have H2_ := (Option.bind_some _ _).symm.trans H; with_reducible exact H2_) | with_reducible exact H | (rw [hy374]; exact H) | exact H
        have Ny374 := Aside0.mk hy374
        clear hy374
        have H' := Aside0.mk H
        clear H
        have p360 : 0 ≤ (x7_1 : Int) := od_
        have q360 : x7_1 < (l0.length : Int) := od_
        obtain ⟨ad360, A360_0, c360_0, e360, hx360_0, hl360_0, hi360_0⟩ := at_L3 (Kd.V_reads' HO_0.out).2.2 x7_1 p360 q360
        cases e360
        obtain ⟨ce360, hce360, hMe360, hcc360⟩ := Kd.V_get HO_0.out [] x7_1 p360 (by first | exact q360 | exact od_ | (have e_ := (Kd.V_reads' HO_0.out).1; omega))
        obtain ⟨ua360_0, uc360_0, rfl, ul360_0, ge360_0⟩ := Kd.FK_slice_open hMe360
        have hv360_0 := hcc360 0 _ rfl
        rw [Nat.add_zero, show ((Kd.slice 49 k49)).sz = 1 from rfl, Nat.mul_one] at hv360_0
        replace hv360_0 := Option.some.inj (hv360_0.symm.trans hx360_0)
        injection hv360_0 with hva_ hvn_ hvc_
        rw [hva_] at ge360_0
        rw [hvc_] at ul360_0
        have HL360_0 := Aside0.mk (show Kd.V k49 49 _ w.heap.size _ _ (rd_L3 l0 x7_1) from Kd.V_mk ul360_0 ge360_0)
        clear hva_ hvn_ hvc_ ge360_0 ul360_0
        clear hcc360 hce360
        have HR360_0 := Aside0.mk hi360_0
        have HC360_0 := Aside0.mk hl360_0
        clear hi360_0 hl360_0
        replace p360 := eq_true p360
        replace q360 := eq_true q360
        go_wp2_with (first | ((with_reducible refine gate_callee (f := 14) rfl ?_); refine goesL_ (some 21) rfl rfl Try.func14 kr_ rfl #[.slice A1 l1.length c1, .slice A360_0 (rd_L3 l0 x7_1).length c360_0] rfl ta_ ?_; (with_reducible refine (spec_CompareShapes.calls k1 _ _ l1 _ _ (rd_L3 l0 x7_1) t361 _ ?side1 ?side2 ?side3 ?side4 A7.out).mono ?_); (case side1 => exact ca_ (Kd.V_reads' HO_1.out).2.2); (case side2 => exact (Kd.V_reads' HO_1.out).2.1); (case side3 => repeat (first | exact (by repeat (first | (with_reducible exact HR360_0.out) | (with_reducible refine Kd.C_alloc ?_ _) | (with_reducible refine Kd.C_drewN ?_ _) | (with_reducible refine Kd.C_drew ?_) | exact HR360_0.out)) | (with_reducible refine Kd.C_alloc ?_ _) | (with_reducible refine Kd.C_drewN ?_ _) | (with_reducible refine Kd.C_drew ?_))); (case side4 => exact HC360_0.out); rintro e w21 ⟨rfl, hb⟩; refine ⟨_, rfl, ?_⟩; have n0_ := Aside0.mk (Kd.V_below (by (with_reducible repeat (first | apply Kd.V_alloc | apply Kd.V_drewN | apply Kd.V_drew)); exact HO_0.out) hb); have n1_ := Aside0.mk (Kd.V_below (by (with_reducible repeat (first | apply Kd.V_alloc | apply Kd.V_drewN | apply Kd.V_drew)); exact HO_1.out) hb); have n2_ := Aside0.mk (Kd.N_below (by (with_reducible repeat (first | apply Kd.N_alloc | apply Kd.N_drewN | apply Kd.N_drew)); exact HO_5.out) hb); have n3_ := Aside0.mk (Kd.V_below (by (with_reducible repeat (first | apply Kd.V_alloc | apply Kd.V_drewN | apply Kd.V_drew)); exact HL360_0.out) hb); have n4_ := Aside0.mk (Kd.C_below (by repeat (first | (with_reducible exact HR360_0.out) | (with_reducible refine Kd.C_alloc ?_ _) | (with_reducible refine Kd.C_drewN ?_ _) | (with_reducible refine Kd.C_drew ?_) | exact HR360_0.out)) hb); have n5_ := Aside0.mk (below_step (bl0_) hb); clear HO_0; clear HO_1; clear HO_5; clear HL360_0; clear HR360_0; clear HB; have HO_0 := n0_; have HO_1 := n1_; have HO_5 := n2_; have HL360_0 := n3_; have HR360_0 := n4_; have HB := n5_; clear n0_ n1_ n2_ n3_ n4_ n5_; (try clear hb); (try clear hb2); (try clear hk); (try clear hi); have p373 : 0 ≤ (x7_1 : Int) := od_; have q373 : x7_1 < (l0.length : Int) := od_; obtain ⟨ad373, A373_0, c373_0, e373, hx373_0, hl373_0, hi373_0⟩ := at_L3 (Kd.V_reads' HO_0.out).2.2 x7_1 p373 q373; obtain rfl : ad360 = ad373 := (by injection e373); obtain ⟨ce373, hce373, hMe373, hcc373⟩ := Kd.V_get HO_0.out [] x7_1 p373 (by first | exact q373 | exact od_ | (have e_ := (Kd.V_reads' HO_0.out).1; omega)); obtain ⟨ua373_0, uc373_0, rfl, ul373_0, ge373_0⟩ := Kd.FK_slice_open hMe373; have hv373_0 := hcc373 0 _ rfl; rw [Nat.add_zero, show ((Kd.slice 49 k49)).sz = 1 from rfl, Nat.mul_one] at hv373_0; replace hv373_0 := Option.some.inj (hv373_0.symm.trans hx373_0); injection hv373_0 with hva_ hvn_ hvc_; rw [hva_] at ge373_0; rw [hvc_] at ul373_0; have HL373_0 := Aside0.mk (show Kd.V k49 49 _ w.heap.size _ _ (rd_L3 l0 x7_1) from Kd.V_mk ul373_0 ge373_0); clear hva_ hvn_ hvc_ ge373_0 ul373_0; clear hcc373 hce373; have HR373_0 := Aside0.mk hi373_0; have HC373_0 := Aside0.mk hl373_0; clear hi373_0 hl373_0; replace p373 := eq_true p373; replace q373 := eq_true q373) | ((with_reducible refine gate_builtin (b := .append) (xs := #[.tmp 35, .tmp 40]) rfl ?_); at_builtin; refine Kd.N_append (Kd.slice 49 k49) (w0 := w) w.heap.size rfl (.tmp 35) (.tmp 40) 41 24 (.slice none 0 0) 24 rfl Try.underlying41 info24 rfl (by decide) (by omega) u5 x5_1 (rd_L3 l0 x7_1) [.slice A373_0 (rd_L3 l0 x7_1).length c373_0] (fun k_ => ((P0_ k_ ∨ P1_ k_) ∨ w.heap.size ≤ k_)) (fun k_ => ((fun k_ => ((P0_ k_ ∨ P1_ k_) ∨ w.heap.size ≤ k_))) k_ ∧ some k_ ≠ (u5 : Value).ownBlock) rfl rfl ?aP (fun _ hk => hk) ?aF ?aO ?aB ?aS ?aL ?_; (case aP => exact (Kd.FK_slice_mk (Kd.V_reads' (Kd.V_mono (ok' := (fun k_ => ((fun k_ => ((P0_ k_ ∨ P1_ k_) ∨ w.heap.size ≤ k_))) k_ ∧ some k_ ≠ (u5 : Value).ownBlock)) (HL373_0.out) (fun k_ hk => ⟨hk.1, hk.2⟩))).2.1 (Kd.V_F (Kd.V_mono (ok' := (fun k_ => ((fun k_ => ((P0_ k_ ∨ P1_ k_) ∨ w.heap.size ≤ k_))) k_ ∧ some k_ ≠ (u5 : Value).ownBlock)) (HL373_0.out) (fun k_ hk => ⟨hk.1, hk.2⟩))))); (case aB => exact (bl0_)); (case aF => exact (fun k_ hk => (.inr (Nat.le_trans (below_size (bl0_)) hk)))); (case aO => exact (by (with_reducible repeat (first | apply Kd.N_alloc | apply Kd.N_drewN | apply Kd.N_drew)); exact HO_5.out)); (case aS => exact (below_size (bl0_))); (case aL => have := LMc20.out; omega); intro v375 w22 ho hb hg hat; rw [← Ny374.out] at ho; have n0_ := Aside0.mk (Kd.V_afterv (ok := (fun k_ => ((P0_ k_ ∨ P1_ k_) ∨ w.heap.size ≤ k_))) (by (with_reducible repeat (first | apply Kd.V_alloc | apply Kd.V_drewN | apply Kd.V_drew)); exact HO_0.out) hg hat); have n1_ := Aside0.mk (Kd.V_afterv (ok := (fun k_ => ((P0_ k_ ∨ P1_ k_) ∨ w.heap.size ≤ k_))) (by (with_reducible repeat (first | apply Kd.V_alloc | apply Kd.V_drewN | apply Kd.V_drew)); exact HO_1.out) hg hat); have n2_ := Aside0.mk (Kd.V_afterv (ok := (fun k_ => ((P0_ k_ ∨ P1_ k_) ∨ w.heap.size ≤ k_))) (by (with_reducible repeat (first | apply Kd.V_alloc | apply Kd.V_drewN | apply Kd.V_drew)); exact HL360_0.out) hg hat); have n3_ := Aside0.mk (Kd.V_afterv (ok := (fun k_ => ((P0_ k_ ∨ P1_ k_) ∨ w.heap.size ≤ k_))) (by (with_reducible repeat (first | apply Kd.V_alloc | apply Kd.V_drewN | apply Kd.V_drew)); exact HL373_0.out) hg hat); have n4_ := Aside0.mk (hb); have n5_ := Aside0.mk (ho); clear HO_0; clear HO_1; clear HL360_0; clear HL373_0; clear HB; clear HO_5; have HO_0 := n0_; have HO_1 := n1_; have HL360_0 := n2_; have HL373_0 := n3_; have HB := n4_; have HO376 := n5_; clear n0_ n1_ n2_ n3_ n4_ n5_; clear ho hb hg hat))
        go_roundg k1
        case measure => have := HK1.out; omega
        case rel => exact ⟨(y374), (x6_1), (wrap64 (x7_1 + 1)), rs_, rs_, H', ⟨by have := HK1.out; omega⟩, ⟨by (with_reducible repeat (first | apply Kd.V_alloc | apply Kd.V_drewN | apply Kd.V_drew)); exact HO_0.out⟩, ⟨by (with_reducible repeat (first | apply Kd.V_alloc | apply Kd.V_drewN | apply Kd.V_drew)); exact HO_1.out⟩, ⟨by (with_reducible repeat (first | apply Kd.N_alloc | apply Kd.N_drewN | apply Kd.N_drew)); exact HO376.out⟩, ⟨bl0_⟩⟩
       ·rw [if_neg c20] at H
        exact absurd H (by simp)
    ·rw [if_neg c6] at H
     exact absurd H (by simp)
   ·rw [if_neg c5] at H
    have c5b0 : decide (x7_1 < (l0.length : Int)) = false := decide_eq_false c5
    clear c5
    by_cases c23 : x6_1 = true
    ·subst c23
     have H1 : (some x5_1) = some r := by rw [if_pos rfl] at H; exact H
     clear H
     have H := H1
     clear H1
     obtain rfl := Option.some.inj H
     go_wp2
     go_ret
     exact ⟨_, er_, Kd.N_V (by (with_reducible repeat (first | apply Kd.N_alloc | apply Kd.N_drewN | apply Kd.N_drew)); exact HO_5.out), bl0_⟩
    ·replace c23 := Bool.eq_false_iff.mpr c23
     subst c23
     have H1 : (if x5_1.length < 5864062014805 then (some (x5_1 ++ [l1])) else (none)) = some r := by rw [if_neg (show ¬ (false = true) by decide)] at H; exact H
     clear H
     have H := H1
     clear H1
     by_cases c24 : x5_1.length < 5864062014805
     ·rw [if_pos c24] at H
      have LMc24 := Aside0.mk c24
      clear c24
      obtain ⟨y357, hy357⟩ : ∃ y_ : List (List (S49)), y_ = (x5_1 ++ [l1]) := ⟨_, rfl⟩
      replace H : (some y357) = some r := by first | (rw [hy357]; with_reducible exact H) | (have H2_ := (Option.bind_some _ _).symm.trans H; rw [hy357]; with_reducible exact H2_) | (have H2_ := (Option.bind_some _ _).symm.trans H; with_reducible exact H2_) | with_reducible exact H | (rw [hy357]; exact H) | exact H
      have Ny357 := Aside0.mk hy357
      clear hy357
      obtain rfl := Option.some.inj H
      go_wp2_with (first | ((with_reducible refine gate_builtin (b := .append) (xs := #[.tmp 44, .tmp 46]) rfl ?_); at_builtin; refine Kd.N_append (Kd.slice 49 k49) (w0 := w) w.heap.size rfl (.tmp 44) (.tmp 46) 41 24 (.slice none 0 0) 24 rfl Try.underlying41 info24 rfl (by decide) (by omega) u5 x5_1 l1 [.slice A1 l1.length c1] (fun k_ => ((P0_ k_ ∨ P1_ k_) ∨ w.heap.size ≤ k_)) (fun k_ => ((fun k_ => ((P0_ k_ ∨ P1_ k_) ∨ w.heap.size ≤ k_))) k_ ∧ some k_ ≠ (u5 : Value).ownBlock) rfl rfl ?aP (fun _ hk => hk) ?aF ?aO ?aB ?aS ?aL ?_; (case aP => exact (Kd.FK_slice_mk (Kd.V_reads' (Kd.V_mono (ok' := (fun k_ => ((fun k_ => ((P0_ k_ ∨ P1_ k_) ∨ w.heap.size ≤ k_))) k_ ∧ some k_ ≠ (u5 : Value).ownBlock)) (HO_1.out) (fun k_ hk => ⟨hk.1, hk.2⟩))).2.1 (Kd.V_F (Kd.V_mono (ok' := (fun k_ => ((fun k_ => ((P0_ k_ ∨ P1_ k_) ∨ w.heap.size ≤ k_))) k_ ∧ some k_ ≠ (u5 : Value).ownBlock)) (HO_1.out) (fun k_ hk => ⟨hk.1, hk.2⟩))))); (case aB => exact (bl0_)); (case aF => exact (fun k_ hk => (.inr (Nat.le_trans (below_size (bl0_)) hk)))); (case aO => exact (by (with_reducible repeat (first | apply Kd.N_alloc | apply Kd.N_drewN | apply Kd.N_drew)); exact HO_5.out)); (case aS => exact (below_size (bl0_))); (case aL => have := LMc24.out; omega); intro v358 w25 ho hb hg hat; rw [← Ny357.out] at ho; have n0_ := Aside0.mk (Kd.V_afterv (ok := (fun k_ => ((P0_ k_ ∨ P1_ k_) ∨ w.heap.size ≤ k_))) (by (with_reducible repeat (first | apply Kd.V_alloc | apply Kd.V_drewN | apply Kd.V_drew)); exact HO_0.out) hg hat); have n1_ := Aside0.mk (Kd.V_afterv (ok := (fun k_ => ((P0_ k_ ∨ P1_ k_) ∨ w.heap.size ≤ k_))) (by (with_reducible repeat (first | apply Kd.V_alloc | apply Kd.V_drewN | apply Kd.V_drew)); exact HO_1.out) hg hat); have n2_ := Aside0.mk (hb); have n3_ := Aside0.mk (ho); clear HO_0; clear HO_1; clear HB; clear HO_5; have HO_0 := n0_; have HO_1 := n1_; have HB := n2_; have HO359 := n3_; clear n0_ n1_ n2_ n3_; clear ho hb hg hat))
      go_ret
      exact ⟨_, er_, Kd.N_V (by (with_reducible repeat (first | apply Kd.N_alloc | apply Kd.N_drewN | apply Kd.N_drew)); exact HO359.out), bl0_⟩
     ·rw [if_neg c24] at H
      exact absurd H (by simp)

/-! ### spec_l03Turn: function 64 -/
mutual
def spec_l03Turn.j0 : Nat → Int → Int → Int → Option (Int × Int)
 | 0, _, _, _ => none
 | k + 1, x1, x378000, x378001 => spec_l03Turn.l0 k (Int.tmod x1 4) x378000 x378001
def spec_l03Turn.l0 : Nat → Int → Int → Int → Option (Int × Int)
 | 0, _, _, _ => none
 | k + 1, x5, x378000, x378001 => if x5 > 0 then (spec_l03Turn.l0 k (wrap64 (x5 - 1)) (wrap64 (-x378001)) x378000) else (some (x378000, x378001))
end
def spec_l03Turn.f (k : Nat) (a0_0 : Int) (a0_1 : Int) (a1 : Int) : Option (Int × Int) := if a1 ≥ 4 then (spec_l03Turn.j0 k a1 (wrap64 (-a0_0)) a0_1) else (spec_l03Turn.j0 k a1 a0_0 a0_1)
theorem spec_l03Turn.mono_l : ∀ k, (∀ y0 y1 y2, LeO (spec_l03Turn.j0 k y0 y1 y2) (spec_l03Turn.j0 (k + 1) y0 y1 y2)) ∧ (∀ y0 y1 y2, LeO (spec_l03Turn.l0 k y0 y1 y2) (spec_l03Turn.l0 (k + 1) y0 y1 y2))
 | 0 => ⟨fun _ _ _ r h => by simp [spec_l03Turn.j0] at h, fun _ _ _ r h => by simp [spec_l03Turn.l0] at h⟩
 | k + 1 => by
  obtain ⟨ih0, ih1⟩ := spec_l03Turn.mono_l k
  refine ⟨?_, ?_⟩
  ·intro y0 y1 y2
   unfold spec_l03Turn.j0
   repeat' first
   | (with_reducible exact ih0 _ _ _)
   | (with_reducible exact ih1 _ _ _)
   | (with_reducible exact LeO.refl _)
   | (with_reducible exact LeO.none _)
   | (with_reducible refine LeO.ite ?_ ?_)
   | (with_reducible refine LeO.bind ?_ (fun _ => ?_))
   | exact ih0 _ _ _
   | exact ih1 _ _ _
   | exact LeO.none _
   | refine LeO.ite ?_ ?_
   | refine LeO.bind ?_ (fun _ => ?_)
  ·intro y0 y1 y2
   unfold spec_l03Turn.l0
   repeat' first
   | (with_reducible exact ih0 _ _ _)
   | (with_reducible exact ih1 _ _ _)
   | (with_reducible exact LeO.refl _)
   | (with_reducible exact LeO.none _)
   | (with_reducible refine LeO.ite ?_ ?_)
   | (with_reducible refine LeO.bind ?_ (fun _ => ?_))
   | exact ih0 _ _ _
   | exact ih1 _ _ _
   | exact LeO.none _
   | refine LeO.ite ?_ ?_
   | refine LeO.bind ?_ (fun _ => ?_)
theorem spec_l03Turn.mono : ∀ a0 a1 a2 k, LeO (spec_l03Turn.f k a0 a1 a2) (spec_l03Turn.f (k + 1) a0 a1 a2) := by
 intro a0 a1 a2 k
 obtain ⟨ih0, ih1⟩ := spec_l03Turn.mono_l k
 unfold spec_l03Turn.f
 repeat' first
   | (with_reducible exact ih0 _ _ _)
   | (with_reducible exact ih1 _ _ _)
   | (with_reducible exact LeO.refl _)
   | (with_reducible exact LeO.none _)
   | (with_reducible refine LeO.ite ?_ ?_)
   | (with_reducible refine LeO.bind ?_ (fun _ => ?_))
   | exact ih0 _ _ _
   | exact ih1 _ _ _
   | exact LeO.none _
   | refine LeO.ite ?_ ?_
   | refine LeO.bind ?_ (fun _ => ?_)
set_option maxHeartbeats 8000000 in
set_option maxRecDepth 100000 in
theorem spec_l03Turn.calls (k : Nat) (a0_0 : Int) (a0_1 : Int) (a1 : Int) (r1 : Int) (r2 : Int) (w : World) (h : spec_l03Turn.f k a0_0 a0_1 a1 = some (r1, r2)) :
  Calls Try.prog 64 #[.agg #[.int .i64 a0_0, .int .i64 a0_1], .int .i64 a1] w fun e w' => e = .returned (.agg #[.int .i64 r1, .int .i64 r2]) ∧ Below w.heap.size w w' := by
 have hu49 := Try.underlying49
 have HB := Aside0.mk (Below.refl w.heap.size w)
 have H : (if a1 ≥ 4 then (spec_l03Turn.j0 k a1 (wrap64 (-a0_0)) a0_1) else (spec_l03Turn.j0 k a1 a0_0 a0_1)) = some (r1, r2) := h
 clear h
 have HC3 := Aside0.mk H
 clear H
 go_enter Try.func64, Try.ntmps64
 go_upto_if 7 with (first | ((with_reducible refine gate_dst (N := 2) rfl ?_); refine box_event ?hg (N := 2) ?hd (cs := #[.int .i64 a0_0, .int .i64 a0_1]) (t := 49) ?hr ?_; (case hd => rfl); (case hg => rfl); (case hr => first | (go_simp; done) | (go_simp; rfl)); intro gb377 hg w4 hbox hb; have n0_ := Aside0.mk (below_step (bl0_) hb); have n1_ := Aside0.mk (hbox); have n2_ := Aside0.mk ((sz_ hg (bl0_) : w.heap.size ≤ gb377)); have n3_ := Aside0.mk ((sz_ hg (bl0_) : w.heap.size ≤ gb377)); clear HB; have HB := n0_; have BK377 := n1_; have GW377 := n2_; have GE377 := n3_; clear n0_ n1_ n2_ n3_; clear hb hbox hg) | ((with_reducible refine gate_dst (N := 4) rfl ?_); refine box_event ?hg (N := 4) ?hd (cs := #[.int .i64 0, .int .i64 0]) (t := 49) ?hr ?_; (case hd => rfl); (case hg => rfl); (case hr => first | (go_simp; done) | (go_simp; rfl)); intro gb378 hg w5 hbox hb; have n0_ := Aside0.mk (blk_below (g := gb377) (o := .cells #[.int .i64 a0_0, .int .i64 a0_1] 49 (0, 0)) (bk_ BK377.out) hb); have n1_ := Aside0.mk (below_step (bl1_ GE377.out) hb); have n2_ := Aside0.mk (hbox); have n3_ := Aside0.mk ((sz_ hg (bl1_ GE377.out) : w.heap.size ≤ gb378)); have n4_ := Aside0.mk ((sz_ hg (bl1_ GE377.out) : w.heap.size ≤ gb378)); have n5_ := Aside0.mk ((by rw [hg]; exact Nat.ne_of_lt (blk_lt (g := gb377) (o := .cells #[.int .i64 a0_0, .int .i64 a0_1] 49 (0, 0)) (bk_ BK377.out)) : gb377 ≠ gb378)); have n6_ := Aside0.mk ((by rw [hg]; exact Nat.ne_of_gt (blk_lt (g := gb377) (o := .cells #[.int .i64 a0_0, .int .i64 a0_1] 49 (0, 0)) (bk_ BK377.out)) : gb378 ≠ gb377)); clear BK377; clear HB; have BK377 := n0_; have HB := n1_; have BK378 := n2_; have GW378 := n3_; have GE378 := n4_; have NB377_378 := n5_; have NB378_377 := n6_; clear n0_ n1_ n2_ n3_ n4_ n5_ n6_; clear hb hbox hg))
 (try simp only [Act.put, List.setIfInBounds_toArray, List.set_cons_zero, List.set_cons_succ])
 go_cut [] (fun wc => ∃ (kq : Nat) (x378000_2 : Int) (x378001_2 : Int), Aside0 (spec_l03Turn.j0 kq a1 x378000_2 x378001_2 = some (r1, r2)) ∧ Aside0 (kq ≤ k) ∧ Aside0 (wc.heap[gb377]? = some (.cells #[.int .i64 x378000_2, .int .i64 x378001_2] 49 (0, 0))) ∧ Aside0 (wc.heap[gb378]? = some (.cells #[.int .i64 0, .int .i64 0] 49 (0, 0))) ∧ Aside0 (Below w.heap.size w wc))
 case first =>
  have H := HC3.out
  clear HC3
  by_cases c6 : a1 ≥ 4
  ·rw [if_pos c6] at H
   have c6b0 : decide (4 ≤ a1) = true := decide_eq_true c6
   clear c6
   (first | rw [c6b0] | (simp only [i64_w, i32_w]; rw [c6b0]) | skip)
   have H' := Aside0.mk H
   clear H
   have hnb7 := NB377_378.out
   have hnc7 := NB378_377.out
   have hcz8_0 : w5.cell? ⟨gb377, 0, none⟩ = some (.int .i64 a0_0) := (blk_cell BK377.out 0).trans rfl
   have hcz8_1 : w5.cell? ⟨gb377, 1, none⟩ = some (.int .i64 a0_1) := (blk_cell BK377.out 1).trans rfl
   have hfz8_0 := blk_frozen BK377.out 0
   have hfz8_1 := blk_frozen BK377.out 1
   go_wp2
   go_meet
   case rel => exact ⟨_, (wrap64 (-a0_0)), (a0_1), H', ⟨by first | omega | exact Nat.le_refl _⟩, ⟨by (with_reducible repeat (first | refine blk_drewN ?_ _ | refine blk_drew ?_ | refine blk_alloc ?_ _)); refine blk_put (cs := #[.int .i64 (wrap64 (-a0_0)), .int .i64 a0_1]) ?_ 1 _ rfl; (with_reducible repeat (first | refine blk_drewN ?_ _ | refine blk_drew ?_ | refine blk_alloc ?_ _)); refine blk_put (cs := #[.int .i64 a0_0, .int .i64 a0_1]) ?_ 0 _ rfl; (with_reducible repeat (first | refine blk_drewN ?_ _ | refine blk_drew ?_ | refine blk_alloc ?_ _)); exact BK377.out⟩, ⟨by (with_reducible repeat (first | refine blk_drewN ?_ _ | refine blk_drew ?_ | refine blk_alloc ?_ _)); refine blk_far ?_ NB378_377.out _; (with_reducible repeat (first | refine blk_drewN ?_ _ | refine blk_drew ?_ | refine blk_alloc ?_ _)); refine blk_far ?_ NB378_377.out _; (with_reducible repeat (first | refine blk_drewN ?_ _ | refine blk_drew ?_ | refine blk_alloc ?_ _)); exact BK378.out⟩, ⟨bl2_ GE377.out GE378.out⟩⟩
  ·rw [if_neg c6] at H
   have c6b0 : decide (4 ≤ a1) = false := decide_eq_false c6
   clear c6
   (first | rw [c6b0] | (simp only [i64_w, i32_w]; rw [c6b0]) | skip)
   have H' := Aside0.mk H
   clear H
   go_wp2
   go_meet
   case rel => exact ⟨_, (a0_0), (a0_1), H', ⟨by first | omega | exact Nat.le_refl _⟩, ⟨bk_ BK377.out⟩, ⟨bk_ BK378.out⟩, ⟨bl2_ GE377.out GE378.out⟩⟩
 case rest =>
  clear HC3
  try clear p2
  try clear c6
  try clear c6b0
  try clear p6
  try clear c7
  try clear hcz8_0
  try clear hcz8_1
  try clear hfz8_0
  try clear hfz8_1
  obtain ⟨kq, x378000_2, x378001_2, HA, HJ2, BK377, BK378, HB⟩ := hcut
  cases kq with
  | zero => exact absurd HA.out (by simp [spec_l03Turn.j0])
  | succ kj2 =>
   have H := HA.out
   clear HA
   simp only [spec_l03Turn.j0] at H
   have H' := Aside0.mk H
   clear H
   go_wp2
   go_loopg [5] kj2 (fun kq v5 w' => ∃ (x5_2 : Int) (x378000_2 : Int) (x378001_2 : Int), v5 = .int .i64 x5_2 ∧ Aside0 (spec_l03Turn.l0 kq x5_2 x378000_2 x378001_2 = some (r1, r2)) ∧ Aside0 (kq ≤ kj2) ∧ Aside0 (w'.heap[gb377]? = some (.cells #[.int .i64 x378000_2, .int .i64 x378001_2] 49 (0, 0))) ∧ Aside0 (w'.heap[gb378]? = some (.cells #[.int .i64 0, .int .i64 0] 49 (0, 0))) ∧ Aside0 (Below w.heap.size w w'))
   case atStart => exact ⟨(Int.tmod a1 4), (x378000_2), (x378001_2), rs_, H', ⟨Nat.le_refl _⟩, ⟨bk_ BK377.out⟩, ⟨bk_ BK378.out⟩, ⟨bl2_ GE377.out GE378.out⟩⟩
   case round =>
    clear H'
    try clear p2
    try clear c6
    try clear c6b0
    try clear p6
    try clear c7
    try clear hcz8_0
    try clear hcz8_1
    try clear hfz8_0
    try clear hfz8_1
    try clear p2
    try clear p6
    obtain ⟨x5_2, x378000_2, x378001_2, rfl, HA, HK2, BK377, BK378, HB⟩ := hrel
    cases gk with
    | zero => exact absurd HA.out (by simp [spec_l03Turn.l0])
    | succ k2 =>
     have H := HA.out
     clear HA
     simp only [spec_l03Turn.l0] at H
     by_cases c9 : x5_2 > 0
     ·rw [if_pos c9] at H
      have c9b0 : decide (0 < x5_2) = true := decide_eq_true c9
      clear c9
      have H' := Aside0.mk H
      clear H
      have hnb10 := NB377_378.out
      have hnc10 := NB378_377.out
      have hcz11_0 : wr.cell? ⟨gb377, 0, none⟩ = some (.int .i64 x378000_2) := (blk_cell BK377.out 0).trans rfl
      have hcz11_1 : wr.cell? ⟨gb377, 1, none⟩ = some (.int .i64 x378001_2) := (blk_cell BK377.out 1).trans rfl
      have hfz11_0 := blk_frozen BK377.out 0
      have hfz11_1 := blk_frozen BK377.out 1
      go_wp2
      go_roundg k2
      case measure => have := HJ2.out; have := HK2.out; omega
      case rel => exact ⟨(wrap64 (x5_2 - 1)), (wrap64 (-x378001_2)), (x378000_2), rs_, H', ⟨by have := HJ2.out; have := HK2.out; omega⟩, ⟨by (with_reducible repeat (first | refine blk_drewN ?_ _ | refine blk_drew ?_ | refine blk_alloc ?_ _)); refine blk_put (cs := #[.int .i64 (wrap64 (-x378001_2)), .int .i64 x378001_2]) ?_ 1 _ rfl; (with_reducible repeat (first | refine blk_drewN ?_ _ | refine blk_drew ?_ | refine blk_alloc ?_ _)); refine blk_put (cs := #[.int .i64 x378000_2, .int .i64 x378001_2]) ?_ 0 _ rfl; (with_reducible repeat (first | refine blk_drewN ?_ _ | refine blk_drew ?_ | refine blk_alloc ?_ _)); exact BK377.out⟩, ⟨by (with_reducible repeat (first | refine blk_drewN ?_ _ | refine blk_drew ?_ | refine blk_alloc ?_ _)); refine blk_far ?_ NB378_377.out _; (with_reducible repeat (first | refine blk_drewN ?_ _ | refine blk_drew ?_ | refine blk_alloc ?_ _)); refine blk_far ?_ NB378_377.out _; (with_reducible repeat (first | refine blk_drewN ?_ _ | refine blk_drew ?_ | refine blk_alloc ?_ _)); exact BK378.out⟩, ⟨bl2_ GE377.out GE378.out⟩⟩
     ·rw [if_neg c9] at H
      have c9b0 : decide (0 < x5_2) = false := decide_eq_false c9
      clear c9
      simp only [Option.some.injEq, Prod.mk.injEq] at H
      obtain ⟨rfl, rfl⟩ := H
      have hnb12 := NB377_378.out
      have hnc12 := NB378_377.out
      have hcz13_0 : wr.cell? ⟨gb377, 0, none⟩ = some (.int .i64 x378000_2) := (blk_cell BK377.out 0).trans rfl
      have hcz13_1 : wr.cell? ⟨gb377, 1, none⟩ = some (.int .i64 x378001_2) := (blk_cell BK377.out 1).trans rfl
      have hfz13_0 := blk_frozen BK377.out 0
      have hfz13_1 := blk_frozen BK377.out 1
      have hcz14_0 : wr.cell? ⟨gb378, 0, none⟩ = some (.int .i64 0) := (blk_cell BK378.out 0).trans rfl
      have hcz14_1 : wr.cell? ⟨gb378, 1, none⟩ = some (.int .i64 0) := (blk_cell BK378.out 1).trans rfl
      have hfz14_0 := blk_frozen BK378.out 0
      have hfz14_1 := blk_frozen BK378.out 1
      go_wp2
      refine bodyPost_ret (results_cell_row rfl _ _ gb378 49 #[.int .i64 x378000_2, .int .i64 x378001_2] (0, 0) _ rfl (by (with_reducible repeat (first | refine blk_drewN ?_ _ | refine blk_drew ?_ | refine blk_alloc ?_ _)); refine blk_put (cs := #[.int .i64 x378000_2, .int .i64 0]) ?_ 1 _ rfl; (with_reducible repeat (first | refine blk_drewN ?_ _ | refine blk_drew ?_ | refine blk_alloc ?_ _)); refine blk_put (cs := #[.int .i64 0, .int .i64 0]) ?_ 0 _ rfl; (with_reducible repeat (first | refine blk_drewN ?_ _ | refine blk_drew ?_ | refine blk_alloc ?_ _)); exact BK378.out) Try.underlying49 rfl kr_) rfl ?_
      exact ⟨er_, bl2_ GE377.out GE378.out⟩

/-! ### spec_l03Form: function 44 -/
def spec_l03Form.l0 : Nat → List (S49) → Int → List (S49) → Int → Option ((List (S49)))
 | 0, _, _, _, _ => none
 | k + 1, x0, x1, x5, x6 => if x6 < (x0.length : Int) then (if 0 ≤ x6 then ((spec_l03Turn.f k ((rd_T49 x0 x6).f0) ((rd_T49 x0 x6).f1) x1).bind fun bt383 => (if x5.length < 8796093022208 then (spec_l03Form.l0 k x0 x1 (x5 ++ [(⟨bt383.1, bt383.2⟩ : S49)]) (wrap64 (x6 + 1))) else (none))) else (none)) else ((spec_l02Sort.f k x5).bind fun t388 => ((spec_l02Normal.f k t388).bind fun t391 => (some t391)))
def spec_l03Form.f (k : Nat) (l0 : List (S49)) (a1 : Int) : Option ((List (S49))) := spec_l03Form.l0 k l0 a1 (([] : List (S49))) 0
theorem spec_l03Form.mono_l : ∀ k, (∀ y0 y1 y2 y3, LeO (spec_l03Form.l0 k y0 y1 y2 y3) (spec_l03Form.l0 (k + 1) y0 y1 y2 y3))
 | 0 => fun _ _ _ _ r h => by simp [spec_l03Form.l0] at h
 | k + 1 => by
  have ih0 := spec_l03Form.mono_l k
  ·intro y0 y1 y2 y3
   unfold spec_l03Form.l0
   repeat' first
   | (with_reducible exact ih0 _ _ _ _)
   | (with_reducible exact spec_l02Normal.mono _ _)
   | (with_reducible exact spec_l02Sort.mono _ _)
   | (with_reducible exact spec_l03Turn.mono _ _ _ _)
   | (with_reducible exact LeO.refl _)
   | (with_reducible exact LeO.none _)
   | (with_reducible refine LeO.ite ?_ ?_)
   | (with_reducible refine LeO.bind ?_ (fun _ => ?_))
   | exact ih0 _ _ _ _
   | exact spec_l02Normal.mono _ _
   | exact spec_l02Sort.mono _ _
   | exact spec_l03Turn.mono _ _ _ _
   | exact LeO.none _
   | refine LeO.ite ?_ ?_
   | refine LeO.bind ?_ (fun _ => ?_)
theorem spec_l03Form.mono : ∀ a0 a1 k, LeO (spec_l03Form.f k a0 a1) (spec_l03Form.f (k + 1) a0 a1) := by
 intro a0 a1 k
 have ih0 := spec_l03Form.mono_l k
 unfold spec_l03Form.f
 repeat' first
   | (with_reducible exact ih0 _ _ _ _)
   | (with_reducible exact spec_l02Normal.mono _ _)
   | (with_reducible exact spec_l02Sort.mono _ _)
   | (with_reducible exact spec_l03Turn.mono _ _ _ _)
   | (with_reducible exact LeO.refl _)
   | (with_reducible exact LeO.none _)
   | (with_reducible refine LeO.ite ?_ ?_)
   | (with_reducible refine LeO.bind ?_ (fun _ => ?_))
   | exact ih0 _ _ _ _
   | exact spec_l02Normal.mono _ _
   | exact spec_l02Sort.mono _ _
   | exact spec_l03Turn.mono _ _ _ _
   | exact LeO.none _
   | refine LeO.ite ?_ ?_
   | refine LeO.bind ?_ (fun _ => ?_)
set_option maxHeartbeats 8000000 in
set_option maxRecDepth 100000 in
theorem spec_l03Form.calls (k : Nat) (A0 : Option Addr) (c0 : Nat) (l0 : List (S49)) (a1 : Int) (r : List (S49)) (w : World) (hr0 : Kd.C k49 w A0 l0.length l0) (hc0 : l0.length ≤ c0) (h : spec_l03Form.f k l0 a1 = some r) :
  Calls Try.prog 44 #[.slice A0 l0.length c0, .int .i64 a1] w fun e w' => ∃ v0_ : Value, e = .returned (v0_) ∧ Kd.R k49 49 w' w.heap.size (fun _ => True) v0_ r ∧ Below w.heap.size w w' := by
 have hu49 := Try.underlying49
 have HR0 := Aside0.mk hr0
 have HC0 := Aside0.mk hc0
 clear hr0 hc0
 have HB := Aside0.mk (Below.refl w.heap.size w)
 have H : (spec_l03Form.l0 k l0 a1 (([] : List (S49))) 0) = some r := h
 clear h
 obtain ⟨y379, hy379⟩ : ∃ y_ : List (S49), y_ = (([] : List (S49))) := ⟨_, rfl⟩
 replace H : (spec_l03Form.l0 k l0 a1 y379 0) = some r := by first | (rw [hy379]; with_reducible exact H) | (have H2_ := (Option.bind_some _ _).symm.trans H; rw [hy379]; with_reducible exact H2_) | (have H2_ := (Option.bind_some _ _).symm.trans H; with_reducible exact H2_) | with_reducible exact H | (rw [hy379]; exact H) | exact H
 have Ny379 := Aside0.mk hy379
 clear hy379
 have H' := Aside0.mk H
 clear H
 go_enter Try.func44, Try.ntmps44
 go_wp2_with (first | ((with_reducible refine gate_dst (N := 7) rfl ?_); refine Kd.R_lit k49 _ 49 ?hg (N := 7) ?hd (xs := ([] : List (S49))) (inner := []) (ok := fun _ => True) (okp := fun _ => True) ?hr ?hp (fun _ hk => hk) trivial (Below.refl _ _) (Nat.le_refl _) (by simp) ?_; (case hd => rfl); (case hg => rfl); (case hr => first | (go_simp; done) | (go_simp; rfl)); (case hp => exact (Reps.none _ _)); intro v380 w3 ho4 hb hg_ hnew_; clear hg_ hnew_; (first | rw [← Ny379.out] at ho4 | (simp only [Int.reduceToNat] at ho4; rw [← Ny379.out] at ho4)); have n0_ := Aside0.mk (Kd.R_lower ho4 (below_size (bl0_))); have n1_ := Aside0.mk (below_step (bl0_) hb); clear HB; have HO381 := n0_; have HB := n1_; clear n0_ n1_; clear hb ho4))
 go_loopg [5, 6] k (fun kq v5 v6 w' => ∃ (x5_1 : List (S49)) (x6_1 : Int), v6 = .int .i64 x6_1 ∧ Aside0 (spec_l03Form.l0 kq l0 a1 x5_1 x6_1 = some r) ∧ Aside0 (kq ≤ k) ∧ Aside0 (Kd.R k49 49 w' w.heap.size (fun _ => True) v5 x5_1) ∧ Aside0 (Below w.heap.size w w'))
 case atStart => exact ⟨(y379), (0), rs_, H', ⟨Nat.le_refl _⟩, ⟨ra_ HO381.out⟩, ⟨bl0_⟩⟩
 case round =>
  clear H'
  try clear p2
  try clear c4
  obtain ⟨x5_1, x6_1, rfl, HA, HK1, HO_5, HB⟩ := hrel
  cases gk with
  | zero => exact absurd HA.out (by simp [spec_l03Form.l0])
  | succ k1 =>
   have H := HA.out
   clear HA
   simp only [spec_l03Form.l0] at H
   by_cases c5 : x6_1 < (l0.length : Int)
   ·rw [if_pos c5] at H
    have c5b0 : decide (x6_1 < (l0.length : Int)) = true := decide_eq_true c5
    clear c5
    by_cases c6 : 0 ≤ x6_1
    ·rw [if_pos c6] at H
     have c6b0 : decide (0 ≤ x6_1) = true := decide_eq_true c6
     clear c6
     replace H := Option.bind_eq_some_iff.mp H
     obtain ⟨⟨t383, t384⟩, A70, H⟩ := H
     replace H : (if x5_1.length < 8796093022208 then (spec_l03Form.l0 k1 l0 a1 (x5_1 ++ [(⟨t383, t384⟩ : S49)]) (wrap64 (x6_1 + 1))) else (none)) = some r := H
     have A7 := Aside0.mk A70
     clear A70
     by_cases c8 : x5_1.length < 8796093022208
     ·rw [if_pos c8] at H
      have LMc8 := Aside0.mk c8
      clear c8
      obtain ⟨y385, hy385⟩ : ∃ y_ : List (S49), y_ = (x5_1 ++ [(⟨t383, t384⟩ : S49)]) := ⟨_, rfl⟩
      replace H : (spec_l03Form.l0 k1 l0 a1 y385 (wrap64 (x6_1 + 1))) = some r := by first | (rw [hy385]; with_reducible exact H) | (have H2_ := (Option.bind_some _ _).symm.trans H; rw [hy385]; with_reducible exact H2_) | (have H2_ := (Option.bind_some _ _).symm.trans H; with_reducible exact H2_) | with_reducible exact H | (rw [hy385]; exact H) | exact H
      have Ny385 := Aside0.mk hy385
      clear hy385
      have H' := Aside0.mk H
      clear H
      have p382 : 0 ≤ (x6_1 : Int) := od_
      have q382 : x6_1 < (l0.length : Int) := od_
      obtain ⟨ad382, e382, hx382_0, hx382_1⟩ := at_T49 HR0.out x6_1 p382 q382
      cases e382
      replace hx382_0 := (HB.out.cell (World.block_lt_of_cell? w _ hx382_0)).trans hx382_0
      replace hx382_1 := (HB.out.cell (World.block_lt_of_cell? w _ hx382_1)).trans hx382_1
      replace p382 := eq_true p382
      replace q382 := eq_true q382
      go_wp2_with (first | ((with_reducible refine gate_callee (f := 64) rfl ?_); refine goesL_ (some 20) rfl rfl Try.func64 kr_ rfl #[.agg #[.int .i64 ((rd_T49 l0 x6_1).f0), .int .i64 ((rd_T49 l0 x6_1).f1)], .int .i64 a1] rfl ta_ ?_; (with_reducible refine (spec_l03Turn.calls k1 ((rd_T49 l0 x6_1).f0) ((rd_T49 l0 x6_1).f1) a1 t383 t384 _ A7.out).mono ?_); rintro e w9 ⟨rfl, hb⟩; refine ⟨_, rfl, ?_⟩; have n0_ := Aside0.mk (Kd.R_below (ra_ HO_5.out) hb); have n1_ := Aside0.mk (below_step (bl0_) hb); clear HO_5; clear HB; have HO_5 := n0_; have HB := n1_; clear n0_ n1_; (try clear hb); (try clear hb2); (try clear hk); (try clear hi)) | ((with_reducible refine gate_builtin (b := .append) (xs := #[.tmp 14, .tmp 21]) rfl ?_); at_builtin; refine Kd.R_append k49 (w0 := w) w.heap.size rfl (.tmp 14) (.tmp 21) 24 49 (.agg #[(.int .i64 0), (.int .i64 0)]) 16 rfl Try.underlying24 info49 rfl (by decide) (by omega) u5 x5_1 (⟨t383, t384⟩ : S49) [.int .i64 t383, .int .i64 t384] (fun _ => True) (fun _ => False) rfl rfl ?aP (fun _ hk => hk.elim) ?aF ?aO ?aB ?aS ?aL ?_; (case aP => exact k49_mkM _ _ _ (⟨t383, t384⟩ : S49)); (case aB => exact (bl0_)); (case aF => exact (fun _ _ => trivial)); (case aO => exact (ra_ HO_5.out)); (case aS => exact (below_size (bl0_))); (case aL => have := LMc8.out; omega); intro v386 w10 ho hb hg hat; rw [← Ny385.out] at ho; have n0_ := Aside0.mk (hb); have n1_ := Aside0.mk (ho); clear HB; clear HO_5; have HB := n0_; have HO387 := n1_; clear n0_ n1_; clear ho hb hg hat))
      go_roundg k1
      case measure => have := HK1.out; omega
      case rel => exact ⟨(y385), (wrap64 (x6_1 + 1)), rs_, H', ⟨by have := HK1.out; omega⟩, ⟨ra_ HO387.out⟩, ⟨bl0_⟩⟩
     ·rw [if_neg c8] at H
      exact absurd H (by simp)
    ·rw [if_neg c6] at H
     exact absurd H (by simp)
   ·rw [if_neg c5] at H
    have c5b0 : decide (x6_1 < (l0.length : Int)) = false := decide_eq_false c5
    clear c5
    replace H := Option.bind_eq_some_iff.mp H
    obtain ⟨t388, A110, H⟩ := H
    replace H : ((spec_l02Normal.f k1 t388).bind fun t391 => (some t391)) = some r := H
    have A11 := Aside0.mk A110
    clear A110
    replace H := Option.bind_eq_some_iff.mp H
    obtain ⟨t391, A120, H⟩ := H
    replace H : (some t391) = some r := H
    have A12 := Aside0.mk A120
    clear A120
    obtain rfl := Option.some.inj H
    obtain ⟨Ao13, co13, eo13⟩ := Kd.R_slice HO_5.out
    subst eo13
    go_wp2_with (first | ((with_reducible refine gate_callee (f := 47) rfl ?_); refine goesL_ (some 24) rfl rfl Try.func47 kr_ rfl #[.slice Ao13 x5_1.length co13] rfl ta_ ?_; (with_reducible refine (spec_l02Sort.calls k1 _ _ x5_1 t388 _ ?side1 ?side2 A11.out).mono ?_); (case side1 => exact ca_ (Kd.R_reads' HO_5.out).2.2); (case side2 => exact (Kd.R_reads' HO_5.out).2.1); rintro e w14 ⟨v389, rfl, ho0, hb⟩; refine ⟨_, rfl, ?_⟩; have n0_ := Aside0.mk (Kd.R_elder' (ra_ HO_5.out) (Kd.R_base ho0) hb); have n1_ := Aside0.mk (Kd.R_lower (Kd.R_new' ho0 (Kd.R_lt (ra_ HO_5.out))) (below_size (bl0_))); have n2_ := Aside0.mk (below_step (bl0_) hb); clear HO_5; clear HB; have HO_5 := n0_; have HO390 := n1_; have HB := n2_; clear n0_ n1_ n2_; (try clear hb); (try clear hb2); (try clear hk); (try clear hi); (try clear ho0); obtain ⟨Ao15, co15, eo15⟩ := Kd.R_slice HO390.out; subst eo15) | ((with_reducible refine gate_callee (f := 42) rfl ?_); refine goesL_ (some 25) rfl rfl Try.func42 kr_ rfl #[.slice Ao15 t388.length co15] rfl ta_ ?_; (with_reducible refine (spec_l02Normal.calls k1 _ _ t388 t391 _ ?side1 ?side2 A12.out).mono ?_); (case side1 => exact ca_ (Kd.R_reads' HO390.out).2.2); (case side2 => exact (Kd.R_reads' HO390.out).2.1); rintro e w16 ⟨v392, rfl, ho0, hb⟩; refine ⟨_, rfl, ?_⟩; have n0_ := Aside0.mk (Kd.R_elder' (ra_ HO_5.out) (Kd.R_base ho0) hb); have n1_ := Aside0.mk (Kd.R_elder' (ra_ HO390.out) (Kd.R_base ho0) hb); have n2_ := Aside0.mk (Kd.R_lower (Kd.R_new' (Kd.R_new' ho0 (Kd.R_lt (ra_ HO_5.out))) (Kd.R_lt (ra_ HO390.out))) (below_size (bl0_))); have n3_ := Aside0.mk (below_step (bl0_) hb); clear HO_5; clear HO390; clear HB; have HO_5 := n0_; have HO390 := n1_; have HO393 := n2_; have HB := n3_; clear n0_ n1_ n2_ n3_; (try clear hb); (try clear hb2); (try clear hk); (try clear hi); (try clear ho0)))
    go_ret
    exact ⟨_, er_, by (with_reducible repeat (first | apply Kd.R_alloc | apply Kd.R_drewN | apply Kd.R_drew)); exact Kd.R_mono HO393.out (fun _ hk => trivial), bl0_⟩

/-! ### spec_l03Forms: function 27 -/
def spec_l03Forms.l0 : Nat → List (S49) → Int → List (List (S49)) → Int → Option ((List (List (S49))))
 | 0, _, _, _, _ => none
 | k + 1, x0, x1, x5, x6 => if x6 < x1 then ((spec_l03Form.f k x0 x6).bind fun t397 => ((spec_l03Add.f k x5 t397).bind fun t400 => (spec_l03Forms.l0 k x0 x1 t400 (wrap64 (x6 + 1))))) else (some x5)
def spec_l03Forms.f (k : Nat) (l0 : List (S49)) (a1 : Int) : Option ((List (List (S49)))) := spec_l03Forms.l0 k l0 a1 (([] : List (List (S49)))) 0
theorem spec_l03Forms.mono_l : ∀ k, (∀ y0 y1 y2 y3, LeO (spec_l03Forms.l0 k y0 y1 y2 y3) (spec_l03Forms.l0 (k + 1) y0 y1 y2 y3))
 | 0 => fun _ _ _ _ r h => by simp [spec_l03Forms.l0] at h
 | k + 1 => by
  have ih0 := spec_l03Forms.mono_l k
  ·intro y0 y1 y2 y3
   unfold spec_l03Forms.l0
   repeat' first
   | (with_reducible exact ih0 _ _ _ _)
   | (with_reducible exact spec_l03Add.mono _ _ _)
   | (with_reducible exact spec_l03Form.mono _ _ _)
   | (with_reducible exact LeO.refl _)
   | (with_reducible exact LeO.none _)
   | (with_reducible refine LeO.ite ?_ ?_)
   | (with_reducible refine LeO.bind ?_ (fun _ => ?_))
   | exact ih0 _ _ _ _
   | exact spec_l03Add.mono _ _ _
   | exact spec_l03Form.mono _ _ _
   | exact LeO.none _
   | refine LeO.ite ?_ ?_
   | refine LeO.bind ?_ (fun _ => ?_)
theorem spec_l03Forms.mono : ∀ a0 a1 k, LeO (spec_l03Forms.f k a0 a1) (spec_l03Forms.f (k + 1) a0 a1) := by
 intro a0 a1 k
 have ih0 := spec_l03Forms.mono_l k
 unfold spec_l03Forms.f
 repeat' first
   | (with_reducible exact ih0 _ _ _ _)
   | (with_reducible exact spec_l03Add.mono _ _ _)
   | (with_reducible exact spec_l03Form.mono _ _ _)
   | (with_reducible exact LeO.refl _)
   | (with_reducible exact LeO.none _)
   | (with_reducible refine LeO.ite ?_ ?_)
   | (with_reducible refine LeO.bind ?_ (fun _ => ?_))
   | exact ih0 _ _ _ _
   | exact spec_l03Add.mono _ _ _
   | exact spec_l03Form.mono _ _ _
   | exact LeO.none _
   | refine LeO.ite ?_ ?_
   | refine LeO.bind ?_ (fun _ => ?_)
set_option maxHeartbeats 8000000 in
set_option maxRecDepth 100000 in
theorem spec_l03Forms.calls (k : Nat) (A0 : Option Addr) (c0 : Nat) (l0 : List (S49)) (a1 : Int) (r : List (List (S49))) (w : World) (hr0 : Kd.C k49 w A0 l0.length l0) (hc0 : l0.length ≤ c0) (h : spec_l03Forms.f k l0 a1 = some r) :
  Calls Try.prog 27 #[.slice A0 l0.length c0, .int .i64 a1] w fun e w' => ∃ v0_ : Value, e = .returned (v0_) ∧ Kd.V (Kd.slice 49 k49) 24 w' w.heap.size (fun k_ => (w.heap.size ≤ k_)) v0_ r ∧ Below w.heap.size w w' := by
 have HR0 := Aside0.mk hr0
 have HC0 := Aside0.mk hc0
 clear hr0 hc0
 have HB := Aside0.mk (Below.refl w.heap.size w)
 have H : (spec_l03Forms.l0 k l0 a1 (([] : List (List (S49)))) 0) = some r := h
 clear h
 obtain ⟨y394, hy394⟩ : ∃ y_ : List (List (S49)), y_ = (([] : List (List (S49)))) := ⟨_, rfl⟩
 replace H : (spec_l03Forms.l0 k l0 a1 y394 0) = some r := by first | (rw [hy394]; with_reducible exact H) | (have H2_ := (Option.bind_some _ _).symm.trans H; rw [hy394]; with_reducible exact H2_) | (have H2_ := (Option.bind_some _ _).symm.trans H; with_reducible exact H2_) | with_reducible exact H | (rw [hy394]; exact H) | exact H
 have Ny394 := Aside0.mk hy394
 clear hy394
 have H' := Aside0.mk H
 clear H
 go_enter Try.func27, Try.ntmps27
 go_wp2_with (first | ((with_reducible refine gate_dst (N := 7) rfl ?_); refine Kd.S_lit (Kd.slice 49 k49) _ 24 ?hg (N := 7) ?hd (xs := ([] : List (List (S49)))) (inner := []) (ok := fun _ => True) (okp := fun _ => True) ?hr ?hp (fun _ hk => hk) trivial (Below.refl _ _) (Nat.le_refl _) (by simp) ?_; (case hd => rfl); (case hg => rfl); (case hr => first | (go_simp; done) | (go_simp; rfl)); (case hp => exact (Reps.none _ _)); intro v395 w3 ho4 hb hg_ hnew_; clear hg_ hnew_; (first | rw [← Ny394.out] at ho4 | (simp only [Int.reduceToNat] at ho4; rw [← Ny394.out] at ho4)); have n0_ := Aside0.mk (Kd.S_lower (Kd.S_newM (M := fun k_ => (w.heap.size ≤ k_)) ho4 (below_size (bl0_)) (fun k_ h_ => h_)) (below_size (bl0_))); have n1_ := Aside0.mk (below_step (bl0_) hb); clear HB; have HO396 := n0_; have HB := n1_; clear n0_ n1_; clear hb ho4))
 go_loopg [5, 6] k (fun kq v5 v6 w' => ∃ (x5_1 : List (List (S49))) (x6_1 : Int), v6 = .int .i64 x6_1 ∧ Aside0 (spec_l03Forms.l0 kq l0 a1 x5_1 x6_1 = some r) ∧ Aside0 (kq ≤ k) ∧ Aside0 (Kd.V (Kd.slice 49 k49) 24 w' w.heap.size (fun k_ => (w.heap.size ≤ k_)) v5 x5_1) ∧ Aside0 (Below w.heap.size w w'))
 case atStart => exact ⟨(y394), (0), rs_, H', ⟨Nat.le_refl _⟩, ⟨Kd.S_V (by (with_reducible repeat (first | apply Kd.S_alloc | apply Kd.S_drewN | apply Kd.S_drew)); exact Kd.S_mono HO396.out (fun _ hk => hk.1))⟩, ⟨bl0_⟩⟩
 case round =>
  clear H'
  try clear c2
  try clear p2
  obtain ⟨x5_1, x6_1, rfl, HA, HK1, HO_5, HB⟩ := hrel
  cases gk with
  | zero => exact absurd HA.out (by simp [spec_l03Forms.l0])
  | succ k1 =>
   have H := HA.out
   clear HA
   simp only [spec_l03Forms.l0] at H
   by_cases c5 : x6_1 < a1
   ·rw [if_pos c5] at H
    have c5b0 : decide (x6_1 < a1) = true := decide_eq_true c5
    clear c5
    replace H := Option.bind_eq_some_iff.mp H
    obtain ⟨t397, A60, H⟩ := H
    replace H : ((spec_l03Add.f k1 x5_1 t397).bind fun t400 => (spec_l03Forms.l0 k1 l0 a1 t400 (wrap64 (x6_1 + 1)))) = some r := H
    have A6 := Aside0.mk A60
    clear A60
    replace H := Option.bind_eq_some_iff.mp H
    obtain ⟨t400, A70, H⟩ := H
    replace H : (spec_l03Forms.l0 k1 l0 a1 t400 (wrap64 (x6_1 + 1))) = some r := H
    have A7 := Aside0.mk A70
    clear A70
    have H' := Aside0.mk H
    clear H
    go_wp2_with (first | ((with_reducible refine gate_callee (f := 44) rfl ?_); refine goesL_ (some 16) rfl rfl Try.func44 kr_ rfl #[.slice A0 l0.length c0, .int .i64 x6_1] rfl ta_ ?_; (with_reducible refine (spec_l03Form.calls k1 _ _ l0 x6_1 t397 _ ?side1 ?side2 A6.out).mono ?_); (case side1 => exact ca_ (Kd.C_below HR0.out HB.out)); (case side2 => exact HC0.out); rintro e w8 ⟨v398, rfl, ho0, hb⟩; refine ⟨_, rfl, ?_⟩; have n0_ := Aside0.mk (Kd.V_elder' (by (with_reducible repeat (first | apply Kd.V_alloc | apply Kd.V_drewN | apply Kd.V_drew)); exact HO_5.out) (Kd.R_base ho0) hb); have n1_ := Aside0.mk (Kd.R_lower (Kd.R_newM (M := fun k_ => (w.heap.size ≤ k_)) ho0 (below_size (bl0_)) (fun k_ h_ => h_)) (below_size (bl0_))); have n2_ := Aside0.mk (below_step (bl0_) hb); clear HO_5; clear HB; have HO_5 := n0_; have HO399 := n1_; have HB := n2_; clear n0_ n1_ n2_; (try clear hb); (try clear hb2); (try clear hk); (try clear hi); (try clear ho0); obtain ⟨Ao9, co9, eo9⟩ := Kd.V_slice HO_5.out; subst eo9; obtain ⟨Ao10, co10, eo10⟩ := Kd.R_slice HO399.out; subst eo10) | ((with_reducible refine gate_callee (f := 43) rfl ?_); refine goesL_ (some 17) rfl rfl Try.func43 kr_ rfl #[.slice Ao9 x5_1.length co9, .slice Ao10 t397.length co10] rfl ta_ ?_; (with_reducible refine (spec_l03Add.calls k1 (fun k_ => ((w.heap.size ≤ k_) ∧ some k_ ≠ (.slice Ao10 t397.length co10 : Value).ownBlock)) _ _ x5_1 (fun k_ => some k_ = (.slice Ao10 t397.length co10 : Value).ownBlock) _ _ t397 t400 _ ?side1 ?side2 A7.out).mono ?_); (case side1 => exact HO_5.out); (case side2 => exact Kd.R_V (Kd.R_tight rfl (HO399.out))); rintro e w11 ⟨v401, rfl, ho0, hb⟩; refine ⟨_, rfl, ?_⟩; have n0_ := Aside0.mk (Kd.V_below (by (with_reducible repeat (first | apply Kd.V_alloc | apply Kd.V_drewN | apply Kd.V_drew)); exact HO_5.out) hb); have n1_ := Aside0.mk (Kd.R_below (ra_ HO399.out) hb); have n2_ := Aside0.mk (Kd.V_lower (Kd.V_mono (ok' := fun k_ => (w.heap.size ≤ k_)) ho0 (fun k_ hk_ => Or.elim hk_ (fun hs_ => Or.elim hs_ (fun hs_ => hs_.1) (fun hs_ => ((HO399.out).1 k_ hs_.symm).1)) (fun hn_ => (Nat.le_trans (below_size (bl0_)) hn_)))) (below_size (bl0_))); have n3_ := Aside0.mk (below_step (bl0_) hb); clear HO_5; clear HO399; clear HB; have HO_5 := n0_; have HO399 := n1_; have HO402 := n2_; have HB := n3_; clear n0_ n1_ n2_ n3_; (try clear hb); (try clear hb2); (try clear hk); (try clear hi); (try clear ho0)))
    go_roundg k1
    case measure => have := HK1.out; omega
    case rel => exact ⟨(t400), (wrap64 (x6_1 + 1)), rs_, H', ⟨by have := HK1.out; omega⟩, ⟨by (with_reducible repeat (first | apply Kd.V_alloc | apply Kd.V_drewN | apply Kd.V_drew)); exact HO402.out⟩, ⟨bl0_⟩⟩
   ·rw [if_neg c5] at H
    have c5b0 : decide (x6_1 < a1) = false := decide_eq_false c5
    clear c5
    obtain rfl := Option.some.inj H
    go_wp2
    go_ret
    exact ⟨_, er_, by (with_reducible repeat (first | apply Kd.V_alloc | apply Kd.V_drewN | apply Kd.V_drew)); exact HO_5.out, bl0_⟩

/-! ### spec_OneSidedForm: function 8 -/
def spec_OneSidedForm.f (k : Nat) (l0 : List (S49)) : Option ((List (S49)) × Int) := (spec_l03Code.f k l0).bind fun t403 => (if t403 = 0 then ((spec_l03Forms.f k l0 4).bind fun t404 => (if 0 < (t404.length : Int) then (some (rd_L3 t404 0, 0)) else (none))) else (some (([] : List (S49)), t403)))
theorem spec_OneSidedForm.mono : ∀ a0 k, LeO (spec_OneSidedForm.f k a0) (spec_OneSidedForm.f (k + 1) a0) := by
 intro a0 k
 unfold spec_OneSidedForm.f
 repeat' first
   | (with_reducible exact spec_l03Code.mono _ _)
   | (with_reducible exact spec_l03Forms.mono _ _ _)
   | (with_reducible exact LeO.refl _)
   | (with_reducible exact LeO.none _)
   | (with_reducible refine LeO.ite ?_ ?_)
   | (with_reducible refine LeO.bind ?_ (fun _ => ?_))
   | exact spec_l03Code.mono _ _
   | exact spec_l03Forms.mono _ _ _
   | exact LeO.none _
   | refine LeO.ite ?_ ?_
   | refine LeO.bind ?_ (fun _ => ?_)
set_option maxHeartbeats 8000000 in
set_option maxRecDepth 100000 in
theorem spec_OneSidedForm.calls (k : Nat) (A0 : Option Addr) (c0 : Nat) (l0 : List (S49)) (r1 : List (S49)) (r2 : Int) (w : World) (hr0 : Kd.C k49 w A0 l0.length l0) (hc0 : l0.length ≤ c0) (h : spec_OneSidedForm.f k l0 = some (r1, r2)) :
  Calls Try.prog 8 #[.slice A0 l0.length c0] w fun e w' => ∃ v0_ : Value, e = .returned (.tuple #[v0_, .int .i64 r2]) ∧ Kd.V k49 49 w' w.heap.size (fun k_ => (w.heap.size ≤ k_)) v0_ r1 ∧ Below w.heap.size w w' := by
 have HR0 := Aside0.mk hr0
 have HC0 := Aside0.mk hc0
 clear hr0 hc0
 have HB := Aside0.mk (Below.refl w.heap.size w)
 have H : ((spec_l03Code.f k l0).bind fun t403 => (if t403 = 0 then ((spec_l03Forms.f k l0 4).bind fun t404 => (if 0 < (t404.length : Int) then (some (rd_L3 t404 0, 0)) else (none))) else (some (([] : List (S49)), t403)))) = some (r1, r2) := h
 clear h
 replace H := Option.bind_eq_some_iff.mp H
 obtain ⟨t403, A20, H⟩ := H
 replace H : (if t403 = 0 then ((spec_l03Forms.f k l0 4).bind fun t404 => (if 0 < (t404.length : Int) then (some (rd_L3 t404 0, 0)) else (none))) else (some (([] : List (S49)), t403))) = some (r1, r2) := H
 have A2 := Aside0.mk A20
 clear A20
 by_cases c3 : t403 = 0
 ·rw [if_pos c3] at H
  have c3b0 : (t403 == 0) = true := beq_iff_eq.mpr c3
  have c3b1 : (t403 != 0) = false := bne_eq_false_iff_eq.mpr c3
  clear c3
  replace H := Option.bind_eq_some_iff.mp H
  obtain ⟨t404, A40, H⟩ := H
  replace H : (if 0 < (t404.length : Int) then (some (rd_L3 t404 0, 0)) else (none)) = some (r1, r2) := H
  have A4 := Aside0.mk A40
  clear A40
  by_cases c5 : 0 < (t404.length : Int)
  ·rw [if_pos c5] at H
   have c5b0 : decide (0 < (t404.length : Int)) = true := decide_eq_true c5
   have c5b1 : decide (0 < t404.length) = true := decide_eq_true (by omega)
   clear c5
   simp only [Option.some.injEq, Prod.mk.injEq] at H
   obtain ⟨rfl, rfl⟩ := H
   go_enter Try.func8, Try.ntmps8
   go_wp2_with (first | ((with_reducible refine gate_callee (f := 26) rfl ?_); refine goesL_ (some 6) rfl rfl Try.func26 kr_ rfl #[.slice A0 l0.length c0] rfl ta_ ?_; (with_reducible refine (spec_l03Code.calls k _ _ l0 t403 _ ?side1 ?side2 A2.out).mono ?_); (case side1 => exact ca_ HR0.out); (case side2 => exact HC0.out); rintro e w6 ⟨rfl, hb⟩; refine ⟨_, rfl, ?_⟩; have n0_ := Aside0.mk (below_step (bl0_) hb); clear HB; have HB := n0_; clear n0_; (try clear hb); (try clear hb2); (try clear hk); (try clear hi)) | ((with_reducible refine gate_callee (f := 27) rfl ?_); refine goesL_ (some 11) rfl rfl Try.func27 kr_ rfl #[.slice A0 l0.length c0, .int .i64 4] rfl ta_ ?_; (with_reducible refine (spec_l03Forms.calls k _ _ l0 4 t404 _ ?side1 ?side2 A4.out).mono ?_); (case side1 => exact ca_ (Kd.C_below HR0.out HB.out)); (case side2 => exact HC0.out); rintro e w7 ⟨v405, rfl, ho0, hb⟩; refine ⟨_, rfl, ?_⟩; have n0_ := Aside0.mk (Kd.V_lower (Kd.V_mono (ok' := fun k_ => (w.heap.size ≤ k_)) ho0 (fun k_ hk_ => (Nat.le_trans (below_size (bl0_)) hk_))) (below_size (bl0_))); have n1_ := Aside0.mk (below_step (bl0_) hb); clear HB; have HO406 := n0_; have HB := n1_; clear n0_ n1_; (try clear hb); (try clear hb2); (try clear hk); (try clear hi); (try clear ho0); obtain ⟨Ao8, co8, eo8⟩ := Kd.V_slice HO406.out; subst eo8; have p407 : 0 ≤ (0 : Int) := (by omega); have q407 : 0 < (t404.length : Int) := od_; obtain ⟨ad407, A407_0, c407_0, e407, hx407_0, hl407_0, hi407_0⟩ := at_L3 (Kd.V_reads' HO406.out).2.2 0 p407 q407; cases e407; obtain ⟨ce407, hce407, hMe407, hcc407⟩ := Kd.V_get HO406.out [] 0 p407 (by first | exact q407 | exact od_ | (have e_ := (Kd.V_reads' HO406.out).1; omega)); obtain ⟨ua407_0, uc407_0, rfl, ul407_0, ge407_0⟩ := Kd.FK_slice_open hMe407; have hv407_0 := hcc407 0 _ rfl; rw [Nat.add_zero, show ((Kd.slice 49 k49)).sz = 1 from rfl, Nat.mul_one] at hv407_0; replace hv407_0 := Option.some.inj (hv407_0.symm.trans hx407_0); injection hv407_0 with hva_ hvn_ hvc_; rw [hva_] at ge407_0; rw [hvc_] at ul407_0; have HL407_0 := Aside0.mk (show Kd.V k49 49 _ w.heap.size _ _ (rd_L3 t404 0) from Kd.V_mk ul407_0 ge407_0); clear hva_ hvn_ hvc_ ge407_0 ul407_0; clear hcc407 hce407; have qi407 : (0 < t404.length) = True := eq_true (by omega); (try rw [show ((0 : Int)).toNat = 0 from rfl] at hx407_0); (try rw [Addr.add_zero'] at hx407_0); have HR407_0 := Aside0.mk hi407_0; have HC407_0 := Aside0.mk hl407_0; clear hi407_0 hl407_0; replace p407 := eq_true p407; replace q407 := eq_true q407))
   go_ret2
   exact ⟨_, er_, by (with_reducible repeat (first | apply Kd.V_alloc | apply Kd.V_drewN | apply Kd.V_drew)); exact HL407_0.out, bl0_⟩
  ·rw [if_neg c5] at H
   exact absurd H (by simp)
 ·rw [if_neg c3] at H
  have c3b0 : (t403 == 0) = false := beq_eq_false_iff_ne.mpr c3
  have c3b1 : (t403 != 0) = true := bne_iff_ne.mpr c3
  simp only [Option.some.injEq, Prod.mk.injEq] at H
  obtain ⟨rfl, rfl⟩ := H
  go_enter Try.func8, Try.ntmps8
  go_wp2_with (first | ((with_reducible refine gate_callee (f := 26) rfl ?_); refine goesL_ (some 6) rfl rfl Try.func26 kr_ rfl #[.slice A0 l0.length c0] rfl ta_ ?_; (with_reducible refine (spec_l03Code.calls k _ _ l0 t403 _ ?side1 ?side2 A2.out).mono ?_); (case side1 => exact ca_ HR0.out); (case side2 => exact HC0.out); rintro e w9 ⟨rfl, hb⟩; refine ⟨_, rfl, ?_⟩; have n0_ := Aside0.mk (below_step (bl0_) hb); clear HB; have HB := n0_; clear n0_; (try clear hb); (try clear hb2); (try clear hk); (try clear hi)))
  go_ret2
  exact ⟨_, er_, Kd.R_V (Kd.R_nil _ _ _ 0 _), bl0_⟩

/-! ### impl_FreeForm: function 9 -/
def impl_FreeForm.f (k : Nat) (l0 : List (S49)) : Option ((List (S49)) × Int) := (impl_shapeCode.f k l0).bind fun t408 => (if t408 = 0 then ((impl_freeForm.f k l0).bind fun t409 => (some (t409, 0))) else (some (([] : List (S49)), t408)))
theorem impl_FreeForm.mono : ∀ a0 k, LeO (impl_FreeForm.f k a0) (impl_FreeForm.f (k + 1) a0) := by
 intro a0 k
 unfold impl_FreeForm.f
 repeat' first
   | (with_reducible exact impl_freeForm.mono _ _)
   | (with_reducible exact impl_shapeCode.mono _ _)
   | (with_reducible exact LeO.refl _)
   | (with_reducible exact LeO.none _)
   | (with_reducible refine LeO.ite ?_ ?_)
   | (with_reducible refine LeO.bind ?_ (fun _ => ?_))
   | exact impl_freeForm.mono _ _
   | exact impl_shapeCode.mono _ _
   | exact LeO.none _
   | refine LeO.ite ?_ ?_
   | refine LeO.bind ?_ (fun _ => ?_)
set_option maxHeartbeats 8000000 in
set_option maxRecDepth 100000 in
theorem impl_FreeForm.calls (k : Nat) (A0 : Option Addr) (c0 : Nat) (l0 : List (S49)) (r1 : List (S49)) (r2 : Int) (w : World) (hr0 : Kd.C k49 w A0 l0.length l0) (hc0 : l0.length ≤ c0) (h : impl_FreeForm.f k l0 = some (r1, r2)) :
  Calls Try.prog 9 #[.slice A0 l0.length c0] w fun e w' => ∃ v0_ : Value, e = .returned (.tuple #[v0_, .int .i64 r2]) ∧ Kd.R k49 49 w' w.heap.size (fun _ => True) v0_ r1 ∧ Below w.heap.size w w' := by
 have HR0 := Aside0.mk hr0
 have HC0 := Aside0.mk hc0
 clear hr0 hc0
 have HB := Aside0.mk (Below.refl w.heap.size w)
 have H : ((impl_shapeCode.f k l0).bind fun t408 => (if t408 = 0 then ((impl_freeForm.f k l0).bind fun t409 => (some (t409, 0))) else (some (([] : List (S49)), t408)))) = some (r1, r2) := h
 clear h
 replace H := Option.bind_eq_some_iff.mp H
 obtain ⟨t408, A20, H⟩ := H
 replace H : (if t408 = 0 then ((impl_freeForm.f k l0).bind fun t409 => (some (t409, 0))) else (some (([] : List (S49)), t408))) = some (r1, r2) := H
 have A2 := Aside0.mk A20
 clear A20
 by_cases c3 : t408 = 0
 ·rw [if_pos c3] at H
  have c3b0 : (t408 == 0) = true := beq_iff_eq.mpr c3
  have c3b1 : (t408 != 0) = false := bne_eq_false_iff_eq.mpr c3
  clear c3
  replace H := Option.bind_eq_some_iff.mp H
  obtain ⟨t409, A40, H⟩ := H
  replace H : (some (t409, 0)) = some (r1, r2) := H
  have A4 := Aside0.mk A40
  clear A40
  simp only [Option.some.injEq, Prod.mk.injEq] at H
  obtain ⟨rfl, rfl⟩ := H
  go_enter Try.func9, Try.ntmps9
  go_wp2_with (first | ((with_reducible refine gate_callee (f := 23) rfl ?_); refine goesL_ (some 6) rfl rfl Try.func23 kr_ rfl #[.slice A0 l0.length c0] rfl ta_ ?_; (with_reducible refine (impl_shapeCode.calls k _ _ l0 t408 _ ?side1 ?side2 A2.out).mono ?_); (case side1 => exact ca_ HR0.out); (case side2 => exact HC0.out); rintro e w5 ⟨rfl, hb⟩; refine ⟨_, rfl, ?_⟩; have n0_ := Aside0.mk (below_step (bl0_) hb); clear HB; have HB := n0_; clear n0_; (try clear hb); (try clear hb2); (try clear hk); (try clear hi)) | ((with_reducible refine gate_callee (f := 28) rfl ?_); refine goesL_ (some 11) rfl rfl Try.func28 kr_ rfl #[.slice A0 l0.length c0] rfl ta_ ?_; (with_reducible refine (impl_freeForm.calls k _ _ l0 t409 _ ?side1 ?side2 A4.out).mono ?_); (case side1 => exact ca_ (Kd.C_below HR0.out HB.out)); (case side2 => exact HC0.out); rintro e w6 ⟨v410, rfl, ho0, hb⟩; refine ⟨_, rfl, ?_⟩; have n0_ := Aside0.mk (Kd.R_lower ho0 (below_size (bl0_))); have n1_ := Aside0.mk (below_step (bl0_) hb); clear HB; have HO411 := n0_; have HB := n1_; clear n0_ n1_; (try clear hb); (try clear hb2); (try clear hk); (try clear hi); (try clear ho0)))
  go_ret2
  exact ⟨_, er_, ra_ HO411.out, bl0_⟩
 ·rw [if_neg c3] at H
  have c3b0 : (t408 == 0) = false := beq_eq_false_iff_ne.mpr c3
  have c3b1 : (t408 != 0) = true := bne_iff_ne.mpr c3
  simp only [Option.some.injEq, Prod.mk.injEq] at H
  obtain ⟨rfl, rfl⟩ := H
  go_enter Try.func9, Try.ntmps9
  go_wp2_with (first | ((with_reducible refine gate_callee (f := 23) rfl ?_); refine goesL_ (some 6) rfl rfl Try.func23 kr_ rfl #[.slice A0 l0.length c0] rfl ta_ ?_; (with_reducible refine (impl_shapeCode.calls k _ _ l0 t408 _ ?side1 ?side2 A2.out).mono ?_); (case side1 => exact ca_ HR0.out); (case side2 => exact HC0.out); rintro e w7 ⟨rfl, hb⟩; refine ⟨_, rfl, ?_⟩; have n0_ := Aside0.mk (below_step (bl0_) hb); clear HB; have HB := n0_; clear n0_; (try clear hb); (try clear hb2); (try clear hk); (try clear hi)))
  go_ret2
  exact ⟨_, er_, by first | exact Kd.R_nil _ _ _ _ _ | exact Kd.N_nil _ _ _ _ _ | exact Kd.V_nil _ _ _ _ _ | exact Kd.Q_nil _ _ _ _ _ | exact Kd.S_nil _ _ _ _ _, bl0_⟩

/-! ### spec_FreeForm: function 10 -/
def spec_FreeForm.f (k : Nat) (l0 : List (S49)) : Option ((List (S49)) × Int) := (spec_l03Code.f k l0).bind fun t412 => (if t412 = 0 then ((spec_l03Forms.f k l0 8).bind fun t413 => (if 0 < (t413.length : Int) then (some (rd_L3 t413 0, 0)) else (none))) else (some (([] : List (S49)), t412)))
theorem spec_FreeForm.mono : ∀ a0 k, LeO (spec_FreeForm.f k a0) (spec_FreeForm.f (k + 1) a0) := by
 intro a0 k
 unfold spec_FreeForm.f
 repeat' first
   | (with_reducible exact spec_l03Code.mono _ _)
   | (with_reducible exact spec_l03Forms.mono _ _ _)
   | (with_reducible exact LeO.refl _)
   | (with_reducible exact LeO.none _)
   | (with_reducible refine LeO.ite ?_ ?_)
   | (with_reducible refine LeO.bind ?_ (fun _ => ?_))
   | exact spec_l03Code.mono _ _
   | exact spec_l03Forms.mono _ _ _
   | exact LeO.none _
   | refine LeO.ite ?_ ?_
   | refine LeO.bind ?_ (fun _ => ?_)
set_option maxHeartbeats 8000000 in
set_option maxRecDepth 100000 in
theorem spec_FreeForm.calls (k : Nat) (A0 : Option Addr) (c0 : Nat) (l0 : List (S49)) (r1 : List (S49)) (r2 : Int) (w : World) (hr0 : Kd.C k49 w A0 l0.length l0) (hc0 : l0.length ≤ c0) (h : spec_FreeForm.f k l0 = some (r1, r2)) :
  Calls Try.prog 10 #[.slice A0 l0.length c0] w fun e w' => ∃ v0_ : Value, e = .returned (.tuple #[v0_, .int .i64 r2]) ∧ Kd.V k49 49 w' w.heap.size (fun k_ => (w.heap.size ≤ k_)) v0_ r1 ∧ Below w.heap.size w w' := by
 have HR0 := Aside0.mk hr0
 have HC0 := Aside0.mk hc0
 clear hr0 hc0
 have HB := Aside0.mk (Below.refl w.heap.size w)
 have H : ((spec_l03Code.f k l0).bind fun t412 => (if t412 = 0 then ((spec_l03Forms.f k l0 8).bind fun t413 => (if 0 < (t413.length : Int) then (some (rd_L3 t413 0, 0)) else (none))) else (some (([] : List (S49)), t412)))) = some (r1, r2) := h
 clear h
 replace H := Option.bind_eq_some_iff.mp H
 obtain ⟨t412, A20, H⟩ := H
 replace H : (if t412 = 0 then ((spec_l03Forms.f k l0 8).bind fun t413 => (if 0 < (t413.length : Int) then (some (rd_L3 t413 0, 0)) else (none))) else (some (([] : List (S49)), t412))) = some (r1, r2) := H
 have A2 := Aside0.mk A20
 clear A20
 by_cases c3 : t412 = 0
 ·rw [if_pos c3] at H
  have c3b0 : (t412 == 0) = true := beq_iff_eq.mpr c3
  have c3b1 : (t412 != 0) = false := bne_eq_false_iff_eq.mpr c3
  clear c3
  replace H := Option.bind_eq_some_iff.mp H
  obtain ⟨t413, A40, H⟩ := H
  replace H : (if 0 < (t413.length : Int) then (some (rd_L3 t413 0, 0)) else (none)) = some (r1, r2) := H
  have A4 := Aside0.mk A40
  clear A40
  by_cases c5 : 0 < (t413.length : Int)
  ·rw [if_pos c5] at H
   have c5b0 : decide (0 < (t413.length : Int)) = true := decide_eq_true c5
   have c5b1 : decide (0 < t413.length) = true := decide_eq_true (by omega)
   clear c5
   simp only [Option.some.injEq, Prod.mk.injEq] at H
   obtain ⟨rfl, rfl⟩ := H
   go_enter Try.func10, Try.ntmps10
   go_wp2_with (first | ((with_reducible refine gate_callee (f := 26) rfl ?_); refine goesL_ (some 6) rfl rfl Try.func26 kr_ rfl #[.slice A0 l0.length c0] rfl ta_ ?_; (with_reducible refine (spec_l03Code.calls k _ _ l0 t412 _ ?side1 ?side2 A2.out).mono ?_); (case side1 => exact ca_ HR0.out); (case side2 => exact HC0.out); rintro e w6 ⟨rfl, hb⟩; refine ⟨_, rfl, ?_⟩; have n0_ := Aside0.mk (below_step (bl0_) hb); clear HB; have HB := n0_; clear n0_; (try clear hb); (try clear hb2); (try clear hk); (try clear hi)) | ((with_reducible refine gate_callee (f := 27) rfl ?_); refine goesL_ (some 11) rfl rfl Try.func27 kr_ rfl #[.slice A0 l0.length c0, .int .i64 8] rfl ta_ ?_; (with_reducible refine (spec_l03Forms.calls k _ _ l0 8 t413 _ ?side1 ?side2 A4.out).mono ?_); (case side1 => exact ca_ (Kd.C_below HR0.out HB.out)); (case side2 => exact HC0.out); rintro e w7 ⟨v414, rfl, ho0, hb⟩; refine ⟨_, rfl, ?_⟩; have n0_ := Aside0.mk (Kd.V_lower (Kd.V_mono (ok' := fun k_ => (w.heap.size ≤ k_)) ho0 (fun k_ hk_ => (Nat.le_trans (below_size (bl0_)) hk_))) (below_size (bl0_))); have n1_ := Aside0.mk (below_step (bl0_) hb); clear HB; have HO415 := n0_; have HB := n1_; clear n0_ n1_; (try clear hb); (try clear hb2); (try clear hk); (try clear hi); (try clear ho0); obtain ⟨Ao8, co8, eo8⟩ := Kd.V_slice HO415.out; subst eo8; have p416 : 0 ≤ (0 : Int) := (by omega); have q416 : 0 < (t413.length : Int) := od_; obtain ⟨ad416, A416_0, c416_0, e416, hx416_0, hl416_0, hi416_0⟩ := at_L3 (Kd.V_reads' HO415.out).2.2 0 p416 q416; cases e416; obtain ⟨ce416, hce416, hMe416, hcc416⟩ := Kd.V_get HO415.out [] 0 p416 (by first | exact q416 | exact od_ | (have e_ := (Kd.V_reads' HO415.out).1; omega)); obtain ⟨ua416_0, uc416_0, rfl, ul416_0, ge416_0⟩ := Kd.FK_slice_open hMe416; have hv416_0 := hcc416 0 _ rfl; rw [Nat.add_zero, show ((Kd.slice 49 k49)).sz = 1 from rfl, Nat.mul_one] at hv416_0; replace hv416_0 := Option.some.inj (hv416_0.symm.trans hx416_0); injection hv416_0 with hva_ hvn_ hvc_; rw [hva_] at ge416_0; rw [hvc_] at ul416_0; have HL416_0 := Aside0.mk (show Kd.V k49 49 _ w.heap.size _ _ (rd_L3 t413 0) from Kd.V_mk ul416_0 ge416_0); clear hva_ hvn_ hvc_ ge416_0 ul416_0; clear hcc416 hce416; have qi416 : (0 < t413.length) = True := eq_true (by omega); (try rw [show ((0 : Int)).toNat = 0 from rfl] at hx416_0); (try rw [Addr.add_zero'] at hx416_0); have HR416_0 := Aside0.mk hi416_0; have HC416_0 := Aside0.mk hl416_0; clear hi416_0 hl416_0; replace p416 := eq_true p416; replace q416 := eq_true q416))
   go_ret2
   exact ⟨_, er_, by (with_reducible repeat (first | apply Kd.V_alloc | apply Kd.V_drewN | apply Kd.V_drew)); exact HL416_0.out, bl0_⟩
  ·rw [if_neg c5] at H
   exact absurd H (by simp)
 ·rw [if_neg c3] at H
  have c3b0 : (t412 == 0) = false := beq_eq_false_iff_ne.mpr c3
  have c3b1 : (t412 != 0) = true := bne_iff_ne.mpr c3
  simp only [Option.some.injEq, Prod.mk.injEq] at H
  obtain ⟨rfl, rfl⟩ := H
  go_enter Try.func10, Try.ntmps10
  go_wp2_with (first | ((with_reducible refine gate_callee (f := 26) rfl ?_); refine goesL_ (some 6) rfl rfl Try.func26 kr_ rfl #[.slice A0 l0.length c0] rfl ta_ ?_; (with_reducible refine (spec_l03Code.calls k _ _ l0 t412 _ ?side1 ?side2 A2.out).mono ?_); (case side1 => exact ca_ HR0.out); (case side2 => exact HC0.out); rintro e w9 ⟨rfl, hb⟩; refine ⟨_, rfl, ?_⟩; have n0_ := Aside0.mk (below_step (bl0_) hb); clear HB; have HB := n0_; clear n0_; (try clear hb); (try clear hb2); (try clear hk); (try clear hi)))
  go_ret2
  exact ⟨_, er_, Kd.R_V (Kd.R_nil _ _ _ 0 _), bl0_⟩

end Go.Proofs.Ytaaodakmelihaaa.PFnOneSided
