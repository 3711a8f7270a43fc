/- Over the kit's printer by a driver of mine (hprint.py), with parts by hand: functions of the program as Lean functions, and that each call comes to exactly these answers. -/
import Derived.Test.YtmdjkmfocgelnaaGreatDoorPFnAllNetsx0
import Derived.Test.YtmdjkmfocgelnaaGreatDoorPFnAllNetsx7
import Derived.Test.YtmdjkmfocgelnaaGreatDoorPFnAllNetsx8
import Derived.Test.YtmdjkmfocgelnaaGreatDoorPFnAllNetsx9
import Derived.Test.YtmdjkmfocgelnaaGreatDoorPFnAllNetsx10
namespace Go.Proofs.YtmdjkmfocgelnaaGreatDoor.PFnAllNets
open Go.RowKit Go.Proofs.YtmdjkmfocgelnaaGreatDoorW.PrintWords Go.Proofs.YtmdjkmfocgelnaaGreatDoorW.PrintLast Go.Proofs.YtmdjkmfocgelnaaGreatDoorW.PrintMore
attribute [local go_sem] max2_int min2_int max_two min_two max_three min_three max_four min_four   
set_option linter.unusedVariables false
set_option linter.unusedSimpArgs false
def spec_l03Add.l0 : Nat → List (List (S56)) → List (S56) → List (List (S56)) → Bool → Int → Option ((List (List (S56))))
 | 0, _, _, _, _, _ => none
 | k + 1, x0, x1, x5, x6, x7 => if x7 < (x0.length : Int) then (if 0 ≤ x7 then ((spec_CompareShapes.f k x1 (rd_L4 x0 x7)).bind fun t305 => (if t305 = 0 then (some x0) else (if t305 < 0 then (if x6 = true then (if x5.length < 5864062014805 then (spec_l03Add.l0 k x0 x1 (x5 ++ [rd_L4 x0 x7]) x6 (wrap64 (x7 + 1))) else (none)) else (if x5.length < 5864062014805 then ((some (x5 ++ [x1] : List (List (S56)))).bind fun y310 => (if y310.length < 5864062014805 then (spec_l03Add.l0 k x0 x1 (y310 ++ [rd_L4 x0 x7]) true (wrap64 (x7 + 1))) else (none))) else (none))) else (if x5.length < 5864062014805 then (spec_l03Add.l0 k x0 x1 (x5 ++ [rd_L4 x0 x7]) x6 (wrap64 (x7 + 1))) else (none))))) else (none)) else (if x6 = true then (some x5) else (if x5.length < 5864062014805 then (some (x5 ++ [x1])) else (none)))
def spec_l03Add.f (k : Nat) (l0 : List (List (S56))) (l1 : List (S56)) : Option ((List (List (S56)))) := spec_l03Add.l0 k l0 l1 (([] : List (List (S56)))) false 0
set_option maxHeartbeats 8000000 in
set_option maxRecDepth 100000 in
theorem spec_l03Add.calls (k : Nat) (P0_ : Nat → Prop) (A0 : Option Addr) (c0 : Nat) (l0 : List (List (S56))) (P1_ : Nat → Prop) (A1 : Option Addr) (c1 : Nat) (l1 : List (S56)) (r : List (List (S56))) (w : World) (hs0 : Kd.V (Kd.slice 56 k56) 29 w w.heap.size (fun k_ => P0_ k_) (.slice A0 l0.length c0) l0) (hs1 : Kd.V k56 56 w w.heap.size (fun k_ => P1_ k_) (.slice A1 l1.length c1) l1) (h : spec_l03Add.f k l0 l1 = some r) :
  Calls Tryz.prog 71 #[.slice A0 l0.length c0, .slice A1 l1.length c1] w fun e w' => ∃ v0_ : Value, e = .returned (v0_) ∧ Kd.V (Kd.slice 56 k56) 29 w' w.heap.size (fun k_ => ((P0_ k_ ∨ P1_ k_) ∨ w.heap.size ≤ k_)) v0_ r ∧ Below w.heap.size w w' := by
 have HO0 := a0_ (show Kd.V (Kd.slice 56 k56) 29 w w.heap.size (fun k_ => ((P0_ k_ ∨ P1_ k_) ∨ w.heap.size ≤ k_)) (.slice A0 l0.length c0) l0 from Kd.V_mono hs0 (fun k_ hk => .inl (.inl hk)))
 have HO1 := a0_ (show Kd.V k56 56 w w.heap.size (fun k_ => ((P0_ k_ ∨ P1_ k_) ∨ w.heap.size ≤ k_)) (.slice A1 l1.length c1) l1 from Kd.V_mono hs1 (fun k_ hk => .inl (.inr hk)))
 have HB := a0_ (Below.refl w.heap.size w)
 have H : (spec_l03Add.l0 k l0 l1 (([] : List (List (S56)))) false 0) = some r := h
 clear h
 obtain ⟨y298, hy298⟩ : ∃ y_ : List (List (S56)), y_ = (([] : List (List (S56)))) := ⟨_, rfl⟩
 replace H : (spec_l03Add.l0 k l0 l1 y298 false 0) = some r := hh_ hy298 H
 have Ny298 := Aside0.mk hy298
 clear hy298
 have H' := Aside0.mk H
 clear H
 go_enter Tryz.func71, Tryz.ntmps71
 go_wp2_with (first | ((with_reducible refine gate_dst (N := 9) rfl ?_); refine Kd.N_lit (Kd.slice 56 k56) _ 29 ?hg (N' := 9) ?hd (xs := ([] : List (List (S56)))) (inner := []) (ok := (fun k_ => ((P0_ k_ ∨ P1_ k_) ∨ w.heap.size ≤ k_))) (okp := (fun k_ => ((P0_ k_ ∨ P1_ k_) ∨ w.heap.size ≤ k_))) ?hr ?hp (fun _ hk => hk) ((show ∀ k_, w.heap.size ≤ k_ → (fun k_ => ((P0_ k_ ∨ P1_ k_) ∨ w.heap.size ≤ k_)) k_ from fun k_ hk => (.inr (Nat.le_trans (below_size (bl0_)) hk))) _ (Nat.le_refl _)) (Below.refl _ _) (Nat.le_refl _) (by simp) ?_; (case hd => rfl); (case hg => rfl); (case hr => first | (go_simp; done) | (go_simp; rfl)); (case hp => exact (Reps.none _ _)); intro v299 w3 ho4 hb hg_ hnew_; clear hg_ hnew_; (first | rw [← Ny298.out] at ho4 | (simp only [Int.reduceToNat] at ho4; rw [← Ny298.out] at ho4)); replace HO0 := a0_ (Kd.V_elder' (va_ HO0.out) (Kd.N_base ho4) hb); replace HO1 := a0_ (Kd.V_elder' (va_ HO1.out) (Kd.N_base ho4) hb); have HO300 := a0_ (Kd.N_lower ho4 (below_size (bl0_))); replace HB := a0_ (below_step (bl0_) hb); clear hb ho4))
 go_loopg [5, 6, 7] k (fun kq v5 v6 v7 w' => ∃ (x5_1 : List (List (S56))) (x6_1 : Bool) (x7_1 : Int), v6 = .bool x6_1 ∧ v7 = .int .i64 x7_1 ∧ Aside0 (spec_l03Add.l0 kq l0 l1 x5_1 x6_1 x7_1 = some r) ∧ Aside0 (kq ≤ k) ∧ Aside0 (Kd.V (Kd.slice 56 k56) 29 w' w.heap.size (fun k_ => ((P0_ k_ ∨ P1_ k_) ∨ w.heap.size ≤ k_) ∧ some k_ ≠ (v5 : Value).ownBlock) (.slice A0 l0.length c0) l0) ∧ Aside0 (Kd.V k56 56 w' w.heap.size (fun k_ => ((P0_ k_ ∨ P1_ k_) ∨ w.heap.size ≤ k_) ∧ some k_ ≠ (v5 : Value).ownBlock) (.slice A1 l1.length c1) l1) ∧ Aside0 (Kd.N (Kd.slice 56 k56) 29 w' w.heap.size (fun k_ => ((P0_ k_ ∨ P1_ k_) ∨ w.heap.size ≤ k_)) v5 x5_1) ∧ Aside0 (Below w.heap.size w w'))
 case atStart => exact ⟨(y298), (false), (0), rs_, rs_, H', ⟨Nat.le_refl _⟩, ⟨va_ HO0.out⟩, ⟨va_ HO1.out⟩, ⟨na_ HO300.out⟩, ⟨bl0_⟩⟩
 case round =>
  clear H'
  try clear c1
  obtain ⟨x5_1, x6_1, x7_1, rfl, rfl, HA, HK1, HO_0, HO_1, HO_5, HB⟩ := hrel
  cases gk with
  | zero => exact absurd HA.out (by simp [spec_l03Add.l0])
  | succ k1 =>
   have H := HA.out
   clear HA
   simp only [spec_l03Add.l0] at H
   by_cases c5 : x7_1 < (l0.length : Int)
   ·rw [if_pos c5] at H
    have c5b0 : decide (x7_1 < (l0.length : Int)) = true := decide_eq_true c5
    clear c5
    by_cases c6 : 0 ≤ x7_1
    ·rw [if_pos c6] at H
     have c6b0 : decide (0 ≤ x7_1) = true := decide_eq_true c6
     clear c6
     obtain ⟨t305, A7, H⟩ := bs_ H
     by_cases c8 : t305 = 0
     ·rw [if_pos c8] at H
      have c8b0 : (t305 == 0) = true := beq_iff_eq.mpr c8
      have c8b1 : (t305 != 0) = false := bne_eq_false_iff_eq.mpr c8
      clear c8
      obtain rfl := Option.some.inj H
      have p304 : 0 ≤ (x7_1 : Int) := od_
      have q304 : x7_1 < (l0.length : Int) := od_
      obtain ⟨ad304, A304_0, c304_0, e304, hx304_0, hl304_0, hi304_0⟩ := at_L4 (Kd.V_reads' HO_0.out).2.2 x7_1 p304 q304
      cases e304
      obtain ⟨ce304, hce304, hMe304, hcc304⟩ := Kd.V_get HO_0.out [] x7_1 p304 (by first | exact q304 | exact od_ | (have e_ := (Kd.V_reads' HO_0.out).1; omega))
      obtain ⟨ua304_0, uc304_0, rfl, ul304_0, ge304_0⟩ := Kd.FK_slice_open hMe304
      have hv304_0 := hcc304 0 _ rfl
      rw [Nat.add_zero, show ((Kd.slice 56 k56)).sz = 1 from rfl, Nat.mul_one] at hv304_0
      replace hv304_0 := Option.some.inj (hv304_0.symm.trans hx304_0)
      injection hv304_0 with hva_ hvn_ hvc_
      rw [hva_] at ge304_0
      rw [hvc_] at ul304_0
      have HL304_0 := a0_ (show Kd.V k56 56 _ w.heap.size _ _ (rd_L4 l0 x7_1) from Kd.V_mk ul304_0 ge304_0)
      clear hva_ hvn_ hvc_ ge304_0 ul304_0
      clear hcc304 hce304
      have HR304_0 := Aside0.mk hi304_0
      have HC304_0 := Aside0.mk hl304_0
      clear hi304_0 hl304_0
      replace p304 := eq_true p304
      replace q304 := eq_true q304
      go_wp2_with (first | ((with_reducible refine gate_callee (f := 37) rfl ?_); refine goesL_ (some 21) rfl rfl Tryz.func37 kr_ rfl #[.slice A1 l1.length c1, .slice A304_0 (rd_L4 l0 x7_1).length c304_0] rfl ta_ ?_; (with_reducible refine (spec_CompareShapes.calls k1 _ _ l1 _ _ (rd_L4 l0 x7_1) t305 _ ?side1 ?side2 ?side3 ?side4 A7.out).mono ?_); (case side1 => exact ca_ (Kd.V_reads' HO_1.out).2.2); (case side2 => exact (Kd.V_reads' HO_1.out).2.1); (case side3 => exact ca_ HR304_0.out); (case side4 => exact HC304_0.out); rintro e w9 ⟨rfl, hb⟩; refine ⟨_, rfl, ?_⟩; replace HO_0 := a0_ (Kd.V_below (va_ HO_0.out) hb); replace HO_1 := a0_ (Kd.V_below (va_ HO_1.out) hb); replace HO_5 := a0_ (Kd.N_below (na_ HO_5.out) hb); replace HL304_0 := a0_ (Kd.V_below (va_ HL304_0.out) hb); replace HR304_0 := a0_ (Kd.C_below (ca_ HR304_0.out) hb); replace HB := a0_ (below_step (bl0_) hb); (try clear hb)))
      go_ret
      exact ⟨_, er_, by (with_reducible repeat (first | apply Kd.V_alloc | apply Kd.V_drewN | apply Kd.V_drew)); exact Kd.V_mono HO_0.out (fun _ hk => hk.1), bl0_⟩
     ·rw [if_neg c8] at H
      have c8b0 : (t305 == 0) = false := beq_eq_false_iff_ne.mpr c8
      have c8b1 : (t305 != 0) = true := bne_iff_ne.mpr c8
      by_cases c10 : t305 < 0
      ·rw [if_pos c10] at H
       have c10b0 : decide (t305 < 0) = true := decide_eq_true c10
       clear c10
       by_cases c11 : x6_1 = true
       ·subst c11
        rw [if_pos rfl] at H
        by_cases c12 : x5_1.length < 5864062014805
        ·rw [if_pos c12] at H
         have LMc12 := Aside0.mk c12
         clear c12
         obtain ⟨y307, hy307⟩ : ∃ y_ : List (List (S56)), y_ = (x5_1 ++ [rd_L4 l0 x7_1]) := ⟨_, rfl⟩
         replace H : (spec_l03Add.l0 k1 l0 l1 y307 true (wrap64 (x7_1 + 1))) = some r := hh_ hy307 H
         have Ny307 := Aside0.mk hy307
         clear hy307
         have H' := Aside0.mk H
         clear H
         have p304 : 0 ≤ (x7_1 : Int) := od_
         have q304 : x7_1 < (l0.length : Int) := od_
         obtain ⟨ad304, A304_0, c304_0, e304, hx304_0, hl304_0, hi304_0⟩ := at_L4 (Kd.V_reads' HO_0.out).2.2 x7_1 p304 q304
         cases e304
         obtain ⟨ce304, hce304, hMe304, hcc304⟩ := Kd.V_get HO_0.out [] x7_1 p304 (by first | exact q304 | exact od_ | (have e_ := (Kd.V_reads' HO_0.out).1; omega))
         obtain ⟨ua304_0, uc304_0, rfl, ul304_0, ge304_0⟩ := Kd.FK_slice_open hMe304
         have hv304_0 := hcc304 0 _ rfl
         rw [Nat.add_zero, show ((Kd.slice 56 k56)).sz = 1 from rfl, Nat.mul_one] at hv304_0
         replace hv304_0 := Option.some.inj (hv304_0.symm.trans hx304_0)
         injection hv304_0 with hva_ hvn_ hvc_
         rw [hva_] at ge304_0
         rw [hvc_] at ul304_0
         have HL304_0 := a0_ (show Kd.V k56 56 _ w.heap.size _ _ (rd_L4 l0 x7_1) from Kd.V_mk ul304_0 ge304_0)
         clear hva_ hvn_ hvc_ ge304_0 ul304_0
         clear hcc304 hce304
         have HR304_0 := Aside0.mk hi304_0
         have HC304_0 := Aside0.mk hl304_0
         clear hi304_0 hl304_0
         replace p304 := eq_true p304
         replace q304 := eq_true q304
         go_wp2_with (first | ((with_reducible refine gate_callee (f := 37) rfl ?_); refine goesL_ (some 21) rfl rfl Tryz.func37 kr_ rfl #[.slice A1 l1.length c1, .slice A304_0 (rd_L4 l0 x7_1).length c304_0] rfl ta_ ?_; (with_reducible refine (spec_CompareShapes.calls k1 _ _ l1 _ _ (rd_L4 l0 x7_1) t305 _ ?side1 ?side2 ?side3 ?side4 A7.out).mono ?_); (case side1 => exact ca_ (Kd.V_reads' HO_1.out).2.2); (case side2 => exact (Kd.V_reads' HO_1.out).2.1); (case side3 => exact ca_ HR304_0.out); (case side4 => exact HC304_0.out); rintro e w13 ⟨rfl, hb⟩; refine ⟨_, rfl, ?_⟩; replace HO_0 := a0_ (Kd.V_below (va_ HO_0.out) hb); replace HO_1 := a0_ (Kd.V_below (va_ HO_1.out) hb); replace HO_5 := a0_ (Kd.N_below (na_ HO_5.out) hb); replace HL304_0 := a0_ (Kd.V_below (va_ HL304_0.out) hb); replace HR304_0 := a0_ (Kd.C_below (ca_ HR304_0.out) hb); replace HB := a0_ (below_step (bl0_) hb); (try clear hb); have p306 : 0 ≤ (x7_1 : Int) := od_; have q306 : x7_1 < (l0.length : Int) := od_; obtain ⟨ad306, A306_0, c306_0, e306, hx306_0, hl306_0, hi306_0⟩ := at_L4 (Kd.V_reads' HO_0.out).2.2 x7_1 p306 q306; obtain rfl : ad304 = ad306 := (by injection e306); obtain ⟨ce306, hce306, hMe306, hcc306⟩ := Kd.V_get HO_0.out [] x7_1 p306 (by first | exact q306 | exact od_ | (have e_ := (Kd.V_reads' HO_0.out).1; omega)); obtain ⟨ua306_0, uc306_0, rfl, ul306_0, ge306_0⟩ := Kd.FK_slice_open hMe306; have hv306_0 := hcc306 0 _ rfl; rw [Nat.add_zero, show ((Kd.slice 56 k56)).sz = 1 from rfl, Nat.mul_one] at hv306_0; replace hv306_0 := Option.some.inj (hv306_0.symm.trans hx306_0); injection hv306_0 with hva_ hvn_ hvc_; rw [hva_] at ge306_0; rw [hvc_] at ul306_0; have HL306_0 := a0_ (show Kd.V k56 56 _ w.heap.size _ _ (rd_L4 l0 x7_1) from Kd.V_mk ul306_0 ge306_0); clear hva_ hvn_ hvc_ ge306_0 ul306_0; clear hcc306 hce306; have HR306_0 := Aside0.mk hi306_0; have HC306_0 := Aside0.mk hl306_0; clear hi306_0 hl306_0; replace p306 := eq_true p306; replace q306 := eq_true q306) | ((with_reducible refine gate_builtin (b := .append) (xs := #[.tmp 35, .tmp 40]) rfl ?_); at_builtin; refine Kd.N_append (Kd.slice 56 k56) (w0 := w) w.heap.size rfl (.tmp 35) (.tmp 40) 22 29 (.slice none 0 0) 24 rfl Tryz.underlying22 info29 rfl (by decide) (by omega) u5 x5_1 (rd_L4 l0 x7_1) [.slice A306_0 (rd_L4 l0 x7_1).length c306_0] (fun k_ => ((P0_ k_ ∨ P1_ k_) ∨ w.heap.size ≤ k_)) (fun k_ => ((fun k_ => ((P0_ k_ ∨ P1_ k_) ∨ w.heap.size ≤ k_))) k_ ∧ some k_ ≠ (u5 : Value).ownBlock) rfl rfl ?aP (fun _ hk => hk) ?aF ?aO ?aB ?aS ?aL ?_; (case aP => exact (Kd.FK_slice_mk (Kd.V_reads' (Kd.V_mono (ok' := (fun k_ => ((fun k_ => ((P0_ k_ ∨ P1_ k_) ∨ w.heap.size ≤ k_))) k_ ∧ some k_ ≠ (u5 : Value).ownBlock)) (HL306_0.out) (fun k_ hk => ⟨hk.1, hk.2⟩))).2.1 (Kd.V_F (Kd.V_mono (ok' := (fun k_ => ((fun k_ => ((P0_ k_ ∨ P1_ k_) ∨ w.heap.size ≤ k_))) k_ ∧ some k_ ≠ (u5 : Value).ownBlock)) (HL306_0.out) (fun k_ hk => ⟨hk.1, hk.2⟩))))); (case aB => exact (bl0_)); (case aF => exact (fun k_ hk => (.inr (Nat.le_trans (below_size (bl0_)) hk)))); (case aO => exact (na_ HO_5.out)); (case aS => exact (below_size (bl0_))); (case aL => have := LMc12.out; omega); intro v308 w14 ho hb hg hat; rw [← Ny307.out] at ho; replace HO_0 := a0_ (Kd.V_afterv (ok := (fun k_ => ((P0_ k_ ∨ P1_ k_) ∨ w.heap.size ≤ k_))) (va_ HO_0.out) hg hat); replace HO_1 := a0_ (Kd.V_afterv (ok := (fun k_ => ((P0_ k_ ∨ P1_ k_) ∨ w.heap.size ≤ k_))) (va_ HO_1.out) hg hat); replace HL304_0 := a0_ (Kd.V_afterv (ok := (fun k_ => ((P0_ k_ ∨ P1_ k_) ∨ w.heap.size ≤ k_))) (va_ HL304_0.out) hg hat); replace HL306_0 := a0_ (Kd.V_afterv (ok := (fun k_ => ((P0_ k_ ∨ P1_ k_) ∨ w.heap.size ≤ k_))) (va_ HL306_0.out) hg hat); replace HB := a0_ (hb); have HO309 := a0_ (ho); clear HO_5; clear ho hb hg hat))
         go_roundg k1
         case measure => have := HK1.out; omega
         case rel => exact ⟨(y307), (true), (wrap64 (x7_1 + 1)), rs_, rs_, H', ⟨by have := HK1.out; omega⟩, ⟨va_ HO_0.out⟩, ⟨va_ HO_1.out⟩, ⟨na_ HO309.out⟩, ⟨bl0_⟩⟩
        ·rw [if_neg c12] at H
         exact absurd H (by simp)
       ·replace c11 := Bool.eq_false_iff.mpr c11
        subst c11
        rw [if_neg (show ¬ (false = true) by decide)] at H
        by_cases c15 : x5_1.length < 5864062014805
        ·rw [if_pos c15] at H
         have LMc15 := Aside0.mk c15
         clear c15
         obtain ⟨y310, hy310⟩ : ∃ y_ : List (List (S56)), y_ = (x5_1 ++ [l1]) := ⟨_, rfl⟩
         replace H : (if y310.length < 5864062014805 then (spec_l03Add.l0 k1 l0 l1 (y310 ++ [rd_L4 l0 x7_1]) true (wrap64 (x7_1 + 1))) else (none)) = some r := hh_ hy310 H
         have Ny310 := Aside0.mk hy310
         clear hy310
         by_cases c16 : y310.length < 5864062014805
         ·rw [if_pos c16] at H
          have LMc16 := Aside0.mk c16
          clear c16
          obtain ⟨y314, hy314⟩ : ∃ y_ : List (List (S56)), y_ = (y310 ++ [rd_L4 l0 x7_1]) := ⟨_, rfl⟩
          replace H : (spec_l03Add.l0 k1 l0 l1 y314 true (wrap64 (x7_1 + 1))) = some r := hh_ hy314 H
          have Ny314 := Aside0.mk hy314
          clear hy314
          have H' := Aside0.mk H
          clear H
          have p304 : 0 ≤ (x7_1 : Int) := od_
          have q304 : x7_1 < (l0.length : Int) := od_
          obtain ⟨ad304, A304_0, c304_0, e304, hx304_0, hl304_0, hi304_0⟩ := at_L4 (Kd.V_reads' HO_0.out).2.2 x7_1 p304 q304
          cases e304
          obtain ⟨ce304, hce304, hMe304, hcc304⟩ := Kd.V_get HO_0.out [] x7_1 p304 (by first | exact q304 | exact od_ | (have e_ := (Kd.V_reads' HO_0.out).1; omega))
          obtain ⟨ua304_0, uc304_0, rfl, ul304_0, ge304_0⟩ := Kd.FK_slice_open hMe304
          have hv304_0 := hcc304 0 _ rfl
          rw [Nat.add_zero, show ((Kd.slice 56 k56)).sz = 1 from rfl, Nat.mul_one] at hv304_0
          replace hv304_0 := Option.some.inj (hv304_0.symm.trans hx304_0)
          injection hv304_0 with hva_ hvn_ hvc_
          rw [hva_] at ge304_0
          rw [hvc_] at ul304_0
          have HL304_0 := a0_ (show Kd.V k56 56 _ w.heap.size _ _ (rd_L4 l0 x7_1) from Kd.V_mk ul304_0 ge304_0)
          clear hva_ hvn_ hvc_ ge304_0 ul304_0
          clear hcc304 hce304
          have HR304_0 := Aside0.mk hi304_0
          have HC304_0 := Aside0.mk hl304_0
          clear hi304_0 hl304_0
          replace p304 := eq_true p304
          replace q304 := eq_true q304
          go_wp2_with (first | ((with_reducible refine gate_callee (f := 37) rfl ?_); refine goesL_ (some 21) rfl rfl Tryz.func37 kr_ rfl #[.slice A1 l1.length c1, .slice A304_0 (rd_L4 l0 x7_1).length c304_0] rfl ta_ ?_; (with_reducible refine (spec_CompareShapes.calls k1 _ _ l1 _ _ (rd_L4 l0 x7_1) t305 _ ?side1 ?side2 ?side3 ?side4 A7.out).mono ?_); (case side1 => exact ca_ (Kd.V_reads' HO_1.out).2.2); (case side2 => exact (Kd.V_reads' HO_1.out).2.1); (case side3 => exact ca_ HR304_0.out); (case side4 => exact HC304_0.out); rintro e w17 ⟨rfl, hb⟩; refine ⟨_, rfl, ?_⟩; replace HO_0 := a0_ (Kd.V_below (va_ HO_0.out) hb); replace HO_1 := a0_ (Kd.V_below (va_ HO_1.out) hb); replace HO_5 := a0_ (Kd.N_below (na_ HO_5.out) hb); replace HL304_0 := a0_ (Kd.V_below (va_ HL304_0.out) hb); replace HR304_0 := a0_ (Kd.C_below (ca_ HR304_0.out) hb); replace HB := a0_ (below_step (bl0_) hb); (try clear hb)) | ((with_reducible refine gate_builtin (b := .append) (xs := #[.tmp 31, .tmp 33]) rfl ?_); at_builtin; refine Kd.N_append (Kd.slice 56 k56) (w0 := w) w.heap.size rfl (.tmp 31) (.tmp 33) 22 29 (.slice none 0 0) 24 rfl Tryz.underlying22 info29 rfl (by decide) (by omega) u5 x5_1 l1 [.slice A1 l1.length c1] (fun k_ => ((P0_ k_ ∨ P1_ k_) ∨ w.heap.size ≤ k_)) (fun k_ => ((fun k_ => ((P0_ k_ ∨ P1_ k_) ∨ w.heap.size ≤ k_))) k_ ∧ some k_ ≠ (u5 : Value).ownBlock) rfl rfl ?aP (fun _ hk => hk) ?aF ?aO ?aB ?aS ?aL ?_; (case aP => exact (Kd.FK_slice_mk (Kd.V_reads' (Kd.V_mono (ok' := (fun k_ => ((fun k_ => ((P0_ k_ ∨ P1_ k_) ∨ w.heap.size ≤ k_))) k_ ∧ some k_ ≠ (u5 : Value).ownBlock)) (HO_1.out) (fun k_ hk => ⟨hk.1, hk.2⟩))).2.1 (Kd.V_F (Kd.V_mono (ok' := (fun k_ => ((fun k_ => ((P0_ k_ ∨ P1_ k_) ∨ w.heap.size ≤ k_))) k_ ∧ some k_ ≠ (u5 : Value).ownBlock)) (HO_1.out) (fun k_ hk => ⟨hk.1, hk.2⟩))))); (case aB => exact (bl0_)); (case aF => exact (fun k_ hk => (.inr (Nat.le_trans (below_size (bl0_)) hk)))); (case aO => exact (na_ HO_5.out)); (case aS => exact (below_size (bl0_))); (case aL => have := LMc15.out; omega); intro v311 w18 ho hb hg hat; rw [← Ny310.out] at ho; replace HO_0 := a0_ (Kd.V_afterv (ok := (fun k_ => ((P0_ k_ ∨ P1_ k_) ∨ w.heap.size ≤ k_))) (va_ HO_0.out) hg hat); replace HO_1 := a0_ (Kd.V_afterv (ok := (fun k_ => ((P0_ k_ ∨ P1_ k_) ∨ w.heap.size ≤ k_))) (va_ HO_1.out) hg hat); replace HL304_0 := a0_ (Kd.V_afterv (ok := (fun k_ => ((P0_ k_ ∨ P1_ k_) ∨ w.heap.size ≤ k_))) (va_ HL304_0.out) hg hat); replace HB := a0_ (hb); have HO312 := a0_ (ho); clear HO_5; clear ho hb hg hat; have p313 : 0 ≤ (x7_1 : Int) := od_; have q313 : x7_1 < (l0.length : Int) := od_; obtain ⟨ad313, A313_0, c313_0, e313, hx313_0, hl313_0, hi313_0⟩ := at_L4 (Kd.V_reads' HO_0.out).2.2 x7_1 p313 q313; obtain rfl : ad304 = ad313 := (by injection e313); obtain ⟨ce313, hce313, hMe313, hcc313⟩ := Kd.V_get HO_0.out [] x7_1 p313 (by first | exact q313 | exact od_ | (have e_ := (Kd.V_reads' HO_0.out).1; omega)); obtain ⟨ua313_0, uc313_0, rfl, ul313_0, ge313_0⟩ := Kd.FK_slice_open hMe313; have hv313_0 := hcc313 0 _ rfl; rw [Nat.add_zero, show ((Kd.slice 56 k56)).sz = 1 from rfl, Nat.mul_one] at hv313_0; replace hv313_0 := Option.some.inj (hv313_0.symm.trans hx313_0); injection hv313_0 with hva_ hvn_ hvc_; rw [hva_] at ge313_0; rw [hvc_] at ul313_0; have HL313_0 := a0_ (show Kd.V k56 56 _ w.heap.size _ _ (rd_L4 l0 x7_1) from Kd.V_mk ul313_0 ge313_0); clear hva_ hvn_ hvc_ ge313_0 ul313_0; clear hcc313 hce313; have HR313_0 := Aside0.mk hi313_0; have HC313_0 := Aside0.mk hl313_0; clear hi313_0 hl313_0; replace p313 := eq_true p313; replace q313 := eq_true q313) | ((with_reducible refine gate_builtin (b := .append) (xs := #[.tmp 35, .tmp 40]) rfl ?_); at_builtin; refine Kd.N_append (Kd.slice 56 k56) (w0 := w) w.heap.size rfl (.tmp 35) (.tmp 40) 22 29 (.slice none 0 0) 24 rfl Tryz.underlying22 info29 rfl (by decide) (by omega) v311 y310 (rd_L4 l0 x7_1) [.slice A313_0 (rd_L4 l0 x7_1).length c313_0] (fun k_ => ((P0_ k_ ∨ P1_ k_) ∨ w.heap.size ≤ k_)) (fun k_ => ((fun k_ => ((P0_ k_ ∨ P1_ k_) ∨ w.heap.size ≤ k_))) k_ ∧ some k_ ≠ (v311 : Value).ownBlock) rfl rfl ?aP (fun _ hk => hk) ?aF ?aO ?aB ?aS ?aL ?_; (case aP => exact (Kd.FK_slice_mk (Kd.V_reads' (Kd.V_mono (ok' := (fun k_ => ((fun k_ => ((P0_ k_ ∨ P1_ k_) ∨ w.heap.size ≤ k_))) k_ ∧ some k_ ≠ (v311 : Value).ownBlock)) (HL313_0.out) (fun k_ hk => ⟨hk.1, hk.2⟩))).2.1 (Kd.V_F (Kd.V_mono (ok' := (fun k_ => ((fun k_ => ((P0_ k_ ∨ P1_ k_) ∨ w.heap.size ≤ k_))) k_ ∧ some k_ ≠ (v311 : Value).ownBlock)) (HL313_0.out) (fun k_ hk => ⟨hk.1, hk.2⟩))))); (case aB => exact (bl0_)); (case aF => exact (fun k_ hk => (.inr (Nat.le_trans (below_size (bl0_)) hk)))); (case aO => exact (na_ HO312.out)); (case aS => exact (below_size (bl0_))); (case aL => have := LMc16.out; omega); intro v315 w19 ho hb hg hat; rw [← Ny314.out] at ho; replace HO_0 := a0_ (Kd.V_afterv (ok := (fun k_ => ((P0_ k_ ∨ P1_ k_) ∨ w.heap.size ≤ k_))) (va_ HO_0.out) hg hat); replace HO_1 := a0_ (Kd.V_afterv (ok := (fun k_ => ((P0_ k_ ∨ P1_ k_) ∨ w.heap.size ≤ k_))) (va_ HO_1.out) hg hat); replace HL304_0 := a0_ (Kd.V_afterv (ok := (fun k_ => ((P0_ k_ ∨ P1_ k_) ∨ w.heap.size ≤ k_))) (va_ HL304_0.out) hg hat); replace HL313_0 := a0_ (Kd.V_afterv (ok := (fun k_ => ((P0_ k_ ∨ P1_ k_) ∨ w.heap.size ≤ k_))) (va_ HL313_0.out) hg hat); replace HB := a0_ (hb); have HO316 := a0_ (ho); clear HO312; clear ho hb hg hat))
          go_roundg k1
          case measure => have := HK1.out; omega
          case rel => exact ⟨(y314), (true), (wrap64 (x7_1 + 1)), rs_, rs_, H', ⟨by have := HK1.out; omega⟩, ⟨va_ HO_0.out⟩, ⟨va_ HO_1.out⟩, ⟨na_ HO316.out⟩, ⟨bl0_⟩⟩
         ·rw [if_neg c16] at H
          exact absurd H (by simp)
        ·rw [if_neg c15] at H
         exact absurd H (by simp)
      ·rw [if_neg c10] at H
       have c10b0 : decide (t305 < 0) = false := decide_eq_false c10
       clear c10
       by_cases c20 : x5_1.length < 5864062014805
       ·rw [if_pos c20] at H
        have LMc20 := Aside0.mk c20
        clear c20
        obtain ⟨y318, hy318⟩ : ∃ y_ : List (List (S56)), y_ = (x5_1 ++ [rd_L4 l0 x7_1]) := ⟨_, rfl⟩
        replace H : (spec_l03Add.l0 k1 l0 l1 y318 x6_1 (wrap64 (x7_1 + 1))) = some r := hh_ hy318 H
        have Ny318 := Aside0.mk hy318
        clear hy318
        have H' := Aside0.mk H
        clear H
        have p304 : 0 ≤ (x7_1 : Int) := od_
        have q304 : x7_1 < (l0.length : Int) := od_
        obtain ⟨ad304, A304_0, c304_0, e304, hx304_0, hl304_0, hi304_0⟩ := at_L4 (Kd.V_reads' HO_0.out).2.2 x7_1 p304 q304
        cases e304
        obtain ⟨ce304, hce304, hMe304, hcc304⟩ := Kd.V_get HO_0.out [] x7_1 p304 (by first | exact q304 | exact od_ | (have e_ := (Kd.V_reads' HO_0.out).1; omega))
        obtain ⟨ua304_0, uc304_0, rfl, ul304_0, ge304_0⟩ := Kd.FK_slice_open hMe304
        have hv304_0 := hcc304 0 _ rfl
        rw [Nat.add_zero, show ((Kd.slice 56 k56)).sz = 1 from rfl, Nat.mul_one] at hv304_0
        replace hv304_0 := Option.some.inj (hv304_0.symm.trans hx304_0)
        injection hv304_0 with hva_ hvn_ hvc_
        rw [hva_] at ge304_0
        rw [hvc_] at ul304_0
        have HL304_0 := a0_ (show Kd.V k56 56 _ w.heap.size _ _ (rd_L4 l0 x7_1) from Kd.V_mk ul304_0 ge304_0)
        clear hva_ hvn_ hvc_ ge304_0 ul304_0
        clear hcc304 hce304
        have HR304_0 := Aside0.mk hi304_0
        have HC304_0 := Aside0.mk hl304_0
        clear hi304_0 hl304_0
        replace p304 := eq_true p304
        replace q304 := eq_true q304
        go_wp2_with (first | ((with_reducible refine gate_callee (f := 37) rfl ?_); refine goesL_ (some 21) rfl rfl Tryz.func37 kr_ rfl #[.slice A1 l1.length c1, .slice A304_0 (rd_L4 l0 x7_1).length c304_0] rfl ta_ ?_; (with_reducible refine (spec_CompareShapes.calls k1 _ _ l1 _ _ (rd_L4 l0 x7_1) t305 _ ?side1 ?side2 ?side3 ?side4 A7.out).mono ?_); (case side1 => exact ca_ (Kd.V_reads' HO_1.out).2.2); (case side2 => exact (Kd.V_reads' HO_1.out).2.1); (case side3 => exact ca_ HR304_0.out); (case side4 => exact HC304_0.out); rintro e w21 ⟨rfl, hb⟩; refine ⟨_, rfl, ?_⟩; replace HO_0 := a0_ (Kd.V_below (va_ HO_0.out) hb); replace HO_1 := a0_ (Kd.V_below (va_ HO_1.out) hb); replace HO_5 := a0_ (Kd.N_below (na_ HO_5.out) hb); replace HL304_0 := a0_ (Kd.V_below (va_ HL304_0.out) hb); replace HR304_0 := a0_ (Kd.C_below (ca_ HR304_0.out) hb); replace HB := a0_ (below_step (bl0_) hb); (try clear hb); have p317 : 0 ≤ (x7_1 : Int) := od_; have q317 : x7_1 < (l0.length : Int) := od_; obtain ⟨ad317, A317_0, c317_0, e317, hx317_0, hl317_0, hi317_0⟩ := at_L4 (Kd.V_reads' HO_0.out).2.2 x7_1 p317 q317; obtain rfl : ad304 = ad317 := (by injection e317); obtain ⟨ce317, hce317, hMe317, hcc317⟩ := Kd.V_get HO_0.out [] x7_1 p317 (by first | exact q317 | exact od_ | (have e_ := (Kd.V_reads' HO_0.out).1; omega)); obtain ⟨ua317_0, uc317_0, rfl, ul317_0, ge317_0⟩ := Kd.FK_slice_open hMe317; have hv317_0 := hcc317 0 _ rfl; rw [Nat.add_zero, show ((Kd.slice 56 k56)).sz = 1 from rfl, Nat.mul_one] at hv317_0; replace hv317_0 := Option.some.inj (hv317_0.symm.trans hx317_0); injection hv317_0 with hva_ hvn_ hvc_; rw [hva_] at ge317_0; rw [hvc_] at ul317_0; have HL317_0 := a0_ (show Kd.V k56 56 _ w.heap.size _ _ (rd_L4 l0 x7_1) from Kd.V_mk ul317_0 ge317_0); clear hva_ hvn_ hvc_ ge317_0 ul317_0; clear hcc317 hce317; have HR317_0 := Aside0.mk hi317_0; have HC317_0 := Aside0.mk hl317_0; clear hi317_0 hl317_0; replace p317 := eq_true p317; replace q317 := eq_true q317) | ((with_reducible refine gate_builtin (b := .append) (xs := #[.tmp 35, .tmp 40]) rfl ?_); at_builtin; refine Kd.N_append (Kd.slice 56 k56) (w0 := w) w.heap.size rfl (.tmp 35) (.tmp 40) 22 29 (.slice none 0 0) 24 rfl Tryz.underlying22 info29 rfl (by decide) (by omega) u5 x5_1 (rd_L4 l0 x7_1) [.slice A317_0 (rd_L4 l0 x7_1).length c317_0] (fun k_ => ((P0_ k_ ∨ P1_ k_) ∨ w.heap.size ≤ k_)) (fun k_ => ((fun k_ => ((P0_ k_ ∨ P1_ k_) ∨ w.heap.size ≤ k_))) k_ ∧ some k_ ≠ (u5 : Value).ownBlock) rfl rfl ?aP (fun _ hk => hk) ?aF ?aO ?aB ?aS ?aL ?_; (case aP => exact (Kd.FK_slice_mk (Kd.V_reads' (Kd.V_mono (ok' := (fun k_ => ((fun k_ => ((P0_ k_ ∨ P1_ k_) ∨ w.heap.size ≤ k_))) k_ ∧ some k_ ≠ (u5 : Value).ownBlock)) (HL317_0.out) (fun k_ hk => ⟨hk.1, hk.2⟩))).2.1 (Kd.V_F (Kd.V_mono (ok' := (fun k_ => ((fun k_ => ((P0_ k_ ∨ P1_ k_) ∨ w.heap.size ≤ k_))) k_ ∧ some k_ ≠ (u5 : Value).ownBlock)) (HL317_0.out) (fun k_ hk => ⟨hk.1, hk.2⟩))))); (case aB => exact (bl0_)); (case aF => exact (fun k_ hk => (.inr (Nat.le_trans (below_size (bl0_)) hk)))); (case aO => exact (na_ HO_5.out)); (case aS => exact (below_size (bl0_))); (case aL => have := LMc20.out; omega); intro v319 w22 ho hb hg hat; rw [← Ny318.out] at ho; replace HO_0 := a0_ (Kd.V_afterv (ok := (fun k_ => ((P0_ k_ ∨ P1_ k_) ∨ w.heap.size ≤ k_))) (va_ HO_0.out) hg hat); replace HO_1 := a0_ (Kd.V_afterv (ok := (fun k_ => ((P0_ k_ ∨ P1_ k_) ∨ w.heap.size ≤ k_))) (va_ HO_1.out) hg hat); replace HL304_0 := a0_ (Kd.V_afterv (ok := (fun k_ => ((P0_ k_ ∨ P1_ k_) ∨ w.heap.size ≤ k_))) (va_ HL304_0.out) hg hat); replace HL317_0 := a0_ (Kd.V_afterv (ok := (fun k_ => ((P0_ k_ ∨ P1_ k_) ∨ w.heap.size ≤ k_))) (va_ HL317_0.out) hg hat); replace HB := a0_ (hb); have HO320 := a0_ (ho); clear HO_5; clear ho hb hg hat))
        go_roundg k1
        case measure => have := HK1.out; omega
        case rel => exact ⟨(y318), (x6_1), (wrap64 (x7_1 + 1)), rs_, rs_, H', ⟨by have := HK1.out; omega⟩, ⟨va_ HO_0.out⟩, ⟨va_ HO_1.out⟩, ⟨na_ HO320.out⟩, ⟨bl0_⟩⟩
       ·rw [if_neg c20] at H
        exact absurd H (by simp)
    ·rw [if_neg c6] at H
     exact absurd H (by simp)
   ·rw [if_neg c5] at H
    have c5b0 : decide (x7_1 < (l0.length : Int)) = false := decide_eq_false c5
    clear c5
    by_cases c23 : x6_1 = true
    ·subst c23
     rw [if_pos rfl] at H
     obtain rfl := Option.some.inj H
     go_wp2
     go_ret
     exact ⟨_, er_, Kd.N_V (na_ HO_5.out), bl0_⟩
    ·replace c23 := Bool.eq_false_iff.mpr c23
     subst c23
     rw [if_neg (show ¬ (false = true) by decide)] at H
     by_cases c24 : x5_1.length < 5864062014805
     ·rw [if_pos c24] at H
      have LMc24 := Aside0.mk c24
      clear c24
      obtain ⟨y301, hy301⟩ : ∃ y_ : List (List (S56)), y_ = (x5_1 ++ [l1]) := ⟨_, rfl⟩
      replace H : (some y301) = some r := hh_ hy301 H
      have Ny301 := Aside0.mk hy301
      clear hy301
      obtain rfl := Option.some.inj H
      go_wp2_with (first | ((with_reducible refine gate_builtin (b := .append) (xs := #[.tmp 44, .tmp 46]) rfl ?_); at_builtin; refine Kd.N_append (Kd.slice 56 k56) (w0 := w) w.heap.size rfl (.tmp 44) (.tmp 46) 22 29 (.slice none 0 0) 24 rfl Tryz.underlying22 info29 rfl (by decide) (by omega) u5 x5_1 l1 [.slice A1 l1.length c1] (fun k_ => ((P0_ k_ ∨ P1_ k_) ∨ w.heap.size ≤ k_)) (fun k_ => ((fun k_ => ((P0_ k_ ∨ P1_ k_) ∨ w.heap.size ≤ k_))) k_ ∧ some k_ ≠ (u5 : Value).ownBlock) rfl rfl ?aP (fun _ hk => hk) ?aF ?aO ?aB ?aS ?aL ?_; (case aP => exact (Kd.FK_slice_mk (Kd.V_reads' (Kd.V_mono (ok' := (fun k_ => ((fun k_ => ((P0_ k_ ∨ P1_ k_) ∨ w.heap.size ≤ k_))) k_ ∧ some k_ ≠ (u5 : Value).ownBlock)) (HO_1.out) (fun k_ hk => ⟨hk.1, hk.2⟩))).2.1 (Kd.V_F (Kd.V_mono (ok' := (fun k_ => ((fun k_ => ((P0_ k_ ∨ P1_ k_) ∨ w.heap.size ≤ k_))) k_ ∧ some k_ ≠ (u5 : Value).ownBlock)) (HO_1.out) (fun k_ hk => ⟨hk.1, hk.2⟩))))); (case aB => exact (bl0_)); (case aF => exact (fun k_ hk => (.inr (Nat.le_trans (below_size (bl0_)) hk)))); (case aO => exact (na_ HO_5.out)); (case aS => exact (below_size (bl0_))); (case aL => have := LMc24.out; omega); intro v302 w25 ho hb hg hat; rw [← Ny301.out] at ho; replace HO_0 := a0_ (Kd.V_afterv (ok := (fun k_ => ((P0_ k_ ∨ P1_ k_) ∨ w.heap.size ≤ k_))) (va_ HO_0.out) hg hat); replace HO_1 := a0_ (Kd.V_afterv (ok := (fun k_ => ((P0_ k_ ∨ P1_ k_) ∨ w.heap.size ≤ k_))) (va_ HO_1.out) hg hat); replace HB := a0_ (hb); have HO303 := a0_ (ho); clear HO_5; clear ho hb hg hat))
      go_ret
      exact ⟨_, er_, Kd.N_V (na_ HO303.out), bl0_⟩
     ·rw [if_neg c24] at H
      exact absurd H (by simp)
def spec_l05Grow.l0 : Nat → List (List (S56)) → List (S56) → List (S56) → Int → Option ((List (List (S56))))
 | 0, _, _, _, _ => none
 | k + 1, x0, x1, x5, x6 => if x6 < (x5.length : Int) then (if 0 ≤ x6 then ((spec_l02Insert.f k x1 ((rd_T56 x5 x6).f0) ((rd_T56 x5 x6).f1)).bind fun t325 => ((spec_l02Normal.f k t325).bind fun t328 => ((spec_l03Add.f k x0 t328).bind fun t331 => (spec_l05Grow.l0 k t331 x1 x5 (wrap64 (x6 + 1)))))) else (none)) else (some x0)
def spec_l05Grow.f (k : Nat) (l0 : List (List (S56))) (l1 : List (S56)) : Option ((List (List (S56)))) := (spec_l02Neighbours.f k l1).bind fun t321 => (spec_l05Grow.l0 k l0 l1 t321 0)
set_option maxHeartbeats 8000000 in
set_option maxRecDepth 100000 in
theorem spec_l05Grow.calls (k : Nat) (P0_ : Nat → Prop) (A0 : Option Addr) (c0 : Nat) (l0 : List (List (S56))) (A1 : Option Addr) (c1 : Nat) (l1 : List (S56)) (r : List (List (S56))) (w : World) (hs0 : Kd.V (Kd.slice 56 k56) 29 w w.heap.size (fun k_ => P0_ k_) (.slice A0 l0.length c0) l0) (hr1 : Kd.C k56 w A1 l1.length l1) (hc1 : l1.length ≤ c1) (h : spec_l05Grow.f k l0 l1 = some r) :
  Calls Tryz.prog 39 #[.slice A0 l0.length c0, .slice A1 l1.length c1] w fun e w' => ∃ v0_ : Value, e = .returned (v0_) ∧ Kd.V (Kd.slice 56 k56) 29 w' w.heap.size (fun k_ => (P0_ k_ ∨ w.heap.size ≤ k_)) v0_ r ∧ Below w.heap.size w w' := by
 have hu56 := Tryz.underlying56
 have HO0 := a0_ (show Kd.V (Kd.slice 56 k56) 29 w w.heap.size (fun k_ => (P0_ k_ ∨ w.heap.size ≤ k_)) (.slice A0 l0.length c0) l0 from Kd.V_mono hs0 (fun k_ hk => .inl hk))
 have HR1 := Aside0.mk hr1
 have HC1 := Aside0.mk hc1
 clear hr1 hc1
 have HB := a0_ (Below.refl w.heap.size w)
 have H := h
 clear h
 unfold spec_l05Grow.f at H
 obtain ⟨t321, A3, H⟩ := bs_ H
 have H' := Aside0.mk H
 clear H
 go_enter Tryz.func39, Tryz.ntmps39
 go_wp2_with (first | ((with_reducible refine gate_callee (f := 49) rfl ?_); refine goesL_ (some 8) rfl rfl Tryz.func49 kr_ rfl #[.slice A1 l1.length c1] rfl ta_ ?_; (with_reducible refine (spec_l02Neighbours.calls k _ _ l1 t321 _ ?side1 ?side2 A3.out).mono ?_); (case side1 => exact ca_ HR1.out); (case side2 => exact HC1.out); rintro e w4 ⟨v322, rfl, ho0, hb⟩; refine ⟨_, rfl, ?_⟩; replace HO0 := a0_ (Kd.V_elder' (va_ HO0.out) (Kd.R_base ho0) hb); have HO323 := a0_ (Kd.R_lower (Kd.R_newM (M := fun k_ => (w.heap.size ≤ k_)) ho0 (below_size (bl0_)) (fun k_ h_ => h_)) (below_size (bl0_))); replace HB := a0_ (below_step (bl0_) hb); (try clear hb); (try clear ho0)))
 go_loopg [0, 6] k (fun kq v0 v6 w' => ∃ (x0_1 : List (List (S56))) (x6_1 : Int), v6 = .int .i64 x6_1 ∧ Aside0 (spec_l05Grow.l0 kq x0_1 l1 t321 x6_1 = some r) ∧ Aside0 (kq ≤ k) ∧ Aside0 (Kd.V (Kd.slice 56 k56) 29 w' w.heap.size (fun k_ => (P0_ k_ ∨ w.heap.size ≤ k_) ∧ some k_ ≠ (v322 : Value).ownBlock) v0 x0_1) ∧ Aside0 (Kd.R k56 56 w' w.heap.size (fun k_ => (w.heap.size ≤ k_)) v322 t321) ∧ Aside0 (Below w.heap.size w w'))
 case atStart => exact ⟨(l0), (0), rs_, H', ⟨Nat.le_refl _⟩, ⟨va_ HO0.out⟩, ⟨by (with_reducible repeat (first | apply Kd.R_alloc | apply Kd.R_drewN | apply Kd.R_drew)); exact Kd.R_mono HO323.out (fun _ hk => hk.1)⟩, ⟨bl0_⟩⟩
 case round =>
  clear H'
  try clear c1
  obtain ⟨x0_1, x6_1, rfl, HA, HK1, HO_0, HO_5, HB⟩ := hrel
  cases gk with
  | zero => exact absurd HA.out (by simp [spec_l05Grow.l0])
  | succ k1 =>
   have H := HA.out
   clear HA
   simp only [spec_l05Grow.l0] at H
   by_cases c5 : x6_1 < (t321.length : Int)
   ·rw [if_pos c5] at H
    have c5b0 : decide (x6_1 < (t321.length : Int)) = true := decide_eq_true c5
    clear c5
    by_cases c6 : 0 ≤ x6_1
    ·rw [if_pos c6] at H
     have c6b0 : decide (0 ≤ x6_1) = true := decide_eq_true c6
     clear c6
     obtain ⟨t325, A7, H⟩ := bs_ H
     obtain ⟨t328, A8, H⟩ := bs_ H
     obtain ⟨t331, A9, H⟩ := bs_ H
     have H' := Aside0.mk H
     clear H
     obtain ⟨Ao10, co10, eo10⟩ := Kd.R_slice HO_5.out
     subst eo10
     have p324 : 0 ≤ (x6_1 : Int) := od_
     have q324 : x6_1 < (t321.length : Int) := od_
     obtain ⟨ad324, e324, hx324_0, hx324_1⟩ := at_T56 (Kd.R_reads' HO_5.out).2.2 x6_1 p324 q324
     cases e324
     replace p324 := eq_true p324
     replace q324 := eq_true q324
     go_wp2_with (first | ((with_reducible refine gate_callee (f := 50) rfl ?_); refine goesL_ (some 21) rfl rfl Tryz.func50 kr_ rfl #[.slice A1 l1.length c1, .agg #[.int .i64 ((rd_T56 t321 x6_1).f0), .int .i64 ((rd_T56 t321 x6_1).f1)]] rfl ta_ ?_; (with_reducible refine (spec_l02Insert.calls k1 _ _ l1 ((rd_T56 t321 x6_1).f0) ((rd_T56 t321 x6_1).f1) t325 _ ?side1 ?side2 A7.out).mono ?_); (case side1 => exact ca_ (Kd.C_below HR1.out HB.out)); (case side2 => exact HC1.out); rintro e w11 ⟨v326, rfl, ho0, hb⟩; refine ⟨_, rfl, ?_⟩; replace HO_0 := a0_ (Kd.V_elder' (va_ HO_0.out) (Kd.R_base ho0) hb); have HO327 := a0_ (Kd.R_lower (Kd.R_new' (Kd.R_newM (M := fun k_ => (w.heap.size ≤ k_)) ho0 (below_size (bl0_)) (fun k_ h_ => h_)) (Kd.R_lt (ra_ HO_5.out))) (below_size (bl0_))); replace HO_5 := a0_ (Kd.R_elder' (ra_ HO_5.out) (Kd.R_base ho0) hb); replace HB := a0_ (below_step (bl0_) hb); (try clear hb); (try clear ho0); obtain ⟨Ao12, co12, eo12⟩ := Kd.R_slice HO327.out; subst eo12) | ((with_reducible refine gate_callee (f := 70) rfl ?_); refine goesL_ (some 22) rfl rfl Tryz.func70 kr_ rfl #[.slice Ao12 t325.length co12] rfl ta_ ?_; (with_reducible refine (spec_l02Normal.calls k1 _ _ t325 t328 _ ?side1 ?side2 A8.out).mono ?_); (case side1 => exact ca_ (Kd.R_reads' HO327.out).2.2); (case side2 => exact (Kd.R_reads' HO327.out).2.1); rintro e w13 ⟨v329, rfl, ho0, hb⟩; refine ⟨_, rfl, ?_⟩; replace HO_0 := a0_ (Kd.V_elder' (va_ HO_0.out) (Kd.R_base ho0) hb); have HO330 := a0_ (Kd.R_lower (Kd.R_new' (Kd.R_new' (Kd.R_newM (M := fun k_ => (w.heap.size ≤ k_)) ho0 (below_size (bl0_)) (fun k_ h_ => h_)) (Kd.R_lt (ra_ HO_5.out))) (Kd.R_lt (ra_ HO327.out))) (below_size (bl0_))); replace HO_5 := a0_ (Kd.R_elder' (ra_ HO_5.out) (Kd.R_base ho0) hb); replace HO327 := a0_ (Kd.R_elder' (ra_ HO327.out) (Kd.R_base ho0) hb); replace HB := a0_ (below_step (bl0_) hb); (try clear hb); (try clear ho0); obtain ⟨Ao14, co14, eo14⟩ := Kd.V_slice HO_0.out; subst eo14; obtain ⟨Ao15, co15, eo15⟩ := Kd.R_slice HO330.out; subst eo15) | ((with_reducible refine gate_callee (f := 71) rfl ?_); refine goesL_ (some 23) rfl rfl Tryz.func71 kr_ rfl #[.slice Ao14 x0_1.length co14, .slice Ao15 t328.length co15] rfl ta_ ?_; (with_reducible refine (spec_l03Add.calls k1 (fun k_ => ((((P0_ k_ ∨ w.heap.size ≤ k_) ∧ some k_ ≠ (.slice (some ad324) t321.length co10 : Value).ownBlock) ∧ some k_ ≠ (.slice Ao12 t325.length co12 : Value).ownBlock) ∧ some k_ ≠ (.slice Ao15 t328.length co15 : Value).ownBlock)) _ _ x0_1 (fun k_ => some k_ = (.slice Ao15 t328.length co15 : Value).ownBlock) _ _ t328 t331 _ ?side1 ?side2 A9.out).mono ?_); (case side1 => exact HO_0.out); (case side2 => exact Kd.R_V (Kd.R_tight rfl (HO330.out))); rintro e w16 ⟨v332, rfl, ho0, hb⟩; refine ⟨_, rfl, ?_⟩; replace HO_0 := a0_ (Kd.V_below (va_ HO_0.out) hb); have HO333 := a0_ (Kd.V_lower (Kd.V_mono (ok' := fun k_ => (P0_ k_ ∨ w.heap.size ≤ k_) ∧ some k_ ≠ (.slice (some ad324) t321.length co10 : Value).ownBlock ∧ some k_ ≠ (.slice Ao12 t325.length co12 : Value).ownBlock) ho0 (fun k_ hk_ => ⟨Or.elim hk_ (fun hs_ => Or.elim hs_ (fun hs_ => hs_.1.1.1) (fun hs_ => (.inr (((HO330.out).1 k_ hs_.symm).1.1.1)))) (fun hn_ => (.inr (Nat.le_trans (below_size (bl0_)) hn_))), Or.elim hk_ (fun hs_ => Or.elim hs_ (fun hs_ => hs_.1.1.2) (fun hs_ => ((HO330.out).1 k_ hs_.symm).1.2)) (fun hn_ => (Kd.fresh' (Kd.R_lt (ra_ HO_5.out)) k_ hn_)), Or.elim hk_ (fun hs_ => Or.elim hs_ (fun hs_ => hs_.1.2) (fun hs_ => ((HO330.out).1 k_ hs_.symm).2)) (fun hn_ => (Kd.fresh' (Kd.R_lt (ra_ HO327.out)) k_ hn_))⟩)) (below_size (bl0_))); replace HO_5 := a0_ (Kd.R_below (ra_ HO_5.out) hb); replace HO327 := a0_ (Kd.R_below (ra_ HO327.out) hb); replace HO330 := a0_ (Kd.R_below (ra_ HO330.out) hb); replace HB := a0_ (below_step (bl0_) hb); (try clear hb); (try clear ho0)))
     go_roundg k1
     case measure => have := HK1.out; omega
     case rel => exact ⟨(t331), (wrap64 (x6_1 + 1)), rs_, H', ⟨by have := HK1.out; omega⟩, ⟨by (with_reducible repeat (first | apply Kd.V_alloc | apply Kd.V_drewN | apply Kd.V_drew)); exact Kd.V_mono HO333.out (fun _ hk => ⟨hk.1, hk.2.1⟩)⟩, ⟨by (with_reducible repeat (first | apply Kd.R_alloc | apply Kd.R_drewN | apply Kd.R_drew)); exact Kd.R_mono HO_5.out (fun _ hk => hk.1.1)⟩, ⟨bl0_⟩⟩
    ·rw [if_neg c6] at H
     exact absurd H (by simp)
   ·rw [if_neg c5] at H
    have c5b0 : decide (x6_1 < (t321.length : Int)) = false := decide_eq_false c5
    clear c5
    obtain rfl := Option.some.inj H
    obtain ⟨Ao17, co17, eo17⟩ := Kd.R_slice HO_5.out
    subst eo17
    go_wp2
    go_ret
    exact ⟨_, er_, by (with_reducible repeat (first | apply Kd.V_alloc | apply Kd.V_drewN | apply Kd.V_drew)); exact Kd.V_mono HO_0.out (fun _ hk => hk.1), bl0_⟩
mutual
def spec_l05Fixed.l0 : Nat → Int → List (List (S56)) → Int → Option ((List (List (S56))))
 | 0, _, _, _ => none
 | k + 1, x0, x3, x4 => if x4 < x0 then (spec_l05Fixed.l1 k x0 x3 x4 (([] : List (List (S56)))) 0) else (some x3)
def spec_l05Fixed.l1 : Nat → Int → List (List (S56)) → Int → List (List (S56)) → Int → Option ((List (List (S56))))
 | 0, _, _, _, _, _ => none
 | k + 1, x0, x3, x4, x5, x6 => if x6 < (x3.length : Int) then (if 0 ≤ x6 then ((spec_l05Grow.f k x5 (rd_L4 x3 x6)).bind fun t344 => (spec_l05Fixed.l1 k x0 x3 x4 t344 (wrap64 (x6 + 1)))) else (none)) else (spec_l05Fixed.l0 k x0 x5 (wrap64 (x4 + 1)))
end
def spec_l05Fixed.f (k : Nat) (a0 : Int) : Option ((List (List (S56)))) := spec_l05Fixed.l0 k a0 (([(([(⟨0, 0⟩ : S56)] : List (S56)))] : List (List (S56)))) 1
set_option maxHeartbeats 8000000 in
set_option maxRecDepth 100000 in
theorem spec_l05Fixed.calls (k : Nat) (a0 : Int) (r : List (List (S56))) (w : World) (h : spec_l05Fixed.f k a0 = some r) :
  Calls Tryz.prog 20 #[.int .i64 a0] w fun e w' => ∃ v0_ : Value, e = .returned (v0_) ∧ Kd.V (Kd.slice 56 k56) 29 w' w.heap.size (fun k_ => (w.heap.size ≤ k_)) v0_ r ∧ Below w.heap.size w w' := by
 have hu56 := Tryz.underlying56
 have HB := a0_ (Below.refl w.heap.size w)
 have H := h
 clear h
 unfold spec_l05Fixed.f at H
 obtain ⟨y334, hy334⟩ : ∃ y_ : List (S56), y_ = (([(⟨0, 0⟩ : S56)] : List (S56))) := ⟨_, rfl⟩
 replace H : (spec_l05Fixed.l0 k a0 (([y334] : List (List (S56)))) 1) = some r := hh_ hy334 H
 have Ny334 := Aside0.mk hy334
 clear hy334
 obtain ⟨y337, hy337⟩ : ∃ y_ : List (List (S56)), y_ = (([y334] : List (List (S56)))) := ⟨_, rfl⟩
 replace H : (spec_l05Fixed.l0 k a0 y337 1) = some r := hh_ hy337 H
 have Ny337 := Aside0.mk hy337
 clear hy337
 have H' := Aside0.mk H
 clear H
 go_enter Tryz.func20, Tryz.ntmps20
 go_wp2_with (first | ((with_reducible refine gate_dst (N := 8) rfl ?_); refine Kd.R_lit k56 _ 56 ?hg (N := 8) ?hd (xs := ([(⟨0, 0⟩ : S56)] : List (S56))) (inner := [.int .i64 0, .int .i64 0]) (ok := fun _ => True) (okp := fun _ => True) ?hr ?hp (fun _ hk => hk) trivial (Below.refl _ _) (Nat.le_refl _) (by simp) ?_; (case hd => rfl); (case hg => rfl); (case hr => first | (go_simp; done) | (go_simp; rfl)); (case hp => exact (Reps.c2 (show Kd.M k56 _ _ _ (⟨0, 0⟩ : S56) [.int .i64 0, .int .i64 0] from (k56_mkM _ _ _ (⟨0, 0⟩ : S56) )) (Reps.none _ _))); intro v335 w2 ho3 hb hg_ hnew_; clear hg_ hnew_; (first | rw [← Ny334.out] at ho3 | (simp only [Int.reduceToNat] at ho3; rw [← Ny334.out] at ho3)); have HO336 := a0_ (Kd.R_lower (Kd.R_newM (M := fun k_ => (w.heap.size ≤ k_)) ho3 (below_size (bl0_)) (fun k_ h_ => h_)) (below_size (bl0_))); replace HB := a0_ (below_step (bl0_) hb); clear hb ho3; obtain ⟨Ao4, co4, eo4⟩ := Kd.R_slice HO336.out; subst eo4) | ((with_reducible refine gate_dst (N := 9) rfl ?_); refine Kd.N_lit (Kd.slice 56 k56) _ 29 ?hg (N' := 9) ?hd (xs := ([y334] : List (List (S56)))) (inner := [.slice Ao4 y334.length co4]) (ok := (fun k_ => (w.heap.size ≤ k_))) (okp := (fun k_ => (w.heap.size ≤ k_))) ?hr ?hp (fun _ hk => hk) ((show ∀ k_, w2.heap.size ≤ k_ → (fun k_ => (w.heap.size ≤ k_)) k_ from fun k_ hk => (Nat.le_trans (below_size (bl0_)) hk)) _ (Nat.le_refl _)) (Below.refl _ _) (Nat.le_refl _) (by simp) ?_; (case hd => rfl); (case hg => rfl); (case hr => first | (go_simp; done) | (go_simp; rfl)); (case hp => exact (Reps.one (show Kd.FK (Kd.slice 56 k56) _ _ y334 [.slice Ao4 y334.length co4] from (Kd.FK_slice_mk (Kd.R_reads' (Kd.R_mono (ok' := (fun k_ => (w.heap.size ≤ k_))) (HO336.out) (fun k_ hk => hk.1))).2.1 (Kd.R_F (Kd.R_mono (ok' := (fun k_ => (w.heap.size ≤ k_))) (HO336.out) (fun k_ hk => hk.1))))) (Reps.none _ _))); intro v338 w5 ho6 hb hg_ hnew_; clear hg_ hnew_; (first | rw [← Ny337.out] at ho6 | (simp only [Int.reduceToNat] at ho6; rw [← Ny337.out] at ho6)); have HO339 := a0_ (Kd.N_lower ho6 (below_size (bl0_))); replace HB := a0_ (below_step (bl0_) hb); clear HO336; clear hb ho6))
 go_loopg [3, 4] k (fun kq v3 v4 w' => ∃ (x3_1 : List (List (S56))) (x4_1 : Int), v4 = .int .i64 x4_1 ∧ Aside0 (spec_l05Fixed.l0 kq a0 x3_1 x4_1 = some r) ∧ Aside0 (kq ≤ k) ∧ Aside0 (Kd.V (Kd.slice 56 k56) 29 w' w.heap.size (fun k_ => (w.heap.size ≤ k_)) v3 x3_1) ∧ Aside0 (Below w.heap.size w w'))
 case atStart => exact ⟨(y337), (1), rs_, H', ⟨Nat.le_refl _⟩, ⟨Kd.N_V (na_ HO339.out)⟩, ⟨bl0_⟩⟩
 case round =>
  clear H'
  obtain ⟨x3_1, x4_1, rfl, HA, HK1, HO_3, HB⟩ := hrel
  cases gk with
  | zero => exact absurd HA.out (by simp [spec_l05Fixed.l0])
  | succ k1 =>
   have H := HA.out
   clear HA
   simp only [spec_l05Fixed.l0] at H
   by_cases c7 : x4_1 < a0
   ·rw [if_pos c7] at H
    have c7b0 : decide (x4_1 < a0) = true := decide_eq_true c7
    clear c7
    obtain ⟨y340, hy340⟩ : ∃ y_ : List (List (S56)), y_ = (([] : List (List (S56)))) := ⟨_, rfl⟩
    replace H : (spec_l05Fixed.l1 k1 a0 x3_1 x4_1 y340 0) = some r := hh_ hy340 H
    have Ny340 := Aside0.mk hy340
    clear hy340
    have H' := Aside0.mk H
    clear H
    go_wp2_with (first | ((with_reducible refine gate_dst (N := 15) rfl ?_); refine Kd.N_lit (Kd.slice 56 k56) _ 29 ?hg (N' := 15) ?hd (xs := ([] : List (List (S56)))) (inner := []) (ok := (fun k_ => (w.heap.size ≤ k_))) (okp := (fun k_ => (w.heap.size ≤ k_))) ?hr ?hp (fun _ hk => hk) ((show ∀ k_, wr.heap.size ≤ k_ → (fun k_ => (w.heap.size ≤ k_)) k_ from fun k_ hk => (Nat.le_trans (below_size (bl0_)) hk)) _ (Nat.le_refl _)) (Below.refl _ _) (Nat.le_refl _) (by simp) ?_; (case hd => rfl); (case hg => rfl); (case hr => first | (go_simp; done) | (go_simp; rfl)); (case hp => exact (Reps.none _ _)); intro v341 w8 ho9 hb hg_ hnew_; clear hg_ hnew_; (first | rw [← Ny340.out] at ho9 | (simp only [Int.reduceToNat] at ho9; rw [← Ny340.out] at ho9)); replace HO_3 := a0_ (Kd.V_elder' (va_ HO_3.out) (Kd.N_base ho9) hb); have HO342 := a0_ (Kd.N_lower ho9 (below_size (bl0_))); replace HB := a0_ (below_step (bl0_) hb); clear hb ho9))
    go_loopg [5, 6] k1 (fun kq v5 v6 w' => ∃ (x5_2 : List (List (S56))) (x6_2 : Int), v6 = .int .i64 x6_2 ∧ Aside0 (spec_l05Fixed.l1 kq a0 x3_1 x4_1 x5_2 x6_2 = some r) ∧ Aside0 (kq ≤ k1) ∧ Aside0 (Kd.V (Kd.slice 56 k56) 29 w' w.heap.size (fun k_ => (w.heap.size ≤ k_)) u3 x3_1) ∧ Aside0 (Kd.V (Kd.slice 56 k56) 29 w' w.heap.size (fun k_ => (w.heap.size ≤ k_)) v5 x5_2) ∧ Aside0 (Below w.heap.size w w'))
    case atStart => exact ⟨(y340), (0), rs_, H', ⟨Nat.le_refl _⟩, ⟨by (with_reducible repeat (first | apply Kd.V_alloc | apply Kd.V_drewN | apply Kd.V_drew)); exact Kd.V_mono HO_3.out (fun _ hk => hk.1)⟩, ⟨Kd.N_V (na_ HO342.out)⟩, ⟨bl0_⟩⟩
    case round =>
     clear H'
     try clear c7b0
     obtain ⟨x5_2, x6_2, rfl, HA, HK2, HO_3, HO_5, HB⟩ := hrel
     cases gk with
     | zero => exact absurd HA.out (by simp [spec_l05Fixed.l1])
     | succ k2 =>
      have H := HA.out
      clear HA
      simp only [spec_l05Fixed.l1] at H
      by_cases c10 : x6_2 < (x3_1.length : Int)
      ·rw [if_pos c10] at H
       have c10b0 : decide (x6_2 < (x3_1.length : Int)) = true := decide_eq_true c10
       clear c10
       by_cases c11 : 0 ≤ x6_2
       ·rw [if_pos c11] at H
        have c11b0 : decide (0 ≤ x6_2) = true := decide_eq_true c11
        clear c11
        obtain ⟨t344, A12, H⟩ := bs_ H
        have H' := Aside0.mk H
        clear H
        obtain ⟨Ao13, co13, eo13⟩ := Kd.V_slice HO_3.out
        subst eo13
        have p343 : 0 ≤ (x6_2 : Int) := od_
        have q343 : x6_2 < (x3_1.length : Int) := od_
        obtain ⟨ad343, A343_0, c343_0, e343, hx343_0, hl343_0, hi343_0⟩ := at_L4 (Kd.V_reads' HO_3.out).2.2 x6_2 p343 q343
        cases e343
        obtain ⟨ce343, hce343, hMe343, hcc343⟩ := Kd.V_get HO_3.out [] x6_2 p343 (by first | exact q343 | exact od_ | (have e_ := (Kd.V_reads' HO_3.out).1; omega))
        obtain ⟨ua343_0, uc343_0, rfl, ul343_0, ge343_0⟩ := Kd.FK_slice_open hMe343
        have hv343_0 := hcc343 0 _ rfl
        rw [Nat.add_zero, show ((Kd.slice 56 k56)).sz = 1 from rfl, Nat.mul_one] at hv343_0
        replace hv343_0 := Option.some.inj (hv343_0.symm.trans hx343_0)
        injection hv343_0 with hva_ hvn_ hvc_
        rw [hva_] at ge343_0
        rw [hvc_] at ul343_0
        have HL343_0 := a0_ (show Kd.V k56 56 _ w.heap.size _ _ (rd_L4 x3_1 x6_2) from Kd.V_mk ul343_0 ge343_0)
        clear hva_ hvn_ hvc_ ge343_0 ul343_0
        clear hcc343 hce343
        have HR343_0 := Aside0.mk hi343_0
        have HC343_0 := Aside0.mk hl343_0
        clear hi343_0 hl343_0
        replace p343 := eq_true p343
        replace q343 := eq_true q343
        obtain ⟨Ao14, co14, eo14⟩ := Kd.V_slice HO_5.out
        subst eo14
        go_wp2_with (first | ((with_reducible refine gate_callee (f := 39) rfl ?_); refine goesL_ (some 27) rfl rfl Tryz.func39 kr_ rfl #[.slice Ao14 x5_2.length co14, .slice A343_0 (rd_L4 x3_1 x6_2).length c343_0] rfl ta_ ?_; (with_reducible refine (spec_l05Grow.calls k2 (fun k_ => (w.heap.size ≤ k_)) _ _ x5_2 _ _ (rd_L4 x3_1 x6_2) t344 _ ?side1 ?side2 ?side3 A12.out).mono ?_); (case side1 => exact HO_5.out); (case side2 => exact ca_ HR343_0.out); (case side3 => exact HC343_0.out); rintro e w15 ⟨v345, rfl, ho0, hb⟩; refine ⟨_, rfl, ?_⟩; replace HO_3 := a0_ (Kd.V_below (va_ HO_3.out) hb); replace HO_5 := a0_ (Kd.V_below (va_ HO_5.out) hb); replace HL343_0 := a0_ (Kd.V_below (va_ HL343_0.out) hb); have HO346 := a0_ (Kd.V_lower (Kd.V_mono (ok' := fun k_ => (w.heap.size ≤ k_)) ho0 (fun k_ hk_ => Or.elim hk_ (fun hs_ => hs_) (fun hn_ => (Nat.le_trans (below_size (bl0_)) hn_)))) (below_size (bl0_))); replace HR343_0 := a0_ (Kd.C_below (ca_ HR343_0.out) hb); replace HB := a0_ (below_step (bl0_) hb); (try clear hb); (try clear ho0)))
        go_roundg k2
        case measure => have := HK1.out; have := HK2.out; omega
        case rel => exact ⟨(t344), (wrap64 (x6_2 + 1)), rs_, H', ⟨by have := HK1.out; have := HK2.out; omega⟩, ⟨va_ HO_3.out⟩, ⟨va_ HO346.out⟩, ⟨bl0_⟩⟩
       ·rw [if_neg c11] at H
        exact absurd H (by simp)
      ·rw [if_neg c10] at H
       have c10b0 : decide (x6_2 < (x3_1.length : Int)) = false := decide_eq_false c10
       clear c10
       have H' := Aside0.mk H
       clear H
       obtain ⟨Ao16, co16, eo16⟩ := Kd.V_slice HO_3.out
       subst eo16
       go_wp2
       go_roundg k2
       case measure => have := HK1.out; have := HK2.out; omega
       case rel => exact ⟨(x5_2), (wrap64 (x4_1 + 1)), rs_, H', ⟨by have := HK1.out; have := HK2.out; omega⟩, ⟨va_ HO_5.out⟩, ⟨bl0_⟩⟩
   ·rw [if_neg c7] at H
    have c7b0 : decide (x4_1 < a0) = false := decide_eq_false c7
    clear c7
    obtain rfl := Option.some.inj H
    go_wp2
    go_ret
    exact ⟨_, er_, va_ HO_3.out, bl0_⟩
def spec_Nets.l0 : Nat → List (List (S56)) → List (List (S56)) → Int → Option ((List (List (S56))))
 | 0, _, _, _ => none
 | k + 1, x1, x2, x3 => if x3 < (x1.length : Int) then (if 0 ≤ x3 then ((spec_IsNet.f k (rd_L4 x1 x3)).bind fun t357 => (if t357 = true then (if x2.length < 5864062014805 then (spec_Nets.l0 k x1 (x2 ++ [rd_L4 x1 x3]) (wrap64 (x3 + 1))) else (none)) else (spec_Nets.l0 k x1 x2 (wrap64 (x3 + 1))))) else (none)) else (some x2)
def spec_Nets.f (k : Nat)  : Option ((List (List (S56)))) := (spec_l05Fixed.f k 6).bind fun t347 => ((spec_l05Own.f k t347 8).bind fun t350 => (spec_Nets.l0 k t350 (([] : List (List (S56)))) 0))
set_option maxHeartbeats 8000000 in
set_option maxRecDepth 100000 in
theorem spec_Nets.calls (k : Nat)  (r : List (List (S56))) (w : World) (h : spec_Nets.f k  = some r) :
  Calls Tryz.prog 5 #[] w fun e w' => ∃ v0_ : Value, e = .returned (v0_) ∧ Kd.N (Kd.slice 56 k56) 29 w' w.heap.size (fun k_ => (w.heap.size ≤ k_)) v0_ r ∧ Below w.heap.size w w' := by
 have HB := a0_ (Below.refl w.heap.size w)
 have H := h
 clear h
 unfold spec_Nets.f at H
 obtain ⟨t347, A1, H⟩ := bs_ H
 obtain ⟨t350, A2, H⟩ := bs_ H
 obtain ⟨y353, hy353⟩ : ∃ y_ : List (List (S56)), y_ = (([] : List (List (S56)))) := ⟨_, rfl⟩
 replace H : (spec_Nets.l0 k t350 y353 0) = some r := hh_ hy353 H
 have Ny353 := Aside0.mk hy353
 clear hy353
 have H' := Aside0.mk H
 clear H
 go_enter Tryz.func5, Tryz.ntmps5
 go_wp2_with (first | ((with_reducible refine gate_callee (f := 20) rfl ?_); refine goesL_ (some 4) rfl rfl Tryz.func20 kr_ rfl #[.int .i64 6] rfl ta_ ?_; (with_reducible refine (spec_l05Fixed.calls k 6 t347 _ A1.out).mono ?_); rintro e w3 ⟨v348, rfl, ho0, hb⟩; refine ⟨_, rfl, ?_⟩; have HO349 := a0_ (Kd.V_lower (Kd.V_mono (ok' := fun k_ => (w.heap.size ≤ k_)) ho0 (fun k_ hk_ => (Nat.le_trans (below_size (bl0_)) hk_))) (below_size (bl0_))); replace HB := a0_ (below_step (bl0_) hb); (try clear hb); (try clear ho0); obtain ⟨Ao4, co4, eo4⟩ := Kd.V_slice HO349.out; subst eo4) | ((with_reducible refine gate_callee (f := 19) rfl ?_); refine goesL_ (some 5) rfl rfl Tryz.func19 kr_ rfl #[.slice Ao4 t347.length co4, .int .i64 8] rfl ta_ ?_; (with_reducible refine (spec_l05Own.calls k (fun k_ => (w.heap.size ≤ k_)) _ _ t347 8 t350 _ ?side1 A2.out).mono ?_); (case side1 => exact HO349.out); rintro e w5 ⟨v351, rfl, ho0, hb⟩; refine ⟨_, rfl, ?_⟩; replace HO349 := a0_ (Kd.V_elder' (va_ HO349.out) (Kd.N_base ho0) hb); have HO352 := a0_ (Kd.N_lower (Kd.N_mono (ok' := fun k_ => (w.heap.size ≤ k_)) ho0 (fun k_ hk_ => Or.elim hk_ (fun hs_ => hs_) (fun hn_ => (Nat.le_trans (below_size (bl0_)) hn_)))) (below_size (bl0_))); replace HB := a0_ (below_step (bl0_) hb); (try clear hb); (try clear ho0)) | ((with_reducible refine gate_dst (N := 6) rfl ?_); refine Kd.N_lit (Kd.slice 56 k56) _ 29 ?hg (N' := 6) ?hd (xs := ([] : List (List (S56)))) (inner := []) (ok := (fun k_ => (w.heap.size ≤ k_) ∧ some k_ ≠ (v351 : Value).ownBlock)) (okp := (fun k_ => (w.heap.size ≤ k_) ∧ some k_ ≠ (v351 : Value).ownBlock)) ?hr ?hp (fun _ hk => hk) ((show ∀ k_, w5.heap.size ≤ k_ → (fun k_ => (w.heap.size ≤ k_) ∧ some k_ ≠ (v351 : Value).ownBlock) k_ from fun k_ hk => ⟨(Nat.le_trans (below_size (bl0_)) hk), Kd.fresh' (Kd.N_lt (na_ HO352.out)) k_ hk⟩) _ (Nat.le_refl _)) (Below.refl _ _) (Nat.le_refl _) (by simp) ?_; (case hd => rfl); (case hg => rfl); (case hr => first | (go_simp; done) | (go_simp; rfl)); (case hp => exact (Reps.none _ _)); intro v354 w6 ho7 hb hg_ hnew_; clear hg_ hnew_; (first | rw [← Ny353.out] at ho7 | (simp only [Int.reduceToNat] at ho7; rw [← Ny353.out] at ho7)); replace HO349 := a0_ (Kd.V_elder' (va_ HO349.out) (Kd.N_base ho7) hb); replace HO352 := a0_ (Kd.N_elder' (na_ HO352.out) (Kd.N_base ho7) hb); have HO355 := a0_ (Kd.N_lower ho7 (below_size (bl0_))); replace HB := a0_ (below_step (bl0_) hb); clear hb ho7))
 go_loopg [2, 3] k (fun kq v2 v3 w' => ∃ (x2_1 : List (List (S56))) (x3_1 : Int), v3 = .int .i64 x3_1 ∧ Aside0 (spec_Nets.l0 kq t350 x2_1 x3_1 = some r) ∧ Aside0 (kq ≤ k) ∧ Aside0 (Kd.N (Kd.slice 56 k56) 29 w' w.heap.size (fun k_ => (w.heap.size ≤ k_) ∧ some k_ ≠ (v2 : Value).ownBlock) v351 t350) ∧ Aside0 (Kd.N (Kd.slice 56 k56) 29 w' w.heap.size (fun k_ => (w.heap.size ≤ k_) ∧ some k_ ≠ (v351 : Value).ownBlock) v2 x2_1) ∧ Aside0 (Below w.heap.size w w'))
 case atStart => exact ⟨(y353), (0), rs_, H', ⟨Nat.le_refl _⟩, ⟨na_ HO352.out⟩, ⟨na_ HO355.out⟩, ⟨bl0_⟩⟩
 case round =>
  clear H'
  obtain ⟨x2_1, x3_1, rfl, HA, HK1, HO_1, HO_2, HB⟩ := hrel
  cases gk with
  | zero => exact absurd HA.out (by simp [spec_Nets.l0])
  | succ k1 =>
   have H := HA.out
   clear HA
   simp only [spec_Nets.l0] at H
   by_cases c8 : x3_1 < (t350.length : Int)
   ·rw [if_pos c8] at H
    have c8b0 : decide (x3_1 < (t350.length : Int)) = true := decide_eq_true c8
    clear c8
    by_cases c9 : 0 ≤ x3_1
    ·rw [if_pos c9] at H
     have c9b0 : decide (0 ≤ x3_1) = true := decide_eq_true c9
     clear c9
     obtain ⟨t357, A10, H⟩ := bs_ H
     by_cases c11 : t357 = true
     ·subst c11
      rw [if_pos rfl] at H
      by_cases c12 : x2_1.length < 5864062014805
      ·rw [if_pos c12] at H
       have LMc12 := Aside0.mk c12
       clear c12
       obtain ⟨y359, hy359⟩ : ∃ y_ : List (List (S56)), y_ = (x2_1 ++ [rd_L4 t350 x3_1]) := ⟨_, rfl⟩
       replace H : (spec_Nets.l0 k1 t350 y359 (wrap64 (x3_1 + 1))) = some r := hh_ hy359 H
       have Ny359 := Aside0.mk hy359
       clear hy359
       have H' := Aside0.mk H
       clear H
       obtain ⟨Ao13, co13, eo13⟩ := Kd.N_slice HO_1.out
       subst eo13
       have p356 : 0 ≤ (x3_1 : Int) := od_
       have q356 : x3_1 < (t350.length : Int) := od_
       obtain ⟨ad356, A356_0, c356_0, e356, hx356_0, hl356_0, hi356_0⟩ := at_L4 (Kd.N_reads' HO_1.out).2.2 x3_1 p356 q356
       cases e356
       obtain ⟨ce356, hce356, hMe356, hcc356⟩ := Kd.N_get HO_1.out [] x3_1 p356 (by first | exact q356 | exact od_ | (have e_ := (Kd.N_reads' HO_1.out).1; omega))
       obtain ⟨ua356_0, uc356_0, rfl, ul356_0, ge356_0⟩ := Kd.FK_slice_open hMe356
       have hv356_0 := hcc356 0 _ rfl
       rw [Nat.add_zero, show ((Kd.slice 56 k56)).sz = 1 from rfl, Nat.mul_one] at hv356_0
       replace hv356_0 := Option.some.inj (hv356_0.symm.trans hx356_0)
       injection hv356_0 with hva_ hvn_ hvc_
       rw [hva_] at ge356_0
       rw [hvc_] at ul356_0
       have HL356_0 := a0_ (show Kd.V k56 56 _ w.heap.size _ _ (rd_L4 t350 x3_1) from Kd.V_mk ul356_0 ge356_0)
       clear hva_ hvn_ hvc_ ge356_0 ul356_0
       clear hcc356 hce356
       have HR356_0 := Aside0.mk hi356_0
       have HC356_0 := Aside0.mk hl356_0
       clear hi356_0 hl356_0
       replace p356 := eq_true p356
       replace q356 := eq_true q356
       go_wp2_with (first | ((with_reducible refine gate_callee (f := 13) rfl ?_); refine goesL_ (some 17) rfl rfl Tryz.func13 kr_ rfl #[.slice A356_0 (rd_L4 t350 x3_1).length c356_0] rfl ta_ ?_; (with_reducible refine (spec_IsNet.calls k1 _ _ (rd_L4 t350 x3_1) true _ ?side1 ?side2 A10.out).mono ?_); (case side1 => exact ca_ HR356_0.out); (case side2 => exact HC356_0.out); rintro e w14 ⟨rfl, hb⟩; refine ⟨_, rfl, ?_⟩; replace HO_1 := a0_ (Kd.N_below (na_ HO_1.out) hb); replace HO_2 := a0_ (Kd.N_below (na_ HO_2.out) hb); replace HL356_0 := a0_ (Kd.V_below (va_ HL356_0.out) hb); replace HR356_0 := a0_ (Kd.C_below (ca_ HR356_0.out) hb); replace HB := a0_ (below_step (bl0_) hb); (try clear hb); have p358 : 0 ≤ (x3_1 : Int) := od_; have q358 : x3_1 < (t350.length : Int) := od_; obtain ⟨ad358, A358_0, c358_0, e358, hx358_0, hl358_0, hi358_0⟩ := at_L4 (Kd.N_reads' HO_1.out).2.2 x3_1 p358 q358; obtain rfl : ad356 = ad358 := (by injection e358); obtain ⟨ce358, hce358, hMe358, hcc358⟩ := Kd.N_get HO_1.out [] x3_1 p358 (by first | exact q358 | exact od_ | (have e_ := (Kd.N_reads' HO_1.out).1; omega)); obtain ⟨ua358_0, uc358_0, rfl, ul358_0, ge358_0⟩ := Kd.FK_slice_open hMe358; have hv358_0 := hcc358 0 _ rfl; rw [Nat.add_zero, show ((Kd.slice 56 k56)).sz = 1 from rfl, Nat.mul_one] at hv358_0; replace hv358_0 := Option.some.inj (hv358_0.symm.trans hx358_0); injection hv358_0 with hva_ hvn_ hvc_; rw [hva_] at ge358_0; rw [hvc_] at ul358_0; have HL358_0 := a0_ (show Kd.V k56 56 _ w.heap.size _ _ (rd_L4 t350 x3_1) from Kd.V_mk ul358_0 ge358_0); clear hva_ hvn_ hvc_ ge358_0 ul358_0; clear hcc358 hce358; have HR358_0 := Aside0.mk hi358_0; have HC358_0 := Aside0.mk hl358_0; clear hi358_0 hl358_0; replace p358 := eq_true p358; replace q358 := eq_true q358) | ((with_reducible refine gate_builtin (b := .append) (xs := #[.tmp 18, .tmp 23]) rfl ?_); at_builtin; refine Kd.N_append (Kd.slice 56 k56) (w0 := w) w.heap.size rfl (.tmp 18) (.tmp 23) 22 29 (.slice none 0 0) 24 rfl Tryz.underlying22 info29 rfl (by decide) (by omega) u2 x2_1 (rd_L4 t350 x3_1) [.slice A358_0 (rd_L4 t350 x3_1).length c358_0] (fun k_ => (w.heap.size ≤ k_) ∧ some k_ ≠ (.slice (some ad356) t350.length co13 : Value).ownBlock) (fun k_ => ((fun k_ => (w.heap.size ≤ k_) ∧ some k_ ≠ (.slice (some ad356) t350.length co13 : Value).ownBlock)) k_ ∧ some k_ ≠ (u2 : Value).ownBlock) rfl rfl ?aP (fun _ hk => hk) ?aF ?aO ?aB ?aS ?aL ?_; (case aP => exact (Kd.FK_slice_mk (Kd.V_reads' (Kd.V_mono (ok' := (fun k_ => ((fun k_ => (w.heap.size ≤ k_) ∧ some k_ ≠ (.slice (some ad356) t350.length co13 : Value).ownBlock)) k_ ∧ some k_ ≠ (u2 : Value).ownBlock)) (HL358_0.out) (fun k_ hk => ⟨⟨hk.1.1, hk.2⟩, hk.1.2⟩))).2.1 (Kd.V_F (Kd.V_mono (ok' := (fun k_ => ((fun k_ => (w.heap.size ≤ k_) ∧ some k_ ≠ (.slice (some ad356) t350.length co13 : Value).ownBlock)) k_ ∧ some k_ ≠ (u2 : Value).ownBlock)) (HL358_0.out) (fun k_ hk => ⟨⟨hk.1.1, hk.2⟩, hk.1.2⟩))))); (case aB => exact (bl0_)); (case aF => exact (fun k_ hk => ⟨(Nat.le_trans (below_size (bl0_)) hk), Kd.fresh' (Kd.N_lt (na_ HO_1.out)) k_ hk⟩)); (case aO => exact (na_ HO_2.out)); (case aS => exact (below_size (bl0_))); (case aL => have := LMc12.out; omega); intro v360 w15 ho hb hg hat; rw [← Ny359.out] at ho; replace HO_1 := a0_ (Kd.N_afterv (ok := (fun k_ => (w.heap.size ≤ k_))) (na_ HO_1.out) hg hat); replace HL356_0 := a0_ (Kd.V_afterv (ok := (fun k_ => (w.heap.size ≤ k_) ∧ some k_ ≠ (.slice (some ad356) t350.length co13 : Value).ownBlock)) (by (with_reducible repeat (first | apply Kd.V_alloc | apply Kd.V_drewN | apply Kd.V_drew)); exact Kd.V_mono HL356_0.out (fun _ hk => ⟨⟨hk.1.1, hk.2⟩, hk.1.2⟩)) hg hat); replace HL358_0 := a0_ (Kd.V_afterv (ok := (fun k_ => (w.heap.size ≤ k_) ∧ some k_ ≠ (.slice (some ad356) t350.length co13 : Value).ownBlock)) (by (with_reducible repeat (first | apply Kd.V_alloc | apply Kd.V_drewN | apply Kd.V_drew)); exact Kd.V_mono HL358_0.out (fun _ hk => ⟨⟨hk.1.1, hk.2⟩, hk.1.2⟩)) hg hat); replace HB := a0_ (hb); have HO361 := a0_ (ho); clear HO_2; clear ho hb hg hat))
       go_roundg k1
       case measure => have := HK1.out; omega
       case rel => exact ⟨(y359), (wrap64 (x3_1 + 1)), rs_, H', ⟨by have := HK1.out; omega⟩, ⟨na_ HO_1.out⟩, ⟨na_ HO361.out⟩, ⟨bl0_⟩⟩
      ·rw [if_neg c12] at H
       exact absurd H (by simp)
     ·replace c11 := Bool.eq_false_iff.mpr c11
      subst c11
      rw [if_neg (show ¬ (false = true) by decide)] at H
      have H' := Aside0.mk H
      clear H
      obtain ⟨Ao16, co16, eo16⟩ := Kd.N_slice HO_1.out
      subst eo16
      have p356 : 0 ≤ (x3_1 : Int) := od_
      have q356 : x3_1 < (t350.length : Int) := od_
      obtain ⟨ad356, A356_0, c356_0, e356, hx356_0, hl356_0, hi356_0⟩ := at_L4 (Kd.N_reads' HO_1.out).2.2 x3_1 p356 q356
      cases e356
      obtain ⟨ce356, hce356, hMe356, hcc356⟩ := Kd.N_get HO_1.out [] x3_1 p356 (by first | exact q356 | exact od_ | (have e_ := (Kd.N_reads' HO_1.out).1; omega))
      obtain ⟨ua356_0, uc356_0, rfl, ul356_0, ge356_0⟩ := Kd.FK_slice_open hMe356
      have hv356_0 := hcc356 0 _ rfl
      rw [Nat.add_zero, show ((Kd.slice 56 k56)).sz = 1 from rfl, Nat.mul_one] at hv356_0
      replace hv356_0 := Option.some.inj (hv356_0.symm.trans hx356_0)
      injection hv356_0 with hva_ hvn_ hvc_
      rw [hva_] at ge356_0
      rw [hvc_] at ul356_0
      have HL356_0 := a0_ (show Kd.V k56 56 _ w.heap.size _ _ (rd_L4 t350 x3_1) from Kd.V_mk ul356_0 ge356_0)
      clear hva_ hvn_ hvc_ ge356_0 ul356_0
      clear hcc356 hce356
      have HR356_0 := Aside0.mk hi356_0
      have HC356_0 := Aside0.mk hl356_0
      clear hi356_0 hl356_0
      replace p356 := eq_true p356
      replace q356 := eq_true q356
      go_wp2_with (first | ((with_reducible refine gate_callee (f := 13) rfl ?_); refine goesL_ (some 17) rfl rfl Tryz.func13 kr_ rfl #[.slice A356_0 (rd_L4 t350 x3_1).length c356_0] rfl ta_ ?_; (with_reducible refine (spec_IsNet.calls k1 _ _ (rd_L4 t350 x3_1) false _ ?side1 ?side2 A10.out).mono ?_); (case side1 => exact ca_ HR356_0.out); (case side2 => exact HC356_0.out); rintro e w17 ⟨rfl, hb⟩; refine ⟨_, rfl, ?_⟩; replace HO_1 := a0_ (Kd.N_below (na_ HO_1.out) hb); replace HO_2 := a0_ (Kd.N_below (na_ HO_2.out) hb); replace HL356_0 := a0_ (Kd.V_below (va_ HL356_0.out) hb); replace HR356_0 := a0_ (Kd.C_below (ca_ HR356_0.out) hb); replace HB := a0_ (below_step (bl0_) hb); (try clear hb)))
      go_roundg k1
      case measure => have := HK1.out; omega
      case rel => exact ⟨(x2_1), (wrap64 (x3_1 + 1)), rs_, H', ⟨by have := HK1.out; omega⟩, ⟨na_ HO_1.out⟩, ⟨na_ HO_2.out⟩, ⟨bl0_⟩⟩
    ·rw [if_neg c9] at H
     exact absurd H (by simp)
   ·rw [if_neg c8] at H
    have c8b0 : decide (x3_1 < (t350.length : Int)) = false := decide_eq_false c8
    clear c8
    obtain rfl := Option.some.inj H
    obtain ⟨Ao18, co18, eo18⟩ := Kd.N_slice HO_1.out
    subst eo18
    go_wp2
    go_ret
    exact ⟨_, er_, by (with_reducible repeat (first | apply Kd.N_alloc | apply Kd.N_drewN | apply Kd.N_drew)); exact Kd.N_mono HO_2.out (fun _ hk => hk.1), bl0_⟩
def impl_within.f (a0 : Int) (a1 : Int) (a2 : Int) : Option (Bool) := if a0 ≥ a1 then (some (decide (a0 ≤ a2))) else (some false)
set_option maxHeartbeats 8000000 in
set_option maxRecDepth 100000 in
theorem impl_within.calls (a0 : Int) (a1 : Int) (a2 : Int) (r : Bool) (w : World) (h : impl_within.f a0 a1 a2 = some r) :
  Calls Tryz.prog 54 #[.int .i64 a0, .int .i64 a1, .int .i64 a2] w fun e w' => e = .returned (.bool r) ∧ Drawn0 w w' := by
 have H : (if a0 ≥ a1 then (some (decide (a0 ≤ a2))) else (some false)) = some r := h
 clear h
 by_cases c4 : a0 ≥ a1
 ·rw [if_pos c4] at H
  have c4b0 : decide (a1 ≤ a0) = true := decide_eq_true c4
  clear c4
  obtain rfl := Option.some.inj H
  go_enter Tryz.func54, Tryz.ntmps54
  go_wp2
  go_ret
  exact ⟨by first | rfl | (simp; done) | (simp [*]; done), by repeat (first | exact Drawn0.refl _ | apply Drawn0.step)⟩
 ·rw [if_neg c4] at H
  have c4b0 : decide (a1 ≤ a0) = false := decide_eq_false c4
  clear c4
  obtain rfl := Option.some.inj H
  go_enter Tryz.func54, Tryz.ntmps54
  go_wp2
  go_ret
  exact ⟨by first | rfl | (simp; done) | (simp [*]; done), by repeat (first | exact Drawn0.refl _ | apply Drawn0.step)⟩
def impl_isCoordinate.f (a0 : Int) : Option (Bool) := (impl_within.f a0 (-100) 100).bind fun t362 => (some t362)
set_option maxHeartbeats 8000000 in
set_option maxRecDepth 100000 in
theorem impl_isCoordinate.calls (a0 : Int) (r : Bool) (w : World) (h : impl_isCoordinate.f a0 = some r) :
  Calls Tryz.prog 79 #[.int .i64 a0] w fun e w' => e = .returned (.bool r) ∧ Drawn0 w w' := by
 have H : ((impl_within.f a0 (-100) 100).bind fun t362 => (some t362)) = some r := h
 clear h
 obtain ⟨t362, A2, H⟩ := bs_ H
 obtain rfl := Option.some.inj H
 go_enter Tryz.func79, Tryz.ntmps79
 go_wp2_with (first | ((with_reducible refine gate_callee (f := 54) rfl ?_); refine goesL_ (some 4) rfl rfl Tryz.func54 kr_ rfl #[.int .i64 a0, .int .i64 (-100), .int .i64 100] rfl ta_ ?_; (with_reducible refine (impl_within.calls a0 (-100) 100 t362 _ A2.out).mono ?_); rintro e w' ⟨rfl, ⟨nd, rfl⟩⟩; refine ⟨_, rfl, ?_⟩))
 go_ret
 exact ⟨by first | rfl | (simp; done) | (simp [*]; done), by repeat (first | exact Drawn0.refl _ | apply Drawn0.step)⟩
def cmp_isNaN_int64.f (a0 : Int) : Option (Bool) := some (a0 != a0)
set_option maxHeartbeats 8000000 in
set_option maxRecDepth 100000 in
theorem cmp_isNaN_int64.calls (a0 : Int) (r : Bool) (w : World) (h : cmp_isNaN_int64.f a0 = some r) :
  Calls Tryz.prog 100 #[.int .i64 a0] w fun e w' => e = .returned (.bool r) ∧ Drawn0 w w' := by
 have H : (some (a0 != a0)) = some r := h
 clear h
 obtain rfl := Option.some.inj H
 go_enter Tryz.func100, Tryz.ntmps100
 go_wp2
 go_ret
 exact ⟨by first | rfl | (simp; done) | (simp [*]; done), by repeat (first | exact Drawn0.refl _ | apply Drawn0.step)⟩
end Go.Proofs.YtmdjkmfocgelnaaGreatDoor.PFnAllNets
