/- Over the kit's printer by a driver of mine (hprint.py), with parts by hand: functions of the program as Lean functions, and that each call comes to exactly these answers. -/
import Derived.Test.YtmdjkmfocgelnaaGreatDoorPFnAllNetsx0
import Derived.Test.YtmdjkmfocgelnaaGreatDoorPFnAllNetsx4
import Derived.Test.YtmdjkmfocgelnaaGreatDoorPFnAllNetsx7
import Derived.Test.YtmdjkmfocgelnaaGreatDoorPFnAllNetsx8
import Derived.Test.YtmdjkmfocgelnaaGreatDoorPFnAllNetsx9
namespace Go.Proofs.YtmdjkmfocgelnaaGreatDoor.PFnAllNets
open Go.RowKit Go.Proofs.YtmdjkmfocgelnaaGreatDoorW.PrintWords Go.Proofs.YtmdjkmfocgelnaaGreatDoorW.PrintLast Go.Proofs.YtmdjkmfocgelnaaGreatDoorW.PrintMore
attribute [local go_sem] max2_int min2_int max_two min_two max_three min_three max_four min_four   
set_option linter.unusedVariables false
set_option linter.unusedSimpArgs false
mutual
def spec_l05Own.l0 : Nat → List (List (S56)) → Int → List (List (S56)) → Int → Option ((List (List (S56))))
 | 0, _, _, _, _ => none
 | k + 1, x0, x1, x5, x6 => if x6 < (x0.length : Int) then (spec_l05Own.l1 k x0 x1 x5 x6 true 1) else (some x5)
def spec_l05Own.l1 : Nat → List (List (S56)) → Int → List (List (S56)) → Int → Bool → Int → Option ((List (List (S56))))
 | 0, _, _, _, _, _, _ => none
 | k + 1, x0, x1, x5, x6, x7, x8 => if x8 < x1 then (if x7 = true then (if 0 ≤ x6 then (if x6 < (x0.length : Int) then ((spec_l03Form.f k (rd_L4 x0 x6) x8).bind fun t275 => ((spec_CompareShapes.f k (rd_L4 x0 x6) t275).bind fun t278 => (spec_l05Own.l1 k x0 x1 x5 x6 (decide (t278 ≤ 0)) (wrap64 (x8 + 1))))) else (none)) else (none)) else (spec_l05Own.l1 k x0 x1 x5 x6 false (wrap64 (x8 + 1)))) else (if x7 = true then (if 0 ≤ x6 then (if x6 < (x0.length : Int) then (if x5.length < 5864062014805 then (spec_l05Own.l0 k x0 x1 (x5 ++ [rd_L4 x0 x6]) (wrap64 (x6 + 1))) else (none)) else (none)) else (none)) else (spec_l05Own.l0 k x0 x1 x5 (wrap64 (x6 + 1))))
end
def spec_l05Own.f (k : Nat) (l0 : List (List (S56))) (a1 : Int) : Option ((List (List (S56)))) := spec_l05Own.l0 k l0 a1 (([] : List (List (S56)))) 0
def spec_l05Own.T9 : Bool × List (List Nat × List Nat) := (true, [([], []), ([0], [0]), ([1], [1]), ([1], [1]), ([2, 3, 1], [1, 2, 3]), ([4, 1], [1, 4]), ([1], [1]), ([1], [1]), ([6, 7, 1], [1, 6, 7]), ([8, 1], [1, 8]), ([1], [1]), ([9, 10, 1, 1], [1, 9, 10]), ([5, 11, 11, 1], [1, 5, 11]), ([12, 1], [1, 12]), ([1, 13], [1, 13]), ([14, 12, 0, 1, 2, 3, 4, 5, 6, 7, 8, 9, 10, 11, 12, 13, 14], [0, 14])])
def spec_l05Own.B9 : List Nat := [0, 1, 3, 3, 15, 31, 3, 3, 195, 451, 3, 1987, 4095, 8191, 16383, 32767]
theorem spec_l05Own.tab9 : rtab .any (opsOf Tryz.f19 9) = spec_l05Own.T9 := by kernel_rfl
theorem spec_l05Own.bits9 : waitsOk spec_l05Own.T9.2 spec_l05Own.B9 = true := by kernel_rfl
set_option maxHeartbeats 8000000 in
set_option maxRecDepth 100000 in
theorem spec_l05Own.calls (k : Nat) (P0_ : Nat → Prop) (A0 : Option Addr) (c0 : Nat) (l0 : List (List (S56))) (a1 : Int) (r : List (List (S56))) (w : World) (hs0 : Kd.V (Kd.slice 56 k56) 29 w w.heap.size (fun k_ => P0_ k_) (.slice A0 l0.length c0) l0) (h : spec_l05Own.f k l0 a1 = some r) :
  Calls Tryz.prog 19 #[.slice A0 l0.length c0, .int .i64 a1] w fun e w' => ∃ v0_ : Value, e = .returned (v0_) ∧ Kd.N (Kd.slice 56 k56) 29 w' w.heap.size (fun k_ => (P0_ k_ ∨ w.heap.size ≤ k_)) v0_ r ∧ Below w.heap.size w w' := by
 have HO0 := a0_ (show Kd.V (Kd.slice 56 k56) 29 w w.heap.size (fun k_ => (P0_ k_ ∨ w.heap.size ≤ k_)) (.slice A0 l0.length c0) l0 from Kd.V_mono hs0 (fun k_ hk => .inl hk))
 have HB := a0_ (Below.refl w.heap.size w)
 have H : (spec_l05Own.l0 k l0 a1 (([] : List (List (S56)))) 0) = some r := h
 clear h
 obtain ⟨y270, hy270⟩ : ∃ y_ : List (List (S56)), y_ = (([] : List (List (S56)))) := ⟨_, rfl⟩
 replace H : (spec_l05Own.l0 k l0 a1 y270 0) = some r := hh_ hy270 H
 have Ny270 := Aside0.mk hy270
 clear hy270
 have H' := Aside0.mk H
 clear H
 go_enter Tryz.func19, Tryz.ntmps19
 go_wp2_with (first | ((with_reducible refine gate_dst (N := 9) rfl ?_); refine Kd.N_lit (Kd.slice 56 k56) _ 29 ?hg (N' := 9) ?hd (xs := ([] : List (List (S56)))) (inner := []) (ok := (fun k_ => (P0_ k_ ∨ w.heap.size ≤ k_))) (okp := (fun k_ => (P0_ k_ ∨ w.heap.size ≤ k_))) ?hr ?hp (fun _ hk => hk) ((show ∀ k_, w.heap.size ≤ k_ → (fun k_ => (P0_ k_ ∨ w.heap.size ≤ k_)) k_ from fun k_ hk => (.inr (Nat.le_trans (below_size (bl0_)) hk))) _ (Nat.le_refl _)) (Below.refl _ _) (Nat.le_refl _) (by simp) ?_; (case hd => rfl); (case hg => rfl); (case hr => first | (go_simp; done) | (go_simp; rfl)); (case hp => exact (Reps.none _ _)); intro v271 w3 ho4 hb hg_ hnew_; clear hg_ hnew_; (first | rw [← Ny270.out] at ho4 | (simp only [Int.reduceToNat] at ho4; rw [← Ny270.out] at ho4)); replace HO0 := a0_ (Kd.V_elder' (va_ HO0.out) (Kd.N_base ho4) hb); have HO272 := a0_ (Kd.N_lower ho4 (below_size (bl0_))); replace HB := a0_ (below_step (bl0_) hb); clear hb ho4))
 go_loopg [5, 6] k (fun kq v5 v6 w' => ∃ (x5_1 : List (List (S56))) (x6_1 : Int), v6 = .int .i64 x6_1 ∧ Aside0 (spec_l05Own.l0 kq l0 a1 x5_1 x6_1 = some r) ∧ Aside0 (kq ≤ k) ∧ Aside0 (Kd.V (Kd.slice 56 k56) 29 w' w.heap.size (fun k_ => (P0_ k_ ∨ w.heap.size ≤ k_) ∧ some k_ ≠ (v5 : Value).ownBlock) (.slice A0 l0.length c0) l0) ∧ Aside0 (Kd.N (Kd.slice 56 k56) 29 w' w.heap.size (fun k_ => (P0_ k_ ∨ w.heap.size ≤ k_)) v5 x5_1) ∧ Aside0 (Below w.heap.size w w'))
 case atStart => exact ⟨(y270), (0), rs_, H', ⟨Nat.le_refl _⟩, ⟨va_ HO0.out⟩, ⟨na_ HO272.out⟩, ⟨bl0_⟩⟩
 case round =>
  clear H'
  obtain ⟨x5_1, x6_1, rfl, HA, HK1, HO_0, HO_5, HB⟩ := hrel
  cases gk with
  | zero => exact absurd HA.out (by simp [spec_l05Own.l0])
  | succ k1 =>
   have H := HA.out
   clear HA
   simp only [spec_l05Own.l0] at H
   by_cases c5 : x6_1 < (l0.length : Int)
   ·rw [if_pos c5] at H
    have c5b0 : decide (x6_1 < (l0.length : Int)) = true := decide_eq_true c5
    clear c5
    have H' := Aside0.mk H
    clear H
    go_wp2
    go_loopg [7, 8] k1 (fun kq v7 v8 w' => ∃ (x7_2 : Bool) (x8_2 : Int), v7 = .bool x7_2 ∧ v8 = .int .i64 x8_2 ∧ Aside0 (spec_l05Own.l1 kq l0 a1 x5_1 x6_1 x7_2 x8_2 = some r) ∧ Aside0 (kq ≤ k1) ∧ Aside0 (Kd.V (Kd.slice 56 k56) 29 w' w.heap.size (fun k_ => (P0_ k_ ∨ w.heap.size ≤ k_) ∧ some k_ ≠ (u5 : Value).ownBlock) (.slice A0 l0.length c0) l0) ∧ Aside0 (Kd.N (Kd.slice 56 k56) 29 w' w.heap.size (fun k_ => (P0_ k_ ∨ w.heap.size ≤ k_)) u5 x5_1) ∧ Aside0 (Below w.heap.size w w'))
    case atStart => exact ⟨(true), (1), rs_, rs_, H', ⟨Nat.le_refl _⟩, ⟨va_ HO_0.out⟩, ⟨na_ HO_5.out⟩, ⟨bl0_⟩⟩
    case round =>
     clear H'
     try clear c5b0
     obtain ⟨x7_2, x8_2, rfl, rfl, HA, HK2, HO_0, HO_5, HB⟩ := hrel
     cases gk with
     | zero => exact absurd HA.out (by simp [spec_l05Own.l1])
     | succ k2 =>
      have H := HA.out
      clear HA
      simp only [spec_l05Own.l1] at H
      by_cases c6 : x8_2 < a1
      ·rw [if_pos c6] at H
       have c6b0 : decide (x8_2 < a1) = true := decide_eq_true c6
       clear c6
       by_cases c7 : x7_2 = true
       ·subst c7
        rw [if_pos rfl] at H
        by_cases c8 : 0 ≤ x6_1
        ·rw [if_pos c8] at H
         have c8b0 : decide (0 ≤ x6_1) = true := decide_eq_true c8
         clear c8
         by_cases c9 : x6_1 < (l0.length : Int)
         ·rw [if_pos c9] at H
          have c9b0 : decide (x6_1 < (l0.length : Int)) = true := decide_eq_true c9
          clear c9
          obtain ⟨t275, A10, H⟩ := bs_ H
          obtain ⟨t278, A11, H⟩ := bs_ H
          have H' := Aside0.mk H
          clear H
          try go_wp2
          replace HO_0 := a0_ (Kd.V_drew HO_0.out)
          replace HO_5 := a0_ (Kd.N_drew HO_5.out)
          replace HB := a0_ (below_drew1 HB.out)
          have p273 : 0 ≤ (x6_1 : Int) := od_
          have q273 : x6_1 < (l0.length : Int) := od_
          obtain ⟨ad273, A273_0, c273_0, e273, hx273_0, hl273_0, hi273_0⟩ := at_L4 (Kd.V_reads' HO_0.out).2.2 x6_1 p273 q273
          cases e273
          obtain ⟨ce273, hce273, hMe273, hcc273⟩ := Kd.V_get HO_0.out [] x6_1 p273 (by first | exact q273 | exact od_ | (have e_ := (Kd.V_reads' HO_0.out).1; omega))
          obtain ⟨ua273_0, uc273_0, rfl, ul273_0, ge273_0⟩ := Kd.FK_slice_open hMe273
          have hv273_0 := hcc273 0 _ rfl
          rw [Nat.add_zero, show ((Kd.slice 56 k56)).sz = 1 from rfl, Nat.mul_one] at hv273_0
          replace hv273_0 := Option.some.inj (hv273_0.symm.trans hx273_0)
          injection hv273_0 with hva_ hvn_ hvc_
          rw [hva_] at ge273_0
          rw [hvc_] at ul273_0
          have HL273_0 := a0_ (show Kd.V k56 56 _ w.heap.size _ _ (rd_L4 l0 x6_1) from Kd.V_mk ul273_0 ge273_0)
          clear hva_ hvn_ hvc_ ge273_0 ul273_0
          clear hcc273 hce273
          have HR273_0 := Aside0.mk hi273_0
          have HC273_0 := Aside0.mk hl273_0
          clear hi273_0 hl273_0
          replace p273 := eq_true p273
          replace q273 := eq_true q273
          have p274 : 0 ≤ (x6_1 : Int) := od_
          have q274 : x6_1 < (l0.length : Int) := od_
          obtain ⟨ad274, A274_0, c274_0, e274, hx274_0, hl274_0, hi274_0⟩ := at_L4 (Kd.V_reads' HO_0.out).2.2 x6_1 p274 q274
          obtain rfl : ad273 = ad274 := (by injection e274)
          obtain ⟨ce274, hce274, hMe274, hcc274⟩ := Kd.V_get HO_0.out [] x6_1 p274 (by first | exact q274 | exact od_ | (have e_ := (Kd.V_reads' HO_0.out).1; omega))
          obtain ⟨ua274_0, uc274_0, rfl, ul274_0, ge274_0⟩ := Kd.FK_slice_open hMe274
          have hv274_0 := hcc274 0 _ rfl
          rw [Nat.add_zero, show ((Kd.slice 56 k56)).sz = 1 from rfl, Nat.mul_one] at hv274_0
          replace hv274_0 := Option.some.inj (hv274_0.symm.trans hx274_0)
          injection hv274_0 with hva_ hvn_ hvc_
          rw [hva_] at ge274_0
          rw [hvc_] at ul274_0
          have HL274_0 := a0_ (show Kd.V k56 56 _ w.heap.size _ _ (rd_L4 l0 x6_1) from Kd.V_mk ul274_0 ge274_0)
          clear hva_ hvn_ hvc_ ge274_0 ul274_0
          clear hcc274 hce274
          have HR274_0 := Aside0.mk hi274_0
          have HC274_0 := Aside0.mk hl274_0
          clear hi274_0 hl274_0
          replace p274 := eq_true p274
          replace q274 := eq_true q274
          have ea_ := Option.some.inj (hx273_0.symm.trans hx274_0)
          injection ea_ with ea_ en_ ec_
          subst ea_
          subst ec_
          clear en_
          refine start_ (n := 16) (S := fun w' => w'.cell? (ad273.add (x6_1).toNat) = some (.slice A273_0 (rd_L4 l0 x6_1).length c273_0) ∧ w'.cell? (ad273.add (x6_1).toNat) = some (.slice A273_0 (rd_L4 l0 x6_1).length c273_0)) (ds := []) (mk_ 0 16) kr_ rfl rfl ⟨hx273_0, hx274_0⟩ (fun hHeld => ?_); refine with_tabW spec_l05Own.tab9 spec_l05Own.bits9 (fun HT_ HW_ => ?_)
          generalize wr.drew = w12 at HO_0 HO_5 HB HL273_0 HL274_0 HR273_0 HR274_0 hx273_0 hx274_0 hHeld ⊢
          refine pu_ 0 (some 21) (mk_ 1 15) HT_ ?_
          refine pu_ 1 (some 22) (mk_ 2 14) HT_ ?_
          refine pu_ 2 (some 23) (mk_ 3 13) HT_ ?_
          refine pu_ 3 (some 24) (mk_ 4 12) HT_ ?_
          refine pu_ 4 (some 25) (mk_ 5 11) HT_ ?_
          refine pu_ 6 (some 27) #[true, true, true, true, true, false, true, false, false, false, false, false, false, false, false, false] HT_ ?_
          refine pu_ 7 (some 28) #[true, true, true, true, true, false, true, true, false, false, false, false, false, false, false, false] HT_ ?_
          refine pu_ 8 (some 29) #[true, true, true, true, true, false, true, true, true, false, false, false, false, false, false, false] HT_ ?_
          refine pu_ 10 (some 31) #[true, true, true, true, true, false, true, true, true, false, true, false, false, false, false, false] HT_ ?_
          refine tk_ 5 (some 26) #[true, true, true, true, true, true, true, true, true, false, true, false, false, false, false, false] HT_ HW_ hHeld (hy := .inl ⟨by rfl, by rintro w' ⟨s0, s1⟩; go_simp; with_reducible rfl⟩) ?_
          refine tk_ 9 (some 30) (mk_ 11 5) HT_ HW_ hHeld (hy := .inl ⟨by rfl, by rintro w' ⟨s0, s1⟩; go_simp; with_reducible rfl⟩) ?_
          refine one_ (i := 11) (N := some 32) (mk_ 12 4) rfl rfl (one_of HT_.out kr_) (by decide) (fun K hK => ?_)
          refine goes_ Tryz.func38 kr_ rfl #[.slice A273_0 (rd_L4 l0 x6_1).length c273_0, .int .i64 x8_2] (by rfl) rfl rfl ta_ ?_
          with_reducible refine (spec_l03Form.calls k2 _ _ (rd_L4 l0 x6_1) x8_2 t275 _ ?side1 ?side2 A10.out).mono ?_
          (case side1 => exact ca_ HR274_0.out)
          (case side2 => exact HC274_0.out)
          rintro e w13 ⟨v276, rfl, ho0, hb⟩
          have HS0_ := (hb.cell (World.block_lt_of_cell? _ _ (hHeld.1))).trans (hHeld.1)
          have HS1_ := (hb.cell (World.block_lt_of_cell? _ _ (hHeld.2))).trans (hHeld.2)
          refine ⟨_, rfl, ?_⟩
          replace HO_0 := a0_ (Kd.V_elder' (va_ HO_0.out) (Kd.R_base ho0) hb)
          replace HO_5 := a0_ (Kd.N_elder' (na_ HO_5.out) (Kd.R_base ho0) hb)
          replace HL273_0 := a0_ (Kd.V_elder' (va_ HL273_0.out) (Kd.R_base ho0) hb)
          replace HL274_0 := a0_ (Kd.V_elder' (va_ HL274_0.out) (Kd.R_base ho0) hb)
          have HO277 := a0_ (Kd.R_lower (Kd.R_newM (M := fun k_ => (w.heap.size ≤ k_)) ho0 (below_size (bl0_)) (fun k_ h_ => h_)) (below_size (bl0_)))
          replace HR273_0 := a0_ (Kd.C_below (ca_ HR273_0.out) hb)
          replace HR274_0 := a0_ (Kd.C_below (ca_ HR274_0.out) hb)
          replace HB := a0_ (below_step (bl0_) hb)
          (try clear hb)
          (try clear hk)
          (try clear ho0)
          obtain ⟨Ao14, co14, eo14⟩ := Kd.R_slice HO277.out
          (first | subst eo14 | (injection eo14 with f1_ f2_ f3_; have f4_ := f1_.symm; have f5_ := f3_.symm; clear f1_ f2_ f3_; subst f4_; subst f5_))
          refine hK.out _ _ ⟨HS0_, HS1_⟩ (fun hHeld => ?_)
          clear hK K
          refine nm_ ?_
          refine one_ (i := 12) (N := some 33) (mk_ 13 3) rfl rfl (one_of HT_.out kr_) (by decide) (fun K hK => ?_)
          refine goes_ Tryz.func37 kr_ rfl #[.slice A273_0 (rd_L4 l0 x6_1).length c273_0, .slice Ao14 t275.length co14] (by rfl) rfl rfl ta_ ?_
          with_reducible refine (spec_CompareShapes.calls k2 _ _ (rd_L4 l0 x6_1) _ _ t275 t278 _ ?side1 ?side2 ?side3 ?side4 A11.out).mono ?_
          (case side1 => exact ca_ HR273_0.out)
          (case side2 => exact HC273_0.out)
          (case side3 => exact ca_ (Kd.R_reads' HO277.out).2.2)
          (case side4 => exact (Kd.R_reads' HO277.out).2.1)
          rintro e w15 ⟨rfl, hb⟩
          have HS0_ := (hb.cell (World.block_lt_of_cell? _ _ (hHeld.1))).trans (hHeld.1)
          have HS1_ := (hb.cell (World.block_lt_of_cell? _ _ (hHeld.2))).trans (hHeld.2)
          refine ⟨_, rfl, ?_⟩
          replace HO_0 := a0_ (Kd.V_below (va_ HO_0.out) hb)
          replace HO_5 := a0_ (Kd.N_below (na_ HO_5.out) hb)
          replace HL273_0 := a0_ (Kd.V_below (va_ HL273_0.out) hb)
          replace HL274_0 := a0_ (Kd.V_below (va_ HL274_0.out) hb)
          replace HO277 := a0_ (Kd.R_below (ra_ HO277.out) hb)
          replace HR273_0 := a0_ (Kd.C_below (ca_ HR273_0.out) hb)
          replace HR274_0 := a0_ (Kd.C_below (ca_ HR274_0.out) hb)
          replace HB := a0_ (below_step (bl0_) hb)
          (try clear hb)
          refine hK.out _ _ ⟨HS0_, HS1_⟩ (fun hHeld => ?_)
          clear hK K
          refine nm_ ?_
          refine pu_ 13 (some 34) (mk_ 14 2) HT_ ?_
          refine pu_ 14 (some 35) (mk_ 15 1) HT_ ?_
          refine pu_ 15 (some 7) (mk_ 16 0) HT_ ?_
          refine done_ (done_of HT_.out kr_) ?_
          try go_wp2
          go_roundg k2
          case measure => have := HK1.out; have := HK2.out; omega
          case rel => exact ⟨(decide (t278 ≤ 0)), (wrap64 (x8_2 + 1)), rs_, rs_, H', ⟨by have := HK1.out; have := HK2.out; omega⟩, ⟨by (with_reducible repeat (first | apply Kd.V_alloc | apply Kd.V_drewN | apply Kd.V_drew)); exact Kd.V_mono HO_0.out (fun _ hk => ⟨hk.1.1, hk.1.2⟩)⟩, ⟨by (with_reducible repeat (first | apply Kd.N_alloc | apply Kd.N_drewN | apply Kd.N_drew)); exact Kd.N_mono HO_5.out (fun _ hk => hk.1)⟩, ⟨bl0_⟩⟩
         ·rw [if_neg c9] at H
          exact absurd H (by simp)
        ·rw [if_neg c8] at H
         exact absurd H (by simp)
       ·replace c7 := Bool.eq_false_iff.mpr c7
        subst c7
        rw [if_neg (show ¬ (false = true) by decide)] at H
        have H' := Aside0.mk H
        clear H
        try go_wp2
        replace HO_0 := a0_ (Kd.V_drew HO_0.out)
        replace HO_5 := a0_ (Kd.N_drew HO_5.out)
        replace HB := a0_ (below_drew1 HB.out)
        refine start_ (n := 16) (S := fun w' => True) (ds := []) (mk_ 0 16) kr_ rfl rfl trivial (fun hHeld => ?_); refine with_tabW spec_l05Own.tab9 spec_l05Own.bits9 (fun HT_ HW_ => ?_)
        generalize wr.drew = w16 at HO_0 HO_5 HB hHeld ⊢
        refine pu_ 0 (some 21) (mk_ 1 15) HT_ ?_
        refine pu_ 1 (some 22) (mk_ 2 14) HT_ ?_
        refine pn_ 2 (some 23) (mk_ 3 13) HT_ ?_
        refine pn_ 3 (some 24) (mk_ 4 12) HT_ ?_
        refine pn_ 4 (some 25) (mk_ 5 11) HT_ ?_
        refine pn_ 5 (some 26) (mk_ 6 10) HT_ ?_
        refine pn_ 6 (some 27) (mk_ 7 9) HT_ ?_
        refine pn_ 7 (some 28) (mk_ 8 8) HT_ ?_
        refine pn_ 8 (some 29) (mk_ 9 7) HT_ ?_
        refine pn_ 9 (some 30) (mk_ 10 6) HT_ ?_
        refine pn_ 10 (some 31) (mk_ 11 5) HT_ ?_
        refine pn_ 11 (some 32) (mk_ 12 4) HT_ ?_
        refine pn_ 12 (some 33) (mk_ 13 3) HT_ ?_
        refine pn_ 13 (some 34) (mk_ 14 2) HT_ ?_
        refine pu_ 14 (some 35) (mk_ 15 1) HT_ ?_
        refine pu_ 15 (some 7) (mk_ 16 0) HT_ ?_
        refine done_ (done_of HT_.out kr_) ?_
        try go_wp2
        go_roundg k2
        case measure => have := HK1.out; have := HK2.out; omega
        case rel => exact ⟨(false), (wrap64 (x8_2 + 1)), rs_, rs_, H', ⟨by have := HK1.out; have := HK2.out; omega⟩, ⟨va_ HO_0.out⟩, ⟨na_ HO_5.out⟩, ⟨bl0_⟩⟩
      ·rw [if_neg c6] at H
       have c6b0 : decide (x8_2 < a1) = false := decide_eq_false c6
       clear c6
       by_cases c17 : x7_2 = true
       ·subst c17
        rw [if_pos rfl] at H
        by_cases c18 : 0 ≤ x6_1
        ·rw [if_pos c18] at H
         have c18b0 : decide (0 ≤ x6_1) = true := decide_eq_true c18
         clear c18
         by_cases c19 : x6_1 < (l0.length : Int)
         ·rw [if_pos c19] at H
          have c19b0 : decide (x6_1 < (l0.length : Int)) = true := decide_eq_true c19
          clear c19
          by_cases c20 : x5_1.length < 5864062014805
          ·rw [if_pos c20] at H
           have LMc20 := Aside0.mk c20
           clear c20
           obtain ⟨y280, hy280⟩ : ∃ y_ : List (List (S56)), y_ = (x5_1 ++ [rd_L4 l0 x6_1]) := ⟨_, rfl⟩
           replace H : (spec_l05Own.l0 k2 l0 a1 y280 (wrap64 (x6_1 + 1))) = some r := hh_ hy280 H
           have Ny280 := Aside0.mk hy280
           clear hy280
           have H' := Aside0.mk H
           clear H
           have p279 : 0 ≤ (x6_1 : Int) := od_
           have q279 : x6_1 < (l0.length : Int) := od_
           obtain ⟨ad279, A279_0, c279_0, e279, hx279_0, hl279_0, hi279_0⟩ := at_L4 (Kd.V_reads' HO_0.out).2.2 x6_1 p279 q279
           cases e279
           obtain ⟨ce279, hce279, hMe279, hcc279⟩ := Kd.V_get HO_0.out [] x6_1 p279 (by first | exact q279 | exact od_ | (have e_ := (Kd.V_reads' HO_0.out).1; omega))
           obtain ⟨ua279_0, uc279_0, rfl, ul279_0, ge279_0⟩ := Kd.FK_slice_open hMe279
           have hv279_0 := hcc279 0 _ rfl
           rw [Nat.add_zero, show ((Kd.slice 56 k56)).sz = 1 from rfl, Nat.mul_one] at hv279_0
           replace hv279_0 := Option.some.inj (hv279_0.symm.trans hx279_0)
           injection hv279_0 with hva_ hvn_ hvc_
           rw [hva_] at ge279_0
           rw [hvc_] at ul279_0
           have HL279_0 := a0_ (show Kd.V k56 56 _ w.heap.size _ _ (rd_L4 l0 x6_1) from Kd.V_mk ul279_0 ge279_0)
           clear hva_ hvn_ hvc_ ge279_0 ul279_0
           clear hcc279 hce279
           have HR279_0 := Aside0.mk hi279_0
           have HC279_0 := Aside0.mk hl279_0
           clear hi279_0 hl279_0
           replace p279 := eq_true p279
           replace q279 := eq_true q279
           go_wp2_with (first | ((with_reducible refine gate_builtin (b := .append) (xs := #[.tmp 37, .tmp 42]) rfl ?_); at_builtin; refine Kd.N_append (Kd.slice 56 k56) (w0 := w) w.heap.size rfl (.tmp 37) (.tmp 42) 22 29 (.slice none 0 0) 24 rfl Tryz.underlying22 info29 rfl (by decide) (by omega) u5 x5_1 (rd_L4 l0 x6_1) [.slice A279_0 (rd_L4 l0 x6_1).length c279_0] (fun k_ => (P0_ k_ ∨ w.heap.size ≤ k_)) (fun k_ => ((fun k_ => (P0_ k_ ∨ w.heap.size ≤ k_))) k_ ∧ some k_ ≠ (u5 : Value).ownBlock) rfl rfl ?aP (fun _ hk => hk) ?aF ?aO ?aB ?aS ?aL ?_; (case aP => exact (Kd.FK_slice_mk (Kd.V_reads' (Kd.V_mono (ok' := (fun k_ => ((fun k_ => (P0_ k_ ∨ w.heap.size ≤ k_))) k_ ∧ some k_ ≠ (u5 : Value).ownBlock)) (HL279_0.out) (fun k_ hk => ⟨hk.1, hk.2⟩))).2.1 (Kd.V_F (Kd.V_mono (ok' := (fun k_ => ((fun k_ => (P0_ k_ ∨ w.heap.size ≤ k_))) k_ ∧ some k_ ≠ (u5 : Value).ownBlock)) (HL279_0.out) (fun k_ hk => ⟨hk.1, hk.2⟩))))); (case aB => exact (bl0_)); (case aF => exact (fun k_ hk => (.inr (Nat.le_trans (below_size (bl0_)) hk)))); (case aO => exact (na_ HO_5.out)); (case aS => exact (below_size (bl0_))); (case aL => have := LMc20.out; omega); intro v281 w21 ho hb hg hat; rw [← Ny280.out] at ho; replace HO_0 := a0_ (Kd.V_afterv (ok := (fun k_ => (P0_ k_ ∨ w.heap.size ≤ k_))) (va_ HO_0.out) hg hat); replace HL279_0 := a0_ (Kd.V_afterv (ok := (fun k_ => (P0_ k_ ∨ w.heap.size ≤ k_))) (va_ HL279_0.out) hg hat); replace HB := a0_ (hb); have HO282 := a0_ (ho); clear HO_5; clear ho hb hg hat))
           go_roundg k2
           case measure => have := HK1.out; have := HK2.out; omega
           case rel => exact ⟨(y280), (wrap64 (x6_1 + 1)), rs_, H', ⟨by have := HK1.out; have := HK2.out; omega⟩, ⟨va_ HO_0.out⟩, ⟨na_ HO282.out⟩, ⟨bl0_⟩⟩
          ·rw [if_neg c20] at H
           exact absurd H (by simp)
         ·rw [if_neg c19] at H
          exact absurd H (by simp)
        ·rw [if_neg c18] at H
         exact absurd H (by simp)
       ·replace c17 := Bool.eq_false_iff.mpr c17
        subst c17
        rw [if_neg (show ¬ (false = true) by decide)] at H
        have H' := Aside0.mk H
        clear H
        go_wp2
        go_roundg k2
        case measure => have := HK1.out; have := HK2.out; omega
        case rel => exact ⟨(x5_1), (wrap64 (x6_1 + 1)), rs_, H', ⟨by have := HK1.out; have := HK2.out; omega⟩, ⟨va_ HO_0.out⟩, ⟨na_ HO_5.out⟩, ⟨bl0_⟩⟩
   ·rw [if_neg c5] at H
    have c5b0 : decide (x6_1 < (l0.length : Int)) = false := decide_eq_false c5
    clear c5
    obtain rfl := Option.some.inj H
    go_wp2
    go_ret
    exact ⟨_, er_, by (with_reducible repeat (first | apply Kd.N_alloc | apply Kd.N_drewN | apply Kd.N_drew)); exact HO_5.out, bl0_⟩
mutual
def spec_l02Neighbours.l0 : Nat → List (S56) → List (S56) → Int → Option ((List (S56)))
 | 0, _, _, _ => none
 | k + 1, x0, x3, x4 => if x4 < (x0.length : Int) then (if 0 ≤ x4 then ((spec_l02Around.f ((rd_T56 x0 x4).f0) ((rd_T56 x0 x4).f1)).bind fun t287 => (spec_l02Neighbours.l1 k x0 x3 x4 t287 0)) else (none)) else (some x3)
def spec_l02Neighbours.l1 : Nat → List (S56) → List (S56) → Int → List (S56) → Int → Option ((List (S56)))
 | 0, _, _, _, _, _ => none
 | k + 1, x0, x3, x4, x5, x6 => if x6 < 4 then (if 0 ≤ x6 then (if x6 < (x5.length : Int) then ((spec_l02Index.f k x0 ((rd_T56 x5 x6).f0) ((rd_T56 x5 x6).f1)).bind fun t291 => (if t291 < 0 then ((spec_l02Index.f k x3 ((rd_T56 x5 x6).f0) ((rd_T56 x5 x6).f1)).bind fun t293 => (if t293 < 0 then ((spec_l02Insert.f k x3 ((rd_T56 x5 x6).f0) ((rd_T56 x5 x6).f1)).bind fun t295 => (spec_l02Neighbours.l1 k x0 t295 x4 x5 (wrap64 (x6 + 1)))) else (spec_l02Neighbours.l1 k x0 x3 x4 x5 (wrap64 (x6 + 1))))) else (spec_l02Neighbours.l1 k x0 x3 x4 x5 (wrap64 (x6 + 1))))) else (none)) else (none)) else (spec_l02Neighbours.l0 k x0 x3 (wrap64 (x4 + 1)))
end
def spec_l02Neighbours.f (k : Nat) (l0 : List (S56)) : Option ((List (S56))) := spec_l02Neighbours.l0 k l0 (([] : List (S56))) 0
set_option maxHeartbeats 8000000 in
set_option maxRecDepth 100000 in
theorem spec_l02Neighbours.calls (k : Nat) (A0 : Option Addr) (c0 : Nat) (l0 : List (S56)) (r : List (S56)) (w : World) (hr0 : Kd.C k56 w A0 l0.length l0) (hc0 : l0.length ≤ c0) (h : spec_l02Neighbours.f k l0 = some r) :
  Calls Tryz.prog 49 #[.slice A0 l0.length c0] w fun e w' => ∃ v0_ : Value, e = .returned (v0_) ∧ Kd.R k56 56 w' w.heap.size (fun _ => True) v0_ r ∧ Below w.heap.size w w' := by
 have hu56 := Tryz.underlying56
 have HR0 := Aside0.mk hr0
 have HC0 := Aside0.mk hc0
 clear hr0 hc0
 have HB := a0_ (Below.refl w.heap.size w)
 have H : (spec_l02Neighbours.l0 k l0 (([] : List (S56))) 0) = some r := h
 clear h
 obtain ⟨y283, hy283⟩ : ∃ y_ : List (S56), y_ = (([] : List (S56))) := ⟨_, rfl⟩
 replace H : (spec_l02Neighbours.l0 k l0 y283 0) = some r := hh_ hy283 H
 have Ny283 := Aside0.mk hy283
 clear hy283
 have H' := Aside0.mk H
 clear H
 go_enter Tryz.func49, Tryz.ntmps49
 go_wp2_with (first | ((with_reducible refine gate_dst (N := 7) rfl ?_); refine Kd.R_lit k56 _ 56 ?hg (N := 7) ?hd (xs := ([] : List (S56))) (inner := []) (ok := fun _ => True) (okp := fun _ => True) ?hr ?hp (fun _ hk => hk) trivial (Below.refl _ _) (Nat.le_refl _) (by simp) ?_; (case hd => rfl); (case hg => rfl); (case hr => first | (go_simp; done) | (go_simp; rfl)); (case hp => exact (Reps.none _ _)); intro v284 w2 ho3 hb hg_ hnew_; clear hg_ hnew_; (first | rw [← Ny283.out] at ho3 | (simp only [Int.reduceToNat] at ho3; rw [← Ny283.out] at ho3)); have HO285 := a0_ (Kd.R_lower ho3 (below_size (bl0_))); replace HB := a0_ (below_step (bl0_) hb); clear hb ho3))
 go_loopg [3, 4] k (fun kq v3 v4 w' => ∃ (x3_1 : List (S56)) (x4_1 : Int), v4 = .int .i64 x4_1 ∧ Aside0 (spec_l02Neighbours.l0 kq l0 x3_1 x4_1 = some r) ∧ Aside0 (kq ≤ k) ∧ Aside0 (Kd.R k56 56 w' w.heap.size (fun _ => True) v3 x3_1) ∧ Aside0 (Below w.heap.size w w'))
 case atStart => exact ⟨(y283), (0), rs_, H', ⟨Nat.le_refl _⟩, ⟨ra_ HO285.out⟩, ⟨bl0_⟩⟩
 case round =>
  clear H'
  obtain ⟨x3_1, x4_1, rfl, HA, HK1, HO_3, HB⟩ := hrel
  cases gk with
  | zero => exact absurd HA.out (by simp [spec_l02Neighbours.l0])
  | succ k1 =>
   have H := HA.out
   clear HA
   simp only [spec_l02Neighbours.l0] at H
   by_cases c4 : x4_1 < (l0.length : Int)
   ·rw [if_pos c4] at H
    have c4b0 : decide (x4_1 < (l0.length : Int)) = true := decide_eq_true c4
    clear c4
    by_cases c5 : 0 ≤ x4_1
    ·rw [if_pos c5] at H
     have c5b0 : decide (0 ≤ x4_1) = true := decide_eq_true c5
     clear c5
     obtain ⟨t287, A6, H⟩ := bs_ H
     have H' := Aside0.mk H
     clear H
     have p286 : 0 ≤ (x4_1 : Int) := od_
     have q286 : x4_1 < (l0.length : Int) := od_
     obtain ⟨ad286, e286, hx286_0, hx286_1⟩ := at_T56 HR0.out x4_1 p286 q286
     cases e286
     replace hx286_0 := hc_ hx286_0
     replace hx286_1 := hc_ hx286_1
     replace p286 := eq_true p286
     replace q286 := eq_true q286
     go_wp2_with (first | ((with_reducible refine gate_callee (f := 78) rfl ?_); refine goesL_ (some 18) rfl rfl Tryz.func78 kr_ rfl #[.agg #[.int .i64 ((rd_T56 l0 x4_1).f0), .int .i64 ((rd_T56 l0 x4_1).f1)]] rfl ta_ ?_; (with_reducible refine (spec_l02Around.calls ((rd_T56 l0 x4_1).f0) ((rd_T56 l0 x4_1).f1) t287 _ A6.out).mono ?_); rintro e w7 ⟨v288, rfl, ho0, hb⟩; refine ⟨_, rfl, ?_⟩; have HO289 := a0_ (Kd.R_lower (Kd.R_new' ho0 (Kd.R_lt (ra_ HO_3.out))) (below_size (bl0_))); replace HO_3 := a0_ (Kd.R_elder' (ra_ HO_3.out) (Kd.R_base ho0) hb); replace HB := a0_ (below_step (bl0_) hb); (try clear hb); (try clear ho0)))
     go_loopg [3, 6] k1 (fun kq v3 v6 w' => ∃ (x3_2 : List (S56)) (x6_2 : Int), v6 = .int .i64 x6_2 ∧ Aside0 (spec_l02Neighbours.l1 kq l0 x3_2 x4_1 t287 x6_2 = some r) ∧ Aside0 (kq ≤ k1) ∧ Aside0 (Kd.R k56 56 w' w.heap.size (fun k_ => some k_ ≠ (v288 : Value).ownBlock) v3 x3_2) ∧ Aside0 (Kd.R k56 56 w' w.heap.size (fun k_ => some k_ ≠ (v3 : Value).ownBlock) v288 t287) ∧ Aside0 (Below w.heap.size w w'))
     case atStart => exact ⟨(x3_1), (0), rs_, H', ⟨Nat.le_refl _⟩, ⟨by (with_reducible repeat (first | apply Kd.R_alloc | apply Kd.R_drewN | apply Kd.R_drew)); exact Kd.R_mono HO_3.out (fun _ hk => hk.2)⟩, ⟨by (with_reducible repeat (first | apply Kd.R_alloc | apply Kd.R_drewN | apply Kd.R_drew)); exact Kd.R_mono HO289.out (fun _ hk => hk.2)⟩, ⟨bl0_⟩⟩
     case round =>
      clear H'
      try clear c4b0
      try clear c5b0
      try clear hx286_0
      try clear hx286_1
      try clear p286
      try clear q286
      obtain ⟨x3_2, x6_2, rfl, HA, HK2, HO_3, HO_5, HB⟩ := hrel
      cases gk with
      | zero => exact absurd HA.out (by simp [spec_l02Neighbours.l1])
      | succ k2 =>
       have H := HA.out
       clear HA
       simp only [spec_l02Neighbours.l1] at H
       by_cases c8 : x6_2 < 4
       ·rw [if_pos c8] at H
        have c8b0 : decide (x6_2 < 4) = true := decide_eq_true c8
        clear c8
        by_cases c9 : 0 ≤ x6_2
        ·rw [if_pos c9] at H
         have c9b0 : decide (0 ≤ x6_2) = true := decide_eq_true c9
         clear c9
         by_cases c10 : x6_2 < (t287.length : Int)
         ·rw [if_pos c10] at H
          have c10b0 : decide (x6_2 < (t287.length : Int)) = true := decide_eq_true c10
          clear c10
          obtain ⟨t291, A11, H⟩ := bs_ H
          by_cases c12 : t291 < 0
          ·rw [if_pos c12] at H
           have c12b0 : decide (t291 < 0) = true := decide_eq_true c12
           clear c12
           obtain ⟨t293, A13, H⟩ := bs_ H
           by_cases c14 : t293 < 0
           ·rw [if_pos c14] at H
            have c14b0 : decide (t293 < 0) = true := decide_eq_true c14
            clear c14
            obtain ⟨t295, A15, H⟩ := bs_ H
            have H' := Aside0.mk H
            clear H
            obtain ⟨Ao16, co16, eo16⟩ := Kd.R_slice HO_5.out
            subst eo16
            have p290 : 0 ≤ (x6_2 : Int) := od_
            have q290 : x6_2 < (t287.length : Int) := od_
            obtain ⟨ad290, e290, hx290_0, hx290_1⟩ := at_T56 (Kd.R_reads' HO_5.out).2.2 x6_2 p290 q290
            cases e290
            replace p290 := eq_true p290
            replace q290 := eq_true q290
            go_wp2_with (first | ((with_reducible refine gate_callee (f := 64) rfl ?_); refine goesL_ (some 28) rfl rfl Tryz.func64 kr_ rfl #[.slice (some ad286) l0.length c0, .agg #[.int .i64 ((rd_T56 t287 x6_2).f0), .int .i64 ((rd_T56 t287 x6_2).f1)]] rfl ta_ ?_; (with_reducible refine (spec_l02Index.calls k2 _ _ l0 ((rd_T56 t287 x6_2).f0) ((rd_T56 t287 x6_2).f1) t291 _ ?side1 ?side2 A11.out).mono ?_); (case side1 => exact ca_ (Kd.C_below HR0.out HB.out)); (case side2 => exact HC0.out); rintro e w17 ⟨rfl, hb⟩; refine ⟨_, rfl, ?_⟩; replace HO_3 := a0_ (Kd.R_below (ra_ HO_3.out) hb); replace HO_5 := a0_ (Kd.R_below (ra_ HO_5.out) hb); replace HB := a0_ (below_step (bl0_) hb); (try clear hb); have p292 : 0 ≤ (x6_2 : Int) := od_; have q292 : x6_2 < (t287.length : Int) := od_; obtain ⟨ad292, e292, hx292_0, hx292_1⟩ := at_T56 (Kd.R_reads' HO_5.out).2.2 x6_2 p292 q292; obtain rfl : ad290 = ad292 := (by injection e292); replace p292 := eq_true p292; replace q292 := eq_true q292; obtain ⟨Ao18, co18, eo18⟩ := Kd.R_slice HO_3.out; subst eo18) | (go_at_call 64; (with_reducible refine (spec_l02Index.calls k2 _ _ x3_2 ((rd_T56 t287 x6_2).f0) ((rd_T56 t287 x6_2).f1) t293 _ ?side1 ?side2 A13.out).mono ?_); (case side1 => exact ca_ (Kd.R_reads' HO_3.out).2.2); (case side2 => exact (Kd.R_reads' HO_3.out).2.1); rintro e w19 ⟨rfl, hb⟩; replace HO_3 := a0_ (Kd.R_below (ra_ HO_3.out) hb); replace HO_5 := a0_ (Kd.R_below (ra_ HO_5.out) hb); replace HB := a0_ (below_step (bl0_) hb); (try clear hb); have p294 : 0 ≤ (x6_2 : Int) := od_; have q294 : x6_2 < (t287.length : Int) := od_; obtain ⟨ad294, e294, hx294_0, hx294_1⟩ := at_T56 (Kd.R_reads' HO_5.out).2.2 x6_2 p294 q294; obtain rfl : ad290 = ad294 := (by injection e294); replace p294 := eq_true p294; replace q294 := eq_true q294) | ((with_reducible refine gate_callee (f := 50) rfl ?_); refine goesL_ (some 44) rfl rfl Tryz.func50 kr_ rfl #[.slice Ao18 x3_2.length co18, .agg #[.int .i64 ((rd_T56 t287 x6_2).f0), .int .i64 ((rd_T56 t287 x6_2).f1)]] rfl ta_ ?_; (with_reducible refine (spec_l02Insert.calls k2 _ _ x3_2 ((rd_T56 t287 x6_2).f0) ((rd_T56 t287 x6_2).f1) t295 _ ?side1 ?side2 A15.out).mono ?_); (case side1 => exact ca_ (Kd.R_reads' HO_3.out).2.2); (case side2 => exact (Kd.R_reads' HO_3.out).2.1); rintro e w20 ⟨v296, rfl, ho0, hb⟩; refine ⟨_, rfl, ?_⟩; have HO297 := a0_ (Kd.R_lower (Kd.R_new' (Kd.R_new' ho0 (Kd.R_lt (ra_ HO_3.out))) (Kd.R_lt (ra_ HO_5.out))) (below_size (bl0_))); replace HO_3 := a0_ (Kd.R_elder' (ra_ HO_3.out) (Kd.R_base ho0) hb); replace HO_5 := a0_ (Kd.R_elder' (ra_ HO_5.out) (Kd.R_base ho0) hb); replace HB := a0_ (below_step (bl0_) hb); (try clear hb); (try clear ho0)))
            go_roundg k2
            case measure => have := HK1.out; have := HK2.out; omega
            case rel => exact ⟨(t295), (wrap64 (x6_2 + 1)), rs_, H', ⟨by have := HK1.out; have := HK2.out; omega⟩, ⟨by (with_reducible repeat (first | apply Kd.R_alloc | apply Kd.R_drewN | apply Kd.R_drew)); exact Kd.R_mono HO297.out (fun _ hk => hk.2)⟩, ⟨by (with_reducible repeat (first | apply Kd.R_alloc | apply Kd.R_drewN | apply Kd.R_drew)); exact Kd.R_mono HO_5.out (fun _ hk => hk.2)⟩, ⟨bl0_⟩⟩
           ·rw [if_neg c14] at H
            have c14b0 : decide (t293 < 0) = false := decide_eq_false c14
            clear c14
            have H' := Aside0.mk H
            clear H
            obtain ⟨Ao21, co21, eo21⟩ := Kd.R_slice HO_5.out
            subst eo21
            have p290 : 0 ≤ (x6_2 : Int) := od_
            have q290 : x6_2 < (t287.length : Int) := od_
            obtain ⟨ad290, e290, hx290_0, hx290_1⟩ := at_T56 (Kd.R_reads' HO_5.out).2.2 x6_2 p290 q290
            cases e290
            replace p290 := eq_true p290
            replace q290 := eq_true q290
            go_wp2_with (first | ((with_reducible refine gate_callee (f := 64) rfl ?_); refine goesL_ (some 28) rfl rfl Tryz.func64 kr_ rfl #[.slice (some ad286) l0.length c0, .agg #[.int .i64 ((rd_T56 t287 x6_2).f0), .int .i64 ((rd_T56 t287 x6_2).f1)]] rfl ta_ ?_; (with_reducible refine (spec_l02Index.calls k2 _ _ l0 ((rd_T56 t287 x6_2).f0) ((rd_T56 t287 x6_2).f1) t291 _ ?side1 ?side2 A11.out).mono ?_); (case side1 => exact ca_ (Kd.C_below HR0.out HB.out)); (case side2 => exact HC0.out); rintro e w22 ⟨rfl, hb⟩; refine ⟨_, rfl, ?_⟩; replace HO_3 := a0_ (Kd.R_below (ra_ HO_3.out) hb); replace HO_5 := a0_ (Kd.R_below (ra_ HO_5.out) hb); replace HB := a0_ (below_step (bl0_) hb); (try clear hb); have p292 : 0 ≤ (x6_2 : Int) := od_; have q292 : x6_2 < (t287.length : Int) := od_; obtain ⟨ad292, e292, hx292_0, hx292_1⟩ := at_T56 (Kd.R_reads' HO_5.out).2.2 x6_2 p292 q292; obtain rfl : ad290 = ad292 := (by injection e292); replace p292 := eq_true p292; replace q292 := eq_true q292; obtain ⟨Ao23, co23, eo23⟩ := Kd.R_slice HO_3.out; subst eo23) | (go_at_call 64; (with_reducible refine (spec_l02Index.calls k2 _ _ x3_2 ((rd_T56 t287 x6_2).f0) ((rd_T56 t287 x6_2).f1) t293 _ ?side1 ?side2 A13.out).mono ?_); (case side1 => exact ca_ (Kd.R_reads' HO_3.out).2.2); (case side2 => exact (Kd.R_reads' HO_3.out).2.1); rintro e w24 ⟨rfl, hb⟩; replace HO_3 := a0_ (Kd.R_below (ra_ HO_3.out) hb); replace HO_5 := a0_ (Kd.R_below (ra_ HO_5.out) hb); replace HB := a0_ (below_step (bl0_) hb); (try clear hb)))
            go_roundg k2
            case measure => have := HK1.out; have := HK2.out; omega
            case rel => exact ⟨(x3_2), (wrap64 (x6_2 + 1)), rs_, H', ⟨by have := HK1.out; have := HK2.out; omega⟩, ⟨ra_ HO_3.out⟩, ⟨ra_ HO_5.out⟩, ⟨bl0_⟩⟩
          ·rw [if_neg c12] at H
           have c12b0 : decide (t291 < 0) = false := decide_eq_false c12
           clear c12
           have H' := Aside0.mk H
           clear H
           obtain ⟨Ao25, co25, eo25⟩ := Kd.R_slice HO_5.out
           subst eo25
           have p290 : 0 ≤ (x6_2 : Int) := od_
           have q290 : x6_2 < (t287.length : Int) := od_
           obtain ⟨ad290, e290, hx290_0, hx290_1⟩ := at_T56 (Kd.R_reads' HO_5.out).2.2 x6_2 p290 q290
           cases e290
           replace p290 := eq_true p290
           replace q290 := eq_true q290
           go_wp2_with (first | ((with_reducible refine gate_callee (f := 64) rfl ?_); refine goesL_ (some 28) rfl rfl Tryz.func64 kr_ rfl #[.slice (some ad286) l0.length c0, .agg #[.int .i64 ((rd_T56 t287 x6_2).f0), .int .i64 ((rd_T56 t287 x6_2).f1)]] rfl ta_ ?_; (with_reducible refine (spec_l02Index.calls k2 _ _ l0 ((rd_T56 t287 x6_2).f0) ((rd_T56 t287 x6_2).f1) t291 _ ?side1 ?side2 A11.out).mono ?_); (case side1 => exact ca_ (Kd.C_below HR0.out HB.out)); (case side2 => exact HC0.out); rintro e w26 ⟨rfl, hb⟩; refine ⟨_, rfl, ?_⟩; replace HO_3 := a0_ (Kd.R_below (ra_ HO_3.out) hb); replace HO_5 := a0_ (Kd.R_below (ra_ HO_5.out) hb); replace HB := a0_ (below_step (bl0_) hb); (try clear hb)))
           go_roundg k2
           case measure => have := HK1.out; have := HK2.out; omega
           case rel => exact ⟨(x3_2), (wrap64 (x6_2 + 1)), rs_, H', ⟨by have := HK1.out; have := HK2.out; omega⟩, ⟨ra_ HO_3.out⟩, ⟨ra_ HO_5.out⟩, ⟨bl0_⟩⟩
         ·rw [if_neg c10] at H
          exact absurd H (by simp)
        ·rw [if_neg c9] at H
         exact absurd H (by simp)
       ·rw [if_neg c8] at H
        have c8b0 : decide (x6_2 < 4) = false := decide_eq_false c8
        clear c8
        have H' := Aside0.mk H
        clear H
        go_wp2
        go_roundg k2
        case measure => have := HK1.out; have := HK2.out; omega
        case rel => exact ⟨(x3_2), (wrap64 (x4_1 + 1)), rs_, H', ⟨by have := HK1.out; have := HK2.out; omega⟩, ⟨by (with_reducible repeat (first | apply Kd.R_alloc | apply Kd.R_drewN | apply Kd.R_drew)); exact Kd.R_mono HO_3.out (fun _ hk => trivial)⟩, ⟨bl0_⟩⟩
    ·rw [if_neg c5] at H
     exact absurd H (by simp)
   ·rw [if_neg c4] at H
    have c4b0 : decide (x4_1 < (l0.length : Int)) = false := decide_eq_false c4
    clear c4
    obtain rfl := Option.some.inj H
    go_wp2
    go_ret
    exact ⟨_, er_, ra_ HO_3.out, bl0_⟩
end Go.Proofs.YtmdjkmfocgelnaaGreatDoor.PFnAllNets
