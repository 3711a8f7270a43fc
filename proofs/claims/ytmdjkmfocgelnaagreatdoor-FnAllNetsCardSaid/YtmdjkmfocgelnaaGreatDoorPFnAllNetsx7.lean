/- Over the kit's printer by a driver of mine (hprint.py), with parts by hand: functions of the program as Lean functions, and that each call comes to exactly these answers. -/
import Derived.Test.YtmdjkmfocgelnaaGreatDoorPFnAllNetsx0
import Derived.Test.YtmdjkmfocgelnaaGreatDoorPFnAllNetsx2
import Derived.Test.YtmdjkmfocgelnaaGreatDoorPFnAllNetsx5
import Derived.Test.YtmdjkmfocgelnaaGreatDoorPFnAllNetsx6
namespace Go.Proofs.YtmdjkmfocgelnaaGreatDoor.PFnAllNets
open Go.RowKit Go.Proofs.YtmdjkmfocgelnaaGreatDoorW.PrintWords Go.Proofs.YtmdjkmfocgelnaaGreatDoorW.PrintLast Go.Proofs.YtmdjkmfocgelnaaGreatDoorW.PrintMore
attribute [local go_sem] max2_int min2_int max_two min_two max_three min_three max_four min_four   
set_option linter.unusedVariables false
set_option linter.unusedSimpArgs false
def spec_IsNet.f (k : Nat) (l0 : List (S56)) : Option (Bool) := (spec_IsConnected.f k l0).bind fun t194 => (if t194 = true then (if (l0.length : Int) = 6 then ((spec_l32Faces.f k l0).bind fun t195 => ((spec_IsPermutation.f k t195).bind fun t198 => (some t198))) else (some false)) else (some false))
set_option maxHeartbeats 8000000 in
set_option maxRecDepth 100000 in
theorem spec_IsNet.calls (k : Nat) (A0 : Option Addr) (c0 : Nat) (l0 : List (S56)) (r : Bool) (w : World) (hr0 : Kd.C k56 w A0 l0.length l0) (hc0 : l0.length ≤ c0) (h : spec_IsNet.f k l0 = some r) :
  Calls Tryz.prog 13 #[.slice A0 l0.length c0] w fun e w' => e = .returned (.bool r) ∧ Below w.heap.size w w' := by
 have HR0 := Aside0.mk hr0
 have HC0 := Aside0.mk hc0
 clear hr0 hc0
 have HB := a0_ (Below.refl w.heap.size w)
 have H := h
 clear h
 unfold spec_IsNet.f at H
 obtain ⟨t194, A2, H⟩ := bs_ H
 by_cases c3 : t194 = true
 ·subst c3
  rw [if_pos rfl] at H
  by_cases c4 : (l0.length : Int) = 6
  ·rw [if_pos c4] at H
   have c4b0 : ((l0.length : Int) == 6) = true := beq_iff_eq.mpr c4
   have c4b1 : ((l0.length : Int) != 6) = false := bne_eq_false_iff_eq.mpr c4
   clear c4
   obtain ⟨t195, A5, H⟩ := bs_ H
   obtain ⟨t198, A6, H⟩ := bs_ H
   obtain rfl := Option.some.inj H
   go_enter Tryz.func13, Tryz.ntmps13
   go_wp2_with (first | ((with_reducible refine gate_callee (f := 32) rfl ?_); refine goesL_ (some 4) rfl rfl Tryz.func32 kr_ rfl #[.slice A0 l0.length c0] rfl ta_ ?_; (with_reducible refine (spec_IsConnected.calls k _ _ l0 true _ ?side1 ?side2 A2.out).mono ?_); (case side1 => exact ca_ HR0.out); (case side2 => exact HC0.out); rintro e w7 ⟨rfl, hb⟩; refine ⟨_, rfl, ?_⟩; replace HB := a0_ (below_step (bl0_) hb); (try clear hb)) | (go_at_call 34; (with_reducible refine (spec_l32Faces.calls k _ _ l0 t195 _ ?side1 ?side2 A5.out).mono ?_); (case side1 => exact ca_ (Kd.C_below HR0.out HB.out)); (case side2 => exact HC0.out); rintro e w8 ⟨v196, rfl, ho0, hb⟩; have HO197 := a0_ (Kd.R_lower ho0 (below_size (bl0_))); replace HB := a0_ (below_step (bl0_) hb); (try clear hb); (try clear ho0); obtain ⟨Ao9, co9, eo9⟩ := Kd.R_slice HO197.out; subst eo9) | (go_at_call 33; (with_reducible refine (spec_IsPermutation.calls k _ _ t195 t198 _ ?side1 ?side2 A6.out).mono ?_); (case side1 => exact ca_ (Kd.R_reads' HO197.out).2.2); (case side2 => exact (Kd.R_reads' HO197.out).2.1); rintro e w10 ⟨rfl, hb⟩; replace HO197 := a0_ (Kd.R_below (ra_ HO197.out) hb); replace HB := a0_ (below_step (bl0_) hb); (try clear hb)))
   go_ret
   exact ⟨er_, bl0_⟩
  ·rw [if_neg c4] at H
   have c4b0 : ((l0.length : Int) == 6) = false := beq_eq_false_iff_ne.mpr c4
   have c4b1 : ((l0.length : Int) != 6) = true := bne_iff_ne.mpr c4
   obtain rfl := Option.some.inj H
   go_enter Tryz.func13, Tryz.ntmps13
   go_wp2_with (first | ((with_reducible refine gate_callee (f := 32) rfl ?_); refine goesL_ (some 4) rfl rfl Tryz.func32 kr_ rfl #[.slice A0 l0.length c0] rfl ta_ ?_; (with_reducible refine (spec_IsConnected.calls k _ _ l0 true _ ?side1 ?side2 A2.out).mono ?_); (case side1 => exact ca_ HR0.out); (case side2 => exact HC0.out); rintro e w11 ⟨rfl, hb⟩; refine ⟨_, rfl, ?_⟩; replace HB := a0_ (below_step (bl0_) hb); (try clear hb)))
   go_ret
   exact ⟨er_, bl0_⟩
 ·replace c3 := Bool.eq_false_iff.mpr c3
  subst c3
  rw [if_neg (show ¬ (false = true) by decide)] at H
  obtain rfl := Option.some.inj H
  go_enter Tryz.func13, Tryz.ntmps13
  go_wp2_with (first | ((with_reducible refine gate_callee (f := 32) rfl ?_); refine goesL_ (some 4) rfl rfl Tryz.func32 kr_ rfl #[.slice A0 l0.length c0] rfl ta_ ?_; (with_reducible refine (spec_IsConnected.calls k _ _ l0 false _ ?side1 ?side2 A2.out).mono ?_); (case side1 => exact ca_ HR0.out); (case side2 => exact HC0.out); rintro e w12 ⟨rfl, hb⟩; refine ⟨_, rfl, ?_⟩; replace HB := a0_ (below_step (bl0_) hb); (try clear hb)))
  go_ret
  exact ⟨er_, bl0_⟩
def spec_CompareShapes.l0 : Nat → List (S56) → List (S56) → Int → Option (Int)
 | 0, _, _, _ => none
 | k + 1, x0, x1, x5 => if x5 < (x0.length : Int) then (if 0 ≤ x5 then (if x5 < (x1.length : Int) then ((spec_l02Less.f ((rd_T56 x0 x5).f0) ((rd_T56 x0 x5).f1) ((rd_T56 x1 x5).f0) ((rd_T56 x1 x5).f1)).bind fun t201 => (if t201 = true then (some (-1)) else ((spec_l02Less.f ((rd_T56 x1 x5).f0) ((rd_T56 x1 x5).f1) ((rd_T56 x0 x5).f0) ((rd_T56 x0 x5).f1)).bind fun t204 => (if t204 = true then (some 1) else (spec_CompareShapes.l0 k x0 x1 (wrap64 (x5 + 1))))))) else (none)) else (none)) else (some 0)
def spec_CompareShapes.f (k : Nat) (l0 : List (S56)) (l1 : List (S56)) : Option (Int) := if (l0.length : Int) = (l1.length : Int) then (spec_CompareShapes.l0 k l0 l1 0) else (if (l0.length : Int) < (l1.length : Int) then (some (-1)) else (some 1))
def spec_CompareShapes.T8 : Bool × List (List Nat × List Nat) := (true, [([], []), ([], []), ([0, 1], [0, 1]), ([2], [2]), ([], []), ([], []), ([4, 5], [4, 5]), ([6], [6]), ([3, 7], [3, 7])])
def spec_CompareShapes.B8 : List Nat := [0, 0, 3, 7, 0, 0, 48, 112, 255]
theorem spec_CompareShapes.tab8 : rtab .any (opsOf Tryz.f37 8) = spec_CompareShapes.T8 := by kernel_rfl
theorem spec_CompareShapes.bits8 : waitsOk spec_CompareShapes.T8.2 spec_CompareShapes.B8 = true := by kernel_rfl
def spec_CompareShapes.T10 : Bool × List (List Nat × List Nat) := (true, [([], []), ([], []), ([0, 1], [0, 1]), ([2], [2]), ([], []), ([], []), ([4, 5], [4, 5]), ([6], [6]), ([3, 7], [3, 7])])
def spec_CompareShapes.B10 : List Nat := [0, 0, 3, 7, 0, 0, 48, 112, 255]
theorem spec_CompareShapes.tab10 : rtab .any (opsOf Tryz.f37 10) = spec_CompareShapes.T10 := by kernel_rfl
theorem spec_CompareShapes.bits10 : waitsOk spec_CompareShapes.T10.2 spec_CompareShapes.B10 = true := by kernel_rfl
set_option maxHeartbeats 8000000 in
set_option maxRecDepth 100000 in
theorem spec_CompareShapes.calls (k : Nat) (A0 : Option Addr) (c0 : Nat) (l0 : List (S56)) (A1 : Option Addr) (c1 : Nat) (l1 : List (S56)) (r : Int) (w : World) (hr0 : Kd.C k56 w A0 l0.length l0) (hc0 : l0.length ≤ c0) (hr1 : Kd.C k56 w A1 l1.length l1) (hc1 : l1.length ≤ c1) (h : spec_CompareShapes.f k l0 l1 = some r) :
  Calls Tryz.prog 37 #[.slice A0 l0.length c0, .slice A1 l1.length c1] w fun e w' => e = .returned (.int .i64 r) ∧ Below w.heap.size w w' := by
 have hu56 := Tryz.underlying56
 have HR0 := Aside0.mk hr0
 have HC0 := Aside0.mk hc0
 clear hr0 hc0
 have HR1 := Aside0.mk hr1
 have HC1 := Aside0.mk hc1
 clear hr1 hc1
 have HB := a0_ (Below.refl w.heap.size w)
 have H := h
 clear h
 unfold spec_CompareShapes.f at H
 by_cases c3 : (l0.length : Int) = (l1.length : Int)
 ·rw [if_pos c3] at H
  have c3b0 : ((l0.length : Int) == (l1.length : Int)) = true := beq_iff_eq.mpr c3
  have c3b1 : ((l0.length : Int) != (l1.length : Int)) = false := bne_eq_false_iff_eq.mpr c3
  have c3b2 : (l0.length == l1.length) = true := by first | simpa using c3 | (simp at c3 ⊢; omega)
  clear c3
  have H' := Aside0.mk H
  clear H
  go_enter Tryz.func37, Tryz.ntmps37
  go_wp2
  go_loopg [5] k (fun kq v5 w' => ∃ (x5_1 : Int), v5 = .int .i64 x5_1 ∧ Aside0 (spec_CompareShapes.l0 kq l0 l1 x5_1 = some r) ∧ Aside0 (kq ≤ k) ∧ Aside0 (Below w.heap.size w w'))
  case atStart => exact ⟨(0), rs_, H', ⟨Nat.le_refl _⟩, ⟨bl0_⟩⟩
  case round =>
   clear H'
   try clear c1
   try clear c3b0
   try clear c3b1
   try clear c3b2
   obtain ⟨x5_1, rfl, HA, HK1, HB⟩ := hrel
   cases gk with
   | zero => exact absurd HA.out (by simp [spec_CompareShapes.l0])
   | succ k1 =>
    have H := HA.out
    clear HA
    simp only [spec_CompareShapes.l0] at H
    by_cases c4 : x5_1 < (l0.length : Int)
    ·rw [if_pos c4] at H
     have c4b0 : decide (x5_1 < (l0.length : Int)) = true := decide_eq_true c4
     clear c4
     by_cases c5 : 0 ≤ x5_1
     ·rw [if_pos c5] at H
      have c5b0 : decide (0 ≤ x5_1) = true := decide_eq_true c5
      clear c5
      by_cases c6 : x5_1 < (l1.length : Int)
      ·rw [if_pos c6] at H
       have c6b0 : decide (x5_1 < (l1.length : Int)) = true := decide_eq_true c6
       clear c6
       obtain ⟨t201, A7, H⟩ := bs_ H
       by_cases c8 : t201 = true
       ·subst c8
        rw [if_pos rfl] at H
        obtain rfl := Option.some.inj H
        try go_wp2
        replace HB := a0_ (below_drew1 HB.out)
        have p199 : 0 ≤ (x5_1 : Int) := od_
        have q199 : x5_1 < (l0.length : Int) := od_
        obtain ⟨ad199, e199, hx199_0, hx199_1⟩ := at_T56 HR0.out x5_1 p199 q199
        have hw199_1 := hx199_1
        have hw199_0 := hx199_0
        cases e199
        replace hx199_0 := hc_ hx199_0
        replace hx199_1 := hc_ hx199_1
        replace p199 := eq_true p199
        replace q199 := eq_true q199
        have p200 : 0 ≤ (x5_1 : Int) := od_
        have q200 : x5_1 < (l1.length : Int) := od_
        obtain ⟨ad200, e200, hx200_0, hx200_1⟩ := at_T56 HR1.out x5_1 p200 q200
        have hw200_1 := hx200_1
        have hw200_0 := hx200_0
        cases e200
        replace hx200_0 := hc_ hx200_0
        replace hx200_1 := hc_ hx200_1
        replace p200 := eq_true p200
        replace q200 := eq_true q200
        refine start_ (n := 9) (S := fun w' => w'.cell? (ad199.add ((x5_1).toNat * 2)) = some (.int .i64 ((rd_T56 l0 x5_1).f0)) ∧ w'.cell? ⟨(ad199.add ((x5_1).toNat * 2)).block, (ad199.add ((x5_1).toNat * 2)).off + 1, none⟩ = some (.int .i64 ((rd_T56 l0 x5_1).f1)) ∧ w'.cell? (ad200.add ((x5_1).toNat * 2)) = some (.int .i64 ((rd_T56 l1 x5_1).f0)) ∧ w'.cell? ⟨(ad200.add ((x5_1).toNat * 2)).block, (ad200.add ((x5_1).toNat * 2)).off + 1, none⟩ = some (.int .i64 ((rd_T56 l1 x5_1).f1))) (ds := []) (mk_ 0 9) kr_ rfl rfl ⟨(hc_ hw199_0), (hc_ hw199_1), (hc_ hw200_0), (hc_ hw200_1)⟩ (fun hHeld => ?_); refine with_tabW spec_CompareShapes.tab8 spec_CompareShapes.bits8 (fun HT_ HW_ => ?_)
        generalize wr.drew = w9 at HB hx199_0 hx199_1 hx200_0 hx200_1 hHeld ⊢
        refine pu_ 0 (some 22) (mk_ 1 8) HT_ ?_
        refine pu_ 1 (some 23) (mk_ 2 7) HT_ ?_
        refine pu_ 2 (some 24) (mk_ 3 6) HT_ ?_
        refine pu_ 4 (some 26) #[true, true, true, false, true, false, false, false, false] HT_ ?_
        refine pu_ 5 (some 27) #[true, true, true, false, true, true, false, false, false] HT_ ?_
        refine pu_ 6 (some 28) #[true, true, true, false, true, true, true, false, false] HT_ ?_
        refine tk_ 3 (some 25) (mk_ 7 2) HT_ HW_ hHeld (hy := .inl ⟨by rfl, by rintro w' ⟨s0, s1, s2, s3⟩; go_simp; with_reducible rfl⟩) ?_
        refine tk_ 7 (some 29) (mk_ 8 1) HT_ HW_ hHeld (hy := .inl ⟨by rfl, by rintro w' ⟨s0, s1, s2, s3⟩; go_simp; with_reducible rfl⟩) ?_
        refine one_ (i := 8) (N := some 30) (mk_ 9 0) rfl rfl (one_of HT_.out kr_) (by decide) (fun K hK => ?_)
        refine goes_ Tryz.func68 kr_ rfl #[.agg #[.int .i64 ((rd_T56 l0 x5_1).f0), .int .i64 ((rd_T56 l0 x5_1).f1)], .agg #[.int .i64 ((rd_T56 l1 x5_1).f0), .int .i64 ((rd_T56 l1 x5_1).f1)]] (by rfl) rfl rfl ta_ ?_
        with_reducible refine (spec_l02Less.calls ((rd_T56 l0 x5_1).f0) ((rd_T56 l0 x5_1).f1) ((rd_T56 l1 x5_1).f0) ((rd_T56 l1 x5_1).f1) true _ A7.out).mono ?_
        rintro e w10 ⟨rfl, hb⟩
        refine ⟨_, rfl, ?_⟩
        replace HB := a0_ (below_step (bl0_) hb)
        (try clear hb)
        refine hK.out _ _ ⟨(hc_ hw199_0), (hc_ hw199_1), (hc_ hw200_0), (hc_ hw200_1)⟩ (fun hHeld => ?_)
        clear hK K
        refine nm_ ?_
        refine done_ (done_of HT_.out kr_) ?_
        try go_wp2
        go_ret
        exact ⟨er_, bl0_⟩
       ·replace c8 := Bool.eq_false_iff.mpr c8
        subst c8
        rw [if_neg (show ¬ (false = true) by decide)] at H
        obtain ⟨t204, A11, H⟩ := bs_ H
        by_cases c12 : t204 = true
        ·subst c12
         rw [if_pos rfl] at H
         obtain rfl := Option.some.inj H
         try go_wp2
         replace HB := a0_ (below_drew1 HB.out)
         have p199 : 0 ≤ (x5_1 : Int) := od_
         have q199 : x5_1 < (l0.length : Int) := od_
         obtain ⟨ad199, e199, hx199_0, hx199_1⟩ := at_T56 HR0.out x5_1 p199 q199
         have hw199_1 := hx199_1
         have hw199_0 := hx199_0
         cases e199
         replace hx199_0 := hc_ hx199_0
         replace hx199_1 := hc_ hx199_1
         replace p199 := eq_true p199
         replace q199 := eq_true q199
         have p200 : 0 ≤ (x5_1 : Int) := od_
         have q200 : x5_1 < (l1.length : Int) := od_
         obtain ⟨ad200, e200, hx200_0, hx200_1⟩ := at_T56 HR1.out x5_1 p200 q200
         have hw200_1 := hx200_1
         have hw200_0 := hx200_0
         cases e200
         replace hx200_0 := hc_ hx200_0
         replace hx200_1 := hc_ hx200_1
         replace p200 := eq_true p200
         replace q200 := eq_true q200
         refine start_ (n := 9) (S := fun w' => w'.cell? (ad199.add ((x5_1).toNat * 2)) = some (.int .i64 ((rd_T56 l0 x5_1).f0)) ∧ w'.cell? ⟨(ad199.add ((x5_1).toNat * 2)).block, (ad199.add ((x5_1).toNat * 2)).off + 1, none⟩ = some (.int .i64 ((rd_T56 l0 x5_1).f1)) ∧ w'.cell? (ad200.add ((x5_1).toNat * 2)) = some (.int .i64 ((rd_T56 l1 x5_1).f0)) ∧ w'.cell? ⟨(ad200.add ((x5_1).toNat * 2)).block, (ad200.add ((x5_1).toNat * 2)).off + 1, none⟩ = some (.int .i64 ((rd_T56 l1 x5_1).f1))) (ds := []) (mk_ 0 9) kr_ rfl rfl ⟨(hc_ hw199_0), (hc_ hw199_1), (hc_ hw200_0), (hc_ hw200_1)⟩ (fun hHeld => ?_); refine with_tabW spec_CompareShapes.tab8 spec_CompareShapes.bits8 (fun HT_ HW_ => ?_)
         generalize wr.drew = w13 at HB hx199_0 hx199_1 hx200_0 hx200_1 hHeld ⊢
         refine pu_ 0 (some 22) (mk_ 1 8) HT_ ?_
         refine pu_ 1 (some 23) (mk_ 2 7) HT_ ?_
         refine pu_ 2 (some 24) (mk_ 3 6) HT_ ?_
         refine pu_ 4 (some 26) #[true, true, true, false, true, false, false, false, false] HT_ ?_
         refine pu_ 5 (some 27) #[true, true, true, false, true, true, false, false, false] HT_ ?_
         refine pu_ 6 (some 28) #[true, true, true, false, true, true, true, false, false] HT_ ?_
         refine tk_ 3 (some 25) (mk_ 7 2) HT_ HW_ hHeld (hy := .inl ⟨by rfl, by rintro w' ⟨s0, s1, s2, s3⟩; go_simp; with_reducible rfl⟩) ?_
         refine tk_ 7 (some 29) (mk_ 8 1) HT_ HW_ hHeld (hy := .inl ⟨by rfl, by rintro w' ⟨s0, s1, s2, s3⟩; go_simp; with_reducible rfl⟩) ?_
         refine one_ (i := 8) (N := some 30) (mk_ 9 0) rfl rfl (one_of HT_.out kr_) (by decide) (fun K hK => ?_)
         refine goes_ Tryz.func68 kr_ rfl #[.agg #[.int .i64 ((rd_T56 l0 x5_1).f0), .int .i64 ((rd_T56 l0 x5_1).f1)], .agg #[.int .i64 ((rd_T56 l1 x5_1).f0), .int .i64 ((rd_T56 l1 x5_1).f1)]] (by rfl) rfl rfl ta_ ?_
         with_reducible refine (spec_l02Less.calls ((rd_T56 l0 x5_1).f0) ((rd_T56 l0 x5_1).f1) ((rd_T56 l1 x5_1).f0) ((rd_T56 l1 x5_1).f1) false _ A7.out).mono ?_
         rintro e w14 ⟨rfl, hb⟩
         refine ⟨_, rfl, ?_⟩
         replace HB := a0_ (below_step (bl0_) hb)
         (try clear hb)
         refine hK.out _ _ ⟨(hc_ hw199_0), (hc_ hw199_1), (hc_ hw200_0), (hc_ hw200_1)⟩ (fun hHeld => ?_)
         clear hK K
         refine nm_ ?_
         refine done_ (done_of HT_.out kr_) ?_
         try go_wp2
         replace HB := a0_ (below_drew1 HB.out)
         have p202 : 0 ≤ (x5_1 : Int) := od_
         have q202 : x5_1 < (l1.length : Int) := od_
         obtain ⟨ad202, e202, hx202_0, hx202_1⟩ := at_T56 HR1.out x5_1 p202 q202
         have hw202_1 := hx202_1
         have hw202_0 := hx202_0
         obtain rfl : ad200 = ad202 := (by injection e202)
         replace hx202_0 := hc_ hx202_0
         replace hx202_1 := hc_ hx202_1
         replace p202 := eq_true p202
         replace q202 := eq_true q202
         have p203 : 0 ≤ (x5_1 : Int) := od_
         have q203 : x5_1 < (l0.length : Int) := od_
         obtain ⟨ad203, e203, hx203_0, hx203_1⟩ := at_T56 HR0.out x5_1 p203 q203
         have hw203_1 := hx203_1
         have hw203_0 := hx203_0
         obtain rfl : ad199 = ad203 := (by injection e203)
         replace hx203_0 := hc_ hx203_0
         replace hx203_1 := hc_ hx203_1
         replace p203 := eq_true p203
         replace q203 := eq_true q203
         refine start_ (n := 9) (S := fun w' => w'.cell? (ad200.add ((x5_1).toNat * 2)) = some (.int .i64 ((rd_T56 l1 x5_1).f0)) ∧ w'.cell? ⟨(ad200.add ((x5_1).toNat * 2)).block, (ad200.add ((x5_1).toNat * 2)).off + 1, none⟩ = some (.int .i64 ((rd_T56 l1 x5_1).f1)) ∧ w'.cell? (ad199.add ((x5_1).toNat * 2)) = some (.int .i64 ((rd_T56 l0 x5_1).f0)) ∧ w'.cell? ⟨(ad199.add ((x5_1).toNat * 2)).block, (ad199.add ((x5_1).toNat * 2)).off + 1, none⟩ = some (.int .i64 ((rd_T56 l0 x5_1).f1))) (ds := []) (mk_ 0 9) kr_ rfl rfl ⟨(hc_ hw202_0), (hc_ hw202_1), (hc_ hw203_0), (hc_ hw203_1)⟩ (fun hHeld => ?_); refine with_tabW spec_CompareShapes.tab10 spec_CompareShapes.bits10 (fun HT_ HW_ => ?_)
         generalize w14.drew = w15 at HB hx202_0 hx202_1 hx203_0 hx203_1 hHeld ⊢
         refine pu_ 0 (some 31) (mk_ 1 8) HT_ ?_
         refine pu_ 1 (some 32) (mk_ 2 7) HT_ ?_
         refine pu_ 2 (some 33) (mk_ 3 6) HT_ ?_
         refine pu_ 4 (some 35) #[true, true, true, false, true, false, false, false, false] HT_ ?_
         refine pu_ 5 (some 36) #[true, true, true, false, true, true, false, false, false] HT_ ?_
         refine pu_ 6 (some 37) #[true, true, true, false, true, true, true, false, false] HT_ ?_
         refine tk_ 3 (some 34) (mk_ 7 2) HT_ HW_ hHeld (hy := .inl ⟨by rfl, by rintro w' ⟨s0, s1, s2, s3⟩; go_simp; with_reducible rfl⟩) ?_
         refine tk_ 7 (some 38) (mk_ 8 1) HT_ HW_ hHeld (hy := .inl ⟨by rfl, by rintro w' ⟨s0, s1, s2, s3⟩; go_simp; with_reducible rfl⟩) ?_
         refine one_ (i := 8) (N := some 39) (mk_ 9 0) rfl rfl (one_of HT_.out kr_) (by decide) (fun K hK => ?_)
         refine goes_ Tryz.func68 kr_ rfl #[.agg #[.int .i64 ((rd_T56 l1 x5_1).f0), .int .i64 ((rd_T56 l1 x5_1).f1)], .agg #[.int .i64 ((rd_T56 l0 x5_1).f0), .int .i64 ((rd_T56 l0 x5_1).f1)]] (by rfl) rfl rfl ta_ ?_
         with_reducible refine (spec_l02Less.calls ((rd_T56 l1 x5_1).f0) ((rd_T56 l1 x5_1).f1) ((rd_T56 l0 x5_1).f0) ((rd_T56 l0 x5_1).f1) true _ A11.out).mono ?_
         rintro e w16 ⟨rfl, hb⟩
         refine ⟨_, rfl, ?_⟩
         replace HB := a0_ (below_step (bl0_) hb)
         (try clear hb)
         refine hK.out _ _ ⟨(hc_ hw202_0), (hc_ hw202_1), (hc_ hw203_0), (hc_ hw203_1)⟩ (fun hHeld => ?_)
         clear hK K
         refine nm_ ?_
         refine done_ (done_of HT_.out kr_) ?_
         try go_wp2
         go_ret
         exact ⟨er_, bl0_⟩
        ·replace c12 := Bool.eq_false_iff.mpr c12
         subst c12
         rw [if_neg (show ¬ (false = true) by decide)] at H
         have H' := Aside0.mk H
         clear H
         try go_wp2
         replace HB := a0_ (below_drew1 HB.out)
         have p199 : 0 ≤ (x5_1 : Int) := od_
         have q199 : x5_1 < (l0.length : Int) := od_
         obtain ⟨ad199, e199, hx199_0, hx199_1⟩ := at_T56 HR0.out x5_1 p199 q199
         have hw199_1 := hx199_1
         have hw199_0 := hx199_0
         cases e199
         replace hx199_0 := hc_ hx199_0
         replace hx199_1 := hc_ hx199_1
         replace p199 := eq_true p199
         replace q199 := eq_true q199
         have p200 : 0 ≤ (x5_1 : Int) := od_
         have q200 : x5_1 < (l1.length : Int) := od_
         obtain ⟨ad200, e200, hx200_0, hx200_1⟩ := at_T56 HR1.out x5_1 p200 q200
         have hw200_1 := hx200_1
         have hw200_0 := hx200_0
         cases e200
         replace hx200_0 := hc_ hx200_0
         replace hx200_1 := hc_ hx200_1
         replace p200 := eq_true p200
         replace q200 := eq_true q200
         refine start_ (n := 9) (S := fun w' => w'.cell? (ad199.add ((x5_1).toNat * 2)) = some (.int .i64 ((rd_T56 l0 x5_1).f0)) ∧ w'.cell? ⟨(ad199.add ((x5_1).toNat * 2)).block, (ad199.add ((x5_1).toNat * 2)).off + 1, none⟩ = some (.int .i64 ((rd_T56 l0 x5_1).f1)) ∧ w'.cell? (ad200.add ((x5_1).toNat * 2)) = some (.int .i64 ((rd_T56 l1 x5_1).f0)) ∧ w'.cell? ⟨(ad200.add ((x5_1).toNat * 2)).block, (ad200.add ((x5_1).toNat * 2)).off + 1, none⟩ = some (.int .i64 ((rd_T56 l1 x5_1).f1))) (ds := []) (mk_ 0 9) kr_ rfl rfl ⟨(hc_ hw199_0), (hc_ hw199_1), (hc_ hw200_0), (hc_ hw200_1)⟩ (fun hHeld => ?_); refine with_tabW spec_CompareShapes.tab8 spec_CompareShapes.bits8 (fun HT_ HW_ => ?_)
         generalize wr.drew = w17 at HB hx199_0 hx199_1 hx200_0 hx200_1 hHeld ⊢
         refine pu_ 0 (some 22) (mk_ 1 8) HT_ ?_
         refine pu_ 1 (some 23) (mk_ 2 7) HT_ ?_
         refine pu_ 2 (some 24) (mk_ 3 6) HT_ ?_
         refine pu_ 4 (some 26) #[true, true, true, false, true, false, false, false, false] HT_ ?_
         refine pu_ 5 (some 27) #[true, true, true, false, true, true, false, false, false] HT_ ?_
         refine pu_ 6 (some 28) #[true, true, true, false, true, true, true, false, false] HT_ ?_
         refine tk_ 3 (some 25) (mk_ 7 2) HT_ HW_ hHeld (hy := .inl ⟨by rfl, by rintro w' ⟨s0, s1, s2, s3⟩; go_simp; with_reducible rfl⟩) ?_
         refine tk_ 7 (some 29) (mk_ 8 1) HT_ HW_ hHeld (hy := .inl ⟨by rfl, by rintro w' ⟨s0, s1, s2, s3⟩; go_simp; with_reducible rfl⟩) ?_
         refine one_ (i := 8) (N := some 30) (mk_ 9 0) rfl rfl (one_of HT_.out kr_) (by decide) (fun K hK => ?_)
         refine goes_ Tryz.func68 kr_ rfl #[.agg #[.int .i64 ((rd_T56 l0 x5_1).f0), .int .i64 ((rd_T56 l0 x5_1).f1)], .agg #[.int .i64 ((rd_T56 l1 x5_1).f0), .int .i64 ((rd_T56 l1 x5_1).f1)]] (by rfl) rfl rfl ta_ ?_
         with_reducible refine (spec_l02Less.calls ((rd_T56 l0 x5_1).f0) ((rd_T56 l0 x5_1).f1) ((rd_T56 l1 x5_1).f0) ((rd_T56 l1 x5_1).f1) false _ A7.out).mono ?_
         rintro e w18 ⟨rfl, hb⟩
         refine ⟨_, rfl, ?_⟩
         replace HB := a0_ (below_step (bl0_) hb)
         (try clear hb)
         refine hK.out _ _ ⟨(hc_ hw199_0), (hc_ hw199_1), (hc_ hw200_0), (hc_ hw200_1)⟩ (fun hHeld => ?_)
         clear hK K
         refine nm_ ?_
         refine done_ (done_of HT_.out kr_) ?_
         try go_wp2
         replace HB := a0_ (below_drew1 HB.out)
         have p202 : 0 ≤ (x5_1 : Int) := od_
         have q202 : x5_1 < (l1.length : Int) := od_
         obtain ⟨ad202, e202, hx202_0, hx202_1⟩ := at_T56 HR1.out x5_1 p202 q202
         have hw202_1 := hx202_1
         have hw202_0 := hx202_0
         obtain rfl : ad200 = ad202 := (by injection e202)
         replace hx202_0 := hc_ hx202_0
         replace hx202_1 := hc_ hx202_1
         replace p202 := eq_true p202
         replace q202 := eq_true q202
         have p203 : 0 ≤ (x5_1 : Int) := od_
         have q203 : x5_1 < (l0.length : Int) := od_
         obtain ⟨ad203, e203, hx203_0, hx203_1⟩ := at_T56 HR0.out x5_1 p203 q203
         have hw203_1 := hx203_1
         have hw203_0 := hx203_0
         obtain rfl : ad199 = ad203 := (by injection e203)
         replace hx203_0 := hc_ hx203_0
         replace hx203_1 := hc_ hx203_1
         replace p203 := eq_true p203
         replace q203 := eq_true q203
         refine start_ (n := 9) (S := fun w' => w'.cell? (ad200.add ((x5_1).toNat * 2)) = some (.int .i64 ((rd_T56 l1 x5_1).f0)) ∧ w'.cell? ⟨(ad200.add ((x5_1).toNat * 2)).block, (ad200.add ((x5_1).toNat * 2)).off + 1, none⟩ = some (.int .i64 ((rd_T56 l1 x5_1).f1)) ∧ w'.cell? (ad199.add ((x5_1).toNat * 2)) = some (.int .i64 ((rd_T56 l0 x5_1).f0)) ∧ w'.cell? ⟨(ad199.add ((x5_1).toNat * 2)).block, (ad199.add ((x5_1).toNat * 2)).off + 1, none⟩ = some (.int .i64 ((rd_T56 l0 x5_1).f1))) (ds := []) (mk_ 0 9) kr_ rfl rfl ⟨(hc_ hw202_0), (hc_ hw202_1), (hc_ hw203_0), (hc_ hw203_1)⟩ (fun hHeld => ?_); refine with_tabW spec_CompareShapes.tab10 spec_CompareShapes.bits10 (fun HT_ HW_ => ?_)
         generalize w18.drew = w19 at HB hx202_0 hx202_1 hx203_0 hx203_1 hHeld ⊢
         refine pu_ 0 (some 31) (mk_ 1 8) HT_ ?_
         refine pu_ 1 (some 32) (mk_ 2 7) HT_ ?_
         refine pu_ 2 (some 33) (mk_ 3 6) HT_ ?_
         refine pu_ 4 (some 35) #[true, true, true, false, true, false, false, false, false] HT_ ?_
         refine pu_ 5 (some 36) #[true, true, true, false, true, true, false, false, false] HT_ ?_
         refine pu_ 6 (some 37) #[true, true, true, false, true, true, true, false, false] HT_ ?_
         refine tk_ 3 (some 34) (mk_ 7 2) HT_ HW_ hHeld (hy := .inl ⟨by rfl, by rintro w' ⟨s0, s1, s2, s3⟩; go_simp; with_reducible rfl⟩) ?_
         refine tk_ 7 (some 38) (mk_ 8 1) HT_ HW_ hHeld (hy := .inl ⟨by rfl, by rintro w' ⟨s0, s1, s2, s3⟩; go_simp; with_reducible rfl⟩) ?_
         refine one_ (i := 8) (N := some 39) (mk_ 9 0) rfl rfl (one_of HT_.out kr_) (by decide) (fun K hK => ?_)
         refine goes_ Tryz.func68 kr_ rfl #[.agg #[.int .i64 ((rd_T56 l1 x5_1).f0), .int .i64 ((rd_T56 l1 x5_1).f1)], .agg #[.int .i64 ((rd_T56 l0 x5_1).f0), .int .i64 ((rd_T56 l0 x5_1).f1)]] (by rfl) rfl rfl ta_ ?_
         with_reducible refine (spec_l02Less.calls ((rd_T56 l1 x5_1).f0) ((rd_T56 l1 x5_1).f1) ((rd_T56 l0 x5_1).f0) ((rd_T56 l0 x5_1).f1) false _ A11.out).mono ?_
         rintro e w20 ⟨rfl, hb⟩
         refine ⟨_, rfl, ?_⟩
         replace HB := a0_ (below_step (bl0_) hb)
         (try clear hb)
         refine hK.out _ _ ⟨(hc_ hw202_0), (hc_ hw202_1), (hc_ hw203_0), (hc_ hw203_1)⟩ (fun hHeld => ?_)
         clear hK K
         refine nm_ ?_
         refine done_ (done_of HT_.out kr_) ?_
         try go_wp2
         go_roundg k1
         case measure => have := HK1.out; omega
         case rel => exact ⟨(wrap64 (x5_1 + 1)), rs_, H', ⟨by have := HK1.out; omega⟩, ⟨bl0_⟩⟩
      ·rw [if_neg c6] at H
       exact absurd H (by simp)
     ·rw [if_neg c5] at H
      exact absurd H (by simp)
    ·rw [if_neg c4] at H
     have c4b0 : decide (x5_1 < (l0.length : Int)) = false := decide_eq_false c4
     clear c4
     obtain rfl := Option.some.inj H
     go_wp2
     go_ret
     exact ⟨er_, bl0_⟩
 ·rw [if_neg c3] at H
  have c3b0 : ((l0.length : Int) == (l1.length : Int)) = false := beq_eq_false_iff_ne.mpr c3
  have c3b1 : ((l0.length : Int) != (l1.length : Int)) = true := bne_iff_ne.mpr c3
  have c3b2 : (l0.length == l1.length) = false := by first | simpa using c3 | (simp at c3 ⊢; omega)
  by_cases c21 : (l0.length : Int) < (l1.length : Int)
  ·rw [if_pos c21] at H
   have c21b0 : decide ((l0.length : Int) < (l1.length : Int)) = true := decide_eq_true c21
   have c21b1 : decide (l0.length < l1.length) = true := decide_eq_true (Int.ofNat_lt.mp c21)
   clear c21
   obtain rfl := Option.some.inj H
   go_enter Tryz.func37, Tryz.ntmps37
   go_wp2
   go_ret
   exact ⟨er_, bl0_⟩
  ·rw [if_neg c21] at H
   have c21b0 : decide ((l0.length : Int) < (l1.length : Int)) = false := decide_eq_false c21
   have c21b1 : decide (l0.length < l1.length) = false := decide_eq_false (fun h => c21 (Int.ofNat_lt.mpr h))
   clear c21
   obtain rfl := Option.some.inj H
   go_enter Tryz.func37, Tryz.ntmps37
   go_wp2
   go_ret
   exact ⟨er_, bl0_⟩
end Go.Proofs.YtmdjkmfocgelnaaGreatDoor.PFnAllNets
