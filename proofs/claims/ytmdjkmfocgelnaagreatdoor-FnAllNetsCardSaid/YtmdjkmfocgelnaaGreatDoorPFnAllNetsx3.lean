/- Over the kit's printer by a driver of mine (hprint.py), with parts by hand: functions of the program as Lean functions, and that each call comes to exactly these answers. -/
import Derived.Test.YtmdjkmfocgelnaaGreatDoorPFnAllNetsx0
import Derived.Test.YtmdjkmfocgelnaaGreatDoorPFnAllNetsx2
namespace Go.Proofs.YtmdjkmfocgelnaaGreatDoor.PFnAllNets
open Go.RowKit Go.Proofs.YtmdjkmfocgelnaaGreatDoorW.PrintWords Go.Proofs.YtmdjkmfocgelnaaGreatDoorW.PrintLast Go.Proofs.YtmdjkmfocgelnaaGreatDoorW.PrintMore
attribute [local go_sem] max2_int min2_int max_two min_two max_three min_three max_four min_four   
set_option linter.unusedVariables false
set_option linter.unusedSimpArgs false
def spec_IsShape.l0 : Nat → List (S56) → Int → Option (Bool)
 | 0, _, _ => none
 | k + 1, x0, x3 => if x3 < (x0.length : Int) then (if 0 ≤ x3 then ((spec_l02Cell.f ((rd_T56 x0 x3).f0) ((rd_T56 x0 x3).f1)).bind fun t108 => (if t108 = true then (if x3 > 0 then (if 0 ≤ (wrap64 (x3 - 1)) then (if (wrap64 (x3 - 1)) < (x0.length : Int) then ((spec_l02Less.f ((rd_T56 x0 (wrap64 (x3 - 1))).f0) ((rd_T56 x0 (wrap64 (x3 - 1))).f1) ((rd_T56 x0 x3).f0) ((rd_T56 x0 x3).f1)).bind fun t111 => (if t111 = true then (spec_IsShape.l0 k x0 (wrap64 (x3 + 1))) else (some false))) else (none)) else (none)) else (spec_IsShape.l0 k x0 (wrap64 (x3 + 1)))) else (some false))) else (none)) else ((spec_l01In.f (x0.length : Int) 1 40).bind fun t106 => (some t106))
def spec_IsShape.f (k : Nat) (l0 : List (S56)) : Option (Bool) := spec_IsShape.l0 k l0 0
def spec_IsShape.T4 : Bool × List (List Nat × List Nat) := (true, [([], []), ([], []), ([0, 1], [0, 1]), ([2], [2]), ([3], [3]), ([4], [4]), ([5, 4], [5]), ([6], [6]), ([7, 6], [6, 7]), ([8, 6, 6], [6, 8]), ([9], [9]), ([9], [9]), ([11, 9], [9, 11]), ([10, 12, 9], [9, 10, 12]), ([13, 9], [9, 13]), ([9], [9]), ([9], [9]), ([15, 16, 9], [9, 15, 16]), ([17, 9], [9, 17]), ([14, 18, 9, 9], [9, 14, 18]), ([19, 9], [9, 19]), ([9, 20, 6], [6, 9, 20]), ([6, 21], [6, 21])])
def spec_IsShape.B4 : List Nat := [0, 0, 3, 7, 15, 31, 63, 127, 255, 511, 1023, 1023, 3071, 8191, 16383, 1023, 1023, 99327, 230399, 524287, 1048575, 2097151, 4194303]
theorem spec_IsShape.tab4 : rtab .any (opsOf Tryz.f59 4) = spec_IsShape.T4 := by kernel_rfl
theorem spec_IsShape.bits4 : waitsOk spec_IsShape.T4.2 spec_IsShape.B4 = true := by kernel_rfl
set_option maxHeartbeats 8000000 in
set_option maxRecDepth 100000 in
theorem spec_IsShape.calls (k : Nat) (A0 : Option Addr) (c0 : Nat) (l0 : List (S56)) (r : Bool) (w : World) (hr0 : Kd.C k56 w A0 l0.length l0) (hc0 : l0.length ≤ c0) (h : spec_IsShape.f k l0 = some r) :
  Calls Tryz.prog 59 #[.slice A0 l0.length c0] w fun e w' => e = .returned (.bool r) ∧ Below w.heap.size w w' := by
 have hu56 := Tryz.underlying56
 have HR0 := Aside0.mk hr0
 have HC0 := Aside0.mk hc0
 clear hr0 hc0
 have HB := a0_ (Below.refl w.heap.size w)
 have H : (spec_IsShape.l0 k l0 0) = some r := h
 clear h
 have H' := Aside0.mk H
 clear H
 go_enter Tryz.func59, Tryz.ntmps59
 go_wp2
 go_loopg [3] k (fun kq v3 w' => ∃ (x3_1 : Int), v3 = .int .i64 x3_1 ∧ Aside0 (spec_IsShape.l0 kq l0 x3_1 = some r) ∧ Aside0 (kq ≤ k) ∧ Aside0 (Below w.heap.size w w'))
 case atStart => exact ⟨(0), rs_, H', ⟨Nat.le_refl _⟩, ⟨bl0_⟩⟩
 case round =>
  clear H'
  obtain ⟨x3_1, rfl, HA, HK1, HB⟩ := hrel
  cases gk with
  | zero => exact absurd HA.out (by simp [spec_IsShape.l0])
  | succ k1 =>
   have H := HA.out
   clear HA
   simp only [spec_IsShape.l0] at H
   by_cases c2 : x3_1 < (l0.length : Int)
   ·rw [if_pos c2] at H
    have c2b0 : decide (x3_1 < (l0.length : Int)) = true := decide_eq_true c2
    clear c2
    by_cases c3 : 0 ≤ x3_1
    ·rw [if_pos c3] at H
     have c3b0 : decide (0 ≤ x3_1) = true := decide_eq_true c3
     clear c3
     obtain ⟨t108, A4, H⟩ := bs_ H
     by_cases c5 : t108 = true
     ·subst c5
      rw [if_pos rfl] at H
      by_cases c6 : x3_1 > 0
      ·rw [if_pos c6] at H
       have c6b0 : decide (0 < x3_1) = true := decide_eq_true c6
       clear c6
       obtain ⟨ji7, hji7⟩ : ∃ j_ : Int, (wrap64 (x3_1 - 1)) = j_ := ⟨_, rfl⟩
       replace H : (if 0 ≤ (ji7) then (if (ji7) < (l0.length : Int) then ((spec_l02Less.f ((rd_T56 l0 (ji7)).f0) ((rd_T56 l0 (ji7)).f1) ((rd_T56 l0 x3_1).f0) ((rd_T56 l0 x3_1).f1)).bind fun t111 => (if t111 = true then (spec_IsShape.l0 k1 l0 (wrap64 (x3_1 + 1))) else (some false))) else (none)) else (none)) = some r := by first | (rw [hji7] at H; exact H) | (simp only [hji7] at H ⊢; exact H)
       (try rw [hji7] at A4)
       have hji7w : (IntKind.i64.wrap (x3_1 - 1)) = ji7 := (i64_w _).trans hji7
       by_cases c8 : 0 ≤ (ji7)
       ·rw [if_pos c8] at H
        have c8b0 : decide (0 ≤ (ji7)) = true := decide_eq_true c8
        clear c8
        by_cases c9 : (ji7) < (l0.length : Int)
        ·rw [if_pos c9] at H
         have c9b0 : decide ((ji7) < (l0.length : Int)) = true := decide_eq_true c9
         clear c9
         obtain ⟨t111, A10, H⟩ := bs_ H
         by_cases c11 : t111 = true
         ·subst c11
          rw [if_pos rfl] at H
          have H' := Aside0.mk H
          clear H
          try go_wp2
          replace HB := a0_ (below_drew1 HB.out)
          have p107 : 0 ≤ (x3_1 : Int) := od_
          have q107 : x3_1 < (l0.length : Int) := od_
          obtain ⟨ad107, e107, hx107_0, hx107_1⟩ := at_T56 HR0.out x3_1 p107 q107
          have hw107_1 := hx107_1
          have hw107_0 := hx107_0
          cases e107
          replace hx107_0 := hc_ hx107_0
          replace hx107_1 := hc_ hx107_1
          replace p107 := eq_true p107
          replace q107 := eq_true q107
          have p109 : 0 ≤ ((ji7) : Int) := od_
          have q109 : (ji7) < (l0.length : Int) := od_
          obtain ⟨ad109, e109, hx109_0, hx109_1⟩ := at_T56 HR0.out (ji7) p109 q109
          have hw109_1 := hx109_1
          have hw109_0 := hx109_0
          obtain rfl : ad107 = ad109 := (by injection e109)
          replace hx109_0 := hc_ hx109_0
          replace hx109_1 := hc_ hx109_1
          replace p109 := eq_true p109
          replace q109 := eq_true q109
          have p110 : 0 ≤ (x3_1 : Int) := od_
          have q110 : x3_1 < (l0.length : Int) := od_
          obtain ⟨ad110, e110, hx110_0, hx110_1⟩ := at_T56 HR0.out x3_1 p110 q110
          have hw110_1 := hx110_1
          have hw110_0 := hx110_0
          obtain rfl : ad107 = ad110 := (by injection e110)
          replace hx110_0 := hc_ hx110_0
          replace hx110_1 := hc_ hx110_1
          replace p110 := eq_true p110
          replace q110 := eq_true q110
          refine start_ (n := 23) (S := fun w' => w'.cell? (ad107.add ((x3_1).toNat * 2)) = some (.int .i64 ((rd_T56 l0 x3_1).f0)) ∧ w'.cell? ⟨(ad107.add ((x3_1).toNat * 2)).block, (ad107.add ((x3_1).toNat * 2)).off + 1, none⟩ = some (.int .i64 ((rd_T56 l0 x3_1).f1)) ∧ w'.cell? (ad107.add (((ji7)).toNat * 2)) = some (.int .i64 ((rd_T56 l0 (ji7)).f0)) ∧ w'.cell? ⟨(ad107.add (((ji7)).toNat * 2)).block, (ad107.add (((ji7)).toNat * 2)).off + 1, none⟩ = some (.int .i64 ((rd_T56 l0 (ji7)).f1)) ∧ w'.cell? (ad107.add ((x3_1).toNat * 2)) = some (.int .i64 ((rd_T56 l0 x3_1).f0)) ∧ w'.cell? ⟨(ad107.add ((x3_1).toNat * 2)).block, (ad107.add ((x3_1).toNat * 2)).off + 1, none⟩ = some (.int .i64 ((rd_T56 l0 x3_1).f1))) (ds := []) (mk_ 0 23) kr_ rfl rfl ⟨(hc_ hw107_0), (hc_ hw107_1), (hc_ hw109_0), (hc_ hw109_1), (hc_ hw110_0), (hc_ hw110_1)⟩ (fun hHeld => ?_); refine with_tabW spec_IsShape.tab4 spec_IsShape.bits4 (fun HT_ HW_ => ?_)
          generalize wr.drew = w12 at HB hx107_0 hx107_1 hx109_0 hx109_1 hx110_0 hx110_1 hHeld ⊢
          refine pu_ 0 (some 10) (mk_ 1 22) HT_ ?_
          refine pu_ 1 (some 11) (mk_ 2 21) HT_ ?_
          refine pu_ 2 (some 12) (mk_ 3 20) HT_ ?_
          refine tk_ 3 (some 13) (mk_ 4 19) HT_ HW_ hHeld (hy := .inl ⟨by rfl, by rintro w' ⟨s0, s1, s2, s3, s4, s5⟩; go_simp; with_reducible rfl⟩) ?_
          refine one_ (i := 4) (N := some 14) (mk_ 5 18) rfl rfl (one_of HT_.out kr_) (by decide) (fun K hK => ?_)
          refine goes_ Tryz.func84 kr_ rfl #[.agg #[.int .i64 ((rd_T56 l0 x3_1).f0), .int .i64 ((rd_T56 l0 x3_1).f1)]] (by rfl) rfl rfl ta_ ?_
          with_reducible refine (spec_l02Cell.calls ((rd_T56 l0 x3_1).f0) ((rd_T56 l0 x3_1).f1) true _ A4.out).mono ?_
          rintro e w13 ⟨rfl, hb⟩
          refine ⟨_, rfl, ?_⟩
          replace HB := a0_ (below_step (bl0_) hb)
          (try clear hb)
          refine hK.out _ _ ⟨(hc_ hw107_0), (hc_ hw107_1), (hc_ hw109_0), (hc_ hw109_1), (hc_ hw110_0), (hc_ hw110_1)⟩ (fun hHeld => ?_)
          clear hK K
          refine nm_ ?_
          refine pu_ 5 (some 15) (mk_ 6 17) HT_ ?_
          refine pu_ 6 (some 16) (mk_ 7 16) HT_ ?_
          refine pu_ 7 (some 17) (mk_ 8 15) HT_ ?_
          refine pu_ 8 (some 18) (mk_ 9 14) HT_ ?_
          refine pu_ 9 (some 19) (mk_ 10 13) HT_ ?_
          refine pu_ 10 (some 20) (mk_ 11 12) HT_ ?_
          refine pu_ 11 (some 21) (mk_ 12 11) HT_ ?_
          refine pu_ 12 (some 22) (mk_ 13 10) HT_ ?_
          refine pu_ 13 (some 23) (mk_ 14 9) HT_ ?_
          refine pu_ 15 (some 25) #[true, true, true, true, true, true, true, true, true, true, true, true, true, true, false, true, false, false, false, false, false, false, false] HT_ ?_
          refine pu_ 16 (some 26) #[true, true, true, true, true, true, true, true, true, true, true, true, true, true, false, true, true, false, false, false, false, false, false] HT_ ?_
          refine pu_ 17 (some 27) #[true, true, true, true, true, true, true, true, true, true, true, true, true, true, false, true, true, true, false, false, false, false, false] HT_ ?_
          refine tk_ 14 (some 24) (mk_ 18 5) HT_ HW_ hHeld (hy := .inl ⟨by rfl, by rintro w' ⟨s0, s1, s2, s3, s4, s5⟩; go_simp; with_reducible rfl⟩) ?_
          refine tk_ 18 (some 28) (mk_ 19 4) HT_ HW_ hHeld (hy := .inl ⟨by rfl, by rintro w' ⟨s0, s1, s2, s3, s4, s5⟩; go_simp; with_reducible rfl⟩) ?_
          refine one_ (i := 19) (N := some 29) (mk_ 20 3) rfl rfl (one_of HT_.out kr_) (by decide) (fun K hK => ?_)
          refine goes_ Tryz.func68 kr_ rfl #[.agg #[.int .i64 ((rd_T56 l0 (ji7)).f0), .int .i64 ((rd_T56 l0 (ji7)).f1)], .agg #[.int .i64 ((rd_T56 l0 x3_1).f0), .int .i64 ((rd_T56 l0 x3_1).f1)]] (by rfl) rfl rfl (by (try simp only [List.map_toArray, List.map_cons, List.map_nil]); first | done | (simp only [hji7]; rfl) | rfl | (simp only [List.length_drop, List.length_take]; rfl)) ?_
          with_reducible refine (spec_l02Less.calls ((rd_T56 l0 (ji7)).f0) ((rd_T56 l0 (ji7)).f1) ((rd_T56 l0 x3_1).f0) ((rd_T56 l0 x3_1).f1) true _ A10.out).mono ?_
          rintro e w14 ⟨rfl, hb⟩
          refine ⟨_, rfl, ?_⟩
          replace HB := a0_ (below_step (bl0_) hb)
          (try clear hb)
          refine hK.out _ _ ⟨(hc_ hw107_0), (hc_ hw107_1), (hc_ hw109_0), (hc_ hw109_1), (hc_ hw110_0), (hc_ hw110_1)⟩ (fun hHeld => ?_)
          clear hK K
          refine nm_ ?_
          refine pu_ 20 (some 30) (mk_ 21 2) HT_ ?_
          refine pu_ 21 (some 31) (mk_ 22 1) HT_ ?_
          refine pu_ 22 (some 32) (mk_ 23 0) HT_ ?_
          refine done_ (done_of HT_.out kr_) ?_
          try go_wp2
          go_roundg k1
          case measure => have := HK1.out; omega
          case rel => exact ⟨(wrap64 (x3_1 + 1)), rs_, H', ⟨by have := HK1.out; omega⟩, ⟨bl0_⟩⟩
         ·replace c11 := Bool.eq_false_iff.mpr c11
          subst c11
          rw [if_neg (show ¬ (false = true) by decide)] at H
          obtain rfl := Option.some.inj H
          try go_wp2
          replace HB := a0_ (below_drew1 HB.out)
          have p107 : 0 ≤ (x3_1 : Int) := od_
          have q107 : x3_1 < (l0.length : Int) := od_
          obtain ⟨ad107, e107, hx107_0, hx107_1⟩ := at_T56 HR0.out x3_1 p107 q107
          have hw107_1 := hx107_1
          have hw107_0 := hx107_0
          cases e107
          replace hx107_0 := hc_ hx107_0
          replace hx107_1 := hc_ hx107_1
          replace p107 := eq_true p107
          replace q107 := eq_true q107
          have p109 : 0 ≤ ((ji7) : Int) := od_
          have q109 : (ji7) < (l0.length : Int) := od_
          obtain ⟨ad109, e109, hx109_0, hx109_1⟩ := at_T56 HR0.out (ji7) p109 q109
          have hw109_1 := hx109_1
          have hw109_0 := hx109_0
          obtain rfl : ad107 = ad109 := (by injection e109)
          replace hx109_0 := hc_ hx109_0
          replace hx109_1 := hc_ hx109_1
          replace p109 := eq_true p109
          replace q109 := eq_true q109
          have p110 : 0 ≤ (x3_1 : Int) := od_
          have q110 : x3_1 < (l0.length : Int) := od_
          obtain ⟨ad110, e110, hx110_0, hx110_1⟩ := at_T56 HR0.out x3_1 p110 q110
          have hw110_1 := hx110_1
          have hw110_0 := hx110_0
          obtain rfl : ad107 = ad110 := (by injection e110)
          replace hx110_0 := hc_ hx110_0
          replace hx110_1 := hc_ hx110_1
          replace p110 := eq_true p110
          replace q110 := eq_true q110
          refine start_ (n := 23) (S := fun w' => w'.cell? (ad107.add ((x3_1).toNat * 2)) = some (.int .i64 ((rd_T56 l0 x3_1).f0)) ∧ w'.cell? ⟨(ad107.add ((x3_1).toNat * 2)).block, (ad107.add ((x3_1).toNat * 2)).off + 1, none⟩ = some (.int .i64 ((rd_T56 l0 x3_1).f1)) ∧ w'.cell? (ad107.add (((ji7)).toNat * 2)) = some (.int .i64 ((rd_T56 l0 (ji7)).f0)) ∧ w'.cell? ⟨(ad107.add (((ji7)).toNat * 2)).block, (ad107.add (((ji7)).toNat * 2)).off + 1, none⟩ = some (.int .i64 ((rd_T56 l0 (ji7)).f1)) ∧ w'.cell? (ad107.add ((x3_1).toNat * 2)) = some (.int .i64 ((rd_T56 l0 x3_1).f0)) ∧ w'.cell? ⟨(ad107.add ((x3_1).toNat * 2)).block, (ad107.add ((x3_1).toNat * 2)).off + 1, none⟩ = some (.int .i64 ((rd_T56 l0 x3_1).f1))) (ds := []) (mk_ 0 23) kr_ rfl rfl ⟨(hc_ hw107_0), (hc_ hw107_1), (hc_ hw109_0), (hc_ hw109_1), (hc_ hw110_0), (hc_ hw110_1)⟩ (fun hHeld => ?_); refine with_tabW spec_IsShape.tab4 spec_IsShape.bits4 (fun HT_ HW_ => ?_)
          generalize wr.drew = w15 at HB hx107_0 hx107_1 hx109_0 hx109_1 hx110_0 hx110_1 hHeld ⊢
          refine pu_ 0 (some 10) (mk_ 1 22) HT_ ?_
          refine pu_ 1 (some 11) (mk_ 2 21) HT_ ?_
          refine pu_ 2 (some 12) (mk_ 3 20) HT_ ?_
          refine tk_ 3 (some 13) (mk_ 4 19) HT_ HW_ hHeld (hy := .inl ⟨by rfl, by rintro w' ⟨s0, s1, s2, s3, s4, s5⟩; go_simp; with_reducible rfl⟩) ?_
          refine one_ (i := 4) (N := some 14) (mk_ 5 18) rfl rfl (one_of HT_.out kr_) (by decide) (fun K hK => ?_)
          refine goes_ Tryz.func84 kr_ rfl #[.agg #[.int .i64 ((rd_T56 l0 x3_1).f0), .int .i64 ((rd_T56 l0 x3_1).f1)]] (by rfl) rfl rfl ta_ ?_
          with_reducible refine (spec_l02Cell.calls ((rd_T56 l0 x3_1).f0) ((rd_T56 l0 x3_1).f1) true _ A4.out).mono ?_
          rintro e w16 ⟨rfl, hb⟩
          refine ⟨_, rfl, ?_⟩
          replace HB := a0_ (below_step (bl0_) hb)
          (try clear hb)
          refine hK.out _ _ ⟨(hc_ hw107_0), (hc_ hw107_1), (hc_ hw109_0), (hc_ hw109_1), (hc_ hw110_0), (hc_ hw110_1)⟩ (fun hHeld => ?_)
          clear hK K
          refine nm_ ?_
          refine pu_ 5 (some 15) (mk_ 6 17) HT_ ?_
          refine pu_ 6 (some 16) (mk_ 7 16) HT_ ?_
          refine pu_ 7 (some 17) (mk_ 8 15) HT_ ?_
          refine pu_ 8 (some 18) (mk_ 9 14) HT_ ?_
          refine pu_ 9 (some 19) (mk_ 10 13) HT_ ?_
          refine pu_ 10 (some 20) (mk_ 11 12) HT_ ?_
          refine pu_ 11 (some 21) (mk_ 12 11) HT_ ?_
          refine pu_ 12 (some 22) (mk_ 13 10) HT_ ?_
          refine pu_ 13 (some 23) (mk_ 14 9) HT_ ?_
          refine pu_ 15 (some 25) #[true, true, true, true, true, true, true, true, true, true, true, true, true, true, false, true, false, false, false, false, false, false, false] HT_ ?_
          refine pu_ 16 (some 26) #[true, true, true, true, true, true, true, true, true, true, true, true, true, true, false, true, true, false, false, false, false, false, false] HT_ ?_
          refine pu_ 17 (some 27) #[true, true, true, true, true, true, true, true, true, true, true, true, true, true, false, true, true, true, false, false, false, false, false] HT_ ?_
          refine tk_ 14 (some 24) (mk_ 18 5) HT_ HW_ hHeld (hy := .inl ⟨by rfl, by rintro w' ⟨s0, s1, s2, s3, s4, s5⟩; go_simp; with_reducible rfl⟩) ?_
          refine tk_ 18 (some 28) (mk_ 19 4) HT_ HW_ hHeld (hy := .inl ⟨by rfl, by rintro w' ⟨s0, s1, s2, s3, s4, s5⟩; go_simp; with_reducible rfl⟩) ?_
          refine one_ (i := 19) (N := some 29) (mk_ 20 3) rfl rfl (one_of HT_.out kr_) (by decide) (fun K hK => ?_)
          refine goes_ Tryz.func68 kr_ rfl #[.agg #[.int .i64 ((rd_T56 l0 (ji7)).f0), .int .i64 ((rd_T56 l0 (ji7)).f1)], .agg #[.int .i64 ((rd_T56 l0 x3_1).f0), .int .i64 ((rd_T56 l0 x3_1).f1)]] (by rfl) rfl rfl (by (try simp only [List.map_toArray, List.map_cons, List.map_nil]); first | done | (simp only [hji7]; rfl) | rfl | (simp only [List.length_drop, List.length_take]; rfl)) ?_
          with_reducible refine (spec_l02Less.calls ((rd_T56 l0 (ji7)).f0) ((rd_T56 l0 (ji7)).f1) ((rd_T56 l0 x3_1).f0) ((rd_T56 l0 x3_1).f1) false _ A10.out).mono ?_
          rintro e w17 ⟨rfl, hb⟩
          refine ⟨_, rfl, ?_⟩
          replace HB := a0_ (below_step (bl0_) hb)
          (try clear hb)
          refine hK.out _ _ ⟨(hc_ hw107_0), (hc_ hw107_1), (hc_ hw109_0), (hc_ hw109_1), (hc_ hw110_0), (hc_ hw110_1)⟩ (fun hHeld => ?_)
          clear hK K
          refine nm_ ?_
          refine pu_ 20 (some 30) (mk_ 21 2) HT_ ?_
          refine pu_ 21 (some 31) (mk_ 22 1) HT_ ?_
          refine pu_ 22 (some 32) (mk_ 23 0) HT_ ?_
          refine done_ (done_of HT_.out kr_) ?_
          try go_wp2
          go_ret
          exact ⟨by first | rfl | (simp [errW_none, errW_some] <;> rfl) | (simp only [← hji7]; first | rfl | (simp [errW_none, errW_some] <;> rfl)) | (simp [*, errW_none, errW_some] <;> rfl), bl0_⟩
        ·rw [if_neg c9] at H
         exact absurd H (by simp)
       ·rw [if_neg c8] at H
        exact absurd H (by simp)
      ·rw [if_neg c6] at H
       have c6b0 : decide (0 < x3_1) = false := decide_eq_false c6
       clear c6
       have H' := Aside0.mk H
       clear H
       try go_wp2
       replace HB := a0_ (below_drew1 HB.out)
       have p107 : 0 ≤ (x3_1 : Int) := od_
       have q107 : x3_1 < (l0.length : Int) := od_
       obtain ⟨ad107, e107, hx107_0, hx107_1⟩ := at_T56 HR0.out x3_1 p107 q107
       have hw107_1 := hx107_1
       have hw107_0 := hx107_0
       cases e107
       replace hx107_0 := hc_ hx107_0
       replace hx107_1 := hc_ hx107_1
       replace p107 := eq_true p107
       replace q107 := eq_true q107
       refine start_ (n := 23) (S := fun w' => w'.cell? (ad107.add ((x3_1).toNat * 2)) = some (.int .i64 ((rd_T56 l0 x3_1).f0)) ∧ w'.cell? ⟨(ad107.add ((x3_1).toNat * 2)).block, (ad107.add ((x3_1).toNat * 2)).off + 1, none⟩ = some (.int .i64 ((rd_T56 l0 x3_1).f1))) (ds := []) (mk_ 0 23) kr_ rfl rfl ⟨(hc_ hw107_0), (hc_ hw107_1)⟩ (fun hHeld => ?_); refine with_tabW spec_IsShape.tab4 spec_IsShape.bits4 (fun HT_ HW_ => ?_)
       generalize wr.drew = w18 at HB hx107_0 hx107_1 hHeld ⊢
       refine pu_ 0 (some 10) (mk_ 1 22) HT_ ?_
       refine pu_ 1 (some 11) (mk_ 2 21) HT_ ?_
       refine pu_ 2 (some 12) (mk_ 3 20) HT_ ?_
       refine tk_ 3 (some 13) (mk_ 4 19) HT_ HW_ hHeld (hy := .inl ⟨by rfl, by rintro w' ⟨s0, s1⟩; go_simp; with_reducible rfl⟩) ?_
       refine one_ (i := 4) (N := some 14) (mk_ 5 18) rfl rfl (one_of HT_.out kr_) (by decide) (fun K hK => ?_)
       refine goes_ Tryz.func84 kr_ rfl #[.agg #[.int .i64 ((rd_T56 l0 x3_1).f0), .int .i64 ((rd_T56 l0 x3_1).f1)]] (by rfl) rfl rfl ta_ ?_
       with_reducible refine (spec_l02Cell.calls ((rd_T56 l0 x3_1).f0) ((rd_T56 l0 x3_1).f1) true _ A4.out).mono ?_
       rintro e w19 ⟨rfl, hb⟩
       refine ⟨_, rfl, ?_⟩
       replace HB := a0_ (below_step (bl0_) hb)
       (try clear hb)
       refine hK.out _ _ ⟨(hc_ hw107_0), (hc_ hw107_1)⟩ (fun hHeld => ?_)
       clear hK K
       refine nm_ ?_
       refine pu_ 5 (some 15) (mk_ 6 17) HT_ ?_
       refine pu_ 6 (some 16) (mk_ 7 16) HT_ ?_
       refine pu_ 7 (some 17) (mk_ 8 15) HT_ ?_
       refine pu_ 8 (some 18) (mk_ 9 14) HT_ ?_
       refine pu_ 9 (some 19) (mk_ 10 13) HT_ ?_
       refine pn_ 10 (some 20) (mk_ 11 12) HT_ ?_
       refine pn_ 11 (some 21) (mk_ 12 11) HT_ ?_
       refine pn_ 12 (some 22) (mk_ 13 10) HT_ ?_
       refine pn_ 13 (some 23) (mk_ 14 9) HT_ ?_
       refine pn_ 14 (some 24) (mk_ 15 8) HT_ ?_
       refine pn_ 15 (some 25) (mk_ 16 7) HT_ ?_
       refine pn_ 16 (some 26) (mk_ 17 6) HT_ ?_
       refine pn_ 17 (some 27) (mk_ 18 5) HT_ ?_
       refine pn_ 18 (some 28) (mk_ 19 4) HT_ ?_
       refine pn_ 19 (some 29) (mk_ 20 3) HT_ ?_
       refine pn_ 20 (some 30) (mk_ 21 2) HT_ ?_
       refine pu_ 21 (some 31) (mk_ 22 1) HT_ ?_
       refine pu_ 22 (some 32) (mk_ 23 0) HT_ ?_
       refine done_ (done_of HT_.out kr_) ?_
       try go_wp2
       go_roundg k1
       case measure => have := HK1.out; omega
       case rel => exact ⟨(wrap64 (x3_1 + 1)), rs_, H', ⟨by have := HK1.out; omega⟩, ⟨bl0_⟩⟩
     ·replace c5 := Bool.eq_false_iff.mpr c5
      subst c5
      rw [if_neg (show ¬ (false = true) by decide)] at H
      obtain rfl := Option.some.inj H
      try go_wp2
      replace HB := a0_ (below_drew1 HB.out)
      have p107 : 0 ≤ (x3_1 : Int) := od_
      have q107 : x3_1 < (l0.length : Int) := od_
      obtain ⟨ad107, e107, hx107_0, hx107_1⟩ := at_T56 HR0.out x3_1 p107 q107
      have hw107_1 := hx107_1
      have hw107_0 := hx107_0
      cases e107
      replace hx107_0 := hc_ hx107_0
      replace hx107_1 := hc_ hx107_1
      replace p107 := eq_true p107
      replace q107 := eq_true q107
      refine start_ (n := 23) (S := fun w' => w'.cell? (ad107.add ((x3_1).toNat * 2)) = some (.int .i64 ((rd_T56 l0 x3_1).f0)) ∧ w'.cell? ⟨(ad107.add ((x3_1).toNat * 2)).block, (ad107.add ((x3_1).toNat * 2)).off + 1, none⟩ = some (.int .i64 ((rd_T56 l0 x3_1).f1))) (ds := []) (mk_ 0 23) kr_ rfl rfl ⟨(hc_ hw107_0), (hc_ hw107_1)⟩ (fun hHeld => ?_); refine with_tabW spec_IsShape.tab4 spec_IsShape.bits4 (fun HT_ HW_ => ?_)
      generalize wr.drew = w20 at HB hx107_0 hx107_1 hHeld ⊢
      refine pu_ 0 (some 10) (mk_ 1 22) HT_ ?_
      refine pu_ 1 (some 11) (mk_ 2 21) HT_ ?_
      refine pu_ 2 (some 12) (mk_ 3 20) HT_ ?_
      refine tk_ 3 (some 13) (mk_ 4 19) HT_ HW_ hHeld (hy := .inl ⟨by rfl, by rintro w' ⟨s0, s1⟩; go_simp; with_reducible rfl⟩) ?_
      refine one_ (i := 4) (N := some 14) (mk_ 5 18) rfl rfl (one_of HT_.out kr_) (by decide) (fun K hK => ?_)
      refine goes_ Tryz.func84 kr_ rfl #[.agg #[.int .i64 ((rd_T56 l0 x3_1).f0), .int .i64 ((rd_T56 l0 x3_1).f1)]] (by rfl) rfl rfl ta_ ?_
      with_reducible refine (spec_l02Cell.calls ((rd_T56 l0 x3_1).f0) ((rd_T56 l0 x3_1).f1) false _ A4.out).mono ?_
      rintro e w21 ⟨rfl, hb⟩
      refine ⟨_, rfl, ?_⟩
      replace HB := a0_ (below_step (bl0_) hb)
      (try clear hb)
      refine hK.out _ _ ⟨(hc_ hw107_0), (hc_ hw107_1)⟩ (fun hHeld => ?_)
      clear hK K
      refine nm_ ?_
      refine pu_ 5 (some 15) (mk_ 6 17) HT_ ?_
      refine pu_ 6 (some 16) (mk_ 7 16) HT_ ?_
      refine pn_ 7 (some 17) (mk_ 8 15) HT_ ?_
      refine pn_ 8 (some 18) (mk_ 9 14) HT_ ?_
      refine pn_ 9 (some 19) (mk_ 10 13) HT_ ?_
      refine pn_ 10 (some 20) (mk_ 11 12) HT_ ?_
      refine pn_ 11 (some 21) (mk_ 12 11) HT_ ?_
      refine pn_ 12 (some 22) (mk_ 13 10) HT_ ?_
      refine pn_ 13 (some 23) (mk_ 14 9) HT_ ?_
      refine pn_ 14 (some 24) (mk_ 15 8) HT_ ?_
      refine pn_ 15 (some 25) (mk_ 16 7) HT_ ?_
      refine pn_ 16 (some 26) (mk_ 17 6) HT_ ?_
      refine pn_ 17 (some 27) (mk_ 18 5) HT_ ?_
      refine pn_ 18 (some 28) (mk_ 19 4) HT_ ?_
      refine pn_ 19 (some 29) (mk_ 20 3) HT_ ?_
      refine pn_ 20 (some 30) (mk_ 21 2) HT_ ?_
      refine pn_ 21 (some 31) (mk_ 22 1) HT_ ?_
      refine pu_ 22 (some 32) (mk_ 23 0) HT_ ?_
      refine done_ (done_of HT_.out kr_) ?_
      try go_wp2
      go_ret
      exact ⟨er_, bl0_⟩
    ·rw [if_neg c3] at H
     exact absurd H (by simp)
   ·rw [if_neg c2] at H
    have c2b0 : decide (x3_1 < (l0.length : Int)) = false := decide_eq_false c2
    clear c2
    obtain ⟨t106, A22, H⟩ := bs_ H
    obtain rfl := Option.some.inj H
    go_wp2_with (first | ((with_reducible refine gate_callee (f := 62) rfl ?_); refine goesL_ (some 35) rfl rfl Tryz.func62 kr_ rfl #[.int .i64 (l0.length : Int), .int .i64 1, .int .i64 40] rfl ta_ ?_; (with_reducible refine (spec_l01In.calls (l0.length : Int) 1 40 t106 _ A22.out).mono ?_); rintro e w' ⟨rfl, ⟨nd, rfl⟩⟩; refine ⟨_, rfl, ?_⟩))
    go_ret
    exact ⟨er_, bl0_⟩
end Go.Proofs.YtmdjkmfocgelnaaGreatDoor.PFnAllNets
