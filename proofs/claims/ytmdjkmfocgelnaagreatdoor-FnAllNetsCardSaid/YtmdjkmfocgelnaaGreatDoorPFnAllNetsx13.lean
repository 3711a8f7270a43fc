/- Over the kit's printer by a driver of mine (hprint.py), with parts by hand: functions of the program as Lean functions, and that each call comes to exactly these answers. -/
import Derived.Test.YtmdjkmfocgelnaaGreatDoorPFnAllNetsx0
import Derived.Test.YtmdjkmfocgelnaaGreatDoorPFnAllNetsx11
import Derived.Test.YtmdjkmfocgelnaaGreatDoorPFnAllNetsx12
namespace Go.Proofs.YtmdjkmfocgelnaaGreatDoor.PFnAllNets
open Go.RowKit Go.Proofs.YtmdjkmfocgelnaaGreatDoorW.PrintWords Go.Proofs.YtmdjkmfocgelnaaGreatDoorW.PrintLast Go.Proofs.YtmdjkmfocgelnaaGreatDoorW.PrintMore
attribute [local go_sem] max2_int min2_int max_two min_two max_three min_three max_four min_four   
set_option linter.unusedVariables false
set_option linter.unusedSimpArgs false
def impl_IsShape.l0 : Nat → List (S56) → List (S56) → Int → Int → Option (Bool)
 | 0, _, _, _, _ => none
 | k + 1, x0, x5, x6, x7 => if x7 < x6 then (if 0 ≤ x7 then (if x7 < (x5.length : Int) then ((impl_isCoordinate.f ((rd_T56 x5 x7).f0)).bind fun t371 => (if t371 = true then ((impl_isCoordinate.f ((rd_T56 x5 x7).f1)).bind fun t372 => (if t372 = true then (if x7 > 0 then (if 0 ≤ (wrap64 (x7 - 1)) then (if (wrap64 (x7 - 1)) < (x0.length : Int) then ((impl_compareCells.f ((rd_T56 x0 (wrap64 (x7 - 1))).f0) ((rd_T56 x0 (wrap64 (x7 - 1))).f1) ((rd_T56 x5 x7).f0) ((rd_T56 x5 x7).f1)).bind fun t374 => (if t374 ≥ 0 then (some false) else (impl_IsShape.l0 k x0 x5 x6 (wrap64 (x7 + 1))))) else (none)) else (none)) else (impl_IsShape.l0 k x0 x5 x6 (wrap64 (x7 + 1)))) else (some false))) else (some false))) else (none)) else (none)) else (if (x0.length : Int) ≥ 1 then (some (decide ((x0.length : Int) ≤ 40))) else (some false))
def impl_IsShape.f (k : Nat) (l0 : List (S56)) : Option (Bool) := impl_IsShape.l0 k l0 l0 (l0.length : Int) 0
theorem impl_IsShape.mono_l : ∀ k, (∀ y0 y1 y2 y3, LeO (impl_IsShape.l0 k y0 y1 y2 y3) (impl_IsShape.l0 (k + 1) y0 y1 y2 y3))
 | 0 => fun _ _ _ _ r h => by simp [impl_IsShape.l0] at h
 | k + 1 => by
  have ih0 := impl_IsShape.mono_l k
  ·intro y0 y1 y2 y3
   unfold impl_IsShape.l0
   with_reducible (repeat' first | exact ih0 _ _ _ _ | exact LeO.refl _ | exact LeO.none _ | refine LeO.ite ?_ ?_ | refine LeO.bind ?_ (fun _ => ?_))
theorem impl_IsShape.mono : ∀ a0 k, LeO (impl_IsShape.f k a0) (impl_IsShape.f (k + 1) a0) := by
 intro a0 k
 have ih0 := impl_IsShape.mono_l k
 unfold impl_IsShape.f
 with_reducible (repeat' first | exact ih0 _ _ _ _ | exact LeO.refl _ | exact LeO.none _ | refine LeO.ite ?_ ?_ | refine LeO.bind ?_ (fun _ => ?_))
def impl_IsShape.T4 : Bool × List (List Nat × List Nat) := (true, [([], []), ([0], [0]), ([1], [1]), ([2], [2]), ([3, 2], [3]), ([4], [4]), ([5, 4], [4, 5]), ([6, 4, 4], [4, 6]), ([7, 4], [4, 7]), ([4, 8], [4, 8]), ([9, 7], [9]), ([10], [10]), ([11, 10], [10, 11]), ([12, 10, 10], [10, 12]), ([13], [13]), ([13], [13]), ([15, 13], [13, 15]), ([14, 16, 13], [13, 14, 16]), ([17, 13], [13, 17]), ([13], [13]), ([18, 19, 13, 13], [13, 18, 19]), ([20, 13], [13, 20]), ([13, 21, 10], [10, 13, 21]), ([10, 22], [10, 22])])
def impl_IsShape.B4 : List Nat := [0, 1, 3, 7, 15, 31, 63, 127, 255, 511, 1023, 2047, 4095, 8191, 16383, 16383, 49151, 131071, 262143, 16383, 1048575, 2097151, 4194303, 8388607]
theorem impl_IsShape.tab4 : rtab .any (opsOf Tryz.f51 4) = impl_IsShape.T4 := by kernel_rfl
theorem impl_IsShape.bits4 : waitsOk impl_IsShape.T4.2 impl_IsShape.B4 = true := by kernel_rfl
set_option maxHeartbeats 8000000 in
set_option maxRecDepth 100000 in
theorem impl_IsShape.calls (k : Nat) (A0 : Option Addr) (c0 : Nat) (l0 : List (S56)) (r : Bool) (w : World) (hr0 : Kd.C k56 w A0 l0.length l0) (hc0 : l0.length ≤ c0) (h : impl_IsShape.f k l0 = some r) :
  Calls Tryz.prog 51 #[.slice A0 l0.length c0] w fun e w' => e = .returned (.bool r) ∧ Below w.heap.size w w' := by
 have hu56 := Tryz.underlying56
 have HR0 := Aside0.mk hr0
 have HC0 := Aside0.mk hc0
 clear hr0 hc0
 have HB := a0_ (Below.refl w.heap.size w)
 have H : (impl_IsShape.l0 k l0 l0 (l0.length : Int) 0) = some r := h
 clear h
 have H' := Aside0.mk H
 clear H
 go_enter Tryz.func51, Tryz.ntmps51
 go_wp2
 go_loopg [7] k (fun kq v7 w' => ∃ (x7_1 : Int), v7 = .int .i64 x7_1 ∧ Aside0 (impl_IsShape.l0 kq l0 l0 (l0.length : Int) x7_1 = some r) ∧ Aside0 (kq ≤ k) ∧ Aside0 (Below w.heap.size w w'))
 case atStart => exact ⟨(0), rs_, H', ⟨Nat.le_refl _⟩, ⟨bl0_⟩⟩
 case round =>
  clear H'
  obtain ⟨x7_1, rfl, HA, HK1, HB⟩ := hrel
  cases gk with
  | zero => exact absurd HA.out (by simp [impl_IsShape.l0])
  | succ k1 =>
   have H := HA.out
   clear HA
   simp only [impl_IsShape.l0] at H
   by_cases c2 : x7_1 < (l0.length : Int)
   ·rw [if_pos c2] at H
    have c2b0 : decide (x7_1 < (l0.length : Int)) = true := decide_eq_true c2
    clear c2
    by_cases c3 : 0 ≤ x7_1
    ·rw [if_pos c3] at H
     have c3b0 : decide (0 ≤ x7_1) = true := decide_eq_true c3
     clear c3
     by_cases c4 : x7_1 < (l0.length : Int)
     ·rw [if_pos c4] at H
      have c4b0 : decide (x7_1 < (l0.length : Int)) = true := decide_eq_true c4
      clear c4
      obtain ⟨t371, A5, H⟩ := bs_ H
      by_cases c6 : t371 = true
      ·subst c6
       rw [if_pos rfl] at H
       obtain ⟨t372, A7, H⟩ := bs_ H
       by_cases c8 : t372 = true
       ·subst c8
        rw [if_pos rfl] at H
        by_cases c9 : x7_1 > 0
        ·rw [if_pos c9] at H
         have c9b0 : decide (0 < x7_1) = true := decide_eq_true c9
         clear c9
         obtain ⟨ji10, hji10⟩ : ∃ j_ : Int, (wrap64 (x7_1 - 1)) = j_ := ⟨_, rfl⟩
         replace H : (if 0 ≤ (ji10) then (if (ji10) < (l0.length : Int) then ((impl_compareCells.f ((rd_T56 l0 (ji10)).f0) ((rd_T56 l0 (ji10)).f1) ((rd_T56 l0 x7_1).f0) ((rd_T56 l0 x7_1).f1)).bind fun t374 => (if t374 ≥ 0 then (some false) else (impl_IsShape.l0 k1 l0 l0 (l0.length : Int) (wrap64 (x7_1 + 1))))) else (none)) else (none)) = some r := by first | (rw [hji10] at H; exact H) | (simp only [hji10] at H ⊢; exact H)
         (try rw [hji10] at A5)
         (try rw [hji10] at A7)
         have hji10w : (IntKind.i64.wrap (x7_1 - 1)) = ji10 := (i64_w _).trans hji10
         by_cases c11 : 0 ≤ (ji10)
         ·rw [if_pos c11] at H
          have c11b0 : decide (0 ≤ (ji10)) = true := decide_eq_true c11
          clear c11
          by_cases c12 : (ji10) < (l0.length : Int)
          ·rw [if_pos c12] at H
           have c12b0 : decide ((ji10) < (l0.length : Int)) = true := decide_eq_true c12
           clear c12
           obtain ⟨t374, A13, H⟩ := bs_ H
           by_cases c14 : t374 ≥ 0
           ·rw [if_pos c14] at H
            have c14b0 : decide (0 ≤ t374) = true := decide_eq_true c14
            clear c14
            obtain rfl := Option.some.inj H
            have p369 : 0 ≤ (x7_1 : Int) := od_
            have q369 : x7_1 < (l0.length : Int) := od_
            obtain ⟨ad369, e369, hx369_0, hx369_1⟩ := at_T56 HR0.out x7_1 p369 q369
            cases e369
            replace hx369_0 := hc_ hx369_0
            replace hx369_1 := hc_ hx369_1
            replace p369 := eq_true p369
            replace q369 := eq_true q369
            try go_wp2_with (first | ((with_reducible refine gate_dst (N := 4) rfl ?_); (try (refine gate_guard (by rfl) ?_; dsimp only)); refine bx_ (N := 4) (cs := #[.int .i64 0, .int .i64 0]) (t := 56) ?_; intro gb370 hg w15 hbox hb; have BK370 := a0_ (hbox); have GW370 := a0_ ((sz_ hg (bl0_) : w.heap.size ≤ gb370)); have GE370 := a0_ ((sz_ hg (bl0_) : w.heap.size ≤ gb370)); replace HB := a0_ (below_step (bl0_) hb); clear hb hbox hg; obtain ⟨hcz16_0, hcz16_1, hfz16_0, hfz16_1⟩ := bc2_ BK370.out))
            have n0_ : Aside0 (((w15.setCell ⟨gb370, 0, none⟩ (.int .i64 ((rd_T56 l0 x7_1).f0))).setCell ⟨gb370, 1, none⟩ (.int .i64 ((rd_T56 l0 x7_1).f1))).heap[gb370]? = some (.cells #[.int .i64 ((rd_T56 l0 x7_1).f0), .int .i64 ((rd_T56 l0 x7_1).f1)] 56 (0, 0))) := ⟨by (with_reducible repeat (first | refine blk_drewN ?_ _ | refine blk_drew ?_ | refine blk_alloc ?_ _)); refine blk_put (cs := #[.int .i64 ((rd_T56 l0 x7_1).f0), .int .i64 0]) ?_ 1 _ rfl; (with_reducible repeat (first | refine blk_drewN ?_ _ | refine blk_drew ?_ | refine blk_alloc ?_ _)); refine blk_put (cs := #[.int .i64 0, .int .i64 0]) ?_ 0 _ rfl; (with_reducible repeat (first | refine blk_drewN ?_ _ | refine blk_drew ?_ | refine blk_alloc ?_ _)); exact BK370.out⟩
            have n1_ : Aside0 (Below w.heap.size w ((w15.setCell ⟨gb370, 0, none⟩ (.int .i64 ((rd_T56 l0 x7_1).f0))).setCell ⟨gb370, 1, none⟩ (.int .i64 ((rd_T56 l0 x7_1).f1)))) := ⟨bl1_ GE370.out⟩
            (try clear BK370)
            (try clear HB)
            generalize ((w15.setCell ⟨gb370, 0, none⟩ (.int .i64 ((rd_T56 l0 x7_1).f0))).setCell ⟨gb370, 1, none⟩ (.int .i64 ((rd_T56 l0 x7_1).f1))) = w17 at n0_ n1_ ⊢
            have BK370 := n0_
            have HB := n1_
            clear n0_ n1_
            replace BK370 := a0_ (blk_drew BK370.out)
            replace HB := a0_ (below_drew1 HB.out)
            have p373 : 0 ≤ ((ji10) : Int) := od_
            have q373 : (ji10) < (l0.length : Int) := od_
            obtain ⟨ad373, e373, hx373_0, hx373_1⟩ := at_T56 HR0.out (ji10) p373 q373
            have hw373_1 := hx373_1
            have hw373_0 := hx373_0
            obtain rfl : ad369 = ad373 := (by injection e373)
            replace hx373_0 := hc_ hx373_0
            replace hx373_1 := hc_ hx373_1
            replace p373 := eq_true p373
            replace q373 := eq_true q373
            refine start_ (n := 24) (S := fun w' => w'.cell? ⟨gb370, 0, none⟩ = some (.int .i64 ((rd_T56 l0 x7_1).f0)) ∧ w'.cell? ⟨gb370, 1, none⟩ = some (.int .i64 ((rd_T56 l0 x7_1).f1)) ∧ w'.cell? (ad369.add (((ji10)).toNat * 2)) = some (.int .i64 ((rd_T56 l0 (ji10)).f0)) ∧ w'.cell? ⟨(ad369.add (((ji10)).toNat * 2)).block, (ad369.add (((ji10)).toNat * 2)).off + 1, none⟩ = some (.int .i64 ((rd_T56 l0 (ji10)).f1))) (ds := []) (mk_ 0 24) kr_ rfl rfl ⟨(blk_cell BK370.out 0).trans rfl, (blk_cell BK370.out 1).trans rfl, (hc_ hw373_0), (hc_ hw373_1)⟩ (fun hHeld => ?_); refine with_tabW impl_IsShape.tab4 impl_IsShape.bits4 (fun HT_ HW_ => ?_)
            generalize w17.drew = w18 at BK370 HB hx373_0 hx373_1 hHeld ⊢
            refine pu_ 0 (some 12) (mk_ 1 23) HT_ ?_
            refine tk_ 1 (some 13) (mk_ 2 22) HT_ HW_ hHeld (hy := .inl ⟨by rfl, by rintro w' ⟨s0, s1, s2, s3⟩; go_simp; with_reducible rfl⟩) ?_
            refine one_ (i := 2) (N := some 14) (mk_ 3 21) rfl rfl (one_of HT_.out kr_) (by decide) (fun K hK => ?_)
            refine goes_ Tryz.func79 kr_ rfl #[.int .i64 ((rd_T56 l0 x7_1).f0)] (by rfl) rfl rfl ta_ ?_
            with_reducible refine (impl_isCoordinate.calls ((rd_T56 l0 x7_1).f0) true _ A5.out).mono ?_
            rintro e w' ⟨rfl, ⟨nd, rfl⟩⟩
            refine ⟨_, rfl, ?_⟩
            refine hK.out _ _ ⟨(blk_cell BK370.out 0).trans rfl, (blk_cell BK370.out 1).trans rfl, (hc_ hw373_0), (hc_ hw373_1)⟩ (fun hHeld => ?_)
            clear hK K
            refine nm_ ?_
            refine pu_ 3 (some 15) (mk_ 4 20) HT_ ?_
            refine pu_ 4 (some 16) (mk_ 5 19) HT_ ?_
            refine pu_ 5 (some 17) (mk_ 6 18) HT_ ?_
            refine tk_ 6 (some 18) (mk_ 7 17) HT_ HW_ hHeld (hy := .inl ⟨by rfl, by rintro w' ⟨s0, s1, s2, s3⟩; go_simp; with_reducible rfl⟩) ?_
            refine one_ (i := 7) (N := some 19) (mk_ 8 16) rfl rfl (one_of HT_.out kr_) (by decide) (fun K hK => ?_)
            refine goes_ Tryz.func79 kr_ rfl #[.int .i64 ((rd_T56 l0 x7_1).f1)] (by rfl) rfl rfl ta_ ?_
            with_reducible refine (impl_isCoordinate.calls ((rd_T56 l0 x7_1).f1) true _ A7.out).mono ?_
            rintro e w' ⟨rfl, ⟨nd, rfl⟩⟩
            refine ⟨_, rfl, ?_⟩
            refine hK.out _ _ ⟨(blk_cell BK370.out 0).trans rfl, (blk_cell BK370.out 1).trans rfl, (hc_ hw373_0), (hc_ hw373_1)⟩ (fun hHeld => ?_)
            clear hK K
            refine nm_ ?_
            refine pu_ 8 (some 20) (mk_ 9 15) HT_ ?_
            refine pu_ 9 (some 21) (mk_ 10 14) HT_ ?_
            refine pu_ 10 (some 22) (mk_ 11 13) HT_ ?_
            refine pu_ 11 (some 23) (mk_ 12 12) HT_ ?_
            refine pu_ 12 (some 24) (mk_ 13 11) HT_ ?_
            refine pu_ 13 (some 25) (mk_ 14 10) HT_ ?_
            refine pu_ 14 (some 26) (mk_ 15 9) HT_ ?_
            refine pu_ 15 (some 27) (mk_ 16 8) HT_ ?_
            refine pu_ 16 (some 28) (mk_ 17 7) HT_ ?_
            refine pu_ 17 (some 29) (mk_ 18 6) HT_ ?_
            refine tk_ 18 (some 30) (mk_ 19 5) HT_ HW_ hHeld (hy := .inl ⟨by rfl, by rintro w' ⟨s0, s1, s2, s3⟩; go_simp; with_reducible rfl⟩) ?_
            refine tk_ 19 (some 31) (mk_ 20 4) HT_ HW_ hHeld (hy := .inl ⟨by rfl, by rintro w' ⟨s0, s1, s2, s3⟩; go_simp; with_reducible rfl⟩) ?_
            refine one_ (i := 20) (N := some 32) (mk_ 21 3) rfl rfl (one_of HT_.out kr_) (by decide) (fun K hK => ?_)
            refine goes_ Tryz.func80 kr_ rfl #[.agg #[.int .i64 ((rd_T56 l0 (ji10)).f0), .int .i64 ((rd_T56 l0 (ji10)).f1)], .agg #[.int .i64 ((rd_T56 l0 x7_1).f0), .int .i64 ((rd_T56 l0 x7_1).f1)]] (by rfl) rfl rfl (by (try simp only [List.map_toArray, List.map_cons, List.map_nil]); first | done | (simp only [hji10]; rfl) | rfl | (simp only [List.length_drop, List.length_take]; rfl)) ?_
            with_reducible refine (impl_compareCells.calls ((rd_T56 l0 (ji10)).f0) ((rd_T56 l0 (ji10)).f1) ((rd_T56 l0 x7_1).f0) ((rd_T56 l0 x7_1).f1) t374 _ A13.out).mono ?_
            rintro e w19 ⟨rfl, hb⟩
            refine ⟨_, rfl, ?_⟩
            replace BK370 := a0_ (bb_ BK370.out hb)
            replace HB := a0_ (below_step (bl1_ GE370.out) hb)
            (try clear hb)
            refine hK.out _ _ ⟨(blk_cell BK370.out 0).trans rfl, (blk_cell BK370.out 1).trans rfl, (hc_ hw373_0), (hc_ hw373_1)⟩ (fun hHeld => ?_)
            clear hK K
            refine nm_ ?_
            refine pu_ 21 (some 33) (mk_ 22 2) HT_ ?_
            refine pu_ 22 (some 34) (mk_ 23 1) HT_ ?_
            refine pu_ 23 (some 35) (mk_ 24 0) HT_ ?_
            refine done_ (done_of HT_.out kr_) ?_
            try go_wp2
            go_ret
            exact ⟨by first | rfl | (simp [errW_none, errW_some] <;> rfl) | (simp only [← hji10]; first | rfl | (simp [errW_none, errW_some] <;> rfl)) | (simp [*, errW_none, errW_some] <;> rfl), bl1_ GE370.out⟩
           ·rw [if_neg c14] at H
            have c14b0 : decide (0 ≤ t374) = false := decide_eq_false c14
            clear c14
            have H' := Aside0.mk H
            clear H
            have p369 : 0 ≤ (x7_1 : Int) := od_
            have q369 : x7_1 < (l0.length : Int) := od_
            obtain ⟨ad369, e369, hx369_0, hx369_1⟩ := at_T56 HR0.out x7_1 p369 q369
            cases e369
            replace hx369_0 := hc_ hx369_0
            replace hx369_1 := hc_ hx369_1
            replace p369 := eq_true p369
            replace q369 := eq_true q369
            try go_wp2_with (first | ((with_reducible refine gate_dst (N := 4) rfl ?_); (try (refine gate_guard (by rfl) ?_; dsimp only)); refine bx_ (N := 4) (cs := #[.int .i64 0, .int .i64 0]) (t := 56) ?_; intro gb370 hg w20 hbox hb; have BK370 := a0_ (hbox); have GW370 := a0_ ((sz_ hg (bl0_) : w.heap.size ≤ gb370)); have GE370 := a0_ ((sz_ hg (bl0_) : w.heap.size ≤ gb370)); replace HB := a0_ (below_step (bl0_) hb); clear hb hbox hg; obtain ⟨hcz21_0, hcz21_1, hfz21_0, hfz21_1⟩ := bc2_ BK370.out))
            have n0_ : Aside0 (((w20.setCell ⟨gb370, 0, none⟩ (.int .i64 ((rd_T56 l0 x7_1).f0))).setCell ⟨gb370, 1, none⟩ (.int .i64 ((rd_T56 l0 x7_1).f1))).heap[gb370]? = some (.cells #[.int .i64 ((rd_T56 l0 x7_1).f0), .int .i64 ((rd_T56 l0 x7_1).f1)] 56 (0, 0))) := ⟨by (with_reducible repeat (first | refine blk_drewN ?_ _ | refine blk_drew ?_ | refine blk_alloc ?_ _)); refine blk_put (cs := #[.int .i64 ((rd_T56 l0 x7_1).f0), .int .i64 0]) ?_ 1 _ rfl; (with_reducible repeat (first | refine blk_drewN ?_ _ | refine blk_drew ?_ | refine blk_alloc ?_ _)); refine blk_put (cs := #[.int .i64 0, .int .i64 0]) ?_ 0 _ rfl; (with_reducible repeat (first | refine blk_drewN ?_ _ | refine blk_drew ?_ | refine blk_alloc ?_ _)); exact BK370.out⟩
            have n1_ : Aside0 (Below w.heap.size w ((w20.setCell ⟨gb370, 0, none⟩ (.int .i64 ((rd_T56 l0 x7_1).f0))).setCell ⟨gb370, 1, none⟩ (.int .i64 ((rd_T56 l0 x7_1).f1)))) := ⟨bl1_ GE370.out⟩
            (try clear BK370)
            (try clear HB)
            generalize ((w20.setCell ⟨gb370, 0, none⟩ (.int .i64 ((rd_T56 l0 x7_1).f0))).setCell ⟨gb370, 1, none⟩ (.int .i64 ((rd_T56 l0 x7_1).f1))) = w22 at n0_ n1_ ⊢
            have BK370 := n0_
            have HB := n1_
            clear n0_ n1_
            replace BK370 := a0_ (blk_drew BK370.out)
            replace HB := a0_ (below_drew1 HB.out)
            have p373 : 0 ≤ ((ji10) : Int) := od_
            have q373 : (ji10) < (l0.length : Int) := od_
            obtain ⟨ad373, e373, hx373_0, hx373_1⟩ := at_T56 HR0.out (ji10) p373 q373
            have hw373_1 := hx373_1
            have hw373_0 := hx373_0
            obtain rfl : ad369 = ad373 := (by injection e373)
            replace hx373_0 := hc_ hx373_0
            replace hx373_1 := hc_ hx373_1
            replace p373 := eq_true p373
            replace q373 := eq_true q373
            refine start_ (n := 24) (S := fun w' => w'.cell? ⟨gb370, 0, none⟩ = some (.int .i64 ((rd_T56 l0 x7_1).f0)) ∧ w'.cell? ⟨gb370, 1, none⟩ = some (.int .i64 ((rd_T56 l0 x7_1).f1)) ∧ w'.cell? (ad369.add (((ji10)).toNat * 2)) = some (.int .i64 ((rd_T56 l0 (ji10)).f0)) ∧ w'.cell? ⟨(ad369.add (((ji10)).toNat * 2)).block, (ad369.add (((ji10)).toNat * 2)).off + 1, none⟩ = some (.int .i64 ((rd_T56 l0 (ji10)).f1))) (ds := []) (mk_ 0 24) kr_ rfl rfl ⟨(blk_cell BK370.out 0).trans rfl, (blk_cell BK370.out 1).trans rfl, (hc_ hw373_0), (hc_ hw373_1)⟩ (fun hHeld => ?_); refine with_tabW impl_IsShape.tab4 impl_IsShape.bits4 (fun HT_ HW_ => ?_)
            generalize w22.drew = w23 at BK370 HB hx373_0 hx373_1 hHeld ⊢
            refine pu_ 0 (some 12) (mk_ 1 23) HT_ ?_
            refine tk_ 1 (some 13) (mk_ 2 22) HT_ HW_ hHeld (hy := .inl ⟨by rfl, by rintro w' ⟨s0, s1, s2, s3⟩; go_simp; with_reducible rfl⟩) ?_
            refine one_ (i := 2) (N := some 14) (mk_ 3 21) rfl rfl (one_of HT_.out kr_) (by decide) (fun K hK => ?_)
            refine goes_ Tryz.func79 kr_ rfl #[.int .i64 ((rd_T56 l0 x7_1).f0)] (by rfl) rfl rfl ta_ ?_
            with_reducible refine (impl_isCoordinate.calls ((rd_T56 l0 x7_1).f0) true _ A5.out).mono ?_
            rintro e w' ⟨rfl, ⟨nd, rfl⟩⟩
            refine ⟨_, rfl, ?_⟩
            refine hK.out _ _ ⟨(blk_cell BK370.out 0).trans rfl, (blk_cell BK370.out 1).trans rfl, (hc_ hw373_0), (hc_ hw373_1)⟩ (fun hHeld => ?_)
            clear hK K
            refine nm_ ?_
            refine pu_ 3 (some 15) (mk_ 4 20) HT_ ?_
            refine pu_ 4 (some 16) (mk_ 5 19) HT_ ?_
            refine pu_ 5 (some 17) (mk_ 6 18) HT_ ?_
            refine tk_ 6 (some 18) (mk_ 7 17) HT_ HW_ hHeld (hy := .inl ⟨by rfl, by rintro w' ⟨s0, s1, s2, s3⟩; go_simp; with_reducible rfl⟩) ?_
            refine one_ (i := 7) (N := some 19) (mk_ 8 16) rfl rfl (one_of HT_.out kr_) (by decide) (fun K hK => ?_)
            refine goes_ Tryz.func79 kr_ rfl #[.int .i64 ((rd_T56 l0 x7_1).f1)] (by rfl) rfl rfl ta_ ?_
            with_reducible refine (impl_isCoordinate.calls ((rd_T56 l0 x7_1).f1) true _ A7.out).mono ?_
            rintro e w' ⟨rfl, ⟨nd, rfl⟩⟩
            refine ⟨_, rfl, ?_⟩
            refine hK.out _ _ ⟨(blk_cell BK370.out 0).trans rfl, (blk_cell BK370.out 1).trans rfl, (hc_ hw373_0), (hc_ hw373_1)⟩ (fun hHeld => ?_)
            clear hK K
            refine nm_ ?_
            refine pu_ 8 (some 20) (mk_ 9 15) HT_ ?_
            refine pu_ 9 (some 21) (mk_ 10 14) HT_ ?_
            refine pu_ 10 (some 22) (mk_ 11 13) HT_ ?_
            refine pu_ 11 (some 23) (mk_ 12 12) HT_ ?_
            refine pu_ 12 (some 24) (mk_ 13 11) HT_ ?_
            refine pu_ 13 (some 25) (mk_ 14 10) HT_ ?_
            refine pu_ 14 (some 26) (mk_ 15 9) HT_ ?_
            refine pu_ 15 (some 27) (mk_ 16 8) HT_ ?_
            refine pu_ 16 (some 28) (mk_ 17 7) HT_ ?_
            refine pu_ 17 (some 29) (mk_ 18 6) HT_ ?_
            refine tk_ 18 (some 30) (mk_ 19 5) HT_ HW_ hHeld (hy := .inl ⟨by rfl, by rintro w' ⟨s0, s1, s2, s3⟩; go_simp; with_reducible rfl⟩) ?_
            refine tk_ 19 (some 31) (mk_ 20 4) HT_ HW_ hHeld (hy := .inl ⟨by rfl, by rintro w' ⟨s0, s1, s2, s3⟩; go_simp; with_reducible rfl⟩) ?_
            refine one_ (i := 20) (N := some 32) (mk_ 21 3) rfl rfl (one_of HT_.out kr_) (by decide) (fun K hK => ?_)
            refine goes_ Tryz.func80 kr_ rfl #[.agg #[.int .i64 ((rd_T56 l0 (ji10)).f0), .int .i64 ((rd_T56 l0 (ji10)).f1)], .agg #[.int .i64 ((rd_T56 l0 x7_1).f0), .int .i64 ((rd_T56 l0 x7_1).f1)]] (by rfl) rfl rfl (by (try simp only [List.map_toArray, List.map_cons, List.map_nil]); first | done | (simp only [hji10]; rfl) | rfl | (simp only [List.length_drop, List.length_take]; rfl)) ?_
            with_reducible refine (impl_compareCells.calls ((rd_T56 l0 (ji10)).f0) ((rd_T56 l0 (ji10)).f1) ((rd_T56 l0 x7_1).f0) ((rd_T56 l0 x7_1).f1) t374 _ A13.out).mono ?_
            rintro e w24 ⟨rfl, hb⟩
            refine ⟨_, rfl, ?_⟩
            replace BK370 := a0_ (bb_ BK370.out hb)
            replace HB := a0_ (below_step (bl1_ GE370.out) hb)
            (try clear hb)
            refine hK.out _ _ ⟨(blk_cell BK370.out 0).trans rfl, (blk_cell BK370.out 1).trans rfl, (hc_ hw373_0), (hc_ hw373_1)⟩ (fun hHeld => ?_)
            clear hK K
            refine nm_ ?_
            refine pu_ 21 (some 33) (mk_ 22 2) HT_ ?_
            refine pu_ 22 (some 34) (mk_ 23 1) HT_ ?_
            refine pu_ 23 (some 35) (mk_ 24 0) HT_ ?_
            refine done_ (done_of HT_.out kr_) ?_
            try go_wp2
            go_roundg k1
            case measure => have := HK1.out; omega
            case rel => exact ⟨(wrap64 (x7_1 + 1)), rs_, H', ⟨by have := HK1.out; omega⟩, ⟨bl1_ GE370.out⟩⟩
          ·rw [if_neg c12] at H
           exact absurd H (by simp)
         ·rw [if_neg c11] at H
          exact absurd H (by simp)
        ·rw [if_neg c9] at H
         have c9b0 : decide (0 < x7_1) = false := decide_eq_false c9
         clear c9
         have H' := Aside0.mk H
         clear H
         have p369 : 0 ≤ (x7_1 : Int) := od_
         have q369 : x7_1 < (l0.length : Int) := od_
         obtain ⟨ad369, e369, hx369_0, hx369_1⟩ := at_T56 HR0.out x7_1 p369 q369
         cases e369
         replace hx369_0 := hc_ hx369_0
         replace hx369_1 := hc_ hx369_1
         replace p369 := eq_true p369
         replace q369 := eq_true q369
         try go_wp2_with (first | ((with_reducible refine gate_dst (N := 4) rfl ?_); (try (refine gate_guard (by rfl) ?_; dsimp only)); refine bx_ (N := 4) (cs := #[.int .i64 0, .int .i64 0]) (t := 56) ?_; intro gb370 hg w25 hbox hb; have BK370 := a0_ (hbox); have GW370 := a0_ ((sz_ hg (bl0_) : w.heap.size ≤ gb370)); have GE370 := a0_ ((sz_ hg (bl0_) : w.heap.size ≤ gb370)); replace HB := a0_ (below_step (bl0_) hb); clear hb hbox hg; obtain ⟨hcz26_0, hcz26_1, hfz26_0, hfz26_1⟩ := bc2_ BK370.out))
         have n0_ : Aside0 (((w25.setCell ⟨gb370, 0, none⟩ (.int .i64 ((rd_T56 l0 x7_1).f0))).setCell ⟨gb370, 1, none⟩ (.int .i64 ((rd_T56 l0 x7_1).f1))).heap[gb370]? = some (.cells #[.int .i64 ((rd_T56 l0 x7_1).f0), .int .i64 ((rd_T56 l0 x7_1).f1)] 56 (0, 0))) := ⟨by (with_reducible repeat (first | refine blk_drewN ?_ _ | refine blk_drew ?_ | refine blk_alloc ?_ _)); refine blk_put (cs := #[.int .i64 ((rd_T56 l0 x7_1).f0), .int .i64 0]) ?_ 1 _ rfl; (with_reducible repeat (first | refine blk_drewN ?_ _ | refine blk_drew ?_ | refine blk_alloc ?_ _)); refine blk_put (cs := #[.int .i64 0, .int .i64 0]) ?_ 0 _ rfl; (with_reducible repeat (first | refine blk_drewN ?_ _ | refine blk_drew ?_ | refine blk_alloc ?_ _)); exact BK370.out⟩
         have n1_ : Aside0 (Below w.heap.size w ((w25.setCell ⟨gb370, 0, none⟩ (.int .i64 ((rd_T56 l0 x7_1).f0))).setCell ⟨gb370, 1, none⟩ (.int .i64 ((rd_T56 l0 x7_1).f1)))) := ⟨bl1_ GE370.out⟩
         (try clear BK370)
         (try clear HB)
         generalize ((w25.setCell ⟨gb370, 0, none⟩ (.int .i64 ((rd_T56 l0 x7_1).f0))).setCell ⟨gb370, 1, none⟩ (.int .i64 ((rd_T56 l0 x7_1).f1))) = w27 at n0_ n1_ ⊢
         have BK370 := n0_
         have HB := n1_
         clear n0_ n1_
         replace BK370 := a0_ (blk_drew BK370.out)
         replace HB := a0_ (below_drew1 HB.out)
         refine start_ (n := 24) (S := fun w' => w'.cell? ⟨gb370, 0, none⟩ = some (.int .i64 ((rd_T56 l0 x7_1).f0)) ∧ w'.cell? ⟨gb370, 1, none⟩ = some (.int .i64 ((rd_T56 l0 x7_1).f1))) (ds := []) (mk_ 0 24) kr_ rfl rfl ⟨(blk_cell BK370.out 0).trans rfl, (blk_cell BK370.out 1).trans rfl⟩ (fun hHeld => ?_); refine with_tabW impl_IsShape.tab4 impl_IsShape.bits4 (fun HT_ HW_ => ?_)
         generalize w27.drew = w28 at BK370 HB hHeld ⊢
         refine pu_ 0 (some 12) (mk_ 1 23) HT_ ?_
         refine tk_ 1 (some 13) (mk_ 2 22) HT_ HW_ hHeld (hy := .inl ⟨by rfl, by rintro w' ⟨s0, s1⟩; go_simp; with_reducible rfl⟩) ?_
         refine one_ (i := 2) (N := some 14) (mk_ 3 21) rfl rfl (one_of HT_.out kr_) (by decide) (fun K hK => ?_)
         refine goes_ Tryz.func79 kr_ rfl #[.int .i64 ((rd_T56 l0 x7_1).f0)] (by rfl) rfl rfl ta_ ?_
         with_reducible refine (impl_isCoordinate.calls ((rd_T56 l0 x7_1).f0) true _ A5.out).mono ?_
         rintro e w' ⟨rfl, ⟨nd, rfl⟩⟩
         refine ⟨_, rfl, ?_⟩
         refine hK.out _ _ ⟨(blk_cell BK370.out 0).trans rfl, (blk_cell BK370.out 1).trans rfl⟩ (fun hHeld => ?_)
         clear hK K
         refine nm_ ?_
         refine pu_ 3 (some 15) (mk_ 4 20) HT_ ?_
         refine pu_ 4 (some 16) (mk_ 5 19) HT_ ?_
         refine pu_ 5 (some 17) (mk_ 6 18) HT_ ?_
         refine tk_ 6 (some 18) (mk_ 7 17) HT_ HW_ hHeld (hy := .inl ⟨by rfl, by rintro w' ⟨s0, s1⟩; go_simp; with_reducible rfl⟩) ?_
         refine one_ (i := 7) (N := some 19) (mk_ 8 16) rfl rfl (one_of HT_.out kr_) (by decide) (fun K hK => ?_)
         refine goes_ Tryz.func79 kr_ rfl #[.int .i64 ((rd_T56 l0 x7_1).f1)] (by rfl) rfl rfl ta_ ?_
         with_reducible refine (impl_isCoordinate.calls ((rd_T56 l0 x7_1).f1) true _ A7.out).mono ?_
         rintro e w' ⟨rfl, ⟨nd, rfl⟩⟩
         refine ⟨_, rfl, ?_⟩
         refine hK.out _ _ ⟨(blk_cell BK370.out 0).trans rfl, (blk_cell BK370.out 1).trans rfl⟩ (fun hHeld => ?_)
         clear hK K
         refine nm_ ?_
         refine pu_ 8 (some 20) (mk_ 9 15) HT_ ?_
         refine pu_ 9 (some 21) (mk_ 10 14) HT_ ?_
         refine pu_ 10 (some 22) (mk_ 11 13) HT_ ?_
         refine pu_ 11 (some 23) (mk_ 12 12) HT_ ?_
         refine pu_ 12 (some 24) (mk_ 13 11) HT_ ?_
         refine pu_ 13 (some 25) (mk_ 14 10) HT_ ?_
         refine pn_ 14 (some 26) (mk_ 15 9) HT_ ?_
         refine pn_ 15 (some 27) (mk_ 16 8) HT_ ?_
         refine pn_ 16 (some 28) (mk_ 17 7) HT_ ?_
         refine pn_ 17 (some 29) (mk_ 18 6) HT_ ?_
         refine pn_ 18 (some 30) (mk_ 19 5) HT_ ?_
         refine pn_ 19 (some 31) (mk_ 20 4) HT_ ?_
         refine pn_ 20 (some 32) (mk_ 21 3) HT_ ?_
         refine pn_ 21 (some 33) (mk_ 22 2) HT_ ?_
         refine pu_ 22 (some 34) (mk_ 23 1) HT_ ?_
         refine pu_ 23 (some 35) (mk_ 24 0) HT_ ?_
         refine done_ (done_of HT_.out kr_) ?_
         try go_wp2
         go_roundg k1
         case measure => have := HK1.out; omega
         case rel => exact ⟨(wrap64 (x7_1 + 1)), rs_, H', ⟨by have := HK1.out; omega⟩, ⟨bl1_ GE370.out⟩⟩
       ·replace c8 := Bool.eq_false_iff.mpr c8
        subst c8
        rw [if_neg (show ¬ (false = true) by decide)] at H
        obtain rfl := Option.some.inj H
        have p369 : 0 ≤ (x7_1 : Int) := od_
        have q369 : x7_1 < (l0.length : Int) := od_
        obtain ⟨ad369, e369, hx369_0, hx369_1⟩ := at_T56 HR0.out x7_1 p369 q369
        cases e369
        replace hx369_0 := hc_ hx369_0
        replace hx369_1 := hc_ hx369_1
        replace p369 := eq_true p369
        replace q369 := eq_true q369
        try go_wp2_with (first | ((with_reducible refine gate_dst (N := 4) rfl ?_); (try (refine gate_guard (by rfl) ?_; dsimp only)); refine bx_ (N := 4) (cs := #[.int .i64 0, .int .i64 0]) (t := 56) ?_; intro gb370 hg w29 hbox hb; have BK370 := a0_ (hbox); have GW370 := a0_ ((sz_ hg (bl0_) : w.heap.size ≤ gb370)); have GE370 := a0_ ((sz_ hg (bl0_) : w.heap.size ≤ gb370)); replace HB := a0_ (below_step (bl0_) hb); clear hb hbox hg; obtain ⟨hcz30_0, hcz30_1, hfz30_0, hfz30_1⟩ := bc2_ BK370.out))
        have n0_ : Aside0 (((w29.setCell ⟨gb370, 0, none⟩ (.int .i64 ((rd_T56 l0 x7_1).f0))).setCell ⟨gb370, 1, none⟩ (.int .i64 ((rd_T56 l0 x7_1).f1))).heap[gb370]? = some (.cells #[.int .i64 ((rd_T56 l0 x7_1).f0), .int .i64 ((rd_T56 l0 x7_1).f1)] 56 (0, 0))) := ⟨by (with_reducible repeat (first | refine blk_drewN ?_ _ | refine blk_drew ?_ | refine blk_alloc ?_ _)); refine blk_put (cs := #[.int .i64 ((rd_T56 l0 x7_1).f0), .int .i64 0]) ?_ 1 _ rfl; (with_reducible repeat (first | refine blk_drewN ?_ _ | refine blk_drew ?_ | refine blk_alloc ?_ _)); refine blk_put (cs := #[.int .i64 0, .int .i64 0]) ?_ 0 _ rfl; (with_reducible repeat (first | refine blk_drewN ?_ _ | refine blk_drew ?_ | refine blk_alloc ?_ _)); exact BK370.out⟩
        have n1_ : Aside0 (Below w.heap.size w ((w29.setCell ⟨gb370, 0, none⟩ (.int .i64 ((rd_T56 l0 x7_1).f0))).setCell ⟨gb370, 1, none⟩ (.int .i64 ((rd_T56 l0 x7_1).f1)))) := ⟨bl1_ GE370.out⟩
        (try clear BK370)
        (try clear HB)
        generalize ((w29.setCell ⟨gb370, 0, none⟩ (.int .i64 ((rd_T56 l0 x7_1).f0))).setCell ⟨gb370, 1, none⟩ (.int .i64 ((rd_T56 l0 x7_1).f1))) = w31 at n0_ n1_ ⊢
        have BK370 := n0_
        have HB := n1_
        clear n0_ n1_
        replace BK370 := a0_ (blk_drew BK370.out)
        replace HB := a0_ (below_drew1 HB.out)
        refine start_ (n := 24) (S := fun w' => w'.cell? ⟨gb370, 0, none⟩ = some (.int .i64 ((rd_T56 l0 x7_1).f0)) ∧ w'.cell? ⟨gb370, 1, none⟩ = some (.int .i64 ((rd_T56 l0 x7_1).f1))) (ds := []) (mk_ 0 24) kr_ rfl rfl ⟨(blk_cell BK370.out 0).trans rfl, (blk_cell BK370.out 1).trans rfl⟩ (fun hHeld => ?_); refine with_tabW impl_IsShape.tab4 impl_IsShape.bits4 (fun HT_ HW_ => ?_)
        generalize w31.drew = w32 at BK370 HB hHeld ⊢
        refine pu_ 0 (some 12) (mk_ 1 23) HT_ ?_
        refine tk_ 1 (some 13) (mk_ 2 22) HT_ HW_ hHeld (hy := .inl ⟨by rfl, by rintro w' ⟨s0, s1⟩; go_simp; with_reducible rfl⟩) ?_
        refine one_ (i := 2) (N := some 14) (mk_ 3 21) rfl rfl (one_of HT_.out kr_) (by decide) (fun K hK => ?_)
        refine goes_ Tryz.func79 kr_ rfl #[.int .i64 ((rd_T56 l0 x7_1).f0)] (by rfl) rfl rfl ta_ ?_
        with_reducible refine (impl_isCoordinate.calls ((rd_T56 l0 x7_1).f0) true _ A5.out).mono ?_
        rintro e w' ⟨rfl, ⟨nd, rfl⟩⟩
        refine ⟨_, rfl, ?_⟩
        refine hK.out _ _ ⟨(blk_cell BK370.out 0).trans rfl, (blk_cell BK370.out 1).trans rfl⟩ (fun hHeld => ?_)
        clear hK K
        refine nm_ ?_
        refine pu_ 3 (some 15) (mk_ 4 20) HT_ ?_
        refine pu_ 4 (some 16) (mk_ 5 19) HT_ ?_
        refine pu_ 5 (some 17) (mk_ 6 18) HT_ ?_
        refine tk_ 6 (some 18) (mk_ 7 17) HT_ HW_ hHeld (hy := .inl ⟨by rfl, by rintro w' ⟨s0, s1⟩; go_simp; with_reducible rfl⟩) ?_
        refine one_ (i := 7) (N := some 19) (mk_ 8 16) rfl rfl (one_of HT_.out kr_) (by decide) (fun K hK => ?_)
        refine goes_ Tryz.func79 kr_ rfl #[.int .i64 ((rd_T56 l0 x7_1).f1)] (by rfl) rfl rfl ta_ ?_
        with_reducible refine (impl_isCoordinate.calls ((rd_T56 l0 x7_1).f1) false _ A7.out).mono ?_
        rintro e w' ⟨rfl, ⟨nd, rfl⟩⟩
        refine ⟨_, rfl, ?_⟩
        refine hK.out _ _ ⟨(blk_cell BK370.out 0).trans rfl, (blk_cell BK370.out 1).trans rfl⟩ (fun hHeld => ?_)
        clear hK K
        refine nm_ ?_
        refine pu_ 8 (some 20) (mk_ 9 15) HT_ ?_
        refine pu_ 9 (some 21) (mk_ 10 14) HT_ ?_
        refine pu_ 10 (some 22) (mk_ 11 13) HT_ ?_
        refine pn_ 11 (some 23) (mk_ 12 12) HT_ ?_
        refine pn_ 12 (some 24) (mk_ 13 11) HT_ ?_
        refine pn_ 13 (some 25) (mk_ 14 10) HT_ ?_
        refine pn_ 14 (some 26) (mk_ 15 9) HT_ ?_
        refine pn_ 15 (some 27) (mk_ 16 8) HT_ ?_
        refine pn_ 16 (some 28) (mk_ 17 7) HT_ ?_
        refine pn_ 17 (some 29) (mk_ 18 6) HT_ ?_
        refine pn_ 18 (some 30) (mk_ 19 5) HT_ ?_
        refine pn_ 19 (some 31) (mk_ 20 4) HT_ ?_
        refine pn_ 20 (some 32) (mk_ 21 3) HT_ ?_
        refine pn_ 21 (some 33) (mk_ 22 2) HT_ ?_
        refine pn_ 22 (some 34) (mk_ 23 1) HT_ ?_
        refine pu_ 23 (some 35) (mk_ 24 0) HT_ ?_
        refine done_ (done_of HT_.out kr_) ?_
        try go_wp2
        go_ret
        exact ⟨er_, bl1_ GE370.out⟩
      ·replace c6 := Bool.eq_false_iff.mpr c6
       subst c6
       rw [if_neg (show ¬ (false = true) by decide)] at H
       obtain rfl := Option.some.inj H
       have p369 : 0 ≤ (x7_1 : Int) := od_
       have q369 : x7_1 < (l0.length : Int) := od_
       obtain ⟨ad369, e369, hx369_0, hx369_1⟩ := at_T56 HR0.out x7_1 p369 q369
       cases e369
       replace hx369_0 := hc_ hx369_0
       replace hx369_1 := hc_ hx369_1
       replace p369 := eq_true p369
       replace q369 := eq_true q369
       try go_wp2_with (first | ((with_reducible refine gate_dst (N := 4) rfl ?_); (try (refine gate_guard (by rfl) ?_; dsimp only)); refine bx_ (N := 4) (cs := #[.int .i64 0, .int .i64 0]) (t := 56) ?_; intro gb370 hg w33 hbox hb; have BK370 := a0_ (hbox); have GW370 := a0_ ((sz_ hg (bl0_) : w.heap.size ≤ gb370)); have GE370 := a0_ ((sz_ hg (bl0_) : w.heap.size ≤ gb370)); replace HB := a0_ (below_step (bl0_) hb); clear hb hbox hg; obtain ⟨hcz34_0, hcz34_1, hfz34_0, hfz34_1⟩ := bc2_ BK370.out))
       have n0_ : Aside0 (((w33.setCell ⟨gb370, 0, none⟩ (.int .i64 ((rd_T56 l0 x7_1).f0))).setCell ⟨gb370, 1, none⟩ (.int .i64 ((rd_T56 l0 x7_1).f1))).heap[gb370]? = some (.cells #[.int .i64 ((rd_T56 l0 x7_1).f0), .int .i64 ((rd_T56 l0 x7_1).f1)] 56 (0, 0))) := ⟨by (with_reducible repeat (first | refine blk_drewN ?_ _ | refine blk_drew ?_ | refine blk_alloc ?_ _)); refine blk_put (cs := #[.int .i64 ((rd_T56 l0 x7_1).f0), .int .i64 0]) ?_ 1 _ rfl; (with_reducible repeat (first | refine blk_drewN ?_ _ | refine blk_drew ?_ | refine blk_alloc ?_ _)); refine blk_put (cs := #[.int .i64 0, .int .i64 0]) ?_ 0 _ rfl; (with_reducible repeat (first | refine blk_drewN ?_ _ | refine blk_drew ?_ | refine blk_alloc ?_ _)); exact BK370.out⟩
       have n1_ : Aside0 (Below w.heap.size w ((w33.setCell ⟨gb370, 0, none⟩ (.int .i64 ((rd_T56 l0 x7_1).f0))).setCell ⟨gb370, 1, none⟩ (.int .i64 ((rd_T56 l0 x7_1).f1)))) := ⟨bl1_ GE370.out⟩
       (try clear BK370)
       (try clear HB)
       generalize ((w33.setCell ⟨gb370, 0, none⟩ (.int .i64 ((rd_T56 l0 x7_1).f0))).setCell ⟨gb370, 1, none⟩ (.int .i64 ((rd_T56 l0 x7_1).f1))) = w35 at n0_ n1_ ⊢
       have BK370 := n0_
       have HB := n1_
       clear n0_ n1_
       replace BK370 := a0_ (blk_drew BK370.out)
       replace HB := a0_ (below_drew1 HB.out)
       refine start_ (n := 24) (S := fun w' => w'.cell? ⟨gb370, 0, none⟩ = some (.int .i64 ((rd_T56 l0 x7_1).f0)) ∧ w'.cell? ⟨gb370, 1, none⟩ = some (.int .i64 ((rd_T56 l0 x7_1).f1))) (ds := []) (mk_ 0 24) kr_ rfl rfl ⟨(blk_cell BK370.out 0).trans rfl, (blk_cell BK370.out 1).trans rfl⟩ (fun hHeld => ?_); refine with_tabW impl_IsShape.tab4 impl_IsShape.bits4 (fun HT_ HW_ => ?_)
       generalize w35.drew = w36 at BK370 HB hHeld ⊢
       refine pu_ 0 (some 12) (mk_ 1 23) HT_ ?_
       refine tk_ 1 (some 13) (mk_ 2 22) HT_ HW_ hHeld (hy := .inl ⟨by rfl, by rintro w' ⟨s0, s1⟩; go_simp; with_reducible rfl⟩) ?_
       refine one_ (i := 2) (N := some 14) (mk_ 3 21) rfl rfl (one_of HT_.out kr_) (by decide) (fun K hK => ?_)
       refine goes_ Tryz.func79 kr_ rfl #[.int .i64 ((rd_T56 l0 x7_1).f0)] (by rfl) rfl rfl ta_ ?_
       with_reducible refine (impl_isCoordinate.calls ((rd_T56 l0 x7_1).f0) false _ A5.out).mono ?_
       rintro e w' ⟨rfl, ⟨nd, rfl⟩⟩
       refine ⟨_, rfl, ?_⟩
       refine hK.out _ _ ⟨(blk_cell BK370.out 0).trans rfl, (blk_cell BK370.out 1).trans rfl⟩ (fun hHeld => ?_)
       clear hK K
       refine nm_ ?_
       refine pu_ 3 (some 15) (mk_ 4 20) HT_ ?_
       refine pu_ 4 (some 16) (mk_ 5 19) HT_ ?_
       refine pn_ 5 (some 17) (mk_ 6 18) HT_ ?_
       refine pn_ 6 (some 18) (mk_ 7 17) HT_ ?_
       refine pn_ 7 (some 19) (mk_ 8 16) HT_ ?_
       refine pn_ 8 (some 20) (mk_ 9 15) HT_ ?_
       refine pu_ 9 (some 21) (mk_ 10 14) HT_ ?_
       refine pu_ 10 (some 22) (mk_ 11 13) HT_ ?_
       refine pn_ 11 (some 23) (mk_ 12 12) HT_ ?_
       refine pn_ 12 (some 24) (mk_ 13 11) HT_ ?_
       refine pn_ 13 (some 25) (mk_ 14 10) HT_ ?_
       refine pn_ 14 (some 26) (mk_ 15 9) HT_ ?_
       refine pn_ 15 (some 27) (mk_ 16 8) HT_ ?_
       refine pn_ 16 (some 28) (mk_ 17 7) HT_ ?_
       refine pn_ 17 (some 29) (mk_ 18 6) HT_ ?_
       refine pn_ 18 (some 30) (mk_ 19 5) HT_ ?_
       refine pn_ 19 (some 31) (mk_ 20 4) HT_ ?_
       refine pn_ 20 (some 32) (mk_ 21 3) HT_ ?_
       refine pn_ 21 (some 33) (mk_ 22 2) HT_ ?_
       refine pn_ 22 (some 34) (mk_ 23 1) HT_ ?_
       refine pu_ 23 (some 35) (mk_ 24 0) HT_ ?_
       refine done_ (done_of HT_.out kr_) ?_
       try go_wp2
       go_ret
       exact ⟨er_, bl1_ GE370.out⟩
     ·rw [if_neg c4] at H
      exact absurd H (by simp)
    ·rw [if_neg c3] at H
     exact absurd H (by simp)
   ·rw [if_neg c2] at H
    have c2b0 : decide (x7_1 < (l0.length : Int)) = false := decide_eq_false c2
    clear c2
    by_cases c37 : (l0.length : Int) ≥ 1
    ·rw [if_pos c37] at H
     have c37b0 : decide (1 ≤ (l0.length : Int)) = true := decide_eq_true c37
     have c37b1 : decide (1 ≤ l0.length) = true := decide_eq_true (by omega)
     clear c37
     obtain rfl := Option.some.inj H
     go_wp2
     go_ret
     exact ⟨er_, bl0_⟩
    ·rw [if_neg c37] at H
     have c37b0 : decide (1 ≤ (l0.length : Int)) = false := decide_eq_false c37
     have c37b1 : decide (1 ≤ l0.length) = false := decide_eq_false (by omega)
     clear c37
     obtain rfl := Option.some.inj H
     go_wp2
     go_ret
     exact ⟨er_, bl0_⟩
end Go.Proofs.YtmdjkmfocgelnaaGreatDoor.PFnAllNets
