/- Over the kit's printer by a driver of mine (hprint.py), with parts by hand: functions of the program as Lean functions, and that each call comes to exactly these answers. -/
import Derived.Test.YtmdjkmfocgelnaaGreatDoorPFnAllNetsx0
import Derived.Test.YtmdjkmfocgelnaaGreatDoorPFnAllNetsx8
namespace Go.Proofs.YtmdjkmfocgelnaaGreatDoor.PFnAllNets
open Go.RowKit Go.Proofs.YtmdjkmfocgelnaaGreatDoorW.PrintWords Go.Proofs.YtmdjkmfocgelnaaGreatDoorW.PrintLast Go.Proofs.YtmdjkmfocgelnaaGreatDoorW.PrintMore
attribute [local go_sem] max2_int min2_int max_two min_two max_three min_three max_four min_four   
set_option linter.unusedVariables false
set_option linter.unusedSimpArgs false
def spec_l02Move.l0 : Nat → List (S56) → Int → Int → List (S56) → Int → Option ((List (S56)))
 | 0, _, _, _, _, _ => none
 | k + 1, x0, x1, x2, x7, x8 => if x8 < (x0.length : Int) then (if 0 ≤ x8 then (if x7.length < 8796093022208 then (spec_l02Move.l0 k x0 x1 x2 (x7 ++ [(⟨wrap64 (((rd_T56 x0 x8).f0) + x1), wrap64 (((rd_T56 x0 x8).f1) + x2)⟩ : S56)]) (wrap64 (x8 + 1))) else (none)) else (none)) else (some x7)
def spec_l02Move.f (k : Nat) (l0 : List (S56)) (a1 : Int) (a2 : Int) : Option ((List (S56))) := spec_l02Move.l0 k l0 a1 a2 (([] : List (S56))) 0
def spec_l02Move.T5 : Bool × List (List Nat × List Nat) := (true, [([], []), ([], []), ([], []), ([1, 2], [1, 2]), ([3], [3]), ([4], [4]), ([], []), ([5, 6], [5, 6]), ([], []), ([], []), ([8, 9], [8, 9]), ([10], [10]), ([11], [11]), ([], []), ([12, 13], [12, 13]), ([7, 14], [7, 14]), ([15], [15]), ([0, 16], [0, 16]), ([17, 17, 0, 1, 2, 3, 4, 5, 6, 7, 8, 9, 10, 11, 12, 13, 14, 15, 16, 17], [0, 17])])
def spec_l02Move.B5 : List Nat := [0, 0, 0, 6, 14, 30, 0, 126, 0, 0, 768, 1792, 3840, 0, 16128, 32766, 65534, 131071, 262143]
theorem spec_l02Move.tab5 : rtab .any (opsOf Tryz.f76 5) = spec_l02Move.T5 := by kernel_rfl
theorem spec_l02Move.bits5 : waitsOk spec_l02Move.T5.2 spec_l02Move.B5 = true := by kernel_rfl
set_option maxHeartbeats 8000000 in
set_option maxRecDepth 100000 in
theorem spec_l02Move.calls (k : Nat) (A0 : Option Addr) (c0 : Nat) (l0 : List (S56)) (a1 : Int) (a2 : Int) (r : List (S56)) (w : World) (hr0 : Kd.C k56 w A0 l0.length l0) (hc0 : l0.length ≤ c0) (h : spec_l02Move.f k l0 a1 a2 = some r) :
  Calls Tryz.prog 76 #[.slice A0 l0.length c0, .int .i64 a1, .int .i64 a2] w fun e w' => ∃ v0_ : Value, e = .returned (v0_) ∧ Kd.R k56 56 w' w.heap.size (fun _ => True) v0_ r ∧ Below w.heap.size w w' := by
 have hu56 := Tryz.underlying56
 have HR0 := Aside0.mk hr0
 have HC0 := Aside0.mk hc0
 clear hr0 hc0
 have HB := a0_ (Below.refl w.heap.size w)
 have H : (spec_l02Move.l0 k l0 a1 a2 (([] : List (S56))) 0) = some r := h
 clear h
 obtain ⟨y238, hy238⟩ : ∃ y_ : List (S56), y_ = (([] : List (S56))) := ⟨_, rfl⟩
 replace H : (spec_l02Move.l0 k l0 a1 a2 y238 0) = some r := hh_ hy238 H
 have Ny238 := Aside0.mk hy238
 clear hy238
 have H' := Aside0.mk H
 clear H
 go_enter Tryz.func76, Tryz.ntmps76
 go_wp2_with (first | ((with_reducible refine gate_dst (N := 9) rfl ?_); refine Kd.R_lit k56 _ 56 ?hg (N := 9) ?hd (xs := ([] : List (S56))) (inner := []) (ok := fun _ => True) (okp := fun _ => True) ?hr ?hp (fun _ hk => hk) trivial (Below.refl _ _) (Nat.le_refl _) (by simp) ?_; (case hd => rfl); (case hg => rfl); (case hr => first | (go_simp; done) | (go_simp; rfl)); (case hp => exact (Reps.none _ _)); intro v239 w4 ho5 hb hg_ hnew_; clear hg_ hnew_; (first | rw [← Ny238.out] at ho5 | (simp only [Int.reduceToNat] at ho5; rw [← Ny238.out] at ho5)); have HO240 := a0_ (Kd.R_lower ho5 (below_size (bl0_))); replace HB := a0_ (below_step (bl0_) hb); clear hb ho5))
 go_loopg [7, 8] k (fun kq v7 v8 w' => ∃ (x7_1 : List (S56)) (x8_1 : Int), v8 = .int .i64 x8_1 ∧ Aside0 (spec_l02Move.l0 kq l0 a1 a2 x7_1 x8_1 = some r) ∧ Aside0 (kq ≤ k) ∧ Aside0 (Kd.R k56 56 w' w.heap.size (fun _ => True) v7 x7_1) ∧ Aside0 (Below w.heap.size w w'))
 case atStart => exact ⟨(y238), (0), rs_, H', ⟨Nat.le_refl _⟩, ⟨ra_ HO240.out⟩, ⟨bl0_⟩⟩
 case round =>
  clear H'
  obtain ⟨x7_1, x8_1, rfl, HA, HK1, HO_7, HB⟩ := hrel
  cases gk with
  | zero => exact absurd HA.out (by simp [spec_l02Move.l0])
  | succ k1 =>
   have H := HA.out
   clear HA
   simp only [spec_l02Move.l0] at H
   by_cases c6 : x8_1 < (l0.length : Int)
   ·rw [if_pos c6] at H
    have c6b0 : decide (x8_1 < (l0.length : Int)) = true := decide_eq_true c6
    clear c6
    by_cases c7 : 0 ≤ x8_1
    ·rw [if_pos c7] at H
     have c7b0 : decide (0 ≤ x8_1) = true := decide_eq_true c7
     clear c7
     by_cases c8 : x7_1.length < 8796093022208
     ·rw [if_pos c8] at H
      have LMc8 := Aside0.mk c8
      clear c8
      obtain ⟨y243, hy243⟩ : ∃ y_ : List (S56), y_ = (x7_1 ++ [(⟨wrap64 (((rd_T56 l0 x8_1).f0) + a1), wrap64 (((rd_T56 l0 x8_1).f1) + a2)⟩ : S56)]) := ⟨_, rfl⟩
      replace H : (spec_l02Move.l0 k1 l0 a1 a2 y243 (wrap64 (x8_1 + 1))) = some r := hh_ hy243 H
      have Ny243 := Aside0.mk hy243
      clear hy243
      have H' := Aside0.mk H
      clear H
      try go_wp2
      replace HO_7 := a0_ (Kd.R_drew HO_7.out)
      replace HB := a0_ (below_drew1 HB.out)
      have p241 : 0 ≤ (x8_1 : Int) := od_
      have q241 : x8_1 < (l0.length : Int) := od_
      obtain ⟨ad241, e241, hx241_0, hx241_1⟩ := at_T56 HR0.out x8_1 p241 q241
      have hw241_1 := hx241_1
      have hw241_0 := hx241_0
      cases e241
      replace hx241_0 := hc_ hx241_0
      replace hx241_1 := hc_ hx241_1
      replace p241 := eq_true p241
      replace q241 := eq_true q241
      have p242 : 0 ≤ (x8_1 : Int) := od_
      have q242 : x8_1 < (l0.length : Int) := od_
      obtain ⟨ad242, e242, hx242_0, hx242_1⟩ := at_T56 HR0.out x8_1 p242 q242
      have hw242_1 := hx242_1
      have hw242_0 := hx242_0
      obtain rfl : ad241 = ad242 := (by injection e242)
      replace hx242_0 := hc_ hx242_0
      replace hx242_1 := hc_ hx242_1
      replace p242 := eq_true p242
      replace q242 := eq_true q242
      refine start_ (n := 19) (S := fun w' => w'.cell? (ad241.add ((x8_1).toNat * 2)) = some (.int .i64 ((rd_T56 l0 x8_1).f0)) ∧ w'.cell? ⟨(ad241.add ((x8_1).toNat * 2)).block, (ad241.add ((x8_1).toNat * 2)).off + 1, none⟩ = some (.int .i64 ((rd_T56 l0 x8_1).f1)) ∧ w'.cell? (ad241.add ((x8_1).toNat * 2)) = some (.int .i64 ((rd_T56 l0 x8_1).f0)) ∧ w'.cell? ⟨(ad241.add ((x8_1).toNat * 2)).block, (ad241.add ((x8_1).toNat * 2)).off + 1, none⟩ = some (.int .i64 ((rd_T56 l0 x8_1).f1))) (ds := []) (mk_ 0 19) kr_ rfl rfl ⟨(hc_ hw241_0), (hc_ hw241_1), (hc_ hw242_0), (hc_ hw242_1)⟩ (fun hHeld => ?_); refine with_tabW spec_l02Move.tab5 spec_l02Move.bits5 (fun HT_ HW_ => ?_)
      generalize wr.drew = w9 at HO_7 HB hx241_0 hx241_1 hx242_0 hx242_1 hHeld ⊢
      refine pu_ 0 (some 16) (mk_ 1 18) HT_ ?_
      refine pu_ 1 (some 17) (mk_ 2 17) HT_ ?_
      refine pu_ 2 (some 18) (mk_ 3 16) HT_ ?_
      refine pu_ 3 (some 19) (mk_ 4 15) HT_ ?_
      refine pu_ 4 (some 20) (mk_ 5 14) HT_ ?_
      refine pu_ 6 (some 22) #[true, true, true, true, true, false, true, false, false, false, false, false, false, false, false, false, false, false, false] HT_ ?_
      refine pu_ 8 (some 24) #[true, true, true, true, true, false, true, false, true, false, false, false, false, false, false, false, false, false, false] HT_ ?_
      refine pu_ 9 (some 25) #[true, true, true, true, true, false, true, false, true, true, false, false, false, false, false, false, false, false, false] HT_ ?_
      refine pu_ 10 (some 26) #[true, true, true, true, true, false, true, false, true, true, true, false, false, false, false, false, false, false, false] HT_ ?_
      refine pu_ 11 (some 27) #[true, true, true, true, true, false, true, false, true, true, true, true, false, false, false, false, false, false, false] HT_ ?_
      refine pu_ 13 (some 29) #[true, true, true, true, true, false, true, false, true, true, true, true, false, true, false, false, false, false, false] HT_ ?_
      refine tk_ 5 (some 21) #[true, true, true, true, true, true, true, false, true, true, true, true, false, true, false, false, false, false, false] HT_ HW_ hHeld (hy := .inl ⟨by rfl, by rintro w' ⟨s0, s1, s2, s3⟩; go_simp; with_reducible rfl⟩) ?_
      refine pu_ 7 (some 23) #[true, true, true, true, true, true, true, true, true, true, true, true, false, true, false, false, false, false, false] HT_ ?_
      refine tk_ 12 (some 28) (mk_ 14 5) HT_ HW_ hHeld (hy := .inl ⟨by rfl, by rintro w' ⟨s0, s1, s2, s3⟩; go_simp; with_reducible rfl⟩) ?_
      refine pu_ 14 (some 30) (mk_ 15 4) HT_ ?_
      refine pu_ 15 (some 31) (mk_ 16 3) HT_ ?_
      refine one_ (i := 16) (N := some 32) (mk_ 17 2) rfl rfl (one_of HT_.out kr_) (by decide) (fun K hK => ?_)
      refine value_ (w1 := ?_) (v := ?_) (by rfl) rfl ?_ ?_
      rotate_left 2
      ·go_simp
       constructor
       ·rfl
       ·rfl
      refine hK.out _ _ ⟨(World.cell?_alloc_lt _ _ _ (World.block_lt_of_cell? _ _ ((hc_ hw241_0)))).trans ((hc_ hw241_0)), (World.cell?_alloc_lt _ _ _ (World.block_lt_of_cell? _ _ ((hc_ hw241_1)))).trans ((hc_ hw241_1)), (World.cell?_alloc_lt _ _ _ (World.block_lt_of_cell? _ _ ((hc_ hw242_0)))).trans ((hc_ hw242_0)), (World.cell?_alloc_lt _ _ _ (World.block_lt_of_cell? _ _ ((hc_ hw242_1)))).trans ((hc_ hw242_1))⟩ (fun hHeld => ?_)
      clear hK K
      refine nm_ ?_
      refine one_ (i := 17) (N := some 33) (mk_ 18 1) rfl rfl (one_of HT_.out kr_) (by decide) (fun K hK => ?_)
      refine Kd.R_append_step k56 (w0 := w) w.heap.size (by rfl) (.tmp 16) (.tmp 32) 29 56 (.agg #[(.int .i64 0), (.int .i64 0)]) 16 rfl Tryz.underlying29 info56 rfl (by decide) (by omega) u7 x7_1 (⟨wrap64 (((rd_T56 l0 x8_1).f0) + a1), wrap64 (((rd_T56 l0 x8_1).f1) + a2)⟩ : S56) [.int .i64 (wrap64 (((rd_T56 l0 x8_1).f0) + a1)), .int .i64 (wrap64 (((rd_T56 l0 x8_1).f1) + a2))] (fun _ => True) (fun _ => False) rfl rfl ?aP (fun _ hk => hk.elim) ?aF ?aO ?aB ?aS ?aL ?_
      (case aP => exact k56_mkM _ _ _ (⟨wrap64 (((rd_T56 l0 x8_1).f0) + a1), wrap64 (((rd_T56 l0 x8_1).f1) + a2)⟩ : S56))
      (case aB => exact (bl0_))
      (case aF => exact (fun _ _ => trivial))
      (case aO => exact (ra_ HO_7.out))
      (case aS => exact (below_size (bl0_)))
      (case aL => have := LMc8.out; omega)
      intro v244 w10 ho hb hg hat
      rw [← Ny243.out] at ho
      replace HB := a0_ (hb)
      have HO245 := a0_ (ho)
      clear HO_7
      clear ho hb hg hat
      refine hK.out _ _ ⟨(hc_ hw241_0), (hc_ hw241_1), (hc_ hw242_0), (hc_ hw242_1)⟩ (fun hHeld => ?_)
      clear hK K
      refine nm_ ?_
      refine pu_ 18 (some 7) (mk_ 19 0) HT_ ?_
      refine done_ (done_of HT_.out kr_) ?_
      try go_wp2
      go_roundg k1
      case measure => have := HK1.out; omega
      case rel => exact ⟨(y243), (wrap64 (x8_1 + 1)), rs_, H', ⟨by have := HK1.out; omega⟩, ⟨ra_ HO245.out⟩, ⟨bl0_⟩⟩
     ·rw [if_neg c8] at H
      exact absurd H (by simp)
    ·rw [if_neg c7] at H
     exact absurd H (by simp)
   ·rw [if_neg c6] at H
    have c6b0 : decide (x8_1 < (l0.length : Int)) = false := decide_eq_false c6
    clear c6
    obtain rfl := Option.some.inj H
    go_wp2
    go_ret
    exact ⟨_, er_, ra_ HO_7.out, bl0_⟩
def spec_l02Least.l0 : Nat → List (S56) → Int → Int → Int → Option (Int × Int)
 | 0, _, _, _, _ => none
 | k + 1, x0, x4, x5, x6 => if x6 < (x0.length : Int) then (if 0 ≤ x6 then (spec_l02Least.l0 k x0 (mn x4 ((rd_T56 x0 x6).f0)) (mn x5 ((rd_T56 x0 x6).f1)) (wrap64 (x6 + 1))) else (none)) else (some (x4, x5))
def spec_l02Least.f (k : Nat) (l0 : List (S56)) : Option (Int × Int) := if 0 < (l0.length : Int) then (spec_l02Least.l0 k l0 ((rd_T56 l0 0).f0) ((rd_T56 l0 0).f1) 1) else (none)
set_option maxHeartbeats 8000000 in
set_option maxRecDepth 100000 in
theorem spec_l02Least.calls (k : Nat) (A0 : Option Addr) (c0 : Nat) (l0 : List (S56)) (r1 : Int) (r2 : Int) (w : World) (hr0 : Kd.C k56 w A0 l0.length l0) (hc0 : l0.length ≤ c0) (h : spec_l02Least.f k l0 = some (r1, r2)) :
  Calls Tryz.prog 87 #[.slice A0 l0.length c0] w fun e w' => e = .returned (.tuple #[.int .i64 r1, .int .i64 r2]) ∧ Below w.heap.size w w' := by
 have HR0 := Aside0.mk hr0
 have HC0 := Aside0.mk hc0
 clear hr0 hc0
 have HB := a0_ (Below.refl w.heap.size w)
 have H := h
 clear h
 unfold spec_l02Least.f at H
 by_cases c2 : 0 < (l0.length : Int)
 ·rw [if_pos c2] at H
  have c2b0 : decide (0 < (l0.length : Int)) = true := decide_eq_true c2
  have c2b1 : decide (0 < l0.length) = true := decide_eq_true (by omega)
  clear c2
  have H' := Aside0.mk H
  clear H
  have p246 : 0 ≤ (0 : Int) := (by omega)
  have q246 : 0 < (l0.length : Int) := od_
  obtain ⟨ad246, e246, hx246_0, hx246_1⟩ := at_T56 HR0.out 0 p246 q246
  cases e246
  have qi246 : (0 < l0.length) = True := eq_true (by omega)
  (try rw [show ((0 : Int)).toNat = 0 from rfl] at hx246_0)
  (try rw [show 0 * 2 = 0 from rfl] at hx246_0)
  (try rw [Addr.add_zero'] at hx246_0)
  (try rw [show ((0 : Int)).toNat = 0 from rfl] at hx246_1)
  (try rw [show 0 * 2 = 0 from rfl] at hx246_1)
  (try rw [Addr.add_zero'] at hx246_1)
  replace p246 := eq_true p246
  replace q246 := eq_true q246
  have p247 : 0 ≤ (0 : Int) := (by omega)
  have q247 : 0 < (l0.length : Int) := od_
  obtain ⟨ad247, e247, hx247_0, hx247_1⟩ := at_T56 HR0.out 0 p247 q247
  obtain rfl : ad246 = ad247 := (by injection e247)
  have qi247 : (0 < l0.length) = True := eq_true (by omega)
  (try rw [show ((0 : Int)).toNat = 0 from rfl] at hx247_0)
  (try rw [show 0 * 2 = 0 from rfl] at hx247_0)
  (try rw [Addr.add_zero'] at hx247_0)
  (try rw [show ((0 : Int)).toNat = 0 from rfl] at hx247_1)
  (try rw [show 0 * 2 = 0 from rfl] at hx247_1)
  (try rw [Addr.add_zero'] at hx247_1)
  replace p247 := eq_true p247
  replace q247 := eq_true q247
  go_enter Tryz.func87, Tryz.ntmps87
  go_wp2
  repeat (go_quiet (fail); try go_wp2)
  go_loopg [4, 5, 6] k (fun kq v4 v5 v6 w' => ∃ (x4_1 : Int) (x5_1 : Int) (x6_1 : Int), v4 = .int .i64 x4_1 ∧ v5 = .int .i64 x5_1 ∧ v6 = .int .i64 x6_1 ∧ Aside0 (spec_l02Least.l0 kq l0 x4_1 x5_1 x6_1 = some (r1, r2)) ∧ Aside0 (kq ≤ k) ∧ Aside0 (Below w.heap.size w w'))
  case atStart => exact ⟨((rd_T56 l0 0).f0), ((rd_T56 l0 0).f1), (1), rs_, rs_, rs_, H', ⟨Nat.le_refl _⟩, ⟨bl0_⟩⟩
  case round =>
   clear H'
   try clear c2b0
   try clear c2b1
   try clear hx246_0
   try clear hx246_1
   try clear hx247_0
   try clear hx247_1
   try clear p246
   try clear p247
   try clear q246
   try clear q247
   obtain ⟨x4_1, x5_1, x6_1, rfl, rfl, rfl, HA, HK1, HB⟩ := hrel
   cases gk with
   | zero => exact absurd HA.out (by simp [spec_l02Least.l0])
   | succ k1 =>
    have H := HA.out
    clear HA
    simp only [spec_l02Least.l0] at H
    by_cases c3 : x6_1 < (l0.length : Int)
    ·rw [if_pos c3] at H
     have c3b0 : decide (x6_1 < (l0.length : Int)) = true := decide_eq_true c3
     clear c3
     by_cases c4 : 0 ≤ x6_1
     ·rw [if_pos c4] at H
      have c4b0 : decide (0 ≤ x6_1) = true := decide_eq_true c4
      clear c4
      obtain ⟨ji5, hji5⟩ : ∃ j_ : Int, (mn x4_1 ((rd_T56 l0 x6_1).f0)) = j_ := ⟨_, rfl⟩
      replace H : (spec_l02Least.l0 k1 l0 ji5 (mn x5_1 ((rd_T56 l0 x6_1).f1)) (wrap64 (x6_1 + 1))) = some (r1, r2) := by first | (rw [hji5] at H; exact H) | (simp only [hji5] at H ⊢; exact H)
      have hji5_ : (if ((rd_T56 l0 x6_1).f0) < x4_1 then ((rd_T56 l0 x6_1).f0) else x4_1) = ji5 := hji5
      obtain ⟨ji6, hji6⟩ : ∃ j_ : Int, (mn x5_1 ((rd_T56 l0 x6_1).f1)) = j_ := ⟨_, rfl⟩
      replace H : (spec_l02Least.l0 k1 l0 ji5 ji6 (wrap64 (x6_1 + 1))) = some (r1, r2) := by first | (rw [hji6] at H; exact H) | (simp only [hji6] at H ⊢; exact H)
      have hji6_ : (if ((rd_T56 l0 x6_1).f1) < x5_1 then ((rd_T56 l0 x6_1).f1) else x5_1) = ji6 := hji6
      have H' := Aside0.mk H
      clear H
      have p248 : 0 ≤ (x6_1 : Int) := od_
      have q248 : x6_1 < (l0.length : Int) := od_
      obtain ⟨ad248, e248, hx248_0, hx248_1⟩ := at_T56 HR0.out x6_1 p248 q248
      obtain rfl : ad246 = ad248 := (by injection e248)
      replace hx248_0 := hc_ hx248_0
      replace hx248_1 := hc_ hx248_1
      replace p248 := eq_true p248
      replace q248 := eq_true q248
      have p249 : 0 ≤ (x6_1 : Int) := od_
      have q249 : x6_1 < (l0.length : Int) := od_
      obtain ⟨ad249, e249, hx249_0, hx249_1⟩ := at_T56 HR0.out x6_1 p249 q249
      obtain rfl : ad246 = ad249 := (by injection e249)
      replace hx249_0 := hc_ hx249_0
      replace hx249_1 := hc_ hx249_1
      replace p249 := eq_true p249
      replace q249 := eq_true q249
      go_wp2
      repeat (go_quiet (fail); try go_wp2)
      go_roundg k1
      case measure => have := HK1.out; omega
      case rel => exact ⟨(ji5), (ji6), (wrap64 (x6_1 + 1)), (by first | rfl | (simp; done) | (simp only [← hji5] <;> (first | rfl | simp)) | (simp [*]; done)), (by first | rfl | (simp; done) | (simp only [← hji6] <;> (first | rfl | simp)) | (simp [*]; done)), rs_, H', ⟨by have := HK1.out; omega⟩, ⟨bl0_⟩⟩
     ·rw [if_neg c4] at H
      exact absurd H (by simp)
    ·rw [if_neg c3] at H
     have c3b0 : decide (x6_1 < (l0.length : Int)) = false := decide_eq_false c3
     clear c3
     simp only [Option.some.injEq, Prod.mk.injEq] at H
     obtain ⟨rfl, rfl⟩ := H
     go_wp2
     repeat (go_quiet (fail); try go_wp2)
     go_ret2
     exact ⟨er_, bl0_⟩
 ·rw [if_neg c2] at H
  exact absurd H (by simp)
def spec_l02Normal.f (k : Nat) (l0 : List (S56)) : Option ((List (S56))) := (spec_l02Least.f k l0).bind fun bt250 => ((spec_l02Move.f k l0 (wrap64 (-bt250.1)) (wrap64 (-bt250.2))).bind fun t252 => (some t252))
set_option maxHeartbeats 8000000 in
set_option maxRecDepth 100000 in
theorem spec_l02Normal.calls (k : Nat) (A0 : Option Addr) (c0 : Nat) (l0 : List (S56)) (r : List (S56)) (w : World) (hr0 : Kd.C k56 w A0 l0.length l0) (hc0 : l0.length ≤ c0) (h : spec_l02Normal.f k l0 = some r) :
  Calls Tryz.prog 70 #[.slice A0 l0.length c0] w fun e w' => ∃ v0_ : Value, e = .returned (v0_) ∧ Kd.R k56 56 w' w.heap.size (fun _ => True) v0_ r ∧ Below w.heap.size w w' := by
 have HR0 := Aside0.mk hr0
 have HC0 := Aside0.mk hc0
 clear hr0 hc0
 have HB := a0_ (Below.refl w.heap.size w)
 have H := h
 clear h
 unfold spec_l02Normal.f at H
 obtain ⟨⟨t250, t251⟩, A2, H⟩ := bs_ H
 dsimp only at H
 obtain ⟨t252, A3, H⟩ := bs_ H
 obtain rfl := Option.some.inj H
 go_enter Tryz.func70, Tryz.ntmps70
 go_wp2_with (first | ((with_reducible refine gate_callee (f := 87) rfl ?_); refine goesL_ (some 7) rfl rfl Tryz.func87 kr_ rfl #[.slice A0 l0.length c0] rfl ta_ ?_; (with_reducible refine (spec_l02Least.calls k _ _ l0 t250 t251 _ ?side1 ?side2 A2.out).mono ?_); (case side1 => exact ca_ HR0.out); (case side2 => exact HC0.out); rintro e w4 ⟨rfl, hb⟩; refine ⟨_, rfl, ?_⟩; replace HB := a0_ (below_step (bl0_) hb); (try clear hb)) | ((with_reducible refine gate_callee (f := 76) rfl ?_); refine goesL_ (some 15) rfl rfl Tryz.func76 kr_ rfl #[.slice A0 l0.length c0, .int .i64 (wrap64 (-t250)), .int .i64 (wrap64 (-t251))] rfl ta_ ?_; (with_reducible refine (spec_l02Move.calls k _ _ l0 (wrap64 (-t250)) (wrap64 (-t251)) t252 _ ?side1 ?side2 A3.out).mono ?_); (case side1 => exact ca_ (Kd.C_below HR0.out HB.out)); (case side2 => exact HC0.out); rintro e w5 ⟨v253, rfl, ho0, hb⟩; refine ⟨_, rfl, ?_⟩; have HO254 := a0_ (Kd.R_lower ho0 (below_size (bl0_))); replace HB := a0_ (below_step (bl0_) hb); (try clear hb); (try clear ho0)))
 go_ret
 exact ⟨_, er_, ra_ HO254.out, bl0_⟩
def spec_l03Form.l0 : Nat → List (S56) → Int → List (S56) → Int → Option ((List (S56)))
 | 0, _, _, _, _ => none
 | k + 1, x0, x1, x5, x6 => if x6 < (x0.length : Int) then (if 0 ≤ x6 then ((spec_l03Turn.f k ((rd_T56 x0 x6).f0) ((rd_T56 x0 x6).f1) x1).bind fun bt259 => (if x5.length < 8796093022208 then (spec_l03Form.l0 k x0 x1 (x5 ++ [(⟨bt259.1, bt259.2⟩ : S56)]) (wrap64 (x6 + 1))) else (none))) else (none)) else ((spec_l02Sort.f k x5).bind fun t264 => ((spec_l02Normal.f k t264).bind fun t267 => (some t267)))
def spec_l03Form.f (k : Nat) (l0 : List (S56)) (a1 : Int) : Option ((List (S56))) := spec_l03Form.l0 k l0 a1 (([] : List (S56))) 0
set_option maxHeartbeats 8000000 in
set_option maxRecDepth 100000 in
theorem spec_l03Form.calls (k : Nat) (A0 : Option Addr) (c0 : Nat) (l0 : List (S56)) (a1 : Int) (r : List (S56)) (w : World) (hr0 : Kd.C k56 w A0 l0.length l0) (hc0 : l0.length ≤ c0) (h : spec_l03Form.f k l0 a1 = some r) :
  Calls Tryz.prog 38 #[.slice A0 l0.length c0, .int .i64 a1] w fun e w' => ∃ v0_ : Value, e = .returned (v0_) ∧ Kd.R k56 56 w' w.heap.size (fun _ => True) v0_ r ∧ Below w.heap.size w w' := by
 have hu56 := Tryz.underlying56
 have HR0 := Aside0.mk hr0
 have HC0 := Aside0.mk hc0
 clear hr0 hc0
 have HB := a0_ (Below.refl w.heap.size w)
 have H : (spec_l03Form.l0 k l0 a1 (([] : List (S56))) 0) = some r := h
 clear h
 obtain ⟨y255, hy255⟩ : ∃ y_ : List (S56), y_ = (([] : List (S56))) := ⟨_, rfl⟩
 replace H : (spec_l03Form.l0 k l0 a1 y255 0) = some r := hh_ hy255 H
 have Ny255 := Aside0.mk hy255
 clear hy255
 have H' := Aside0.mk H
 clear H
 go_enter Tryz.func38, Tryz.ntmps38
 go_wp2_with (first | ((with_reducible refine gate_dst (N := 7) rfl ?_); refine Kd.R_lit k56 _ 56 ?hg (N := 7) ?hd (xs := ([] : List (S56))) (inner := []) (ok := fun _ => True) (okp := fun _ => True) ?hr ?hp (fun _ hk => hk) trivial (Below.refl _ _) (Nat.le_refl _) (by simp) ?_; (case hd => rfl); (case hg => rfl); (case hr => first | (go_simp; done) | (go_simp; rfl)); (case hp => exact (Reps.none _ _)); intro v256 w3 ho4 hb hg_ hnew_; clear hg_ hnew_; (first | rw [← Ny255.out] at ho4 | (simp only [Int.reduceToNat] at ho4; rw [← Ny255.out] at ho4)); have HO257 := a0_ (Kd.R_lower ho4 (below_size (bl0_))); replace HB := a0_ (below_step (bl0_) hb); clear hb ho4))
 go_loopg [5, 6] k (fun kq v5 v6 w' => ∃ (x5_1 : List (S56)) (x6_1 : Int), v6 = .int .i64 x6_1 ∧ Aside0 (spec_l03Form.l0 kq l0 a1 x5_1 x6_1 = some r) ∧ Aside0 (kq ≤ k) ∧ Aside0 (Kd.R k56 56 w' w.heap.size (fun _ => True) v5 x5_1) ∧ Aside0 (Below w.heap.size w w'))
 case atStart => exact ⟨(y255), (0), rs_, H', ⟨Nat.le_refl _⟩, ⟨ra_ HO257.out⟩, ⟨bl0_⟩⟩
 case round =>
  clear H'
  obtain ⟨x5_1, x6_1, rfl, HA, HK1, HO_5, HB⟩ := hrel
  cases gk with
  | zero => exact absurd HA.out (by simp [spec_l03Form.l0])
  | succ k1 =>
   have H := HA.out
   clear HA
   simp only [spec_l03Form.l0] at H
   by_cases c5 : x6_1 < (l0.length : Int)
   ·rw [if_pos c5] at H
    have c5b0 : decide (x6_1 < (l0.length : Int)) = true := decide_eq_true c5
    clear c5
    by_cases c6 : 0 ≤ x6_1
    ·rw [if_pos c6] at H
     have c6b0 : decide (0 ≤ x6_1) = true := decide_eq_true c6
     clear c6
     obtain ⟨⟨t259, t260⟩, A7, H⟩ := bs_ H
     dsimp only at H
     by_cases c8 : x5_1.length < 8796093022208
     ·rw [if_pos c8] at H
      have LMc8 := Aside0.mk c8
      clear c8
      obtain ⟨y261, hy261⟩ : ∃ y_ : List (S56), y_ = (x5_1 ++ [(⟨t259, t260⟩ : S56)]) := ⟨_, rfl⟩
      replace H : (spec_l03Form.l0 k1 l0 a1 y261 (wrap64 (x6_1 + 1))) = some r := hh_ hy261 H
      have Ny261 := Aside0.mk hy261
      clear hy261
      have H' := Aside0.mk H
      clear H
      have p258 : 0 ≤ (x6_1 : Int) := od_
      have q258 : x6_1 < (l0.length : Int) := od_
      obtain ⟨ad258, e258, hx258_0, hx258_1⟩ := at_T56 HR0.out x6_1 p258 q258
      cases e258
      replace hx258_0 := hc_ hx258_0
      replace hx258_1 := hc_ hx258_1
      replace p258 := eq_true p258
      replace q258 := eq_true q258
      go_wp2_with (first | ((with_reducible refine gate_callee (f := 69) rfl ?_); refine goesL_ (some 20) rfl rfl Tryz.func69 kr_ rfl #[.agg #[.int .i64 ((rd_T56 l0 x6_1).f0), .int .i64 ((rd_T56 l0 x6_1).f1)], .int .i64 a1] rfl ta_ ?_; (with_reducible refine (spec_l03Turn.calls k1 ((rd_T56 l0 x6_1).f0) ((rd_T56 l0 x6_1).f1) a1 t259 t260 _ A7.out).mono ?_); rintro e w9 ⟨rfl, hb⟩; refine ⟨_, rfl, ?_⟩; replace HO_5 := a0_ (Kd.R_below (ra_ HO_5.out) hb); replace HB := a0_ (below_step (bl0_) hb); (try clear hb)) | ((with_reducible refine gate_builtin (b := .append) (xs := #[.tmp 14, .tmp 21]) rfl ?_); at_builtin; refine Kd.R_append k56 (w0 := w) w.heap.size rfl (.tmp 14) (.tmp 21) 29 56 (.agg #[(.int .i64 0), (.int .i64 0)]) 16 rfl Tryz.underlying29 info56 rfl (by decide) (by omega) u5 x5_1 (⟨t259, t260⟩ : S56) [.int .i64 t259, .int .i64 t260] (fun _ => True) (fun _ => False) rfl rfl ?aP (fun _ hk => hk.elim) ?aF ?aO ?aB ?aS ?aL ?_; (case aP => exact k56_mkM _ _ _ (⟨t259, t260⟩ : S56)); (case aB => exact (bl0_)); (case aF => exact (fun _ _ => trivial)); (case aO => exact (ra_ HO_5.out)); (case aS => exact (below_size (bl0_))); (case aL => have := LMc8.out; omega); intro v262 w10 ho hb hg hat; rw [← Ny261.out] at ho; replace HB := a0_ (hb); have HO263 := a0_ (ho); clear HO_5; clear ho hb hg hat))
      go_roundg k1
      case measure => have := HK1.out; omega
      case rel => exact ⟨(y261), (wrap64 (x6_1 + 1)), rs_, H', ⟨by have := HK1.out; omega⟩, ⟨ra_ HO263.out⟩, ⟨bl0_⟩⟩
     ·rw [if_neg c8] at H
      exact absurd H (by simp)
    ·rw [if_neg c6] at H
     exact absurd H (by simp)
   ·rw [if_neg c5] at H
    have c5b0 : decide (x6_1 < (l0.length : Int)) = false := decide_eq_false c5
    clear c5
    obtain ⟨t264, A11, H⟩ := bs_ H
    obtain ⟨t267, A12, H⟩ := bs_ H
    obtain rfl := Option.some.inj H
    obtain ⟨Ao13, co13, eo13⟩ := Kd.R_slice HO_5.out
    subst eo13
    go_wp2_with (first | ((with_reducible refine gate_callee (f := 48) rfl ?_); refine goesL_ (some 24) rfl rfl Tryz.func48 kr_ rfl #[.slice Ao13 x5_1.length co13] rfl ta_ ?_; (with_reducible refine (spec_l02Sort.calls k1 _ _ x5_1 t264 _ ?side1 ?side2 A11.out).mono ?_); (case side1 => exact ca_ (Kd.R_reads' HO_5.out).2.2); (case side2 => exact (Kd.R_reads' HO_5.out).2.1); rintro e w14 ⟨v265, rfl, ho0, hb⟩; refine ⟨_, rfl, ?_⟩; have HO266 := a0_ (Kd.R_lower (Kd.R_new' ho0 (Kd.R_lt (ra_ HO_5.out))) (below_size (bl0_))); replace HO_5 := a0_ (Kd.R_elder' (ra_ HO_5.out) (Kd.R_base ho0) hb); replace HB := a0_ (below_step (bl0_) hb); (try clear hb); (try clear ho0); obtain ⟨Ao15, co15, eo15⟩ := Kd.R_slice HO266.out; subst eo15) | ((with_reducible refine gate_callee (f := 70) rfl ?_); refine goesL_ (some 25) rfl rfl Tryz.func70 kr_ rfl #[.slice Ao15 t264.length co15] rfl ta_ ?_; (with_reducible refine (spec_l02Normal.calls k1 _ _ t264 t267 _ ?side1 ?side2 A12.out).mono ?_); (case side1 => exact ca_ (Kd.R_reads' HO266.out).2.2); (case side2 => exact (Kd.R_reads' HO266.out).2.1); rintro e w16 ⟨v268, rfl, ho0, hb⟩; refine ⟨_, rfl, ?_⟩; have HO269 := a0_ (Kd.R_lower (Kd.R_new' (Kd.R_new' ho0 (Kd.R_lt (ra_ HO_5.out))) (Kd.R_lt (ra_ HO266.out))) (below_size (bl0_))); replace HO_5 := a0_ (Kd.R_elder' (ra_ HO_5.out) (Kd.R_base ho0) hb); replace HO266 := a0_ (Kd.R_elder' (ra_ HO266.out) (Kd.R_base ho0) hb); replace HB := a0_ (below_step (bl0_) hb); (try clear hb); (try clear ho0)))
    go_ret
    exact ⟨_, er_, by (with_reducible repeat (first | apply Kd.R_alloc | apply Kd.R_drewN | apply Kd.R_drew)); exact Kd.R_mono HO269.out (fun _ hk => trivial), bl0_⟩
end Go.Proofs.YtmdjkmfocgelnaaGreatDoor.PFnAllNets
