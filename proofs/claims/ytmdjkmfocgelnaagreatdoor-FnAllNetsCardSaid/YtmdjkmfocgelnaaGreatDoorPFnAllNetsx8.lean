/- Over the kit's printer by a driver of mine (hprint.py), with parts by hand: functions of the program as Lean functions, and that each call comes to exactly these answers. -/
import Derived.Test.YtmdjkmfocgelnaaGreatDoorPFnAllNetsx0
import Derived.Test.YtmdjkmfocgelnaaGreatDoorPFnAllNetsx2
namespace Go.Proofs.YtmdjkmfocgelnaaGreatDoor.PFnAllNets
open Go.RowKit Go.Proofs.YtmdjkmfocgelnaaGreatDoorW.PrintWords Go.Proofs.YtmdjkmfocgelnaaGreatDoorW.PrintLast Go.Proofs.YtmdjkmfocgelnaaGreatDoorW.PrintMore
attribute [local go_sem] max2_int min2_int max_two min_two max_three min_three max_four min_four   
set_option linter.unusedVariables false
set_option linter.unusedSimpArgs false
def spec_l02Insert.l0 : Nat → List (S56) → List (S56) → Bool → Int → Int → Int → Option ((List (S56)))
 | 0, _, _, _, _, _, _ => none
 | k + 1, x0, x5, x6, x7, x206000, x206001 => if x7 < (x0.length : Int) then (if x6 = true then (if 0 ≤ x7 then (if x5.length < 8796093022208 then (spec_l02Insert.l0 k x0 (x5 ++ [(⟨(rd_T56 x0 x7).f0, (rd_T56 x0 x7).f1⟩ : S56)]) x6 (wrap64 (x7 + 1)) x206000 x206001) else (none)) else (none)) else (if 0 ≤ x7 then ((spec_l02Less.f x206000 x206001 ((rd_T56 x0 x7).f0) ((rd_T56 x0 x7).f1)).bind fun t214 => (if t214 = true then (if x5.length < 8796093022208 then ((some (x5 ++ [(⟨x206000, x206001⟩ : S56)] : List (S56))).bind fun y215 => (if y215.length < 8796093022208 then (spec_l02Insert.l0 k x0 (y215 ++ [(⟨(rd_T56 x0 x7).f0, (rd_T56 x0 x7).f1⟩ : S56)]) true (wrap64 (x7 + 1)) x206000 x206001) else (none))) else (none)) else (if x5.length < 8796093022208 then (spec_l02Insert.l0 k x0 (x5 ++ [(⟨(rd_T56 x0 x7).f0, (rd_T56 x0 x7).f1⟩ : S56)]) x6 (wrap64 (x7 + 1)) x206000 x206001) else (none)))) else (none))) else (if x6 = true then (some x5) else (if x5.length < 8796093022208 then (some (x5 ++ [(⟨x206000, x206001⟩ : S56)])) else (none)))
def spec_l02Insert.f (k : Nat) (l0 : List (S56)) (a1_0 : Int) (a1_1 : Int) : Option ((List (S56))) := spec_l02Insert.l0 k l0 (([] : List (S56))) false 0 a1_0 a1_1
def spec_l02Insert.T6 : Bool × List (List Nat × List Nat) := (true, [([], []), ([0], [0]), ([1], [1]), ([2], [2]), ([2], [2]), ([2], [2]), ([4, 5, 2], [2, 4, 5]), ([6, 2], [2, 6]), ([3, 7, 2, 2], [2, 3, 7]), ([2, 8], [2, 8])])
def spec_l02Insert.B6 : List Nat := [0, 1, 3, 7, 7, 7, 55, 119, 255, 511]
theorem spec_l02Insert.tab6 : rtab .any (opsOf Tryz.f50 6) = spec_l02Insert.T6 := by kernel_rfl
theorem spec_l02Insert.bits6 : waitsOk spec_l02Insert.T6.2 spec_l02Insert.B6 = true := by kernel_rfl
set_option maxHeartbeats 8000000 in
set_option maxRecDepth 100000 in
theorem spec_l02Insert.calls (k : Nat) (A0 : Option Addr) (c0 : Nat) (l0 : List (S56)) (a1_0 : Int) (a1_1 : Int) (r : List (S56)) (w : World) (hr0 : Kd.C k56 w A0 l0.length l0) (hc0 : l0.length ≤ c0) (h : spec_l02Insert.f k l0 a1_0 a1_1 = some r) :
  Calls Tryz.prog 50 #[.slice A0 l0.length c0, .agg #[.int .i64 a1_0, .int .i64 a1_1]] w fun e w' => ∃ v0_ : Value, e = .returned (v0_) ∧ Kd.R k56 56 w' w.heap.size (fun _ => True) v0_ r ∧ Below w.heap.size w w' := by
 have hu56 := Tryz.underlying56
 have HR0 := Aside0.mk hr0
 have HC0 := Aside0.mk hc0
 clear hr0 hc0
 have HB := a0_ (Below.refl w.heap.size w)
 have H : (spec_l02Insert.l0 k l0 (([] : List (S56))) false 0 a1_0 a1_1) = some r := h
 clear h
 obtain ⟨y206, hy206⟩ : ∃ y_ : List (S56), y_ = (([] : List (S56))) := ⟨_, rfl⟩
 replace H : (spec_l02Insert.l0 k l0 y206 false 0 a1_0 a1_1) = some r := hh_ hy206 H
 have Ny206 := Aside0.mk hy206
 clear hy206
 have H' := Aside0.mk H
 clear H
 go_enter Tryz.func50, Tryz.ntmps50
 go_wp2_with (first | ((with_reducible refine gate_dst (N := 3) rfl ?_); refine bx_ (N := 3) (cs := #[.int .i64 a1_0, .int .i64 a1_1]) (t := 56) ?_; intro gb205 hg w3 hbox hb; have BK205 := a0_ (hbox); have GW205 := a0_ ((sz_ hg (bl0_) : w.heap.size ≤ gb205)); have GE205 := a0_ ((sz_ hg (bl0_) : w.heap.size ≤ gb205)); replace HB := a0_ (below_step (bl0_) hb); clear hb hbox hg) | ((with_reducible refine gate_dst (N := 8) rfl ?_); refine Kd.R_lit k56 _ 56 ?hg (N := 8) ?hd (xs := ([] : List (S56))) (inner := []) (ok := fun _ => True) (okp := fun _ => True) ?hr ?hp (fun _ hk => hk) trivial (Below.refl _ _) (Nat.le_refl _) (by simp) ?_; (case hd => rfl); (case hg => rfl); (case hr => first | (go_simp; done) | (go_simp; rfl)); (case hp => exact (Reps.none _ _)); intro v207 w4 ho5 hb hg_ hnew_; clear hg_ hnew_; (first | rw [← Ny206.out] at ho5 | (simp only [Int.reduceToNat] at ho5; rw [← Ny206.out] at ho5)); have HO208 := a0_ (Kd.R_lower (Kd.R_newB ho5 (g := gb205) (o := .cells #[.int .i64 a1_0, .int .i64 a1_1] 56 (0, 0)) (bk_ BK205.out)) (below_size (bl1_ GE205.out))); replace BK205 := a0_ (bb_ BK205.out hb); replace HB := a0_ (below_step (bl1_ GE205.out) hb); clear hb ho5))
 go_loopg [5, 6, 7] k (fun kq v5 v6 v7 w' => ∃ (x5_1 : List (S56)) (x6_1 : Bool) (x7_1 : Int), v6 = .bool x6_1 ∧ v7 = .int .i64 x7_1 ∧ Aside0 (spec_l02Insert.l0 kq l0 x5_1 x6_1 x7_1 a1_0 a1_1 = some r) ∧ Aside0 (kq ≤ k) ∧ Aside0 (Kd.R k56 56 w' w.heap.size (fun k_ => k_ ≠ gb205) v5 x5_1) ∧ Aside0 (w'.heap[gb205]? = some (.cells #[.int .i64 a1_0, .int .i64 a1_1] 56 (0, 0))) ∧ Aside0 (Below w.heap.size w w'))
 case atStart => exact ⟨(y206), (false), (0), rs_, rs_, H', ⟨Nat.le_refl _⟩, ⟨by (with_reducible repeat (first | apply Kd.R_alloc | apply Kd.R_drewN | apply Kd.R_drew)); exact Kd.R_mono HO208.out (fun _ hk => hk.2)⟩, ⟨bk_ BK205.out⟩, ⟨bl1_ GE205.out⟩⟩
 case round =>
  clear H'
  obtain ⟨x5_1, x6_1, x7_1, rfl, rfl, HA, HK1, HO_5, BK205, HB⟩ := hrel
  cases gk with
  | zero => exact absurd HA.out (by simp [spec_l02Insert.l0])
  | succ k1 =>
   have H := HA.out
   clear HA
   simp only [spec_l02Insert.l0] at H
   by_cases c6 : x7_1 < (l0.length : Int)
   ·rw [if_pos c6] at H
    have c6b0 : decide (x7_1 < (l0.length : Int)) = true := decide_eq_true c6
    clear c6
    by_cases c7 : x6_1 = true
    ·subst c7
     rw [if_pos rfl] at H
     by_cases c8 : 0 ≤ x7_1
     ·rw [if_pos c8] at H
      have c8b0 : decide (0 ≤ x7_1) = true := decide_eq_true c8
      clear c8
      by_cases c9 : x5_1.length < 8796093022208
      ·rw [if_pos c9] at H
       have LMc9 := Aside0.mk c9
       clear c9
       obtain ⟨y210, hy210⟩ : ∃ y_ : List (S56), y_ = (x5_1 ++ [(⟨(rd_T56 l0 x7_1).f0, (rd_T56 l0 x7_1).f1⟩ : S56)]) := ⟨_, rfl⟩
       replace H : (spec_l02Insert.l0 k1 l0 y210 true (wrap64 (x7_1 + 1)) a1_0 a1_1) = some r := hh_ hy210 H
       have Ny210 := Aside0.mk hy210
       clear hy210
       have H' := Aside0.mk H
       clear H
       try go_wp2
       replace HO_5 := a0_ (Kd.R_drew HO_5.out)
       replace BK205 := a0_ (blk_drew BK205.out)
       replace HB := a0_ (below_drew1 HB.out)
       refine start_ (n := 10) (S := fun w' => True) (ds := []) (mk_ 0 10) kr_ rfl rfl trivial (fun hHeld => ?_); refine with_tabW spec_l02Insert.tab6 spec_l02Insert.bits6 (fun HT_ HW_ => ?_)
       generalize wr.drew = w10 at HO_5 BK205 HB hHeld ⊢
       refine pu_ 0 (some 15) (mk_ 1 9) HT_ ?_
       refine pu_ 1 (some 16) (mk_ 2 8) HT_ ?_
       refine pu_ 2 (some 17) (mk_ 3 7) HT_ ?_
       refine pn_ 3 (some 18) (mk_ 4 6) HT_ ?_
       refine pn_ 4 (some 19) (mk_ 5 5) HT_ ?_
       refine pn_ 5 (some 20) (mk_ 6 4) HT_ ?_
       refine pn_ 6 (some 21) (mk_ 7 3) HT_ ?_
       refine pn_ 7 (some 22) (mk_ 8 2) HT_ ?_
       refine pn_ 8 (some 23) (mk_ 9 1) HT_ ?_
       refine pu_ 9 (some 24) (mk_ 10 0) HT_ ?_
       refine done_ (done_of HT_.out kr_) ?_
       have p209 : 0 ≤ (x7_1 : Int) := od_
       have q209 : x7_1 < (l0.length : Int) := od_
       obtain ⟨ad209, e209, hx209_0, hx209_1⟩ := at_T56 HR0.out x7_1 p209 q209
       cases e209
       replace hx209_0 := hc_ hx209_0
       replace hx209_1 := hc_ hx209_1
       replace p209 := eq_true p209
       replace q209 := eq_true q209
       try go_wp2_with (first | ((with_reducible refine gate_builtin (b := .append) (xs := #[.tmp 29, .tmp 34]) rfl ?_); at_builtin; refine Kd.R_append k56 (w0 := w) w.heap.size rfl (.tmp 29) (.tmp 34) 29 56 (.agg #[(.int .i64 0), (.int .i64 0)]) 16 rfl Tryz.underlying29 info56 rfl (by decide) (by omega) u5 x5_1 (⟨(rd_T56 l0 x7_1).f0, (rd_T56 l0 x7_1).f1⟩ : S56) [.int .i64 ((rd_T56 l0 x7_1).f0), .int .i64 ((rd_T56 l0 x7_1).f1)] (fun k_ => k_ ≠ gb205) (fun _ => False) rfl rfl ?aP (fun _ hk => hk.elim) ?aF ?aO ?aB ?aS ?aL ?_; (case aP => exact k56_mkM _ _ _ (⟨(rd_T56 l0 x7_1).f0, (rd_T56 l0 x7_1).f1⟩ : S56)); (case aB => exact (bl1_ GE205.out)); (case aF => exact (fun k_ hk => Kd.freshB (g := gb205) (o := .cells #[.int .i64 a1_0, .int .i64 a1_1] 56 (0, 0)) (bk_ BK205.out) k_ hk)); (case aO => exact (ra_ HO_5.out)); (case aS => exact (below_size (bl1_ GE205.out))); (case aL => have := LMc9.out; omega); intro v211 w11 ho hb hg hat; rw [← Ny210.out] at ho; replace BK205 := a0_ (blk_grown (g := gb205) (o := .cells #[.int .i64 a1_0, .int .i64 a1_1] 56 (0, 0)) (bk_ BK205.out) hg (Kd.R_away HO_5.out (fun _ hk => hk))); replace HB := a0_ (hb); have HO212 := a0_ (ho); clear HO_5; clear ho hb hg hat))
       go_roundg k1
       case measure => have := HK1.out; omega
       case rel => exact ⟨(y210), (true), (wrap64 (x7_1 + 1)), rs_, rs_, H', ⟨by have := HK1.out; omega⟩, ⟨ra_ HO212.out⟩, ⟨bk_ BK205.out⟩, ⟨bl1_ GE205.out⟩⟩
      ·rw [if_neg c9] at H
       exact absurd H (by simp)
     ·rw [if_neg c8] at H
      exact absurd H (by simp)
    ·replace c7 := Bool.eq_false_iff.mpr c7
     subst c7
     rw [if_neg (show ¬ (false = true) by decide)] at H
     by_cases c12 : 0 ≤ x7_1
     ·rw [if_pos c12] at H
      have c12b0 : decide (0 ≤ x7_1) = true := decide_eq_true c12
      clear c12
      obtain ⟨t214, A13, H⟩ := bs_ H
      by_cases c14 : t214 = true
      ·subst c14
       rw [if_pos rfl] at H
       by_cases c15 : x5_1.length < 8796093022208
       ·rw [if_pos c15] at H
        have LMc15 := Aside0.mk c15
        clear c15
        obtain ⟨y215, hy215⟩ : ∃ y_ : List (S56), y_ = (x5_1 ++ [(⟨a1_0, a1_1⟩ : S56)]) := ⟨_, rfl⟩
        replace H : (if y215.length < 8796093022208 then (spec_l02Insert.l0 k1 l0 (y215 ++ [(⟨(rd_T56 l0 x7_1).f0, (rd_T56 l0 x7_1).f1⟩ : S56)]) true (wrap64 (x7_1 + 1)) a1_0 a1_1) else (none)) = some r := hh_ hy215 H
        have Ny215 := Aside0.mk hy215
        clear hy215
        by_cases c16 : y215.length < 8796093022208
        ·rw [if_pos c16] at H
         have LMc16 := Aside0.mk c16
         clear c16
         obtain ⟨y219, hy219⟩ : ∃ y_ : List (S56), y_ = (y215 ++ [(⟨(rd_T56 l0 x7_1).f0, (rd_T56 l0 x7_1).f1⟩ : S56)]) := ⟨_, rfl⟩
         replace H : (spec_l02Insert.l0 k1 l0 y219 true (wrap64 (x7_1 + 1)) a1_0 a1_1) = some r := hh_ hy219 H
         have Ny219 := Aside0.mk hy219
         clear hy219
         have H' := Aside0.mk H
         clear H
         try go_wp2
         replace HO_5 := a0_ (Kd.R_drew HO_5.out)
         replace BK205 := a0_ (blk_drew BK205.out)
         replace HB := a0_ (below_drew1 HB.out)
         have p213 : 0 ≤ (x7_1 : Int) := od_
         have q213 : x7_1 < (l0.length : Int) := od_
         obtain ⟨ad213, e213, hx213_0, hx213_1⟩ := at_T56 HR0.out x7_1 p213 q213
         have hw213_1 := hx213_1
         have hw213_0 := hx213_0
         cases e213
         replace hx213_0 := hc_ hx213_0
         replace hx213_1 := hc_ hx213_1
         replace p213 := eq_true p213
         replace q213 := eq_true q213
         refine start_ (n := 10) (S := fun w' => w'.cell? ⟨gb205, 0, none⟩ = some (.int .i64 a1_0) ∧ w'.cell? ⟨gb205, 1, none⟩ = some (.int .i64 a1_1) ∧ w'.cell? (ad213.add ((x7_1).toNat * 2)) = some (.int .i64 ((rd_T56 l0 x7_1).f0)) ∧ w'.cell? ⟨(ad213.add ((x7_1).toNat * 2)).block, (ad213.add ((x7_1).toNat * 2)).off + 1, none⟩ = some (.int .i64 ((rd_T56 l0 x7_1).f1))) (ds := []) (mk_ 0 10) kr_ rfl rfl ⟨(blk_cell BK205.out 0).trans rfl, (blk_cell BK205.out 1).trans rfl, (hc_ hw213_0), (hc_ hw213_1)⟩ (fun hHeld => ?_); refine with_tabW spec_l02Insert.tab6 spec_l02Insert.bits6 (fun HT_ HW_ => ?_)
         generalize wr.drew = w17 at HO_5 BK205 HB hx213_0 hx213_1 hHeld ⊢
         refine pu_ 0 (some 15) (mk_ 1 9) HT_ ?_
         refine pu_ 1 (some 16) (mk_ 2 8) HT_ ?_
         refine pu_ 2 (some 17) (mk_ 3 7) HT_ ?_
         refine pu_ 4 (some 19) #[true, true, true, false, true, false, false, false, false, false] HT_ ?_
         refine pu_ 5 (some 20) #[true, true, true, false, true, true, false, false, false, false] HT_ ?_
         refine pu_ 6 (some 21) #[true, true, true, false, true, true, true, false, false, false] HT_ ?_
         refine tk_ 3 (some 18) (mk_ 7 3) HT_ HW_ hHeld (hy := .inl ⟨by rfl, by rintro w' ⟨s0, s1, s2, s3⟩; go_simp; with_reducible rfl⟩) ?_
         refine tk_ 7 (some 22) (mk_ 8 2) HT_ HW_ hHeld (hy := .inl ⟨by rfl, by rintro w' ⟨s0, s1, s2, s3⟩; go_simp; with_reducible rfl⟩) ?_
         refine one_ (i := 8) (N := some 23) (mk_ 9 1) rfl rfl (one_of HT_.out kr_) (by decide) (fun K hK => ?_)
         refine goes_ Tryz.func68 kr_ rfl #[.agg #[.int .i64 a1_0, .int .i64 a1_1], .agg #[.int .i64 ((rd_T56 l0 x7_1).f0), .int .i64 ((rd_T56 l0 x7_1).f1)]] (by rfl) rfl rfl ta_ ?_
         with_reducible refine (spec_l02Less.calls a1_0 a1_1 ((rd_T56 l0 x7_1).f0) ((rd_T56 l0 x7_1).f1) true _ A13.out).mono ?_
         rintro e w18 ⟨rfl, hb⟩
         refine ⟨_, rfl, ?_⟩
         replace HO_5 := a0_ (Kd.R_below (ra_ HO_5.out) hb)
         replace BK205 := a0_ (bb_ BK205.out hb)
         replace HB := a0_ (below_step (bl1_ GE205.out) hb)
         (try clear hb)
         (try clear hk)
         refine hK.out _ _ ⟨(blk_cell BK205.out 0).trans rfl, (blk_cell BK205.out 1).trans rfl, (hc_ hw213_0), (hc_ hw213_1)⟩ (fun hHeld => ?_)
         clear hK K
         refine nm_ ?_
         refine pu_ 9 (some 24) (mk_ 10 0) HT_ ?_
         refine done_ (done_of HT_.out kr_) ?_
         have hcz19_0 : w18.cell? ⟨gb205, 0, none⟩ = some (.int .i64 a1_0) := (blk_cell BK205.out 0).trans rfl
         have hcz19_1 : w18.cell? ⟨gb205, 1, none⟩ = some (.int .i64 a1_1) := (blk_cell BK205.out 1).trans rfl
         have hfz19_0 := blk_frozen BK205.out 0
         have hfz19_1 := blk_frozen BK205.out 1
         try go_wp2_with (first | ((with_reducible refine gate_builtin (b := .append) (xs := #[.tmp 25, .tmp 27]) rfl ?_); at_builtin; refine Kd.R_append k56 (w0 := w) w.heap.size rfl (.tmp 25) (.tmp 27) 29 56 (.agg #[(.int .i64 0), (.int .i64 0)]) 16 rfl Tryz.underlying29 info56 rfl (by decide) (by omega) u5 x5_1 (⟨a1_0, a1_1⟩ : S56) [.int .i64 a1_0, .int .i64 a1_1] (fun k_ => k_ ≠ gb205) (fun _ => False) rfl rfl ?aP (fun _ hk => hk.elim) ?aF ?aO ?aB ?aS ?aL ?_; (case aP => exact k56_mkM _ _ _ (⟨a1_0, a1_1⟩ : S56)); (case aB => exact (bl1_ GE205.out)); (case aF => exact (fun k_ hk => Kd.freshB (g := gb205) (o := .cells #[.int .i64 a1_0, .int .i64 a1_1] 56 (0, 0)) (bk_ BK205.out) k_ hk)); (case aO => exact (ra_ HO_5.out)); (case aS => exact (below_size (bl1_ GE205.out))); (case aL => have := LMc15.out; omega); intro v216 w20 ho hb hg hat; rw [← Ny215.out] at ho; replace BK205 := a0_ (blk_grown (g := gb205) (o := .cells #[.int .i64 a1_0, .int .i64 a1_1] 56 (0, 0)) (bk_ BK205.out) hg (Kd.R_away HO_5.out (fun _ hk => hk))); replace HB := a0_ (hb); have HO217 := a0_ (ho); clear HO_5; clear ho hb hg hat; have p218 : 0 ≤ (x7_1 : Int) := od_; have q218 : x7_1 < (l0.length : Int) := od_; obtain ⟨ad218, e218, hx218_0, hx218_1⟩ := at_T56 HR0.out x7_1 p218 q218; obtain rfl : ad213 = ad218 := (by injection e218); replace hx218_0 := hc_ hx218_0; replace hx218_1 := hc_ hx218_1; replace p218 := eq_true p218; replace q218 := eq_true q218) | ((with_reducible refine gate_builtin (b := .append) (xs := #[.tmp 29, .tmp 34]) rfl ?_); at_builtin; refine Kd.R_append k56 (w0 := w) w.heap.size rfl (.tmp 29) (.tmp 34) 29 56 (.agg #[(.int .i64 0), (.int .i64 0)]) 16 rfl Tryz.underlying29 info56 rfl (by decide) (by omega) v216 y215 (⟨(rd_T56 l0 x7_1).f0, (rd_T56 l0 x7_1).f1⟩ : S56) [.int .i64 ((rd_T56 l0 x7_1).f0), .int .i64 ((rd_T56 l0 x7_1).f1)] (fun k_ => k_ ≠ gb205) (fun _ => False) rfl rfl ?aP (fun _ hk => hk.elim) ?aF ?aO ?aB ?aS ?aL ?_; (case aP => exact k56_mkM _ _ _ (⟨(rd_T56 l0 x7_1).f0, (rd_T56 l0 x7_1).f1⟩ : S56)); (case aB => exact (bl1_ GE205.out)); (case aF => exact (fun k_ hk => Kd.freshB (g := gb205) (o := .cells #[.int .i64 a1_0, .int .i64 a1_1] 56 (0, 0)) (bk_ BK205.out) k_ hk)); (case aO => exact (ra_ HO217.out)); (case aS => exact (below_size (bl1_ GE205.out))); (case aL => have := LMc16.out; omega); intro v220 w21 ho hb hg hat; rw [← Ny219.out] at ho; replace BK205 := a0_ (blk_grown (g := gb205) (o := .cells #[.int .i64 a1_0, .int .i64 a1_1] 56 (0, 0)) (bk_ BK205.out) hg (Kd.R_away HO217.out (fun _ hk => hk))); replace HB := a0_ (hb); have HO221 := a0_ (ho); clear HO217; clear ho hb hg hat))
         go_roundg k1
         case measure => have := HK1.out; omega
         case rel => exact ⟨(y219), (true), (wrap64 (x7_1 + 1)), rs_, rs_, H', ⟨by have := HK1.out; omega⟩, ⟨ra_ HO221.out⟩, ⟨bk_ BK205.out⟩, ⟨bl1_ GE205.out⟩⟩
        ·rw [if_neg c16] at H
         exact absurd H (by simp)
       ·rw [if_neg c15] at H
        exact absurd H (by simp)
      ·replace c14 := Bool.eq_false_iff.mpr c14
       subst c14
       rw [if_neg (show ¬ (false = true) by decide)] at H
       by_cases c22 : x5_1.length < 8796093022208
       ·rw [if_pos c22] at H
        have LMc22 := Aside0.mk c22
        clear c22
        obtain ⟨y223, hy223⟩ : ∃ y_ : List (S56), y_ = (x5_1 ++ [(⟨(rd_T56 l0 x7_1).f0, (rd_T56 l0 x7_1).f1⟩ : S56)]) := ⟨_, rfl⟩
        replace H : (spec_l02Insert.l0 k1 l0 y223 false (wrap64 (x7_1 + 1)) a1_0 a1_1) = some r := hh_ hy223 H
        have Ny223 := Aside0.mk hy223
        clear hy223
        have H' := Aside0.mk H
        clear H
        try go_wp2
        replace HO_5 := a0_ (Kd.R_drew HO_5.out)
        replace BK205 := a0_ (blk_drew BK205.out)
        replace HB := a0_ (below_drew1 HB.out)
        have p213 : 0 ≤ (x7_1 : Int) := od_
        have q213 : x7_1 < (l0.length : Int) := od_
        obtain ⟨ad213, e213, hx213_0, hx213_1⟩ := at_T56 HR0.out x7_1 p213 q213
        have hw213_1 := hx213_1
        have hw213_0 := hx213_0
        cases e213
        replace hx213_0 := hc_ hx213_0
        replace hx213_1 := hc_ hx213_1
        replace p213 := eq_true p213
        replace q213 := eq_true q213
        refine start_ (n := 10) (S := fun w' => w'.cell? ⟨gb205, 0, none⟩ = some (.int .i64 a1_0) ∧ w'.cell? ⟨gb205, 1, none⟩ = some (.int .i64 a1_1) ∧ w'.cell? (ad213.add ((x7_1).toNat * 2)) = some (.int .i64 ((rd_T56 l0 x7_1).f0)) ∧ w'.cell? ⟨(ad213.add ((x7_1).toNat * 2)).block, (ad213.add ((x7_1).toNat * 2)).off + 1, none⟩ = some (.int .i64 ((rd_T56 l0 x7_1).f1))) (ds := []) (mk_ 0 10) kr_ rfl rfl ⟨(blk_cell BK205.out 0).trans rfl, (blk_cell BK205.out 1).trans rfl, (hc_ hw213_0), (hc_ hw213_1)⟩ (fun hHeld => ?_); refine with_tabW spec_l02Insert.tab6 spec_l02Insert.bits6 (fun HT_ HW_ => ?_)
        generalize wr.drew = w23 at HO_5 BK205 HB hx213_0 hx213_1 hHeld ⊢
        refine pu_ 0 (some 15) (mk_ 1 9) HT_ ?_
        refine pu_ 1 (some 16) (mk_ 2 8) HT_ ?_
        refine pu_ 2 (some 17) (mk_ 3 7) HT_ ?_
        refine pu_ 4 (some 19) #[true, true, true, false, true, false, false, false, false, false] HT_ ?_
        refine pu_ 5 (some 20) #[true, true, true, false, true, true, false, false, false, false] HT_ ?_
        refine pu_ 6 (some 21) #[true, true, true, false, true, true, true, false, false, false] HT_ ?_
        refine tk_ 3 (some 18) (mk_ 7 3) HT_ HW_ hHeld (hy := .inl ⟨by rfl, by rintro w' ⟨s0, s1, s2, s3⟩; go_simp; with_reducible rfl⟩) ?_
        refine tk_ 7 (some 22) (mk_ 8 2) HT_ HW_ hHeld (hy := .inl ⟨by rfl, by rintro w' ⟨s0, s1, s2, s3⟩; go_simp; with_reducible rfl⟩) ?_
        refine one_ (i := 8) (N := some 23) (mk_ 9 1) rfl rfl (one_of HT_.out kr_) (by decide) (fun K hK => ?_)
        refine goes_ Tryz.func68 kr_ rfl #[.agg #[.int .i64 a1_0, .int .i64 a1_1], .agg #[.int .i64 ((rd_T56 l0 x7_1).f0), .int .i64 ((rd_T56 l0 x7_1).f1)]] (by rfl) rfl rfl ta_ ?_
        with_reducible refine (spec_l02Less.calls a1_0 a1_1 ((rd_T56 l0 x7_1).f0) ((rd_T56 l0 x7_1).f1) false _ A13.out).mono ?_
        rintro e w24 ⟨rfl, hb⟩
        refine ⟨_, rfl, ?_⟩
        replace HO_5 := a0_ (Kd.R_below (ra_ HO_5.out) hb)
        replace BK205 := a0_ (bb_ BK205.out hb)
        replace HB := a0_ (below_step (bl1_ GE205.out) hb)
        (try clear hb)
        (try clear hk)
        refine hK.out _ _ ⟨(blk_cell BK205.out 0).trans rfl, (blk_cell BK205.out 1).trans rfl, (hc_ hw213_0), (hc_ hw213_1)⟩ (fun hHeld => ?_)
        clear hK K
        refine nm_ ?_
        refine pu_ 9 (some 24) (mk_ 10 0) HT_ ?_
        refine done_ (done_of HT_.out kr_) ?_
        have p222 : 0 ≤ (x7_1 : Int) := od_
        have q222 : x7_1 < (l0.length : Int) := od_
        obtain ⟨ad222, e222, hx222_0, hx222_1⟩ := at_T56 HR0.out x7_1 p222 q222
        obtain rfl : ad213 = ad222 := (by injection e222)
        replace hx222_0 := hc_ hx222_0
        replace hx222_1 := hc_ hx222_1
        replace p222 := eq_true p222
        replace q222 := eq_true q222
        try go_wp2_with (first | ((with_reducible refine gate_builtin (b := .append) (xs := #[.tmp 29, .tmp 34]) rfl ?_); at_builtin; refine Kd.R_append k56 (w0 := w) w.heap.size rfl (.tmp 29) (.tmp 34) 29 56 (.agg #[(.int .i64 0), (.int .i64 0)]) 16 rfl Tryz.underlying29 info56 rfl (by decide) (by omega) u5 x5_1 (⟨(rd_T56 l0 x7_1).f0, (rd_T56 l0 x7_1).f1⟩ : S56) [.int .i64 ((rd_T56 l0 x7_1).f0), .int .i64 ((rd_T56 l0 x7_1).f1)] (fun k_ => k_ ≠ gb205) (fun _ => False) rfl rfl ?aP (fun _ hk => hk.elim) ?aF ?aO ?aB ?aS ?aL ?_; (case aP => exact k56_mkM _ _ _ (⟨(rd_T56 l0 x7_1).f0, (rd_T56 l0 x7_1).f1⟩ : S56)); (case aB => exact (bl1_ GE205.out)); (case aF => exact (fun k_ hk => Kd.freshB (g := gb205) (o := .cells #[.int .i64 a1_0, .int .i64 a1_1] 56 (0, 0)) (bk_ BK205.out) k_ hk)); (case aO => exact (ra_ HO_5.out)); (case aS => exact (below_size (bl1_ GE205.out))); (case aL => have := LMc22.out; omega); intro v224 w25 ho hb hg hat; rw [← Ny223.out] at ho; replace BK205 := a0_ (blk_grown (g := gb205) (o := .cells #[.int .i64 a1_0, .int .i64 a1_1] 56 (0, 0)) (bk_ BK205.out) hg (Kd.R_away HO_5.out (fun _ hk => hk))); replace HB := a0_ (hb); have HO225 := a0_ (ho); clear HO_5; clear ho hb hg hat))
        go_roundg k1
        case measure => have := HK1.out; omega
        case rel => exact ⟨(y223), (false), (wrap64 (x7_1 + 1)), rs_, rs_, H', ⟨by have := HK1.out; omega⟩, ⟨ra_ HO225.out⟩, ⟨bk_ BK205.out⟩, ⟨bl1_ GE205.out⟩⟩
       ·rw [if_neg c22] at H
        exact absurd H (by simp)
     ·rw [if_neg c12] at H
      exact absurd H (by simp)
   ·rw [if_neg c6] at H
    have c6b0 : decide (x7_1 < (l0.length : Int)) = false := decide_eq_false c6
    clear c6
    by_cases c26 : x6_1 = true
    ·subst c26
     rw [if_pos rfl] at H
     obtain rfl := Option.some.inj H
     go_wp2
     go_ret
     exact ⟨_, er_, by (with_reducible repeat (first | apply Kd.R_alloc | apply Kd.R_drewN | apply Kd.R_drew)); exact Kd.R_mono HO_5.out (fun _ hk => trivial), bl1_ GE205.out⟩
    ·replace c26 := Bool.eq_false_iff.mpr c26
     subst c26
     rw [if_neg (show ¬ (false = true) by decide)] at H
     by_cases c27 : x5_1.length < 8796093022208
     ·rw [if_pos c27] at H
      have LMc27 := Aside0.mk c27
      clear c27
      obtain ⟨y226, hy226⟩ : ∃ y_ : List (S56), y_ = (x5_1 ++ [(⟨a1_0, a1_1⟩ : S56)]) := ⟨_, rfl⟩
      replace H : (some y226) = some r := hh_ hy226 H
      have Ny226 := Aside0.mk hy226
      clear hy226
      obtain rfl := Option.some.inj H
      have hcz28_0 : wr.cell? ⟨gb205, 0, none⟩ = some (.int .i64 a1_0) := (blk_cell BK205.out 0).trans rfl
      have hcz28_1 : wr.cell? ⟨gb205, 1, none⟩ = some (.int .i64 a1_1) := (blk_cell BK205.out 1).trans rfl
      have hfz28_0 := blk_frozen BK205.out 0
      have hfz28_1 := blk_frozen BK205.out 1
      go_wp2_with (first | ((with_reducible refine gate_builtin (b := .append) (xs := #[.tmp 38, .tmp 40]) rfl ?_); at_builtin; refine Kd.R_append k56 (w0 := w) w.heap.size rfl (.tmp 38) (.tmp 40) 29 56 (.agg #[(.int .i64 0), (.int .i64 0)]) 16 rfl Tryz.underlying29 info56 rfl (by decide) (by omega) u5 x5_1 (⟨a1_0, a1_1⟩ : S56) [.int .i64 a1_0, .int .i64 a1_1] (fun k_ => k_ ≠ gb205) (fun _ => False) rfl rfl ?aP (fun _ hk => hk.elim) ?aF ?aO ?aB ?aS ?aL ?_; (case aP => exact k56_mkM _ _ _ (⟨a1_0, a1_1⟩ : S56)); (case aB => exact (bl1_ GE205.out)); (case aF => exact (fun k_ hk => Kd.freshB (g := gb205) (o := .cells #[.int .i64 a1_0, .int .i64 a1_1] 56 (0, 0)) (bk_ BK205.out) k_ hk)); (case aO => exact (ra_ HO_5.out)); (case aS => exact (below_size (bl1_ GE205.out))); (case aL => have := LMc27.out; omega); intro v227 w29 ho hb hg hat; rw [← Ny226.out] at ho; replace BK205 := a0_ (blk_grown (g := gb205) (o := .cells #[.int .i64 a1_0, .int .i64 a1_1] 56 (0, 0)) (bk_ BK205.out) hg (Kd.R_away HO_5.out (fun _ hk => hk))); replace HB := a0_ (hb); have HO228 := a0_ (ho); clear HO_5; clear ho hb hg hat))
      go_ret
      exact ⟨_, er_, by (with_reducible repeat (first | apply Kd.R_alloc | apply Kd.R_drewN | apply Kd.R_drew)); exact Kd.R_mono HO228.out (fun _ hk => trivial), bl1_ GE205.out⟩
     ·rw [if_neg c27] at H
      exact absurd H (by simp)
def spec_l02Sort.l0 : Nat → List (S56) → List (S56) → Int → Option ((List (S56)))
 | 0, _, _, _ => none
 | k + 1, x0, x3, x4 => if x4 < (x0.length : Int) then (if 0 ≤ x4 then ((spec_l02Insert.f k x3 ((rd_T56 x0 x4).f0) ((rd_T56 x0 x4).f1)).bind fun t233 => (spec_l02Sort.l0 k x0 t233 (wrap64 (x4 + 1)))) else (none)) else (some x3)
def spec_l02Sort.f (k : Nat) (l0 : List (S56)) : Option ((List (S56))) := spec_l02Sort.l0 k l0 (([] : List (S56))) 0
set_option maxHeartbeats 8000000 in
set_option maxRecDepth 100000 in
theorem spec_l02Sort.calls (k : Nat) (A0 : Option Addr) (c0 : Nat) (l0 : List (S56)) (r : List (S56)) (w : World) (hr0 : Kd.C k56 w A0 l0.length l0) (hc0 : l0.length ≤ c0) (h : spec_l02Sort.f k l0 = some r) :
  Calls Tryz.prog 48 #[.slice A0 l0.length c0] w fun e w' => ∃ v0_ : Value, e = .returned (v0_) ∧ Kd.R k56 56 w' w.heap.size (fun _ => True) v0_ r ∧ Below w.heap.size w w' := by
 have hu56 := Tryz.underlying56
 have HR0 := Aside0.mk hr0
 have HC0 := Aside0.mk hc0
 clear hr0 hc0
 have HB := a0_ (Below.refl w.heap.size w)
 have H : (spec_l02Sort.l0 k l0 (([] : List (S56))) 0) = some r := h
 clear h
 obtain ⟨y229, hy229⟩ : ∃ y_ : List (S56), y_ = (([] : List (S56))) := ⟨_, rfl⟩
 replace H : (spec_l02Sort.l0 k l0 y229 0) = some r := hh_ hy229 H
 have Ny229 := Aside0.mk hy229
 clear hy229
 have H' := Aside0.mk H
 clear H
 go_enter Tryz.func48, Tryz.ntmps48
 go_wp2_with (first | ((with_reducible refine gate_dst (N := 5) rfl ?_); refine Kd.R_lit k56 _ 56 ?hg (N := 5) ?hd (xs := ([] : List (S56))) (inner := []) (ok := fun _ => True) (okp := fun _ => True) ?hr ?hp (fun _ hk => hk) trivial (Below.refl _ _) (Nat.le_refl _) (by simp) ?_; (case hd => rfl); (case hg => rfl); (case hr => first | (go_simp; done) | (go_simp; rfl)); (case hp => exact (Reps.none _ _)); intro v230 w2 ho3 hb hg_ hnew_; clear hg_ hnew_; (first | rw [← Ny229.out] at ho3 | (simp only [Int.reduceToNat] at ho3; rw [← Ny229.out] at ho3)); have HO231 := a0_ (Kd.R_lower ho3 (below_size (bl0_))); replace HB := a0_ (below_step (bl0_) hb); clear hb ho3))
 go_loopg [3, 4] k (fun kq v3 v4 w' => ∃ (x3_1 : List (S56)) (x4_1 : Int), v4 = .int .i64 x4_1 ∧ Aside0 (spec_l02Sort.l0 kq l0 x3_1 x4_1 = some r) ∧ Aside0 (kq ≤ k) ∧ Aside0 (Kd.R k56 56 w' w.heap.size (fun _ => True) v3 x3_1) ∧ Aside0 (Below w.heap.size w w'))
 case atStart => exact ⟨(y229), (0), rs_, H', ⟨Nat.le_refl _⟩, ⟨ra_ HO231.out⟩, ⟨bl0_⟩⟩
 case round =>
  clear H'
  obtain ⟨x3_1, x4_1, rfl, HA, HK1, HO_3, HB⟩ := hrel
  cases gk with
  | zero => exact absurd HA.out (by simp [spec_l02Sort.l0])
  | succ k1 =>
   have H := HA.out
   clear HA
   simp only [spec_l02Sort.l0] at H
   by_cases c4 : x4_1 < (l0.length : Int)
   ·rw [if_pos c4] at H
    have c4b0 : decide (x4_1 < (l0.length : Int)) = true := decide_eq_true c4
    clear c4
    by_cases c5 : 0 ≤ x4_1
    ·rw [if_pos c5] at H
     have c5b0 : decide (0 ≤ x4_1) = true := decide_eq_true c5
     clear c5
     obtain ⟨t233, A6, H⟩ := bs_ H
     have H' := Aside0.mk H
     clear H
     have p232 : 0 ≤ (x4_1 : Int) := od_
     have q232 : x4_1 < (l0.length : Int) := od_
     obtain ⟨ad232, e232, hx232_0, hx232_1⟩ := at_T56 HR0.out x4_1 p232 q232
     cases e232
     replace hx232_0 := hc_ hx232_0
     replace hx232_1 := hc_ hx232_1
     replace p232 := eq_true p232
     replace q232 := eq_true q232
     obtain ⟨Ao7, co7, eo7⟩ := Kd.R_slice HO_3.out
     subst eo7
     go_wp2_with (first | ((with_reducible refine gate_callee (f := 50) rfl ?_); refine goesL_ (some 17) rfl rfl Tryz.func50 kr_ rfl #[.slice Ao7 x3_1.length co7, .agg #[.int .i64 ((rd_T56 l0 x4_1).f0), .int .i64 ((rd_T56 l0 x4_1).f1)]] rfl ta_ ?_; (with_reducible refine (spec_l02Insert.calls k1 _ _ x3_1 ((rd_T56 l0 x4_1).f0) ((rd_T56 l0 x4_1).f1) t233 _ ?side1 ?side2 A6.out).mono ?_); (case side1 => exact ca_ (Kd.R_reads' HO_3.out).2.2); (case side2 => exact (Kd.R_reads' HO_3.out).2.1); rintro e w8 ⟨v234, rfl, ho0, hb⟩; refine ⟨_, rfl, ?_⟩; have HO235 := a0_ (Kd.R_lower (Kd.R_new' ho0 (Kd.R_lt (ra_ HO_3.out))) (below_size (bl0_))); replace HO_3 := a0_ (Kd.R_elder' (ra_ HO_3.out) (Kd.R_base ho0) hb); replace HB := a0_ (below_step (bl0_) hb); (try clear hb); (try clear ho0)))
     go_roundg k1
     case measure => have := HK1.out; omega
     case rel => exact ⟨(t233), (wrap64 (x4_1 + 1)), rs_, H', ⟨by have := HK1.out; omega⟩, ⟨by (with_reducible repeat (first | apply Kd.R_alloc | apply Kd.R_drewN | apply Kd.R_drew)); exact Kd.R_mono HO235.out (fun _ hk => trivial)⟩, ⟨bl0_⟩⟩
    ·rw [if_neg c5] at H
     exact absurd H (by simp)
   ·rw [if_neg c4] at H
    have c4b0 : decide (x4_1 < (l0.length : Int)) = false := decide_eq_false c4
    clear c4
    obtain rfl := Option.some.inj H
    go_wp2
    go_ret
    exact ⟨_, er_, ra_ HO_3.out, bl0_⟩
mutual
def spec_l03Turn.j0 : Nat → Int → Int → Int → Option (Int × Int)
 | 0, _, _, _ => none
 | k + 1, x1, x237000, x237001 => spec_l03Turn.l0 k (Int.tmod x1 4) x237000 x237001
def spec_l03Turn.l0 : Nat → Int → Int → Int → Option (Int × Int)
 | 0, _, _, _ => none
 | k + 1, x5, x237000, x237001 => if x5 > 0 then (spec_l03Turn.l0 k (wrap64 (x5 - 1)) (wrap64 (-x237001)) x237000) else (some (x237000, x237001))
end
def spec_l03Turn.f (k : Nat) (a0_0 : Int) (a0_1 : Int) (a1 : Int) : Option (Int × Int) := if a1 ≥ 4 then (spec_l03Turn.j0 k a1 (wrap64 (-a0_0)) a0_1) else (spec_l03Turn.j0 k a1 a0_0 a0_1)
set_option maxHeartbeats 8000000 in
set_option maxRecDepth 100000 in
theorem spec_l03Turn.calls (k : Nat) (a0_0 : Int) (a0_1 : Int) (a1 : Int) (r1 : Int) (r2 : Int) (w : World) (h : spec_l03Turn.f k a0_0 a0_1 a1 = some (r1, r2)) :
  Calls Tryz.prog 69 #[.agg #[.int .i64 a0_0, .int .i64 a0_1], .int .i64 a1] w fun e w' => e = .returned (.agg #[.int .i64 r1, .int .i64 r2]) ∧ Below w.heap.size w w' := by
 have hu56 := Tryz.underlying56
 have HB := a0_ (Below.refl w.heap.size w)
 have H := h
 clear h
 unfold spec_l03Turn.f at H
 have HC3 := Aside0.mk H
 clear H
 go_enter Tryz.func69, Tryz.ntmps69
 go_upto_if 7 with (first | ((with_reducible refine gate_dst (N := 2) rfl ?_); refine bx_ (N := 2) (cs := #[.int .i64 a0_0, .int .i64 a0_1]) (t := 56) ?_; intro gb236 hg w4 hbox hb; have BK236 := a0_ (hbox); have GW236 := a0_ ((sz_ hg (bl0_) : w.heap.size ≤ gb236)); have GE236 := a0_ ((sz_ hg (bl0_) : w.heap.size ≤ gb236)); replace HB := a0_ (below_step (bl0_) hb); clear hb hbox hg) | ((with_reducible refine gate_dst (N := 4) rfl ?_); refine bx_ (N := 4) (cs := #[.int .i64 0, .int .i64 0]) (t := 56) ?_; intro gb237 hg w5 hbox hb; have BK237 := a0_ (hbox); have GW237 := a0_ ((sz_ hg (bl1_ GE236.out) : w.heap.size ≤ gb237)); have GE237 := a0_ ((sz_ hg (bl1_ GE236.out) : w.heap.size ≤ gb237)); replace HB := a0_ (below_step (bl1_ GE236.out) hb); have NB236_237 := a0_ ((nl_ hg BK236.out : gb236 ≠ gb237)); have NB237_236 := a0_ ((ng_ hg BK236.out : gb237 ≠ gb236)); replace BK236 := a0_ (bb_ BK236.out hb); clear hb hbox hg))
 (try simp only [Act.put, List.setIfInBounds_toArray, List.set_cons_zero, List.set_cons_succ])
 go_cut [] (fun wc => ∃ (kq : Nat) (x237000_2 : Int) (x237001_2 : Int), Aside0 (spec_l03Turn.j0 kq a1 x237000_2 x237001_2 = some (r1, r2)) ∧ Aside0 (kq ≤ k) ∧ Aside0 (wc.heap[gb236]? = some (.cells #[.int .i64 x237000_2, .int .i64 x237001_2] 56 (0, 0))) ∧ Aside0 (wc.heap[gb237]? = some (.cells #[.int .i64 0, .int .i64 0] 56 (0, 0))) ∧ Aside0 (Below w.heap.size w wc))
 case first =>
  have H := HC3.out
  clear HC3
  by_cases c6 : a1 ≥ 4
  ·rw [if_pos c6] at H
   have c6b0 : decide (4 ≤ a1) = true := decide_eq_true c6
   clear c6
   (first | rw [c6b0] | (simp only [i64_w, i32_w]; rw [c6b0]) | skip)
   have H' := Aside0.mk H
   clear H
   have hnb7 := NB236_237.out
   have hnc7 := NB237_236.out
   have hcz8_0 : w5.cell? ⟨gb236, 0, none⟩ = some (.int .i64 a0_0) := (blk_cell BK236.out 0).trans rfl
   have hcz8_1 : w5.cell? ⟨gb236, 1, none⟩ = some (.int .i64 a0_1) := (blk_cell BK236.out 1).trans rfl
   have hfz8_0 := blk_frozen BK236.out 0
   have hfz8_1 := blk_frozen BK236.out 1
   go_wp2
   go_meet
   case rel => exact ⟨_, (wrap64 (-a0_0)), (a0_1), H', ⟨by first | omega | exact Nat.le_refl _⟩, ⟨by (with_reducible repeat (first | refine blk_drewN ?_ _ | refine blk_drew ?_ | refine blk_alloc ?_ _)); refine blk_put (cs := #[.int .i64 (wrap64 (-a0_0)), .int .i64 a0_1]) ?_ 1 _ rfl; (with_reducible repeat (first | refine blk_drewN ?_ _ | refine blk_drew ?_ | refine blk_alloc ?_ _)); refine blk_put (cs := #[.int .i64 a0_0, .int .i64 a0_1]) ?_ 0 _ rfl; (with_reducible repeat (first | refine blk_drewN ?_ _ | refine blk_drew ?_ | refine blk_alloc ?_ _)); exact BK236.out⟩, ⟨bf_ BK237.out NB237_236.out⟩, ⟨bl2_ GE236.out GE237.out⟩⟩
  ·rw [if_neg c6] at H
   have c6b0 : decide (4 ≤ a1) = false := decide_eq_false c6
   clear c6
   (first | rw [c6b0] | (simp only [i64_w, i32_w]; rw [c6b0]) | skip)
   have H' := Aside0.mk H
   clear H
   go_wp2
   go_meet
   case rel => exact ⟨_, (a0_0), (a0_1), H', ⟨by first | omega | exact Nat.le_refl _⟩, ⟨bk_ BK236.out⟩, ⟨bk_ BK237.out⟩, ⟨bl2_ GE236.out GE237.out⟩⟩
 case rest =>
  clear HC3
  obtain ⟨kq, x237000_2, x237001_2, HA, HJ2, BK236, BK237, HB⟩ := hcut
  cases kq with
  | zero => exact absurd HA.out (by simp [spec_l03Turn.j0])
  | succ kj2 =>
   have H := HA.out
   clear HA
   simp only [spec_l03Turn.j0] at H
   have H' := Aside0.mk H
   clear H
   go_wp2
   go_loopg [5] kj2 (fun kq v5 w' => ∃ (x5_2 : Int) (x237000_2 : Int) (x237001_2 : Int), v5 = .int .i64 x5_2 ∧ Aside0 (spec_l03Turn.l0 kq x5_2 x237000_2 x237001_2 = some (r1, r2)) ∧ Aside0 (kq ≤ kj2) ∧ Aside0 (w'.heap[gb236]? = some (.cells #[.int .i64 x237000_2, .int .i64 x237001_2] 56 (0, 0))) ∧ Aside0 (w'.heap[gb237]? = some (.cells #[.int .i64 0, .int .i64 0] 56 (0, 0))) ∧ Aside0 (Below w.heap.size w w'))
   case atStart => exact ⟨(Int.tmod a1 4), (x237000_2), (x237001_2), rs_, H', ⟨Nat.le_refl _⟩, ⟨bk_ BK236.out⟩, ⟨bk_ BK237.out⟩, ⟨bl2_ GE236.out GE237.out⟩⟩
   case round =>
    clear H'
    obtain ⟨x5_2, x237000_2, x237001_2, rfl, HA, HK2, BK236, BK237, HB⟩ := hrel
    cases gk with
    | zero => exact absurd HA.out (by simp [spec_l03Turn.l0])
    | succ k2 =>
     have H := HA.out
     clear HA
     simp only [spec_l03Turn.l0] at H
     by_cases c9 : x5_2 > 0
     ·rw [if_pos c9] at H
      have c9b0 : decide (0 < x5_2) = true := decide_eq_true c9
      clear c9
      have H' := Aside0.mk H
      clear H
      have hnb10 := NB236_237.out
      have hnc10 := NB237_236.out
      have hcz11_0 : wr.cell? ⟨gb236, 0, none⟩ = some (.int .i64 x237000_2) := (blk_cell BK236.out 0).trans rfl
      have hcz11_1 : wr.cell? ⟨gb236, 1, none⟩ = some (.int .i64 x237001_2) := (blk_cell BK236.out 1).trans rfl
      have hfz11_0 := blk_frozen BK236.out 0
      have hfz11_1 := blk_frozen BK236.out 1
      go_wp2
      go_roundg k2
      case measure => have := HJ2.out; have := HK2.out; omega
      case rel => exact ⟨(wrap64 (x5_2 - 1)), (wrap64 (-x237001_2)), (x237000_2), rs_, H', ⟨by have := HJ2.out; have := HK2.out; omega⟩, ⟨by (with_reducible repeat (first | refine blk_drewN ?_ _ | refine blk_drew ?_ | refine blk_alloc ?_ _)); refine blk_put (cs := #[.int .i64 (wrap64 (-x237001_2)), .int .i64 x237001_2]) ?_ 1 _ rfl; (with_reducible repeat (first | refine blk_drewN ?_ _ | refine blk_drew ?_ | refine blk_alloc ?_ _)); refine blk_put (cs := #[.int .i64 x237000_2, .int .i64 x237001_2]) ?_ 0 _ rfl; (with_reducible repeat (first | refine blk_drewN ?_ _ | refine blk_drew ?_ | refine blk_alloc ?_ _)); exact BK236.out⟩, ⟨bf_ BK237.out NB237_236.out⟩, ⟨bl2_ GE236.out GE237.out⟩⟩
     ·rw [if_neg c9] at H
      have c9b0 : decide (0 < x5_2) = false := decide_eq_false c9
      clear c9
      simp only [Option.some.injEq, Prod.mk.injEq] at H
      obtain ⟨rfl, rfl⟩ := H
      have hnb12 := NB236_237.out
      have hnc12 := NB237_236.out
      have hcz13_0 : wr.cell? ⟨gb236, 0, none⟩ = some (.int .i64 x237000_2) := (blk_cell BK236.out 0).trans rfl
      have hcz13_1 : wr.cell? ⟨gb236, 1, none⟩ = some (.int .i64 x237001_2) := (blk_cell BK236.out 1).trans rfl
      have hfz13_0 := blk_frozen BK236.out 0
      have hfz13_1 := blk_frozen BK236.out 1
      have hcz14_0 : wr.cell? ⟨gb237, 0, none⟩ = some (.int .i64 0) := (blk_cell BK237.out 0).trans rfl
      have hcz14_1 : wr.cell? ⟨gb237, 1, none⟩ = some (.int .i64 0) := (blk_cell BK237.out 1).trans rfl
      have hfz14_0 := blk_frozen BK237.out 0
      have hfz14_1 := blk_frozen BK237.out 1
      go_wp2
      refine bodyPost_ret (results_cell_row rfl _ _ gb237 56 #[.int .i64 x237000_2, .int .i64 x237001_2] (0, 0) _ rfl (by (with_reducible repeat (first | refine blk_drewN ?_ _ | refine blk_drew ?_ | refine blk_alloc ?_ _)); refine blk_put (cs := #[.int .i64 x237000_2, .int .i64 0]) ?_ 1 _ rfl; (with_reducible repeat (first | refine blk_drewN ?_ _ | refine blk_drew ?_ | refine blk_alloc ?_ _)); refine blk_put (cs := #[.int .i64 0, .int .i64 0]) ?_ 0 _ rfl; (with_reducible repeat (first | refine blk_drewN ?_ _ | refine blk_drew ?_ | refine blk_alloc ?_ _)); exact BK237.out) Tryz.underlying56 rfl kr_) rfl ?_
      exact ⟨er_, bl2_ GE236.out GE237.out⟩
end Go.Proofs.YtmdjkmfocgelnaaGreatDoor.PFnAllNets
