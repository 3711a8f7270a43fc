/- Over the kit's printer by a driver of mine (hprint.py), with parts by hand: functions of the program as Lean functions, and that each call comes to exactly these answers. -/
import Derived.Test.YtopceddgiddhlaaDoorPFnRolledx0
import Derived.Test.YtopceddgiddhlaaDoorPFnRolledx4
namespace Go.Proofs.YtopceddgiddhlaaDoor.PFnRolled
open Go.RowKit Go.Proofs.YtopceddgiddhlaaDoorW.PrintWords Go.Proofs.YtopceddgiddhlaaDoorW.PrintLast Go.Proofs.YtopceddgiddhlaaDoorW.PrintMore
attribute [local go_sem] max2_int min2_int max_two min_two max_three min_three max_four min_four   -- for this text's walks alone
set_option linter.unusedVariables false
set_option linter.unusedSimpArgs false

/-! ### spec_l02Insert: function 81 -/
def spec_l02Insert.l0 : Nat → List (S78) → List (S78) → Bool → Int → Int → Int → Option ((List (S78)))
 | 0, _, _, _, _, _, _ => none
 | k + 1, x0, x5, x6, x7, x129000, x129001 => if x7 < (x0.length : Int) then (if x6 = true then (if 0 ≤ x7 then (if x5.length < 8796093022208 then (spec_l02Insert.l0 k x0 (x5 ++ [(⟨(rd_T78 x0 x7).f0, (rd_T78 x0 x7).f1⟩ : S78)]) x6 (wrap64 (x7 + 1)) x129000 x129001) else (none)) else (none)) else (if 0 ≤ x7 then ((spec_l02Less.f x129000 x129001 ((rd_T78 x0 x7).f0) ((rd_T78 x0 x7).f1)).bind fun t137 => (if t137 = true then (if x5.length < 8796093022208 then ((some (x5 ++ [(⟨x129000, x129001⟩ : S78)] : List (S78))).bind fun y138 => (if y138.length < 8796093022208 then (spec_l02Insert.l0 k x0 (y138 ++ [(⟨(rd_T78 x0 x7).f0, (rd_T78 x0 x7).f1⟩ : S78)]) true (wrap64 (x7 + 1)) x129000 x129001) else (none))) else (none)) else (if x5.length < 8796093022208 then (spec_l02Insert.l0 k x0 (x5 ++ [(⟨(rd_T78 x0 x7).f0, (rd_T78 x0 x7).f1⟩ : S78)]) x6 (wrap64 (x7 + 1)) x129000 x129001) else (none)))) else (none))) else (if x6 = true then (some x5) else (if x5.length < 8796093022208 then (some (x5 ++ [(⟨x129000, x129001⟩ : S78)])) else (none)))
def spec_l02Insert.f (k : Nat) (l0 : List (S78)) (a1_0 : Int) (a1_1 : Int) : Option ((List (S78))) := spec_l02Insert.l0 k l0 (([] : List (S78))) false 0 a1_0 a1_1
theorem spec_l02Insert.mono_l : ∀ k, (∀ y0 y1 y2 y3 y4 y5, LeO (spec_l02Insert.l0 k y0 y1 y2 y3 y4 y5) (spec_l02Insert.l0 (k + 1) y0 y1 y2 y3 y4 y5))
 | 0 => fun _ _ _ _ _ _ r h => by simp [spec_l02Insert.l0] at h
 | k + 1 => by
  have ih0 := spec_l02Insert.mono_l k
  ·intro y0 y1 y2 y3 y4 y5
   unfold spec_l02Insert.l0
   with_reducible (repeat' first | exact ih0 _ _ _ _ _ _ | exact LeO.refl _ | exact LeO.none _ | refine LeO.ite ?_ ?_ | refine LeO.bind ?_ (fun _ => ?_))
theorem spec_l02Insert.mono : ∀ a0 a1 a2 k, LeO (spec_l02Insert.f k a0 a1 a2) (spec_l02Insert.f (k + 1) a0 a1 a2) := by
 intro a0 a1 a2 k
 have ih0 := spec_l02Insert.mono_l k
 unfold spec_l02Insert.f
 with_reducible (repeat' first | exact ih0 _ _ _ _ _ _ | exact LeO.refl _ | exact LeO.none _ | refine LeO.ite ?_ ?_ | refine LeO.bind ?_ (fun _ => ?_))
def spec_l02Insert.T6 : Bool × List (List Nat × List Nat) := (true, [([], []), ([0], [0]), ([1], [1]), ([2], [2]), ([2], [2]), ([2], [2]), ([4, 5, 2], [2, 4, 5]), ([6, 2], [2, 6]), ([3, 7, 2, 2], [2, 3, 7]), ([2, 8], [2, 8])])
def spec_l02Insert.B6 : List Nat := [0, 1, 3, 7, 7, 7, 55, 119, 255, 511]
theorem spec_l02Insert.tab6 : rtab .any (opsOf Tryd.f81 6) = spec_l02Insert.T6 := by kernel_rfl
theorem spec_l02Insert.bits6 : waitsOk spec_l02Insert.T6.2 spec_l02Insert.B6 = true := by kernel_rfl
set_option maxHeartbeats 8000000 in
set_option maxRecDepth 100000 in
theorem spec_l02Insert.calls (k : Nat) (A0 : Option Addr) (c0 : Nat) (l0 : List (S78)) (a1_0 : Int) (a1_1 : Int) (r : List (S78)) (w : World) (hr0 : Kd.C k78 w A0 l0.length l0) (hc0 : l0.length ≤ c0) (h : spec_l02Insert.f k l0 a1_0 a1_1 = some r) :
  Calls Tryd.prog 81 #[.slice A0 l0.length c0, .agg #[.int .i64 a1_0, .int .i64 a1_1]] w fun e w' => ∃ v0_ : Value, e = .returned (v0_) ∧ Kd.R k78 78 w' w.heap.size (fun _ => True) v0_ r ∧ Below w.heap.size w w' := by
 have hu78 := Tryd.underlying78
 have HR0 := Aside0.mk hr0
 have HC0 := Aside0.mk hc0
 clear hr0 hc0
 have HB := a0_ (Below.refl w.heap.size w)
 have H : (spec_l02Insert.l0 k l0 (([] : List (S78))) false 0 a1_0 a1_1) = some r := h
 clear h
 obtain ⟨y129, hy129⟩ : ∃ y_ : List (S78), y_ = (([] : List (S78))) := ⟨_, rfl⟩
 replace H : (spec_l02Insert.l0 k l0 y129 false 0 a1_0 a1_1) = some r := hh_ hy129 H
 have Ny129 := Aside0.mk hy129
 clear hy129
 have H' := Aside0.mk H
 clear H
 go_enter Tryd.func81, Tryd.ntmps81
 go_wp2_with (first | ((with_reducible refine gate_dst (N := 3) rfl ?_); refine bx_ (N := 3) (cs := #[.int .i64 a1_0, .int .i64 a1_1]) (t := 78) ?_; intro gb128 hg w3 hbox hb; have BK128 := a0_ (hbox); have GW128 := a0_ ((sz_ hg (bl0_) : w.heap.size ≤ gb128)); have GE128 := a0_ ((sz_ hg (bl0_) : w.heap.size ≤ gb128)); replace HB := a0_ (below_step (bl0_) hb); clear hb hbox hg) | ((with_reducible refine gate_dst (N := 8) rfl ?_); refine Kd.R_lit k78 _ 78 ?hg (N := 8) ?hd (xs := ([] : List (S78))) (inner := []) (ok := fun _ => True) (okp := fun _ => True) ?hr ?hp (fun _ hk => hk) trivial (Below.refl _ _) (Nat.le_refl _) (by simp) ?_; (case hd => rfl); (case hg => rfl); (case hr => first | (go_simp; done) | (go_simp; rfl)); (case hp => exact (Reps.none _ _)); intro v130 w4 ho5 hb hg_ hnew_; clear hg_ hnew_; (first | rw [← Ny129.out] at ho5 | (simp only [Int.reduceToNat] at ho5; rw [← Ny129.out] at ho5)); have HO131 := a0_ (Kd.R_lower (Kd.R_newB ho5 (g := gb128) (o := .cells #[.int .i64 a1_0, .int .i64 a1_1] 78 (0, 0)) (bk_ BK128.out)) (below_size (bl1_ GE128.out))); replace BK128 := a0_ (bb_ BK128.out hb); replace HB := a0_ (below_step (bl1_ GE128.out) hb); clear hb ho5))
 go_loopg [5, 6, 7] k (fun kq v5 v6 v7 w' => ∃ (x5_1 : List (S78)) (x6_1 : Bool) (x7_1 : Int), v6 = .bool x6_1 ∧ v7 = .int .i64 x7_1 ∧ Aside0 (spec_l02Insert.l0 kq l0 x5_1 x6_1 x7_1 a1_0 a1_1 = some r) ∧ Aside0 (kq ≤ k) ∧ Aside0 (Kd.R k78 78 w' w.heap.size (fun k_ => k_ ≠ gb128) v5 x5_1) ∧ Aside0 (w'.heap[gb128]? = some (.cells #[.int .i64 a1_0, .int .i64 a1_1] 78 (0, 0))) ∧ Aside0 (Below w.heap.size w w'))
 case atStart => exact ⟨(y129), (false), (0), rs_, rs_, H', ⟨Nat.le_refl _⟩, ⟨by (with_reducible repeat (first | apply Kd.R_alloc | apply Kd.R_drewN | apply Kd.R_drew)); exact Kd.R_mono HO131.out (fun _ hk => hk.2)⟩, ⟨bk_ BK128.out⟩, ⟨bl1_ GE128.out⟩⟩
 case round =>
  clear H'
  try clear p2
  obtain ⟨x5_1, x6_1, x7_1, rfl, rfl, HA, HK1, HO_5, BK128, HB⟩ := hrel
  cases gk with
  | zero => exact absurd HA.out (by simp [spec_l02Insert.l0])
  | succ k1 =>
   have H := HA.out
   clear HA
   simp only [spec_l02Insert.l0] at H
   by_cases c6 : x7_1 < (l0.length : Int)
   ·rw [if_pos c6] at H
    have c6b0 : decide (x7_1 < (l0.length : Int)) = true := decide_eq_true c6
    clear c6
    by_cases c7 : x6_1 = true
    ·subst c7
     rw [if_pos rfl] at H
     by_cases c8 : 0 ≤ x7_1
     ·rw [if_pos c8] at H
      have c8b0 : decide (0 ≤ x7_1) = true := decide_eq_true c8
      clear c8
      by_cases c9 : x5_1.length < 8796093022208
      ·rw [if_pos c9] at H
       have LMc9 := Aside0.mk c9
       clear c9
       obtain ⟨y133, hy133⟩ : ∃ y_ : List (S78), y_ = (x5_1 ++ [(⟨(rd_T78 l0 x7_1).f0, (rd_T78 l0 x7_1).f1⟩ : S78)]) := ⟨_, rfl⟩
       replace H : (spec_l02Insert.l0 k1 l0 y133 true (wrap64 (x7_1 + 1)) a1_0 a1_1) = some r := hh_ hy133 H
       have Ny133 := Aside0.mk hy133
       clear hy133
       have H' := Aside0.mk H
       clear H
       try go_wp2
       replace HO_5 := a0_ (Kd.R_drew HO_5.out)
       replace BK128 := a0_ (blk_drew BK128.out)
       replace HB := a0_ (below_drew1 HB.out)
       refine start_ (n := 10) (S := fun w' => True) (ds := []) (mk_ 0 10) kr_ rfl rfl trivial (fun hHeld => ?_); refine with_tabW spec_l02Insert.tab6 spec_l02Insert.bits6 (fun HT_ HW_ => ?_)
       generalize wr.drew = w10 at HO_5 BK128 HB hHeld ⊢
       refine pu_ 0 (some 15) (mk_ 1 9) HT_ ?_
       refine pu_ 1 (some 16) (mk_ 2 8) HT_ ?_
       refine pu_ 2 (some 17) (mk_ 3 7) HT_ ?_
       refine pn_ 3 (some 18) (mk_ 4 6) HT_ ?_
       refine pn_ 4 (some 19) (mk_ 5 5) HT_ ?_
       refine pn_ 5 (some 20) (mk_ 6 4) HT_ ?_
       refine pn_ 6 (some 21) (mk_ 7 3) HT_ ?_
       refine pn_ 7 (some 22) (mk_ 8 2) HT_ ?_
       refine pn_ 8 (some 23) (mk_ 9 1) HT_ ?_
       refine pu_ 9 (some 24) (mk_ 10 0) HT_ ?_
       refine done_ (done_of HT_.out kr_) ?_
       have p132 : 0 ≤ (x7_1 : Int) := od_
       have q132 : x7_1 < (l0.length : Int) := od_
       obtain ⟨ad132, e132, hx132_0, hx132_1⟩ := at_T78 HR0.out x7_1 p132 q132
       cases e132
       replace hx132_0 := (HB.out.cell (World.block_lt_of_cell? w _ hx132_0)).trans hx132_0
       replace hx132_1 := (HB.out.cell (World.block_lt_of_cell? w _ hx132_1)).trans hx132_1
       replace p132 := eq_true p132
       replace q132 := eq_true q132
       try go_wp2_with (first | ((with_reducible refine gate_builtin (b := .append) (xs := #[.tmp 29, .tmp 34]) rfl ?_); at_builtin; refine Kd.R_append k78 (w0 := w) w.heap.size rfl (.tmp 29) (.tmp 34) 24 78 (.agg #[(.int .i64 0), (.int .i64 0)]) 16 rfl Tryd.underlying24 info78 rfl (by decide) (by omega) u5 x5_1 (⟨(rd_T78 l0 x7_1).f0, (rd_T78 l0 x7_1).f1⟩ : S78) [.int .i64 ((rd_T78 l0 x7_1).f0), .int .i64 ((rd_T78 l0 x7_1).f1)] (fun k_ => k_ ≠ gb128) (fun _ => False) rfl rfl ?aP (fun _ hk => hk.elim) ?aF ?aO ?aB ?aS ?aL ?_; (case aP => exact k78_mkM _ _ _ (⟨(rd_T78 l0 x7_1).f0, (rd_T78 l0 x7_1).f1⟩ : S78)); (case aB => exact (bl1_ GE128.out)); (case aF => exact (fun k_ hk => Kd.freshB (g := gb128) (o := .cells #[.int .i64 a1_0, .int .i64 a1_1] 78 (0, 0)) (bk_ BK128.out) k_ hk)); (case aO => exact (ra_ HO_5.out)); (case aS => exact (below_size (bl1_ GE128.out))); (case aL => have := LMc9.out; omega); intro v134 w11 ho hb hg hat; rw [← Ny133.out] at ho; replace BK128 := a0_ (blk_grown (g := gb128) (o := .cells #[.int .i64 a1_0, .int .i64 a1_1] 78 (0, 0)) (bk_ BK128.out) hg (Kd.R_away HO_5.out (fun _ hk => hk))); replace HB := a0_ (hb); have HO135 := a0_ (ho); clear HO_5; clear ho hb hg hat))
       go_roundg k1
       case measure => have := HK1.out; omega
       case rel => exact ⟨(y133), (true), (wrap64 (x7_1 + 1)), rs_, rs_, H', ⟨by have := HK1.out; omega⟩, ⟨ra_ HO135.out⟩, ⟨bk_ BK128.out⟩, ⟨bl1_ GE128.out⟩⟩
      ·rw [if_neg c9] at H
       exact absurd H (by simp)
     ·rw [if_neg c8] at H
      exact absurd H (by simp)
    ·replace c7 := Bool.eq_false_iff.mpr c7
     subst c7
     rw [if_neg (show ¬ (false = true) by decide)] at H
     by_cases c12 : 0 ≤ x7_1
     ·rw [if_pos c12] at H
      have c12b0 : decide (0 ≤ x7_1) = true := decide_eq_true c12
      clear c12
      obtain ⟨t137, A13, H⟩ := bs_ H
      by_cases c14 : t137 = true
      ·subst c14
       rw [if_pos rfl] at H
       by_cases c15 : x5_1.length < 8796093022208
       ·rw [if_pos c15] at H
        have LMc15 := Aside0.mk c15
        clear c15
        obtain ⟨y138, hy138⟩ : ∃ y_ : List (S78), y_ = (x5_1 ++ [(⟨a1_0, a1_1⟩ : S78)]) := ⟨_, rfl⟩
        replace H : (if y138.length < 8796093022208 then (spec_l02Insert.l0 k1 l0 (y138 ++ [(⟨(rd_T78 l0 x7_1).f0, (rd_T78 l0 x7_1).f1⟩ : S78)]) true (wrap64 (x7_1 + 1)) a1_0 a1_1) else (none)) = some r := hh_ hy138 H
        have Ny138 := Aside0.mk hy138
        clear hy138
        by_cases c16 : y138.length < 8796093022208
        ·rw [if_pos c16] at H
         have LMc16 := Aside0.mk c16
         clear c16
         obtain ⟨y142, hy142⟩ : ∃ y_ : List (S78), y_ = (y138 ++ [(⟨(rd_T78 l0 x7_1).f0, (rd_T78 l0 x7_1).f1⟩ : S78)]) := ⟨_, rfl⟩
         replace H : (spec_l02Insert.l0 k1 l0 y142 true (wrap64 (x7_1 + 1)) a1_0 a1_1) = some r := hh_ hy142 H
         have Ny142 := Aside0.mk hy142
         clear hy142
         have H' := Aside0.mk H
         clear H
         try go_wp2
         replace HO_5 := a0_ (Kd.R_drew HO_5.out)
         replace BK128 := a0_ (blk_drew BK128.out)
         replace HB := a0_ (below_drew1 HB.out)
         have p136 : 0 ≤ (x7_1 : Int) := od_
         have q136 : x7_1 < (l0.length : Int) := od_
         obtain ⟨ad136, e136, hx136_0, hx136_1⟩ := at_T78 HR0.out x7_1 p136 q136
         have hw136_1 := hx136_1
         have hw136_0 := hx136_0
         cases e136
         replace hx136_0 := (HB.out.cell (World.block_lt_of_cell? w _ hx136_0)).trans hx136_0
         replace hx136_1 := (HB.out.cell (World.block_lt_of_cell? w _ hx136_1)).trans hx136_1
         replace p136 := eq_true p136
         replace q136 := eq_true q136
         refine start_ (n := 10) (S := fun w' => w'.cell? ⟨gb128, 0, none⟩ = some (.int .i64 a1_0) ∧ w'.cell? ⟨gb128, 1, none⟩ = some (.int .i64 a1_1) ∧ w'.cell? (ad136.add ((x7_1).toNat * 2)) = some (.int .i64 ((rd_T78 l0 x7_1).f0)) ∧ w'.cell? ⟨(ad136.add ((x7_1).toNat * 2)).block, (ad136.add ((x7_1).toNat * 2)).off + 1, none⟩ = some (.int .i64 ((rd_T78 l0 x7_1).f1))) (ds := []) (mk_ 0 10) kr_ rfl rfl ⟨(blk_cell BK128.out 0).trans rfl, (blk_cell BK128.out 1).trans rfl, ((HB.out.cell (World.block_lt_of_cell? w _ hw136_0)).trans hw136_0), ((HB.out.cell (World.block_lt_of_cell? w _ hw136_1)).trans hw136_1)⟩ (fun hHeld => ?_); refine with_tabW spec_l02Insert.tab6 spec_l02Insert.bits6 (fun HT_ HW_ => ?_)
         generalize wr.drew = w17 at HO_5 BK128 HB hx136_0 hx136_1 hHeld ⊢
         refine pu_ 0 (some 15) (mk_ 1 9) HT_ ?_
         refine pu_ 1 (some 16) (mk_ 2 8) HT_ ?_
         refine pu_ 2 (some 17) (mk_ 3 7) HT_ ?_
         refine pu_ 4 (some 19) #[true, true, true, false, true, false, false, false, false, false] HT_ ?_
         refine pu_ 5 (some 20) #[true, true, true, false, true, true, false, false, false, false] HT_ ?_
         refine pu_ 6 (some 21) #[true, true, true, false, true, true, true, false, false, false] HT_ ?_
         refine tk_ 3 (some 18) (mk_ 7 3) HT_ HW_ hHeld (hy := .inl ⟨by rfl, by rintro w' ⟨s0, s1, s2, s3⟩; go_simp; with_reducible rfl⟩) ?_
         refine tk_ 7 (some 22) (mk_ 8 2) HT_ HW_ hHeld (hy := .inl ⟨by rfl, by rintro w' ⟨s0, s1, s2, s3⟩; go_simp; with_reducible rfl⟩) ?_
         refine one_ (i := 8) (N := some 23) (mk_ 9 1) rfl rfl (one_of HT_.out kr_) (by decide) (fun K hK => ?_)
         refine goes_ Tryd.func103 kr_ rfl #[.agg #[.int .i64 a1_0, .int .i64 a1_1], .agg #[.int .i64 ((rd_T78 l0 x7_1).f0), .int .i64 ((rd_T78 l0 x7_1).f1)]] (by rfl) rfl rfl ta_ ?_
         with_reducible refine (spec_l02Less.calls a1_0 a1_1 ((rd_T78 l0 x7_1).f0) ((rd_T78 l0 x7_1).f1) true _ A13.out).mono ?_
         rintro e w18 ⟨rfl, hb⟩
         refine ⟨_, rfl, ?_⟩
         replace HO_5 := a0_ (Kd.R_below (ra_ HO_5.out) hb)
         replace BK128 := a0_ (bb_ BK128.out hb)
         replace HB := a0_ (below_step (bl1_ GE128.out) hb)
         (try clear hb)
         (try clear hb2)
         (try clear hk)
         (try clear hi)
         refine hK.out _ _ ⟨(blk_cell BK128.out 0).trans rfl, (blk_cell BK128.out 1).trans rfl, ((HB.out.cell (World.block_lt_of_cell? w _ hw136_0)).trans hw136_0), ((HB.out.cell (World.block_lt_of_cell? w _ hw136_1)).trans hw136_1)⟩ (fun hHeld => ?_)
         clear hK K
         refine nm_ ?_
         refine pu_ 9 (some 24) (mk_ 10 0) HT_ ?_
         refine done_ (done_of HT_.out kr_) ?_
         have hcz19_0 : w18.cell? ⟨gb128, 0, none⟩ = some (.int .i64 a1_0) := (blk_cell BK128.out 0).trans rfl
         have hcz19_1 : w18.cell? ⟨gb128, 1, none⟩ = some (.int .i64 a1_1) := (blk_cell BK128.out 1).trans rfl
         have hfz19_0 := blk_frozen BK128.out 0
         have hfz19_1 := blk_frozen BK128.out 1
         try go_wp2_with (first | ((with_reducible refine gate_builtin (b := .append) (xs := #[.tmp 25, .tmp 27]) rfl ?_); at_builtin; refine Kd.R_append k78 (w0 := w) w.heap.size rfl (.tmp 25) (.tmp 27) 24 78 (.agg #[(.int .i64 0), (.int .i64 0)]) 16 rfl Tryd.underlying24 info78 rfl (by decide) (by omega) u5 x5_1 (⟨a1_0, a1_1⟩ : S78) [.int .i64 a1_0, .int .i64 a1_1] (fun k_ => k_ ≠ gb128) (fun _ => False) rfl rfl ?aP (fun _ hk => hk.elim) ?aF ?aO ?aB ?aS ?aL ?_; (case aP => exact k78_mkM _ _ _ (⟨a1_0, a1_1⟩ : S78)); (case aB => exact (bl1_ GE128.out)); (case aF => exact (fun k_ hk => Kd.freshB (g := gb128) (o := .cells #[.int .i64 a1_0, .int .i64 a1_1] 78 (0, 0)) (bk_ BK128.out) k_ hk)); (case aO => exact (ra_ HO_5.out)); (case aS => exact (below_size (bl1_ GE128.out))); (case aL => have := LMc15.out; omega); intro v139 w20 ho hb hg hat; rw [← Ny138.out] at ho; replace BK128 := a0_ (blk_grown (g := gb128) (o := .cells #[.int .i64 a1_0, .int .i64 a1_1] 78 (0, 0)) (bk_ BK128.out) hg (Kd.R_away HO_5.out (fun _ hk => hk))); replace HB := a0_ (hb); have HO140 := a0_ (ho); clear HO_5; clear ho hb hg hat; have p141 : 0 ≤ (x7_1 : Int) := od_; have q141 : x7_1 < (l0.length : Int) := od_; obtain ⟨ad141, e141, hx141_0, hx141_1⟩ := at_T78 HR0.out x7_1 p141 q141; obtain rfl : ad136 = ad141 := (by injection e141); replace hx141_0 := (HB.out.cell (World.block_lt_of_cell? w _ hx141_0)).trans hx141_0; replace hx141_1 := (HB.out.cell (World.block_lt_of_cell? w _ hx141_1)).trans hx141_1; replace p141 := eq_true p141; replace q141 := eq_true q141) | ((with_reducible refine gate_builtin (b := .append) (xs := #[.tmp 29, .tmp 34]) rfl ?_); at_builtin; refine Kd.R_append k78 (w0 := w) w.heap.size rfl (.tmp 29) (.tmp 34) 24 78 (.agg #[(.int .i64 0), (.int .i64 0)]) 16 rfl Tryd.underlying24 info78 rfl (by decide) (by omega) v139 y138 (⟨(rd_T78 l0 x7_1).f0, (rd_T78 l0 x7_1).f1⟩ : S78) [.int .i64 ((rd_T78 l0 x7_1).f0), .int .i64 ((rd_T78 l0 x7_1).f1)] (fun k_ => k_ ≠ gb128) (fun _ => False) rfl rfl ?aP (fun _ hk => hk.elim) ?aF ?aO ?aB ?aS ?aL ?_; (case aP => exact k78_mkM _ _ _ (⟨(rd_T78 l0 x7_1).f0, (rd_T78 l0 x7_1).f1⟩ : S78)); (case aB => exact (bl1_ GE128.out)); (case aF => exact (fun k_ hk => Kd.freshB (g := gb128) (o := .cells #[.int .i64 a1_0, .int .i64 a1_1] 78 (0, 0)) (bk_ BK128.out) k_ hk)); (case aO => exact (ra_ HO140.out)); (case aS => exact (below_size (bl1_ GE128.out))); (case aL => have := LMc16.out; omega); intro v143 w21 ho hb hg hat; rw [← Ny142.out] at ho; replace BK128 := a0_ (blk_grown (g := gb128) (o := .cells #[.int .i64 a1_0, .int .i64 a1_1] 78 (0, 0)) (bk_ BK128.out) hg (Kd.R_away HO140.out (fun _ hk => hk))); replace HB := a0_ (hb); have HO144 := a0_ (ho); clear HO140; clear ho hb hg hat))
         go_roundg k1
         case measure => have := HK1.out; omega
         case rel => exact ⟨(y142), (true), (wrap64 (x7_1 + 1)), rs_, rs_, H', ⟨by have := HK1.out; omega⟩, ⟨ra_ HO144.out⟩, ⟨bk_ BK128.out⟩, ⟨bl1_ GE128.out⟩⟩
        ·rw [if_neg c16] at H
         exact absurd H (by simp)
       ·rw [if_neg c15] at H
        exact absurd H (by simp)
      ·replace c14 := Bool.eq_false_iff.mpr c14
       subst c14
       rw [if_neg (show ¬ (false = true) by decide)] at H
       by_cases c22 : x5_1.length < 8796093022208
       ·rw [if_pos c22] at H
        have LMc22 := Aside0.mk c22
        clear c22
        obtain ⟨y146, hy146⟩ : ∃ y_ : List (S78), y_ = (x5_1 ++ [(⟨(rd_T78 l0 x7_1).f0, (rd_T78 l0 x7_1).f1⟩ : S78)]) := ⟨_, rfl⟩
        replace H : (spec_l02Insert.l0 k1 l0 y146 false (wrap64 (x7_1 + 1)) a1_0 a1_1) = some r := hh_ hy146 H
        have Ny146 := Aside0.mk hy146
        clear hy146
        have H' := Aside0.mk H
        clear H
        try go_wp2
        replace HO_5 := a0_ (Kd.R_drew HO_5.out)
        replace BK128 := a0_ (blk_drew BK128.out)
        replace HB := a0_ (below_drew1 HB.out)
        have p136 : 0 ≤ (x7_1 : Int) := od_
        have q136 : x7_1 < (l0.length : Int) := od_
        obtain ⟨ad136, e136, hx136_0, hx136_1⟩ := at_T78 HR0.out x7_1 p136 q136
        have hw136_1 := hx136_1
        have hw136_0 := hx136_0
        cases e136
        replace hx136_0 := (HB.out.cell (World.block_lt_of_cell? w _ hx136_0)).trans hx136_0
        replace hx136_1 := (HB.out.cell (World.block_lt_of_cell? w _ hx136_1)).trans hx136_1
        replace p136 := eq_true p136
        replace q136 := eq_true q136
        refine start_ (n := 10) (S := fun w' => w'.cell? ⟨gb128, 0, none⟩ = some (.int .i64 a1_0) ∧ w'.cell? ⟨gb128, 1, none⟩ = some (.int .i64 a1_1) ∧ w'.cell? (ad136.add ((x7_1).toNat * 2)) = some (.int .i64 ((rd_T78 l0 x7_1).f0)) ∧ w'.cell? ⟨(ad136.add ((x7_1).toNat * 2)).block, (ad136.add ((x7_1).toNat * 2)).off + 1, none⟩ = some (.int .i64 ((rd_T78 l0 x7_1).f1))) (ds := []) (mk_ 0 10) kr_ rfl rfl ⟨(blk_cell BK128.out 0).trans rfl, (blk_cell BK128.out 1).trans rfl, ((HB.out.cell (World.block_lt_of_cell? w _ hw136_0)).trans hw136_0), ((HB.out.cell (World.block_lt_of_cell? w _ hw136_1)).trans hw136_1)⟩ (fun hHeld => ?_); refine with_tabW spec_l02Insert.tab6 spec_l02Insert.bits6 (fun HT_ HW_ => ?_)
        generalize wr.drew = w23 at HO_5 BK128 HB hx136_0 hx136_1 hHeld ⊢
        refine pu_ 0 (some 15) (mk_ 1 9) HT_ ?_
        refine pu_ 1 (some 16) (mk_ 2 8) HT_ ?_
        refine pu_ 2 (some 17) (mk_ 3 7) HT_ ?_
        refine pu_ 4 (some 19) #[true, true, true, false, true, false, false, false, false, false] HT_ ?_
        refine pu_ 5 (some 20) #[true, true, true, false, true, true, false, false, false, false] HT_ ?_
        refine pu_ 6 (some 21) #[true, true, true, false, true, true, true, false, false, false] HT_ ?_
        refine tk_ 3 (some 18) (mk_ 7 3) HT_ HW_ hHeld (hy := .inl ⟨by rfl, by rintro w' ⟨s0, s1, s2, s3⟩; go_simp; with_reducible rfl⟩) ?_
        refine tk_ 7 (some 22) (mk_ 8 2) HT_ HW_ hHeld (hy := .inl ⟨by rfl, by rintro w' ⟨s0, s1, s2, s3⟩; go_simp; with_reducible rfl⟩) ?_
        refine one_ (i := 8) (N := some 23) (mk_ 9 1) rfl rfl (one_of HT_.out kr_) (by decide) (fun K hK => ?_)
        refine goes_ Tryd.func103 kr_ rfl #[.agg #[.int .i64 a1_0, .int .i64 a1_1], .agg #[.int .i64 ((rd_T78 l0 x7_1).f0), .int .i64 ((rd_T78 l0 x7_1).f1)]] (by rfl) rfl rfl ta_ ?_
        with_reducible refine (spec_l02Less.calls a1_0 a1_1 ((rd_T78 l0 x7_1).f0) ((rd_T78 l0 x7_1).f1) false _ A13.out).mono ?_
        rintro e w24 ⟨rfl, hb⟩
        refine ⟨_, rfl, ?_⟩
        replace HO_5 := a0_ (Kd.R_below (ra_ HO_5.out) hb)
        replace BK128 := a0_ (bb_ BK128.out hb)
        replace HB := a0_ (below_step (bl1_ GE128.out) hb)
        (try clear hb)
        (try clear hb2)
        (try clear hk)
        (try clear hi)
        refine hK.out _ _ ⟨(blk_cell BK128.out 0).trans rfl, (blk_cell BK128.out 1).trans rfl, ((HB.out.cell (World.block_lt_of_cell? w _ hw136_0)).trans hw136_0), ((HB.out.cell (World.block_lt_of_cell? w _ hw136_1)).trans hw136_1)⟩ (fun hHeld => ?_)
        clear hK K
        refine nm_ ?_
        refine pu_ 9 (some 24) (mk_ 10 0) HT_ ?_
        refine done_ (done_of HT_.out kr_) ?_
        have p145 : 0 ≤ (x7_1 : Int) := od_
        have q145 : x7_1 < (l0.length : Int) := od_
        obtain ⟨ad145, e145, hx145_0, hx145_1⟩ := at_T78 HR0.out x7_1 p145 q145
        obtain rfl : ad136 = ad145 := (by injection e145)
        replace hx145_0 := (HB.out.cell (World.block_lt_of_cell? w _ hx145_0)).trans hx145_0
        replace hx145_1 := (HB.out.cell (World.block_lt_of_cell? w _ hx145_1)).trans hx145_1
        replace p145 := eq_true p145
        replace q145 := eq_true q145
        try go_wp2_with (first | ((with_reducible refine gate_builtin (b := .append) (xs := #[.tmp 29, .tmp 34]) rfl ?_); at_builtin; refine Kd.R_append k78 (w0 := w) w.heap.size rfl (.tmp 29) (.tmp 34) 24 78 (.agg #[(.int .i64 0), (.int .i64 0)]) 16 rfl Tryd.underlying24 info78 rfl (by decide) (by omega) u5 x5_1 (⟨(rd_T78 l0 x7_1).f0, (rd_T78 l0 x7_1).f1⟩ : S78) [.int .i64 ((rd_T78 l0 x7_1).f0), .int .i64 ((rd_T78 l0 x7_1).f1)] (fun k_ => k_ ≠ gb128) (fun _ => False) rfl rfl ?aP (fun _ hk => hk.elim) ?aF ?aO ?aB ?aS ?aL ?_; (case aP => exact k78_mkM _ _ _ (⟨(rd_T78 l0 x7_1).f0, (rd_T78 l0 x7_1).f1⟩ : S78)); (case aB => exact (bl1_ GE128.out)); (case aF => exact (fun k_ hk => Kd.freshB (g := gb128) (o := .cells #[.int .i64 a1_0, .int .i64 a1_1] 78 (0, 0)) (bk_ BK128.out) k_ hk)); (case aO => exact (ra_ HO_5.out)); (case aS => exact (below_size (bl1_ GE128.out))); (case aL => have := LMc22.out; omega); intro v147 w25 ho hb hg hat; rw [← Ny146.out] at ho; replace BK128 := a0_ (blk_grown (g := gb128) (o := .cells #[.int .i64 a1_0, .int .i64 a1_1] 78 (0, 0)) (bk_ BK128.out) hg (Kd.R_away HO_5.out (fun _ hk => hk))); replace HB := a0_ (hb); have HO148 := a0_ (ho); clear HO_5; clear ho hb hg hat))
        go_roundg k1
        case measure => have := HK1.out; omega
        case rel => exact ⟨(y146), (false), (wrap64 (x7_1 + 1)), rs_, rs_, H', ⟨by have := HK1.out; omega⟩, ⟨ra_ HO148.out⟩, ⟨bk_ BK128.out⟩, ⟨bl1_ GE128.out⟩⟩
       ·rw [if_neg c22] at H
        exact absurd H (by simp)
     ·rw [if_neg c12] at H
      exact absurd H (by simp)
   ·rw [if_neg c6] at H
    have c6b0 : decide (x7_1 < (l0.length : Int)) = false := decide_eq_false c6
    clear c6
    by_cases c26 : x6_1 = true
    ·subst c26
     rw [if_pos rfl] at H
     obtain rfl := Option.some.inj H
     go_wp2
     go_ret
     exact ⟨_, er_, by (with_reducible repeat (first | apply Kd.R_alloc | apply Kd.R_drewN | apply Kd.R_drew)); exact Kd.R_mono HO_5.out (fun _ hk => trivial), bl1_ GE128.out⟩
    ·replace c26 := Bool.eq_false_iff.mpr c26
     subst c26
     rw [if_neg (show ¬ (false = true) by decide)] at H
     by_cases c27 : x5_1.length < 8796093022208
     ·rw [if_pos c27] at H
      have LMc27 := Aside0.mk c27
      clear c27
      obtain ⟨y149, hy149⟩ : ∃ y_ : List (S78), y_ = (x5_1 ++ [(⟨a1_0, a1_1⟩ : S78)]) := ⟨_, rfl⟩
      replace H : (some y149) = some r := hh_ hy149 H
      have Ny149 := Aside0.mk hy149
      clear hy149
      obtain rfl := Option.some.inj H
      have hcz28_0 : wr.cell? ⟨gb128, 0, none⟩ = some (.int .i64 a1_0) := (blk_cell BK128.out 0).trans rfl
      have hcz28_1 : wr.cell? ⟨gb128, 1, none⟩ = some (.int .i64 a1_1) := (blk_cell BK128.out 1).trans rfl
      have hfz28_0 := blk_frozen BK128.out 0
      have hfz28_1 := blk_frozen BK128.out 1
      go_wp2_with (first | ((with_reducible refine gate_builtin (b := .append) (xs := #[.tmp 38, .tmp 40]) rfl ?_); at_builtin; refine Kd.R_append k78 (w0 := w) w.heap.size rfl (.tmp 38) (.tmp 40) 24 78 (.agg #[(.int .i64 0), (.int .i64 0)]) 16 rfl Tryd.underlying24 info78 rfl (by decide) (by omega) u5 x5_1 (⟨a1_0, a1_1⟩ : S78) [.int .i64 a1_0, .int .i64 a1_1] (fun k_ => k_ ≠ gb128) (fun _ => False) rfl rfl ?aP (fun _ hk => hk.elim) ?aF ?aO ?aB ?aS ?aL ?_; (case aP => exact k78_mkM _ _ _ (⟨a1_0, a1_1⟩ : S78)); (case aB => exact (bl1_ GE128.out)); (case aF => exact (fun k_ hk => Kd.freshB (g := gb128) (o := .cells #[.int .i64 a1_0, .int .i64 a1_1] 78 (0, 0)) (bk_ BK128.out) k_ hk)); (case aO => exact (ra_ HO_5.out)); (case aS => exact (below_size (bl1_ GE128.out))); (case aL => have := LMc27.out; omega); intro v150 w29 ho hb hg hat; rw [← Ny149.out] at ho; replace BK128 := a0_ (blk_grown (g := gb128) (o := .cells #[.int .i64 a1_0, .int .i64 a1_1] 78 (0, 0)) (bk_ BK128.out) hg (Kd.R_away HO_5.out (fun _ hk => hk))); replace HB := a0_ (hb); have HO151 := a0_ (ho); clear HO_5; clear ho hb hg hat))
      go_ret
      exact ⟨_, er_, by (with_reducible repeat (first | apply Kd.R_alloc | apply Kd.R_drewN | apply Kd.R_drew)); exact Kd.R_mono HO151.out (fun _ hk => trivial), bl1_ GE128.out⟩
     ·rw [if_neg c27] at H
      exact absurd H (by simp)

/-! ### spec_l02Around: function 114 -/
def spec_l02Around.f (a0_0 : Int) (a0_1 : Int) : Option ((List (S78))) := some (([(⟨a0_0, wrap64 (a0_1 - 1)⟩ : S78), (⟨wrap64 (a0_0 - 1), a0_1⟩ : S78), (⟨wrap64 (a0_0 + 1), a0_1⟩ : S78), (⟨a0_0, wrap64 (a0_1 + 1)⟩ : S78)] : List (S78)))
set_option maxHeartbeats 8000000 in
set_option maxRecDepth 100000 in
theorem spec_l02Around.calls (a0_0 : Int) (a0_1 : Int) (r : List (S78)) (w : World) (h : spec_l02Around.f a0_0 a0_1 = some r) :
  Calls Tryd.prog 114 #[.agg #[.int .i64 a0_0, .int .i64 a0_1]] w fun e w' => ∃ v0_ : Value, e = .returned (v0_) ∧ Kd.R k78 78 w' w.heap.size (fun _ => True) v0_ r ∧ Below w.heap.size w w' := by
 have hu78 := Tryd.underlying78
 have HB := a0_ (Below.refl w.heap.size w)
 have H := h
 clear h
 unfold spec_l02Around.f at H
 obtain ⟨y153, hy153⟩ : ∃ y_ : List (S78), y_ = (([(⟨a0_0, wrap64 (a0_1 - 1)⟩ : S78), (⟨wrap64 (a0_0 - 1), a0_1⟩ : S78), (⟨wrap64 (a0_0 + 1), a0_1⟩ : S78), (⟨a0_0, wrap64 (a0_1 + 1)⟩ : S78)] : List (S78))) := ⟨_, rfl⟩
 replace H : (some y153) = some r := hh_ hy153 H
 have Ny153 := Aside0.mk hy153
 clear hy153
 obtain rfl := Option.some.inj H
 go_enter Tryd.func114, Tryd.ntmps114
 go_wp2_with (first | ((with_reducible refine gate_dst (N := 1) rfl ?_); refine bx_ (N := 1) (cs := #[.int .i64 a0_0, .int .i64 a0_1]) (t := 78) ?_; intro gb152 hg w2 hbox hb; have BK152 := a0_ (hbox); have GW152 := a0_ ((sz_ hg (bl0_) : w.heap.size ≤ gb152)); have GE152 := a0_ ((sz_ hg (bl0_) : w.heap.size ≤ gb152)); replace HB := a0_ (below_step (bl0_) hb); clear hb hbox hg; obtain ⟨hcz3_0, hcz3_1, hfz3_0, hfz3_1⟩ := bc2_ BK152.out) | ((with_reducible refine gate_dst (N := 27) rfl ?_); refine Kd.R_lit k78 _ 78 ?hg (N := 27) ?hd (xs := ([(⟨a0_0, wrap64 (a0_1 - 1)⟩ : S78), (⟨wrap64 (a0_0 - 1), a0_1⟩ : S78), (⟨wrap64 (a0_0 + 1), a0_1⟩ : S78), (⟨a0_0, wrap64 (a0_1 + 1)⟩ : S78)] : List (S78))) (inner := [.int .i64 a0_0, .int .i64 (wrap64 (a0_1 - 1)), .int .i64 (wrap64 (a0_0 - 1)), .int .i64 a0_1, .int .i64 (wrap64 (a0_0 + 1)), .int .i64 a0_1, .int .i64 a0_0, .int .i64 (wrap64 (a0_1 + 1))]) (ok := fun _ => True) (okp := fun _ => True) ?hr ?hp (fun _ hk => hk) trivial (Below.refl _ _) (Nat.le_refl _) (by simp) ?_; (case hd => rfl); (case hg => rfl); (case hr => first | (go_simp; done) | (go_simp; rfl)); (case hp => exact (Reps.c2 (show Kd.M k78 _ _ _ (⟨a0_0, wrap64 (a0_1 - 1)⟩ : S78) [.int .i64 a0_0, .int .i64 (wrap64 (a0_1 - 1))] from (k78_mkM _ _ _ (⟨a0_0, wrap64 (a0_1 - 1)⟩ : S78) )) (Reps.c2 (show Kd.M k78 _ _ _ (⟨wrap64 (a0_0 - 1), a0_1⟩ : S78) [.int .i64 (wrap64 (a0_0 - 1)), .int .i64 a0_1] from (k78_mkM _ _ _ (⟨wrap64 (a0_0 - 1), a0_1⟩ : S78) )) (Reps.c2 (show Kd.M k78 _ _ _ (⟨wrap64 (a0_0 + 1), a0_1⟩ : S78) [.int .i64 (wrap64 (a0_0 + 1)), .int .i64 a0_1] from (k78_mkM _ _ _ (⟨wrap64 (a0_0 + 1), a0_1⟩ : S78) )) (Reps.c2 (show Kd.M k78 _ _ _ (⟨a0_0, wrap64 (a0_1 + 1)⟩ : S78) [.int .i64 a0_0, .int .i64 (wrap64 (a0_1 + 1))] from (k78_mkM _ _ _ (⟨a0_0, wrap64 (a0_1 + 1)⟩ : S78) )) (Reps.none _ _)))))); intro v154 w4 ho5 hb hg_ hnew_; clear hg_ hnew_; (first | rw [← Ny153.out] at ho5 | (simp only [Int.reduceToNat] at ho5; rw [← Ny153.out] at ho5)); have HO155 := a0_ (Kd.R_lower (Kd.R_newB ho5 (g := gb152) (o := .cells #[.int .i64 a0_0, .int .i64 a0_1] 78 (0, 0)) (bk_ BK152.out)) (below_size (bl1_ GE152.out))); replace BK152 := a0_ (bb_ BK152.out hb); replace HB := a0_ (below_step (bl1_ GE152.out) hb); clear hb ho5))
 go_ret
 exact ⟨_, er_, by (with_reducible repeat (first | apply Kd.R_alloc | apply Kd.R_drewN | apply Kd.R_drew)); exact Kd.R_mono HO155.out (fun _ hk => trivial), bl1_ GE152.out⟩

/-! ### spec_l02Neighbours: function 80 -/
mutual
def spec_l02Neighbours.l0 : Nat → List (S78) → List (S78) → Int → Option ((List (S78)))
 | 0, _, _, _ => none
 | k + 1, x0, x3, x4 => if x4 < (x0.length : Int) then (if 0 ≤ x4 then ((spec_l02Around.f ((rd_T78 x0 x4).f0) ((rd_T78 x0 x4).f1)).bind fun t160 => (spec_l02Neighbours.l1 k x0 x3 x4 t160 0)) else (none)) else (some x3)
def spec_l02Neighbours.l1 : Nat → List (S78) → List (S78) → Int → List (S78) → Int → Option ((List (S78)))
 | 0, _, _, _, _, _ => none
 | k + 1, x0, x3, x4, x5, x6 => if x6 < 4 then (if 0 ≤ x6 then (if x6 < (x5.length : Int) then ((spec_l02Index.f k x0 ((rd_T78 x5 x6).f0) ((rd_T78 x5 x6).f1)).bind fun t164 => (if t164 < 0 then ((spec_l02Index.f k x3 ((rd_T78 x5 x6).f0) ((rd_T78 x5 x6).f1)).bind fun t166 => (if t166 < 0 then ((spec_l02Insert.f k x3 ((rd_T78 x5 x6).f0) ((rd_T78 x5 x6).f1)).bind fun t168 => (spec_l02Neighbours.l1 k x0 t168 x4 x5 (wrap64 (x6 + 1)))) else (spec_l02Neighbours.l1 k x0 x3 x4 x5 (wrap64 (x6 + 1))))) else (spec_l02Neighbours.l1 k x0 x3 x4 x5 (wrap64 (x6 + 1))))) else (none)) else (none)) else (spec_l02Neighbours.l0 k x0 x3 (wrap64 (x4 + 1)))
end
def spec_l02Neighbours.f (k : Nat) (l0 : List (S78)) : Option ((List (S78))) := spec_l02Neighbours.l0 k l0 (([] : List (S78))) 0
theorem spec_l02Neighbours.mono_l : ∀ k, (∀ y0 y1 y2, LeO (spec_l02Neighbours.l0 k y0 y1 y2) (spec_l02Neighbours.l0 (k + 1) y0 y1 y2)) ∧ (∀ y0 y1 y2 y3 y4, LeO (spec_l02Neighbours.l1 k y0 y1 y2 y3 y4) (spec_l02Neighbours.l1 (k + 1) y0 y1 y2 y3 y4))
 | 0 => ⟨fun _ _ _ r h => by simp [spec_l02Neighbours.l0] at h, fun _ _ _ _ _ r h => by simp [spec_l02Neighbours.l1] at h⟩
 | k + 1 => by
  obtain ⟨ih0, ih1⟩ := spec_l02Neighbours.mono_l k
  refine ⟨?_, ?_⟩
  ·intro y0 y1 y2
   unfold spec_l02Neighbours.l0
   with_reducible (repeat' first | exact ih0 _ _ _ | exact ih1 _ _ _ _ _ | exact spec_l02Index.mono _ _ _ _ | exact spec_l02Insert.mono _ _ _ _ | exact LeO.refl _ | exact LeO.none _ | refine LeO.ite ?_ ?_ | refine LeO.bind ?_ (fun _ => ?_))
  ·intro y0 y1 y2 y3 y4
   unfold spec_l02Neighbours.l1
   with_reducible (repeat' first | exact ih0 _ _ _ | exact ih1 _ _ _ _ _ | exact spec_l02Index.mono _ _ _ _ | exact spec_l02Insert.mono _ _ _ _ | exact LeO.refl _ | exact LeO.none _ | refine LeO.ite ?_ ?_ | refine LeO.bind ?_ (fun _ => ?_))
theorem spec_l02Neighbours.mono : ∀ a0 k, LeO (spec_l02Neighbours.f k a0) (spec_l02Neighbours.f (k + 1) a0) := by
 intro a0 k
 obtain ⟨ih0, ih1⟩ := spec_l02Neighbours.mono_l k
 unfold spec_l02Neighbours.f
 with_reducible (repeat' first | exact ih0 _ _ _ | exact ih1 _ _ _ _ _ | exact spec_l02Index.mono _ _ _ _ | exact spec_l02Insert.mono _ _ _ _ | exact LeO.refl _ | exact LeO.none _ | refine LeO.ite ?_ ?_ | refine LeO.bind ?_ (fun _ => ?_))
set_option maxHeartbeats 8000000 in
set_option maxRecDepth 100000 in
theorem spec_l02Neighbours.calls (k : Nat) (A0 : Option Addr) (c0 : Nat) (l0 : List (S78)) (r : List (S78)) (w : World) (hr0 : Kd.C k78 w A0 l0.length l0) (hc0 : l0.length ≤ c0) (h : spec_l02Neighbours.f k l0 = some r) :
  Calls Tryd.prog 80 #[.slice A0 l0.length c0] w fun e w' => ∃ v0_ : Value, e = .returned (v0_) ∧ Kd.R k78 78 w' w.heap.size (fun _ => True) v0_ r ∧ Below w.heap.size w w' := by
 have hu78 := Tryd.underlying78
 have HR0 := Aside0.mk hr0
 have HC0 := Aside0.mk hc0
 clear hr0 hc0
 have HB := a0_ (Below.refl w.heap.size w)
 have H : (spec_l02Neighbours.l0 k l0 (([] : List (S78))) 0) = some r := h
 clear h
 obtain ⟨y156, hy156⟩ : ∃ y_ : List (S78), y_ = (([] : List (S78))) := ⟨_, rfl⟩
 replace H : (spec_l02Neighbours.l0 k l0 y156 0) = some r := hh_ hy156 H
 have Ny156 := Aside0.mk hy156
 clear hy156
 have H' := Aside0.mk H
 clear H
 go_enter Tryd.func80, Tryd.ntmps80
 go_wp2_with (first | ((with_reducible refine gate_dst (N := 7) rfl ?_); refine Kd.R_lit k78 _ 78 ?hg (N := 7) ?hd (xs := ([] : List (S78))) (inner := []) (ok := fun _ => True) (okp := fun _ => True) ?hr ?hp (fun _ hk => hk) trivial (Below.refl _ _) (Nat.le_refl _) (by simp) ?_; (case hd => rfl); (case hg => rfl); (case hr => first | (go_simp; done) | (go_simp; rfl)); (case hp => exact (Reps.none _ _)); intro v157 w2 ho3 hb hg_ hnew_; clear hg_ hnew_; (first | rw [← Ny156.out] at ho3 | (simp only [Int.reduceToNat] at ho3; rw [← Ny156.out] at ho3)); have HO158 := a0_ (Kd.R_lower ho3 (below_size (bl0_))); replace HB := a0_ (below_step (bl0_) hb); clear hb ho3))
 go_loopg [3, 4] k (fun kq v3 v4 w' => ∃ (x3_1 : List (S78)) (x4_1 : Int), v4 = .int .i64 x4_1 ∧ Aside0 (spec_l02Neighbours.l0 kq l0 x3_1 x4_1 = some r) ∧ Aside0 (kq ≤ k) ∧ Aside0 (Kd.R k78 78 w' w.heap.size (fun _ => True) v3 x3_1) ∧ Aside0 (Below w.heap.size w w'))
 case atStart => exact ⟨(y156), (0), rs_, H', ⟨Nat.le_refl _⟩, ⟨ra_ HO158.out⟩, ⟨bl0_⟩⟩
 case round =>
  clear H'
  try clear p2
  obtain ⟨x3_1, x4_1, rfl, HA, HK1, HO_3, HB⟩ := hrel
  cases gk with
  | zero => exact absurd HA.out (by simp [spec_l02Neighbours.l0])
  | succ k1 =>
   have H := HA.out
   clear HA
   simp only [spec_l02Neighbours.l0] at H
   by_cases c4 : x4_1 < (l0.length : Int)
   ·rw [if_pos c4] at H
    have c4b0 : decide (x4_1 < (l0.length : Int)) = true := decide_eq_true c4
    clear c4
    by_cases c5 : 0 ≤ x4_1
    ·rw [if_pos c5] at H
     have c5b0 : decide (0 ≤ x4_1) = true := decide_eq_true c5
     clear c5
     obtain ⟨t160, A6, H⟩ := bs_ H
     have H' := Aside0.mk H
     clear H
     have p159 : 0 ≤ (x4_1 : Int) := od_
     have q159 : x4_1 < (l0.length : Int) := od_
     obtain ⟨ad159, e159, hx159_0, hx159_1⟩ := at_T78 HR0.out x4_1 p159 q159
     cases e159
     replace hx159_0 := (HB.out.cell (World.block_lt_of_cell? w _ hx159_0)).trans hx159_0
     replace hx159_1 := (HB.out.cell (World.block_lt_of_cell? w _ hx159_1)).trans hx159_1
     replace p159 := eq_true p159
     replace q159 := eq_true q159
     go_wp2_with (first | ((with_reducible refine gate_callee (f := 114) rfl ?_); refine goesL_ (some 18) rfl rfl Tryd.func114 kr_ rfl #[.agg #[.int .i64 ((rd_T78 l0 x4_1).f0), .int .i64 ((rd_T78 l0 x4_1).f1)]] rfl ta_ ?_; (with_reducible refine (spec_l02Around.calls ((rd_T78 l0 x4_1).f0) ((rd_T78 l0 x4_1).f1) t160 _ A6.out).mono ?_); rintro e w7 ⟨v161, rfl, ho0, hb⟩; refine ⟨_, rfl, ?_⟩; have HO162 := a0_ (Kd.R_lower (Kd.R_new' ho0 (Kd.R_lt (ra_ HO_3.out))) (below_size (bl0_))); replace HO_3 := a0_ (Kd.R_elder' (ra_ HO_3.out) (Kd.R_base ho0) hb); replace HB := a0_ (below_step (bl0_) hb); (try clear hb); (try clear hb2); (try clear hk); (try clear hi); (try clear ho0)))
     go_loopg [3, 6] k1 (fun kq v3 v6 w' => ∃ (x3_2 : List (S78)) (x6_2 : Int), v6 = .int .i64 x6_2 ∧ Aside0 (spec_l02Neighbours.l1 kq l0 x3_2 x4_1 t160 x6_2 = some r) ∧ Aside0 (kq ≤ k1) ∧ Aside0 (Kd.R k78 78 w' w.heap.size (fun k_ => some k_ ≠ (v161 : Value).ownBlock) v3 x3_2) ∧ Aside0 (Kd.R k78 78 w' w.heap.size (fun k_ => some k_ ≠ (v3 : Value).ownBlock) v161 t160) ∧ Aside0 (Below w.heap.size w w'))
     case atStart => exact ⟨(x3_1), (0), rs_, H', ⟨Nat.le_refl _⟩, ⟨by (with_reducible repeat (first | apply Kd.R_alloc | apply Kd.R_drewN | apply Kd.R_drew)); exact Kd.R_mono HO_3.out (fun _ hk => hk.2)⟩, ⟨by (with_reducible repeat (first | apply Kd.R_alloc | apply Kd.R_drewN | apply Kd.R_drew)); exact Kd.R_mono HO162.out (fun _ hk => hk.2)⟩, ⟨bl0_⟩⟩
     case round =>
      clear H'
      try clear c1
      try clear p1
      try clear q1
      try clear hx1
      try clear p2
      try clear c4
      try clear c4b0
      try clear c5
      try clear c5b0
      try clear hx159_0
      try clear hx159_1
      try clear p159
      try clear p2
      try clear q159
      obtain ⟨x3_2, x6_2, rfl, HA, HK2, HO_3, HO_5, HB⟩ := hrel
      cases gk with
      | zero => exact absurd HA.out (by simp [spec_l02Neighbours.l1])
      | succ k2 =>
       have H := HA.out
       clear HA
       simp only [spec_l02Neighbours.l1] at H
       by_cases c8 : x6_2 < 4
       ·rw [if_pos c8] at H
        have c8b0 : decide (x6_2 < 4) = true := decide_eq_true c8
        clear c8
        by_cases c9 : 0 ≤ x6_2
        ·rw [if_pos c9] at H
         have c9b0 : decide (0 ≤ x6_2) = true := decide_eq_true c9
         clear c9
         by_cases c10 : x6_2 < (t160.length : Int)
         ·rw [if_pos c10] at H
          have c10b0 : decide (x6_2 < (t160.length : Int)) = true := decide_eq_true c10
          clear c10
          obtain ⟨t164, A11, H⟩ := bs_ H
          by_cases c12 : t164 < 0
          ·rw [if_pos c12] at H
           have c12b0 : decide (t164 < 0) = true := decide_eq_true c12
           clear c12
           obtain ⟨t166, A13, H⟩ := bs_ H
           by_cases c14 : t166 < 0
           ·rw [if_pos c14] at H
            have c14b0 : decide (t166 < 0) = true := decide_eq_true c14
            clear c14
            obtain ⟨t168, A15, H⟩ := bs_ H
            have H' := Aside0.mk H
            clear H
            obtain ⟨Ao16, co16, eo16⟩ := Kd.R_slice HO_5.out
            subst eo16
            have p163 : 0 ≤ (x6_2 : Int) := od_
            have q163 : x6_2 < (t160.length : Int) := od_
            obtain ⟨ad163, e163, hx163_0, hx163_1⟩ := at_T78 (Kd.R_reads' HO_5.out).2.2 x6_2 p163 q163
            cases e163
            replace p163 := eq_true p163
            replace q163 := eq_true q163
            go_wp2_with (first | ((with_reducible refine gate_callee (f := 70) rfl ?_); refine goesL_ (some 28) rfl rfl Tryd.func70 kr_ rfl #[.slice (some ad159) l0.length c0, .agg #[.int .i64 ((rd_T78 t160 x6_2).f0), .int .i64 ((rd_T78 t160 x6_2).f1)]] rfl ta_ ?_; (with_reducible refine (spec_l02Index.calls k2 _ _ l0 ((rd_T78 t160 x6_2).f0) ((rd_T78 t160 x6_2).f1) t164 _ ?side1 ?side2 A11.out).mono ?_); (case side1 => exact ca_ (Kd.C_below HR0.out HB.out)); (case side2 => exact HC0.out); rintro e w17 ⟨rfl, hb⟩; refine ⟨_, rfl, ?_⟩; replace HO_3 := a0_ (Kd.R_below (ra_ HO_3.out) hb); replace HO_5 := a0_ (Kd.R_below (ra_ HO_5.out) hb); replace HB := a0_ (below_step (bl0_) hb); (try clear hb); (try clear hb2); (try clear hk); (try clear hi); have p165 : 0 ≤ (x6_2 : Int) := od_; have q165 : x6_2 < (t160.length : Int) := od_; obtain ⟨ad165, e165, hx165_0, hx165_1⟩ := at_T78 (Kd.R_reads' HO_5.out).2.2 x6_2 p165 q165; obtain rfl : ad163 = ad165 := (by injection e165); replace p165 := eq_true p165; replace q165 := eq_true q165; obtain ⟨Ao18, co18, eo18⟩ := Kd.R_slice HO_3.out; subst eo18) | (go_at_call 70; (with_reducible refine (spec_l02Index.calls k2 _ _ x3_2 ((rd_T78 t160 x6_2).f0) ((rd_T78 t160 x6_2).f1) t166 _ ?side1 ?side2 A13.out).mono ?_); (case side1 => exact ca_ (Kd.R_reads' HO_3.out).2.2); (case side2 => exact (Kd.R_reads' HO_3.out).2.1); rintro e w19 ⟨rfl, hb⟩; replace HO_3 := a0_ (Kd.R_below (ra_ HO_3.out) hb); replace HO_5 := a0_ (Kd.R_below (ra_ HO_5.out) hb); replace HB := a0_ (below_step (bl0_) hb); (try clear hb); (try clear hb2); (try clear hk); (try clear hi); have p167 : 0 ≤ (x6_2 : Int) := od_; have q167 : x6_2 < (t160.length : Int) := od_; obtain ⟨ad167, e167, hx167_0, hx167_1⟩ := at_T78 (Kd.R_reads' HO_5.out).2.2 x6_2 p167 q167; obtain rfl : ad163 = ad167 := (by injection e167); replace p167 := eq_true p167; replace q167 := eq_true q167) | ((with_reducible refine gate_callee (f := 81) rfl ?_); refine goesL_ (some 44) rfl rfl Tryd.func81 kr_ rfl #[.slice Ao18 x3_2.length co18, .agg #[.int .i64 ((rd_T78 t160 x6_2).f0), .int .i64 ((rd_T78 t160 x6_2).f1)]] rfl ta_ ?_; (with_reducible refine (spec_l02Insert.calls k2 _ _ x3_2 ((rd_T78 t160 x6_2).f0) ((rd_T78 t160 x6_2).f1) t168 _ ?side1 ?side2 A15.out).mono ?_); (case side1 => exact ca_ (Kd.R_reads' HO_3.out).2.2); (case side2 => exact (Kd.R_reads' HO_3.out).2.1); rintro e w20 ⟨v169, rfl, ho0, hb⟩; refine ⟨_, rfl, ?_⟩; have HO170 := a0_ (Kd.R_lower (Kd.R_new' (Kd.R_new' ho0 (Kd.R_lt (ra_ HO_3.out))) (Kd.R_lt (ra_ HO_5.out))) (below_size (bl0_))); replace HO_3 := a0_ (Kd.R_elder' (ra_ HO_3.out) (Kd.R_base ho0) hb); replace HO_5 := a0_ (Kd.R_elder' (ra_ HO_5.out) (Kd.R_base ho0) hb); replace HB := a0_ (below_step (bl0_) hb); (try clear hb); (try clear hb2); (try clear hk); (try clear hi); (try clear ho0)))
            go_roundg k2
            case measure => have := HK1.out; have := HK2.out; omega
            case rel => exact ⟨(t168), (wrap64 (x6_2 + 1)), rs_, H', ⟨by have := HK1.out; have := HK2.out; omega⟩, ⟨by (with_reducible repeat (first | apply Kd.R_alloc | apply Kd.R_drewN | apply Kd.R_drew)); exact Kd.R_mono HO170.out (fun _ hk => hk.2)⟩, ⟨by (with_reducible repeat (first | apply Kd.R_alloc | apply Kd.R_drewN | apply Kd.R_drew)); exact Kd.R_mono HO_5.out (fun _ hk => hk.2)⟩, ⟨bl0_⟩⟩
           ·rw [if_neg c14] at H
            have c14b0 : decide (t166 < 0) = false := decide_eq_false c14
            clear c14
            have H' := Aside0.mk H
            clear H
            obtain ⟨Ao21, co21, eo21⟩ := Kd.R_slice HO_5.out
            subst eo21
            have p163 : 0 ≤ (x6_2 : Int) := od_
            have q163 : x6_2 < (t160.length : Int) := od_
            obtain ⟨ad163, e163, hx163_0, hx163_1⟩ := at_T78 (Kd.R_reads' HO_5.out).2.2 x6_2 p163 q163
            cases e163
            replace p163 := eq_true p163
            replace q163 := eq_true q163
            go_wp2_with (first | ((with_reducible refine gate_callee (f := 70) rfl ?_); refine goesL_ (some 28) rfl rfl Tryd.func70 kr_ rfl #[.slice (some ad159) l0.length c0, .agg #[.int .i64 ((rd_T78 t160 x6_2).f0), .int .i64 ((rd_T78 t160 x6_2).f1)]] rfl ta_ ?_; (with_reducible refine (spec_l02Index.calls k2 _ _ l0 ((rd_T78 t160 x6_2).f0) ((rd_T78 t160 x6_2).f1) t164 _ ?side1 ?side2 A11.out).mono ?_); (case side1 => exact ca_ (Kd.C_below HR0.out HB.out)); (case side2 => exact HC0.out); rintro e w22 ⟨rfl, hb⟩; refine ⟨_, rfl, ?_⟩; replace HO_3 := a0_ (Kd.R_below (ra_ HO_3.out) hb); replace HO_5 := a0_ (Kd.R_below (ra_ HO_5.out) hb); replace HB := a0_ (below_step (bl0_) hb); (try clear hb); (try clear hb2); (try clear hk); (try clear hi); have p165 : 0 ≤ (x6_2 : Int) := od_; have q165 : x6_2 < (t160.length : Int) := od_; obtain ⟨ad165, e165, hx165_0, hx165_1⟩ := at_T78 (Kd.R_reads' HO_5.out).2.2 x6_2 p165 q165; obtain rfl : ad163 = ad165 := (by injection e165); replace p165 := eq_true p165; replace q165 := eq_true q165; obtain ⟨Ao23, co23, eo23⟩ := Kd.R_slice HO_3.out; subst eo23) | (go_at_call 70; (with_reducible refine (spec_l02Index.calls k2 _ _ x3_2 ((rd_T78 t160 x6_2).f0) ((rd_T78 t160 x6_2).f1) t166 _ ?side1 ?side2 A13.out).mono ?_); (case side1 => exact ca_ (Kd.R_reads' HO_3.out).2.2); (case side2 => exact (Kd.R_reads' HO_3.out).2.1); rintro e w24 ⟨rfl, hb⟩; replace HO_3 := a0_ (Kd.R_below (ra_ HO_3.out) hb); replace HO_5 := a0_ (Kd.R_below (ra_ HO_5.out) hb); replace HB := a0_ (below_step (bl0_) hb); (try clear hb); (try clear hb2); (try clear hk); (try clear hi)))
            go_roundg k2
            case measure => have := HK1.out; have := HK2.out; omega
            case rel => exact ⟨(x3_2), (wrap64 (x6_2 + 1)), rs_, H', ⟨by have := HK1.out; have := HK2.out; omega⟩, ⟨ra_ HO_3.out⟩, ⟨ra_ HO_5.out⟩, ⟨bl0_⟩⟩
          ·rw [if_neg c12] at H
           have c12b0 : decide (t164 < 0) = false := decide_eq_false c12
           clear c12
           have H' := Aside0.mk H
           clear H
           obtain ⟨Ao25, co25, eo25⟩ := Kd.R_slice HO_5.out
           subst eo25
           have p163 : 0 ≤ (x6_2 : Int) := od_
           have q163 : x6_2 < (t160.length : Int) := od_
           obtain ⟨ad163, e163, hx163_0, hx163_1⟩ := at_T78 (Kd.R_reads' HO_5.out).2.2 x6_2 p163 q163
           cases e163
           replace p163 := eq_true p163
           replace q163 := eq_true q163
           go_wp2_with (first | ((with_reducible refine gate_callee (f := 70) rfl ?_); refine goesL_ (some 28) rfl rfl Tryd.func70 kr_ rfl #[.slice (some ad159) l0.length c0, .agg #[.int .i64 ((rd_T78 t160 x6_2).f0), .int .i64 ((rd_T78 t160 x6_2).f1)]] rfl ta_ ?_; (with_reducible refine (spec_l02Index.calls k2 _ _ l0 ((rd_T78 t160 x6_2).f0) ((rd_T78 t160 x6_2).f1) t164 _ ?side1 ?side2 A11.out).mono ?_); (case side1 => exact ca_ (Kd.C_below HR0.out HB.out)); (case side2 => exact HC0.out); rintro e w26 ⟨rfl, hb⟩; refine ⟨_, rfl, ?_⟩; replace HO_3 := a0_ (Kd.R_below (ra_ HO_3.out) hb); replace HO_5 := a0_ (Kd.R_below (ra_ HO_5.out) hb); replace HB := a0_ (below_step (bl0_) hb); (try clear hb); (try clear hb2); (try clear hk); (try clear hi)))
           go_roundg k2
           case measure => have := HK1.out; have := HK2.out; omega
           case rel => exact ⟨(x3_2), (wrap64 (x6_2 + 1)), rs_, H', ⟨by have := HK1.out; have := HK2.out; omega⟩, ⟨ra_ HO_3.out⟩, ⟨ra_ HO_5.out⟩, ⟨bl0_⟩⟩
         ·rw [if_neg c10] at H
          exact absurd H (by simp)
        ·rw [if_neg c9] at H
         exact absurd H (by simp)
       ·rw [if_neg c8] at H
        have c8b0 : decide (x6_2 < 4) = false := decide_eq_false c8
        clear c8
        have H' := Aside0.mk H
        clear H
        go_wp2
        go_roundg k2
        case measure => have := HK1.out; have := HK2.out; omega
        case rel => exact ⟨(x3_2), (wrap64 (x4_1 + 1)), rs_, H', ⟨by have := HK1.out; have := HK2.out; omega⟩, ⟨by (with_reducible repeat (first | apply Kd.R_alloc | apply Kd.R_drewN | apply Kd.R_drew)); exact Kd.R_mono HO_3.out (fun _ hk => trivial)⟩, ⟨bl0_⟩⟩
    ·rw [if_neg c5] at H
     exact absurd H (by simp)
   ·rw [if_neg c4] at H
    have c4b0 : decide (x4_1 < (l0.length : Int)) = false := decide_eq_false c4
    clear c4
    obtain rfl := Option.some.inj H
    go_wp2
    go_ret
    exact ⟨_, er_, ra_ HO_3.out, bl0_⟩

end Go.Proofs.YtopceddgiddhlaaDoor.PFnRolled
