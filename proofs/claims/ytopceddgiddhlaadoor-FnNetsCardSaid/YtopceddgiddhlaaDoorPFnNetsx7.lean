/- Over the kit's printer by a driver of mine (hprint.py), with parts by hand: functions of the program as Lean functions, and that each call comes to exactly these answers. -/
import Derived.Test.YtopceddgiddhlaaDoorPFnNetsx0
import Derived.Test.YtopceddgiddhlaaDoorPFnNetsx6
namespace Go.Proofs.YtopceddgiddhlaaDoor.PFnNets
open Go.RowKit Go.Proofs.YtopceddgiddhlaaDoorW.PrintWords Go.Proofs.YtopceddgiddhlaaDoorW.PrintLast Go.Proofs.YtopceddgiddhlaaDoorW.PrintMore
attribute [local go_sem] max2_int min2_int max_two min_two max_three min_three max_four min_four   -- for this text's walks alone
set_option linter.unusedVariables false
set_option linter.unusedSimpArgs false

/-! ### spec_l02Insert: function 81 -/
def spec_l02Insert.l0 : Nat → List (S78) → List (S78) → Bool → Int → Int → Int → Option ((List (S78)))
 | 0, _, _, _, _, _, _ => none
 | k + 1, x0, x5, x6, x7, x189000, x189001 => if x7 < (x0.length : Int) then (if x6 = true then (if 0 ≤ x7 then (if x5.length < 8796093022208 then (spec_l02Insert.l0 k x0 (x5 ++ [(⟨(rd_T78 x0 x7).f0, (rd_T78 x0 x7).f1⟩ : S78)]) x6 (wrap64 (x7 + 1)) x189000 x189001) else (none)) else (none)) else (if 0 ≤ x7 then ((spec_l02Less.f x189000 x189001 ((rd_T78 x0 x7).f0) ((rd_T78 x0 x7).f1)).bind fun t197 => (if t197 = true then (if x5.length < 8796093022208 then ((some (x5 ++ [(⟨x189000, x189001⟩ : S78)] : List (S78))).bind fun y198 => (if y198.length < 8796093022208 then (spec_l02Insert.l0 k x0 (y198 ++ [(⟨(rd_T78 x0 x7).f0, (rd_T78 x0 x7).f1⟩ : S78)]) true (wrap64 (x7 + 1)) x189000 x189001) else (none))) else (none)) else (if x5.length < 8796093022208 then (spec_l02Insert.l0 k x0 (x5 ++ [(⟨(rd_T78 x0 x7).f0, (rd_T78 x0 x7).f1⟩ : S78)]) x6 (wrap64 (x7 + 1)) x189000 x189001) else (none)))) else (none))) else (if x6 = true then (some x5) else (if x5.length < 8796093022208 then (some (x5 ++ [(⟨x189000, x189001⟩ : S78)])) else (none)))
def spec_l02Insert.f (k : Nat) (l0 : List (S78)) (a1_0 : Int) (a1_1 : Int) : Option ((List (S78))) := spec_l02Insert.l0 k l0 (([] : List (S78))) false 0 a1_0 a1_1
theorem spec_l02Insert.mono_l : ∀ k, (∀ y0 y1 y2 y3 y4 y5, LeO (spec_l02Insert.l0 k y0 y1 y2 y3 y4 y5) (spec_l02Insert.l0 (k + 1) y0 y1 y2 y3 y4 y5))
 | 0 => fun _ _ _ _ _ _ r h => by simp [spec_l02Insert.l0] at h
 | k + 1 => by
  have ih0 := spec_l02Insert.mono_l k
  ·intro y0 y1 y2 y3 y4 y5
   unfold spec_l02Insert.l0
   with_reducible (repeat' first | exact ih0 _ _ _ _ _ _ | exact LeO.refl _ | exact LeO.none _ | refine LeO.ite ?_ ?_ | refine LeO.bind ?_ (fun _ => ?_))
theorem spec_l02Insert.mono : ∀ a0 a1 a2 k, LeO (spec_l02Insert.f k a0 a1 a2) (spec_l02Insert.f (k + 1) a0 a1 a2) := by
 intro a0 a1 a2 k
 have ih0 := spec_l02Insert.mono_l k
 unfold spec_l02Insert.f
 with_reducible (repeat' first | exact ih0 _ _ _ _ _ _ | exact LeO.refl _ | exact LeO.none _ | refine LeO.ite ?_ ?_ | refine LeO.bind ?_ (fun _ => ?_))
def spec_l02Insert.T6 : Bool × List (List Nat × List Nat) := (true, [([], []), ([0], [0]), ([1], [1]), ([2], [2]), ([2], [2]), ([2], [2]), ([4, 5, 2], [2, 4, 5]), ([6, 2], [2, 6]), ([3, 7, 2, 2], [2, 3, 7]), ([2, 8], [2, 8])])
def spec_l02Insert.B6 : List Nat := [0, 1, 3, 7, 7, 7, 55, 119, 255, 511]
theorem spec_l02Insert.tab6 : rtab .any (opsOf Tryd.f81 6) = spec_l02Insert.T6 := by kernel_rfl
theorem spec_l02Insert.bits6 : waitsOk spec_l02Insert.T6.2 spec_l02Insert.B6 = true := by kernel_rfl
set_option maxHeartbeats 8000000 in
set_option maxRecDepth 100000 in
theorem spec_l02Insert.calls (k : Nat) (A0 : Option Addr) (c0 : Nat) (l0 : List (S78)) (a1_0 : Int) (a1_1 : Int) (r : List (S78)) (w : World) (hr0 : Kd.C k78 w A0 l0.length l0) (hc0 : l0.length ≤ c0) (h : spec_l02Insert.f k l0 a1_0 a1_1 = some r) :
  Calls Tryd.prog 81 #[.slice A0 l0.length c0, .agg #[.int .i64 a1_0, .int .i64 a1_1]] w fun e w' => ∃ v0_ : Value, e = .returned (v0_) ∧ Kd.R k78 78 w' w.heap.size (fun _ => True) v0_ r ∧ Below w.heap.size w w' := by
 have hu78 := Tryd.underlying78
 have HR0 := Aside0.mk hr0
 have HC0 := Aside0.mk hc0
 clear hr0 hc0
 have HB := a0_ (Below.refl w.heap.size w)
 have H : (spec_l02Insert.l0 k l0 (([] : List (S78))) false 0 a1_0 a1_1) = some r := h
 clear h
 obtain ⟨y189, hy189⟩ : ∃ y_ : List (S78), y_ = (([] : List (S78))) := ⟨_, rfl⟩
 replace H : (spec_l02Insert.l0 k l0 y189 false 0 a1_0 a1_1) = some r := by first | (rw [hy189]; with_reducible exact H) | (have H2_ := (Option.bind_some _ _).symm.trans H; rw [hy189]; with_reducible exact H2_) | (have H2_ := (Option.bind_some _ _).symm.trans H; with_reducible exact H2_) | with_reducible exact H | (rw [hy189]; exact H) | exact H
 have Ny189 := Aside0.mk hy189
 clear hy189
 have H' := Aside0.mk H
 clear H
 go_enter Tryd.func81, Tryd.ntmps81
 go_wp2_with (first | ((with_reducible refine gate_dst (N := 3) rfl ?_); refine bx_ (N := 3) (cs := #[.int .i64 a1_0, .int .i64 a1_1]) (t := 78) ?_; intro gb188 hg w3 hbox hb; have BK188 := a0_ (hbox); have GW188 := a0_ ((sz_ hg (bl0_) : w.heap.size ≤ gb188)); have GE188 := a0_ ((sz_ hg (bl0_) : w.heap.size ≤ gb188)); replace HB := a0_ (below_step (bl0_) hb); clear hb hbox hg) | ((with_reducible refine gate_dst (N := 8) rfl ?_); refine Kd.R_lit k78 _ 78 ?hg (N := 8) ?hd (xs := ([] : List (S78))) (inner := []) (ok := fun _ => True) (okp := fun _ => True) ?hr ?hp (fun _ hk => hk) trivial (Below.refl _ _) (Nat.le_refl _) (by simp) ?_; (case hd => rfl); (case hg => rfl); (case hr => first | (go_simp; done) | (go_simp; rfl)); (case hp => exact (Reps.none _ _)); intro v190 w4 ho5 hb hg_ hnew_; clear hg_ hnew_; (first | rw [← Ny189.out] at ho5 | (simp only [Int.reduceToNat] at ho5; rw [← Ny189.out] at ho5)); have HO191 := a0_ (Kd.R_lower (Kd.R_newB ho5 (g := gb188) (o := .cells #[.int .i64 a1_0, .int .i64 a1_1] 78 (0, 0)) (bk_ BK188.out)) (below_size (bl1_ GE188.out))); replace BK188 := a0_ (bb_ BK188.out hb); replace HB := a0_ (below_step (bl1_ GE188.out) hb); clear hb ho5))
 go_loopg [5, 6, 7] k (fun kq v5 v6 v7 w' => ∃ (x5_1 : List (S78)) (x6_1 : Bool) (x7_1 : Int), v6 = .bool x6_1 ∧ v7 = .int .i64 x7_1 ∧ Aside0 (spec_l02Insert.l0 kq l0 x5_1 x6_1 x7_1 a1_0 a1_1 = some r) ∧ Aside0 (kq ≤ k) ∧ Aside0 (Kd.R k78 78 w' w.heap.size (fun k_ => k_ ≠ gb188) v5 x5_1) ∧ Aside0 (w'.heap[gb188]? = some (.cells #[.int .i64 a1_0, .int .i64 a1_1] 78 (0, 0))) ∧ Aside0 (Below w.heap.size w w'))
 case atStart => exact ⟨(y189), (false), (0), rs_, rs_, H', ⟨Nat.le_refl _⟩, ⟨by (with_reducible repeat (first | apply Kd.R_alloc | apply Kd.R_drewN | apply Kd.R_drew)); exact Kd.R_mono HO191.out (fun _ hk => hk.2)⟩, ⟨bk_ BK188.out⟩, ⟨bl1_ GE188.out⟩⟩
 case round =>
  clear H'
  try clear p2
  obtain ⟨x5_1, x6_1, x7_1, rfl, rfl, HA, HK1, HO_5, BK188, HB⟩ := hrel
  cases gk with
  | zero => exact absurd HA.out (by simp [spec_l02Insert.l0])
  | succ k1 =>
   have H := HA.out
   clear HA
   simp only [spec_l02Insert.l0] at H
   by_cases c6 : x7_1 < (l0.length : Int)
   ·rw [if_pos c6] at H
    have c6b0 : decide (x7_1 < (l0.length : Int)) = true := decide_eq_true c6
    clear c6
    by_cases c7 : x6_1 = true
    ·subst c7
     rw [if_pos rfl] at H
     by_cases c8 : 0 ≤ x7_1
     ·rw [if_pos c8] at H
      have c8b0 : decide (0 ≤ x7_1) = true := decide_eq_true c8
      clear c8
      by_cases c9 : x5_1.length < 8796093022208
      ·rw [if_pos c9] at H
       have LMc9 := Aside0.mk c9
       clear c9
       obtain ⟨y193, hy193⟩ : ∃ y_ : List (S78), y_ = (x5_1 ++ [(⟨(rd_T78 l0 x7_1).f0, (rd_T78 l0 x7_1).f1⟩ : S78)]) := ⟨_, rfl⟩
       replace H : (spec_l02Insert.l0 k1 l0 y193 true (wrap64 (x7_1 + 1)) a1_0 a1_1) = some r := by first | (rw [hy193]; with_reducible exact H) | (have H2_ := (Option.bind_some _ _).symm.trans H; rw [hy193]; with_reducible exact H2_) | (have H2_ := (Option.bind_some _ _).symm.trans H; with_reducible exact H2_) | with_reducible exact H | (rw [hy193]; exact H) | exact H
       have Ny193 := Aside0.mk hy193
       clear hy193
       have H' := Aside0.mk H
       clear H
       try go_wp2
       replace HO_5 := a0_ (Kd.R_drew HO_5.out)
       replace BK188 := a0_ (blk_drew BK188.out)
       replace HB := a0_ (below_drew1 HB.out)
       refine start_ (n := 10) (S := fun w' => True) (ds := []) (mk_ 0 10) kr_ rfl rfl trivial (fun hHeld => ?_); refine with_tabW spec_l02Insert.tab6 spec_l02Insert.bits6 (fun HT_ HW_ => ?_)
       generalize wr.drew = w10 at HO_5 BK188 HB hHeld ⊢
       refine pu_ 0 (some 15) (mk_ 1 9) HT_ ?_
       refine pu_ 1 (some 16) (mk_ 2 8) HT_ ?_
       refine pu_ 2 (some 17) (mk_ 3 7) HT_ ?_
       refine pn_ 3 (some 18) (mk_ 4 6) HT_ ?_
       refine pn_ 4 (some 19) (mk_ 5 5) HT_ ?_
       refine pn_ 5 (some 20) (mk_ 6 4) HT_ ?_
       refine pn_ 6 (some 21) (mk_ 7 3) HT_ ?_
       refine pn_ 7 (some 22) (mk_ 8 2) HT_ ?_
       refine pn_ 8 (some 23) (mk_ 9 1) HT_ ?_
       refine pu_ 9 (some 24) (mk_ 10 0) HT_ ?_
       refine done_ (done_of HT_.out kr_) ?_
       have p192 : 0 ≤ (x7_1 : Int) := od_
       have q192 : x7_1 < (l0.length : Int) := od_
       obtain ⟨ad192, e192, hx192_0, hx192_1⟩ := at_T78 HR0.out x7_1 p192 q192
       cases e192
       replace hx192_0 := (HB.out.cell (World.block_lt_of_cell? w _ hx192_0)).trans hx192_0
       replace hx192_1 := (HB.out.cell (World.block_lt_of_cell? w _ hx192_1)).trans hx192_1
       replace p192 := eq_true p192
       replace q192 := eq_true q192
       try go_wp2_with (first | ((with_reducible refine gate_builtin (b := .append) (xs := #[.tmp 29, .tmp 34]) rfl ?_); at_builtin; refine Kd.R_append k78 (w0 := w) w.heap.size rfl (.tmp 29) (.tmp 34) 24 78 (.agg #[(.int .i64 0), (.int .i64 0)]) 16 rfl Tryd.underlying24 info78 rfl (by decide) (by omega) u5 x5_1 (⟨(rd_T78 l0 x7_1).f0, (rd_T78 l0 x7_1).f1⟩ : S78) [.int .i64 ((rd_T78 l0 x7_1).f0), .int .i64 ((rd_T78 l0 x7_1).f1)] (fun k_ => k_ ≠ gb188) (fun _ => False) rfl rfl ?aP (fun _ hk => hk.elim) ?aF ?aO ?aB ?aS ?aL ?_; (case aP => exact k78_mkM _ _ _ (⟨(rd_T78 l0 x7_1).f0, (rd_T78 l0 x7_1).f1⟩ : S78)); (case aB => exact (bl1_ GE188.out)); (case aF => exact (fun k_ hk => Kd.freshB (g := gb188) (o := .cells #[.int .i64 a1_0, .int .i64 a1_1] 78 (0, 0)) (bk_ BK188.out) k_ hk)); (case aO => exact (ra_ HO_5.out)); (case aS => exact (below_size (bl1_ GE188.out))); (case aL => have := LMc9.out; omega); intro v194 w11 ho hb hg hat; rw [← Ny193.out] at ho; replace BK188 := a0_ (blk_grown (g := gb188) (o := .cells #[.int .i64 a1_0, .int .i64 a1_1] 78 (0, 0)) (bk_ BK188.out) hg (Kd.R_away HO_5.out (fun _ hk => hk))); replace HB := a0_ (hb); have HO195 := a0_ (ho); clear HO_5; clear ho hb hg hat))
       go_roundg k1
       case measure => have := HK1.out; omega
       case rel => exact ⟨(y193), (true), (wrap64 (x7_1 + 1)), rs_, rs_, H', ⟨by have := HK1.out; omega⟩, ⟨ra_ HO195.out⟩, ⟨bk_ BK188.out⟩, ⟨bl1_ GE188.out⟩⟩
      ·rw [if_neg c9] at H
       exact absurd H (by simp)
     ·rw [if_neg c8] at H
      exact absurd H (by simp)
    ·replace c7 := Bool.eq_false_iff.mpr c7
     subst c7
     rw [if_neg (show ¬ (false = true) by decide)] at H
     by_cases c12 : 0 ≤ x7_1
     ·rw [if_pos c12] at H
      have c12b0 : decide (0 ≤ x7_1) = true := decide_eq_true c12
      clear c12
      obtain ⟨t197, A13, H⟩ := bs_ H
      by_cases c14 : t197 = true
      ·subst c14
       rw [if_pos rfl] at H
       by_cases c15 : x5_1.length < 8796093022208
       ·rw [if_pos c15] at H
        have LMc15 := Aside0.mk c15
        clear c15
        obtain ⟨y198, hy198⟩ : ∃ y_ : List (S78), y_ = (x5_1 ++ [(⟨a1_0, a1_1⟩ : S78)]) := ⟨_, rfl⟩
        replace H : (if y198.length < 8796093022208 then (spec_l02Insert.l0 k1 l0 (y198 ++ [(⟨(rd_T78 l0 x7_1).f0, (rd_T78 l0 x7_1).f1⟩ : S78)]) true (wrap64 (x7_1 + 1)) a1_0 a1_1) else (none)) = some r := by first | (rw [hy198]; with_reducible exact H) | (have H2_ := (Option.bind_some _ _).symm.trans H; rw [hy198]; with_reducible exact H2_) | (have H2_ := (Option.bind_some _ _).symm.trans H; with_reducible exact H2_) | with_reducible exact H | (rw [hy198]; exact H) | exact H
        have Ny198 := Aside0.mk hy198
        clear hy198
        by_cases c16 : y198.length < 8796093022208
        ·rw [if_pos c16] at H
         have LMc16 := Aside0.mk c16
         clear c16
         obtain ⟨y202, hy202⟩ : ∃ y_ : List (S78), y_ = (y198 ++ [(⟨(rd_T78 l0 x7_1).f0, (rd_T78 l0 x7_1).f1⟩ : S78)]) := ⟨_, rfl⟩
         replace H : (spec_l02Insert.l0 k1 l0 y202 true (wrap64 (x7_1 + 1)) a1_0 a1_1) = some r := by first | (rw [hy202]; with_reducible exact H) | (have H2_ := (Option.bind_some _ _).symm.trans H; rw [hy202]; with_reducible exact H2_) | (have H2_ := (Option.bind_some _ _).symm.trans H; with_reducible exact H2_) | with_reducible exact H | (rw [hy202]; exact H) | exact H
         have Ny202 := Aside0.mk hy202
         clear hy202
         have H' := Aside0.mk H
         clear H
         try go_wp2
         replace HO_5 := a0_ (Kd.R_drew HO_5.out)
         replace BK188 := a0_ (blk_drew BK188.out)
         replace HB := a0_ (below_drew1 HB.out)
         have p196 : 0 ≤ (x7_1 : Int) := od_
         have q196 : x7_1 < (l0.length : Int) := od_
         obtain ⟨ad196, e196, hx196_0, hx196_1⟩ := at_T78 HR0.out x7_1 p196 q196
         have hw196_1 := hx196_1
         have hw196_0 := hx196_0
         cases e196
         replace hx196_0 := (HB.out.cell (World.block_lt_of_cell? w _ hx196_0)).trans hx196_0
         replace hx196_1 := (HB.out.cell (World.block_lt_of_cell? w _ hx196_1)).trans hx196_1
         replace p196 := eq_true p196
         replace q196 := eq_true q196
         refine start_ (n := 10) (S := fun w' => w'.cell? ⟨gb188, 0, none⟩ = some (.int .i64 a1_0) ∧ w'.cell? ⟨gb188, 1, none⟩ = some (.int .i64 a1_1) ∧ w'.cell? (ad196.add ((x7_1).toNat * 2)) = some (.int .i64 ((rd_T78 l0 x7_1).f0)) ∧ w'.cell? ⟨(ad196.add ((x7_1).toNat * 2)).block, (ad196.add ((x7_1).toNat * 2)).off + 1, none⟩ = some (.int .i64 ((rd_T78 l0 x7_1).f1))) (ds := []) (mk_ 0 10) kr_ rfl rfl ⟨(blk_cell BK188.out 0).trans rfl, (blk_cell BK188.out 1).trans rfl, ((HB.out.cell (World.block_lt_of_cell? w _ hw196_0)).trans hw196_0), ((HB.out.cell (World.block_lt_of_cell? w _ hw196_1)).trans hw196_1)⟩ (fun hHeld => ?_); refine with_tabW spec_l02Insert.tab6 spec_l02Insert.bits6 (fun HT_ HW_ => ?_)
         generalize wr.drew = w17 at HO_5 BK188 HB hx196_0 hx196_1 hHeld ⊢
         refine pu_ 0 (some 15) (mk_ 1 9) HT_ ?_
         refine pu_ 1 (some 16) (mk_ 2 8) HT_ ?_
         refine pu_ 2 (some 17) (mk_ 3 7) HT_ ?_
         refine pu_ 4 (some 19) #[true, true, true, false, true, false, false, false, false, false] HT_ ?_
         refine pu_ 5 (some 20) #[true, true, true, false, true, true, false, false, false, false] HT_ ?_
         refine pu_ 6 (some 21) #[true, true, true, false, true, true, true, false, false, false] HT_ ?_
         refine tk_ 3 (some 18) (mk_ 7 3) HT_ HW_ hHeld (hy := .inl ⟨by rfl, by rintro w' ⟨s0, s1, s2, s3⟩; go_simp; with_reducible rfl⟩) ?_
         refine tk_ 7 (some 22) (mk_ 8 2) HT_ HW_ hHeld (hy := .inl ⟨by rfl, by rintro w' ⟨s0, s1, s2, s3⟩; go_simp; with_reducible rfl⟩) ?_
         refine one_ (i := 8) (N := some 23) (mk_ 9 1) rfl rfl (one_of HT_.out kr_) (by decide) (fun K hK => ?_)
         refine goes_ Tryd.func103 kr_ rfl #[.agg #[.int .i64 a1_0, .int .i64 a1_1], .agg #[.int .i64 ((rd_T78 l0 x7_1).f0), .int .i64 ((rd_T78 l0 x7_1).f1)]] (by rfl) rfl rfl ta_ ?_
         with_reducible refine (spec_l02Less.calls a1_0 a1_1 ((rd_T78 l0 x7_1).f0) ((rd_T78 l0 x7_1).f1) true _ A13.out).mono ?_
         rintro e w18 ⟨rfl, hb⟩
         refine ⟨_, rfl, ?_⟩
         replace HO_5 := a0_ (Kd.R_below (ra_ HO_5.out) hb)
         replace BK188 := a0_ (bb_ BK188.out hb)
         replace HB := a0_ (below_step (bl1_ GE188.out) hb)
         (try clear hb)
         (try clear hb2)
         (try clear hk)
         (try clear hi)
         refine hK.out _ _ ⟨(blk_cell BK188.out 0).trans rfl, (blk_cell BK188.out 1).trans rfl, ((HB.out.cell (World.block_lt_of_cell? w _ hw196_0)).trans hw196_0), ((HB.out.cell (World.block_lt_of_cell? w _ hw196_1)).trans hw196_1)⟩ (fun hHeld => ?_)
         clear hK K
         refine nm_ ?_
         refine pu_ 9 (some 24) (mk_ 10 0) HT_ ?_
         refine done_ (done_of HT_.out kr_) ?_
         have hcz19_0 : w18.cell? ⟨gb188, 0, none⟩ = some (.int .i64 a1_0) := (blk_cell BK188.out 0).trans rfl
         have hcz19_1 : w18.cell? ⟨gb188, 1, none⟩ = some (.int .i64 a1_1) := (blk_cell BK188.out 1).trans rfl
         have hfz19_0 := blk_frozen BK188.out 0
         have hfz19_1 := blk_frozen BK188.out 1
         try go_wp2_with (first | ((with_reducible refine gate_builtin (b := .append) (xs := #[.tmp 25, .tmp 27]) rfl ?_); at_builtin; refine Kd.R_append k78 (w0 := w) w.heap.size rfl (.tmp 25) (.tmp 27) 24 78 (.agg #[(.int .i64 0), (.int .i64 0)]) 16 rfl Tryd.underlying24 info78 rfl (by decide) (by omega) u5 x5_1 (⟨a1_0, a1_1⟩ : S78) [.int .i64 a1_0, .int .i64 a1_1] (fun k_ => k_ ≠ gb188) (fun _ => False) rfl rfl ?aP (fun _ hk => hk.elim) ?aF ?aO ?aB ?aS ?aL ?_; (case aP => exact k78_mkM _ _ _ (⟨a1_0, a1_1⟩ : S78)); (case aB => exact (bl1_ GE188.out)); (case aF => exact (fun k_ hk => Kd.freshB (g := gb188) (o := .cells #[.int .i64 a1_0, .int .i64 a1_1] 78 (0, 0)) (bk_ BK188.out) k_ hk)); (case aO => exact (ra_ HO_5.out)); (case aS => exact (below_size (bl1_ GE188.out))); (case aL => have := LMc15.out; omega); intro v199 w20 ho hb hg hat; rw [← Ny198.out] at ho; replace BK188 := a0_ (blk_grown (g := gb188) (o := .cells #[.int .i64 a1_0, .int .i64 a1_1] 78 (0, 0)) (bk_ BK188.out) hg (Kd.R_away HO_5.out (fun _ hk => hk))); replace HB := a0_ (hb); have HO200 := a0_ (ho); clear HO_5; clear ho hb hg hat; have p201 : 0 ≤ (x7_1 : Int) := od_; have q201 : x7_1 < (l0.length : Int) := od_; obtain ⟨ad201, e201, hx201_0, hx201_1⟩ := at_T78 HR0.out x7_1 p201 q201; obtain rfl : ad196 = ad201 := (by injection e201); replace hx201_0 := (HB.out.cell (World.block_lt_of_cell? w _ hx201_0)).trans hx201_0; replace hx201_1 := (HB.out.cell (World.block_lt_of_cell? w _ hx201_1)).trans hx201_1; replace p201 := eq_true p201; replace q201 := eq_true q201) | ((with_reducible refine gate_builtin (b := .append) (xs := #[.tmp 29, .tmp 34]) rfl ?_); at_builtin; refine Kd.R_append k78 (w0 := w) w.heap.size rfl (.tmp 29) (.tmp 34) 24 78 (.agg #[(.int .i64 0), (.int .i64 0)]) 16 rfl Tryd.underlying24 info78 rfl (by decide) (by omega) v199 y198 (⟨(rd_T78 l0 x7_1).f0, (rd_T78 l0 x7_1).f1⟩ : S78) [.int .i64 ((rd_T78 l0 x7_1).f0), .int .i64 ((rd_T78 l0 x7_1).f1)] (fun k_ => k_ ≠ gb188) (fun _ => False) rfl rfl ?aP (fun _ hk => hk.elim) ?aF ?aO ?aB ?aS ?aL ?_; (case aP => exact k78_mkM _ _ _ (⟨(rd_T78 l0 x7_1).f0, (rd_T78 l0 x7_1).f1⟩ : S78)); (case aB => exact (bl1_ GE188.out)); (case aF => exact (fun k_ hk => Kd.freshB (g := gb188) (o := .cells #[.int .i64 a1_0, .int .i64 a1_1] 78 (0, 0)) (bk_ BK188.out) k_ hk)); (case aO => exact (ra_ HO200.out)); (case aS => exact (below_size (bl1_ GE188.out))); (case aL => have := LMc16.out; omega); intro v203 w21 ho hb hg hat; rw [← Ny202.out] at ho; replace BK188 := a0_ (blk_grown (g := gb188) (o := .cells #[.int .i64 a1_0, .int .i64 a1_1] 78 (0, 0)) (bk_ BK188.out) hg (Kd.R_away HO200.out (fun _ hk => hk))); replace HB := a0_ (hb); have HO204 := a0_ (ho); clear HO200; clear ho hb hg hat))
         go_roundg k1
         case measure => have := HK1.out; omega
         case rel => exact ⟨(y202), (true), (wrap64 (x7_1 + 1)), rs_, rs_, H', ⟨by have := HK1.out; omega⟩, ⟨ra_ HO204.out⟩, ⟨bk_ BK188.out⟩, ⟨bl1_ GE188.out⟩⟩
        ·rw [if_neg c16] at H
         exact absurd H (by simp)
       ·rw [if_neg c15] at H
        exact absurd H (by simp)
      ·replace c14 := Bool.eq_false_iff.mpr c14
       subst c14
       rw [if_neg (show ¬ (false = true) by decide)] at H
       by_cases c22 : x5_1.length < 8796093022208
       ·rw [if_pos c22] at H
        have LMc22 := Aside0.mk c22
        clear c22
        obtain ⟨y206, hy206⟩ : ∃ y_ : List (S78), y_ = (x5_1 ++ [(⟨(rd_T78 l0 x7_1).f0, (rd_T78 l0 x7_1).f1⟩ : S78)]) := ⟨_, rfl⟩
        replace H : (spec_l02Insert.l0 k1 l0 y206 false (wrap64 (x7_1 + 1)) a1_0 a1_1) = some r := by first | (rw [hy206]; with_reducible exact H) | (have H2_ := (Option.bind_some _ _).symm.trans H; rw [hy206]; with_reducible exact H2_) | (have H2_ := (Option.bind_some _ _).symm.trans H; with_reducible exact H2_) | with_reducible exact H | (rw [hy206]; exact H) | exact H
        have Ny206 := Aside0.mk hy206
        clear hy206
        have H' := Aside0.mk H
        clear H
        try go_wp2
        replace HO_5 := a0_ (Kd.R_drew HO_5.out)
        replace BK188 := a0_ (blk_drew BK188.out)
        replace HB := a0_ (below_drew1 HB.out)
        have p196 : 0 ≤ (x7_1 : Int) := od_
        have q196 : x7_1 < (l0.length : Int) := od_
        obtain ⟨ad196, e196, hx196_0, hx196_1⟩ := at_T78 HR0.out x7_1 p196 q196
        have hw196_1 := hx196_1
        have hw196_0 := hx196_0
        cases e196
        replace hx196_0 := (HB.out.cell (World.block_lt_of_cell? w _ hx196_0)).trans hx196_0
        replace hx196_1 := (HB.out.cell (World.block_lt_of_cell? w _ hx196_1)).trans hx196_1
        replace p196 := eq_true p196
        replace q196 := eq_true q196
        refine start_ (n := 10) (S := fun w' => w'.cell? ⟨gb188, 0, none⟩ = some (.int .i64 a1_0) ∧ w'.cell? ⟨gb188, 1, none⟩ = some (.int .i64 a1_1) ∧ w'.cell? (ad196.add ((x7_1).toNat * 2)) = some (.int .i64 ((rd_T78 l0 x7_1).f0)) ∧ w'.cell? ⟨(ad196.add ((x7_1).toNat * 2)).block, (ad196.add ((x7_1).toNat * 2)).off + 1, none⟩ = some (.int .i64 ((rd_T78 l0 x7_1).f1))) (ds := []) (mk_ 0 10) kr_ rfl rfl ⟨(blk_cell BK188.out 0).trans rfl, (blk_cell BK188.out 1).trans rfl, ((HB.out.cell (World.block_lt_of_cell? w _ hw196_0)).trans hw196_0), ((HB.out.cell (World.block_lt_of_cell? w _ hw196_1)).trans hw196_1)⟩ (fun hHeld => ?_); refine with_tabW spec_l02Insert.tab6 spec_l02Insert.bits6 (fun HT_ HW_ => ?_)
        generalize wr.drew = w23 at HO_5 BK188 HB hx196_0 hx196_1 hHeld ⊢
        refine pu_ 0 (some 15) (mk_ 1 9) HT_ ?_
        refine pu_ 1 (some 16) (mk_ 2 8) HT_ ?_
        refine pu_ 2 (some 17) (mk_ 3 7) HT_ ?_
        refine pu_ 4 (some 19) #[true, true, true, false, true, false, false, false, false, false] HT_ ?_
        refine pu_ 5 (some 20) #[true, true, true, false, true, true, false, false, false, false] HT_ ?_
        refine pu_ 6 (some 21) #[true, true, true, false, true, true, true, false, false, false] HT_ ?_
        refine tk_ 3 (some 18) (mk_ 7 3) HT_ HW_ hHeld (hy := .inl ⟨by rfl, by rintro w' ⟨s0, s1, s2, s3⟩; go_simp; with_reducible rfl⟩) ?_
        refine tk_ 7 (some 22) (mk_ 8 2) HT_ HW_ hHeld (hy := .inl ⟨by rfl, by rintro w' ⟨s0, s1, s2, s3⟩; go_simp; with_reducible rfl⟩) ?_
        refine one_ (i := 8) (N := some 23) (mk_ 9 1) rfl rfl (one_of HT_.out kr_) (by decide) (fun K hK => ?_)
        refine goes_ Tryd.func103 kr_ rfl #[.agg #[.int .i64 a1_0, .int .i64 a1_1], .agg #[.int .i64 ((rd_T78 l0 x7_1).f0), .int .i64 ((rd_T78 l0 x7_1).f1)]] (by rfl) rfl rfl ta_ ?_
        with_reducible refine (spec_l02Less.calls a1_0 a1_1 ((rd_T78 l0 x7_1).f0) ((rd_T78 l0 x7_1).f1) false _ A13.out).mono ?_
        rintro e w24 ⟨rfl, hb⟩
        refine ⟨_, rfl, ?_⟩
        replace HO_5 := a0_ (Kd.R_below (ra_ HO_5.out) hb)
        replace BK188 := a0_ (bb_ BK188.out hb)
        replace HB := a0_ (below_step (bl1_ GE188.out) hb)
        (try clear hb)
        (try clear hb2)
        (try clear hk)
        (try clear hi)
        refine hK.out _ _ ⟨(blk_cell BK188.out 0).trans rfl, (blk_cell BK188.out 1).trans rfl, ((HB.out.cell (World.block_lt_of_cell? w _ hw196_0)).trans hw196_0), ((HB.out.cell (World.block_lt_of_cell? w _ hw196_1)).trans hw196_1)⟩ (fun hHeld => ?_)
        clear hK K
        refine nm_ ?_
        refine pu_ 9 (some 24) (mk_ 10 0) HT_ ?_
        refine done_ (done_of HT_.out kr_) ?_
        have p205 : 0 ≤ (x7_1 : Int) := od_
        have q205 : x7_1 < (l0.length : Int) := od_
        obtain ⟨ad205, e205, hx205_0, hx205_1⟩ := at_T78 HR0.out x7_1 p205 q205
        obtain rfl : ad196 = ad205 := (by injection e205)
        replace hx205_0 := (HB.out.cell (World.block_lt_of_cell? w _ hx205_0)).trans hx205_0
        replace hx205_1 := (HB.out.cell (World.block_lt_of_cell? w _ hx205_1)).trans hx205_1
        replace p205 := eq_true p205
        replace q205 := eq_true q205
        try go_wp2_with (first | ((with_reducible refine gate_builtin (b := .append) (xs := #[.tmp 29, .tmp 34]) rfl ?_); at_builtin; refine Kd.R_append k78 (w0 := w) w.heap.size rfl (.tmp 29) (.tmp 34) 24 78 (.agg #[(.int .i64 0), (.int .i64 0)]) 16 rfl Tryd.underlying24 info78 rfl (by decide) (by omega) u5 x5_1 (⟨(rd_T78 l0 x7_1).f0, (rd_T78 l0 x7_1).f1⟩ : S78) [.int .i64 ((rd_T78 l0 x7_1).f0), .int .i64 ((rd_T78 l0 x7_1).f1)] (fun k_ => k_ ≠ gb188) (fun _ => False) rfl rfl ?aP (fun _ hk => hk.elim) ?aF ?aO ?aB ?aS ?aL ?_; (case aP => exact k78_mkM _ _ _ (⟨(rd_T78 l0 x7_1).f0, (rd_T78 l0 x7_1).f1⟩ : S78)); (case aB => exact (bl1_ GE188.out)); (case aF => exact (fun k_ hk => Kd.freshB (g := gb188) (o := .cells #[.int .i64 a1_0, .int .i64 a1_1] 78 (0, 0)) (bk_ BK188.out) k_ hk)); (case aO => exact (ra_ HO_5.out)); (case aS => exact (below_size (bl1_ GE188.out))); (case aL => have := LMc22.out; omega); intro v207 w25 ho hb hg hat; rw [← Ny206.out] at ho; replace BK188 := a0_ (blk_grown (g := gb188) (o := .cells #[.int .i64 a1_0, .int .i64 a1_1] 78 (0, 0)) (bk_ BK188.out) hg (Kd.R_away HO_5.out (fun _ hk => hk))); replace HB := a0_ (hb); have HO208 := a0_ (ho); clear HO_5; clear ho hb hg hat))
        go_roundg k1
        case measure => have := HK1.out; omega
        case rel => exact ⟨(y206), (false), (wrap64 (x7_1 + 1)), rs_, rs_, H', ⟨by have := HK1.out; omega⟩, ⟨ra_ HO208.out⟩, ⟨bk_ BK188.out⟩, ⟨bl1_ GE188.out⟩⟩
       ·rw [if_neg c22] at H
        exact absurd H (by simp)
     ·rw [if_neg c12] at H
      exact absurd H (by simp)
   ·rw [if_neg c6] at H
    have c6b0 : decide (x7_1 < (l0.length : Int)) = false := decide_eq_false c6
    clear c6
    by_cases c26 : x6_1 = true
    ·subst c26
     rw [if_pos rfl] at H
     obtain rfl := Option.some.inj H
     go_wp2
     go_ret
     exact ⟨_, er_, by (with_reducible repeat (first | apply Kd.R_alloc | apply Kd.R_drewN | apply Kd.R_drew)); exact Kd.R_mono HO_5.out (fun _ hk => trivial), bl1_ GE188.out⟩
    ·replace c26 := Bool.eq_false_iff.mpr c26
     subst c26
     rw [if_neg (show ¬ (false = true) by decide)] at H
     by_cases c27 : x5_1.length < 8796093022208
     ·rw [if_pos c27] at H
      have LMc27 := Aside0.mk c27
      clear c27
      obtain ⟨y209, hy209⟩ : ∃ y_ : List (S78), y_ = (x5_1 ++ [(⟨a1_0, a1_1⟩ : S78)]) := ⟨_, rfl⟩
      replace H : (some y209) = some r := by first | (rw [hy209]; with_reducible exact H) | (have H2_ := (Option.bind_some _ _).symm.trans H; rw [hy209]; with_reducible exact H2_) | (have H2_ := (Option.bind_some _ _).symm.trans H; with_reducible exact H2_) | with_reducible exact H | (rw [hy209]; exact H) | exact H
      have Ny209 := Aside0.mk hy209
      clear hy209
      obtain rfl := Option.some.inj H
      have hcz28_0 : wr.cell? ⟨gb188, 0, none⟩ = some (.int .i64 a1_0) := (blk_cell BK188.out 0).trans rfl
      have hcz28_1 : wr.cell? ⟨gb188, 1, none⟩ = some (.int .i64 a1_1) := (blk_cell BK188.out 1).trans rfl
      have hfz28_0 := blk_frozen BK188.out 0
      have hfz28_1 := blk_frozen BK188.out 1
      go_wp2_with (first | ((with_reducible refine gate_builtin (b := .append) (xs := #[.tmp 38, .tmp 40]) rfl ?_); at_builtin; refine Kd.R_append k78 (w0 := w) w.heap.size rfl (.tmp 38) (.tmp 40) 24 78 (.agg #[(.int .i64 0), (.int .i64 0)]) 16 rfl Tryd.underlying24 info78 rfl (by decide) (by omega) u5 x5_1 (⟨a1_0, a1_1⟩ : S78) [.int .i64 a1_0, .int .i64 a1_1] (fun k_ => k_ ≠ gb188) (fun _ => False) rfl rfl ?aP (fun _ hk => hk.elim) ?aF ?aO ?aB ?aS ?aL ?_; (case aP => exact k78_mkM _ _ _ (⟨a1_0, a1_1⟩ : S78)); (case aB => exact (bl1_ GE188.out)); (case aF => exact (fun k_ hk => Kd.freshB (g := gb188) (o := .cells #[.int .i64 a1_0, .int .i64 a1_1] 78 (0, 0)) (bk_ BK188.out) k_ hk)); (case aO => exact (ra_ HO_5.out)); (case aS => exact (below_size (bl1_ GE188.out))); (case aL => have := LMc27.out; omega); intro v210 w29 ho hb hg hat; rw [← Ny209.out] at ho; replace BK188 := a0_ (blk_grown (g := gb188) (o := .cells #[.int .i64 a1_0, .int .i64 a1_1] 78 (0, 0)) (bk_ BK188.out) hg (Kd.R_away HO_5.out (fun _ hk => hk))); replace HB := a0_ (hb); have HO211 := a0_ (ho); clear HO_5; clear ho hb hg hat))
      go_ret
      exact ⟨_, er_, by (with_reducible repeat (first | apply Kd.R_alloc | apply Kd.R_drewN | apply Kd.R_drew)); exact Kd.R_mono HO211.out (fun _ hk => trivial), bl1_ GE188.out⟩
     ·rw [if_neg c27] at H
      exact absurd H (by simp)

/-! ### spec_l02Around: function 114 -/
def spec_l02Around.f (a0_0 : Int) (a0_1 : Int) : Option ((List (S78))) := some (([(⟨a0_0, wrap64 (a0_1 - 1)⟩ : S78), (⟨wrap64 (a0_0 - 1), a0_1⟩ : S78), (⟨wrap64 (a0_0 + 1), a0_1⟩ : S78), (⟨a0_0, wrap64 (a0_1 + 1)⟩ : S78)] : List (S78)))
set_option maxHeartbeats 8000000 in
set_option maxRecDepth 100000 in
theorem spec_l02Around.calls (a0_0 : Int) (a0_1 : Int) (r : List (S78)) (w : World) (h : spec_l02Around.f a0_0 a0_1 = some r) :
  Calls Tryd.prog 114 #[.agg #[.int .i64 a0_0, .int .i64 a0_1]] w fun e w' => ∃ v0_ : Value, e = .returned (v0_) ∧ Kd.R k78 78 w' w.heap.size (fun _ => True) v0_ r ∧ Below w.heap.size w w' := by
 have hu78 := Tryd.underlying78
 have HB := a0_ (Below.refl w.heap.size w)
 have H := h
 clear h
 unfold spec_l02Around.f at H
 obtain ⟨y213, hy213⟩ : ∃ y_ : List (S78), y_ = (([(⟨a0_0, wrap64 (a0_1 - 1)⟩ : S78), (⟨wrap64 (a0_0 - 1), a0_1⟩ : S78), (⟨wrap64 (a0_0 + 1), a0_1⟩ : S78), (⟨a0_0, wrap64 (a0_1 + 1)⟩ : S78)] : List (S78))) := ⟨_, rfl⟩
 replace H : (some y213) = some r := by first | (rw [hy213]; with_reducible exact H) | (have H2_ := (Option.bind_some _ _).symm.trans H; rw [hy213]; with_reducible exact H2_) | (have H2_ := (Option.bind_some _ _).symm.trans H; with_reducible exact H2_) | with_reducible exact H | (rw [hy213]; exact H) | exact H
 have Ny213 := Aside0.mk hy213
 clear hy213
 obtain rfl := Option.some.inj H
 go_enter Tryd.func114, Tryd.ntmps114
 go_wp2_with (first | ((with_reducible refine gate_dst (N := 1) rfl ?_); refine bx_ (N := 1) (cs := #[.int .i64 a0_0, .int .i64 a0_1]) (t := 78) ?_; intro gb212 hg w2 hbox hb; have BK212 := a0_ (hbox); have GW212 := a0_ ((sz_ hg (bl0_) : w.heap.size ≤ gb212)); have GE212 := a0_ ((sz_ hg (bl0_) : w.heap.size ≤ gb212)); replace HB := a0_ (below_step (bl0_) hb); clear hb hbox hg; obtain ⟨hcz3_0, hcz3_1, hfz3_0, hfz3_1⟩ := bc2_ BK212.out) | ((with_reducible refine gate_dst (N := 27) rfl ?_); refine Kd.R_lit k78 _ 78 ?hg (N := 27) ?hd (xs := ([(⟨a0_0, wrap64 (a0_1 - 1)⟩ : S78), (⟨wrap64 (a0_0 - 1), a0_1⟩ : S78), (⟨wrap64 (a0_0 + 1), a0_1⟩ : S78), (⟨a0_0, wrap64 (a0_1 + 1)⟩ : S78)] : List (S78))) (inner := [.int .i64 a0_0, .int .i64 (wrap64 (a0_1 - 1)), .int .i64 (wrap64 (a0_0 - 1)), .int .i64 a0_1, .int .i64 (wrap64 (a0_0 + 1)), .int .i64 a0_1, .int .i64 a0_0, .int .i64 (wrap64 (a0_1 + 1))]) (ok := fun _ => True) (okp := fun _ => True) ?hr ?hp (fun _ hk => hk) trivial (Below.refl _ _) (Nat.le_refl _) (by simp) ?_; (case hd => rfl); (case hg => rfl); (case hr => first | (go_simp; done) | (go_simp; rfl)); (case hp => exact (Reps.c2 (show Kd.M k78 _ _ _ (⟨a0_0, wrap64 (a0_1 - 1)⟩ : S78) [.int .i64 a0_0, .int .i64 (wrap64 (a0_1 - 1))] from (k78_mkM _ _ _ (⟨a0_0, wrap64 (a0_1 - 1)⟩ : S78) )) (Reps.c2 (show Kd.M k78 _ _ _ (⟨wrap64 (a0_0 - 1), a0_1⟩ : S78) [.int .i64 (wrap64 (a0_0 - 1)), .int .i64 a0_1] from (k78_mkM _ _ _ (⟨wrap64 (a0_0 - 1), a0_1⟩ : S78) )) (Reps.c2 (show Kd.M k78 _ _ _ (⟨wrap64 (a0_0 + 1), a0_1⟩ : S78) [.int .i64 (wrap64 (a0_0 + 1)), .int .i64 a0_1] from (k78_mkM _ _ _ (⟨wrap64 (a0_0 + 1), a0_1⟩ : S78) )) (Reps.c2 (show Kd.M k78 _ _ _ (⟨a0_0, wrap64 (a0_1 + 1)⟩ : S78) [.int .i64 a0_0, .int .i64 (wrap64 (a0_1 + 1))] from (k78_mkM _ _ _ (⟨a0_0, wrap64 (a0_1 + 1)⟩ : S78) )) (Reps.none _ _)))))); intro v214 w4 ho5 hb hg_ hnew_; clear hg_ hnew_; (first | rw [← Ny213.out] at ho5 | (simp only [Int.reduceToNat] at ho5; rw [← Ny213.out] at ho5)); have HO215 := a0_ (Kd.R_lower (Kd.R_newB ho5 (g := gb212) (o := .cells #[.int .i64 a0_0, .int .i64 a0_1] 78 (0, 0)) (bk_ BK212.out)) (below_size (bl1_ GE212.out))); replace BK212 := a0_ (bb_ BK212.out hb); replace HB := a0_ (below_step (bl1_ GE212.out) hb); clear hb ho5))
 go_ret
 exact ⟨_, er_, by (with_reducible repeat (first | apply Kd.R_alloc | apply Kd.R_drewN | apply Kd.R_drew)); exact Kd.R_mono HO215.out (fun _ hk => trivial), bl1_ GE212.out⟩

/-! ### spec_l02Neighbours: function 80 -/
mutual
def spec_l02Neighbours.l0 : Nat → List (S78) → List (S78) → Int → Option ((List (S78)))
 | 0, _, _, _ => none
 | k + 1, x0, x3, x4 => if x4 < (x0.length : Int) then (if 0 ≤ x4 then ((spec_l02Around.f ((rd_T78 x0 x4).f0) ((rd_T78 x0 x4).f1)).bind fun t220 => (spec_l02Neighbours.l1 k x0 x3 x4 t220 0)) else (none)) else (some x3)
def spec_l02Neighbours.l1 : Nat → List (S78) → List (S78) → Int → List (S78) → Int → Option ((List (S78)))
 | 0, _, _, _, _, _ => none
 | k + 1, x0, x3, x4, x5, x6 => if x6 < 4 then (if 0 ≤ x6 then (if x6 < (x5.length : Int) then ((spec_l02Index.f k x0 ((rd_T78 x5 x6).f0) ((rd_T78 x5 x6).f1)).bind fun t224 => (if t224 < 0 then ((spec_l02Index.f k x3 ((rd_T78 x5 x6).f0) ((rd_T78 x5 x6).f1)).bind fun t226 => (if t226 < 0 then ((spec_l02Insert.f k x3 ((rd_T78 x5 x6).f0) ((rd_T78 x5 x6).f1)).bind fun t228 => (spec_l02Neighbours.l1 k x0 t228 x4 x5 (wrap64 (x6 + 1)))) else (spec_l02Neighbours.l1 k x0 x3 x4 x5 (wrap64 (x6 + 1))))) else (spec_l02Neighbours.l1 k x0 x3 x4 x5 (wrap64 (x6 + 1))))) else (none)) else (none)) else (spec_l02Neighbours.l0 k x0 x3 (wrap64 (x4 + 1)))
end
def spec_l02Neighbours.f (k : Nat) (l0 : List (S78)) : Option ((List (S78))) := spec_l02Neighbours.l0 k l0 (([] : List (S78))) 0
theorem spec_l02Neighbours.mono_l : ∀ k, (∀ y0 y1 y2, LeO (spec_l02Neighbours.l0 k y0 y1 y2) (spec_l02Neighbours.l0 (k + 1) y0 y1 y2)) ∧ (∀ y0 y1 y2 y3 y4, LeO (spec_l02Neighbours.l1 k y0 y1 y2 y3 y4) (spec_l02Neighbours.l1 (k + 1) y0 y1 y2 y3 y4))
 | 0 => ⟨fun _ _ _ r h => by simp [spec_l02Neighbours.l0] at h, fun _ _ _ _ _ r h => by simp [spec_l02Neighbours.l1] at h⟩
 | k + 1 => by
  obtain ⟨ih0, ih1⟩ := spec_l02Neighbours.mono_l k
  refine ⟨?_, ?_⟩
  ·intro y0 y1 y2
   unfold spec_l02Neighbours.l0
   with_reducible (repeat' first | exact ih0 _ _ _ | exact ih1 _ _ _ _ _ | exact spec_l02Index.mono _ _ _ _ | exact spec_l02Insert.mono _ _ _ _ | exact LeO.refl _ | exact LeO.none _ | refine LeO.ite ?_ ?_ | refine LeO.bind ?_ (fun _ => ?_))
  ·intro y0 y1 y2 y3 y4
   unfold spec_l02Neighbours.l1
   with_reducible (repeat' first | exact ih0 _ _ _ | exact ih1 _ _ _ _ _ | exact spec_l02Index.mono _ _ _ _ | exact spec_l02Insert.mono _ _ _ _ | exact LeO.refl _ | exact LeO.none _ | refine LeO.ite ?_ ?_ | refine LeO.bind ?_ (fun _ => ?_))
theorem spec_l02Neighbours.mono : ∀ a0 k, LeO (spec_l02Neighbours.f k a0) (spec_l02Neighbours.f (k + 1) a0) := by
 intro a0 k
 obtain ⟨ih0, ih1⟩ := spec_l02Neighbours.mono_l k
 unfold spec_l02Neighbours.f
 with_reducible (repeat' first | exact ih0 _ _ _ | exact ih1 _ _ _ _ _ | exact spec_l02Index.mono _ _ _ _ | exact spec_l02Insert.mono _ _ _ _ | exact LeO.refl _ | exact LeO.none _ | refine LeO.ite ?_ ?_ | refine LeO.bind ?_ (fun _ => ?_))
set_option maxHeartbeats 8000000 in
set_option maxRecDepth 100000 in
theorem spec_l02Neighbours.calls (k : Nat) (A0 : Option Addr) (c0 : Nat) (l0 : List (S78)) (r : List (S78)) (w : World) (hr0 : Kd.C k78 w A0 l0.length l0) (hc0 : l0.length ≤ c0) (h : spec_l02Neighbours.f k l0 = some r) :
  Calls Tryd.prog 80 #[.slice A0 l0.length c0] w fun e w' => ∃ v0_ : Value, e = .returned (v0_) ∧ Kd.R k78 78 w' w.heap.size (fun _ => True) v0_ r ∧ Below w.heap.size w w' := by
 have hu78 := Tryd.underlying78
 have HR0 := Aside0.mk hr0
 have HC0 := Aside0.mk hc0
 clear hr0 hc0
 have HB := a0_ (Below.refl w.heap.size w)
 have H : (spec_l02Neighbours.l0 k l0 (([] : List (S78))) 0) = some r := h
 clear h
 obtain ⟨y216, hy216⟩ : ∃ y_ : List (S78), y_ = (([] : List (S78))) := ⟨_, rfl⟩
 replace H : (spec_l02Neighbours.l0 k l0 y216 0) = some r := by first | (rw [hy216]; with_reducible exact H) | (have H2_ := (Option.bind_some _ _).symm.trans H; rw [hy216]; with_reducible exact H2_) | (have H2_ := (Option.bind_some _ _).symm.trans H; with_reducible exact H2_) | with_reducible exact H | (rw [hy216]; exact H) | exact H
 have Ny216 := Aside0.mk hy216
 clear hy216
 have H' := Aside0.mk H
 clear H
 go_enter Tryd.func80, Tryd.ntmps80
 go_wp2_with (first | ((with_reducible refine gate_dst (N := 7) rfl ?_); refine Kd.R_lit k78 _ 78 ?hg (N := 7) ?hd (xs := ([] : List (S78))) (inner := []) (ok := fun _ => True) (okp := fun _ => True) ?hr ?hp (fun _ hk => hk) trivial (Below.refl _ _) (Nat.le_refl _) (by simp) ?_; (case hd => rfl); (case hg => rfl); (case hr => first | (go_simp; done) | (go_simp; rfl)); (case hp => exact (Reps.none _ _)); intro v217 w2 ho3 hb hg_ hnew_; clear hg_ hnew_; (first | rw [← Ny216.out] at ho3 | (simp only [Int.reduceToNat] at ho3; rw [← Ny216.out] at ho3)); have HO218 := a0_ (Kd.R_lower ho3 (below_size (bl0_))); replace HB := a0_ (below_step (bl0_) hb); clear hb ho3))
 go_loopg [3, 4] k (fun kq v3 v4 w' => ∃ (x3_1 : List (S78)) (x4_1 : Int), v4 = .int .i64 x4_1 ∧ Aside0 (spec_l02Neighbours.l0 kq l0 x3_1 x4_1 = some r) ∧ Aside0 (kq ≤ k) ∧ Aside0 (Kd.R k78 78 w' w.heap.size (fun _ => True) v3 x3_1) ∧ Aside0 (Below w.heap.size w w'))
 case atStart => exact ⟨(y216), (0), rs_, H', ⟨Nat.le_refl _⟩, ⟨ra_ HO218.out⟩, ⟨bl0_⟩⟩
 case round =>
  clear H'
  try clear p2
  obtain ⟨x3_1, x4_1, rfl, HA, HK1, HO_3, HB⟩ := hrel
  cases gk with
  | zero => exact absurd HA.out (by simp [spec_l02Neighbours.l0])
  | succ k1 =>
   have H := HA.out
   clear HA
   simp only [spec_l02Neighbours.l0] at H
   by_cases c4 : x4_1 < (l0.length : Int)
   ·rw [if_pos c4] at H
    have c4b0 : decide (x4_1 < (l0.length : Int)) = true := decide_eq_true c4
    clear c4
    by_cases c5 : 0 ≤ x4_1
    ·rw [if_pos c5] at H
     have c5b0 : decide (0 ≤ x4_1) = true := decide_eq_true c5
     clear c5
     obtain ⟨t220, A6, H⟩ := bs_ H
     have H' := Aside0.mk H
     clear H
     have p219 : 0 ≤ (x4_1 : Int) := od_
     have q219 : x4_1 < (l0.length : Int) := od_
     obtain ⟨ad219, e219, hx219_0, hx219_1⟩ := at_T78 HR0.out x4_1 p219 q219
     cases e219
     replace hx219_0 := (HB.out.cell (World.block_lt_of_cell? w _ hx219_0)).trans hx219_0
     replace hx219_1 := (HB.out.cell (World.block_lt_of_cell? w _ hx219_1)).trans hx219_1
     replace p219 := eq_true p219
     replace q219 := eq_true q219
     go_wp2_with (first | ((with_reducible refine gate_callee (f := 114) rfl ?_); refine goesL_ (some 18) rfl rfl Tryd.func114 kr_ rfl #[.agg #[.int .i64 ((rd_T78 l0 x4_1).f0), .int .i64 ((rd_T78 l0 x4_1).f1)]] rfl ta_ ?_; (with_reducible refine (spec_l02Around.calls ((rd_T78 l0 x4_1).f0) ((rd_T78 l0 x4_1).f1) t220 _ A6.out).mono ?_); rintro e w7 ⟨v221, rfl, ho0, hb⟩; refine ⟨_, rfl, ?_⟩; have HO222 := a0_ (Kd.R_lower (Kd.R_new' ho0 (Kd.R_lt (ra_ HO_3.out))) (below_size (bl0_))); replace HO_3 := a0_ (Kd.R_elder' (ra_ HO_3.out) (Kd.R_base ho0) hb); replace HB := a0_ (below_step (bl0_) hb); (try clear hb); (try clear hb2); (try clear hk); (try clear hi); (try clear ho0)))
     go_loopg [3, 6] k1 (fun kq v3 v6 w' => ∃ (x3_2 : List (S78)) (x6_2 : Int), v6 = .int .i64 x6_2 ∧ Aside0 (spec_l02Neighbours.l1 kq l0 x3_2 x4_1 t220 x6_2 = some r) ∧ Aside0 (kq ≤ k1) ∧ Aside0 (Kd.R k78 78 w' w.heap.size (fun k_ => some k_ ≠ (v221 : Value).ownBlock) v3 x3_2) ∧ Aside0 (Kd.R k78 78 w' w.heap.size (fun k_ => some k_ ≠ (v3 : Value).ownBlock) v221 t220) ∧ Aside0 (Below w.heap.size w w'))
     case atStart => exact ⟨(x3_1), (0), rs_, H', ⟨Nat.le_refl _⟩, ⟨by (with_reducible repeat (first | apply Kd.R_alloc | apply Kd.R_drewN | apply Kd.R_drew)); exact Kd.R_mono HO_3.out (fun _ hk => hk.2)⟩, ⟨by (with_reducible repeat (first | apply Kd.R_alloc | apply Kd.R_drewN | apply Kd.R_drew)); exact Kd.R_mono HO222.out (fun _ hk => hk.2)⟩, ⟨bl0_⟩⟩
     case round =>
      clear H'
      try clear c1
      try clear p2
      try clear q2
      try clear hx2
      try clear c4
      try clear c4b0
      try clear c5
      try clear c5b0
      try clear hx219_0
      try clear hx219_1
      try clear p2
      try clear p219
      try clear q219
      obtain ⟨x3_2, x6_2, rfl, HA, HK2, HO_3, HO_5, HB⟩ := hrel
      cases gk with
      | zero => exact absurd HA.out (by simp [spec_l02Neighbours.l1])
      | succ k2 =>
       have H := HA.out
       clear HA
       simp only [spec_l02Neighbours.l1] at H
       by_cases c8 : x6_2 < 4
       ·rw [if_pos c8] at H
        have c8b0 : decide (x6_2 < 4) = true := decide_eq_true c8
        clear c8
        by_cases c9 : 0 ≤ x6_2
        ·rw [if_pos c9] at H
         have c9b0 : decide (0 ≤ x6_2) = true := decide_eq_true c9
         clear c9
         by_cases c10 : x6_2 < (t220.length : Int)
         ·rw [if_pos c10] at H
          have c10b0 : decide (x6_2 < (t220.length : Int)) = true := decide_eq_true c10
          clear c10
          obtain ⟨t224, A11, H⟩ := bs_ H
          by_cases c12 : t224 < 0
          ·rw [if_pos c12] at H
           have c12b0 : decide (t224 < 0) = true := decide_eq_true c12
           clear c12
           obtain ⟨t226, A13, H⟩ := bs_ H
           by_cases c14 : t226 < 0
           ·rw [if_pos c14] at H
            have c14b0 : decide (t226 < 0) = true := decide_eq_true c14
            clear c14
            obtain ⟨t228, A15, H⟩ := bs_ H
            have H' := Aside0.mk H
            clear H
            obtain ⟨Ao16, co16, eo16⟩ := Kd.R_slice HO_5.out
            subst eo16
            have p223 : 0 ≤ (x6_2 : Int) := od_
            have q223 : x6_2 < (t220.length : Int) := od_
            obtain ⟨ad223, e223, hx223_0, hx223_1⟩ := at_T78 (Kd.R_reads' HO_5.out).2.2 x6_2 p223 q223
            cases e223
            replace p223 := eq_true p223
            replace q223 := eq_true q223
            go_wp2_with (first | ((with_reducible refine gate_callee (f := 70) rfl ?_); refine goesL_ (some 28) rfl rfl Tryd.func70 kr_ rfl #[.slice (some ad219) l0.length c0, .agg #[.int .i64 ((rd_T78 t220 x6_2).f0), .int .i64 ((rd_T78 t220 x6_2).f1)]] rfl ta_ ?_; (with_reducible refine (spec_l02Index.calls k2 _ _ l0 ((rd_T78 t220 x6_2).f0) ((rd_T78 t220 x6_2).f1) t224 _ ?side1 ?side2 A11.out).mono ?_); (case side1 => exact ca_ (Kd.C_below HR0.out HB.out)); (case side2 => exact HC0.out); rintro e w17 ⟨rfl, hb⟩; refine ⟨_, rfl, ?_⟩; replace HO_3 := a0_ (Kd.R_below (ra_ HO_3.out) hb); replace HO_5 := a0_ (Kd.R_below (ra_ HO_5.out) hb); replace HB := a0_ (below_step (bl0_) hb); (try clear hb); (try clear hb2); (try clear hk); (try clear hi); have p225 : 0 ≤ (x6_2 : Int) := od_; have q225 : x6_2 < (t220.length : Int) := od_; obtain ⟨ad225, e225, hx225_0, hx225_1⟩ := at_T78 (Kd.R_reads' HO_5.out).2.2 x6_2 p225 q225; obtain rfl : ad223 = ad225 := (by injection e225); replace p225 := eq_true p225; replace q225 := eq_true q225; obtain ⟨Ao18, co18, eo18⟩ := Kd.R_slice HO_3.out; subst eo18) | (go_at_call 70; (with_reducible refine (spec_l02Index.calls k2 _ _ x3_2 ((rd_T78 t220 x6_2).f0) ((rd_T78 t220 x6_2).f1) t226 _ ?side1 ?side2 A13.out).mono ?_); (case side1 => exact ca_ (Kd.R_reads' HO_3.out).2.2); (case side2 => exact (Kd.R_reads' HO_3.out).2.1); rintro e w19 ⟨rfl, hb⟩; replace HO_3 := a0_ (Kd.R_below (ra_ HO_3.out) hb); replace HO_5 := a0_ (Kd.R_below (ra_ HO_5.out) hb); replace HB := a0_ (below_step (bl0_) hb); (try clear hb); (try clear hb2); (try clear hk); (try clear hi); have p227 : 0 ≤ (x6_2 : Int) := od_; have q227 : x6_2 < (t220.length : Int) := od_; obtain ⟨ad227, e227, hx227_0, hx227_1⟩ := at_T78 (Kd.R_reads' HO_5.out).2.2 x6_2 p227 q227; obtain rfl : ad223 = ad227 := (by injection e227); replace p227 := eq_true p227; replace q227 := eq_true q227) | ((with_reducible refine gate_callee (f := 81) rfl ?_); refine goesL_ (some 44) rfl rfl Tryd.func81 kr_ rfl #[.slice Ao18 x3_2.length co18, .agg #[.int .i64 ((rd_T78 t220 x6_2).f0), .int .i64 ((rd_T78 t220 x6_2).f1)]] rfl ta_ ?_; (with_reducible refine (spec_l02Insert.calls k2 _ _ x3_2 ((rd_T78 t220 x6_2).f0) ((rd_T78 t220 x6_2).f1) t228 _ ?side1 ?side2 A15.out).mono ?_); (case side1 => exact ca_ (Kd.R_reads' HO_3.out).2.2); (case side2 => exact (Kd.R_reads' HO_3.out).2.1); rintro e w20 ⟨v229, rfl, ho0, hb⟩; refine ⟨_, rfl, ?_⟩; have HO230 := a0_ (Kd.R_lower (Kd.R_new' (Kd.R_new' ho0 (Kd.R_lt (ra_ HO_3.out))) (Kd.R_lt (ra_ HO_5.out))) (below_size (bl0_))); replace HO_3 := a0_ (Kd.R_elder' (ra_ HO_3.out) (Kd.R_base ho0) hb); replace HO_5 := a0_ (Kd.R_elder' (ra_ HO_5.out) (Kd.R_base ho0) hb); replace HB := a0_ (below_step (bl0_) hb); (try clear hb); (try clear hb2); (try clear hk); (try clear hi); (try clear ho0)))
            go_roundg k2
            case measure => have := HK1.out; have := HK2.out; omega
            case rel => exact ⟨(t228), (wrap64 (x6_2 + 1)), rs_, H', ⟨by have := HK1.out; have := HK2.out; omega⟩, ⟨by (with_reducible repeat (first | apply Kd.R_alloc | apply Kd.R_drewN | apply Kd.R_drew)); exact Kd.R_mono HO230.out (fun _ hk => hk.2)⟩, ⟨by (with_reducible repeat (first | apply Kd.R_alloc | apply Kd.R_drewN | apply Kd.R_drew)); exact Kd.R_mono HO_5.out (fun _ hk => hk.2)⟩, ⟨bl0_⟩⟩
           ·rw [if_neg c14] at H
            have c14b0 : decide (t226 < 0) = false := decide_eq_false c14
            clear c14
            have H' := Aside0.mk H
            clear H
            obtain ⟨Ao21, co21, eo21⟩ := Kd.R_slice HO_5.out
            subst eo21
            have p223 : 0 ≤ (x6_2 : Int) := od_
            have q223 : x6_2 < (t220.length : Int) := od_
            obtain ⟨ad223, e223, hx223_0, hx223_1⟩ := at_T78 (Kd.R_reads' HO_5.out).2.2 x6_2 p223 q223
            cases e223
            replace p223 := eq_true p223
            replace q223 := eq_true q223
            go_wp2_with (first | ((with_reducible refine gate_callee (f := 70) rfl ?_); refine goesL_ (some 28) rfl rfl Tryd.func70 kr_ rfl #[.slice (some ad219) l0.length c0, .agg #[.int .i64 ((rd_T78 t220 x6_2).f0), .int .i64 ((rd_T78 t220 x6_2).f1)]] rfl ta_ ?_; (with_reducible refine (spec_l02Index.calls k2 _ _ l0 ((rd_T78 t220 x6_2).f0) ((rd_T78 t220 x6_2).f1) t224 _ ?side1 ?side2 A11.out).mono ?_); (case side1 => exact ca_ (Kd.C_below HR0.out HB.out)); (case side2 => exact HC0.out); rintro e w22 ⟨rfl, hb⟩; refine ⟨_, rfl, ?_⟩; replace HO_3 := a0_ (Kd.R_below (ra_ HO_3.out) hb); replace HO_5 := a0_ (Kd.R_below (ra_ HO_5.out) hb); replace HB := a0_ (below_step (bl0_) hb); (try clear hb); (try clear hb2); (try clear hk); (try clear hi); have p225 : 0 ≤ (x6_2 : Int) := od_; have q225 : x6_2 < (t220.length : Int) := od_; obtain ⟨ad225, e225, hx225_0, hx225_1⟩ := at_T78 (Kd.R_reads' HO_5.out).2.2 x6_2 p225 q225; obtain rfl : ad223 = ad225 := (by injection e225); replace p225 := eq_true p225; replace q225 := eq_true q225; obtain ⟨Ao23, co23, eo23⟩ := Kd.R_slice HO_3.out; subst eo23) | (go_at_call 70; (with_reducible refine (spec_l02Index.calls k2 _ _ x3_2 ((rd_T78 t220 x6_2).f0) ((rd_T78 t220 x6_2).f1) t226 _ ?side1 ?side2 A13.out).mono ?_); (case side1 => exact ca_ (Kd.R_reads' HO_3.out).2.2); (case side2 => exact (Kd.R_reads' HO_3.out).2.1); rintro e w24 ⟨rfl, hb⟩; replace HO_3 := a0_ (Kd.R_below (ra_ HO_3.out) hb); replace HO_5 := a0_ (Kd.R_below (ra_ HO_5.out) hb); replace HB := a0_ (below_step (bl0_) hb); (try clear hb); (try clear hb2); (try clear hk); (try clear hi)))
            go_roundg k2
            case measure => have := HK1.out; have := HK2.out; omega
            case rel => exact ⟨(x3_2), (wrap64 (x6_2 + 1)), rs_, H', ⟨by have := HK1.out; have := HK2.out; omega⟩, ⟨ra_ HO_3.out⟩, ⟨ra_ HO_5.out⟩, ⟨bl0_⟩⟩
          ·rw [if_neg c12] at H
           have c12b0 : decide (t224 < 0) = false := decide_eq_false c12
           clear c12
           have H' := Aside0.mk H
           clear H
           obtain ⟨Ao25, co25, eo25⟩ := Kd.R_slice HO_5.out
           subst eo25
           have p223 : 0 ≤ (x6_2 : Int) := od_
           have q223 : x6_2 < (t220.length : Int) := od_
           obtain ⟨ad223, e223, hx223_0, hx223_1⟩ := at_T78 (Kd.R_reads' HO_5.out).2.2 x6_2 p223 q223
           cases e223
           replace p223 := eq_true p223
           replace q223 := eq_true q223
           go_wp2_with (first | ((with_reducible refine gate_callee (f := 70) rfl ?_); refine goesL_ (some 28) rfl rfl Tryd.func70 kr_ rfl #[.slice (some ad219) l0.length c0, .agg #[.int .i64 ((rd_T78 t220 x6_2).f0), .int .i64 ((rd_T78 t220 x6_2).f1)]] rfl ta_ ?_; (with_reducible refine (spec_l02Index.calls k2 _ _ l0 ((rd_T78 t220 x6_2).f0) ((rd_T78 t220 x6_2).f1) t224 _ ?side1 ?side2 A11.out).mono ?_); (case side1 => exact ca_ (Kd.C_below HR0.out HB.out)); (case side2 => exact HC0.out); rintro e w26 ⟨rfl, hb⟩; refine ⟨_, rfl, ?_⟩; replace HO_3 := a0_ (Kd.R_below (ra_ HO_3.out) hb); replace HO_5 := a0_ (Kd.R_below (ra_ HO_5.out) hb); replace HB := a0_ (below_step (bl0_) hb); (try clear hb); (try clear hb2); (try clear hk); (try clear hi)))
           go_roundg k2
           case measure => have := HK1.out; have := HK2.out; omega
           case rel => exact ⟨(x3_2), (wrap64 (x6_2 + 1)), rs_, H', ⟨by have := HK1.out; have := HK2.out; omega⟩, ⟨ra_ HO_3.out⟩, ⟨ra_ HO_5.out⟩, ⟨bl0_⟩⟩
         ·rw [if_neg c10] at H
          exact absurd H (by simp)
        ·rw [if_neg c9] at H
         exact absurd H (by simp)
       ·rw [if_neg c8] at H
        have c8b0 : decide (x6_2 < 4) = false := decide_eq_false c8
        clear c8
        have H' := Aside0.mk H
        clear H
        go_wp2
        go_roundg k2
        case measure => have := HK1.out; have := HK2.out; omega
        case rel => exact ⟨(x3_2), (wrap64 (x4_1 + 1)), rs_, H', ⟨by have := HK1.out; have := HK2.out; omega⟩, ⟨by (with_reducible repeat (first | apply Kd.R_alloc | apply Kd.R_drewN | apply Kd.R_drew)); exact Kd.R_mono HO_3.out (fun _ hk => trivial)⟩, ⟨bl0_⟩⟩
    ·rw [if_neg c5] at H
     exact absurd H (by simp)
   ·rw [if_neg c4] at H
    have c4b0 : decide (x4_1 < (l0.length : Int)) = false := decide_eq_false c4
    clear c4
    obtain rfl := Option.some.inj H
    go_wp2
    go_ret
    exact ⟨_, er_, ra_ HO_3.out, bl0_⟩

end Go.Proofs.YtopceddgiddhlaaDoor.PFnNets
