/- Over the kit's printer by a driver of mine (hprint.py), with parts by hand: functions of the program as Lean functions, and that each call comes to exactly these answers. -/
import Derived.Test.YtmdjkmfocgelnaaGreatPFnTriangleShapesx0
import Derived.Test.YtmdjkmfocgelnaaGreatPFnTriangleShapesx9
namespace Go.Proofs.YtmdjkmfocgelnaaGreat.PFnTriangleShapes
open Go.RowKit Go.Proofs.YtmdjkmfocgelnaaGreatW.PrintWords Go.Proofs.YtmdjkmfocgelnaaGreatW.PrintLast Go.Proofs.YtmdjkmfocgelnaaGreatW.PrintMore
attribute [local go_sem] max2_int min2_int max_two min_two max_three min_three max_four min_four   -- for this text's walks alone
set_option linter.unusedVariables false
set_option linter.unusedSimpArgs false

/-! ### spec_l02Insert: function 86 -/
def spec_l02Insert.l0 : Nat → List (S46) → List (S46) → Bool → Int → Int → Int → Option ((List (S46)))
 | 0, _, _, _, _, _, _ => none
 | k + 1, x0, x5, x6, x7, x219000, x219001 => if x7 < (x0.length : Int) then (if x6 = true then (if 0 ≤ x7 then (if x5.length < 8796093022208 then (spec_l02Insert.l0 k x0 (x5 ++ [(⟨(rd_T46 x0 x7).f0, (rd_T46 x0 x7).f1⟩ : S46)]) x6 (wrap64 (x7 + 1)) x219000 x219001) else (none)) else (none)) else (if 0 ≤ x7 then ((spec_l02Less.f x219000 x219001 ((rd_T46 x0 x7).f0) ((rd_T46 x0 x7).f1)).bind fun t227 => (if t227 = true then (if x5.length < 8796093022208 then ((some (x5 ++ [(⟨x219000, x219001⟩ : S46)] : List (S46))).bind fun y228 => (if y228.length < 8796093022208 then (spec_l02Insert.l0 k x0 (y228 ++ [(⟨(rd_T46 x0 x7).f0, (rd_T46 x0 x7).f1⟩ : S46)]) true (wrap64 (x7 + 1)) x219000 x219001) else (none))) else (none)) else (if x5.length < 8796093022208 then (spec_l02Insert.l0 k x0 (x5 ++ [(⟨(rd_T46 x0 x7).f0, (rd_T46 x0 x7).f1⟩ : S46)]) x6 (wrap64 (x7 + 1)) x219000 x219001) else (none)))) else (none))) else (if x6 = true then (some x5) else (if x5.length < 8796093022208 then (some (x5 ++ [(⟨x219000, x219001⟩ : S46)])) else (none)))
def spec_l02Insert.f (k : Nat) (l0 : List (S46)) (a1_0 : Int) (a1_1 : Int) : Option ((List (S46))) := spec_l02Insert.l0 k l0 (([] : List (S46))) false 0 a1_0 a1_1
theorem spec_l02Insert.mono_l : ∀ k, (∀ y0 y1 y2 y3 y4 y5, LeO (spec_l02Insert.l0 k y0 y1 y2 y3 y4 y5) (spec_l02Insert.l0 (k + 1) y0 y1 y2 y3 y4 y5))
 | 0 => fun _ _ _ _ _ _ r h => by simp [spec_l02Insert.l0] at h
 | k + 1 => by
  have ih0 := spec_l02Insert.mono_l k
  ·intro y0 y1 y2 y3 y4 y5
   unfold spec_l02Insert.l0
   with_reducible (repeat' first | exact ih0 _ _ _ _ _ _ | exact LeO.refl _ | exact LeO.none _ | refine LeO.ite ?_ ?_ | refine LeO.bind ?_ (fun _ => ?_))
theorem spec_l02Insert.mono : ∀ a0 a1 a2 k, LeO (spec_l02Insert.f k a0 a1 a2) (spec_l02Insert.f (k + 1) a0 a1 a2) := by
 intro a0 a1 a2 k
 have ih0 := spec_l02Insert.mono_l k
 unfold spec_l02Insert.f
 with_reducible (repeat' first | exact ih0 _ _ _ _ _ _ | exact LeO.refl _ | exact LeO.none _ | refine LeO.ite ?_ ?_ | refine LeO.bind ?_ (fun _ => ?_))
def spec_l02Insert.T6 : Bool × List (List Nat × List Nat) := (true, [([], []), ([0], [0]), ([1], [1]), ([2], [2]), ([2], [2]), ([2], [2]), ([4, 5, 2], [2, 4, 5]), ([6, 2], [2, 6]), ([3, 7, 2, 2], [2, 3, 7]), ([2, 8], [2, 8])])
def spec_l02Insert.B6 : List Nat := [0, 1, 3, 7, 7, 7, 55, 119, 255, 511]
theorem spec_l02Insert.tab6 : rtab .any (opsOf Tryz.f86 6) = spec_l02Insert.T6 := by kernel_rfl
theorem spec_l02Insert.bits6 : waitsOk spec_l02Insert.T6.2 spec_l02Insert.B6 = true := by kernel_rfl
set_option maxHeartbeats 8000000 in
set_option maxRecDepth 100000 in
theorem spec_l02Insert.calls (k : Nat) (A0 : Option Addr) (c0 : Nat) (l0 : List (S46)) (a1_0 : Int) (a1_1 : Int) (r : List (S46)) (w : World) (hr0 : Kd.C k46 w A0 l0.length l0) (hc0 : l0.length ≤ c0) (h : spec_l02Insert.f k l0 a1_0 a1_1 = some r) :
  Calls Tryz.prog 86 #[.slice A0 l0.length c0, .agg #[.int .i64 a1_0, .int .i64 a1_1]] w fun e w' => ∃ v0_ : Value, e = .returned (v0_) ∧ Kd.R k46 46 w' w.heap.size (fun _ => True) v0_ r ∧ Below w.heap.size w w' := by
 have hu46 := Tryz.underlying46
 have HR0 := Aside0.mk hr0
 have HC0 := Aside0.mk hc0
 clear hr0 hc0
 have HB := a0_ (Below.refl w.heap.size w)
 have H : (spec_l02Insert.l0 k l0 (([] : List (S46))) false 0 a1_0 a1_1) = some r := h
 clear h
 obtain ⟨y219, hy219⟩ : ∃ y_ : List (S46), y_ = (([] : List (S46))) := ⟨_, rfl⟩
 replace H : (spec_l02Insert.l0 k l0 y219 false 0 a1_0 a1_1) = some r := hh_ hy219 H
 have Ny219 := Aside0.mk hy219
 clear hy219
 have H' := Aside0.mk H
 clear H
 go_enter Tryz.func86, Tryz.ntmps86
 go_wp2_with (first | ((with_reducible refine gate_dst (N := 3) rfl ?_); refine bx_ (N := 3) (cs := #[.int .i64 a1_0, .int .i64 a1_1]) (t := 46) ?_; intro gb218 hg w3 hbox hb; have BK218 := a0_ (hbox); have GW218 := a0_ ((sz_ hg (bl0_) : w.heap.size ≤ gb218)); have GE218 := a0_ ((sz_ hg (bl0_) : w.heap.size ≤ gb218)); replace HB := a0_ (below_step (bl0_) hb); clear hb hbox hg) | ((with_reducible refine gate_dst (N := 8) rfl ?_); refine Kd.R_lit k46 _ 46 ?hg (N := 8) ?hd (xs := ([] : List (S46))) (inner := []) (ok := fun _ => True) (okp := fun _ => True) ?hr ?hp (fun _ hk => hk) trivial (Below.refl _ _) (Nat.le_refl _) (by simp) ?_; (case hd => rfl); (case hg => rfl); (case hr => first | (go_simp; done) | (go_simp; rfl)); (case hp => exact (Reps.none _ _)); intro v220 w4 ho5 hb hg_ hnew_; clear hg_ hnew_; (first | rw [← Ny219.out] at ho5 | (simp only [Int.reduceToNat] at ho5; rw [← Ny219.out] at ho5)); have HO221 := a0_ (Kd.R_lower (Kd.R_newB ho5 (g := gb218) (o := .cells #[.int .i64 a1_0, .int .i64 a1_1] 46 (0, 0)) (bk_ BK218.out)) (below_size (bl1_ GE218.out))); replace BK218 := a0_ (bb_ BK218.out hb); replace HB := a0_ (below_step (bl1_ GE218.out) hb); clear hb ho5))
 go_loopg [5, 6, 7] k (fun kq v5 v6 v7 w' => ∃ (x5_1 : List (S46)) (x6_1 : Bool) (x7_1 : Int), v6 = .bool x6_1 ∧ v7 = .int .i64 x7_1 ∧ Aside0 (spec_l02Insert.l0 kq l0 x5_1 x6_1 x7_1 a1_0 a1_1 = some r) ∧ Aside0 (kq ≤ k) ∧ Aside0 (Kd.R k46 46 w' w.heap.size (fun k_ => k_ ≠ gb218) v5 x5_1) ∧ Aside0 (w'.heap[gb218]? = some (.cells #[.int .i64 a1_0, .int .i64 a1_1] 46 (0, 0))) ∧ Aside0 (Below w.heap.size w w'))
 case atStart => exact ⟨(y219), (false), (0), rs_, rs_, H', ⟨Nat.le_refl _⟩, ⟨by (with_reducible repeat (first | apply Kd.R_alloc | apply Kd.R_drewN | apply Kd.R_drew)); exact Kd.R_mono HO221.out (fun _ hk => hk.2)⟩, ⟨bk_ BK218.out⟩, ⟨bl1_ GE218.out⟩⟩
 case round =>
  clear H'
  try clear p2
  obtain ⟨x5_1, x6_1, x7_1, rfl, rfl, HA, HK1, HO_5, BK218, HB⟩ := hrel
  cases gk with
  | zero => exact absurd HA.out (by simp [spec_l02Insert.l0])
  | succ k1 =>
   have H := HA.out
   clear HA
   simp only [spec_l02Insert.l0] at H
   by_cases c6 : x7_1 < (l0.length : Int)
   ·rw [if_pos c6] at H
    have c6b0 : decide (x7_1 < (l0.length : Int)) = true := decide_eq_true c6
    clear c6
    by_cases c7 : x6_1 = true
    ·subst c7
     rw [if_pos rfl] at H
     by_cases c8 : 0 ≤ x7_1
     ·rw [if_pos c8] at H
      have c8b0 : decide (0 ≤ x7_1) = true := decide_eq_true c8
      clear c8
      by_cases c9 : x5_1.length < 8796093022208
      ·rw [if_pos c9] at H
       have LMc9 := Aside0.mk c9
       clear c9
       obtain ⟨y223, hy223⟩ : ∃ y_ : List (S46), y_ = (x5_1 ++ [(⟨(rd_T46 l0 x7_1).f0, (rd_T46 l0 x7_1).f1⟩ : S46)]) := ⟨_, rfl⟩
       replace H : (spec_l02Insert.l0 k1 l0 y223 true (wrap64 (x7_1 + 1)) a1_0 a1_1) = some r := hh_ hy223 H
       have Ny223 := Aside0.mk hy223
       clear hy223
       have H' := Aside0.mk H
       clear H
       try go_wp2
       replace HO_5 := a0_ (Kd.R_drew HO_5.out)
       replace BK218 := a0_ (blk_drew BK218.out)
       replace HB := a0_ (below_drew1 HB.out)
       refine start_ (n := 10) (S := fun w' => True) (ds := []) (mk_ 0 10) kr_ rfl rfl trivial (fun hHeld => ?_); refine with_tabW spec_l02Insert.tab6 spec_l02Insert.bits6 (fun HT_ HW_ => ?_)
       generalize wr.drew = w10 at HO_5 BK218 HB hHeld ⊢
       refine pu_ 0 (some 15) (mk_ 1 9) HT_ ?_
       refine pu_ 1 (some 16) (mk_ 2 8) HT_ ?_
       refine pu_ 2 (some 17) (mk_ 3 7) HT_ ?_
       refine pn_ 3 (some 18) (mk_ 4 6) HT_ ?_
       refine pn_ 4 (some 19) (mk_ 5 5) HT_ ?_
       refine pn_ 5 (some 20) (mk_ 6 4) HT_ ?_
       refine pn_ 6 (some 21) (mk_ 7 3) HT_ ?_
       refine pn_ 7 (some 22) (mk_ 8 2) HT_ ?_
       refine pn_ 8 (some 23) (mk_ 9 1) HT_ ?_
       refine pu_ 9 (some 24) (mk_ 10 0) HT_ ?_
       refine done_ (done_of HT_.out kr_) ?_
       have p222 : 0 ≤ (x7_1 : Int) := od_
       have q222 : x7_1 < (l0.length : Int) := od_
       obtain ⟨ad222, e222, hx222_0, hx222_1⟩ := at_T46 HR0.out x7_1 p222 q222
       cases e222
       replace hx222_0 := (HB.out.cell (World.block_lt_of_cell? w _ hx222_0)).trans hx222_0
       replace hx222_1 := (HB.out.cell (World.block_lt_of_cell? w _ hx222_1)).trans hx222_1
       replace p222 := eq_true p222
       replace q222 := eq_true q222
       try go_wp2_with (first | ((with_reducible refine gate_builtin (b := .append) (xs := #[.tmp 29, .tmp 34]) rfl ?_); at_builtin; refine Kd.R_append k46 (w0 := w) w.heap.size rfl (.tmp 29) (.tmp 34) 35 46 (.agg #[(.int .i64 0), (.int .i64 0)]) 16 rfl Tryz.underlying35 info46 rfl (by decide) (by omega) u5 x5_1 (⟨(rd_T46 l0 x7_1).f0, (rd_T46 l0 x7_1).f1⟩ : S46) [.int .i64 ((rd_T46 l0 x7_1).f0), .int .i64 ((rd_T46 l0 x7_1).f1)] (fun k_ => k_ ≠ gb218) (fun _ => False) rfl rfl ?aP (fun _ hk => hk.elim) ?aF ?aO ?aB ?aS ?aL ?_; (case aP => exact k46_mkM _ _ _ (⟨(rd_T46 l0 x7_1).f0, (rd_T46 l0 x7_1).f1⟩ : S46)); (case aB => exact (bl1_ GE218.out)); (case aF => exact (fun k_ hk => Kd.freshB (g := gb218) (o := .cells #[.int .i64 a1_0, .int .i64 a1_1] 46 (0, 0)) (bk_ BK218.out) k_ hk)); (case aO => exact (ra_ HO_5.out)); (case aS => exact (below_size (bl1_ GE218.out))); (case aL => have := LMc9.out; omega); intro v224 w11 ho hb hg hat; rw [← Ny223.out] at ho; replace BK218 := a0_ (blk_grown (g := gb218) (o := .cells #[.int .i64 a1_0, .int .i64 a1_1] 46 (0, 0)) (bk_ BK218.out) hg (Kd.R_away HO_5.out (fun _ hk => hk))); replace HB := a0_ (hb); have HO225 := a0_ (ho); clear HO_5; clear ho hb hg hat))
       go_roundg k1
       case measure => have := HK1.out; omega
       case rel => exact ⟨(y223), (true), (wrap64 (x7_1 + 1)), rs_, rs_, H', ⟨by have := HK1.out; omega⟩, ⟨ra_ HO225.out⟩, ⟨bk_ BK218.out⟩, ⟨bl1_ GE218.out⟩⟩
      ·rw [if_neg c9] at H
       exact absurd H (by simp)
     ·rw [if_neg c8] at H
      exact absurd H (by simp)
    ·replace c7 := Bool.eq_false_iff.mpr c7
     subst c7
     rw [if_neg (show ¬ (false = true) by decide)] at H
     by_cases c12 : 0 ≤ x7_1
     ·rw [if_pos c12] at H
      have c12b0 : decide (0 ≤ x7_1) = true := decide_eq_true c12
      clear c12
      obtain ⟨t227, A13, H⟩ := bs_ H
      by_cases c14 : t227 = true
      ·subst c14
       rw [if_pos rfl] at H
       by_cases c15 : x5_1.length < 8796093022208
       ·rw [if_pos c15] at H
        have LMc15 := Aside0.mk c15
        clear c15
        obtain ⟨y228, hy228⟩ : ∃ y_ : List (S46), y_ = (x5_1 ++ [(⟨a1_0, a1_1⟩ : S46)]) := ⟨_, rfl⟩
        replace H : (if y228.length < 8796093022208 then (spec_l02Insert.l0 k1 l0 (y228 ++ [(⟨(rd_T46 l0 x7_1).f0, (rd_T46 l0 x7_1).f1⟩ : S46)]) true (wrap64 (x7_1 + 1)) a1_0 a1_1) else (none)) = some r := hh_ hy228 H
        have Ny228 := Aside0.mk hy228
        clear hy228
        by_cases c16 : y228.length < 8796093022208
        ·rw [if_pos c16] at H
         have LMc16 := Aside0.mk c16
         clear c16
         obtain ⟨y232, hy232⟩ : ∃ y_ : List (S46), y_ = (y228 ++ [(⟨(rd_T46 l0 x7_1).f0, (rd_T46 l0 x7_1).f1⟩ : S46)]) := ⟨_, rfl⟩
         replace H : (spec_l02Insert.l0 k1 l0 y232 true (wrap64 (x7_1 + 1)) a1_0 a1_1) = some r := hh_ hy232 H
         have Ny232 := Aside0.mk hy232
         clear hy232
         have H' := Aside0.mk H
         clear H
         try go_wp2
         replace HO_5 := a0_ (Kd.R_drew HO_5.out)
         replace BK218 := a0_ (blk_drew BK218.out)
         replace HB := a0_ (below_drew1 HB.out)
         have p226 : 0 ≤ (x7_1 : Int) := od_
         have q226 : x7_1 < (l0.length : Int) := od_
         obtain ⟨ad226, e226, hx226_0, hx226_1⟩ := at_T46 HR0.out x7_1 p226 q226
         have hw226_1 := hx226_1
         have hw226_0 := hx226_0
         cases e226
         replace hx226_0 := (HB.out.cell (World.block_lt_of_cell? w _ hx226_0)).trans hx226_0
         replace hx226_1 := (HB.out.cell (World.block_lt_of_cell? w _ hx226_1)).trans hx226_1
         replace p226 := eq_true p226
         replace q226 := eq_true q226
         refine start_ (n := 10) (S := fun w' => w'.cell? ⟨gb218, 0, none⟩ = some (.int .i64 a1_0) ∧ w'.cell? ⟨gb218, 1, none⟩ = some (.int .i64 a1_1) ∧ w'.cell? (ad226.add ((x7_1).toNat * 2)) = some (.int .i64 ((rd_T46 l0 x7_1).f0)) ∧ w'.cell? ⟨(ad226.add ((x7_1).toNat * 2)).block, (ad226.add ((x7_1).toNat * 2)).off + 1, none⟩ = some (.int .i64 ((rd_T46 l0 x7_1).f1))) (ds := []) (mk_ 0 10) kr_ rfl rfl ⟨(blk_cell BK218.out 0).trans rfl, (blk_cell BK218.out 1).trans rfl, ((HB.out.cell (World.block_lt_of_cell? w _ hw226_0)).trans hw226_0), ((HB.out.cell (World.block_lt_of_cell? w _ hw226_1)).trans hw226_1)⟩ (fun hHeld => ?_); refine with_tabW spec_l02Insert.tab6 spec_l02Insert.bits6 (fun HT_ HW_ => ?_)
         generalize wr.drew = w17 at HO_5 BK218 HB hx226_0 hx226_1 hHeld ⊢
         refine pu_ 0 (some 15) (mk_ 1 9) HT_ ?_
         refine pu_ 1 (some 16) (mk_ 2 8) HT_ ?_
         refine pu_ 2 (some 17) (mk_ 3 7) HT_ ?_
         refine pu_ 4 (some 19) #[true, true, true, false, true, false, false, false, false, false] HT_ ?_
         refine pu_ 5 (some 20) #[true, true, true, false, true, true, false, false, false, false] HT_ ?_
         refine pu_ 6 (some 21) #[true, true, true, false, true, true, true, false, false, false] HT_ ?_
         refine tk_ 3 (some 18) (mk_ 7 3) HT_ HW_ hHeld (hy := .inl ⟨by rfl, by rintro w' ⟨s0, s1, s2, s3⟩; go_simp; with_reducible rfl⟩) ?_
         refine tk_ 7 (some 22) (mk_ 8 2) HT_ HW_ hHeld (hy := .inl ⟨by rfl, by rintro w' ⟨s0, s1, s2, s3⟩; go_simp; with_reducible rfl⟩) ?_
         refine one_ (i := 8) (N := some 23) (mk_ 9 1) rfl rfl (one_of HT_.out kr_) (by decide) (fun K hK => ?_)
         refine goes_ Tryz.func105 kr_ rfl #[.agg #[.int .i64 a1_0, .int .i64 a1_1], .agg #[.int .i64 ((rd_T46 l0 x7_1).f0), .int .i64 ((rd_T46 l0 x7_1).f1)]] (by rfl) rfl rfl ta_ ?_
         with_reducible refine (spec_l02Less.calls a1_0 a1_1 ((rd_T46 l0 x7_1).f0) ((rd_T46 l0 x7_1).f1) true _ A13.out).mono ?_
         rintro e w18 ⟨rfl, hb⟩
         refine ⟨_, rfl, ?_⟩
         replace HO_5 := a0_ (Kd.R_below (ra_ HO_5.out) hb)
         replace BK218 := a0_ (bb_ BK218.out hb)
         replace HB := a0_ (below_step (bl1_ GE218.out) hb)
         (try clear hb)
         (try clear hb2)
         (try clear hk)
         (try clear hi)
         refine hK.out _ _ ⟨(blk_cell BK218.out 0).trans rfl, (blk_cell BK218.out 1).trans rfl, ((HB.out.cell (World.block_lt_of_cell? w _ hw226_0)).trans hw226_0), ((HB.out.cell (World.block_lt_of_cell? w _ hw226_1)).trans hw226_1)⟩ (fun hHeld => ?_)
         clear hK K
         refine nm_ ?_
         refine pu_ 9 (some 24) (mk_ 10 0) HT_ ?_
         refine done_ (done_of HT_.out kr_) ?_
         have hcz19_0 : w18.cell? ⟨gb218, 0, none⟩ = some (.int .i64 a1_0) := (blk_cell BK218.out 0).trans rfl
         have hcz19_1 : w18.cell? ⟨gb218, 1, none⟩ = some (.int .i64 a1_1) := (blk_cell BK218.out 1).trans rfl
         have hfz19_0 := blk_frozen BK218.out 0
         have hfz19_1 := blk_frozen BK218.out 1
         try go_wp2_with (first | ((with_reducible refine gate_builtin (b := .append) (xs := #[.tmp 25, .tmp 27]) rfl ?_); at_builtin; refine Kd.R_append k46 (w0 := w) w.heap.size rfl (.tmp 25) (.tmp 27) 35 46 (.agg #[(.int .i64 0), (.int .i64 0)]) 16 rfl Tryz.underlying35 info46 rfl (by decide) (by omega) u5 x5_1 (⟨a1_0, a1_1⟩ : S46) [.int .i64 a1_0, .int .i64 a1_1] (fun k_ => k_ ≠ gb218) (fun _ => False) rfl rfl ?aP (fun _ hk => hk.elim) ?aF ?aO ?aB ?aS ?aL ?_; (case aP => exact k46_mkM _ _ _ (⟨a1_0, a1_1⟩ : S46)); (case aB => exact (bl1_ GE218.out)); (case aF => exact (fun k_ hk => Kd.freshB (g := gb218) (o := .cells #[.int .i64 a1_0, .int .i64 a1_1] 46 (0, 0)) (bk_ BK218.out) k_ hk)); (case aO => exact (ra_ HO_5.out)); (case aS => exact (below_size (bl1_ GE218.out))); (case aL => have := LMc15.out; omega); intro v229 w20 ho hb hg hat; rw [← Ny228.out] at ho; replace BK218 := a0_ (blk_grown (g := gb218) (o := .cells #[.int .i64 a1_0, .int .i64 a1_1] 46 (0, 0)) (bk_ BK218.out) hg (Kd.R_away HO_5.out (fun _ hk => hk))); replace HB := a0_ (hb); have HO230 := a0_ (ho); clear HO_5; clear ho hb hg hat; have p231 : 0 ≤ (x7_1 : Int) := od_; have q231 : x7_1 < (l0.length : Int) := od_; obtain ⟨ad231, e231, hx231_0, hx231_1⟩ := at_T46 HR0.out x7_1 p231 q231; obtain rfl : ad226 = ad231 := (by injection e231); replace hx231_0 := (HB.out.cell (World.block_lt_of_cell? w _ hx231_0)).trans hx231_0; replace hx231_1 := (HB.out.cell (World.block_lt_of_cell? w _ hx231_1)).trans hx231_1; replace p231 := eq_true p231; replace q231 := eq_true q231) | ((with_reducible refine gate_builtin (b := .append) (xs := #[.tmp 29, .tmp 34]) rfl ?_); at_builtin; refine Kd.R_append k46 (w0 := w) w.heap.size rfl (.tmp 29) (.tmp 34) 35 46 (.agg #[(.int .i64 0), (.int .i64 0)]) 16 rfl Tryz.underlying35 info46 rfl (by decide) (by omega) v229 y228 (⟨(rd_T46 l0 x7_1).f0, (rd_T46 l0 x7_1).f1⟩ : S46) [.int .i64 ((rd_T46 l0 x7_1).f0), .int .i64 ((rd_T46 l0 x7_1).f1)] (fun k_ => k_ ≠ gb218) (fun _ => False) rfl rfl ?aP (fun _ hk => hk.elim) ?aF ?aO ?aB ?aS ?aL ?_; (case aP => exact k46_mkM _ _ _ (⟨(rd_T46 l0 x7_1).f0, (rd_T46 l0 x7_1).f1⟩ : S46)); (case aB => exact (bl1_ GE218.out)); (case aF => exact (fun k_ hk => Kd.freshB (g := gb218) (o := .cells #[.int .i64 a1_0, .int .i64 a1_1] 46 (0, 0)) (bk_ BK218.out) k_ hk)); (case aO => exact (ra_ HO230.out)); (case aS => exact (below_size (bl1_ GE218.out))); (case aL => have := LMc16.out; omega); intro v233 w21 ho hb hg hat; rw [← Ny232.out] at ho; replace BK218 := a0_ (blk_grown (g := gb218) (o := .cells #[.int .i64 a1_0, .int .i64 a1_1] 46 (0, 0)) (bk_ BK218.out) hg (Kd.R_away HO230.out (fun _ hk => hk))); replace HB := a0_ (hb); have HO234 := a0_ (ho); clear HO230; clear ho hb hg hat))
         go_roundg k1
         case measure => have := HK1.out; omega
         case rel => exact ⟨(y232), (true), (wrap64 (x7_1 + 1)), rs_, rs_, H', ⟨by have := HK1.out; omega⟩, ⟨ra_ HO234.out⟩, ⟨bk_ BK218.out⟩, ⟨bl1_ GE218.out⟩⟩
        ·rw [if_neg c16] at H
         exact absurd H (by simp)
       ·rw [if_neg c15] at H
        exact absurd H (by simp)
      ·replace c14 := Bool.eq_false_iff.mpr c14
       subst c14
       rw [if_neg (show ¬ (false = true) by decide)] at H
       by_cases c22 : x5_1.length < 8796093022208
       ·rw [if_pos c22] at H
        have LMc22 := Aside0.mk c22
        clear c22
        obtain ⟨y236, hy236⟩ : ∃ y_ : List (S46), y_ = (x5_1 ++ [(⟨(rd_T46 l0 x7_1).f0, (rd_T46 l0 x7_1).f1⟩ : S46)]) := ⟨_, rfl⟩
        replace H : (spec_l02Insert.l0 k1 l0 y236 false (wrap64 (x7_1 + 1)) a1_0 a1_1) = some r := hh_ hy236 H
        have Ny236 := Aside0.mk hy236
        clear hy236
        have H' := Aside0.mk H
        clear H
        try go_wp2
        replace HO_5 := a0_ (Kd.R_drew HO_5.out)
        replace BK218 := a0_ (blk_drew BK218.out)
        replace HB := a0_ (below_drew1 HB.out)
        have p226 : 0 ≤ (x7_1 : Int) := od_
        have q226 : x7_1 < (l0.length : Int) := od_
        obtain ⟨ad226, e226, hx226_0, hx226_1⟩ := at_T46 HR0.out x7_1 p226 q226
        have hw226_1 := hx226_1
        have hw226_0 := hx226_0
        cases e226
        replace hx226_0 := (HB.out.cell (World.block_lt_of_cell? w _ hx226_0)).trans hx226_0
        replace hx226_1 := (HB.out.cell (World.block_lt_of_cell? w _ hx226_1)).trans hx226_1
        replace p226 := eq_true p226
        replace q226 := eq_true q226
        refine start_ (n := 10) (S := fun w' => w'.cell? ⟨gb218, 0, none⟩ = some (.int .i64 a1_0) ∧ w'.cell? ⟨gb218, 1, none⟩ = some (.int .i64 a1_1) ∧ w'.cell? (ad226.add ((x7_1).toNat * 2)) = some (.int .i64 ((rd_T46 l0 x7_1).f0)) ∧ w'.cell? ⟨(ad226.add ((x7_1).toNat * 2)).block, (ad226.add ((x7_1).toNat * 2)).off + 1, none⟩ = some (.int .i64 ((rd_T46 l0 x7_1).f1))) (ds := []) (mk_ 0 10) kr_ rfl rfl ⟨(blk_cell BK218.out 0).trans rfl, (blk_cell BK218.out 1).trans rfl, ((HB.out.cell (World.block_lt_of_cell? w _ hw226_0)).trans hw226_0), ((HB.out.cell (World.block_lt_of_cell? w _ hw226_1)).trans hw226_1)⟩ (fun hHeld => ?_); refine with_tabW spec_l02Insert.tab6 spec_l02Insert.bits6 (fun HT_ HW_ => ?_)
        generalize wr.drew = w23 at HO_5 BK218 HB hx226_0 hx226_1 hHeld ⊢
        refine pu_ 0 (some 15) (mk_ 1 9) HT_ ?_
        refine pu_ 1 (some 16) (mk_ 2 8) HT_ ?_
        refine pu_ 2 (some 17) (mk_ 3 7) HT_ ?_
        refine pu_ 4 (some 19) #[true, true, true, false, true, false, false, false, false, false] HT_ ?_
        refine pu_ 5 (some 20) #[true, true, true, false, true, true, false, false, false, false] HT_ ?_
        refine pu_ 6 (some 21) #[true, true, true, false, true, true, true, false, false, false] HT_ ?_
        refine tk_ 3 (some 18) (mk_ 7 3) HT_ HW_ hHeld (hy := .inl ⟨by rfl, by rintro w' ⟨s0, s1, s2, s3⟩; go_simp; with_reducible rfl⟩) ?_
        refine tk_ 7 (some 22) (mk_ 8 2) HT_ HW_ hHeld (hy := .inl ⟨by rfl, by rintro w' ⟨s0, s1, s2, s3⟩; go_simp; with_reducible rfl⟩) ?_
        refine one_ (i := 8) (N := some 23) (mk_ 9 1) rfl rfl (one_of HT_.out kr_) (by decide) (fun K hK => ?_)
        refine goes_ Tryz.func105 kr_ rfl #[.agg #[.int .i64 a1_0, .int .i64 a1_1], .agg #[.int .i64 ((rd_T46 l0 x7_1).f0), .int .i64 ((rd_T46 l0 x7_1).f1)]] (by rfl) rfl rfl ta_ ?_
        with_reducible refine (spec_l02Less.calls a1_0 a1_1 ((rd_T46 l0 x7_1).f0) ((rd_T46 l0 x7_1).f1) false _ A13.out).mono ?_
        rintro e w24 ⟨rfl, hb⟩
        refine ⟨_, rfl, ?_⟩
        replace HO_5 := a0_ (Kd.R_below (ra_ HO_5.out) hb)
        replace BK218 := a0_ (bb_ BK218.out hb)
        replace HB := a0_ (below_step (bl1_ GE218.out) hb)
        (try clear hb)
        (try clear hb2)
        (try clear hk)
        (try clear hi)
        refine hK.out _ _ ⟨(blk_cell BK218.out 0).trans rfl, (blk_cell BK218.out 1).trans rfl, ((HB.out.cell (World.block_lt_of_cell? w _ hw226_0)).trans hw226_0), ((HB.out.cell (World.block_lt_of_cell? w _ hw226_1)).trans hw226_1)⟩ (fun hHeld => ?_)
        clear hK K
        refine nm_ ?_
        refine pu_ 9 (some 24) (mk_ 10 0) HT_ ?_
        refine done_ (done_of HT_.out kr_) ?_
        have p235 : 0 ≤ (x7_1 : Int) := od_
        have q235 : x7_1 < (l0.length : Int) := od_
        obtain ⟨ad235, e235, hx235_0, hx235_1⟩ := at_T46 HR0.out x7_1 p235 q235
        obtain rfl : ad226 = ad235 := (by injection e235)
        replace hx235_0 := (HB.out.cell (World.block_lt_of_cell? w _ hx235_0)).trans hx235_0
        replace hx235_1 := (HB.out.cell (World.block_lt_of_cell? w _ hx235_1)).trans hx235_1
        replace p235 := eq_true p235
        replace q235 := eq_true q235
        try go_wp2_with (first | ((with_reducible refine gate_builtin (b := .append) (xs := #[.tmp 29, .tmp 34]) rfl ?_); at_builtin; refine Kd.R_append k46 (w0 := w) w.heap.size rfl (.tmp 29) (.tmp 34) 35 46 (.agg #[(.int .i64 0), (.int .i64 0)]) 16 rfl Tryz.underlying35 info46 rfl (by decide) (by omega) u5 x5_1 (⟨(rd_T46 l0 x7_1).f0, (rd_T46 l0 x7_1).f1⟩ : S46) [.int .i64 ((rd_T46 l0 x7_1).f0), .int .i64 ((rd_T46 l0 x7_1).f1)] (fun k_ => k_ ≠ gb218) (fun _ => False) rfl rfl ?aP (fun _ hk => hk.elim) ?aF ?aO ?aB ?aS ?aL ?_; (case aP => exact k46_mkM _ _ _ (⟨(rd_T46 l0 x7_1).f0, (rd_T46 l0 x7_1).f1⟩ : S46)); (case aB => exact (bl1_ GE218.out)); (case aF => exact (fun k_ hk => Kd.freshB (g := gb218) (o := .cells #[.int .i64 a1_0, .int .i64 a1_1] 46 (0, 0)) (bk_ BK218.out) k_ hk)); (case aO => exact (ra_ HO_5.out)); (case aS => exact (below_size (bl1_ GE218.out))); (case aL => have := LMc22.out; omega); intro v237 w25 ho hb hg hat; rw [← Ny236.out] at ho; replace BK218 := a0_ (blk_grown (g := gb218) (o := .cells #[.int .i64 a1_0, .int .i64 a1_1] 46 (0, 0)) (bk_ BK218.out) hg (Kd.R_away HO_5.out (fun _ hk => hk))); replace HB := a0_ (hb); have HO238 := a0_ (ho); clear HO_5; clear ho hb hg hat))
        go_roundg k1
        case measure => have := HK1.out; omega
        case rel => exact ⟨(y236), (false), (wrap64 (x7_1 + 1)), rs_, rs_, H', ⟨by have := HK1.out; omega⟩, ⟨ra_ HO238.out⟩, ⟨bk_ BK218.out⟩, ⟨bl1_ GE218.out⟩⟩
       ·rw [if_neg c22] at H
        exact absurd H (by simp)
     ·rw [if_neg c12] at H
      exact absurd H (by simp)
   ·rw [if_neg c6] at H
    have c6b0 : decide (x7_1 < (l0.length : Int)) = false := decide_eq_false c6
    clear c6
    by_cases c26 : x6_1 = true
    ·subst c26
     rw [if_pos rfl] at H
     obtain rfl := Option.some.inj H
     go_wp2
     go_ret
     exact ⟨_, er_, by (with_reducible repeat (first | apply Kd.R_alloc | apply Kd.R_drewN | apply Kd.R_drew)); exact Kd.R_mono HO_5.out (fun _ hk => trivial), bl1_ GE218.out⟩
    ·replace c26 := Bool.eq_false_iff.mpr c26
     subst c26
     rw [if_neg (show ¬ (false = true) by decide)] at H
     by_cases c27 : x5_1.length < 8796093022208
     ·rw [if_pos c27] at H
      have LMc27 := Aside0.mk c27
      clear c27
      obtain ⟨y239, hy239⟩ : ∃ y_ : List (S46), y_ = (x5_1 ++ [(⟨a1_0, a1_1⟩ : S46)]) := ⟨_, rfl⟩
      replace H : (some y239) = some r := hh_ hy239 H
      have Ny239 := Aside0.mk hy239
      clear hy239
      obtain rfl := Option.some.inj H
      have hcz28_0 : wr.cell? ⟨gb218, 0, none⟩ = some (.int .i64 a1_0) := (blk_cell BK218.out 0).trans rfl
      have hcz28_1 : wr.cell? ⟨gb218, 1, none⟩ = some (.int .i64 a1_1) := (blk_cell BK218.out 1).trans rfl
      have hfz28_0 := blk_frozen BK218.out 0
      have hfz28_1 := blk_frozen BK218.out 1
      go_wp2_with (first | ((with_reducible refine gate_builtin (b := .append) (xs := #[.tmp 38, .tmp 40]) rfl ?_); at_builtin; refine Kd.R_append k46 (w0 := w) w.heap.size rfl (.tmp 38) (.tmp 40) 35 46 (.agg #[(.int .i64 0), (.int .i64 0)]) 16 rfl Tryz.underlying35 info46 rfl (by decide) (by omega) u5 x5_1 (⟨a1_0, a1_1⟩ : S46) [.int .i64 a1_0, .int .i64 a1_1] (fun k_ => k_ ≠ gb218) (fun _ => False) rfl rfl ?aP (fun _ hk => hk.elim) ?aF ?aO ?aB ?aS ?aL ?_; (case aP => exact k46_mkM _ _ _ (⟨a1_0, a1_1⟩ : S46)); (case aB => exact (bl1_ GE218.out)); (case aF => exact (fun k_ hk => Kd.freshB (g := gb218) (o := .cells #[.int .i64 a1_0, .int .i64 a1_1] 46 (0, 0)) (bk_ BK218.out) k_ hk)); (case aO => exact (ra_ HO_5.out)); (case aS => exact (below_size (bl1_ GE218.out))); (case aL => have := LMc27.out; omega); intro v240 w29 ho hb hg hat; rw [← Ny239.out] at ho; replace BK218 := a0_ (blk_grown (g := gb218) (o := .cells #[.int .i64 a1_0, .int .i64 a1_1] 46 (0, 0)) (bk_ BK218.out) hg (Kd.R_away HO_5.out (fun _ hk => hk))); replace HB := a0_ (hb); have HO241 := a0_ (ho); clear HO_5; clear ho hb hg hat))
      go_ret
      exact ⟨_, er_, by (with_reducible repeat (first | apply Kd.R_alloc | apply Kd.R_drewN | apply Kd.R_drew)); exact Kd.R_mono HO241.out (fun _ hk => trivial), bl1_ GE218.out⟩
     ·rw [if_neg c27] at H
      exact absurd H (by simp)

/-! ### spec_l02Sort: function 96 -/
def spec_l02Sort.l0 : Nat → List (S46) → List (S46) → Int → Option ((List (S46)))
 | 0, _, _, _ => none
 | k + 1, x0, x3, x4 => if x4 < (x0.length : Int) then (if 0 ≤ x4 then ((spec_l02Insert.f k x3 ((rd_T46 x0 x4).f0) ((rd_T46 x0 x4).f1)).bind fun t246 => (spec_l02Sort.l0 k x0 t246 (wrap64 (x4 + 1)))) else (none)) else (some x3)
def spec_l02Sort.f (k : Nat) (l0 : List (S46)) : Option ((List (S46))) := spec_l02Sort.l0 k l0 (([] : List (S46))) 0
theorem spec_l02Sort.mono_l : ∀ k, (∀ y0 y1 y2, LeO (spec_l02Sort.l0 k y0 y1 y2) (spec_l02Sort.l0 (k + 1) y0 y1 y2))
 | 0 => fun _ _ _ r h => by simp [spec_l02Sort.l0] at h
 | k + 1 => by
  have ih0 := spec_l02Sort.mono_l k
  ·intro y0 y1 y2
   unfold spec_l02Sort.l0
   with_reducible (repeat' first | exact ih0 _ _ _ | exact spec_l02Insert.mono _ _ _ _ | exact LeO.refl _ | exact LeO.none _ | refine LeO.ite ?_ ?_ | refine LeO.bind ?_ (fun _ => ?_))
theorem spec_l02Sort.mono : ∀ a0 k, LeO (spec_l02Sort.f k a0) (spec_l02Sort.f (k + 1) a0) := by
 intro a0 k
 have ih0 := spec_l02Sort.mono_l k
 unfold spec_l02Sort.f
 with_reducible (repeat' first | exact ih0 _ _ _ | exact spec_l02Insert.mono _ _ _ _ | exact LeO.refl _ | exact LeO.none _ | refine LeO.ite ?_ ?_ | refine LeO.bind ?_ (fun _ => ?_))
set_option maxHeartbeats 8000000 in
set_option maxRecDepth 100000 in
theorem spec_l02Sort.calls (k : Nat) (A0 : Option Addr) (c0 : Nat) (l0 : List (S46)) (r : List (S46)) (w : World) (hr0 : Kd.C k46 w A0 l0.length l0) (hc0 : l0.length ≤ c0) (h : spec_l02Sort.f k l0 = some r) :
  Calls Tryz.prog 96 #[.slice A0 l0.length c0] w fun e w' => ∃ v0_ : Value, e = .returned (v0_) ∧ Kd.R k46 46 w' w.heap.size (fun _ => True) v0_ r ∧ Below w.heap.size w w' := by
 have hu46 := Tryz.underlying46
 have HR0 := Aside0.mk hr0
 have HC0 := Aside0.mk hc0
 clear hr0 hc0
 have HB := a0_ (Below.refl w.heap.size w)
 have H : (spec_l02Sort.l0 k l0 (([] : List (S46))) 0) = some r := h
 clear h
 obtain ⟨y242, hy242⟩ : ∃ y_ : List (S46), y_ = (([] : List (S46))) := ⟨_, rfl⟩
 replace H : (spec_l02Sort.l0 k l0 y242 0) = some r := hh_ hy242 H
 have Ny242 := Aside0.mk hy242
 clear hy242
 have H' := Aside0.mk H
 clear H
 go_enter Tryz.func96, Tryz.ntmps96
 go_wp2_with (first | ((with_reducible refine gate_dst (N := 5) rfl ?_); refine Kd.R_lit k46 _ 46 ?hg (N := 5) ?hd (xs := ([] : List (S46))) (inner := []) (ok := fun _ => True) (okp := fun _ => True) ?hr ?hp (fun _ hk => hk) trivial (Below.refl _ _) (Nat.le_refl _) (by simp) ?_; (case hd => rfl); (case hg => rfl); (case hr => first | (go_simp; done) | (go_simp; rfl)); (case hp => exact (Reps.none _ _)); intro v243 w2 ho3 hb hg_ hnew_; clear hg_ hnew_; (first | rw [← Ny242.out] at ho3 | (simp only [Int.reduceToNat] at ho3; rw [← Ny242.out] at ho3)); have HO244 := a0_ (Kd.R_lower ho3 (below_size (bl0_))); replace HB := a0_ (below_step (bl0_) hb); clear hb ho3))
 go_loopg [3, 4] k (fun kq v3 v4 w' => ∃ (x3_1 : List (S46)) (x4_1 : Int), v4 = .int .i64 x4_1 ∧ Aside0 (spec_l02Sort.l0 kq l0 x3_1 x4_1 = some r) ∧ Aside0 (kq ≤ k) ∧ Aside0 (Kd.R k46 46 w' w.heap.size (fun _ => True) v3 x3_1) ∧ Aside0 (Below w.heap.size w w'))
 case atStart => exact ⟨(y242), (0), rs_, H', ⟨Nat.le_refl _⟩, ⟨ra_ HO244.out⟩, ⟨bl0_⟩⟩
 case round =>
  clear H'
  try clear p2
  obtain ⟨x3_1, x4_1, rfl, HA, HK1, HO_3, HB⟩ := hrel
  cases gk with
  | zero => exact absurd HA.out (by simp [spec_l02Sort.l0])
  | succ k1 =>
   have H := HA.out
   clear HA
   simp only [spec_l02Sort.l0] at H
   by_cases c4 : x4_1 < (l0.length : Int)
   ·rw [if_pos c4] at H
    have c4b0 : decide (x4_1 < (l0.length : Int)) = true := decide_eq_true c4
    clear c4
    by_cases c5 : 0 ≤ x4_1
    ·rw [if_pos c5] at H
     have c5b0 : decide (0 ≤ x4_1) = true := decide_eq_true c5
     clear c5
     obtain ⟨t246, A6, H⟩ := bs_ H
     have H' := Aside0.mk H
     clear H
     have p245 : 0 ≤ (x4_1 : Int) := od_
     have q245 : x4_1 < (l0.length : Int) := od_
     obtain ⟨ad245, e245, hx245_0, hx245_1⟩ := at_T46 HR0.out x4_1 p245 q245
     cases e245
     replace hx245_0 := (HB.out.cell (World.block_lt_of_cell? w _ hx245_0)).trans hx245_0
     replace hx245_1 := (HB.out.cell (World.block_lt_of_cell? w _ hx245_1)).trans hx245_1
     replace p245 := eq_true p245
     replace q245 := eq_true q245
     obtain ⟨Ao7, co7, eo7⟩ := Kd.R_slice HO_3.out
     subst eo7
     go_wp2_with (first | ((with_reducible refine gate_callee (f := 86) rfl ?_); refine goesL_ (some 17) rfl rfl Tryz.func86 kr_ rfl #[.slice Ao7 x3_1.length co7, .agg #[.int .i64 ((rd_T46 l0 x4_1).f0), .int .i64 ((rd_T46 l0 x4_1).f1)]] rfl ta_ ?_; (with_reducible refine (spec_l02Insert.calls k1 _ _ x3_1 ((rd_T46 l0 x4_1).f0) ((rd_T46 l0 x4_1).f1) t246 _ ?side1 ?side2 A6.out).mono ?_); (case side1 => exact ca_ (Kd.R_reads' HO_3.out).2.2); (case side2 => exact (Kd.R_reads' HO_3.out).2.1); rintro e w8 ⟨v247, rfl, ho0, hb⟩; refine ⟨_, rfl, ?_⟩; have HO248 := a0_ (Kd.R_lower (Kd.R_new' ho0 (Kd.R_lt (ra_ HO_3.out))) (below_size (bl0_))); replace HO_3 := a0_ (Kd.R_elder' (ra_ HO_3.out) (Kd.R_base ho0) hb); replace HB := a0_ (below_step (bl0_) hb); (try clear hb); (try clear hb2); (try clear hk); (try clear hi); (try clear ho0)))
     go_roundg k1
     case measure => have := HK1.out; omega
     case rel => exact ⟨(t246), (wrap64 (x4_1 + 1)), rs_, H', ⟨by have := HK1.out; omega⟩, ⟨by (with_reducible repeat (first | apply Kd.R_alloc | apply Kd.R_drewN | apply Kd.R_drew)); exact Kd.R_mono HO248.out (fun _ hk => trivial)⟩, ⟨bl0_⟩⟩
    ·rw [if_neg c5] at H
     exact absurd H (by simp)
   ·rw [if_neg c4] at H
    have c4b0 : decide (x4_1 < (l0.length : Int)) = false := decide_eq_false c4
    clear c4
    obtain rfl := Option.some.inj H
    go_wp2
    go_ret
    exact ⟨_, er_, ra_ HO_3.out, bl0_⟩

/-! ### spec_l07Turn: function 123 -/
mutual
def spec_l07Turn.j0 : Nat → Int → Int → Int → Option (Int × Int)
 | 0, _, _, _ => none
 | k + 1, x1, x250000, x250001 => spec_l07Turn.l0 k (Int.tmod x1 6) x250000 x250001
def spec_l07Turn.l0 : Nat → Int → Int → Int → Option (Int × Int)
 | 0, _, _, _ => none
 | k + 1, x5, x250000, x250001 => if x5 > 0 then (spec_l07Turn.l0 k (wrap64 (x5 - 1)) (wrap64 (-x250001)) (wrap64 (x250000 + x250001))) else (some (x250000, x250001))
end
def spec_l07Turn.f (k : Nat) (a0_0 : Int) (a0_1 : Int) (a1 : Int) : Option (Int × Int) := if a1 ≥ 6 then (spec_l07Turn.j0 k a1 a0_1 a0_0) else (spec_l07Turn.j0 k a1 a0_0 a0_1)
theorem spec_l07Turn.mono_l : ∀ k, (∀ y0 y1 y2, LeO (spec_l07Turn.j0 k y0 y1 y2) (spec_l07Turn.j0 (k + 1) y0 y1 y2)) ∧ (∀ y0 y1 y2, LeO (spec_l07Turn.l0 k y0 y1 y2) (spec_l07Turn.l0 (k + 1) y0 y1 y2))
 | 0 => ⟨fun _ _ _ r h => by simp [spec_l07Turn.j0] at h, fun _ _ _ r h => by simp [spec_l07Turn.l0] at h⟩
 | k + 1 => by
  obtain ⟨ih0, ih1⟩ := spec_l07Turn.mono_l k
  refine ⟨?_, ?_⟩
  ·intro y0 y1 y2
   unfold spec_l07Turn.j0
   with_reducible (repeat' first | exact ih0 _ _ _ | exact ih1 _ _ _ | exact LeO.refl _ | exact LeO.none _ | refine LeO.ite ?_ ?_ | refine LeO.bind ?_ (fun _ => ?_))
  ·intro y0 y1 y2
   unfold spec_l07Turn.l0
   with_reducible (repeat' first | exact ih0 _ _ _ | exact ih1 _ _ _ | exact LeO.refl _ | exact LeO.none _ | refine LeO.ite ?_ ?_ | refine LeO.bind ?_ (fun _ => ?_))
theorem spec_l07Turn.mono : ∀ a0 a1 a2 k, LeO (spec_l07Turn.f k a0 a1 a2) (spec_l07Turn.f (k + 1) a0 a1 a2) := by
 intro a0 a1 a2 k
 obtain ⟨ih0, ih1⟩ := spec_l07Turn.mono_l k
 unfold spec_l07Turn.f
 with_reducible (repeat' first | exact ih0 _ _ _ | exact ih1 _ _ _ | exact LeO.refl _ | exact LeO.none _ | refine LeO.ite ?_ ?_ | refine LeO.bind ?_ (fun _ => ?_))
set_option maxHeartbeats 8000000 in
set_option maxRecDepth 100000 in
theorem spec_l07Turn.calls (k : Nat) (a0_0 : Int) (a0_1 : Int) (a1 : Int) (r1 : Int) (r2 : Int) (w : World) (h : spec_l07Turn.f k a0_0 a0_1 a1 = some (r1, r2)) :
  Calls Tryz.prog 123 #[.agg #[.int .i64 a0_0, .int .i64 a0_1], .int .i64 a1] w fun e w' => e = .returned (.agg #[.int .i64 r1, .int .i64 r2]) ∧ Below w.heap.size w w' := by
 have hu46 := Tryz.underlying46
 have HB := a0_ (Below.refl w.heap.size w)
 have H := h
 clear h
 unfold spec_l07Turn.f at H
 have HC3 := Aside0.mk H
 clear H
 go_enter Tryz.func123, Tryz.ntmps123
 go_upto_if 7 with (first | ((with_reducible refine gate_dst (N := 2) rfl ?_); refine bx_ (N := 2) (cs := #[.int .i64 a0_0, .int .i64 a0_1]) (t := 46) ?_; intro gb249 hg w4 hbox hb; have BK249 := a0_ (hbox); have GW249 := a0_ ((sz_ hg (bl0_) : w.heap.size ≤ gb249)); have GE249 := a0_ ((sz_ hg (bl0_) : w.heap.size ≤ gb249)); replace HB := a0_ (below_step (bl0_) hb); clear hb hbox hg) | ((with_reducible refine gate_dst (N := 4) rfl ?_); refine bx_ (N := 4) (cs := #[.int .i64 0, .int .i64 0]) (t := 46) ?_; intro gb250 hg w5 hbox hb; have BK250 := a0_ (hbox); have GW250 := a0_ ((sz_ hg (bl1_ GE249.out) : w.heap.size ≤ gb250)); have GE250 := a0_ ((sz_ hg (bl1_ GE249.out) : w.heap.size ≤ gb250)); replace HB := a0_ (below_step (bl1_ GE249.out) hb); have NB249_250 := a0_ ((nl_ hg BK249.out : gb249 ≠ gb250)); have NB250_249 := a0_ ((ng_ hg BK249.out : gb250 ≠ gb249)); replace BK249 := a0_ (bb_ BK249.out hb); clear hb hbox hg))
 (try simp only [Act.put, List.setIfInBounds_toArray, List.set_cons_zero, List.set_cons_succ])
 go_cut [] (fun wc => ∃ (kq : Nat) (x250000_2 : Int) (x250001_2 : Int), Aside0 (spec_l07Turn.j0 kq a1 x250000_2 x250001_2 = some (r1, r2)) ∧ Aside0 (kq ≤ k) ∧ Aside0 (wc.heap[gb249]? = some (.cells #[.int .i64 x250000_2, .int .i64 x250001_2] 46 (0, 0))) ∧ Aside0 (wc.heap[gb250]? = some (.cells #[.int .i64 0, .int .i64 0] 46 (0, 0))) ∧ Aside0 (Below w.heap.size w wc))
 case first =>
  have H := HC3.out
  clear HC3
  by_cases c6 : a1 ≥ 6
  ·rw [if_pos c6] at H
   have c6b0 : decide (6 ≤ a1) = true := decide_eq_true c6
   clear c6
   (first | rw [c6b0] | (simp only [i64_w, i32_w]; rw [c6b0]) | skip)
   have H' := Aside0.mk H
   clear H
   have hnb7 := NB249_250.out
   have hnc7 := NB250_249.out
   have hcz8_0 : w5.cell? ⟨gb249, 0, none⟩ = some (.int .i64 a0_0) := (blk_cell BK249.out 0).trans rfl
   have hcz8_1 : w5.cell? ⟨gb249, 1, none⟩ = some (.int .i64 a0_1) := (blk_cell BK249.out 1).trans rfl
   have hfz8_0 := blk_frozen BK249.out 0
   have hfz8_1 := blk_frozen BK249.out 1
   go_wp2
   go_meet
   case rel => exact ⟨_, (a0_1), (a0_0), H', ⟨by first | omega | exact Nat.le_refl _⟩, ⟨by (with_reducible repeat (first | refine blk_drewN ?_ _ | refine blk_drew ?_ | refine blk_alloc ?_ _)); refine blk_put (cs := #[.int .i64 a0_1, .int .i64 a0_1]) ?_ 1 _ rfl; (with_reducible repeat (first | refine blk_drewN ?_ _ | refine blk_drew ?_ | refine blk_alloc ?_ _)); refine blk_put (cs := #[.int .i64 a0_0, .int .i64 a0_1]) ?_ 0 _ rfl; (with_reducible repeat (first | refine blk_drewN ?_ _ | refine blk_drew ?_ | refine blk_alloc ?_ _)); exact BK249.out⟩, ⟨bf_ BK250.out NB250_249.out⟩, ⟨bl2_ GE249.out GE250.out⟩⟩
  ·rw [if_neg c6] at H
   have c6b0 : decide (6 ≤ a1) = false := decide_eq_false c6
   clear c6
   (first | rw [c6b0] | (simp only [i64_w, i32_w]; rw [c6b0]) | skip)
   have H' := Aside0.mk H
   clear H
   go_wp2
   go_meet
   case rel => exact ⟨_, (a0_0), (a0_1), H', ⟨by first | omega | exact Nat.le_refl _⟩, ⟨bk_ BK249.out⟩, ⟨bk_ BK250.out⟩, ⟨bl2_ GE249.out GE250.out⟩⟩
 case rest =>
  clear HC3
  try clear c1
  try clear p2
  try clear c6
  try clear c6b0
  try clear c7
  try clear hcz8_0
  try clear hcz8_1
  try clear hfz8_0
  try clear hfz8_1
  obtain ⟨kq, x250000_2, x250001_2, HA, HJ2, BK249, BK250, HB⟩ := hcut
  cases kq with
  | zero => exact absurd HA.out (by simp [spec_l07Turn.j0])
  | succ kj2 =>
   have H := HA.out
   clear HA
   simp only [spec_l07Turn.j0] at H
   have H' := Aside0.mk H
   clear H
   go_wp2
   go_loopg [5] kj2 (fun kq v5 w' => ∃ (x5_2 : Int) (x250000_2 : Int) (x250001_2 : Int), v5 = .int .i64 x5_2 ∧ Aside0 (spec_l07Turn.l0 kq x5_2 x250000_2 x250001_2 = some (r1, r2)) ∧ Aside0 (kq ≤ kj2) ∧ Aside0 (w'.heap[gb249]? = some (.cells #[.int .i64 x250000_2, .int .i64 x250001_2] 46 (0, 0))) ∧ Aside0 (w'.heap[gb250]? = some (.cells #[.int .i64 0, .int .i64 0] 46 (0, 0))) ∧ Aside0 (Below w.heap.size w w'))
   case atStart => exact ⟨(Int.tmod a1 6), (x250000_2), (x250001_2), rs_, H', ⟨Nat.le_refl _⟩, ⟨bk_ BK249.out⟩, ⟨bk_ BK250.out⟩, ⟨bl2_ GE249.out GE250.out⟩⟩
   case round =>
    clear H'
    try clear c1
    try clear p2
    try clear c6
    try clear c6b0
    try clear c7
    try clear hcz8_0
    try clear hcz8_1
    try clear hfz8_0
    try clear hfz8_1
    try clear p2
    obtain ⟨x5_2, x250000_2, x250001_2, rfl, HA, HK2, BK249, BK250, HB⟩ := hrel
    cases gk with
    | zero => exact absurd HA.out (by simp [spec_l07Turn.l0])
    | succ k2 =>
     have H := HA.out
     clear HA
     simp only [spec_l07Turn.l0] at H
     by_cases c9 : x5_2 > 0
     ·rw [if_pos c9] at H
      have c9b0 : decide (0 < x5_2) = true := decide_eq_true c9
      clear c9
      have H' := Aside0.mk H
      clear H
      have hnb10 := NB249_250.out
      have hnc10 := NB250_249.out
      have hcz11_0 : wr.cell? ⟨gb249, 0, none⟩ = some (.int .i64 x250000_2) := (blk_cell BK249.out 0).trans rfl
      have hcz11_1 : wr.cell? ⟨gb249, 1, none⟩ = some (.int .i64 x250001_2) := (blk_cell BK249.out 1).trans rfl
      have hfz11_0 := blk_frozen BK249.out 0
      have hfz11_1 := blk_frozen BK249.out 1
      go_wp2
      go_roundg k2
      case measure => have := HJ2.out; have := HK2.out; omega
      case rel => exact ⟨(wrap64 (x5_2 - 1)), (wrap64 (-x250001_2)), (wrap64 (x250000_2 + x250001_2)), rs_, H', ⟨by have := HJ2.out; have := HK2.out; omega⟩, ⟨by (with_reducible repeat (first | refine blk_drewN ?_ _ | refine blk_drew ?_ | refine blk_alloc ?_ _)); refine blk_put (cs := #[.int .i64 (wrap64 (-x250001_2)), .int .i64 x250001_2]) ?_ 1 _ rfl; (with_reducible repeat (first | refine blk_drewN ?_ _ | refine blk_drew ?_ | refine blk_alloc ?_ _)); refine blk_put (cs := #[.int .i64 x250000_2, .int .i64 x250001_2]) ?_ 0 _ rfl; (with_reducible repeat (first | refine blk_drewN ?_ _ | refine blk_drew ?_ | refine blk_alloc ?_ _)); exact BK249.out⟩, ⟨bf_ BK250.out NB250_249.out⟩, ⟨bl2_ GE249.out GE250.out⟩⟩
     ·rw [if_neg c9] at H
      have c9b0 : decide (0 < x5_2) = false := decide_eq_false c9
      clear c9
      simp only [Option.some.injEq, Prod.mk.injEq] at H
      obtain ⟨rfl, rfl⟩ := H
      have hnb12 := NB249_250.out
      have hnc12 := NB250_249.out
      have hcz13_0 : wr.cell? ⟨gb249, 0, none⟩ = some (.int .i64 x250000_2) := (blk_cell BK249.out 0).trans rfl
      have hcz13_1 : wr.cell? ⟨gb249, 1, none⟩ = some (.int .i64 x250001_2) := (blk_cell BK249.out 1).trans rfl
      have hfz13_0 := blk_frozen BK249.out 0
      have hfz13_1 := blk_frozen BK249.out 1
      have hcz14_0 : wr.cell? ⟨gb250, 0, none⟩ = some (.int .i64 0) := (blk_cell BK250.out 0).trans rfl
      have hcz14_1 : wr.cell? ⟨gb250, 1, none⟩ = some (.int .i64 0) := (blk_cell BK250.out 1).trans rfl
      have hfz14_0 := blk_frozen BK250.out 0
      have hfz14_1 := blk_frozen BK250.out 1
      go_wp2
      refine bodyPost_ret (results_cell_row rfl _ _ gb250 46 #[.int .i64 x250000_2, .int .i64 x250001_2] (0, 0) _ rfl (by (with_reducible repeat (first | refine blk_drewN ?_ _ | refine blk_drew ?_ | refine blk_alloc ?_ _)); refine blk_put (cs := #[.int .i64 x250000_2, .int .i64 0]) ?_ 1 _ rfl; (with_reducible repeat (first | refine blk_drewN ?_ _ | refine blk_drew ?_ | refine blk_alloc ?_ _)); refine blk_put (cs := #[.int .i64 0, .int .i64 0]) ?_ 0 _ rfl; (with_reducible repeat (first | refine blk_drewN ?_ _ | refine blk_drew ?_ | refine blk_alloc ?_ _)); exact BK250.out) Tryz.underlying46 rfl kr_) rfl ?_
      exact ⟨er_, bl2_ GE249.out GE250.out⟩

end Go.Proofs.YtmdjkmfocgelnaaGreat.PFnTriangleShapes
