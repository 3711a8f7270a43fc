/- Over the kit's printer by a driver of mine (hprint.py), with parts by hand: functions of the program as Lean functions, and that each call comes to exactly these answers. -/
import Derived.Test.YtmdjkmfocgelnaaGreatPFnTriangleShapesx0
import Derived.Test.YtmdjkmfocgelnaaGreatPFnTriangleShapesx9
namespace Go.Proofs.YtmdjkmfocgelnaaGreat.PFnTriangleShapes
open Go.RowKit Go.Proofs.YtmdjkmfocgelnaaGreatW.PrintWords Go.Proofs.YtmdjkmfocgelnaaGreatW.PrintLast Go.Proofs.YtmdjkmfocgelnaaGreatW.PrintMore
attribute [local go_sem] max2_int min2_int max_two min_two max_three min_three max_four min_four   -- for this text's walks alone
set_option linter.unusedVariables false
set_option linter.unusedSimpArgs false

/-! ### spec_CompareShapes: function 63 -/
def spec_CompareShapes.l0 : Nat → List (S46) → List (S46) → Int → Option (Int)
 | 0, _, _, _ => none
 | k + 1, x0, x1, x5 => if x5 < (x0.length : Int) then (if 0 ≤ x5 then (if x5 < (x1.length : Int) then ((spec_l02Less.f ((rd_T46 x0 x5).f0) ((rd_T46 x0 x5).f1) ((rd_T46 x1 x5).f0) ((rd_T46 x1 x5).f1)).bind fun t192 => (if t192 = true then (some (-1)) else ((spec_l02Less.f ((rd_T46 x1 x5).f0) ((rd_T46 x1 x5).f1) ((rd_T46 x0 x5).f0) ((rd_T46 x0 x5).f1)).bind fun t195 => (if t195 = true then (some 1) else (spec_CompareShapes.l0 k x0 x1 (wrap64 (x5 + 1))))))) else (none)) else (none)) else (some 0)
def spec_CompareShapes.f (k : Nat) (l0 : List (S46)) (l1 : List (S46)) : Option (Int) := if (l0.length : Int) = (l1.length : Int) then (spec_CompareShapes.l0 k l0 l1 0) else (if (l0.length : Int) < (l1.length : Int) then (some (-1)) else (some 1))
theorem spec_CompareShapes.mono_l : ∀ k, (∀ y0 y1 y2, LeO (spec_CompareShapes.l0 k y0 y1 y2) (spec_CompareShapes.l0 (k + 1) y0 y1 y2))
 | 0 => fun _ _ _ r h => by simp [spec_CompareShapes.l0] at h
 | k + 1 => by
  have ih0 := spec_CompareShapes.mono_l k
  ·intro y0 y1 y2
   unfold spec_CompareShapes.l0
   with_reducible (repeat' first | exact ih0 _ _ _ | exact LeO.refl _ | exact LeO.none _ | refine LeO.ite ?_ ?_ | refine LeO.bind ?_ (fun _ => ?_))
theorem spec_CompareShapes.mono : ∀ a0 a1 k, LeO (spec_CompareShapes.f k a0 a1) (spec_CompareShapes.f (k + 1) a0 a1) := by
 intro a0 a1 k
 have ih0 := spec_CompareShapes.mono_l k
 unfold spec_CompareShapes.f
 with_reducible (repeat' first | exact ih0 _ _ _ | exact LeO.refl _ | exact LeO.none _ | refine LeO.ite ?_ ?_ | refine LeO.bind ?_ (fun _ => ?_))
def spec_CompareShapes.T8 : Bool × List (List Nat × List Nat) := (true, [([], []), ([], []), ([0, 1], [0, 1]), ([2], [2]), ([], []), ([], []), ([4, 5], [4, 5]), ([6], [6]), ([3, 7], [3, 7])])
def spec_CompareShapes.B8 : List Nat := [0, 0, 3, 7, 0, 0, 48, 112, 255]
theorem spec_CompareShapes.tab8 : rtab .any (opsOf Tryz.f63 8) = spec_CompareShapes.T8 := by kernel_rfl
theorem spec_CompareShapes.bits8 : waitsOk spec_CompareShapes.T8.2 spec_CompareShapes.B8 = true := by kernel_rfl
def spec_CompareShapes.T10 : Bool × List (List Nat × List Nat) := (true, [([], []), ([], []), ([0, 1], [0, 1]), ([2], [2]), ([], []), ([], []), ([4, 5], [4, 5]), ([6], [6]), ([3, 7], [3, 7])])
def spec_CompareShapes.B10 : List Nat := [0, 0, 3, 7, 0, 0, 48, 112, 255]
theorem spec_CompareShapes.tab10 : rtab .any (opsOf Tryz.f63 10) = spec_CompareShapes.T10 := by kernel_rfl
theorem spec_CompareShapes.bits10 : waitsOk spec_CompareShapes.T10.2 spec_CompareShapes.B10 = true := by kernel_rfl
set_option maxHeartbeats 8000000 in
set_option maxRecDepth 100000 in
theorem spec_CompareShapes.calls (k : Nat) (A0 : Option Addr) (c0 : Nat) (l0 : List (S46)) (A1 : Option Addr) (c1 : Nat) (l1 : List (S46)) (r : Int) (w : World) (hr0 : Kd.C k46 w A0 l0.length l0) (hc0 : l0.length ≤ c0) (hr1 : Kd.C k46 w A1 l1.length l1) (hc1 : l1.length ≤ c1) (h : spec_CompareShapes.f k l0 l1 = some r) :
  Calls Tryz.prog 63 #[.slice A0 l0.length c0, .slice A1 l1.length c1] w fun e w' => e = .returned (.int .i64 r) ∧ Below w.heap.size w w' := by
 have hu46 := Tryz.underlying46
 have HR0 := Aside0.mk hr0
 have HC0 := Aside0.mk hc0
 clear hr0 hc0
 have HR1 := Aside0.mk hr1
 have HC1 := Aside0.mk hc1
 clear hr1 hc1
 have HB := a0_ (Below.refl w.heap.size w)
 have H := h
 clear h
 unfold spec_CompareShapes.f at H
 by_cases c3 : (l0.length : Int) = (l1.length : Int)
 ·rw [if_pos c3] at H
  have c3b0 : ((l0.length : Int) == (l1.length : Int)) = true := beq_iff_eq.mpr c3
  have c3b1 : ((l0.length : Int) != (l1.length : Int)) = false := bne_eq_false_iff_eq.mpr c3
  have c3b2 : (l0.length == l1.length) = true := by first | simpa using c3 | (simp at c3 ⊢; omega)
  clear c3
  have H' := Aside0.mk H
  clear H
  go_enter Tryz.func63, Tryz.ntmps63
  go_wp2
  go_loopg [5] k (fun kq v5 w' => ∃ (x5_1 : Int), v5 = .int .i64 x5_1 ∧ Aside0 (spec_CompareShapes.l0 kq l0 l1 x5_1 = some r) ∧ Aside0 (kq ≤ k) ∧ Aside0 (Below w.heap.size w w'))
  case atStart => exact ⟨(0), rs_, H', ⟨Nat.le_refl _⟩, ⟨bl0_⟩⟩
  case round =>
   clear H'
   try clear c1
   try clear p2
   try clear c3
   try clear c3b0
   try clear c3b1
   try clear c3b2
   obtain ⟨x5_1, rfl, HA, HK1, HB⟩ := hrel
   cases gk with
   | zero => exact absurd HA.out (by simp [spec_CompareShapes.l0])
   | succ k1 =>
    have H := HA.out
    clear HA
    simp only [spec_CompareShapes.l0] at H
    by_cases c4 : x5_1 < (l0.length : Int)
    ·rw [if_pos c4] at H
     have c4b0 : decide (x5_1 < (l0.length : Int)) = true := decide_eq_true c4
     clear c4
     by_cases c5 : 0 ≤ x5_1
     ·rw [if_pos c5] at H
      have c5b0 : decide (0 ≤ x5_1) = true := decide_eq_true c5
      clear c5
      by_cases c6 : x5_1 < (l1.length : Int)
      ·rw [if_pos c6] at H
       have c6b0 : decide (x5_1 < (l1.length : Int)) = true := decide_eq_true c6
       clear c6
       obtain ⟨t192, A7, H⟩ := bs_ H
       by_cases c8 : t192 = true
       ·subst c8
        rw [if_pos rfl] at H
        obtain rfl := Option.some.inj H
        try go_wp2
        replace HB := a0_ (below_drew1 HB.out)
        have p190 : 0 ≤ (x5_1 : Int) := od_
        have q190 : x5_1 < (l0.length : Int) := od_
        obtain ⟨ad190, e190, hx190_0, hx190_1⟩ := at_T46 HR0.out x5_1 p190 q190
        have hw190_1 := hx190_1
        have hw190_0 := hx190_0
        cases e190
        replace hx190_0 := (HB.out.cell (World.block_lt_of_cell? w _ hx190_0)).trans hx190_0
        replace hx190_1 := (HB.out.cell (World.block_lt_of_cell? w _ hx190_1)).trans hx190_1
        replace p190 := eq_true p190
        replace q190 := eq_true q190
        have p191 : 0 ≤ (x5_1 : Int) := od_
        have q191 : x5_1 < (l1.length : Int) := od_
        obtain ⟨ad191, e191, hx191_0, hx191_1⟩ := at_T46 HR1.out x5_1 p191 q191
        have hw191_1 := hx191_1
        have hw191_0 := hx191_0
        cases e191
        replace hx191_0 := (HB.out.cell (World.block_lt_of_cell? w _ hx191_0)).trans hx191_0
        replace hx191_1 := (HB.out.cell (World.block_lt_of_cell? w _ hx191_1)).trans hx191_1
        replace p191 := eq_true p191
        replace q191 := eq_true q191
        refine start_ (n := 9) (S := fun w' => w'.cell? (ad190.add ((x5_1).toNat * 2)) = some (.int .i64 ((rd_T46 l0 x5_1).f0)) ∧ w'.cell? ⟨(ad190.add ((x5_1).toNat * 2)).block, (ad190.add ((x5_1).toNat * 2)).off + 1, none⟩ = some (.int .i64 ((rd_T46 l0 x5_1).f1)) ∧ w'.cell? (ad191.add ((x5_1).toNat * 2)) = some (.int .i64 ((rd_T46 l1 x5_1).f0)) ∧ w'.cell? ⟨(ad191.add ((x5_1).toNat * 2)).block, (ad191.add ((x5_1).toNat * 2)).off + 1, none⟩ = some (.int .i64 ((rd_T46 l1 x5_1).f1))) (ds := []) (mk_ 0 9) kr_ rfl rfl ⟨((HB.out.cell (World.block_lt_of_cell? w _ hw190_0)).trans hw190_0), ((HB.out.cell (World.block_lt_of_cell? w _ hw190_1)).trans hw190_1), ((HB.out.cell (World.block_lt_of_cell? w _ hw191_0)).trans hw191_0), ((HB.out.cell (World.block_lt_of_cell? w _ hw191_1)).trans hw191_1)⟩ (fun hHeld => ?_); refine with_tabW spec_CompareShapes.tab8 spec_CompareShapes.bits8 (fun HT_ HW_ => ?_)
        generalize wr.drew = w9 at HB hx190_0 hx190_1 hx191_0 hx191_1 hHeld ⊢
        refine pu_ 0 (some 22) (mk_ 1 8) HT_ ?_
        refine pu_ 1 (some 23) (mk_ 2 7) HT_ ?_
        refine pu_ 2 (some 24) (mk_ 3 6) HT_ ?_
        refine pu_ 4 (some 26) #[true, true, true, false, true, false, false, false, false] HT_ ?_
        refine pu_ 5 (some 27) #[true, true, true, false, true, true, false, false, false] HT_ ?_
        refine pu_ 6 (some 28) #[true, true, true, false, true, true, true, false, false] HT_ ?_
        refine tk_ 3 (some 25) (mk_ 7 2) HT_ HW_ hHeld (hy := .inl ⟨by rfl, by rintro w' ⟨s0, s1, s2, s3⟩; go_simp; with_reducible rfl⟩) ?_
        refine tk_ 7 (some 29) (mk_ 8 1) HT_ HW_ hHeld (hy := .inl ⟨by rfl, by rintro w' ⟨s0, s1, s2, s3⟩; go_simp; with_reducible rfl⟩) ?_
        refine one_ (i := 8) (N := some 30) (mk_ 9 0) rfl rfl (one_of HT_.out kr_) (by decide) (fun K hK => ?_)
        refine goes_ Tryz.func105 kr_ rfl #[.agg #[.int .i64 ((rd_T46 l0 x5_1).f0), .int .i64 ((rd_T46 l0 x5_1).f1)], .agg #[.int .i64 ((rd_T46 l1 x5_1).f0), .int .i64 ((rd_T46 l1 x5_1).f1)]] (by rfl) rfl rfl ta_ ?_
        with_reducible refine (spec_l02Less.calls ((rd_T46 l0 x5_1).f0) ((rd_T46 l0 x5_1).f1) ((rd_T46 l1 x5_1).f0) ((rd_T46 l1 x5_1).f1) true _ A7.out).mono ?_
        rintro e w10 ⟨rfl, hb⟩
        refine ⟨_, rfl, ?_⟩
        replace HB := a0_ (below_step (bl0_) hb)
        (try clear hb)
        (try clear hb2)
        (try clear hk)
        (try clear hi)
        refine hK.out _ _ ⟨((HB.out.cell (World.block_lt_of_cell? w _ hw190_0)).trans hw190_0), ((HB.out.cell (World.block_lt_of_cell? w _ hw190_1)).trans hw190_1), ((HB.out.cell (World.block_lt_of_cell? w _ hw191_0)).trans hw191_0), ((HB.out.cell (World.block_lt_of_cell? w _ hw191_1)).trans hw191_1)⟩ (fun hHeld => ?_)
        clear hK K
        refine nm_ ?_
        refine done_ (done_of HT_.out kr_) ?_
        try go_wp2
        go_ret
        exact ⟨er_, bl0_⟩
       ·replace c8 := Bool.eq_false_iff.mpr c8
        subst c8
        rw [if_neg (show ¬ (false = true) by decide)] at H
        obtain ⟨t195, A11, H⟩ := bs_ H
        by_cases c12 : t195 = true
        ·subst c12
         rw [if_pos rfl] at H
         obtain rfl := Option.some.inj H
         try go_wp2
         replace HB := a0_ (below_drew1 HB.out)
         have p190 : 0 ≤ (x5_1 : Int) := od_
         have q190 : x5_1 < (l0.length : Int) := od_
         obtain ⟨ad190, e190, hx190_0, hx190_1⟩ := at_T46 HR0.out x5_1 p190 q190
         have hw190_1 := hx190_1
         have hw190_0 := hx190_0
         cases e190
         replace hx190_0 := (HB.out.cell (World.block_lt_of_cell? w _ hx190_0)).trans hx190_0
         replace hx190_1 := (HB.out.cell (World.block_lt_of_cell? w _ hx190_1)).trans hx190_1
         replace p190 := eq_true p190
         replace q190 := eq_true q190
         have p191 : 0 ≤ (x5_1 : Int) := od_
         have q191 : x5_1 < (l1.length : Int) := od_
         obtain ⟨ad191, e191, hx191_0, hx191_1⟩ := at_T46 HR1.out x5_1 p191 q191
         have hw191_1 := hx191_1
         have hw191_0 := hx191_0
         cases e191
         replace hx191_0 := (HB.out.cell (World.block_lt_of_cell? w _ hx191_0)).trans hx191_0
         replace hx191_1 := (HB.out.cell (World.block_lt_of_cell? w _ hx191_1)).trans hx191_1
         replace p191 := eq_true p191
         replace q191 := eq_true q191
         refine start_ (n := 9) (S := fun w' => w'.cell? (ad190.add ((x5_1).toNat * 2)) = some (.int .i64 ((rd_T46 l0 x5_1).f0)) ∧ w'.cell? ⟨(ad190.add ((x5_1).toNat * 2)).block, (ad190.add ((x5_1).toNat * 2)).off + 1, none⟩ = some (.int .i64 ((rd_T46 l0 x5_1).f1)) ∧ w'.cell? (ad191.add ((x5_1).toNat * 2)) = some (.int .i64 ((rd_T46 l1 x5_1).f0)) ∧ w'.cell? ⟨(ad191.add ((x5_1).toNat * 2)).block, (ad191.add ((x5_1).toNat * 2)).off + 1, none⟩ = some (.int .i64 ((rd_T46 l1 x5_1).f1))) (ds := []) (mk_ 0 9) kr_ rfl rfl ⟨((HB.out.cell (World.block_lt_of_cell? w _ hw190_0)).trans hw190_0), ((HB.out.cell (World.block_lt_of_cell? w _ hw190_1)).trans hw190_1), ((HB.out.cell (World.block_lt_of_cell? w _ hw191_0)).trans hw191_0), ((HB.out.cell (World.block_lt_of_cell? w _ hw191_1)).trans hw191_1)⟩ (fun hHeld => ?_); refine with_tabW spec_CompareShapes.tab8 spec_CompareShapes.bits8 (fun HT_ HW_ => ?_)
         generalize wr.drew = w13 at HB hx190_0 hx190_1 hx191_0 hx191_1 hHeld ⊢
         refine pu_ 0 (some 22) (mk_ 1 8) HT_ ?_
         refine pu_ 1 (some 23) (mk_ 2 7) HT_ ?_
         refine pu_ 2 (some 24) (mk_ 3 6) HT_ ?_
         refine pu_ 4 (some 26) #[true, true, true, false, true, false, false, false, false] HT_ ?_
         refine pu_ 5 (some 27) #[true, true, true, false, true, true, false, false, false] HT_ ?_
         refine pu_ 6 (some 28) #[true, true, true, false, true, true, true, false, false] HT_ ?_
         refine tk_ 3 (some 25) (mk_ 7 2) HT_ HW_ hHeld (hy := .inl ⟨by rfl, by rintro w' ⟨s0, s1, s2, s3⟩; go_simp; with_reducible rfl⟩) ?_
         refine tk_ 7 (some 29) (mk_ 8 1) HT_ HW_ hHeld (hy := .inl ⟨by rfl, by rintro w' ⟨s0, s1, s2, s3⟩; go_simp; with_reducible rfl⟩) ?_
         refine one_ (i := 8) (N := some 30) (mk_ 9 0) rfl rfl (one_of HT_.out kr_) (by decide) (fun K hK => ?_)
         refine goes_ Tryz.func105 kr_ rfl #[.agg #[.int .i64 ((rd_T46 l0 x5_1).f0), .int .i64 ((rd_T46 l0 x5_1).f1)], .agg #[.int .i64 ((rd_T46 l1 x5_1).f0), .int .i64 ((rd_T46 l1 x5_1).f1)]] (by rfl) rfl rfl ta_ ?_
         with_reducible refine (spec_l02Less.calls ((rd_T46 l0 x5_1).f0) ((rd_T46 l0 x5_1).f1) ((rd_T46 l1 x5_1).f0) ((rd_T46 l1 x5_1).f1) false _ A7.out).mono ?_
         rintro e w14 ⟨rfl, hb⟩
         refine ⟨_, rfl, ?_⟩
         replace HB := a0_ (below_step (bl0_) hb)
         (try clear hb)
         (try clear hb2)
         (try clear hk)
         (try clear hi)
         refine hK.out _ _ ⟨((HB.out.cell (World.block_lt_of_cell? w _ hw190_0)).trans hw190_0), ((HB.out.cell (World.block_lt_of_cell? w _ hw190_1)).trans hw190_1), ((HB.out.cell (World.block_lt_of_cell? w _ hw191_0)).trans hw191_0), ((HB.out.cell (World.block_lt_of_cell? w _ hw191_1)).trans hw191_1)⟩ (fun hHeld => ?_)
         clear hK K
         refine nm_ ?_
         refine done_ (done_of HT_.out kr_) ?_
         try go_wp2
         replace HB := a0_ (below_drew1 HB.out)
         have p193 : 0 ≤ (x5_1 : Int) := od_
         have q193 : x5_1 < (l1.length : Int) := od_
         obtain ⟨ad193, e193, hx193_0, hx193_1⟩ := at_T46 HR1.out x5_1 p193 q193
         have hw193_1 := hx193_1
         have hw193_0 := hx193_0
         obtain rfl : ad191 = ad193 := (by injection e193)
         replace hx193_0 := (HB.out.cell (World.block_lt_of_cell? w _ hx193_0)).trans hx193_0
         replace hx193_1 := (HB.out.cell (World.block_lt_of_cell? w _ hx193_1)).trans hx193_1
         replace p193 := eq_true p193
         replace q193 := eq_true q193
         have p194 : 0 ≤ (x5_1 : Int) := od_
         have q194 : x5_1 < (l0.length : Int) := od_
         obtain ⟨ad194, e194, hx194_0, hx194_1⟩ := at_T46 HR0.out x5_1 p194 q194
         have hw194_1 := hx194_1
         have hw194_0 := hx194_0
         obtain rfl : ad190 = ad194 := (by injection e194)
         replace hx194_0 := (HB.out.cell (World.block_lt_of_cell? w _ hx194_0)).trans hx194_0
         replace hx194_1 := (HB.out.cell (World.block_lt_of_cell? w _ hx194_1)).trans hx194_1
         replace p194 := eq_true p194
         replace q194 := eq_true q194
         refine start_ (n := 9) (S := fun w' => w'.cell? (ad191.add ((x5_1).toNat * 2)) = some (.int .i64 ((rd_T46 l1 x5_1).f0)) ∧ w'.cell? ⟨(ad191.add ((x5_1).toNat * 2)).block, (ad191.add ((x5_1).toNat * 2)).off + 1, none⟩ = some (.int .i64 ((rd_T46 l1 x5_1).f1)) ∧ w'.cell? (ad190.add ((x5_1).toNat * 2)) = some (.int .i64 ((rd_T46 l0 x5_1).f0)) ∧ w'.cell? ⟨(ad190.add ((x5_1).toNat * 2)).block, (ad190.add ((x5_1).toNat * 2)).off + 1, none⟩ = some (.int .i64 ((rd_T46 l0 x5_1).f1))) (ds := []) (mk_ 0 9) kr_ rfl rfl ⟨((HB.out.cell (World.block_lt_of_cell? w _ hw193_0)).trans hw193_0), ((HB.out.cell (World.block_lt_of_cell? w _ hw193_1)).trans hw193_1), ((HB.out.cell (World.block_lt_of_cell? w _ hw194_0)).trans hw194_0), ((HB.out.cell (World.block_lt_of_cell? w _ hw194_1)).trans hw194_1)⟩ (fun hHeld => ?_); refine with_tabW spec_CompareShapes.tab10 spec_CompareShapes.bits10 (fun HT_ HW_ => ?_)
         generalize w14.drew = w15 at HB hx193_0 hx193_1 hx194_0 hx194_1 hHeld ⊢
         refine pu_ 0 (some 31) (mk_ 1 8) HT_ ?_
         refine pu_ 1 (some 32) (mk_ 2 7) HT_ ?_
         refine pu_ 2 (some 33) (mk_ 3 6) HT_ ?_
         refine pu_ 4 (some 35) #[true, true, true, false, true, false, false, false, false] HT_ ?_
         refine pu_ 5 (some 36) #[true, true, true, false, true, true, false, false, false] HT_ ?_
         refine pu_ 6 (some 37) #[true, true, true, false, true, true, true, false, false] HT_ ?_
         refine tk_ 3 (some 34) (mk_ 7 2) HT_ HW_ hHeld (hy := .inl ⟨by rfl, by rintro w' ⟨s0, s1, s2, s3⟩; go_simp; with_reducible rfl⟩) ?_
         refine tk_ 7 (some 38) (mk_ 8 1) HT_ HW_ hHeld (hy := .inl ⟨by rfl, by rintro w' ⟨s0, s1, s2, s3⟩; go_simp; with_reducible rfl⟩) ?_
         refine one_ (i := 8) (N := some 39) (mk_ 9 0) rfl rfl (one_of HT_.out kr_) (by decide) (fun K hK => ?_)
         refine goes_ Tryz.func105 kr_ rfl #[.agg #[.int .i64 ((rd_T46 l1 x5_1).f0), .int .i64 ((rd_T46 l1 x5_1).f1)], .agg #[.int .i64 ((rd_T46 l0 x5_1).f0), .int .i64 ((rd_T46 l0 x5_1).f1)]] (by rfl) rfl rfl ta_ ?_
         with_reducible refine (spec_l02Less.calls ((rd_T46 l1 x5_1).f0) ((rd_T46 l1 x5_1).f1) ((rd_T46 l0 x5_1).f0) ((rd_T46 l0 x5_1).f1) true _ A11.out).mono ?_
         rintro e w16 ⟨rfl, hb⟩
         refine ⟨_, rfl, ?_⟩
         replace HB := a0_ (below_step (bl0_) hb)
         (try clear hb)
         (try clear hb2)
         (try clear hk)
         (try clear hi)
         refine hK.out _ _ ⟨((HB.out.cell (World.block_lt_of_cell? w _ hw193_0)).trans hw193_0), ((HB.out.cell (World.block_lt_of_cell? w _ hw193_1)).trans hw193_1), ((HB.out.cell (World.block_lt_of_cell? w _ hw194_0)).trans hw194_0), ((HB.out.cell (World.block_lt_of_cell? w _ hw194_1)).trans hw194_1)⟩ (fun hHeld => ?_)
         clear hK K
         refine nm_ ?_
         refine done_ (done_of HT_.out kr_) ?_
         try go_wp2
         go_ret
         exact ⟨er_, bl0_⟩
        ·replace c12 := Bool.eq_false_iff.mpr c12
         subst c12
         rw [if_neg (show ¬ (false = true) by decide)] at H
         have H' := Aside0.mk H
         clear H
         try go_wp2
         replace HB := a0_ (below_drew1 HB.out)
         have p190 : 0 ≤ (x5_1 : Int) := od_
         have q190 : x5_1 < (l0.length : Int) := od_
         obtain ⟨ad190, e190, hx190_0, hx190_1⟩ := at_T46 HR0.out x5_1 p190 q190
         have hw190_1 := hx190_1
         have hw190_0 := hx190_0
         cases e190
         replace hx190_0 := (HB.out.cell (World.block_lt_of_cell? w _ hx190_0)).trans hx190_0
         replace hx190_1 := (HB.out.cell (World.block_lt_of_cell? w _ hx190_1)).trans hx190_1
         replace p190 := eq_true p190
         replace q190 := eq_true q190
         have p191 : 0 ≤ (x5_1 : Int) := od_
         have q191 : x5_1 < (l1.length : Int) := od_
         obtain ⟨ad191, e191, hx191_0, hx191_1⟩ := at_T46 HR1.out x5_1 p191 q191
         have hw191_1 := hx191_1
         have hw191_0 := hx191_0
         cases e191
         replace hx191_0 := (HB.out.cell (World.block_lt_of_cell? w _ hx191_0)).trans hx191_0
         replace hx191_1 := (HB.out.cell (World.block_lt_of_cell? w _ hx191_1)).trans hx191_1
         replace p191 := eq_true p191
         replace q191 := eq_true q191
         refine start_ (n := 9) (S := fun w' => w'.cell? (ad190.add ((x5_1).toNat * 2)) = some (.int .i64 ((rd_T46 l0 x5_1).f0)) ∧ w'.cell? ⟨(ad190.add ((x5_1).toNat * 2)).block, (ad190.add ((x5_1).toNat * 2)).off + 1, none⟩ = some (.int .i64 ((rd_T46 l0 x5_1).f1)) ∧ w'.cell? (ad191.add ((x5_1).toNat * 2)) = some (.int .i64 ((rd_T46 l1 x5_1).f0)) ∧ w'.cell? ⟨(ad191.add ((x5_1).toNat * 2)).block, (ad191.add ((x5_1).toNat * 2)).off + 1, none⟩ = some (.int .i64 ((rd_T46 l1 x5_1).f1))) (ds := []) (mk_ 0 9) kr_ rfl rfl ⟨((HB.out.cell (World.block_lt_of_cell? w _ hw190_0)).trans hw190_0), ((HB.out.cell (World.block_lt_of_cell? w _ hw190_1)).trans hw190_1), ((HB.out.cell (World.block_lt_of_cell? w _ hw191_0)).trans hw191_0), ((HB.out.cell (World.block_lt_of_cell? w _ hw191_1)).trans hw191_1)⟩ (fun hHeld => ?_); refine with_tabW spec_CompareShapes.tab8 spec_CompareShapes.bits8 (fun HT_ HW_ => ?_)
         generalize wr.drew = w17 at HB hx190_0 hx190_1 hx191_0 hx191_1 hHeld ⊢
         refine pu_ 0 (some 22) (mk_ 1 8) HT_ ?_
         refine pu_ 1 (some 23) (mk_ 2 7) HT_ ?_
         refine pu_ 2 (some 24) (mk_ 3 6) HT_ ?_
         refine pu_ 4 (some 26) #[true, true, true, false, true, false, false, false, false] HT_ ?_
         refine pu_ 5 (some 27) #[true, true, true, false, true, true, false, false, false] HT_ ?_
         refine pu_ 6 (some 28) #[true, true, true, false, true, true, true, false, false] HT_ ?_
         refine tk_ 3 (some 25) (mk_ 7 2) HT_ HW_ hHeld (hy := .inl ⟨by rfl, by rintro w' ⟨s0, s1, s2, s3⟩; go_simp; with_reducible rfl⟩) ?_
         refine tk_ 7 (some 29) (mk_ 8 1) HT_ HW_ hHeld (hy := .inl ⟨by rfl, by rintro w' ⟨s0, s1, s2, s3⟩; go_simp; with_reducible rfl⟩) ?_
         refine one_ (i := 8) (N := some 30) (mk_ 9 0) rfl rfl (one_of HT_.out kr_) (by decide) (fun K hK => ?_)
         refine goes_ Tryz.func105 kr_ rfl #[.agg #[.int .i64 ((rd_T46 l0 x5_1).f0), .int .i64 ((rd_T46 l0 x5_1).f1)], .agg #[.int .i64 ((rd_T46 l1 x5_1).f0), .int .i64 ((rd_T46 l1 x5_1).f1)]] (by rfl) rfl rfl ta_ ?_
         with_reducible refine (spec_l02Less.calls ((rd_T46 l0 x5_1).f0) ((rd_T46 l0 x5_1).f1) ((rd_T46 l1 x5_1).f0) ((rd_T46 l1 x5_1).f1) false _ A7.out).mono ?_
         rintro e w18 ⟨rfl, hb⟩
         refine ⟨_, rfl, ?_⟩
         replace HB := a0_ (below_step (bl0_) hb)
         (try clear hb)
         (try clear hb2)
         (try clear hk)
         (try clear hi)
         refine hK.out _ _ ⟨((HB.out.cell (World.block_lt_of_cell? w _ hw190_0)).trans hw190_0), ((HB.out.cell (World.block_lt_of_cell? w _ hw190_1)).trans hw190_1), ((HB.out.cell (World.block_lt_of_cell? w _ hw191_0)).trans hw191_0), ((HB.out.cell (World.block_lt_of_cell? w _ hw191_1)).trans hw191_1)⟩ (fun hHeld => ?_)
         clear hK K
         refine nm_ ?_
         refine done_ (done_of HT_.out kr_) ?_
         try go_wp2
         replace HB := a0_ (below_drew1 HB.out)
         have p193 : 0 ≤ (x5_1 : Int) := od_
         have q193 : x5_1 < (l1.length : Int) := od_
         obtain ⟨ad193, e193, hx193_0, hx193_1⟩ := at_T46 HR1.out x5_1 p193 q193
         have hw193_1 := hx193_1
         have hw193_0 := hx193_0
         obtain rfl : ad191 = ad193 := (by injection e193)
         replace hx193_0 := (HB.out.cell (World.block_lt_of_cell? w _ hx193_0)).trans hx193_0
         replace hx193_1 := (HB.out.cell (World.block_lt_of_cell? w _ hx193_1)).trans hx193_1
         replace p193 := eq_true p193
         replace q193 := eq_true q193
         have p194 : 0 ≤ (x5_1 : Int) := od_
         have q194 : x5_1 < (l0.length : Int) := od_
         obtain ⟨ad194, e194, hx194_0, hx194_1⟩ := at_T46 HR0.out x5_1 p194 q194
         have hw194_1 := hx194_1
         have hw194_0 := hx194_0
         obtain rfl : ad190 = ad194 := (by injection e194)
         replace hx194_0 := (HB.out.cell (World.block_lt_of_cell? w _ hx194_0)).trans hx194_0
         replace hx194_1 := (HB.out.cell (World.block_lt_of_cell? w _ hx194_1)).trans hx194_1
         replace p194 := eq_true p194
         replace q194 := eq_true q194
         refine start_ (n := 9) (S := fun w' => w'.cell? (ad191.add ((x5_1).toNat * 2)) = some (.int .i64 ((rd_T46 l1 x5_1).f0)) ∧ w'.cell? ⟨(ad191.add ((x5_1).toNat * 2)).block, (ad191.add ((x5_1).toNat * 2)).off + 1, none⟩ = some (.int .i64 ((rd_T46 l1 x5_1).f1)) ∧ w'.cell? (ad190.add ((x5_1).toNat * 2)) = some (.int .i64 ((rd_T46 l0 x5_1).f0)) ∧ w'.cell? ⟨(ad190.add ((x5_1).toNat * 2)).block, (ad190.add ((x5_1).toNat * 2)).off + 1, none⟩ = some (.int .i64 ((rd_T46 l0 x5_1).f1))) (ds := []) (mk_ 0 9) kr_ rfl rfl ⟨((HB.out.cell (World.block_lt_of_cell? w _ hw193_0)).trans hw193_0), ((HB.out.cell (World.block_lt_of_cell? w _ hw193_1)).trans hw193_1), ((HB.out.cell (World.block_lt_of_cell? w _ hw194_0)).trans hw194_0), ((HB.out.cell (World.block_lt_of_cell? w _ hw194_1)).trans hw194_1)⟩ (fun hHeld => ?_); refine with_tabW spec_CompareShapes.tab10 spec_CompareShapes.bits10 (fun HT_ HW_ => ?_)
         generalize w18.drew = w19 at HB hx193_0 hx193_1 hx194_0 hx194_1 hHeld ⊢
         refine pu_ 0 (some 31) (mk_ 1 8) HT_ ?_
         refine pu_ 1 (some 32) (mk_ 2 7) HT_ ?_
         refine pu_ 2 (some 33) (mk_ 3 6) HT_ ?_
         refine pu_ 4 (some 35) #[true, true, true, false, true, false, false, false, false] HT_ ?_
         refine pu_ 5 (some 36) #[true, true, true, false, true, true, false, false, false] HT_ ?_
         refine pu_ 6 (some 37) #[true, true, true, false, true, true, true, false, false] HT_ ?_
         refine tk_ 3 (some 34) (mk_ 7 2) HT_ HW_ hHeld (hy := .inl ⟨by rfl, by rintro w' ⟨s0, s1, s2, s3⟩; go_simp; with_reducible rfl⟩) ?_
         refine tk_ 7 (some 38) (mk_ 8 1) HT_ HW_ hHeld (hy := .inl ⟨by rfl, by rintro w' ⟨s0, s1, s2, s3⟩; go_simp; with_reducible rfl⟩) ?_
         refine one_ (i := 8) (N := some 39) (mk_ 9 0) rfl rfl (one_of HT_.out kr_) (by decide) (fun K hK => ?_)
         refine goes_ Tryz.func105 kr_ rfl #[.agg #[.int .i64 ((rd_T46 l1 x5_1).f0), .int .i64 ((rd_T46 l1 x5_1).f1)], .agg #[.int .i64 ((rd_T46 l0 x5_1).f0), .int .i64 ((rd_T46 l0 x5_1).f1)]] (by rfl) rfl rfl ta_ ?_
         with_reducible refine (spec_l02Less.calls ((rd_T46 l1 x5_1).f0) ((rd_T46 l1 x5_1).f1) ((rd_T46 l0 x5_1).f0) ((rd_T46 l0 x5_1).f1) false _ A11.out).mono ?_
         rintro e w20 ⟨rfl, hb⟩
         refine ⟨_, rfl, ?_⟩
         replace HB := a0_ (below_step (bl0_) hb)
         (try clear hb)
         (try clear hb2)
         (try clear hk)
         (try clear hi)
         refine hK.out _ _ ⟨((HB.out.cell (World.block_lt_of_cell? w _ hw193_0)).trans hw193_0), ((HB.out.cell (World.block_lt_of_cell? w _ hw193_1)).trans hw193_1), ((HB.out.cell (World.block_lt_of_cell? w _ hw194_0)).trans hw194_0), ((HB.out.cell (World.block_lt_of_cell? w _ hw194_1)).trans hw194_1)⟩ (fun hHeld => ?_)
         clear hK K
         refine nm_ ?_
         refine done_ (done_of HT_.out kr_) ?_
         try go_wp2
         go_roundg k1
         case measure => have := HK1.out; omega
         case rel => exact ⟨(wrap64 (x5_1 + 1)), rs_, H', ⟨by have := HK1.out; omega⟩, ⟨bl0_⟩⟩
      ·rw [if_neg c6] at H
       exact absurd H (by simp)
     ·rw [if_neg c5] at H
      exact absurd H (by simp)
    ·rw [if_neg c4] at H
     have c4b0 : decide (x5_1 < (l0.length : Int)) = false := decide_eq_false c4
     clear c4
     obtain rfl := Option.some.inj H
     go_wp2
     go_ret
     exact ⟨er_, bl0_⟩
 ·rw [if_neg c3] at H
  have c3b0 : ((l0.length : Int) == (l1.length : Int)) = false := beq_eq_false_iff_ne.mpr c3
  have c3b1 : ((l0.length : Int) != (l1.length : Int)) = true := bne_iff_ne.mpr c3
  have c3b2 : (l0.length == l1.length) = false := by first | simpa using c3 | (simp at c3 ⊢; omega)
  by_cases c21 : (l0.length : Int) < (l1.length : Int)
  ·rw [if_pos c21] at H
   have c21b0 : decide ((l0.length : Int) < (l1.length : Int)) = true := decide_eq_true c21
   have c21b1 : decide (l0.length < l1.length) = true := decide_eq_true (Int.ofNat_lt.mp c21)
   clear c21
   obtain rfl := Option.some.inj H
   go_enter Tryz.func63, Tryz.ntmps63
   go_wp2
   go_ret
   exact ⟨er_, bl0_⟩
  ·rw [if_neg c21] at H
   have c21b0 : decide ((l0.length : Int) < (l1.length : Int)) = false := decide_eq_false c21
   have c21b1 : decide (l0.length < l1.length) = false := decide_eq_false (fun h => c21 (Int.ofNat_lt.mpr h))
   clear c21
   obtain rfl := Option.some.inj H
   go_enter Tryz.func63, Tryz.ntmps63
   go_wp2
   go_ret
   exact ⟨er_, bl0_⟩

end Go.Proofs.YtmdjkmfocgelnaaGreat.PFnTriangleShapes
