/- Over the kit's printer by a driver of mine (hprint.py), with parts by hand: functions of the program as Lean functions, and that each call comes to exactly these answers. -/
import Derived.Test.YtmdjkmfocgelnaaGreatDoorPFnExactNetsx0
import Derived.Test.YtmdjkmfocgelnaaGreatDoorPFnExactNetsx17
import Derived.Test.YtmdjkmfocgelnaaGreatDoorPFnExactNetsx20
namespace Go.Proofs.YtmdjkmfocgelnaaGreatDoor.PFnExactNets
open Go.RowKit Go.Proofs.YtmdjkmfocgelnaaGreatDoorW.PrintWords Go.Proofs.YtmdjkmfocgelnaaGreatDoorW.PrintLast Go.Proofs.YtmdjkmfocgelnaaGreatDoorW.PrintMore
attribute [local go_sem] max2_int min2_int max_two min_two max_three min_three max_four min_four   -- for this text's walks alone
set_option linter.unusedVariables false
set_option linter.unusedSimpArgs false

/-! ### laws_eqCellSS: function 7 -/
def laws_eqCellSS.l0 : Nat → List (List (S56)) → List (List (S56)) → Int → Option (Bool)
 | 0, _, _, _ => none
 | k + 1, x0, x1, x5 => if x5 < (x0.length : Int) then (if 0 ≤ x5 then (if x5 < (x1.length : Int) then ((laws_eqCellS.f k (rd_L4 x0 x5) (rd_L4 x1 x5)).bind fun t451 => (if t451 = true then (laws_eqCellSS.l0 k x0 x1 (wrap64 (x5 + 1))) else (some false))) else (none)) else (none)) else (some true)
def laws_eqCellSS.f (k : Nat) (l0 : List (List (S56))) (l1 : List (List (S56))) : Option (Bool) := if (l0.length : Int) = (l1.length : Int) then (laws_eqCellSS.l0 k l0 l1 0) else (some false)
theorem laws_eqCellSS.mono_l : ∀ k, (∀ y0 y1 y2, LeO (laws_eqCellSS.l0 k y0 y1 y2) (laws_eqCellSS.l0 (k + 1) y0 y1 y2))
 | 0 => fun _ _ _ r h => by simp [laws_eqCellSS.l0] at h
 | k + 1 => by
  have ih0 := laws_eqCellSS.mono_l k
  ·intro y0 y1 y2
   unfold laws_eqCellSS.l0
   with_reducible (repeat' first | exact ih0 _ _ _ | exact laws_eqCellS.mono _ _ _ | exact LeO.refl _ | exact LeO.none _ | refine LeO.ite ?_ ?_ | refine LeO.bind ?_ (fun _ => ?_))
theorem laws_eqCellSS.mono : ∀ a0 a1 k, LeO (laws_eqCellSS.f k a0 a1) (laws_eqCellSS.f (k + 1) a0 a1) := by
 intro a0 a1 k
 have ih0 := laws_eqCellSS.mono_l k
 unfold laws_eqCellSS.f
 with_reducible (repeat' first | exact ih0 _ _ _ | exact laws_eqCellS.mono _ _ _ | exact LeO.refl _ | exact LeO.none _ | refine LeO.ite ?_ ?_ | refine LeO.bind ?_ (fun _ => ?_))
def laws_eqCellSS.T6 : Bool × List (List Nat × List Nat) := (true, [([], []), ([], []), ([0, 1], [0, 1]), ([2], [2]), ([], []), ([], []), ([4, 5], [4, 5]), ([6], [6]), ([3, 7], [3, 7]), ([8], [8])])
def laws_eqCellSS.B6 : List Nat := [0, 0, 3, 7, 0, 0, 48, 112, 255, 511]
theorem laws_eqCellSS.tab6 : rtab .any (opsOf Tryz.f7 6) = laws_eqCellSS.T6 := by kernel_rfl
theorem laws_eqCellSS.bits6 : waitsOk laws_eqCellSS.T6.2 laws_eqCellSS.B6 = true := by kernel_rfl
set_option maxHeartbeats 8000000 in
set_option maxRecDepth 100000 in
theorem laws_eqCellSS.calls (k : Nat) (A0 : Option Addr) (c0 : Nat) (l0 : List (List (S56))) (A1 : Option Addr) (c1 : Nat) (l1 : List (List (S56))) (r : Bool) (w : World) (hr0 : Kd.C (Kd.slice 56 k56) w A0 l0.length l0) (hc0 : l0.length ≤ c0) (hr1 : Kd.C (Kd.slice 56 k56) w A1 l1.length l1) (hc1 : l1.length ≤ c1) (h : laws_eqCellSS.f k l0 l1 = some r) :
  Calls Tryz.prog 7 #[.slice A0 l0.length c0, .slice A1 l1.length c1] w fun e w' => e = .returned (.bool r) ∧ Below w.heap.size w w' := by
 have HR0 := Aside0.mk hr0
 have HC0 := Aside0.mk hc0
 clear hr0 hc0
 have HR1 := Aside0.mk hr1
 have HC1 := Aside0.mk hc1
 clear hr1 hc1
 have HB := a0_ (Below.refl w.heap.size w)
 have H := h
 clear h
 unfold laws_eqCellSS.f at H
 by_cases c3 : (l0.length : Int) = (l1.length : Int)
 ·rw [if_pos c3] at H
  have c3b0 : ((l0.length : Int) == (l1.length : Int)) = true := beq_iff_eq.mpr c3
  have c3b1 : ((l0.length : Int) != (l1.length : Int)) = false := bne_eq_false_iff_eq.mpr c3
  have c3b2 : (l0.length == l1.length) = true := by first | simpa using c3 | (simp at c3 ⊢; omega)
  clear c3
  have H' := Aside0.mk H
  clear H
  go_enter Tryz.func7, Tryz.ntmps7
  go_wp2
  go_loopg [5] k (fun kq v5 w' => ∃ (x5_1 : Int), v5 = .int .i64 x5_1 ∧ Aside0 (laws_eqCellSS.l0 kq l0 l1 x5_1 = some r) ∧ Aside0 (kq ≤ k) ∧ Aside0 (Below w.heap.size w w'))
  case atStart => exact ⟨(0), rs_, H', ⟨Nat.le_refl _⟩, ⟨bl0_⟩⟩
  case round =>
   clear H'
   try clear c1
   try clear p2
   try clear c3
   try clear c3b0
   try clear c3b1
   try clear c3b2
   obtain ⟨x5_1, rfl, HA, HK1, HB⟩ := hrel
   cases gk with
   | zero => exact absurd HA.out (by simp [laws_eqCellSS.l0])
   | succ k1 =>
    have H := HA.out
    clear HA
    simp only [laws_eqCellSS.l0] at H
    by_cases c4 : x5_1 < (l0.length : Int)
    ·rw [if_pos c4] at H
     have c4b0 : decide (x5_1 < (l0.length : Int)) = true := decide_eq_true c4
     clear c4
     by_cases c5 : 0 ≤ x5_1
     ·rw [if_pos c5] at H
      have c5b0 : decide (0 ≤ x5_1) = true := decide_eq_true c5
      clear c5
      by_cases c6 : x5_1 < (l1.length : Int)
      ·rw [if_pos c6] at H
       have c6b0 : decide (x5_1 < (l1.length : Int)) = true := decide_eq_true c6
       clear c6
       obtain ⟨t451, A7, H⟩ := bs_ H
       by_cases c8 : t451 = true
       ·subst c8
        rw [if_pos rfl] at H
        have H' := Aside0.mk H
        clear H
        try go_wp2
        replace HB := a0_ (below_drew1 HB.out)
        have p449 : 0 ≤ (x5_1 : Int) := od_
        have q449 : x5_1 < (l0.length : Int) := od_
        obtain ⟨ad449, A449_0, c449_0, e449, hx449_0, hl449_0, hi449_0⟩ := at_L4 HR0.out x5_1 p449 q449
        have hw449_0 := hx449_0
        cases e449
        replace hx449_0 := (HB.out.cell (World.block_lt_of_cell? w _ hx449_0)).trans hx449_0
        have HR449_0 := Aside0.mk hi449_0
        have HC449_0 := Aside0.mk hl449_0
        clear hi449_0 hl449_0
        replace p449 := eq_true p449
        replace q449 := eq_true q449
        have p450 : 0 ≤ (x5_1 : Int) := od_
        have q450 : x5_1 < (l1.length : Int) := od_
        obtain ⟨ad450, A450_0, c450_0, e450, hx450_0, hl450_0, hi450_0⟩ := at_L4 HR1.out x5_1 p450 q450
        have hw450_0 := hx450_0
        cases e450
        replace hx450_0 := (HB.out.cell (World.block_lt_of_cell? w _ hx450_0)).trans hx450_0
        have HR450_0 := Aside0.mk hi450_0
        have HC450_0 := Aside0.mk hl450_0
        clear hi450_0 hl450_0
        replace p450 := eq_true p450
        replace q450 := eq_true q450
        refine start_ (n := 10) (S := fun w' => w'.cell? (ad449.add (x5_1).toNat) = some (.slice A449_0 (rd_L4 l0 x5_1).length c449_0) ∧ w'.cell? (ad450.add (x5_1).toNat) = some (.slice A450_0 (rd_L4 l1 x5_1).length c450_0)) (ds := []) (mk_ 0 10) kr_ rfl rfl ⟨((HB.out.cell (World.block_lt_of_cell? w _ hw449_0)).trans hw449_0), ((HB.out.cell (World.block_lt_of_cell? w _ hw450_0)).trans hw450_0)⟩ (fun hHeld => ?_); refine with_tabW laws_eqCellSS.tab6 laws_eqCellSS.bits6 (fun HT_ HW_ => ?_)
        generalize wr.drew = w9 at HB HR449_0 HR450_0 hx449_0 hx450_0 hHeld ⊢
        refine pu_ 0 (some 17) (mk_ 1 9) HT_ ?_
        refine pu_ 1 (some 18) (mk_ 2 8) HT_ ?_
        refine pu_ 2 (some 19) (mk_ 3 7) HT_ ?_
        refine pu_ 4 (some 21) #[true, true, true, false, true, false, false, false, false, false] HT_ ?_
        refine pu_ 5 (some 22) #[true, true, true, false, true, true, false, false, false, false] HT_ ?_
        refine pu_ 6 (some 23) #[true, true, true, false, true, true, true, false, false, false] HT_ ?_
        refine tk_ 3 (some 20) (mk_ 7 3) HT_ HW_ hHeld (hy := .inl ⟨by rfl, by rintro w' ⟨s0, s1⟩; go_simp; with_reducible rfl⟩) ?_
        refine tk_ 7 (some 24) (mk_ 8 2) HT_ HW_ hHeld (hy := .inl ⟨by rfl, by rintro w' ⟨s0, s1⟩; go_simp; with_reducible rfl⟩) ?_
        refine one_ (i := 8) (N := some 25) (mk_ 9 1) rfl rfl (one_of HT_.out kr_) (by decide) (fun K hK => ?_)
        refine goes_ Tryz.func24 kr_ rfl #[.slice A449_0 (rd_L4 l0 x5_1).length c449_0, .slice A450_0 (rd_L4 l1 x5_1).length c450_0] (by rfl) rfl rfl ta_ ?_
        with_reducible refine (laws_eqCellS.calls k1 _ _ (rd_L4 l0 x5_1) _ _ (rd_L4 l1 x5_1) true _ ?side1 ?side2 ?side3 ?side4 A7.out).mono ?_
        (case side1 => exact ca_ (Kd.C_below HR449_0.out HB.out))
        (case side2 => exact HC449_0.out)
        (case side3 => exact ca_ (Kd.C_below HR450_0.out HB.out))
        (case side4 => exact HC450_0.out)
        rintro e w10 ⟨rfl, hb⟩
        refine ⟨_, rfl, ?_⟩
        replace HB := a0_ (below_step (bl0_) hb)
        (try clear hb)
        (try clear hb2)
        (try clear hk)
        (try clear hi)
        refine hK.out _ _ ⟨((HB.out.cell (World.block_lt_of_cell? w _ hw449_0)).trans hw449_0), ((HB.out.cell (World.block_lt_of_cell? w _ hw450_0)).trans hw450_0)⟩ (fun hHeld => ?_)
        clear hK K
        refine nm_ ?_
        refine pu_ 9 (some 26) (mk_ 10 0) HT_ ?_
        refine done_ (done_of HT_.out kr_) ?_
        try go_wp2
        go_roundg k1
        case measure => have := HK1.out; omega
        case rel => exact ⟨(wrap64 (x5_1 + 1)), rs_, H', ⟨by have := HK1.out; omega⟩, ⟨bl0_⟩⟩
       ·replace c8 := Bool.eq_false_iff.mpr c8
        subst c8
        rw [if_neg (show ¬ (false = true) by decide)] at H
        obtain rfl := Option.some.inj H
        try go_wp2
        replace HB := a0_ (below_drew1 HB.out)
        have p449 : 0 ≤ (x5_1 : Int) := od_
        have q449 : x5_1 < (l0.length : Int) := od_
        obtain ⟨ad449, A449_0, c449_0, e449, hx449_0, hl449_0, hi449_0⟩ := at_L4 HR0.out x5_1 p449 q449
        have hw449_0 := hx449_0
        cases e449
        replace hx449_0 := (HB.out.cell (World.block_lt_of_cell? w _ hx449_0)).trans hx449_0
        have HR449_0 := Aside0.mk hi449_0
        have HC449_0 := Aside0.mk hl449_0
        clear hi449_0 hl449_0
        replace p449 := eq_true p449
        replace q449 := eq_true q449
        have p450 : 0 ≤ (x5_1 : Int) := od_
        have q450 : x5_1 < (l1.length : Int) := od_
        obtain ⟨ad450, A450_0, c450_0, e450, hx450_0, hl450_0, hi450_0⟩ := at_L4 HR1.out x5_1 p450 q450
        have hw450_0 := hx450_0
        cases e450
        replace hx450_0 := (HB.out.cell (World.block_lt_of_cell? w _ hx450_0)).trans hx450_0
        have HR450_0 := Aside0.mk hi450_0
        have HC450_0 := Aside0.mk hl450_0
        clear hi450_0 hl450_0
        replace p450 := eq_true p450
        replace q450 := eq_true q450
        refine start_ (n := 10) (S := fun w' => w'.cell? (ad449.add (x5_1).toNat) = some (.slice A449_0 (rd_L4 l0 x5_1).length c449_0) ∧ w'.cell? (ad450.add (x5_1).toNat) = some (.slice A450_0 (rd_L4 l1 x5_1).length c450_0)) (ds := []) (mk_ 0 10) kr_ rfl rfl ⟨((HB.out.cell (World.block_lt_of_cell? w _ hw449_0)).trans hw449_0), ((HB.out.cell (World.block_lt_of_cell? w _ hw450_0)).trans hw450_0)⟩ (fun hHeld => ?_); refine with_tabW laws_eqCellSS.tab6 laws_eqCellSS.bits6 (fun HT_ HW_ => ?_)
        generalize wr.drew = w11 at HB HR449_0 HR450_0 hx449_0 hx450_0 hHeld ⊢
        refine pu_ 0 (some 17) (mk_ 1 9) HT_ ?_
        refine pu_ 1 (some 18) (mk_ 2 8) HT_ ?_
        refine pu_ 2 (some 19) (mk_ 3 7) HT_ ?_
        refine pu_ 4 (some 21) #[true, true, true, false, true, false, false, false, false, false] HT_ ?_
        refine pu_ 5 (some 22) #[true, true, true, false, true, true, false, false, false, false] HT_ ?_
        refine pu_ 6 (some 23) #[true, true, true, false, true, true, true, false, false, false] HT_ ?_
        refine tk_ 3 (some 20) (mk_ 7 3) HT_ HW_ hHeld (hy := .inl ⟨by rfl, by rintro w' ⟨s0, s1⟩; go_simp; with_reducible rfl⟩) ?_
        refine tk_ 7 (some 24) (mk_ 8 2) HT_ HW_ hHeld (hy := .inl ⟨by rfl, by rintro w' ⟨s0, s1⟩; go_simp; with_reducible rfl⟩) ?_
        refine one_ (i := 8) (N := some 25) (mk_ 9 1) rfl rfl (one_of HT_.out kr_) (by decide) (fun K hK => ?_)
        refine goes_ Tryz.func24 kr_ rfl #[.slice A449_0 (rd_L4 l0 x5_1).length c449_0, .slice A450_0 (rd_L4 l1 x5_1).length c450_0] (by rfl) rfl rfl ta_ ?_
        with_reducible refine (laws_eqCellS.calls k1 _ _ (rd_L4 l0 x5_1) _ _ (rd_L4 l1 x5_1) false _ ?side1 ?side2 ?side3 ?side4 A7.out).mono ?_
        (case side1 => exact ca_ (Kd.C_below HR449_0.out HB.out))
        (case side2 => exact HC449_0.out)
        (case side3 => exact ca_ (Kd.C_below HR450_0.out HB.out))
        (case side4 => exact HC450_0.out)
        rintro e w12 ⟨rfl, hb⟩
        refine ⟨_, rfl, ?_⟩
        replace HB := a0_ (below_step (bl0_) hb)
        (try clear hb)
        (try clear hb2)
        (try clear hk)
        (try clear hi)
        refine hK.out _ _ ⟨((HB.out.cell (World.block_lt_of_cell? w _ hw449_0)).trans hw449_0), ((HB.out.cell (World.block_lt_of_cell? w _ hw450_0)).trans hw450_0)⟩ (fun hHeld => ?_)
        clear hK K
        refine nm_ ?_
        refine pu_ 9 (some 26) (mk_ 10 0) HT_ ?_
        refine done_ (done_of HT_.out kr_) ?_
        try go_wp2
        go_ret
        exact ⟨er_, bl0_⟩
      ·rw [if_neg c6] at H
       exact absurd H (by simp)
     ·rw [if_neg c5] at H
      exact absurd H (by simp)
    ·rw [if_neg c4] at H
     have c4b0 : decide (x5_1 < (l0.length : Int)) = false := decide_eq_false c4
     clear c4
     obtain rfl := Option.some.inj H
     go_wp2
     go_ret
     exact ⟨er_, bl0_⟩
 ·rw [if_neg c3] at H
  have c3b0 : ((l0.length : Int) == (l1.length : Int)) = false := beq_eq_false_iff_ne.mpr c3
  have c3b1 : ((l0.length : Int) != (l1.length : Int)) = true := bne_iff_ne.mpr c3
  have c3b2 : (l0.length == l1.length) = false := by first | simpa using c3 | (simp at c3 ⊢; omega)
  obtain rfl := Option.some.inj H
  go_enter Tryz.func7, Tryz.ntmps7
  go_wp2
  go_ret
  exact ⟨er_, bl0_⟩

/-! ### laws_markCellS: function 25 -/
def laws_markCellS.l0 : Nat → List (S56) → Int → Int → Option (Int × (List (S56)))
 | 0, _, _, _ => none
 | k + 1, x0, x1, x5 => if x5 < (x0.length : Int) then (if 0 ≤ x5 then ((some (x0.set (x5 : Int).toNat (⟨x1, (rd_T56 x0 x5).f1⟩ : S56) : List (S56))).bind fun y452 => (laws_markCellS.l0 k (y452.set (x5 : Int).toNat (⟨(rd_T56 y452 x5).f0, wrap64 (x1 + 1)⟩ : S56)) (wrap64 ((wrap64 (x1 + 1)) + 1)) (wrap64 (x5 + 1)))) else (none)) else (some (x1, x0))
def laws_markCellS.f (k : Nat) (l0 : List (S56)) (a1 : Int) : Option (Int × (List (S56))) := laws_markCellS.l0 k l0 a1 0
theorem laws_markCellS.mono_l : ∀ k, (∀ y0 y1 y2, LeO (laws_markCellS.l0 k y0 y1 y2) (laws_markCellS.l0 (k + 1) y0 y1 y2))
 | 0 => fun _ _ _ r h => by simp [laws_markCellS.l0] at h
 | k + 1 => by
  have ih0 := laws_markCellS.mono_l k
  ·intro y0 y1 y2
   unfold laws_markCellS.l0
   with_reducible (repeat' first | exact ih0 _ _ _ | exact LeO.refl _ | exact LeO.none _ | refine LeO.ite ?_ ?_ | refine LeO.bind ?_ (fun _ => ?_))
theorem laws_markCellS.mono : ∀ a0 a1 k, LeO (laws_markCellS.f k a0 a1) (laws_markCellS.f (k + 1) a0 a1) := by
 intro a0 a1 k
 have ih0 := laws_markCellS.mono_l k
 unfold laws_markCellS.f
 with_reducible (repeat' first | exact ih0 _ _ _ | exact LeO.refl _ | exact LeO.none _ | refine LeO.ite ?_ ?_ | refine LeO.bind ?_ (fun _ => ?_))
set_option maxHeartbeats 8000000 in
set_option maxRecDepth 100000 in
theorem laws_markCellS.calls (k : Nat) (P0_ : Nat → Prop) (u9000_ : Value) (l0 : List (S56)) (a1 : Int) (r1 : Int) (r2 : List (S56)) (w0 w : World) (hB : Below w0.heap.size w0 w) (ho0 : Kd.R k56 56 w w0.heap.size P0_ u9000_ l0) (h : laws_markCellS.f k l0 a1 = some (r1, r2)) :
  Calls Tryz.prog 25 #[u9000_, .int .i64 a1] w fun e w' => e = .returned (.int .i64 r1) ∧ Kd.R k56 56 w' w0.heap.size (fun k_ => (P0_ k_ ∨ w.heap.size ≤ k_)) u9000_ r2 ∧ Below w0.heap.size w0 w' ∧ Kept w w' (fun k_ => P0_ k_) := by
 have HO0 := a0_ (show Kd.R k56 56 w w0.heap.size (fun k_ => (P0_ k_ ∨ w.heap.size ≤ k_)) u9000_ l0 from Kd.R_mono ho0 (fun k_ hk => (.inl hk)))
 have HK := a0_ (Kept.refl w (fun k_ => P0_ k_))
 have HW0 := Aside0.mk hB.size
 have HB := Aside0.mk hB
 clear hB
 have H : (laws_markCellS.l0 k l0 a1 0) = some (r1, r2) := h
 clear h
 have H' := Aside0.mk H
 clear H
 go_enter Tryz.func25, Tryz.ntmps25
 go_wp2
 go_loopg [1, 5] k (fun kq v1 v5 w' => ∃ (x0_1 : List (S56)) (x1_1 : Int) (x5_1 : Int), v1 = .int .i64 x1_1 ∧ v5 = .int .i64 x5_1 ∧ Aside0 (laws_markCellS.l0 kq x0_1 x1_1 x5_1 = some (r1, r2)) ∧ Aside0 (kq ≤ k) ∧ Aside0 (Kd.R k56 56 w' w0.heap.size (fun k_ => (P0_ k_ ∨ w.heap.size ≤ k_)) u9000_ x0_1) ∧ Aside0 (Kept w w' (fun k_ => P0_ k_)) ∧ Aside0 (Below w0.heap.size w0 w'))
 case atStart => exact ⟨(l0), (a1), (0), rs_, rs_, H', ⟨Nat.le_refl _⟩, ⟨ra_ HO0.out⟩, ⟨by repeat (first | (with_reducible first | exact HK.out | apply Kept.alloc | apply Kept.drewN | apply Kept.drew) | exact HK.out)⟩, ⟨bl0_⟩⟩
 case round =>
  clear H'
  try clear c2
  try clear p2
  obtain ⟨x0_1, x1_1, x5_1, rfl, rfl, HA, HK1, HO_0, HK, HB⟩ := hrel
  cases gk with
  | zero => exact absurd HA.out (by simp [laws_markCellS.l0])
  | succ k1 =>
   have H := HA.out
   clear HA
   simp only [laws_markCellS.l0] at H
   by_cases c3 : x5_1 < (x0_1.length : Int)
   ·rw [if_pos c3] at H
    have c3b0 : decide (x5_1 < (x0_1.length : Int)) = true := decide_eq_true c3
    clear c3
    by_cases c4 : 0 ≤ x5_1
    ·rw [if_pos c4] at H
     have c4b0 : decide (0 ≤ x5_1) = true := decide_eq_true c4
     clear c4
     obtain ⟨y452, hy452⟩ : ∃ y_ : List (S56), y_ = (x0_1.set (x5_1 : Int).toNat (⟨x1_1, (rd_T56 x0_1 x5_1).f1⟩ : S56)) := ⟨_, rfl⟩
     replace H : (laws_markCellS.l0 k1 (y452.set (x5_1 : Int).toNat (⟨(rd_T56 y452 x5_1).f0, wrap64 (x1_1 + 1)⟩ : S56)) (wrap64 ((wrap64 (x1_1 + 1)) + 1)) (wrap64 (x5_1 + 1))) = some (r1, r2) := hh_ hy452 H
     have Ny452 := Aside0.mk hy452
     clear hy452
     obtain ⟨y453, hy453⟩ : ∃ y_ : List (S56), y_ = (y452.set (x5_1 : Int).toNat (⟨(rd_T56 y452 x5_1).f0, wrap64 (x1_1 + 1)⟩ : S56)) := ⟨_, rfl⟩
     replace H : (laws_markCellS.l0 k1 y453 (wrap64 ((wrap64 (x1_1 + 1)) + 1)) (wrap64 (x5_1 + 1))) = some (r1, r2) := hh_ hy453 H
     have Ny453 := Aside0.mk hy453
     clear hy453
     have H' := Aside0.mk H
     clear H
     obtain ⟨Ao7, co7, eo7⟩ := Kd.R_slice HO_0.out
     subst eo7
     have p5 : 0 ≤ (x5_1 : Int) := od_
     have q5 : (x5_1 : Int) < ((x0_1.length : Int) : Int) := od_
     obtain ⟨go5, co5, eo5, gb5, gl5, cl5, HG5⟩ := Kd.R_form HO_0.out (by omega)
     (first | cases eo5 | (injection eo5 with ea_ en_ ec_; (first | subst ea_ | (injection ea_ with ea_; subst ea_)); subst ec_; clear en_))
     have GB5 := Aside0.mk gb5
     have GG5 := Aside0.mk HG5
     clear gb5 gl5 HG5
     have HMgo5 := a0_ (show (P0_ go5 ∨ w.heap.size ≤ go5) from (HO_0.out.1 _ rfl))
     obtain ⟨ce5, hcl5, hM5, hcc5, hfr5⟩ := Kd.R_elem HO_0.out z56 (x5_1 : Int) p5 q5
     obtain rfl := k56_openM hM5
     have hx5_0 : wr.cell? ⟨go5, (x5_1 : Int).toNat * 2, none⟩ = some (.int .i64 ((rd_T56 x0_1 x5_1).f0)) := hcc5 0 _ rfl
     have hx5_1 : wr.cell? ⟨go5, (x5_1 : Int).toNat * 2 + 1, none⟩ = some (.int .i64 ((rd_T56 x0_1 x5_1).f1)) := hcc5 1 _ rfl
     have hf5_0 : wr.frozen? ⟨go5, (x5_1 : Int).toNat * 2, none⟩ = false := hfr5 0
     have hf5_1 : wr.frozen? ⟨go5, (x5_1 : Int).toNat * 2 + 1, none⟩ = false := hfr5 1
     clear hcl5 hcc5 hfr5 hM5
     replace p5 := eq_true p5
     replace q5 := eq_true q5
     have HX8 := a0_ (show Kd.R k56 56 wr w0.heap.size (fun k_ => (P0_ k_ ∨ w.heap.size ≤ k_)) (.slice (some ⟨go5, 0, none⟩) x0_1.length co7) x0_1 from (ra_ HO_0.out))
     obtain ⟨ce8, hcl8, hM8, hcc8, hfr8⟩ := Kd.R_elem HX8.out z56 (x5_1 : Int) (od_) (by have h_ : (x5_1 : Int) < ((x0_1.length : Int) : Int) := od_; first | exact h_ | (have e_ := (Kd.R_reads' HO_0.out).1; omega) | simpa using h_)
     obtain rfl := k56_openM hM8
     have HP8 := Kd.R_seg HX8.out (x5_1 : Int) (od_) (by have h_ : (x5_1 : Int) < ((x0_1.length : Int) : Int) := od_; first | exact h_ | (have e_ := (Kd.R_reads' HO_0.out).1; omega) | simpa using h_) (seg := [.int .i64 x1_1]) (j := 0) hcl8 hcc8 (show 1 ≤ 2 from by decide) (x' := (⟨x1_1, (rd_T56 x0_1 x5_1).f1⟩ : S56)) (k56_mkM _ _ _ (⟨x1_1, (rd_T56 x0_1 x5_1).f1⟩ : S56) ) (fun _ hk => hk)
     have hx8_0 := hcc8 0 _ rfl
     (try simp only [show (k56).sz = 2 from rfl, Nat.mul_one, Nat.add_zero] at hx8_0)
     have hf8_0 := hfr8 0
     (try simp only [show (k56).sz = 2 from rfl, Nat.mul_one, Nat.add_zero] at hf8_0)
     clear hcl8 hcc8 hfr8 hM8
     go_wp2_with (first | ((with_reducible refine gate_store (t := 2) (p := 16) rfl ?_); refine store_event (t := 2) (p := 16) (v := ?vo_w9) (w1 := (wr.setCell ⟨go5, (x5_1 : Int).toNat * 2, none⟩ (.int .i64 x1_1))) ?hg ?ho ?hn ?hr ?_; (case ho => rfl); (case hg => rfl); (case hn => rfl); (case hr => first | (go_simp; done) | (go_simp; rfl)); intro w9 hw; have hg : wr.grownBy w9 (some go5) := (by rw [hw]; exact HP8.2); have hp_ : Kd.R k56 56 w9 w0.heap.size (fun k_ => (P0_ k_ ∨ w.heap.size ≤ k_)) (.slice (some ⟨go5, 0, none⟩) x0_1.length co7) y452 := (by rw [hw, Ny452.out]; exact HP8.1); clear HP8; replace HB := a0_ ((by rw [hw]; exact below_set (HB.out) GB5.out : Below w0.heap.size w0 w9)); replace HK := a0_ (Kept.of_grown (S := (fun k_ => P0_ k_)) hg (by repeat (first | (with_reducible first | exact HK.out | apply Kept.alloc | apply Kept.drewN | apply Kept.drew) | exact HK.out)) (fun k_ e_ => (HO_0.out.1 k_ e_))); replace HO_0 := a0_ (hp_); clear hg hw hp_; have p6 : 0 ≤ (x5_1 : Int) := od_; have q6 : (x5_1 : Int) < ((x0_1.length : Int) : Int) := od_; obtain ⟨ce6, hcl6, hM6, hcc6, hfr6⟩ := Kd.R_elem HO_0.out z56 (x5_1 : Int) p6 q6; obtain rfl := k56_openM hM6; have hx6_0 : w9.cell? ⟨go5, (x5_1 : Int).toNat * 2, none⟩ = some (.int .i64 ((rd_T56 y452 x5_1).f0)) := hcc6 0 _ rfl; have hx6_1 : w9.cell? ⟨go5, (x5_1 : Int).toNat * 2 + 1, none⟩ = some (.int .i64 ((rd_T56 y452 x5_1).f1)) := hcc6 1 _ rfl; have hf6_0 : w9.frozen? ⟨go5, (x5_1 : Int).toNat * 2, none⟩ = false := hfr6 0; have hf6_1 : w9.frozen? ⟨go5, (x5_1 : Int).toNat * 2 + 1, none⟩ = false := hfr6 1; clear hcl6 hcc6 hfr6 hM6; replace p6 := eq_true p6; replace q6 := eq_true q6; have HX10 := a0_ (show Kd.R k56 56 w9 w0.heap.size (fun k_ => (P0_ k_ ∨ w.heap.size ≤ k_)) (.slice (some ⟨go5, 0, none⟩) x0_1.length co7) y452 from (ra_ HO_0.out)); obtain ⟨ce10, hcl10, hM10, hcc10, hfr10⟩ := Kd.R_elem HX10.out z56 (x5_1 : Int) (od_) (by have h_ : (x5_1 : Int) < ((x0_1.length : Int) : Int) := od_; first | exact h_ | (have e_ := (Kd.R_reads' HO_0.out).1; omega) | simpa using h_); obtain rfl := k56_openM hM10; have HP10 := Kd.R_seg HX10.out (x5_1 : Int) (od_) (by have h_ : (x5_1 : Int) < ((x0_1.length : Int) : Int) := od_; first | exact h_ | (have e_ := (Kd.R_reads' HO_0.out).1; omega) | simpa using h_) (seg := [.int .i64 (wrap64 (x1_1 + 1))]) (j := 1) hcl10 hcc10 (show 2 ≤ 2 from by decide) (x' := (⟨(rd_T56 y452 x5_1).f0, wrap64 (x1_1 + 1)⟩ : S56)) (k56_mkM _ _ _ (⟨(rd_T56 y452 x5_1).f0, wrap64 (x1_1 + 1)⟩ : S56) ) (fun _ hk => hk); have hx10_1 := hcc10 1 _ rfl; (try simp only [show (k56).sz = 2 from rfl, Nat.mul_one, Nat.add_zero] at hx10_1); have hf10_1 := hfr10 1; (try simp only [show (k56).sz = 2 from rfl, Nat.mul_one, Nat.add_zero] at hf10_1); clear hcl10 hcc10 hfr10 hM10) | ((with_reducible refine gate_store (t := 2) (p := 23) rfl ?_); refine store_event (t := 2) (p := 23) (v := ?vo_w11) (w1 := (w9.setCell ⟨go5, (x5_1 : Int).toNat * 2 + 1, none⟩ (.int .i64 (wrap64 (x1_1 + 1))))) ?hg ?ho ?hn ?hr ?_; (case ho => rfl); (case hg => rfl); (case hn => rfl); (case hr => first | (go_simp; done) | (go_simp; rfl)); intro w11 hw; have hg : w9.grownBy w11 (some go5) := (by rw [hw]; exact HP10.2); have hp_ : Kd.R k56 56 w11 w0.heap.size (fun k_ => (P0_ k_ ∨ w.heap.size ≤ k_)) (.slice (some ⟨go5, 0, none⟩) x0_1.length co7) y453 := (by rw [hw, Ny453.out]; exact HP10.1); clear HP10; replace HB := a0_ ((by rw [hw]; exact below_set (HB.out) GB5.out : Below w0.heap.size w0 w11)); replace HK := a0_ (Kept.of_grown (S := (fun k_ => P0_ k_)) hg (by repeat (first | (with_reducible first | exact HK.out | apply Kept.alloc | apply Kept.drewN | apply Kept.drew) | exact HK.out)) (fun k_ e_ => (HO_0.out.1 k_ e_))); replace HO_0 := a0_ (hp_); clear hg hw hp_))
     go_roundg k1
     case measure => have := HK1.out; omega
     case rel => exact ⟨(y453), (wrap64 ((wrap64 (x1_1 + 1)) + 1)), (wrap64 (x5_1 + 1)), rs_, rs_, H', ⟨by have := HK1.out; omega⟩, ⟨ra_ HO_0.out⟩, ⟨by repeat (first | (with_reducible first | exact HK.out | apply Kept.alloc | apply Kept.drewN | apply Kept.drew) | exact HK.out)⟩, ⟨bl0_⟩⟩
    ·rw [if_neg c4] at H
     exact absurd H (by simp)
   ·rw [if_neg c3] at H
    have c3b0 : decide (x5_1 < (x0_1.length : Int)) = false := decide_eq_false c3
    clear c3
    simp only [Option.some.injEq, Prod.mk.injEq] at H
    obtain ⟨rfl, rfl⟩ := H
    obtain ⟨Ao12, co12, eo12⟩ := Kd.R_slice HO_0.out
    subst eo12
    go_wp2
    go_ret
    exact ⟨er_, ra_ HO_0.out, bl0_, by repeat (first | (with_reducible first | exact HK.out | apply Kept.alloc | apply Kept.drewN | apply Kept.drew) | exact HK.out)⟩

/-! ### laws_markCellSS: function 8 -/
/-! Marks in all rows of a row of rows: no two of them in one block. -/
def laws_markCellSS.g (k : Nat) : List (List S56) → Int → Option (Int × List (List S56))
 | [], n => some (n, [])
 | s :: r, n => (laws_markCellS.f k s n).bind fun p => (laws_markCellSS.g k r p.1).bind fun q => some (q.1, p.2 :: q.2)
theorem Dist.of_fst {cs cs' : List (Value × List S56)} (h : Dist cs) (he : cs'.map (·.1) = cs.map (·.1)) : Dist cs' := by
 have e1 : (cs.map (·.1)).Pairwise (fun p q => ∀ k, Value.ownBlock p = some k → Value.ownBlock q ≠ some k) := List.pairwise_map.2 h
 rw [← he] at e1
 exact List.pairwise_map.1 e1
theorem fst_set (cs : List (Value × List S56)) (i : Nat) (hi : i < cs.length) (x : List S56) : (cs.set i (cs[i].1, x)).map (·.1) = cs.map (·.1) := by
 rw [List.map_set]
 refine List.ext_getElem? (fun j => ?_)
 rw [List.getElem?_set]
 by_cases e : i = j
 ·subst e
  rw [if_pos rfl, if_pos (by simpa using hi), List.getElem?_map, List.getElem?_eq_getElem hi]
  rfl
 ·rw [if_neg e]
theorem mark_step {base g : Nat} {w w3 : World} {cs : List (Value × List S56)} {tail : List Value} (hr : RoR k56 56 29 base (fun _ => True) w g cs tail) (hd : Dist cs) (i : Nat) (hi : i < cs.length) {x : List S56} {ok1 : Nat → Prop} (hR : Kd.R k56 56 w3 base ok1 cs[i].1 x) (hk : Kept w w3 (fun b => some b = cs[i].1.ownBlock)) :
  RoR k56 56 29 base (fun _ => True) w3 g (cs.set i (cs[i].1, x)) tail where
 blk := by
  rw [fst_set cs i hi x]
  have hg := hk.2 g (blk_lt hr.blk) (fun e => ((hr.el _ (List.getElem_mem hi)).1 g e.symm).2 rfl)
  rw [hg]
  exact hr.blk
 el := fun p hp => by
  obtain ⟨j, hj, rfl⟩ := List.getElem_of_mem hp
  rw [List.length_set] at hj
  rw [List.getElem_set]
  by_cases e : i = j
  ·rw [if_pos e]
   exact R_ownC hR (fun k h => (hr.el _ (List.getElem_mem hi)).1 k h)
  ·rw [if_neg e]
   have hj0 := hr.el _ (List.getElem_mem hj)
   refine R_ownC (Kd.R_move (Kd.R_tight rfl hj0) (fun k h => hk.2 k (Kd.R_lt hj0 k h.symm) (fun h2 => ?_))) (fun k h => hj0.1 k h)
   have hp := List.pairwise_iff_getElem.1 hd
   rcases (by omega : i < j ∨ j < i) with c | c
   ·exact hp i j hi hj c k h2.symm h.symm
   ·exact hp j i hj hi c k h.symm h2.symm
 ge := hr.ge
 okg := trivial
set_option maxHeartbeats 4000000 in
set_option maxRecDepth 100000 in
theorem markRows_calls (k : Nat) (n m : Int) (g cap : Nat) (cs : List (Value × List S56)) (tail : List Value) (L' : List (List S56)) (w0 w : World) (hB : Below w0.heap.size w0 w) (hr : RoR k56 56 29 w0.heap.size (fun _ => True) w g cs tail) (hd : Dist cs) (hl : cs.length ≤ 1000000) (h : laws_markCellSS.g k (cs.map (·.2)) n = some (m, L')) :
  Calls Tryz.prog 8 #[.slice (some ⟨g, 0, none⟩) cs.length cap, .int .i64 n] w fun e w' => e = .returned (.int .i64 m) ∧ (∃ cs', cs'.map (·.1) = cs.map (·.1) ∧ cs'.map (·.2) = L' ∧ RoR k56 56 29 w0.heap.size (fun _ => True) w' g cs' tail) ∧ Below w0.heap.size w0 w' := by
 have HR := Aside0.mk hr
 have HB0 := Aside0.mk hB
 have HD := Aside0.mk hd
 have HL := Aside0.mk hl
 have H := Aside0.mk h
 clear hB hr hd hl h
 go_enter Tryz.func8, Tryz.ntmps8
 go_wp2
 go_loopg [1, 5] cs.length (fun kq v1 v5 w' => ∃ (i : Nat) (n : Int) (cs' : List (Value × List S56)) (rest : List (List S56)), v1 = .int .i64 n ∧ v5 = .int .i64 i ∧ Aside0 (kq + i = cs.length) ∧ Aside0 (cs'.map (·.1) = cs.map (·.1) ∧ cs'.length = cs.length ∧ laws_markCellSS.g k ((cs.drop i).map (·.2)) n = some (m, rest) ∧ L' = (cs'.take i).map (·.2) ++ rest ∧ ∀ j, i ≤ j → cs'[j]? = cs[j]?) ∧ Aside0 (RoR k56 56 29 w0.heap.size (fun _ => True) w' g cs' tail) ∧ Aside0 (Below w0.heap.size w0 w'))
 case atStart => exact ⟨0, n, cs, L', rfl, rfl, ⟨by omega⟩, ⟨rfl, rfl, H.out, rfl, fun _ _ => rfl⟩, HR, HB0⟩
 case round =>
  obtain ⟨i, n, cs', rest, rfl, rfl, HI, HE, HR1, HB⟩ := hrel
  by_cases hi : i < cs.length
  ·have d0 : decide ((i : Int) < (cs.length : Int)) = true := decide_eq_true (by omega)
   have d1 : decide (i < cs.length) = true := decide_eq_true hi
   have q0 : (0 ≤ (i : Int)) = True := eq_true (by omega)
   have q1 : ((i : Int) < (cs.length : Int)) = True := eq_true (by omega)
   have q2 : (i < cs.length) = True := eq_true hi
   obtain ⟨e1, e2, e3, e4, e5⟩ := HE.out
   have hi' : i < cs'.length := by omega
   have hci : cs'[i] = cs[i] := by
    have := e5 i (Nat.le_refl _)
    rwa [List.getElem?_eq_getElem hi', List.getElem?_eq_getElem hi, Option.some.injEq] at this
   have x0 : wr.cell? ⟨g, i, none⟩ = some cs'[i].1 := by
    rw [blk_cell HR1.out.blk, List.getElem?_toArray, List.getElem?_append_left (by simpa using hi'), List.getElem?_map, List.getElem?_eq_getElem hi']
    rfl
   rw [List.drop_eq_getElem_cons hi, List.map_cons, laws_markCellSS.g] at e3
   obtain ⟨⟨n1, s1⟩, hp, e6⟩ := Option.bind_eq_some_iff.mp e3
   obtain ⟨⟨m1, r1⟩, hq, e7⟩ := Option.bind_eq_some_iff.mp e6
   have e8 := Option.some.inj e7
   have hel := HR1.out.el _ (List.getElem_mem hi')
   obtain ⟨A0, c0, ev, l0_, r0_⟩ := Kd.R_reads hel
   have hcall := laws_markCellS.calls k (fun b => some b = cs'[i].1.ownBlock) cs'[i].1 cs'[i].2 n n1 s1 w0 wr HB.out (Kd.R_tight rfl hel) (by rw [hci]; exact hp)
   have HST := a0_ (fun (w3 : World) (ok1 : Nat → Prop) (hR : Kd.R k56 56 w3 w0.heap.size ok1 cs'[i].1 s1) (hk : Kept wr w3 (fun b => some b = cs'[i].1.ownBlock)) => mark_step HR1.out (Dist.of_fst HD.out e1) i hi' hR hk)
   have HF := a0_ (fst_set cs' i hi' s1)
   have HEN : Aside0 (m1 = m ∧ s1 :: r1 = rest ∧ laws_markCellSS.g k ((cs.drop (i + 1)).map (·.2)) n1 = some (m1, r1)) := ⟨by injection e8, by injection e8, hq⟩
   have HIL := Aside0.mk hi
   have HW := a0_ (show wrap64 ((i : Int) + 1) = ((i + 1 : Nat) : Int) by have := HL.out; unfold wrap64; omega)
   rw [ev] at x0 hcall HST HF
   generalize cs'[i].2.length = np at x0 hcall HST HF
   clear l0_ r0_ e1 e2 e3 e4 e5 e6 e7 e8 hq hp hel ev hci hi' hi
   go_wp2_with (go_at_call 25; (refine hcall.mono ?_; rintro e w3 ⟨rfl, hR, hb, hk⟩; have HR3 := a0_ (HST.out _ _ hR hk); have HB3 := Aside0.mk hb; clear hR hb hk hcall))
   go_roundg (cs.length - (i + 1))
   case measure => (have := HI.out; have := HIL.out; omega)
   case rel =>
    have hE := HE.out
    have hil := HIL.out
    refine ⟨i + 1, n1, _, r1, rfl, congrArg (Value.int .i64) HW.out, ⟨by omega⟩, ⟨HF.out.trans hE.1, by rw [List.length_set]; exact hE.2.1, by rw [HEN.out.2.2, HEN.out.1], ?_, fun j hj => ?_⟩, HR3, HB3⟩
    ·rw [hE.2.2.2.1, ← HEN.out.2.1, List.take_succ_eq_append_getElem (by rw [List.length_set]; omega), List.map_append, List.take_set_of_le (Nat.le_refl _), List.append_assoc]
     congr 1
     simp
    ·rw [List.getElem?_set_ne (by omega)]
     exact hE.2.2.2.2 j (by omega)
  ·have d0 : decide ((i : Int) < (cs.length : Int)) = false := decide_eq_false (by omega)
   have d1 : decide (i < cs.length) = false := decide_eq_false hi
   obtain ⟨e1, e2, e3, e4, e5⟩ := HE.out
   rw [List.drop_of_length_le (by omega), List.map_nil, laws_markCellSS.g] at e3
   have e6 := Option.some.inj e3
   injection e6 with e7 e8
   have HX : Aside0 (n = m ∧ cs'.map (·.1) = cs.map (·.1) ∧ cs'.map (·.2) = L') := ⟨e7, e1, by rw [e4, ← e8, List.append_nil, List.take_of_length_le (by have := HI.out; omega)]⟩
   clear e1 e2 e3 e4 e5 e7 e8 hi
   go_wp2
   go_ret
   exact ⟨congrArg (fun z => Ending.returned (Value.int .i64 z)) HX.out.1, ⟨cs', HX.out.2.1, HX.out.2.2, HR1.out⟩, HB.out⟩
theorem laws_markCellSS.calls (k : Nat) (n m : Int) (v : Value) (L L' : List (List S56)) (w0 w : World) (hB : Below w0.heap.size w0 w) (hS : Kd.S (Kd.slice 56 k56) 29 w w0.heap.size (fun _ => True) v L) (hl : L.length ≤ 1000000) (h : laws_markCellSS.g k L n = some (m, L')) :
  Calls Tryz.prog 8 #[v, .int .i64 n] w fun e w' => e = .returned (.int .i64 m) ∧ Kd.S (Kd.slice 56 k56) 29 w' w0.heap.size (fun _ => True) v L' ∧ Below w0.heap.size w0 w' := by
 rcases RD_of_S hS with ⟨rfl, rfl⟩ | ⟨g, cap, cs, tail, rfl, hcs, hct, hm, hrows, hd⟩
 ·rw [laws_markCellSS.g] at h
  have e := Option.some.inj h
  injection e with e1 e2
  subst e1 e2
  have HS := Aside0.mk hS
  have HB := Aside0.mk hB
  clear hS hB hl h
  go_enter Tryz.func8, Tryz.ntmps8
  go_wp2
  go_loopg [1, 5] 0 (fun _ v1 v5 w' => v1 = .int .i64 n ∧ v5 = .int .i64 0 ∧ Aside0 (w' = w))
  case atStart => exact ⟨rfl, rfl, ⟨rfl⟩⟩
  case round =>
   obtain ⟨rfl, rfl, HW⟩ := hrel
   go_wp2
   go_ret
   rw [HW.out]
   exact ⟨rfl, HS.out, HB.out⟩
 ·have hlen : cs.length = L.length := by rw [← hcs, List.length_map]
  rw [← hcs] at h
  have hc := markRows_calls k n m g cap cs tail L' w0 w hB hrows hd (by omega) h
  rw [hlen] at hc
  refine hc.mono ?_
  rintro e w' ⟨rfl, ⟨cs', h1, h2, h3⟩, hb⟩
  have hl2 : L.length = L'.length := by have a := congrArg List.length h1; have b := congrArg List.length h2; simp only [List.length_map] at a b; omega
  rw [hl2] at hct ⊢
  exact ⟨rfl, S_of_RD (.inr ⟨g, cap, cs', tail, rfl, h2, hct, hm, h3, Dist.of_fst hd h1⟩), hb⟩


/-! ### laws_heldCellS: function 26 -/
def laws_heldCellS.l0 : Nat → List (S56) → Int → Int → Option (Int)
 | 0, _, _, _ => none
 | k + 1, x0, x1, x5 => if x5 < (x0.length : Int) then (if 0 ≤ x5 then (if ((rd_T56 x0 x5).f0) = x1 then (if ((rd_T56 x0 x5).f1) = (wrap64 (x1 + 1)) then (laws_heldCellS.l0 k x0 (wrap64 ((wrap64 (x1 + 1)) + 1)) (wrap64 (x5 + 1))) else (some (-1))) else (some (-1))) else (none)) else (some x1)
def laws_heldCellS.f (k : Nat) (l0 : List (S56)) (a1 : Int) : Option (Int) := laws_heldCellS.l0 k l0 a1 0
theorem laws_heldCellS.mono_l : ∀ k, (∀ y0 y1 y2, LeO (laws_heldCellS.l0 k y0 y1 y2) (laws_heldCellS.l0 (k + 1) y0 y1 y2))
 | 0 => fun _ _ _ r h => by simp [laws_heldCellS.l0] at h
 | k + 1 => by
  have ih0 := laws_heldCellS.mono_l k
  ·intro y0 y1 y2
   unfold laws_heldCellS.l0
   with_reducible (repeat' first | exact ih0 _ _ _ | exact LeO.refl _ | exact LeO.none _ | refine LeO.ite ?_ ?_ | refine LeO.bind ?_ (fun _ => ?_))
theorem laws_heldCellS.mono : ∀ a0 a1 k, LeO (laws_heldCellS.f k a0 a1) (laws_heldCellS.f (k + 1) a0 a1) := by
 intro a0 a1 k
 have ih0 := laws_heldCellS.mono_l k
 unfold laws_heldCellS.f
 with_reducible (repeat' first | exact ih0 _ _ _ | exact LeO.refl _ | exact LeO.none _ | refine LeO.ite ?_ ?_ | refine LeO.bind ?_ (fun _ => ?_))
set_option maxHeartbeats 8000000 in
set_option maxRecDepth 100000 in
theorem laws_heldCellS.calls (k : Nat) (A0 : Option Addr) (c0 : Nat) (l0 : List (S56)) (a1 : Int) (r : Int) (w : World) (hr0 : Kd.C k56 w A0 l0.length l0) (hc0 : l0.length ≤ c0) (h : laws_heldCellS.f k l0 a1 = some r) :
  Calls Tryz.prog 26 #[.slice A0 l0.length c0, .int .i64 a1] w fun e w' => e = .returned (.int .i64 r) ∧ Drawn0 w w' := by
 have HR0 := Aside0.mk hr0
 have HC0 := Aside0.mk hc0
 clear hr0 hc0
 have H : (laws_heldCellS.l0 k l0 a1 0) = some r := h
 clear h
 have H' := Aside0.mk H
 clear H
 go_enter Tryz.func26, Tryz.ntmps26
 go_wp2
 go_loopg [1, 5] k (fun kq v1 v5 w' => ∃ (x1_1 : Int) (x5_1 : Int), v1 = .int .i64 x1_1 ∧ v5 = .int .i64 x5_1 ∧ Aside0 (laws_heldCellS.l0 kq l0 x1_1 x5_1 = some r) ∧ Aside0 (kq ≤ k) ∧ Drawn0 w w')
 case atStart => exact ⟨(a1), (0), rs_, rs_, H', ⟨Nat.le_refl _⟩, by repeat (first | exact Drawn0.refl _ | apply Drawn0.step)⟩
 case round =>
  clear H'
  try clear c2
  try clear p2
  obtain ⟨x1_1, x5_1, rfl, rfl, HA, HK1, ⟨m1, rfl⟩⟩ := hrel
  cases gk with
  | zero => exact absurd HA.out (by simp [laws_heldCellS.l0])
  | succ k1 =>
   have H := HA.out
   clear HA
   simp only [laws_heldCellS.l0] at H
   by_cases c3 : x5_1 < (l0.length : Int)
   ·rw [if_pos c3] at H
    have c3b0 : decide (x5_1 < (l0.length : Int)) = true := decide_eq_true c3
    clear c3
    by_cases c4 : 0 ≤ x5_1
    ·rw [if_pos c4] at H
     have c4b0 : decide (0 ≤ x5_1) = true := decide_eq_true c4
     clear c4
     by_cases c5 : ((rd_T56 l0 x5_1).f0) = x1_1
     ·rw [if_pos c5] at H
      have c5b0 : (((rd_T56 l0 x5_1).f0) == x1_1) = true := beq_iff_eq.mpr c5
      have c5b1 : (((rd_T56 l0 x5_1).f0) != x1_1) = false := bne_eq_false_iff_eq.mpr c5
      clear c5
      by_cases c6 : ((rd_T56 l0 x5_1).f1) = (wrap64 (x1_1 + 1))
      ·rw [if_pos c6] at H
       have c6b0 : (((rd_T56 l0 x5_1).f1) == (wrap64 (x1_1 + 1))) = true := beq_iff_eq.mpr c6
       have c6b1 : (((rd_T56 l0 x5_1).f1) != (wrap64 (x1_1 + 1))) = false := bne_eq_false_iff_eq.mpr c6
       clear c6
       have H' := Aside0.mk H
       clear H
       have p454 : 0 ≤ (x5_1 : Int) := od_
       have q454 : x5_1 < (l0.length : Int) := od_
       obtain ⟨ad454, e454, hx454_0, hx454_1⟩ := at_T56 HR0.out x5_1 p454 q454
       cases e454
       replace p454 := eq_true p454
       replace q454 := eq_true q454
       have p455 : 0 ≤ (x5_1 : Int) := od_
       have q455 : x5_1 < (l0.length : Int) := od_
       obtain ⟨ad455, e455, hx455_0, hx455_1⟩ := at_T56 HR0.out x5_1 p455 q455
       obtain rfl : ad454 = ad455 := (by injection e455)
       replace p455 := eq_true p455
       replace q455 := eq_true q455
       go_wp2
       go_roundg k1
       case measure => have := HK1.out; omega
       case rel => exact ⟨(wrap64 ((wrap64 (x1_1 + 1)) + 1)), (wrap64 (x5_1 + 1)), rs_, rs_, H', ⟨by have := HK1.out; omega⟩, by repeat (first | exact Drawn0.refl _ | apply Drawn0.step)⟩
      ·rw [if_neg c6] at H
       have c6b0 : (((rd_T56 l0 x5_1).f1) == (wrap64 (x1_1 + 1))) = false := beq_eq_false_iff_ne.mpr c6
       have c6b1 : (((rd_T56 l0 x5_1).f1) != (wrap64 (x1_1 + 1))) = true := bne_iff_ne.mpr c6
       obtain rfl := Option.some.inj H
       have p454 : 0 ≤ (x5_1 : Int) := od_
       have q454 : x5_1 < (l0.length : Int) := od_
       obtain ⟨ad454, e454, hx454_0, hx454_1⟩ := at_T56 HR0.out x5_1 p454 q454
       cases e454
       replace p454 := eq_true p454
       replace q454 := eq_true q454
       have p455 : 0 ≤ (x5_1 : Int) := od_
       have q455 : x5_1 < (l0.length : Int) := od_
       obtain ⟨ad455, e455, hx455_0, hx455_1⟩ := at_T56 HR0.out x5_1 p455 q455
       obtain rfl : ad454 = ad455 := (by injection e455)
       replace p455 := eq_true p455
       replace q455 := eq_true q455
       go_wp2
       go_ret
       exact ⟨by first | rfl | (simp; done) | (simp [*]; done), by repeat (first | exact Drawn0.refl _ | apply Drawn0.step)⟩
     ·rw [if_neg c5] at H
      have c5b0 : (((rd_T56 l0 x5_1).f0) == x1_1) = false := beq_eq_false_iff_ne.mpr c5
      have c5b1 : (((rd_T56 l0 x5_1).f0) != x1_1) = true := bne_iff_ne.mpr c5
      obtain rfl := Option.some.inj H
      have p454 : 0 ≤ (x5_1 : Int) := od_
      have q454 : x5_1 < (l0.length : Int) := od_
      obtain ⟨ad454, e454, hx454_0, hx454_1⟩ := at_T56 HR0.out x5_1 p454 q454
      cases e454
      replace p454 := eq_true p454
      replace q454 := eq_true q454
      go_wp2
      go_ret
      exact ⟨by first | rfl | (simp; done) | (simp [*]; done), by repeat (first | exact Drawn0.refl _ | apply Drawn0.step)⟩
    ·rw [if_neg c4] at H
     exact absurd H (by simp)
   ·rw [if_neg c3] at H
    have c3b0 : decide (x5_1 < (l0.length : Int)) = false := decide_eq_false c3
    clear c3
    obtain rfl := Option.some.inj H
    go_wp2
    go_ret
    exact ⟨by first | rfl | (simp; done) | (simp [*]; done), by repeat (first | exact Drawn0.refl _ | apply Drawn0.step)⟩

end Go.Proofs.YtmdjkmfocgelnaaGreatDoor.PFnExactNets
