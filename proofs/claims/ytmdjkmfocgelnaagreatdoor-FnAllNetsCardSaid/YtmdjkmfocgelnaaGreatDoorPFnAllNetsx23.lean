/- Over the kit's printer by a driver of mine (hprint.py), with parts by hand: functions of the program as Lean functions, and that each call comes to exactly these answers. -/
import Derived.Test.YtmdjkmfocgelnaaGreatDoorPFnAllNetsx0
import Derived.Test.YtmdjkmfocgelnaaGreatDoorPFnAllNetsx1
import Derived.Test.YtmdjkmfocgelnaaGreatDoorPFnAllNetsx7
import Derived.Test.YtmdjkmfocgelnaaGreatDoorPFnAllNetsx11
import Derived.Test.YtmdjkmfocgelnaaGreatDoorPFnAllNetsx13
import Derived.Test.YtmdjkmfocgelnaaGreatDoorPFnAllNetsx15
import Derived.Test.YtmdjkmfocgelnaaGreatDoorPFnAllNetsx16
import Derived.Test.YtmdjkmfocgelnaaGreatDoorPFnAllNetsx19
import Derived.Test.YtmdjkmfocgelnaaGreatDoorPFnAllNetsx20
import Derived.Test.YtmdjkmfocgelnaaGreatDoorPFnAllNetsx22
namespace Go.Proofs.YtmdjkmfocgelnaaGreatDoor.PFnAllNets
open Go.RowKit Go.Proofs.YtmdjkmfocgelnaaGreatDoorW.PrintWords Go.Proofs.YtmdjkmfocgelnaaGreatDoorW.PrintLast Go.Proofs.YtmdjkmfocgelnaaGreatDoorW.PrintMore
attribute [local go_sem] max2_int min2_int max_two min_two max_three min_three max_four min_four   
set_option linter.unusedVariables false
set_option linter.unusedSimpArgs false
attribute [local go_sem high] eqA56
def laws_dice_below.f (s0_0 : List Int) (s0_1 : Int) (s0_2 : Int) (a1 : Int) : Option (Int × Int × Int) := if s0_1 < (s0_0.length : Int) then (if 0 ≤ s0_1 then (if a1 = 0 then (none) else (some (Int.tmod (wrap64 ((wrap64 (Go.bits .and .u64 ((IntKind.u64.wrap ((IntKind.u64.wrap (s0_2 * 6364136223846793005)) + 1442695040888963407)) / 8589934592) 16777215)) + (wrap64 (rd s0_0 s0_1)))) a1, wrap64 (s0_1 + 1), IntKind.u64.wrap ((IntKind.u64.wrap (s0_2 * 6364136223846793005)) + 1442695040888963407)))) else (none)) else (if a1 = 0 then (none) else (some (Int.tmod (wrap64 (Go.bits .and .u64 ((IntKind.u64.wrap ((IntKind.u64.wrap (s0_2 * 6364136223846793005)) + 1442695040888963407)) / 8589934592) 16777215)) a1, s0_1, IntKind.u64.wrap ((IntKind.u64.wrap (s0_2 * 6364136223846793005)) + 1442695040888963407))))
set_option maxHeartbeats 8000000 in
set_option maxRecDepth 100000 in
theorem laws_dice_below.calls (g : Nat) (s0_0 : List Int) (s0_1 : Int) (s0_2 : Int) (a1 : Int) (r1 : Int) (r2 : Int) (r3 : Int) (w0 w : World) (hI : IsS51 w0 w g s0_0 s0_1 s0_2) (hB : Below w0.heap.size w0 w) (h : laws_dice_below.f s0_0 s0_1 s0_2 a1 = some (r1, r2, r3)) :
  Calls Tryz.prog 15 #[.pointer (some ⟨g, 0, none⟩), .int .i64 a1] w fun e w' => e = .returned (.int .i64 r1) ∧ IsS51 w0 w' g s0_0 r2 r3 ∧ Below w0.heap.size w0 w' ∧ KeepBut w w' g none := by
 have HI0 := Aside0.mk hI
 have HK := a0_ (KeepBut.refl w g none)
 have HL := Aside0.mk hB.size
 clear hI
 have HW0 := Aside0.mk hB.size
 have HB := Aside0.mk hB
 clear hB
 have H := h
 clear h
 unfold laws_dice_below.f at H
 by_cases c3 : s0_1 < (s0_0.length : Int)
 ·rw [if_pos c3] at H
  have c3b0 : decide (s0_1 < (s0_0.length : Int)) = true := decide_eq_true c3
  clear c3
  by_cases c4 : 0 ≤ s0_1
  ·rw [if_pos c4] at H
   have c4b0 : decide (0 ≤ s0_1) = true := decide_eq_true c4
   clear c4
   by_cases c5 : a1 = 0
   ·rw [if_pos c5] at H
    exact absurd H (by simp)
   ·rw [if_neg c5] at H
    have c5b0 : (a1 == 0) = false := beq_eq_false_iff_ne.mpr c5
    have c5b1 : (a1 != 0) = true := bne_iff_ne.mpr c5
    simp only [Option.some.injEq, Prod.mk.injEq] at H
    obtain ⟨rfl, rfl, rfl⟩ := H
    obtain ⟨ASz6_0, cSz6_0, HGz6, hgz6, HSz6_0⟩ := HI0.out
    have hcz6_0 := cellS51_0 HGz6
    have hcz6_1 := cellS51_1 HGz6
    have hcz6_2 := cellS51_2 HGz6
    have hfz6_1 := blk_frozen HGz6 1
    have hfz6_2 := blk_frozen HGz6 2
    clear HGz6 hgz6
    have p574 : 0 ≤ (s0_1 : Int) := od_
    have q574 : s0_1 < (s0_0.length : Int) := od_
    obtain ⟨ad574, e574, hx574_0⟩ := Kd.at_int HSz6_0 s0_1 p574 q574
    cases e574
    have hn574_0 : ad574.block ≠ g := Nat.ne_of_lt (Nat.lt_of_lt_of_le (by have := World.block_lt_of_cell? _ _ hx574_0; first | rwa [add_block] at this | exact this) (IsS51.ge HI0.out))
    replace hx574_0 := pw_cell_below HB.out hx574_0
    replace hx574_0 := (cell_far (p := ⟨g, 2, none⟩) (by first | (rw [add_block]; exact hn574_0) | (show (Addr.add _ _).block ≠ _; rw [add_block]; exact hn574_0) | exact hn574_0) (.int .u64 (IntKind.u64.wrap ((IntKind.u64.wrap (s0_2 * 6364136223846793005)) + 1442695040888963407)))).trans hx574_0
    (try have hy574_0 := fun (n_ : Nat) => (show (((w.drewN n_).setCell ⟨g, 2, none⟩ (.int .u64 (IntKind.u64.wrap ((IntKind.u64.wrap (s0_2 * 6364136223846793005)) + 1442695040888963407))))).cell? _ = some _ from hx574_0))
    clear hn574_0
    replace p574 := eq_true p574
    replace q574 := eq_true q574
    go_enter Tryz.func15, Tryz.ntmps15
    go_wp2
    repeat (go_quiet (fail); try go_wp2)
    go_ret
    exact ⟨er_, is51_ HI0.out, bl1_ (IsS51.ge HI0.out), kb0_⟩
  ·rw [if_neg c4] at H
   exact absurd H (by simp)
 ·rw [if_neg c3] at H
  have c3b0 : decide (s0_1 < (s0_0.length : Int)) = false := decide_eq_false c3
  clear c3
  by_cases c7 : a1 = 0
  ·rw [if_pos c7] at H
   exact absurd H (by simp)
  ·rw [if_neg c7] at H
   have c7b0 : (a1 == 0) = false := beq_eq_false_iff_ne.mpr c7
   have c7b1 : (a1 != 0) = true := bne_iff_ne.mpr c7
   simp only [Option.some.injEq, Prod.mk.injEq] at H
   obtain ⟨rfl, rfl, rfl⟩ := H
   obtain ⟨ASz8_0, cSz8_0, HGz8, hgz8, HSz8_0⟩ := HI0.out
   have hcz8_0 := cellS51_0 HGz8
   have hcz8_1 := cellS51_1 HGz8
   have hcz8_2 := cellS51_2 HGz8
   have hfz8_1 := blk_frozen HGz8 1
   have hfz8_2 := blk_frozen HGz8 2
   clear HGz8 hgz8
   go_enter Tryz.func15, Tryz.ntmps15
   go_wp2
   repeat (go_quiet (fail); try go_wp2)
   go_ret
   exact ⟨er_, is51_ HI0.out, bl1_ (IsS51.ge HI0.out), kb0_⟩
def laws_likeCells.l0 : Nat → List (S56) → List (S56) → Int → Option (Bool)
 | 0, _, _, _ => none
 | k + 1, x0, x1, x5 => if x5 < (x0.length : Int) then (if 0 ≤ x5 then (if x5 < (x1.length : Int) then (if (!(((rd_T56 x0 x5).f0) == ((rd_T56 x1 x5).f0)) || (!(((rd_T56 x0 x5).f1) == ((rd_T56 x1 x5).f1)))) = true then (some false) else (laws_likeCells.l0 k x0 x1 (wrap64 (x5 + 1)))) else (none)) else (none)) else (some true)
def laws_likeCells.f (k : Nat) (l0 : List (S56)) (l1 : List (S56)) : Option (Bool) := if (l0.length : Int) = (l1.length : Int) then (laws_likeCells.l0 k l0 l1 0) else (some false)
set_option maxHeartbeats 8000000 in
set_option maxRecDepth 100000 in
theorem laws_likeCells.calls (k : Nat) (A0 : Option Addr) (c0 : Nat) (l0 : List (S56)) (A1 : Option Addr) (c1 : Nat) (l1 : List (S56)) (r : Bool) (w : World) (hr0 : Kd.C k56 w A0 l0.length l0) (hc0 : l0.length ≤ c0) (hr1 : Kd.C k56 w A1 l1.length l1) (hc1 : l1.length ≤ c1) (h : laws_likeCells.f k l0 l1 = some r) :
  Calls Tryz.prog 18 #[.slice A0 l0.length c0, .slice A1 l1.length c1] w fun e w' => e = .returned (.bool r) ∧ Drawn0 w w' := by
 have hu56 := Tryz.underlying56
 have HR0 := Aside0.mk hr0
 have HC0 := Aside0.mk hc0
 clear hr0 hc0
 have HR1 := Aside0.mk hr1
 have HC1 := Aside0.mk hc1
 clear hr1 hc1
 have H := h
 clear h
 unfold laws_likeCells.f at H
 by_cases c3 : (l0.length : Int) = (l1.length : Int)
 ·rw [if_pos c3] at H
  have c3b0 : ((l0.length : Int) == (l1.length : Int)) = true := beq_iff_eq.mpr c3
  have c3b1 : ((l0.length : Int) != (l1.length : Int)) = false := bne_eq_false_iff_eq.mpr c3
  have c3b2 : (l0.length == l1.length) = true := by first | simpa using c3 | (simp at c3 ⊢; omega)
  clear c3
  have H' := Aside0.mk H
  clear H
  go_enter Tryz.func18, Tryz.ntmps18
  go_wp2
  repeat (go_quiet (fail); try go_wp2)
  go_loopg [5] k (fun kq v5 w' => ∃ (x5_1 : Int), v5 = .int .i64 x5_1 ∧ Aside0 (laws_likeCells.l0 kq l0 l1 x5_1 = some r) ∧ Aside0 (kq ≤ k) ∧ Drawn0 w w')
  case atStart => exact ⟨(0), rs_, H', ⟨Nat.le_refl _⟩, by repeat (first | exact Drawn0.refl _ | apply Drawn0.step)⟩
  case round =>
   clear H'
   try clear c1
   try clear c3b0
   try clear c3b1
   try clear c3b2
   obtain ⟨x5_1, rfl, HA, HK1, ⟨m1, rfl⟩⟩ := hrel
   cases gk with
   | zero => exact absurd HA.out (by simp [laws_likeCells.l0])
   | succ k1 =>
    have H := HA.out
    clear HA
    simp only [laws_likeCells.l0] at H
    by_cases c4 : x5_1 < (l0.length : Int)
    ·rw [if_pos c4] at H
     have c4b0 : decide (x5_1 < (l0.length : Int)) = true := decide_eq_true c4
     clear c4
     by_cases c5 : 0 ≤ x5_1
     ·rw [if_pos c5] at H
      have c5b0 : decide (0 ≤ x5_1) = true := decide_eq_true c5
      clear c5
      by_cases c6 : x5_1 < (l1.length : Int)
      ·rw [if_pos c6] at H
       have c6b0 : decide (x5_1 < (l1.length : Int)) = true := decide_eq_true c6
       clear c6
       by_cases c7 : (!(((rd_T56 l0 x5_1).f0) == ((rd_T56 l1 x5_1).f0)) || (!(((rd_T56 l0 x5_1).f1) == ((rd_T56 l1 x5_1).f1)))) = true
       ·rw [if_pos c7] at H
        have c7b0 : (!(((rd_T56 l0 x5_1).f0) == ((rd_T56 l1 x5_1).f0)) || (!(((rd_T56 l0 x5_1).f1) == ((rd_T56 l1 x5_1).f1)))) = true := c7
        clear c7
        obtain rfl := Option.some.inj H
        have p575 : 0 ≤ (x5_1 : Int) := od_
        have q575 : x5_1 < (l0.length : Int) := od_
        obtain ⟨ad575, e575, hx575_0, hx575_1⟩ := at_T56 HR0.out x5_1 p575 q575
        cases e575
        replace p575 := eq_true p575
        replace q575 := eq_true q575
        have p576 : 0 ≤ (x5_1 : Int) := od_
        have q576 : x5_1 < (l1.length : Int) := od_
        obtain ⟨ad576, e576, hx576_0, hx576_1⟩ := at_T56 HR1.out x5_1 p576 q576
        cases e576
        replace p576 := eq_true p576
        replace q576 := eq_true q576
        go_wp2
        repeat (go_quiet (fail); try go_wp2)
        go_ret
        exact ⟨by first | rfl | (simp; done) | (simp [*]; done), by repeat (first | exact Drawn0.refl _ | apply Drawn0.step)⟩
       ·rw [if_neg c7] at H
        have c7b0 : (!(((rd_T56 l0 x5_1).f0) == ((rd_T56 l1 x5_1).f0)) || (!(((rd_T56 l0 x5_1).f1) == ((rd_T56 l1 x5_1).f1)))) = false := by simpa using c7
        clear c7
        have H' := Aside0.mk H
        clear H
        have p575 : 0 ≤ (x5_1 : Int) := od_
        have q575 : x5_1 < (l0.length : Int) := od_
        obtain ⟨ad575, e575, hx575_0, hx575_1⟩ := at_T56 HR0.out x5_1 p575 q575
        cases e575
        replace p575 := eq_true p575
        replace q575 := eq_true q575
        have p576 : 0 ≤ (x5_1 : Int) := od_
        have q576 : x5_1 < (l1.length : Int) := od_
        obtain ⟨ad576, e576, hx576_0, hx576_1⟩ := at_T56 HR1.out x5_1 p576 q576
        cases e576
        replace p576 := eq_true p576
        replace q576 := eq_true q576
        go_wp2
        repeat (go_quiet (fail); try go_wp2)
        go_roundg k1
        case measure => have := HK1.out; omega
        case rel => exact ⟨(wrap64 (x5_1 + 1)), rs_, H', ⟨by have := HK1.out; omega⟩, by repeat (first | exact Drawn0.refl _ | apply Drawn0.step)⟩
      ·rw [if_neg c6] at H
       exact absurd H (by simp)
     ·rw [if_neg c5] at H
      exact absurd H (by simp)
    ·rw [if_neg c4] at H
     have c4b0 : decide (x5_1 < (l0.length : Int)) = false := decide_eq_false c4
     clear c4
     obtain rfl := Option.some.inj H
     go_wp2
     repeat (go_quiet (fail); try go_wp2)
     go_ret
     exact ⟨by first | rfl | (simp; done) | (simp [*]; done), by repeat (first | exact Drawn0.refl _ | apply Drawn0.step)⟩
 ·rw [if_neg c3] at H
  have c3b0 : ((l0.length : Int) == (l1.length : Int)) = false := beq_eq_false_iff_ne.mpr c3
  have c3b1 : ((l0.length : Int) != (l1.length : Int)) = true := bne_iff_ne.mpr c3
  have c3b2 : (l0.length == l1.length) = false := by first | simpa using c3 | (simp at c3 ⊢; omega)
  obtain rfl := Option.some.inj H
  go_enter Tryz.func18, Tryz.ntmps18
  go_wp2
  repeat (go_quiet (fail); try go_wp2)
  go_ret
  exact ⟨by first | rfl | (simp; done) | (simp [*]; done), by repeat (first | exact Drawn0.refl _ | apply Drawn0.step)⟩
def laws_likeShapes.l0 : Nat → List (List (S56)) → List (List (S56)) → Int → Option (Bool)
 | 0, _, _, _ => none
 | k + 1, x0, x1, x5 => if x5 < (x0.length : Int) then (if 0 ≤ x5 then (if x5 < (x1.length : Int) then ((laws_likeCells.f k (rd_L4 x0 x5) (rd_L4 x1 x5)).bind fun t579 => (if t579 = true then (laws_likeShapes.l0 k x0 x1 (wrap64 (x5 + 1))) else (some false))) else (none)) else (none)) else (some true)
def laws_likeShapes.f (k : Nat) (l0 : List (List (S56))) (l1 : List (List (S56))) : Option (Bool) := if (l0.length : Int) = (l1.length : Int) then (laws_likeShapes.l0 k l0 l1 0) else (some false)
set_option maxHeartbeats 8000000 in
set_option maxRecDepth 100000 in
theorem laws_likeShapes.calls (k : Nat) (A0 : Option Addr) (c0 : Nat) (l0 : List (List (S56))) (A1 : Option Addr) (c1 : Nat) (l1 : List (List (S56))) (r : Bool) (w : World) (hr0 : Kd.C (Kd.slice 56 k56) w A0 l0.length l0) (hc0 : l0.length ≤ c0) (hr1 : Kd.C (Kd.slice 56 k56) w A1 l1.length l1) (hc1 : l1.length ≤ c1) (h : laws_likeShapes.f k l0 l1 = some r) :
  Calls Tryz.prog 16 #[.slice A0 l0.length c0, .slice A1 l1.length c1] w fun e w' => e = .returned (.bool r) ∧ Drawn0 w w' := by
 have HR0 := Aside0.mk hr0
 have HC0 := Aside0.mk hc0
 clear hr0 hc0
 have HR1 := Aside0.mk hr1
 have HC1 := Aside0.mk hc1
 clear hr1 hc1
 have H := h
 clear h
 unfold laws_likeShapes.f at H
 by_cases c3 : (l0.length : Int) = (l1.length : Int)
 ·rw [if_pos c3] at H
  have c3b0 : ((l0.length : Int) == (l1.length : Int)) = true := beq_iff_eq.mpr c3
  have c3b1 : ((l0.length : Int) != (l1.length : Int)) = false := bne_eq_false_iff_eq.mpr c3
  have c3b2 : (l0.length == l1.length) = true := by first | simpa using c3 | (simp at c3 ⊢; omega)
  clear c3
  have H' := Aside0.mk H
  clear H
  go_enter Tryz.func16, Tryz.ntmps16
  go_wp2
  repeat (go_quiet (fail); try go_wp2)
  go_loopg [5] k (fun kq v5 w' => ∃ (x5_1 : Int), v5 = .int .i64 x5_1 ∧ Aside0 (laws_likeShapes.l0 kq l0 l1 x5_1 = some r) ∧ Aside0 (kq ≤ k) ∧ Drawn0 w w')
  case atStart => exact ⟨(0), rs_, H', ⟨Nat.le_refl _⟩, by repeat (first | exact Drawn0.refl _ | apply Drawn0.step)⟩
  case round =>
   clear H'
   try clear c1
   try clear c3b0
   try clear c3b1
   try clear c3b2
   obtain ⟨x5_1, rfl, HA, HK1, ⟨m1, rfl⟩⟩ := hrel
   cases gk with
   | zero => exact absurd HA.out (by simp [laws_likeShapes.l0])
   | succ k1 =>
    have H := HA.out
    clear HA
    simp only [laws_likeShapes.l0] at H
    by_cases c4 : x5_1 < (l0.length : Int)
    ·rw [if_pos c4] at H
     have c4b0 : decide (x5_1 < (l0.length : Int)) = true := decide_eq_true c4
     clear c4
     by_cases c5 : 0 ≤ x5_1
     ·rw [if_pos c5] at H
      have c5b0 : decide (0 ≤ x5_1) = true := decide_eq_true c5
      clear c5
      by_cases c6 : x5_1 < (l1.length : Int)
      ·rw [if_pos c6] at H
       have c6b0 : decide (x5_1 < (l1.length : Int)) = true := decide_eq_true c6
       clear c6
       obtain ⟨t579, A7, H⟩ := bs_ H
       by_cases c8 : t579 = true
       ·subst c8
        rw [if_pos rfl] at H
        have H' := Aside0.mk H
        clear H
        have p577 : 0 ≤ (x5_1 : Int) := od_
        have q577 : x5_1 < (l0.length : Int) := od_
        obtain ⟨ad577, A577_0, c577_0, e577, hx577_0, hl577_0, hi577_0⟩ := at_L4 HR0.out x5_1 p577 q577
        cases e577
        have HR577_0 := Aside0.mk hi577_0
        have HC577_0 := Aside0.mk hl577_0
        clear hi577_0 hl577_0
        replace p577 := eq_true p577
        replace q577 := eq_true q577
        have p578 : 0 ≤ (x5_1 : Int) := od_
        have q578 : x5_1 < (l1.length : Int) := od_
        obtain ⟨ad578, A578_0, c578_0, e578, hx578_0, hl578_0, hi578_0⟩ := at_L4 HR1.out x5_1 p578 q578
        cases e578
        have HR578_0 := Aside0.mk hi578_0
        have HC578_0 := Aside0.mk hl578_0
        clear hi578_0 hl578_0
        replace p578 := eq_true p578
        replace q578 := eq_true q578
        go_wp2_with (first | (go_at_call 18; (with_reducible refine (laws_likeCells.calls k1 _ _ (rd_L4 l0 x5_1) _ _ (rd_L4 l1 x5_1) true _ ?side1 ?side2 ?side3 ?side4 A7.out).mono ?_); (case side1 => exact ca_ HR577_0.out); (case side2 => exact HC577_0.out); (case side3 => exact ca_ HR578_0.out); (case side4 => exact HC578_0.out); rintro e w' ⟨rfl, ⟨nd, rfl⟩⟩; (try first | exact ⟨rfl, _, World.drewN_drewN _ _ _⟩ | exact ⟨rfl, _, Eq.trans (World.drewN_drewN _ _ _) (congrArg (World.drewN _) (Nat.add_assoc _ _ _))⟩)))
        repeat (go_quiet (first | (go_at_call 18; (with_reducible refine (laws_likeCells.calls k1 _ _ (rd_L4 l0 x5_1) _ _ (rd_L4 l1 x5_1) true _ ?side1 ?side2 ?side3 ?side4 A7.out).mono ?_); (case side1 => exact ca_ HR577_0.out); (case side2 => exact HC577_0.out); (case side3 => exact ca_ HR578_0.out); (case side4 => exact HC578_0.out); rintro e w' ⟨rfl, ⟨nd, rfl⟩⟩; (try first | exact ⟨rfl, _, World.drewN_drewN _ _ _⟩ | exact ⟨rfl, _, Eq.trans (World.drewN_drewN _ _ _) (congrArg (World.drewN _) (Nat.add_assoc _ _ _))⟩))); try go_wp2_with (first | (go_at_call 18; (with_reducible refine (laws_likeCells.calls k1 _ _ (rd_L4 l0 x5_1) _ _ (rd_L4 l1 x5_1) true _ ?side1 ?side2 ?side3 ?side4 A7.out).mono ?_); (case side1 => exact ca_ HR577_0.out); (case side2 => exact HC577_0.out); (case side3 => exact ca_ HR578_0.out); (case side4 => exact HC578_0.out); rintro e w' ⟨rfl, ⟨nd, rfl⟩⟩; (try first | exact ⟨rfl, _, World.drewN_drewN _ _ _⟩ | exact ⟨rfl, _, Eq.trans (World.drewN_drewN _ _ _) (congrArg (World.drewN _) (Nat.add_assoc _ _ _))⟩))))
        go_roundg k1
        case measure => have := HK1.out; omega
        case rel => exact ⟨(wrap64 (x5_1 + 1)), rs_, H', ⟨by have := HK1.out; omega⟩, by repeat (first | exact Drawn0.refl _ | apply Drawn0.step)⟩
       ·replace c8 := Bool.eq_false_iff.mpr c8
        subst c8
        rw [if_neg (show ¬ (false = true) by decide)] at H
        obtain rfl := Option.some.inj H
        have p577 : 0 ≤ (x5_1 : Int) := od_
        have q577 : x5_1 < (l0.length : Int) := od_
        obtain ⟨ad577, A577_0, c577_0, e577, hx577_0, hl577_0, hi577_0⟩ := at_L4 HR0.out x5_1 p577 q577
        cases e577
        have HR577_0 := Aside0.mk hi577_0
        have HC577_0 := Aside0.mk hl577_0
        clear hi577_0 hl577_0
        replace p577 := eq_true p577
        replace q577 := eq_true q577
        have p578 : 0 ≤ (x5_1 : Int) := od_
        have q578 : x5_1 < (l1.length : Int) := od_
        obtain ⟨ad578, A578_0, c578_0, e578, hx578_0, hl578_0, hi578_0⟩ := at_L4 HR1.out x5_1 p578 q578
        cases e578
        have HR578_0 := Aside0.mk hi578_0
        have HC578_0 := Aside0.mk hl578_0
        clear hi578_0 hl578_0
        replace p578 := eq_true p578
        replace q578 := eq_true q578
        go_wp2_with (first | (go_at_call 18; (with_reducible refine (laws_likeCells.calls k1 _ _ (rd_L4 l0 x5_1) _ _ (rd_L4 l1 x5_1) false _ ?side1 ?side2 ?side3 ?side4 A7.out).mono ?_); (case side1 => exact ca_ HR577_0.out); (case side2 => exact HC577_0.out); (case side3 => exact ca_ HR578_0.out); (case side4 => exact HC578_0.out); rintro e w' ⟨rfl, ⟨nd, rfl⟩⟩; (try first | exact ⟨rfl, _, World.drewN_drewN _ _ _⟩ | exact ⟨rfl, _, Eq.trans (World.drewN_drewN _ _ _) (congrArg (World.drewN _) (Nat.add_assoc _ _ _))⟩)))
        repeat (go_quiet (first | (go_at_call 18; (with_reducible refine (laws_likeCells.calls k1 _ _ (rd_L4 l0 x5_1) _ _ (rd_L4 l1 x5_1) false _ ?side1 ?side2 ?side3 ?side4 A7.out).mono ?_); (case side1 => exact ca_ HR577_0.out); (case side2 => exact HC577_0.out); (case side3 => exact ca_ HR578_0.out); (case side4 => exact HC578_0.out); rintro e w' ⟨rfl, ⟨nd, rfl⟩⟩; (try first | exact ⟨rfl, _, World.drewN_drewN _ _ _⟩ | exact ⟨rfl, _, Eq.trans (World.drewN_drewN _ _ _) (congrArg (World.drewN _) (Nat.add_assoc _ _ _))⟩))); try go_wp2_with (first | (go_at_call 18; (with_reducible refine (laws_likeCells.calls k1 _ _ (rd_L4 l0 x5_1) _ _ (rd_L4 l1 x5_1) false _ ?side1 ?side2 ?side3 ?side4 A7.out).mono ?_); (case side1 => exact ca_ HR577_0.out); (case side2 => exact HC577_0.out); (case side3 => exact ca_ HR578_0.out); (case side4 => exact HC578_0.out); rintro e w' ⟨rfl, ⟨nd, rfl⟩⟩; (try first | exact ⟨rfl, _, World.drewN_drewN _ _ _⟩ | exact ⟨rfl, _, Eq.trans (World.drewN_drewN _ _ _) (congrArg (World.drewN _) (Nat.add_assoc _ _ _))⟩))))
        go_ret
        exact ⟨by first | rfl | (simp; done) | (simp [*]; done), by repeat (first | exact Drawn0.refl _ | apply Drawn0.step)⟩
      ·rw [if_neg c6] at H
       exact absurd H (by simp)
     ·rw [if_neg c5] at H
      exact absurd H (by simp)
    ·rw [if_neg c4] at H
     have c4b0 : decide (x5_1 < (l0.length : Int)) = false := decide_eq_false c4
     clear c4
     obtain rfl := Option.some.inj H
     go_wp2
     repeat (go_quiet (fail); try go_wp2)
     go_ret
     exact ⟨by first | rfl | (simp; done) | (simp [*]; done), by repeat (first | exact Drawn0.refl _ | apply Drawn0.step)⟩
 ·rw [if_neg c3] at H
  have c3b0 : ((l0.length : Int) == (l1.length : Int)) = false := beq_eq_false_iff_ne.mpr c3
  have c3b1 : ((l0.length : Int) != (l1.length : Int)) = true := bne_iff_ne.mpr c3
  have c3b2 : (l0.length == l1.length) = false := by first | simpa using c3 | (simp at c3 ⊢; omega)
  obtain rfl := Option.some.inj H
  go_enter Tryz.func16, Tryz.ntmps16
  go_wp2
  repeat (go_quiet (fail); try go_wp2)
  go_ret
  exact ⟨by first | rfl | (simp; done) | (simp [*]; done), by repeat (first | exact Drawn0.refl _ | apply Drawn0.step)⟩
def impl_shapeCode.f (k : Nat) (l0 : List (S56)) : Option (Int) := (impl_IsShape.f k l0).bind fun t580 => (if t580 = true then ((impl_normal.f k l0).bind fun t581 => ((impl_IsShape.f k t581).bind fun t584 => (if t584 = true then (some 0) else (some 3)))) else (some 1))
set_option maxHeartbeats 8000000 in
set_option maxRecDepth 100000 in
theorem impl_shapeCode.calls (k : Nat) (A0 : Option Addr) (c0 : Nat) (l0 : List (S56)) (r : Int) (w : World) (hr0 : Kd.C k56 w A0 l0.length l0) (hc0 : l0.length ≤ c0) (h : impl_shapeCode.f k l0 = some r) :
  Calls Tryz.prog 35 #[.slice A0 l0.length c0] w fun e w' => e = .returned (.int .i64 r) ∧ Below w.heap.size w w' := by
 have HR0 := Aside0.mk hr0
 have HC0 := Aside0.mk hc0
 clear hr0 hc0
 have HB := a0_ (Below.refl w.heap.size w)
 have H := h
 clear h
 unfold impl_shapeCode.f at H
 obtain ⟨t580, A2, H⟩ := bs_ H
 by_cases c3 : t580 = true
 ·subst c3
  rw [if_pos rfl] at H
  obtain ⟨t581, A4, H⟩ := bs_ H
  obtain ⟨t584, A5, H⟩ := bs_ H
  by_cases c6 : t584 = true
  ·subst c6
   rw [if_pos rfl] at H
   obtain rfl := Option.some.inj H
   go_enter Tryz.func35, Tryz.ntmps35
   go_wp2_with (first | ((with_reducible refine gate_callee (f := 51) rfl ?_); refine goesL_ (some 4) rfl rfl Tryz.func51 kr_ rfl #[.slice A0 l0.length c0] rfl ta_ ?_; (with_reducible refine (impl_IsShape.calls k _ _ l0 true _ ?side1 ?side2 A2.out).mono ?_); (case side1 => exact ca_ HR0.out); (case side2 => exact HC0.out); rintro e w7 ⟨rfl, hb⟩; refine ⟨_, rfl, ?_⟩; replace HB := a0_ (below_step (bl0_) hb); (try clear hb)) | ((with_reducible refine gate_callee (f := 67) rfl ?_); refine goesL_ (some 7) rfl rfl Tryz.func67 kr_ rfl #[.slice A0 l0.length c0] rfl ta_ ?_; (with_reducible refine (impl_normal.calls k _ _ l0 t581 _ ?side1 ?side2 A4.out).mono ?_); (case side1 => exact ca_ (Kd.C_below HR0.out HB.out)); (case side2 => exact HC0.out); rintro e w8 ⟨v582, rfl, ho0, hb⟩; refine ⟨_, rfl, ?_⟩; have HO583 := a0_ (Kd.R_lower ho0 (below_size (bl0_))); replace HB := a0_ (below_step (bl0_) hb); (try clear hb); (try clear ho0); obtain ⟨Ao9, co9, eo9⟩ := Kd.R_slice HO583.out; subst eo9) | ((with_reducible refine gate_callee (f := 51) rfl ?_); refine goesL_ (some 8) rfl rfl Tryz.func51 kr_ rfl #[.slice Ao9 t581.length co9] rfl ta_ ?_; (with_reducible refine (impl_IsShape.calls k _ _ t581 true _ ?side1 ?side2 A5.out).mono ?_); (case side1 => exact ca_ (Kd.R_reads' HO583.out).2.2); (case side2 => exact (Kd.R_reads' HO583.out).2.1); rintro e w10 ⟨rfl, hb⟩; refine ⟨_, rfl, ?_⟩; replace HO583 := a0_ (Kd.R_below (ra_ HO583.out) hb); replace HB := a0_ (below_step (bl0_) hb); (try clear hb)))
   go_ret
   exact ⟨er_, bl0_⟩
  ·replace c6 := Bool.eq_false_iff.mpr c6
   subst c6
   rw [if_neg (show ¬ (false = true) by decide)] at H
   obtain rfl := Option.some.inj H
   go_enter Tryz.func35, Tryz.ntmps35
   go_wp2_with (first | ((with_reducible refine gate_callee (f := 51) rfl ?_); refine goesL_ (some 4) rfl rfl Tryz.func51 kr_ rfl #[.slice A0 l0.length c0] rfl ta_ ?_; (with_reducible refine (impl_IsShape.calls k _ _ l0 true _ ?side1 ?side2 A2.out).mono ?_); (case side1 => exact ca_ HR0.out); (case side2 => exact HC0.out); rintro e w11 ⟨rfl, hb⟩; refine ⟨_, rfl, ?_⟩; replace HB := a0_ (below_step (bl0_) hb); (try clear hb)) | ((with_reducible refine gate_callee (f := 67) rfl ?_); refine goesL_ (some 7) rfl rfl Tryz.func67 kr_ rfl #[.slice A0 l0.length c0] rfl ta_ ?_; (with_reducible refine (impl_normal.calls k _ _ l0 t581 _ ?side1 ?side2 A4.out).mono ?_); (case side1 => exact ca_ (Kd.C_below HR0.out HB.out)); (case side2 => exact HC0.out); rintro e w12 ⟨v582, rfl, ho0, hb⟩; refine ⟨_, rfl, ?_⟩; have HO583 := a0_ (Kd.R_lower ho0 (below_size (bl0_))); replace HB := a0_ (below_step (bl0_) hb); (try clear hb); (try clear ho0); obtain ⟨Ao13, co13, eo13⟩ := Kd.R_slice HO583.out; subst eo13) | ((with_reducible refine gate_callee (f := 51) rfl ?_); refine goesL_ (some 8) rfl rfl Tryz.func51 kr_ rfl #[.slice Ao13 t581.length co13] rfl ta_ ?_; (with_reducible refine (impl_IsShape.calls k _ _ t581 false _ ?side1 ?side2 A5.out).mono ?_); (case side1 => exact ca_ (Kd.R_reads' HO583.out).2.2); (case side2 => exact (Kd.R_reads' HO583.out).2.1); rintro e w14 ⟨rfl, hb⟩; refine ⟨_, rfl, ?_⟩; replace HO583 := a0_ (Kd.R_below (ra_ HO583.out) hb); replace HB := a0_ (below_step (bl0_) hb); (try clear hb)))
   go_ret
   exact ⟨er_, bl0_⟩
 ·replace c3 := Bool.eq_false_iff.mpr c3
  subst c3
  rw [if_neg (show ¬ (false = true) by decide)] at H
  obtain rfl := Option.some.inj H
  go_enter Tryz.func35, Tryz.ntmps35
  go_wp2_with (first | ((with_reducible refine gate_callee (f := 51) rfl ?_); refine goesL_ (some 4) rfl rfl Tryz.func51 kr_ rfl #[.slice A0 l0.length c0] rfl ta_ ?_; (with_reducible refine (impl_IsShape.calls k _ _ l0 false _ ?side1 ?side2 A2.out).mono ?_); (case side1 => exact ca_ HR0.out); (case side2 => exact HC0.out); rintro e w15 ⟨rfl, hb⟩; refine ⟨_, rfl, ?_⟩; replace HB := a0_ (below_step (bl0_) hb); (try clear hb)))
  go_ret
  exact ⟨er_, bl0_⟩
def impl_freeForm.f (k : Nat) (l0 : List S56) : Option (List S56) := (impl_forms.f k l0 8).bind fun L => if 1 ≤ L.length then some (leastL L) else none
set_option maxHeartbeats 4000000 in
theorem impl_freeForm.calls (k : Nat) (A0 : Option Addr) (c0 : Nat) (l0 : List S56) (r : List S56) (w : World) (hr0 : Kd.C k56 w A0 l0.length l0) (hc0 : l0.length ≤ c0) (h : impl_freeForm.f k l0 = some r) :
  Calls Tryz.prog 36 #[.slice A0 l0.length c0] w fun e w' => ∃ v0_ : Value, e = .returned (v0_) ∧ Kd.R k56 56 w' w.heap.size (fun _ => True) v0_ r ∧ Below w.heap.size w w' := by
 obtain ⟨L, hL, h2⟩ := Option.bind_eq_some_iff.mp h
 split at h2
 ·rename_i h1
  obtain rfl := Option.some.inj h2
  have hf := impl_forms.calls k A0 c0 l0 8 L w hr0 hc0 hL
  have H1 := Aside0.mk h1
  clear h h1 h2 hL hr0 hc0
  go_enter Tryz.func36, Tryz.ntmps36
  go_wp2_with (first | (go_at_call 44; ((with_reducible refine hf.mono ?_); rintro e w1 ⟨v, rfl, hS, hb⟩; have HS := a0_ (Kd.S_R hS); have HB := Aside0.mk hb; clear hS hb)) | (go_at_call 43; (refine (leastOf_calls _ _ _ _ L HS.out H1.out).mono ?_; rintro e w2 ⟨u, rfl, hR, hb⟩; have HR := Aside0.mk hR; have HB2 := a0_ (below_step HB.out hb); clear hR hb)))
  go_ret
  exact ⟨_, rfl, HR.out, HB2.out⟩
 ·cases h2
def impl_FreeForm.f (k : Nat) (l0 : List (S56)) : Option ((List (S56)) × Int) := (impl_shapeCode.f k l0).bind fun t585 => (if t585 = 0 then ((impl_freeForm.f k l0).bind fun t586 => (some (t586, 0))) else (some (([] : List (S56)), t585)))
set_option maxHeartbeats 8000000 in
set_option maxRecDepth 100000 in
theorem impl_FreeForm.calls (k : Nat) (A0 : Option Addr) (c0 : Nat) (l0 : List (S56)) (r1 : List (S56)) (r2 : Int) (w : World) (hr0 : Kd.C k56 w A0 l0.length l0) (hc0 : l0.length ≤ c0) (h : impl_FreeForm.f k l0 = some (r1, r2)) :
  Calls Tryz.prog 17 #[.slice A0 l0.length c0] w fun e w' => ∃ v0_ : Value, e = .returned (.tuple #[v0_, .int .i64 r2]) ∧ Kd.R k56 56 w' w.heap.size (fun _ => True) v0_ r1 ∧ Below w.heap.size w w' := by
 have HR0 := Aside0.mk hr0
 have HC0 := Aside0.mk hc0
 clear hr0 hc0
 have HB := a0_ (Below.refl w.heap.size w)
 have H := h
 clear h
 unfold impl_FreeForm.f at H
 obtain ⟨t585, A2, H⟩ := bs_ H
 by_cases c3 : t585 = 0
 ·rw [if_pos c3] at H
  have c3b0 : (t585 == 0) = true := beq_iff_eq.mpr c3
  have c3b1 : (t585 != 0) = false := bne_eq_false_iff_eq.mpr c3
  clear c3
  obtain ⟨t586, A4, H⟩ := bs_ H
  simp only [Option.some.injEq, Prod.mk.injEq] at H
  obtain ⟨rfl, rfl⟩ := H
  go_enter Tryz.func17, Tryz.ntmps17
  go_wp2_with (first | ((with_reducible refine gate_callee (f := 35) rfl ?_); refine goesL_ (some 6) rfl rfl Tryz.func35 kr_ rfl #[.slice A0 l0.length c0] rfl ta_ ?_; (with_reducible refine (impl_shapeCode.calls k _ _ l0 t585 _ ?side1 ?side2 A2.out).mono ?_); (case side1 => exact ca_ HR0.out); (case side2 => exact HC0.out); rintro e w5 ⟨rfl, hb⟩; refine ⟨_, rfl, ?_⟩; replace HB := a0_ (below_step (bl0_) hb); (try clear hb)) | ((with_reducible refine gate_callee (f := 36) rfl ?_); refine goesL_ (some 11) rfl rfl Tryz.func36 kr_ rfl #[.slice A0 l0.length c0] rfl ta_ ?_; (with_reducible refine (impl_freeForm.calls k _ _ l0 t586 _ ?side1 ?side2 A4.out).mono ?_); (case side1 => exact ca_ (Kd.C_below HR0.out HB.out)); (case side2 => exact HC0.out); rintro e w6 ⟨v587, rfl, ho0, hb⟩; refine ⟨_, rfl, ?_⟩; have HO588 := a0_ (Kd.R_lower ho0 (below_size (bl0_))); replace HB := a0_ (below_step (bl0_) hb); (try clear hb); (try clear ho0)))
  go_ret2
  exact ⟨_, er_, ra_ HO588.out, bl0_⟩
 ·rw [if_neg c3] at H
  have c3b0 : (t585 == 0) = false := beq_eq_false_iff_ne.mpr c3
  have c3b1 : (t585 != 0) = true := bne_iff_ne.mpr c3
  simp only [Option.some.injEq, Prod.mk.injEq] at H
  obtain ⟨rfl, rfl⟩ := H
  go_enter Tryz.func17, Tryz.ntmps17
  go_wp2_with (first | ((with_reducible refine gate_callee (f := 35) rfl ?_); refine goesL_ (some 6) rfl rfl Tryz.func35 kr_ rfl #[.slice A0 l0.length c0] rfl ta_ ?_; (with_reducible refine (impl_shapeCode.calls k _ _ l0 t585 _ ?side1 ?side2 A2.out).mono ?_); (case side1 => exact ca_ HR0.out); (case side2 => exact HC0.out); rintro e w7 ⟨rfl, hb⟩; refine ⟨_, rfl, ?_⟩; replace HB := a0_ (below_step (bl0_) hb); (try clear hb)))
  go_ret2
  exact ⟨_, er_, by first | exact Kd.R_nil _ _ _ _ _ | exact Kd.N_nil _ _ _ _ _ | exact Kd.V_nil _ _ _ _ _ | exact Kd.Q_nil _ _ _ _ _ | exact Kd.S_nil _ _ _ _ _, bl0_⟩
def laws_FnAllNets.j0 : Nat → List Int → List (List (S56)) → Bool → Option (Bool)
 | 0, _, _, _ => none
 | k + 1, x0, x5, x32 => if x32 = true then (some false) else ((laws_roll.f k x0 3203).bind fun bt609 => ((laws_dice_below.f bt609.1 bt609.2.1 bt609.2.2 11).bind fun bt613 => (if 0 ≤ bt613.1 then (if bt613.1 < (x5.length : Int) then ((impl_FreeForm.f k (rd_L4 x5 bt613.1)).bind fun bt617 => (if bt617.2 = 0 then ((laws_likeCells.f k bt617.1 (rd_L4 x5 bt613.1)).bind fun t622 => (if t622 = true then ((impl_IsNet.f k (rd_L4 x5 bt613.1)).bind fun t624 => (some t624)) else (some false))) else (some false))) else (none)) else (none))))
def laws_FnAllNets.f (k : Nat) (l0 : List Int) : Option (Bool) := (laws_big.f l0).bind fun t589 => (if t589 = true then (some true) else ((spec_DrawIsNet.f k l0).bind fun t590 => ((impl_IsNet.f k t590).bind fun t593 => ((spec_IsNet.f k t590).bind fun t594 => (if (t593 != t594) = true then (some false) else ((laws_roll.f k l0 3205).bind fun bt595 => ((laws_dice_below.f bt595.1 bt595.2.1 bt595.2.2 16).bind fun bt599 => (if bt599.1 > 0 then (some true) else ((impl_Nets.f k).bind fun t602 => ((spec_Nets.f k).bind fun t605 => ((laws_likeShapes.f k t602 t605).bind fun t608 => (if t608 = true then (laws_FnAllNets.j0 k l0 t605 ((t602.length : Int) != 11)) else (laws_FnAllNets.j0 k l0 t605 true)))))))))))))
set_option maxHeartbeats 8000000 in
set_option maxRecDepth 100000 in
theorem laws_FnAllNets.calls (k : Nat) (A0 : Option Addr) (c0 : Nat) (l0 : List Int) (r : Bool) (w : World) (hr0 : Kd.C (Kd.int .u8) w A0 l0.length l0) (hc0 : l0.length ≤ c0) (h : laws_FnAllNets.f k l0 = some r) (hG : Laid w) :
  Calls Tryz.prog 4 #[.slice A0 l0.length c0] w fun e w' => e = .returned (.bool r) ∧ Below w.heap.size w w' := by
 have HR0 := Aside0.mk hr0
 have HC0 := Aside0.mk hc0
 clear hr0 hc0
 have HB := a0_ (Below.refl w.heap.size w)
 have H := h
 clear h
 unfold laws_FnAllNets.f at H
 obtain ⟨t589, A2, H⟩ := bs_ H
 by_cases c3 : t589 = true
 ·subst c3
  rw [if_pos rfl] at H
  obtain rfl := Option.some.inj H
  go_enter Tryz.func4, Tryz.ntmps4
  go_wp2_with (first | ((with_reducible refine gate_callee (f := 10) rfl ?_); refine goesL_ (some 10) rfl rfl Tryz.func10 kr_ rfl #[.slice A0 l0.length c0] rfl ta_ ?_; (with_reducible refine (laws_big.calls _ _ l0 true _ ?side1 ?side2 A2.out).mono ?_); (case side1 => exact ca_ HR0.out); (case side2 => exact HC0.out); rintro e w' ⟨rfl, ⟨nd, rfl⟩⟩; refine ⟨_, rfl, ?_⟩))
  go_ret
  exact ⟨er_, bl0_⟩
 ·replace c3 := Bool.eq_false_iff.mpr c3
  subst c3
  rw [if_neg (show ¬ (false = true) by decide)] at H
  obtain ⟨t590, A4, H⟩ := bs_ H
  obtain ⟨t593, A5, H⟩ := bs_ H
  obtain ⟨t594, A6, H⟩ := bs_ H
  by_cases c7 : (t593 != t594) = true
  ·rw [if_pos c7] at H
   have c7b0 : (t593 != t594) = true := c7
   (try (have c7b1 : decide (t593 = t594) = false := by simpa using c7))
   (try (have c7b2 : (t593 == t594) = false := by simpa using c7))
   (try (have c7b3 : ¬ (t593 = t594) := by simpa using c7))
   clear c7
   obtain rfl := Option.some.inj H
   go_enter Tryz.func4, Tryz.ntmps4
   go_wp2_with (first | ((with_reducible refine gate_callee (f := 10) rfl ?_); refine goesL_ (some 10) rfl rfl Tryz.func10 kr_ rfl #[.slice A0 l0.length c0] rfl ta_ ?_; (with_reducible refine (laws_big.calls _ _ l0 false _ ?side1 ?side2 A2.out).mono ?_); (case side1 => exact ca_ HR0.out); (case side2 => exact HC0.out); rintro e w' ⟨rfl, ⟨nd, rfl⟩⟩; refine ⟨_, rfl, ?_⟩) | ((with_reducible refine gate_callee (f := 11) rfl ?_); refine goesL_ (some 12) rfl rfl Tryz.func11 kr_ rfl #[.slice A0 l0.length c0] rfl ta_ ?_; (with_reducible refine (spec_DrawIsNet.calls k _ _ l0 t590 _ ?side1 ?side2 A4.out).mono ?_); (case side1 => exact ca_ HR0.out); (case side2 => exact HC0.out); rintro e w8 ⟨v591, rfl, ho0, hb⟩; refine ⟨_, rfl, ?_⟩; have HO592 := a0_ (Kd.R_lower ho0 (below_size (bl0_))); replace HB := a0_ (below_step (bl0_) hb); (try clear hb); (try clear ho0); obtain ⟨Ao9, co9, eo9⟩ := Kd.R_slice HO592.out; subst eo9) | ((with_reducible refine gate_callee (f := 12) rfl ?_); refine goesL_ (some 14) rfl rfl Tryz.func12 kr_ rfl #[.slice Ao9 t590.length co9] rfl ta_ ?_; (with_reducible refine (impl_IsNet.calls k _ _ t590 t593 _ ?side1 ?side2 A5.out (Laid.below hG (by repeat (first | exact HB.out | exact Below.refl _ _ | apply below_alloc | apply pw_below_drewN | apply below_drew1)))).mono ?_); (case side1 => exact ca_ (Kd.R_reads' HO592.out).2.2); (case side2 => exact (Kd.R_reads' HO592.out).2.1); rintro e w10 ⟨rfl, hb⟩; refine ⟨_, rfl, ?_⟩; replace HO592 := a0_ (Kd.R_below (ra_ HO592.out) hb); replace HB := a0_ (below_step (bl0_) hb); (try clear hb)) | ((with_reducible refine gate_callee (f := 13) rfl ?_); refine goesL_ (some 16) rfl rfl Tryz.func13 kr_ rfl #[.slice Ao9 t590.length co9] rfl ta_ ?_; (with_reducible refine (spec_IsNet.calls k _ _ t590 t594 _ ?side1 ?side2 A6.out).mono ?_); (case side1 => exact ca_ (Kd.R_reads' HO592.out).2.2); (case side2 => exact (Kd.R_reads' HO592.out).2.1); rintro e w11 ⟨rfl, hb⟩; refine ⟨_, rfl, ?_⟩; replace HO592 := a0_ (Kd.R_below (ra_ HO592.out) hb); replace HB := a0_ (below_step (bl0_) hb); (try clear hb)))
   go_ret
   exact ⟨er_, bl0_⟩
  ·rw [if_neg c7] at H
   have c7b0 : (t593 != t594) = false := by simpa using c7
   (try (have c7b1 : decide (t593 = t594) = true := by simpa using c7))
   (try (have c7b2 : (t593 == t594) = true := by simpa using c7))
   clear c7
   obtain ⟨⟨t595, t596, t597⟩, A12, H⟩ := bs_ H
   dsimp only at H
   obtain ⟨⟨t599, t600, t601⟩, A13, H⟩ := bs_ H
   dsimp only at H
   by_cases c14 : t599 > 0
   ·rw [if_pos c14] at H
    have c14b0 : decide (0 < t599) = true := decide_eq_true c14
    clear c14
    obtain rfl := Option.some.inj H
    go_enter Tryz.func4, Tryz.ntmps4
    go_wp2_with (first | ((with_reducible refine gate_callee (f := 10) rfl ?_); refine goesL_ (some 10) rfl rfl Tryz.func10 kr_ rfl #[.slice A0 l0.length c0] rfl ta_ ?_; (with_reducible refine (laws_big.calls _ _ l0 false _ ?side1 ?side2 A2.out).mono ?_); (case side1 => exact ca_ HR0.out); (case side2 => exact HC0.out); rintro e w' ⟨rfl, ⟨nd, rfl⟩⟩; refine ⟨_, rfl, ?_⟩) | ((with_reducible refine gate_callee (f := 11) rfl ?_); refine goesL_ (some 12) rfl rfl Tryz.func11 kr_ rfl #[.slice A0 l0.length c0] rfl ta_ ?_; (with_reducible refine (spec_DrawIsNet.calls k _ _ l0 t590 _ ?side1 ?side2 A4.out).mono ?_); (case side1 => exact ca_ HR0.out); (case side2 => exact HC0.out); rintro e w15 ⟨v591, rfl, ho0, hb⟩; refine ⟨_, rfl, ?_⟩; have HO592 := a0_ (Kd.R_lower ho0 (below_size (bl0_))); replace HB := a0_ (below_step (bl0_) hb); (try clear hb); (try clear ho0); obtain ⟨Ao16, co16, eo16⟩ := Kd.R_slice HO592.out; subst eo16) | ((with_reducible refine gate_callee (f := 12) rfl ?_); refine goesL_ (some 14) rfl rfl Tryz.func12 kr_ rfl #[.slice Ao16 t590.length co16] rfl ta_ ?_; (with_reducible refine (impl_IsNet.calls k _ _ t590 t593 _ ?side1 ?side2 A5.out (Laid.below hG (by repeat (first | exact HB.out | exact Below.refl _ _ | apply below_alloc | apply pw_below_drewN | apply below_drew1)))).mono ?_); (case side1 => exact ca_ (Kd.R_reads' HO592.out).2.2); (case side2 => exact (Kd.R_reads' HO592.out).2.1); rintro e w17 ⟨rfl, hb⟩; refine ⟨_, rfl, ?_⟩; replace HO592 := a0_ (Kd.R_below (ra_ HO592.out) hb); replace HB := a0_ (below_step (bl0_) hb); (try clear hb)) | ((with_reducible refine gate_callee (f := 13) rfl ?_); refine goesL_ (some 16) rfl rfl Tryz.func13 kr_ rfl #[.slice Ao16 t590.length co16] rfl ta_ ?_; (with_reducible refine (spec_IsNet.calls k _ _ t590 t594 _ ?side1 ?side2 A6.out).mono ?_); (case side1 => exact ca_ (Kd.R_reads' HO592.out).2.2); (case side2 => exact (Kd.R_reads' HO592.out).2.1); rintro e w18 ⟨rfl, hb⟩; refine ⟨_, rfl, ?_⟩; replace HO592 := a0_ (Kd.R_below (ra_ HO592.out) hb); replace HB := a0_ (below_step (bl0_) hb); (try clear hb)) | ((with_reducible refine gate_callee (f := 14) rfl ?_); refine goesL_ (some 19) rfl rfl Tryz.func14 kr_ rfl #[.slice A0 l0.length c0, .int .u64 3205] rfl ta_ ?_; (with_reducible refine (laws_roll.calls k _ _ l0 3205 t595 t596 t597 w _ ?side1 ?side2 ?side3 A12.out).mono ?_); (case side1 => repeat (first | (with_reducible first | exact HB.out | apply below_alloc | apply pw_below_drewN | apply below_drew1) | exact HB.out)); (case side2 => exact HR0.out); (case side3 => exact HC0.out); rintro e w19 ⟨g598, rfl, hi, hb, hb2⟩; refine ⟨_, rfl, ?_⟩; replace HO592 := a0_ (Kd.R_below (ra_ HO592.out) hb2); replace HB := a0_ (hb); have HI598 := a0_ (hi); (try clear hb); (try clear hb2); (try clear hi)) | ((with_reducible refine gate_callee (f := 15) rfl ?_); refine goesL_ (some 20) rfl rfl Tryz.func15 kr_ rfl #[.pointer (some ⟨g598, 0, none⟩), .int .i64 16] rfl ta_ ?_; (with_reducible refine (laws_dice_below.calls g598 t595 t596 t597 16 t599 t600 t601 w _ ?side1 ?side2 A13.out).mono ?_); (case side1 => exact is51_ HI598.out); (case side2 => exact bl1_ (IsS51.ge HI598.out)); rintro e w20 ⟨rfl, hi, hb, hk⟩; refine ⟨_, rfl, ?_⟩; replace HO592 := a0_ (Kd.R_mono (Kd.R_keep (IsS51.apart (show IsS51 w _ g598 t595 t596 t597 from is51_ HI598.out) (ra_ HO592.out) (by decide)) hk (fun _ h => h.2)) (fun _ h => h.1)); replace HB := a0_ (hb); replace HI598 := a0_ (hi); (try clear hb); (try clear hk); (try clear hi)))
    go_ret
    exact ⟨er_, bl1_ (IsS51.ge HI598.out)⟩
   ·rw [if_neg c14] at H
    have c14b0 : decide (0 < t599) = false := decide_eq_false c14
    clear c14
    obtain ⟨t602, A21, H⟩ := bs_ H
    obtain ⟨t605, A22, H⟩ := bs_ H
    have HC23 := Aside0.mk H
    clear H
    go_enter Tryz.func4, Tryz.ntmps4
    go_upto_region 10 with (first | ((with_reducible refine gate_callee (f := 10) rfl ?_); refine goesL_ (some 10) rfl rfl Tryz.func10 kr_ rfl #[.slice A0 l0.length c0] rfl ta_ ?_; (with_reducible refine (laws_big.calls _ _ l0 false _ ?side1 ?side2 A2.out).mono ?_); (case side1 => exact ca_ HR0.out); (case side2 => exact HC0.out); rintro e w' ⟨rfl, ⟨nd, rfl⟩⟩; refine ⟨_, rfl, ?_⟩) | ((with_reducible refine gate_callee (f := 11) rfl ?_); refine goesL_ (some 12) rfl rfl Tryz.func11 kr_ rfl #[.slice A0 l0.length c0] rfl ta_ ?_; (with_reducible refine (spec_DrawIsNet.calls k _ _ l0 t590 _ ?side1 ?side2 A4.out).mono ?_); (case side1 => exact ca_ HR0.out); (case side2 => exact HC0.out); rintro e w24 ⟨v591, rfl, ho0, hb⟩; refine ⟨_, rfl, ?_⟩; have HO592 := a0_ (Kd.R_lower ho0 (below_size (bl0_))); replace HB := a0_ (below_step (bl0_) hb); (try clear hb); (try clear ho0); obtain ⟨Ao25, co25, eo25⟩ := Kd.R_slice HO592.out; subst eo25) | ((with_reducible refine gate_callee (f := 12) rfl ?_); refine goesL_ (some 14) rfl rfl Tryz.func12 kr_ rfl #[.slice Ao25 t590.length co25] rfl ta_ ?_; (with_reducible refine (impl_IsNet.calls k _ _ t590 t593 _ ?side1 ?side2 A5.out (Laid.below hG (by repeat (first | exact HB.out | exact Below.refl _ _ | apply below_alloc | apply pw_below_drewN | apply below_drew1)))).mono ?_); (case side1 => exact ca_ (Kd.R_reads' HO592.out).2.2); (case side2 => exact (Kd.R_reads' HO592.out).2.1); rintro e w26 ⟨rfl, hb⟩; refine ⟨_, rfl, ?_⟩; replace HO592 := a0_ (Kd.R_below (ra_ HO592.out) hb); replace HB := a0_ (below_step (bl0_) hb); (try clear hb)) | ((with_reducible refine gate_callee (f := 13) rfl ?_); refine goesL_ (some 16) rfl rfl Tryz.func13 kr_ rfl #[.slice Ao25 t590.length co25] rfl ta_ ?_; (with_reducible refine (spec_IsNet.calls k _ _ t590 t594 _ ?side1 ?side2 A6.out).mono ?_); (case side1 => exact ca_ (Kd.R_reads' HO592.out).2.2); (case side2 => exact (Kd.R_reads' HO592.out).2.1); rintro e w27 ⟨rfl, hb⟩; refine ⟨_, rfl, ?_⟩; replace HO592 := a0_ (Kd.R_below (ra_ HO592.out) hb); replace HB := a0_ (below_step (bl0_) hb); (try clear hb)) | ((with_reducible refine gate_callee (f := 14) rfl ?_); refine goesL_ (some 19) rfl rfl Tryz.func14 kr_ rfl #[.slice A0 l0.length c0, .int .u64 3205] rfl ta_ ?_; (with_reducible refine (laws_roll.calls k _ _ l0 3205 t595 t596 t597 w _ ?side1 ?side2 ?side3 A12.out).mono ?_); (case side1 => repeat (first | (with_reducible first | exact HB.out | apply below_alloc | apply pw_below_drewN | apply below_drew1) | exact HB.out)); (case side2 => exact HR0.out); (case side3 => exact HC0.out); rintro e w28 ⟨g598, rfl, hi, hb, hb2⟩; refine ⟨_, rfl, ?_⟩; replace HO592 := a0_ (Kd.R_below (ra_ HO592.out) hb2); replace HB := a0_ (hb); have HI598 := a0_ (hi); (try clear hb); (try clear hb2); (try clear hi)) | ((with_reducible refine gate_callee (f := 15) rfl ?_); refine goesL_ (some 20) rfl rfl Tryz.func15 kr_ rfl #[.pointer (some ⟨g598, 0, none⟩), .int .i64 16] rfl ta_ ?_; (with_reducible refine (laws_dice_below.calls g598 t595 t596 t597 16 t599 t600 t601 w _ ?side1 ?side2 A13.out).mono ?_); (case side1 => exact is51_ HI598.out); (case side2 => exact bl1_ (IsS51.ge HI598.out)); rintro e w29 ⟨rfl, hi, hb, hk⟩; refine ⟨_, rfl, ?_⟩; replace HO592 := a0_ (Kd.R_mono (Kd.R_keep (IsS51.apart (show IsS51 w _ g598 t595 t596 t597 from is51_ HI598.out) (ra_ HO592.out) (by decide)) hk (fun _ h => h.2)) (fun _ h => h.1)); replace HB := a0_ (hb); replace HI598 := a0_ (hi); (try clear hb); (try clear hk); (try clear hi)) | ((with_reducible refine gate_callee (f := 6) rfl ?_); refine goesL_ (some 22) rfl rfl Tryz.func6 kr_ rfl #[] rfl ta_ ?_; (with_reducible refine (impl_Nets.calls k  t602 _ A21.out (Laid.below hG (by repeat (first | exact HB.out | exact Below.refl _ _ | apply below_alloc | apply pw_below_drewN | apply below_drew1)))).mono ?_); rintro e w30 ⟨v603, rfl, ho0, hb⟩; refine ⟨_, rfl, ?_⟩; have HO604 := a0_ (Kd.V_lower (Kd.V_mono (ok' := fun k_ => some k_ ≠ (.slice Ao25 t590.length co25 : Value).ownBlock ∧ k_ ≠ g598) ho0 (fun k_ hk_ => ⟨(Kd.fresh' (Kd.R_lt (ra_ HO592.out)) k_ hk_), (IsS51.fresh (is51_ HI598.out) k_ hk_)⟩)) (below_size (bl1_ (IsS51.ge HI598.out)))); replace HO592 := a0_ (Kd.R_below (ra_ HO592.out) hb); replace HB := a0_ (below_step (bl1_ (IsS51.ge HI598.out)) hb); replace HI598 := a0_ (IsS51.below (is51_ HI598.out) hb); (try clear hb); (try clear ho0)) | ((with_reducible refine gate_callee (f := 5) rfl ?_); refine goesL_ (some 23) rfl rfl Tryz.func5 kr_ rfl #[] rfl ta_ ?_; (with_reducible refine (spec_Nets.calls k  t605 _ A22.out).mono ?_); rintro e w31 ⟨v606, rfl, ho0, hb⟩; refine ⟨_, rfl, ?_⟩; replace HO604 := a0_ (Kd.V_elder' (va_ HO604.out) (Kd.N_base ho0) hb); have HO607 := a0_ (Kd.N_lower (Kd.N_mono (ok' := fun k_ => some k_ ≠ (.slice Ao25 t590.length co25 : Value).ownBlock ∧ k_ ≠ g598) ho0 (fun k_ hk_ => ⟨(Kd.fresh' (Kd.R_lt (ra_ HO592.out)) k_ hk_), (IsS51.fresh (is51_ HI598.out) k_ hk_)⟩)) (below_size (bl1_ (IsS51.ge HI598.out)))); replace HO592 := a0_ (Kd.R_below (ra_ HO592.out) hb); replace HB := a0_ (below_step (bl1_ (IsS51.ge HI598.out)) hb); replace HI598 := a0_ (IsS51.below (is51_ HI598.out) hb); (try clear hb); (try clear ho0)))
    (try simp only [Act.put, List.setIfInBounds_toArray, List.set_cons_zero, List.set_cons_succ])
    go_cut [32] (fun v32 wc => ∃ (kq : Nat) (x32_22 : Bool), v32 = .bool x32_22 ∧ Aside0 (laws_FnAllNets.j0 kq l0 t605 x32_22 = some r) ∧ Aside0 (kq ≤ k) ∧ Aside0 (Kd.N (Kd.slice 56 k56) 29 wc w.heap.size (fun _ => True) v606 t605) ∧ Aside0 (Below w.heap.size w wc))
    case first =>
     have H := HC23.out
     clear HC23
     obtain ⟨t608, A32, H⟩ := bs_ H
     by_cases c33 : t608 = true
     ·subst c33
      rw [if_pos rfl] at H
      have H' := Aside0.mk H
      clear H
      obtain ⟨Ao34, co34, eo34⟩ := Kd.V_slice HO604.out
      subst eo34
      obtain ⟨Ao35, co35, eo35⟩ := Kd.N_slice HO607.out
      subst eo35
      go_wp2_with (first | ((with_reducible refine gate_callee (f := 16) rfl ?_); refine goesL_ (some 26) rfl rfl Tryz.func16 kr_ rfl #[.slice Ao34 t602.length co34, .slice Ao35 t605.length co35] rfl ta_ ?_; (with_reducible refine (laws_likeShapes.calls k _ _ t602 _ _ t605 true _ ?side1 ?side2 ?side3 ?side4 A32.out).mono ?_); (case side1 => exact ca_ (Kd.V_reads' HO604.out).2.2); (case side2 => exact (Kd.V_reads' HO604.out).2.1); (case side3 => exact ca_ (Kd.N_reads' HO607.out).2.2); (case side4 => exact (Kd.N_reads' HO607.out).2.1); rintro e w' ⟨rfl, ⟨nd, rfl⟩⟩; refine ⟨_, rfl, ?_⟩))
      go_meet
      case rel => exact ⟨_, (((t602.length : Int) != 11)), rs_, H', ⟨by first | omega | exact Nat.le_refl _⟩, ⟨by (with_reducible repeat (first | apply Kd.N_alloc | apply Kd.N_drewN | apply Kd.N_drew)); exact Kd.N_mono HO607.out (fun _ hk => trivial)⟩, ⟨bl1_ (IsS51.ge HI598.out)⟩⟩
     ·replace c33 := Bool.eq_false_iff.mpr c33
      subst c33
      rw [if_neg (show ¬ (false = true) by decide)] at H
      have H' := Aside0.mk H
      clear H
      obtain ⟨Ao36, co36, eo36⟩ := Kd.V_slice HO604.out
      subst eo36
      obtain ⟨Ao37, co37, eo37⟩ := Kd.N_slice HO607.out
      subst eo37
      go_wp2_with (first | ((with_reducible refine gate_callee (f := 16) rfl ?_); refine goesL_ (some 26) rfl rfl Tryz.func16 kr_ rfl #[.slice Ao36 t602.length co36, .slice Ao37 t605.length co37] rfl ta_ ?_; (with_reducible refine (laws_likeShapes.calls k _ _ t602 _ _ t605 false _ ?side1 ?side2 ?side3 ?side4 A32.out).mono ?_); (case side1 => exact ca_ (Kd.V_reads' HO604.out).2.2); (case side2 => exact (Kd.V_reads' HO604.out).2.1); (case side3 => exact ca_ (Kd.N_reads' HO607.out).2.2); (case side4 => exact (Kd.N_reads' HO607.out).2.1); rintro e w' ⟨rfl, ⟨nd, rfl⟩⟩; refine ⟨_, rfl, ?_⟩))
      go_meet
      case rel => exact ⟨_, (true), rs_, H', ⟨by first | omega | exact Nat.le_refl _⟩, ⟨by (with_reducible repeat (first | apply Kd.N_alloc | apply Kd.N_drewN | apply Kd.N_drew)); exact Kd.N_mono HO607.out (fun _ hk => trivial)⟩, ⟨bl1_ (IsS51.ge HI598.out)⟩⟩
    case rest =>
     clear HC23
     try clear c3
     try clear c7b0
     try clear c7b1
     try clear c7b2
     try clear c14b0
     obtain ⟨kq, x32_22, rfl, HA, HJ22, HO_5, HB⟩ := hcut
     cases kq with
     | zero => exact absurd HA.out (by simp [laws_FnAllNets.j0])
     | succ kj22 =>
      have H := HA.out
      clear HA
      simp only [laws_FnAllNets.j0] at H
      by_cases c38 : x32_22 = true
      ·subst c38
       rw [if_pos rfl] at H
       obtain rfl := Option.some.inj H
       go_wp2
       go_ret
       exact ⟨er_, bl0_⟩
      ·replace c38 := Bool.eq_false_iff.mpr c38
       subst c38
       rw [if_neg (show ¬ (false = true) by decide)] at H
       obtain ⟨⟨t609, t610, t611⟩, A39, H⟩ := bs_ H
       dsimp only at H
       obtain ⟨⟨t613, t614, t615⟩, A40, H⟩ := bs_ H
       dsimp only at H
       by_cases c41 : 0 ≤ t613
       ·rw [if_pos c41] at H
        have c41b0 : decide (0 ≤ t613) = true := decide_eq_true c41
        clear c41
        by_cases c42 : t613 < (t605.length : Int)
        ·rw [if_pos c42] at H
         have c42b0 : decide (t613 < (t605.length : Int)) = true := decide_eq_true c42
         clear c42
         obtain ⟨⟨t617, t618⟩, A43, H⟩ := bs_ H
         dsimp only at H
         by_cases c44 : t618 = 0
         ·rw [if_pos c44] at H
          have c44b0 : (t618 == 0) = true := beq_iff_eq.mpr c44
          have c44b1 : (t618 != 0) = false := bne_eq_false_iff_eq.mpr c44
          clear c44
          obtain ⟨t622, A45, H⟩ := bs_ H
          by_cases c46 : t622 = true
          ·subst c46
           rw [if_pos rfl] at H
           obtain ⟨t624, A47, H⟩ := bs_ H
           obtain rfl := Option.some.inj H
           go_wp2_with (first | ((with_reducible refine gate_callee (f := 14) rfl ?_); refine goesL_ (some 34) rfl rfl Tryz.func14 kr_ rfl #[.slice A0 l0.length c0, .int .u64 3203] rfl ta_ ?_; (with_reducible refine ((fun W_ (hb_ : Below w.heap.size w W_) => laws_roll.calls kj22 _ _ l0 3203 t609 t610 t611 W_ W_ (Below.refl _ _) (Kd.C_below HR0.out hb_) HC0.out A39.out) _ ?side1).mono ?_); (case side1 => repeat (first | (with_reducible first | exact HB.out | apply below_alloc | apply pw_below_drewN | apply below_drew1) | exact HB.out)); rintro e w48 ⟨g612, rfl, hi, hb, hb2⟩; refine ⟨_, rfl, ?_⟩; replace HO_5 := a0_ (Kd.N_below (Kd.N_elderB (na_ HO_5.out) g612 (IsS51.ge hi)) hb2); have HBU612 := a0_ (bl0_); replace HB := a0_ (below_step (bl0_) hb2); have HBV612 := a0_ (hb); have HI612 := a0_ (hi); (try clear hb); (try clear hb2); (try clear hi)) | ((with_reducible refine gate_callee (f := 15) rfl ?_); refine goesL_ (some 35) rfl rfl Tryz.func15 kr_ rfl #[.pointer (some ⟨g612, 0, none⟩), .int .i64 11] rfl ta_ ?_; (with_reducible refine (laws_dice_below.calls g612 t609 t610 t611 11 t613 t614 t615 _ _ HI612.out HBV612.out A40.out).mono ?_); rintro e w49 ⟨rfl, hi, hb, hk⟩; refine ⟨_, rfl, ?_⟩; replace HO_5 := a0_ (Kd.N_mono (Kd.N_keep (Kd.N_mono (ok := fun k_ => (True ∧ k_ ≠ g612)) (na_ HO_5.out) (fun k_ hk_ => (⟨hk_, hk_.2⟩ : _ ∧ k_ ≠ g612))) hk (fun _ h => h.2)) (fun _ h => h.1)); replace HB := a0_ (below_step HBU612.out hb); replace HI612 := a0_ (hi); replace HBV612 := a0_ (hb); (try clear hb); (try clear hk); (try clear hi); obtain ⟨Ao50, co50, eo50⟩ := Kd.N_slice HO_5.out; subst eo50; have p616 : 0 ≤ (t613 : Int) := od_; have q616 : t613 < (t605.length : Int) := od_; obtain ⟨ad616, A616_0, c616_0, e616, hx616_0, hl616_0, hi616_0⟩ := at_L4 (Kd.N_reads' HO_5.out).2.2 t613 p616 q616; cases e616; obtain ⟨ce616, hce616, hMe616, hcc616⟩ := Kd.N_get HO_5.out [] t613 p616 (by first | exact q616 | exact od_ | (have e_ := (Kd.N_reads' HO_5.out).1; omega)); obtain ⟨ua616_0, uc616_0, rfl, ul616_0, ge616_0⟩ := Kd.FK_slice_open hMe616; have hv616_0 := hcc616 0 _ rfl; rw [Nat.add_zero, show ((Kd.slice 56 k56)).sz = 1 from rfl, Nat.mul_one] at hv616_0; replace hv616_0 := Option.some.inj (hv616_0.symm.trans hx616_0); injection hv616_0 with hva_ hvn_ hvc_; rw [hva_] at ge616_0; rw [hvc_] at ul616_0; have HL616_0 := a0_ (show Kd.V k56 56 _ w.heap.size _ _ (rd_L4 t605 t613) from Kd.V_mk ul616_0 ge616_0); clear hva_ hvn_ hvc_ ge616_0 ul616_0; clear hcc616 hce616; have HR616_0 := Aside0.mk hi616_0; have HC616_0 := Aside0.mk hl616_0; clear hi616_0 hl616_0; replace p616 := eq_true p616; replace q616 := eq_true q616) | ((with_reducible refine gate_callee (f := 17) rfl ?_); refine goesL_ (some 41) rfl rfl Tryz.func17 kr_ rfl #[.slice A616_0 (rd_L4 t605 t613).length c616_0] rfl ta_ ?_; (with_reducible refine (impl_FreeForm.calls kj22 _ _ (rd_L4 t605 t613) t617 t618 _ ?side1 ?side2 A43.out).mono ?_); (case side1 => exact ca_ HR616_0.out); (case side2 => exact HC616_0.out); rintro e w51 ⟨v619, rfl, ho0, hb⟩; refine ⟨_, rfl, ?_⟩; replace HO_5 := a0_ (Kd.N_elder' (na_ HO_5.out) (Kd.R_base ho0) hb); replace HL616_0 := a0_ (Kd.V_elder' (va_ HL616_0.out) (Kd.R_base ho0) hb); have HO620 := a0_ (Kd.R_lower ho0 (below_size (bl1_ (IsS51.ge HI612.out)))); replace HR616_0 := a0_ (Kd.C_below (ca_ HR616_0.out) hb); replace HB := a0_ (below_step (bl1_ (IsS51.ge HI612.out)) hb); replace HI612 := a0_ (IsS51.below (is51_ HI612.out) hb); (try clear hb); (try clear ho0); have p621 : 0 ≤ (t613 : Int) := od_; have q621 : t613 < (t605.length : Int) := od_; obtain ⟨ad621, A621_0, c621_0, e621, hx621_0, hl621_0, hi621_0⟩ := at_L4 (Kd.N_reads' HO_5.out).2.2 t613 p621 q621; obtain rfl : ad616 = ad621 := (by injection e621); obtain ⟨ce621, hce621, hMe621, hcc621⟩ := Kd.N_get HO_5.out [] t613 p621 (by first | exact q621 | exact od_ | (have e_ := (Kd.N_reads' HO_5.out).1; omega)); obtain ⟨ua621_0, uc621_0, rfl, ul621_0, ge621_0⟩ := Kd.FK_slice_open hMe621; have hv621_0 := hcc621 0 _ rfl; rw [Nat.add_zero, show ((Kd.slice 56 k56)).sz = 1 from rfl, Nat.mul_one] at hv621_0; replace hv621_0 := Option.some.inj (hv621_0.symm.trans hx621_0); injection hv621_0 with hva_ hvn_ hvc_; rw [hva_] at ge621_0; rw [hvc_] at ul621_0; have HL621_0 := a0_ (show Kd.V k56 56 _ w.heap.size _ _ (rd_L4 t605 t613) from Kd.V_mk ul621_0 ge621_0); clear hva_ hvn_ hvc_ ge621_0 ul621_0; clear hcc621 hce621; have HR621_0 := Aside0.mk hi621_0; have HC621_0 := Aside0.mk hl621_0; clear hi621_0 hl621_0; replace p621 := eq_true p621; replace q621 := eq_true q621; obtain ⟨Ao52, co52, eo52⟩ := Kd.R_slice HO620.out; subst eo52) | (go_at_call 18; (with_reducible refine (laws_likeCells.calls kj22 _ _ t617 _ _ (rd_L4 t605 t613) true _ ?side1 ?side2 ?side3 ?side4 A45.out).mono ?_); (case side1 => exact ca_ (Kd.R_reads' HO620.out).2.2); (case side2 => exact (Kd.R_reads' HO620.out).2.1); (case side3 => exact ca_ HR621_0.out); (case side4 => exact HC621_0.out); rintro e w' ⟨rfl, ⟨nd, rfl⟩⟩; have p623 : 0 ≤ (t613 : Int) := od_; have q623 : t613 < (t605.length : Int) := od_; obtain ⟨ad623, A623_0, c623_0, e623, hx623_0, hl623_0, hi623_0⟩ := at_L4 (Kd.N_reads' HO_5.out).2.2 t613 p623 q623; obtain rfl : ad616 = ad623 := (by injection e623); obtain ⟨ce623, hce623, hMe623, hcc623⟩ := Kd.N_get HO_5.out [] t613 p623 (by first | exact q623 | exact od_ | (have e_ := (Kd.N_reads' HO_5.out).1; omega)); obtain ⟨ua623_0, uc623_0, rfl, ul623_0, ge623_0⟩ := Kd.FK_slice_open hMe623; have hv623_0 := hcc623 0 _ rfl; rw [Nat.add_zero, show ((Kd.slice 56 k56)).sz = 1 from rfl, Nat.mul_one] at hv623_0; replace hv623_0 := Option.some.inj (hv623_0.symm.trans hx623_0); injection hv623_0 with hva_ hvn_ hvc_; rw [hva_] at ge623_0; rw [hvc_] at ul623_0; have HL623_0 := a0_ (show Kd.V k56 56 _ w.heap.size _ _ (rd_L4 t605 t613) from Kd.V_mk ul623_0 ge623_0); clear hva_ hvn_ hvc_ ge623_0 ul623_0; clear hcc623 hce623; have HR623_0 := Aside0.mk hi623_0; have HC623_0 := Aside0.mk hl623_0; clear hi623_0 hl623_0; replace p623 := eq_true p623; replace q623 := eq_true q623; have ea_ := Option.some.inj (hx621_0.symm.trans hx623_0); injection ea_ with ea_ en_ ec_; subst ea_; subst ec_; clear en_) | (go_at_call 12; (with_reducible refine (impl_IsNet.calls kj22 _ _ (rd_L4 t605 t613) t624 _ ?side1 ?side2 A47.out (Laid.below hG (by repeat (first | exact HB.out | exact Below.refl _ _ | apply below_alloc | apply pw_below_drewN | apply below_drew1)))).mono ?_); (case side1 => exact ca_ HR623_0.out); (case side2 => exact HC623_0.out); rintro e w53 ⟨rfl, hb⟩; replace HO_5 := a0_ (Kd.N_below (na_ HO_5.out) hb); replace HL616_0 := a0_ (Kd.V_below (va_ HL616_0.out) hb); replace HO620 := a0_ (Kd.R_below (ra_ HO620.out) hb); replace HL621_0 := a0_ (Kd.V_below (va_ HL621_0.out) hb); replace HL623_0 := a0_ (Kd.V_below (va_ HL623_0.out) hb); replace HR616_0 := a0_ (Kd.C_below (ca_ HR616_0.out) hb); replace HR621_0 := a0_ (Kd.C_below (ca_ HR621_0.out) hb); replace HR623_0 := a0_ (Kd.C_below (ca_ HR623_0.out) hb); replace HB := a0_ (below_step (bl1_ (IsS51.ge HI612.out)) hb); replace HI612 := a0_ (IsS51.below (is51_ HI612.out) hb); (try clear hb)))
           go_ret
           exact ⟨er_, bl1_ (IsS51.ge HI612.out)⟩
          ·replace c46 := Bool.eq_false_iff.mpr c46
           subst c46
           rw [if_neg (show ¬ (false = true) by decide)] at H
           obtain rfl := Option.some.inj H
           go_wp2_with (first | ((with_reducible refine gate_callee (f := 14) rfl ?_); refine goesL_ (some 34) rfl rfl Tryz.func14 kr_ rfl #[.slice A0 l0.length c0, .int .u64 3203] rfl ta_ ?_; (with_reducible refine ((fun W_ (hb_ : Below w.heap.size w W_) => laws_roll.calls kj22 _ _ l0 3203 t609 t610 t611 W_ W_ (Below.refl _ _) (Kd.C_below HR0.out hb_) HC0.out A39.out) _ ?side1).mono ?_); (case side1 => repeat (first | (with_reducible first | exact HB.out | apply below_alloc | apply pw_below_drewN | apply below_drew1) | exact HB.out)); rintro e w54 ⟨g612, rfl, hi, hb, hb2⟩; refine ⟨_, rfl, ?_⟩; replace HO_5 := a0_ (Kd.N_below (Kd.N_elderB (na_ HO_5.out) g612 (IsS51.ge hi)) hb2); have HBU612 := a0_ (bl0_); replace HB := a0_ (below_step (bl0_) hb2); have HBV612 := a0_ (hb); have HI612 := a0_ (hi); (try clear hb); (try clear hb2); (try clear hi)) | ((with_reducible refine gate_callee (f := 15) rfl ?_); refine goesL_ (some 35) rfl rfl Tryz.func15 kr_ rfl #[.pointer (some ⟨g612, 0, none⟩), .int .i64 11] rfl ta_ ?_; (with_reducible refine (laws_dice_below.calls g612 t609 t610 t611 11 t613 t614 t615 _ _ HI612.out HBV612.out A40.out).mono ?_); rintro e w55 ⟨rfl, hi, hb, hk⟩; refine ⟨_, rfl, ?_⟩; replace HO_5 := a0_ (Kd.N_mono (Kd.N_keep (Kd.N_mono (ok := fun k_ => (True ∧ k_ ≠ g612)) (na_ HO_5.out) (fun k_ hk_ => (⟨hk_, hk_.2⟩ : _ ∧ k_ ≠ g612))) hk (fun _ h => h.2)) (fun _ h => h.1)); replace HB := a0_ (below_step HBU612.out hb); replace HI612 := a0_ (hi); replace HBV612 := a0_ (hb); (try clear hb); (try clear hk); (try clear hi); obtain ⟨Ao56, co56, eo56⟩ := Kd.N_slice HO_5.out; subst eo56; have p616 : 0 ≤ (t613 : Int) := od_; have q616 : t613 < (t605.length : Int) := od_; obtain ⟨ad616, A616_0, c616_0, e616, hx616_0, hl616_0, hi616_0⟩ := at_L4 (Kd.N_reads' HO_5.out).2.2 t613 p616 q616; cases e616; obtain ⟨ce616, hce616, hMe616, hcc616⟩ := Kd.N_get HO_5.out [] t613 p616 (by first | exact q616 | exact od_ | (have e_ := (Kd.N_reads' HO_5.out).1; omega)); obtain ⟨ua616_0, uc616_0, rfl, ul616_0, ge616_0⟩ := Kd.FK_slice_open hMe616; have hv616_0 := hcc616 0 _ rfl; rw [Nat.add_zero, show ((Kd.slice 56 k56)).sz = 1 from rfl, Nat.mul_one] at hv616_0; replace hv616_0 := Option.some.inj (hv616_0.symm.trans hx616_0); injection hv616_0 with hva_ hvn_ hvc_; rw [hva_] at ge616_0; rw [hvc_] at ul616_0; have HL616_0 := a0_ (show Kd.V k56 56 _ w.heap.size _ _ (rd_L4 t605 t613) from Kd.V_mk ul616_0 ge616_0); clear hva_ hvn_ hvc_ ge616_0 ul616_0; clear hcc616 hce616; have HR616_0 := Aside0.mk hi616_0; have HC616_0 := Aside0.mk hl616_0; clear hi616_0 hl616_0; replace p616 := eq_true p616; replace q616 := eq_true q616) | ((with_reducible refine gate_callee (f := 17) rfl ?_); refine goesL_ (some 41) rfl rfl Tryz.func17 kr_ rfl #[.slice A616_0 (rd_L4 t605 t613).length c616_0] rfl ta_ ?_; (with_reducible refine (impl_FreeForm.calls kj22 _ _ (rd_L4 t605 t613) t617 t618 _ ?side1 ?side2 A43.out).mono ?_); (case side1 => exact ca_ HR616_0.out); (case side2 => exact HC616_0.out); rintro e w57 ⟨v619, rfl, ho0, hb⟩; refine ⟨_, rfl, ?_⟩; replace HO_5 := a0_ (Kd.N_elder' (na_ HO_5.out) (Kd.R_base ho0) hb); replace HL616_0 := a0_ (Kd.V_elder' (va_ HL616_0.out) (Kd.R_base ho0) hb); have HO620 := a0_ (Kd.R_lower ho0 (below_size (bl1_ (IsS51.ge HI612.out)))); replace HR616_0 := a0_ (Kd.C_below (ca_ HR616_0.out) hb); replace HB := a0_ (below_step (bl1_ (IsS51.ge HI612.out)) hb); replace HI612 := a0_ (IsS51.below (is51_ HI612.out) hb); (try clear hb); (try clear ho0); have p621 : 0 ≤ (t613 : Int) := od_; have q621 : t613 < (t605.length : Int) := od_; obtain ⟨ad621, A621_0, c621_0, e621, hx621_0, hl621_0, hi621_0⟩ := at_L4 (Kd.N_reads' HO_5.out).2.2 t613 p621 q621; obtain rfl : ad616 = ad621 := (by injection e621); obtain ⟨ce621, hce621, hMe621, hcc621⟩ := Kd.N_get HO_5.out [] t613 p621 (by first | exact q621 | exact od_ | (have e_ := (Kd.N_reads' HO_5.out).1; omega)); obtain ⟨ua621_0, uc621_0, rfl, ul621_0, ge621_0⟩ := Kd.FK_slice_open hMe621; have hv621_0 := hcc621 0 _ rfl; rw [Nat.add_zero, show ((Kd.slice 56 k56)).sz = 1 from rfl, Nat.mul_one] at hv621_0; replace hv621_0 := Option.some.inj (hv621_0.symm.trans hx621_0); injection hv621_0 with hva_ hvn_ hvc_; rw [hva_] at ge621_0; rw [hvc_] at ul621_0; have HL621_0 := a0_ (show Kd.V k56 56 _ w.heap.size _ _ (rd_L4 t605 t613) from Kd.V_mk ul621_0 ge621_0); clear hva_ hvn_ hvc_ ge621_0 ul621_0; clear hcc621 hce621; have HR621_0 := Aside0.mk hi621_0; have HC621_0 := Aside0.mk hl621_0; clear hi621_0 hl621_0; replace p621 := eq_true p621; replace q621 := eq_true q621; obtain ⟨Ao58, co58, eo58⟩ := Kd.R_slice HO620.out; subst eo58) | (go_at_call 18; (with_reducible refine (laws_likeCells.calls kj22 _ _ t617 _ _ (rd_L4 t605 t613) false _ ?side1 ?side2 ?side3 ?side4 A45.out).mono ?_); (case side1 => exact ca_ (Kd.R_reads' HO620.out).2.2); (case side2 => exact (Kd.R_reads' HO620.out).2.1); (case side3 => exact ca_ HR621_0.out); (case side4 => exact HC621_0.out); rintro e w' ⟨rfl, ⟨nd, rfl⟩⟩))
           go_ret
           exact ⟨er_, bl1_ (IsS51.ge HI612.out)⟩
         ·rw [if_neg c44] at H
          have c44b0 : (t618 == 0) = false := beq_eq_false_iff_ne.mpr c44
          have c44b1 : (t618 != 0) = true := bne_iff_ne.mpr c44
          obtain rfl := Option.some.inj H
          go_wp2_with (first | ((with_reducible refine gate_callee (f := 14) rfl ?_); refine goesL_ (some 34) rfl rfl Tryz.func14 kr_ rfl #[.slice A0 l0.length c0, .int .u64 3203] rfl ta_ ?_; (with_reducible refine ((fun W_ (hb_ : Below w.heap.size w W_) => laws_roll.calls kj22 _ _ l0 3203 t609 t610 t611 W_ W_ (Below.refl _ _) (Kd.C_below HR0.out hb_) HC0.out A39.out) _ ?side1).mono ?_); (case side1 => repeat (first | (with_reducible first | exact HB.out | apply below_alloc | apply pw_below_drewN | apply below_drew1) | exact HB.out)); rintro e w59 ⟨g612, rfl, hi, hb, hb2⟩; refine ⟨_, rfl, ?_⟩; replace HO_5 := a0_ (Kd.N_below (Kd.N_elderB (na_ HO_5.out) g612 (IsS51.ge hi)) hb2); have HBU612 := a0_ (bl0_); replace HB := a0_ (below_step (bl0_) hb2); have HBV612 := a0_ (hb); have HI612 := a0_ (hi); (try clear hb); (try clear hb2); (try clear hi)) | ((with_reducible refine gate_callee (f := 15) rfl ?_); refine goesL_ (some 35) rfl rfl Tryz.func15 kr_ rfl #[.pointer (some ⟨g612, 0, none⟩), .int .i64 11] rfl ta_ ?_; (with_reducible refine (laws_dice_below.calls g612 t609 t610 t611 11 t613 t614 t615 _ _ HI612.out HBV612.out A40.out).mono ?_); rintro e w60 ⟨rfl, hi, hb, hk⟩; refine ⟨_, rfl, ?_⟩; replace HO_5 := a0_ (Kd.N_mono (Kd.N_keep (Kd.N_mono (ok := fun k_ => (True ∧ k_ ≠ g612)) (na_ HO_5.out) (fun k_ hk_ => (⟨hk_, hk_.2⟩ : _ ∧ k_ ≠ g612))) hk (fun _ h => h.2)) (fun _ h => h.1)); replace HB := a0_ (below_step HBU612.out hb); replace HI612 := a0_ (hi); replace HBV612 := a0_ (hb); (try clear hb); (try clear hk); (try clear hi); obtain ⟨Ao61, co61, eo61⟩ := Kd.N_slice HO_5.out; subst eo61; have p616 : 0 ≤ (t613 : Int) := od_; have q616 : t613 < (t605.length : Int) := od_; obtain ⟨ad616, A616_0, c616_0, e616, hx616_0, hl616_0, hi616_0⟩ := at_L4 (Kd.N_reads' HO_5.out).2.2 t613 p616 q616; cases e616; obtain ⟨ce616, hce616, hMe616, hcc616⟩ := Kd.N_get HO_5.out [] t613 p616 (by first | exact q616 | exact od_ | (have e_ := (Kd.N_reads' HO_5.out).1; omega)); obtain ⟨ua616_0, uc616_0, rfl, ul616_0, ge616_0⟩ := Kd.FK_slice_open hMe616; have hv616_0 := hcc616 0 _ rfl; rw [Nat.add_zero, show ((Kd.slice 56 k56)).sz = 1 from rfl, Nat.mul_one] at hv616_0; replace hv616_0 := Option.some.inj (hv616_0.symm.trans hx616_0); injection hv616_0 with hva_ hvn_ hvc_; rw [hva_] at ge616_0; rw [hvc_] at ul616_0; have HL616_0 := a0_ (show Kd.V k56 56 _ w.heap.size _ _ (rd_L4 t605 t613) from Kd.V_mk ul616_0 ge616_0); clear hva_ hvn_ hvc_ ge616_0 ul616_0; clear hcc616 hce616; have HR616_0 := Aside0.mk hi616_0; have HC616_0 := Aside0.mk hl616_0; clear hi616_0 hl616_0; replace p616 := eq_true p616; replace q616 := eq_true q616) | ((with_reducible refine gate_callee (f := 17) rfl ?_); refine goesL_ (some 41) rfl rfl Tryz.func17 kr_ rfl #[.slice A616_0 (rd_L4 t605 t613).length c616_0] rfl ta_ ?_; (with_reducible refine (impl_FreeForm.calls kj22 _ _ (rd_L4 t605 t613) t617 t618 _ ?side1 ?side2 A43.out).mono ?_); (case side1 => exact ca_ HR616_0.out); (case side2 => exact HC616_0.out); rintro e w62 ⟨v619, rfl, ho0, hb⟩; refine ⟨_, rfl, ?_⟩; replace HO_5 := a0_ (Kd.N_elder' (na_ HO_5.out) (Kd.R_base ho0) hb); replace HL616_0 := a0_ (Kd.V_elder' (va_ HL616_0.out) (Kd.R_base ho0) hb); have HO620 := a0_ (Kd.R_lower ho0 (below_size (bl1_ (IsS51.ge HI612.out)))); replace HR616_0 := a0_ (Kd.C_below (ca_ HR616_0.out) hb); replace HB := a0_ (below_step (bl1_ (IsS51.ge HI612.out)) hb); replace HI612 := a0_ (IsS51.below (is51_ HI612.out) hb); (try clear hb); (try clear ho0)))
          go_ret
          exact ⟨er_, bl1_ (IsS51.ge HI612.out)⟩
        ·rw [if_neg c42] at H
         exact absurd H (by simp)
       ·rw [if_neg c41] at H
        exact absurd H (by simp)
end Go.Proofs.YtmdjkmfocgelnaaGreatDoor.PFnAllNets
