/- Over the kit's printer by a driver of mine (hprint.py), with parts by hand: functions of the program as Lean functions, and that each call comes to exactly these answers. -/
import Derived.Test.YtmdjkmfocgelnaaGreatDoorPFnExactNetsx0
import Derived.Test.YtmdjkmfocgelnaaGreatDoorPFnExactNetsx11
import Derived.Test.YtmdjkmfocgelnaaGreatDoorPFnExactNetsx15
import Derived.Test.YtmdjkmfocgelnaaGreatDoorPFnExactNetsx20
import Derived.Test.YtmdjkmfocgelnaaGreatDoorPFnExactNetsx21
namespace Go.Proofs.YtmdjkmfocgelnaaGreatDoor.PFnExactNets
open Go.RowKit Go.Proofs.YtmdjkmfocgelnaaGreatDoorW.PrintWords Go.Proofs.YtmdjkmfocgelnaaGreatDoorW.PrintLast Go.Proofs.YtmdjkmfocgelnaaGreatDoorW.PrintMore
attribute [local go_sem] max2_int min2_int max_two min_two max_three min_three max_four min_four   -- for this text's walks alone
set_option linter.unusedVariables false
set_option linter.unusedSimpArgs false

/-! ### laws_heldCellSS: function 9 -/
def laws_heldCellSS.l0 : Nat → List (List (S56)) → Int → Int → Option (Int)
 | 0, _, _, _ => none
 | k + 1, x0, x1, x5 => if x5 < (x0.length : Int) then (if 0 ≤ x5 then ((laws_heldCellS.f k (rd_L4 x0 x5) x1).bind fun t457 => (if t457 < 0 then (some (-1)) else (laws_heldCellSS.l0 k x0 t457 (wrap64 (x5 + 1))))) else (none)) else (some x1)
def laws_heldCellSS.f (k : Nat) (l0 : List (List (S56))) (a1 : Int) : Option (Int) := laws_heldCellSS.l0 k l0 a1 0
theorem laws_heldCellSS.mono_l : ∀ k, (∀ y0 y1 y2, LeO (laws_heldCellSS.l0 k y0 y1 y2) (laws_heldCellSS.l0 (k + 1) y0 y1 y2))
 | 0 => fun _ _ _ r h => by simp [laws_heldCellSS.l0] at h
 | k + 1 => by
  have ih0 := laws_heldCellSS.mono_l k
  ·intro y0 y1 y2
   unfold laws_heldCellSS.l0
   with_reducible (repeat' first | exact ih0 _ _ _ | exact laws_heldCellS.mono _ _ _ | exact LeO.refl _ | exact LeO.none _ | refine LeO.ite ?_ ?_ | refine LeO.bind ?_ (fun _ => ?_))
theorem laws_heldCellSS.mono : ∀ a0 a1 k, LeO (laws_heldCellSS.f k a0 a1) (laws_heldCellSS.f (k + 1) a0 a1) := by
 intro a0 a1 k
 have ih0 := laws_heldCellSS.mono_l k
 unfold laws_heldCellSS.f
 with_reducible (repeat' first | exact ih0 _ _ _ | exact laws_heldCellS.mono _ _ _ | exact LeO.refl _ | exact LeO.none _ | refine LeO.ite ?_ ?_ | refine LeO.bind ?_ (fun _ => ?_))
set_option maxHeartbeats 8000000 in
set_option maxRecDepth 100000 in
theorem laws_heldCellSS.calls (k : Nat) (A0 : Option Addr) (c0 : Nat) (l0 : List (List (S56))) (a1 : Int) (r : Int) (w : World) (hr0 : Kd.C (Kd.slice 56 k56) w A0 l0.length l0) (hc0 : l0.length ≤ c0) (h : laws_heldCellSS.f k l0 a1 = some r) :
  Calls Tryz.prog 9 #[.slice A0 l0.length c0, .int .i64 a1] w fun e w' => e = .returned (.int .i64 r) ∧ Drawn0 w w' := by
 have HR0 := Aside0.mk hr0
 have HC0 := Aside0.mk hc0
 clear hr0 hc0
 have H : (laws_heldCellSS.l0 k l0 a1 0) = some r := h
 clear h
 have H' := Aside0.mk H
 clear H
 go_enter Tryz.func9, Tryz.ntmps9
 go_wp2
 go_loopg [1, 5] k (fun kq v1 v5 w' => ∃ (x1_1 : Int) (x5_1 : Int), v1 = .int .i64 x1_1 ∧ v5 = .int .i64 x5_1 ∧ Aside0 (laws_heldCellSS.l0 kq l0 x1_1 x5_1 = some r) ∧ Aside0 (kq ≤ k) ∧ Drawn0 w w')
 case atStart => exact ⟨(a1), (0), rs_, rs_, H', ⟨Nat.le_refl _⟩, by repeat (first | exact Drawn0.refl _ | apply Drawn0.step)⟩
 case round =>
  clear H'
  try clear p2
  obtain ⟨x1_1, x5_1, rfl, rfl, HA, HK1, ⟨m1, rfl⟩⟩ := hrel
  cases gk with
  | zero => exact absurd HA.out (by simp [laws_heldCellSS.l0])
  | succ k1 =>
   have H := HA.out
   clear HA
   simp only [laws_heldCellSS.l0] at H
   by_cases c3 : x5_1 < (l0.length : Int)
   ·rw [if_pos c3] at H
    have c3b0 : decide (x5_1 < (l0.length : Int)) = true := decide_eq_true c3
    clear c3
    by_cases c4 : 0 ≤ x5_1
    ·rw [if_pos c4] at H
     have c4b0 : decide (0 ≤ x5_1) = true := decide_eq_true c4
     clear c4
     obtain ⟨t457, A5, H⟩ := bs_ H
     by_cases c6 : t457 < 0
     ·rw [if_pos c6] at H
      have c6b0 : decide (t457 < 0) = true := decide_eq_true c6
      clear c6
      obtain rfl := Option.some.inj H
      have p456 : 0 ≤ (x5_1 : Int) := od_
      have q456 : x5_1 < (l0.length : Int) := od_
      obtain ⟨ad456, A456_0, c456_0, e456, hx456_0, hl456_0, hi456_0⟩ := at_L4 HR0.out x5_1 p456 q456
      cases e456
      have HR456_0 := Aside0.mk hi456_0
      have HC456_0 := Aside0.mk hl456_0
      clear hi456_0 hl456_0
      replace p456 := eq_true p456
      replace q456 := eq_true q456
      go_wp2_with (first | ((with_reducible refine gate_callee (f := 26) rfl ?_); refine goesL_ (some 17) rfl rfl Tryz.func26 kr_ rfl #[.slice A456_0 (rd_L4 l0 x5_1).length c456_0, .int .i64 x1_1] rfl ta_ ?_; (with_reducible refine (laws_heldCellS.calls k1 _ _ (rd_L4 l0 x5_1) x1_1 t457 _ ?side1 ?side2 A5.out).mono ?_); (case side1 => exact ca_ HR456_0.out); (case side2 => exact HC456_0.out); rintro e w' ⟨rfl, ⟨nd, rfl⟩⟩; refine ⟨_, rfl, ?_⟩))
      go_ret
      exact ⟨by first | rfl | (simp; done) | (simp [*]; done), by repeat (first | exact Drawn0.refl _ | apply Drawn0.step)⟩
     ·rw [if_neg c6] at H
      have c6b0 : decide (t457 < 0) = false := decide_eq_false c6
      clear c6
      have H' := Aside0.mk H
      clear H
      have p456 : 0 ≤ (x5_1 : Int) := od_
      have q456 : x5_1 < (l0.length : Int) := od_
      obtain ⟨ad456, A456_0, c456_0, e456, hx456_0, hl456_0, hi456_0⟩ := at_L4 HR0.out x5_1 p456 q456
      cases e456
      have HR456_0 := Aside0.mk hi456_0
      have HC456_0 := Aside0.mk hl456_0
      clear hi456_0 hl456_0
      replace p456 := eq_true p456
      replace q456 := eq_true q456
      go_wp2_with (first | ((with_reducible refine gate_callee (f := 26) rfl ?_); refine goesL_ (some 17) rfl rfl Tryz.func26 kr_ rfl #[.slice A456_0 (rd_L4 l0 x5_1).length c456_0, .int .i64 x1_1] rfl ta_ ?_; (with_reducible refine (laws_heldCellS.calls k1 _ _ (rd_L4 l0 x5_1) x1_1 t457 _ ?side1 ?side2 A5.out).mono ?_); (case side1 => exact ca_ HR456_0.out); (case side2 => exact HC456_0.out); rintro e w' ⟨rfl, ⟨nd, rfl⟩⟩; refine ⟨_, rfl, ?_⟩))
      go_roundg k1
      case measure => have := HK1.out; omega
      case rel => exact ⟨(t457), (wrap64 (x5_1 + 1)), rs_, rs_, H', ⟨by have := HK1.out; omega⟩, by repeat (first | exact Drawn0.refl _ | apply Drawn0.step)⟩
    ·rw [if_neg c4] at H
     exact absurd H (by simp)
   ·rw [if_neg c3] at H
    have c3b0 : decide (x5_1 < (l0.length : Int)) = false := decide_eq_false c3
    clear c3
    obtain rfl := Option.some.inj H
    go_wp2
    go_ret
    exact ⟨by first | rfl | (simp; done) | (simp [*]; done), by repeat (first | exact Drawn0.refl _ | apply Drawn0.step)⟩

/-! ### laws_FnExactNets: function 3 -/
/-! The law's function: both lists, marks, marks read. -/
def laws_FnExactNets.f (k : Nat) : Option Bool := (spec_Nets.f k).bind fun s => (impl_Nets.f k).bind fun g => (laws_markCellSS.g k g 1).bind fun y =>
 if g.length ≤ 1000000 ∧ laws_eqCellSS.f k g s = some true ∧ 0 ≤ y.1 ∧ y.2.length = g.length ∧ laws_heldCellSS.f k y.2 1 = some y.1 then some true else none
set_option maxHeartbeats 4000000 in
set_option maxRecDepth 100000 in
theorem laws_FnExactNets.calls (k : Nat) (r : Bool) (w : World) (h : laws_FnExactNets.f k = some r) (hG : Laid w) :
  Calls Tryz.prog 3 #[] w fun e w' => e = .returned (.bool r) ∧ Below w.heap.size w w' := by
 obtain ⟨s, hs, h1⟩ := Option.bind_eq_some_iff.mp h
 obtain ⟨g, hg, h2⟩ := Option.bind_eq_some_iff.mp h1
 obtain ⟨⟨m, y⟩, hy, h3⟩ := Option.bind_eq_some_iff.mp h2
 split at h3
 case isFalse => cases h3
 rename_i hc
 obtain ⟨c2, c3, c4, c5, c6⟩ := hc
 obtain rfl := Option.some.inj h3
 have hsp := fun W => spec_Nets.calls k s W hs
 have him := fun W hW => nets_S k g W hg hW
 have q0 : (m < 0) = False := eq_false (by have : 0 ≤ m := c4; omega)
 have q1 : decide (m < 0) = false := decide_eq_false (by have : 0 ≤ m := c4; omega)
 have HG := Aside0.mk hG
 have HC := Aside0.mk c2
 have HE := Aside0.mk c3
 have HY := a0_ (And.intro hy (And.intro c5 c6))
 clear h h1 h2 h3 hs hg hy c2 c3 c4 c5 c6 hG
 go_enter Tryz.func3, Tryz.ntmps3
 go_wp2_with (first
  | (go_at_call 5; (refine (hsp _).mono ?_; rintro e w1 ⟨v1, rfl, h1, hb⟩; obtain ⟨A1, a1, rfl, l1, r1⟩ := Kd.N_reads h1; have HS1 := a0_ (And.intro l1 r1); have HB1 := Aside0.mk hb; have HG1 := a0_ (Laid.below HG.out hb); clear h1 hb l1 r1 hsp))
  | (go_at_call 6; (have HM_ := HS4.out; refine (him _ (Laid.below HG1.out (pw_below_drewN HB4.out _))).mono ?_; rintro e w6 ⟨v6, rfl, h6, hb⟩; obtain ⟨A6, a6, rfl, l6, r6⟩ := Kd.S_reads h6; have HR6 := a0_ (And.intro l6 r6); have HB6 := a0_ (below_step (pw_below_drewN HB4.out _) hb); have HS6 := a0_ (Kd.S_below (Kd.S_drewN HS4.out _) hb); clear h6 hb l6 r6 HM_))
  | (go_at_call 6; (refine (him _ HG1.out).mono ?_; rintro e w2 ⟨v2, rfl, h2, hb⟩; obtain ⟨A2, a2, rfl, l2, r2⟩ := Kd.S_reads h2; have HS2 := Aside0.mk h2; have HR2 := a0_ (And.intro l2 r2); have HB2 := Aside0.mk hb; clear h2 hb l2 r2))
  | (go_at_call 7; (have HM_ := HS6.out; refine (laws_eqCellSS.calls k A6 a6 g A1 a1 s true _ HR6.out.2 HR6.out.1 (Kd.C_below HS1.out.2 HB6.out) HS1.out.1 HE.out).mono ?_; rintro e w7 ⟨rfl, hb⟩; have HS7 := a0_ (Kd.S_below HS6.out hb); have HB7 := a0_ (below_step HB6.out hb); clear hb HM_))
  | (go_at_call 7; (refine (laws_eqCellSS.calls k A2 a2 g A1 a1 s true _ HR2.out.2 HR2.out.1 (Kd.C_below HS1.out.2 HB2.out) HS1.out.1 HE.out).mono ?_; rintro e w3 ⟨rfl, hb⟩; have HS3 := a0_ (Kd.S_below HS2.out hb); have HB3 := a0_ (below_step HB2.out hb); clear hb))
  | (go_at_call 8; (refine (laws_markCellSS.calls k 1 m _ g y w1 _ HB3.out HS3.out HC.out HY.out.1).mono ?_; rintro e w4 ⟨rfl, hS, hb⟩; have HS4 := Aside0.mk hS; have HB4 := Aside0.mk hb; clear hS hb))
  | (go_at_call 9; (have hm_ := Kd.S_reads' HS7.out; have hh_ := laws_heldCellSS.calls k A2 a2 y 1 m _ hm_.2.2 (by have := hm_.1; have := hm_.2.1; omega) HY.out.2.2; rw [HY.out.2.1] at hh_; refine hh_.mono ?_; rintro e w8 ⟨rfl, ⟨n8, rfl⟩⟩; clear hm_ hh_))
  | (go_at_call 9; (have hm_ := Kd.S_reads' HS4.out; have hh_ := laws_heldCellSS.calls k A2 a2 y 1 m _ hm_.2.2 (by have := hm_.1; have := hm_.2.1; omega) HY.out.2.2; rw [HY.out.2.1] at hh_; refine hh_.mono ?_; rintro e w5 ⟨rfl, ⟨n5, rfl⟩⟩; clear hm_ hh_)))
 go_ret
 exact ⟨rfl, pw_below_drewN (below_step HB1.out HB7.out) _⟩


end Go.Proofs.YtmdjkmfocgelnaaGreatDoor.PFnExactNets
