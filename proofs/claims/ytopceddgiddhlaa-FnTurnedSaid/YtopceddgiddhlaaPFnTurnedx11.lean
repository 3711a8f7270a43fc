/- Over the kit's printer by a driver of mine (hprint.py), with parts by hand: functions of the program as Lean functions, and that each call comes to exactly these answers. -/
import Derived.Test.YtopceddgiddhlaaPFnTurnedx0
import Derived.Test.YtopceddgiddhlaaPFnTurnedx2
import Derived.Test.YtopceddgiddhlaaPFnTurnedx3
import Derived.Test.YtopceddgiddhlaaPFnTurnedx4
import Derived.Test.YtopceddgiddhlaaPFnTurnedx6
import Derived.Test.YtopceddgiddhlaaPFnTurnedx9
import Derived.Test.YtopceddgiddhlaaPFnTurnedx10
namespace Go.Proofs.Ytopceddgiddhlaa.PFnTurned
open Go.RowKit Go.Proofs.YtopceddgiddhlaaW.PrintWords Go.Proofs.YtopceddgiddhlaaW.PrintLast Go.Proofs.YtopceddgiddhlaaW.PrintMore
attribute [local go_sem] max2_int min2_int max_two min_two max_three min_three max_four min_four   -- for this text's walks alone
set_option linter.unusedVariables false
set_option linter.unusedSimpArgs false

/-! ### spec_l03Code: function 23 -/
def spec_l03Code.f (k : Nat) (l0 : List (S47)) : Option (Int) := (spec_IsShape.f k l0).bind fun t345 => (if t345 = true then ((spec_l02Normal.f k l0).bind fun t346 => ((spec_IsShape.f k t346).bind fun t349 => (if t349 = true then (some 0) else (some 3)))) else (some 1))
theorem spec_l03Code.mono : ∀ a0 k, LeO (spec_l03Code.f k a0) (spec_l03Code.f (k + 1) a0) := by
  intro a0 k
  unfold spec_l03Code.f
  repeat' first
      | (with_reducible exact spec_IsShape.mono _ _)
      | (with_reducible exact spec_l02Normal.mono _ _)
      | (with_reducible exact LeO.refl _)
      | (with_reducible exact LeO.none _)
      | (with_reducible refine LeO.ite ?_ ?_)
      | (with_reducible refine LeO.bind ?_ (fun _ => ?_))
      | exact spec_IsShape.mono _ _
      | exact spec_l02Normal.mono _ _
      | exact LeO.none _
      | refine LeO.ite ?_ ?_
      | refine LeO.bind ?_ (fun _ => ?_)
set_option maxHeartbeats 8000000 in
set_option maxRecDepth 100000 in
theorem spec_l03Code.calls (k : Nat) (A0 : Option Addr) (c0 : Nat) (l0 : List (S47)) (r : Int) (w : World) (hr0 : Kd.C k47 w A0 l0.length l0) (hc0 : l0.length ≤ c0) (h : spec_l03Code.f k l0 = some r) :
    Calls Try.prog 23 #[.slice A0 l0.length c0] w fun e w' => e = .returned (.int .i64 r) ∧ Below w.heap.size w w' := by
  have HR0 := Aside0.mk hr0
  have HC0 := Aside0.mk hc0
  clear hr0 hc0
  have HB := Aside0.mk (Below.refl w.heap.size w)
  have H : ((spec_IsShape.f k l0).bind fun t345 => (if t345 = true then ((spec_l02Normal.f k l0).bind fun t346 => ((spec_IsShape.f k t346).bind fun t349 => (if t349 = true then (some 0) else (some 3)))) else (some 1))) = some r := h
  clear h
  replace H := Option.bind_eq_some_iff.mp H
  obtain ⟨t345, A20, H⟩ := H
  replace H : (if t345 = true then ((spec_l02Normal.f k l0).bind fun t346 => ((spec_IsShape.f k t346).bind fun t349 => (if t349 = true then (some 0) else (some 3)))) else (some 1)) = some r := H
  have A2 := Aside0.mk A20
  clear A20
  by_cases c3 : t345 = true
  · subst c3
    have H1 : ((spec_l02Normal.f k l0).bind fun t346 => ((spec_IsShape.f k t346).bind fun t349 => (if t349 = true then (some 0) else (some 3)))) = some r := by rw [if_pos rfl] at H; exact H
    clear H
    have H := H1
    clear H1
    replace H := Option.bind_eq_some_iff.mp H
    obtain ⟨t346, A40, H⟩ := H
    replace H : ((spec_IsShape.f k t346).bind fun t349 => (if t349 = true then (some 0) else (some 3))) = some r := H
    have A4 := Aside0.mk A40
    clear A40
    replace H := Option.bind_eq_some_iff.mp H
    obtain ⟨t349, A50, H⟩ := H
    replace H : (if t349 = true then (some 0) else (some 3)) = some r := H
    have A5 := Aside0.mk A50
    clear A50
    by_cases c6 : t349 = true
    · subst c6
      have H1 : (some 0) = some r := by rw [if_pos rfl] at H; exact H
      clear H
      have H := H1
      clear H1
      obtain rfl := Option.some.inj H
      go_enter Try.func23, Try.ntmps23
      go_wp2_with (first | ((with_reducible refine gate_callee (f := 39) rfl ?_); refine goesL_ (some 4) rfl rfl Try.func39 (by kernel_rfl) rfl #[.slice A0 l0.length c0] rfl ta_ ?_; (with_reducible refine (spec_IsShape.calls k _ _ l0 true _ ?side1 ?side2 A2.out).mono ?_); (case side1 => exact ca_ HR0.out); (case side2 => exact HC0.out); rintro e w7 ⟨rfl, hb⟩; refine ⟨_, rfl, ?_⟩; have n0_ := Aside0.mk (below_step (bl0_) hb); clear HB; have HB := n0_; clear n0_; (try clear hb); (try clear hb2); (try clear hk); (try clear hi)) | ((with_reducible refine gate_callee (f := 40) rfl ?_); refine goesL_ (some 7) rfl rfl Try.func40 (by kernel_rfl) rfl #[.slice A0 l0.length c0] rfl ta_ ?_; (with_reducible refine (spec_l02Normal.calls k _ _ l0 t346 _ ?side1 ?side2 A4.out).mono ?_); (case side1 => exact ca_ (Kd.C_below HR0.out HB.out)); (case side2 => exact HC0.out); rintro e w8 ⟨v347, rfl, ho0, hb⟩; refine ⟨_, rfl, ?_⟩; have n0_ := Aside0.mk (Kd.R_lower ho0 (below_size (bl0_))); have n1_ := Aside0.mk (below_step (bl0_) hb); clear HB; have HO348 := n0_; have HB := n1_; clear n0_ n1_; (try clear hb); (try clear hb2); (try clear hk); (try clear hi); (try clear ho0); obtain ⟨Ao9, co9, eo9⟩ := Kd.R_slice HO348.out; subst eo9) | ((with_reducible refine gate_callee (f := 39) rfl ?_); refine goesL_ (some 8) rfl rfl Try.func39 (by kernel_rfl) rfl #[.slice Ao9 t346.length co9] rfl ta_ ?_; (with_reducible refine (spec_IsShape.calls k _ _ t346 true _ ?side1 ?side2 A5.out).mono ?_); (case side1 => exact ca_ (Kd.R_reads' HO348.out).2.2); (case side2 => exact (Kd.R_reads' HO348.out).2.1); rintro e w10 ⟨rfl, hb⟩; refine ⟨_, rfl, ?_⟩; have n0_ := Aside0.mk (Kd.R_below (ra_ HO348.out) hb); have n1_ := Aside0.mk (below_step (bl0_) hb); clear HO348; clear HB; have HO348 := n0_; have HB := n1_; clear n0_ n1_; (try clear hb); (try clear hb2); (try clear hk); (try clear hi)))
      go_ret
      exact ⟨er_, bl0_⟩
    · replace c6 := Bool.eq_false_iff.mpr c6
      subst c6
      have H1 : (some 3) = some r := by rw [if_neg (show ¬ (false = true) by decide)] at H; exact H
      clear H
      have H := H1
      clear H1
      obtain rfl := Option.some.inj H
      go_enter Try.func23, Try.ntmps23
      go_wp2_with (first | ((with_reducible refine gate_callee (f := 39) rfl ?_); refine goesL_ (some 4) rfl rfl Try.func39 (by kernel_rfl) rfl #[.slice A0 l0.length c0] rfl ta_ ?_; (with_reducible refine (spec_IsShape.calls k _ _ l0 true _ ?side1 ?side2 A2.out).mono ?_); (case side1 => exact ca_ HR0.out); (case side2 => exact HC0.out); rintro e w11 ⟨rfl, hb⟩; refine ⟨_, rfl, ?_⟩; have n0_ := Aside0.mk (below_step (bl0_) hb); clear HB; have HB := n0_; clear n0_; (try clear hb); (try clear hb2); (try clear hk); (try clear hi)) | ((with_reducible refine gate_callee (f := 40) rfl ?_); refine goesL_ (some 7) rfl rfl Try.func40 (by kernel_rfl) rfl #[.slice A0 l0.length c0] rfl ta_ ?_; (with_reducible refine (spec_l02Normal.calls k _ _ l0 t346 _ ?side1 ?side2 A4.out).mono ?_); (case side1 => exact ca_ (Kd.C_below HR0.out HB.out)); (case side2 => exact HC0.out); rintro e w12 ⟨v347, rfl, ho0, hb⟩; refine ⟨_, rfl, ?_⟩; have n0_ := Aside0.mk (Kd.R_lower ho0 (below_size (bl0_))); have n1_ := Aside0.mk (below_step (bl0_) hb); clear HB; have HO348 := n0_; have HB := n1_; clear n0_ n1_; (try clear hb); (try clear hb2); (try clear hk); (try clear hi); (try clear ho0); obtain ⟨Ao13, co13, eo13⟩ := Kd.R_slice HO348.out; subst eo13) | ((with_reducible refine gate_callee (f := 39) rfl ?_); refine goesL_ (some 8) rfl rfl Try.func39 (by kernel_rfl) rfl #[.slice Ao13 t346.length co13] rfl ta_ ?_; (with_reducible refine (spec_IsShape.calls k _ _ t346 false _ ?side1 ?side2 A5.out).mono ?_); (case side1 => exact ca_ (Kd.R_reads' HO348.out).2.2); (case side2 => exact (Kd.R_reads' HO348.out).2.1); rintro e w14 ⟨rfl, hb⟩; refine ⟨_, rfl, ?_⟩; have n0_ := Aside0.mk (Kd.R_below (ra_ HO348.out) hb); have n1_ := Aside0.mk (below_step (bl0_) hb); clear HO348; clear HB; have HO348 := n0_; have HB := n1_; clear n0_ n1_; (try clear hb); (try clear hb2); (try clear hk); (try clear hi)))
      go_ret
      exact ⟨er_, bl0_⟩
  · replace c3 := Bool.eq_false_iff.mpr c3
    subst c3
    have H1 : (some 1) = some r := by rw [if_neg (show ¬ (false = true) by decide)] at H; exact H
    clear H
    have H := H1
    clear H1
    obtain rfl := Option.some.inj H
    go_enter Try.func23, Try.ntmps23
    go_wp2_with (first | ((with_reducible refine gate_callee (f := 39) rfl ?_); refine goesL_ (some 4) rfl rfl Try.func39 (by kernel_rfl) rfl #[.slice A0 l0.length c0] rfl ta_ ?_; (with_reducible refine (spec_IsShape.calls k _ _ l0 false _ ?side1 ?side2 A2.out).mono ?_); (case side1 => exact ca_ HR0.out); (case side2 => exact HC0.out); rintro e w15 ⟨rfl, hb⟩; refine ⟨_, rfl, ?_⟩; have n0_ := Aside0.mk (below_step (bl0_) hb); clear HB; have HB := n0_; clear n0_; (try clear hb); (try clear hb2); (try clear hk); (try clear hi)))
    go_ret
    exact ⟨er_, bl0_⟩

/-! ### spec_l03Is: function 24 -/
def spec_l03Is.f (a0 : Int) : Option (Bool) := (spec_l01In.f a0 0 7).bind fun t350 => (some t350)
set_option maxHeartbeats 8000000 in
set_option maxRecDepth 100000 in
theorem spec_l03Is.calls (a0 : Int) (r : Bool) (w : World) (h : spec_l03Is.f a0 = some r) :
    Calls Try.prog 24 #[.int .i64 a0] w fun e w' => e = .returned (.bool r) ∧ Drawn0 w w' := by
  have H : ((spec_l01In.f a0 0 7).bind fun t350 => (some t350)) = some r := h
  clear h
  replace H := Option.bind_eq_some_iff.mp H
  obtain ⟨t350, A20, H⟩ := H
  replace H : (some t350) = some r := H
  have A2 := Aside0.mk A20
  clear A20
  obtain rfl := Option.some.inj H
  go_enter Try.func24, Try.ntmps24
  go_wp2_with (first | ((with_reducible refine gate_callee (f := 41) rfl ?_); refine goesL_ (some 4) rfl rfl Try.func41 (by kernel_rfl) rfl #[.int .i64 a0, .int .i64 0, .int .i64 7] rfl ta_ ?_; (with_reducible refine (spec_l01In.calls a0 0 7 t350 _ A2.out).mono ?_); rintro e w' ⟨rfl, ⟨nd, rfl⟩⟩; refine ⟨_, rfl, ?_⟩))
  go_ret
  exact ⟨by first | rfl | (simp; done) | (simp [*]; done), by repeat (first | exact Drawn0.refl _ | apply Drawn0.step)⟩

/-! ### spec_l03Turn: function 42 -/
mutual
def spec_l03Turn.j0 : Nat → Int → Int → Int → Option (Int × Int)
  | 0, _, _, _ => none
  | k + 1, x1, x352000, x352001 => spec_l03Turn.l0 k (Int.tmod x1 4) x352000 x352001
def spec_l03Turn.l0 : Nat → Int → Int → Int → Option (Int × Int)
  | 0, _, _, _ => none
  | k + 1, x5, x352000, x352001 => if x5 > 0 then (spec_l03Turn.l0 k (wrap64 (x5 - 1)) (wrap64 (-x352001)) x352000) else (some (x352000, x352001))
end
def spec_l03Turn.f (k : Nat) (a0_0 : Int) (a0_1 : Int) (a1 : Int) : Option (Int × Int) := if a1 ≥ 4 then (spec_l03Turn.j0 k a1 (wrap64 (-a0_0)) a0_1) else (spec_l03Turn.j0 k a1 a0_0 a0_1)
theorem spec_l03Turn.mono_l : ∀ k, (∀ y0 y1 y2, LeO (spec_l03Turn.j0 k y0 y1 y2) (spec_l03Turn.j0 (k + 1) y0 y1 y2)) ∧ (∀ y0 y1 y2, LeO (spec_l03Turn.l0 k y0 y1 y2) (spec_l03Turn.l0 (k + 1) y0 y1 y2))
  | 0 => ⟨fun _ _ _ r h => by simp [spec_l03Turn.j0] at h, fun _ _ _ r h => by simp [spec_l03Turn.l0] at h⟩
  | k + 1 => by
    obtain ⟨ih0, ih1⟩ := spec_l03Turn.mono_l k
    refine ⟨?_, ?_⟩
    · intro y0 y1 y2
      unfold spec_l03Turn.j0
      repeat' first
      | (with_reducible exact ih0 _ _ _)
      | (with_reducible exact ih1 _ _ _)
      | (with_reducible exact LeO.refl _)
      | (with_reducible exact LeO.none _)
      | (with_reducible refine LeO.ite ?_ ?_)
      | (with_reducible refine LeO.bind ?_ (fun _ => ?_))
      | exact ih0 _ _ _
      | exact ih1 _ _ _
      | exact LeO.none _
      | refine LeO.ite ?_ ?_
      | refine LeO.bind ?_ (fun _ => ?_)
    · intro y0 y1 y2
      unfold spec_l03Turn.l0
      repeat' first
      | (with_reducible exact ih0 _ _ _)
      | (with_reducible exact ih1 _ _ _)
      | (with_reducible exact LeO.refl _)
      | (with_reducible exact LeO.none _)
      | (with_reducible refine LeO.ite ?_ ?_)
      | (with_reducible refine LeO.bind ?_ (fun _ => ?_))
      | exact ih0 _ _ _
      | exact ih1 _ _ _
      | exact LeO.none _
      | refine LeO.ite ?_ ?_
      | refine LeO.bind ?_ (fun _ => ?_)
theorem spec_l03Turn.mono : ∀ a0 a1 a2 k, LeO (spec_l03Turn.f k a0 a1 a2) (spec_l03Turn.f (k + 1) a0 a1 a2) := by
  intro a0 a1 a2 k
  obtain ⟨ih0, ih1⟩ := spec_l03Turn.mono_l k
  unfold spec_l03Turn.f
  repeat' first
      | (with_reducible exact ih0 _ _ _)
      | (with_reducible exact ih1 _ _ _)
      | (with_reducible exact LeO.refl _)
      | (with_reducible exact LeO.none _)
      | (with_reducible refine LeO.ite ?_ ?_)
      | (with_reducible refine LeO.bind ?_ (fun _ => ?_))
      | exact ih0 _ _ _
      | exact ih1 _ _ _
      | exact LeO.none _
      | refine LeO.ite ?_ ?_
      | refine LeO.bind ?_ (fun _ => ?_)
set_option maxHeartbeats 8000000 in
set_option maxRecDepth 100000 in
theorem spec_l03Turn.calls (k : Nat) (a0_0 : Int) (a0_1 : Int) (a1 : Int) (r1 : Int) (r2 : Int) (w : World) (h : spec_l03Turn.f k a0_0 a0_1 a1 = some (r1, r2)) :
    Calls Try.prog 42 #[.agg #[.int .i64 a0_0, .int .i64 a0_1], .int .i64 a1] w fun e w' => e = .returned (.agg #[.int .i64 r1, .int .i64 r2]) ∧ Below w.heap.size w w' := by
  have hu47 := Try.underlying47
  have HB := Aside0.mk (Below.refl w.heap.size w)
  have H : (if a1 ≥ 4 then (spec_l03Turn.j0 k a1 (wrap64 (-a0_0)) a0_1) else (spec_l03Turn.j0 k a1 a0_0 a0_1)) = some (r1, r2) := h
  clear h
  have HC3 := Aside0.mk H
  clear H
  go_enter Try.func42, Try.ntmps42
  go_upto_if 7 with (first | ((with_reducible refine gate_dst (N := 2) rfl ?_); refine box_event ?hg (N := 2) ?hd (cs := #[.int .i64 a0_0, .int .i64 a0_1]) (t := 47) ?hr ?_; (case hd => rfl); (case hg => rfl); (case hr => first | (go_simp; done) | (go_simp; rfl)); intro gb351 hg w4 hbox hb; have n0_ := Aside0.mk (below_step (bl0_) hb); have n1_ := Aside0.mk (hbox); have n2_ := Aside0.mk ((sz_ hg (bl0_) : w.heap.size ≤ gb351)); have n3_ := Aside0.mk ((sz_ hg (bl0_) : w.heap.size ≤ gb351)); clear HB; have HB := n0_; have BK351 := n1_; have GW351 := n2_; have GE351 := n3_; clear n0_ n1_ n2_ n3_; clear hb hbox hg) | ((with_reducible refine gate_dst (N := 4) rfl ?_); refine box_event ?hg (N := 4) ?hd (cs := #[.int .i64 0, .int .i64 0]) (t := 47) ?hr ?_; (case hd => rfl); (case hg => rfl); (case hr => first | (go_simp; done) | (go_simp; rfl)); intro gb352 hg w5 hbox hb; have n0_ := Aside0.mk (blk_below (g := gb351) (o := .cells #[.int .i64 a0_0, .int .i64 a0_1] 47 (0, 0)) (bk_ BK351.out) hb); have n1_ := Aside0.mk (below_step (bl1_ GE351.out) hb); have n2_ := Aside0.mk (hbox); have n3_ := Aside0.mk ((sz_ hg (bl1_ GE351.out) : w.heap.size ≤ gb352)); have n4_ := Aside0.mk ((sz_ hg (bl1_ GE351.out) : w.heap.size ≤ gb352)); have n5_ := Aside0.mk ((by rw [hg]; exact Nat.ne_of_lt (blk_lt (g := gb351) (o := .cells #[.int .i64 a0_0, .int .i64 a0_1] 47 (0, 0)) (bk_ BK351.out)) : gb351 ≠ gb352)); have n6_ := Aside0.mk ((by rw [hg]; exact Nat.ne_of_gt (blk_lt (g := gb351) (o := .cells #[.int .i64 a0_0, .int .i64 a0_1] 47 (0, 0)) (bk_ BK351.out)) : gb352 ≠ gb351)); clear BK351; clear HB; have BK351 := n0_; have HB := n1_; have BK352 := n2_; have GW352 := n3_; have GE352 := n4_; have NB351_352 := n5_; have NB352_351 := n6_; clear n0_ n1_ n2_ n3_ n4_ n5_ n6_; clear hb hbox hg))
  (try simp only [Act.put, List.setIfInBounds_toArray, List.set_cons_zero, List.set_cons_succ])
  go_cut [] (fun wc => ∃ (kq : Nat) (x352000_2 : Int) (x352001_2 : Int), Aside0 (spec_l03Turn.j0 kq a1 x352000_2 x352001_2 = some (r1, r2)) ∧ Aside0 (kq ≤ k) ∧ Aside0 (wc.heap[gb351]? = some (.cells #[.int .i64 x352000_2, .int .i64 x352001_2] 47 (0, 0))) ∧ Aside0 (wc.heap[gb352]? = some (.cells #[.int .i64 0, .int .i64 0] 47 (0, 0))) ∧ Aside0 (Below w.heap.size w wc))
  case first =>
    have H := HC3.out
    clear HC3
    by_cases c6 : a1 ≥ 4
    · rw [if_pos c6] at H
      have c6b0 : decide (4 ≤ a1) = true := decide_eq_true c6
      clear c6
      (first | rw [c6b0] | (simp only [i64_w, i32_w]; rw [c6b0]) | skip)
      have H' := Aside0.mk H
      clear H
      have hnb7 := NB351_352.out
      have hnc7 := NB352_351.out
      have hcz8_0 : w5.cell? ⟨gb351, 0, none⟩ = some (.int .i64 a0_0) := (blk_cell BK351.out 0).trans rfl
      have hcz8_1 : w5.cell? ⟨gb351, 1, none⟩ = some (.int .i64 a0_1) := (blk_cell BK351.out 1).trans rfl
      have hfz8_0 := blk_frozen BK351.out 0
      have hfz8_1 := blk_frozen BK351.out 1
      go_wp2
      go_meet
      case rel => exact ⟨_, (wrap64 (-a0_0)), (a0_1), H', ⟨by first | omega | exact Nat.le_refl _⟩, ⟨by (with_reducible repeat (first | refine blk_drewN ?_ _ | refine blk_drew ?_ | refine blk_alloc ?_ _)); refine blk_put (cs := #[.int .i64 (wrap64 (-a0_0)), .int .i64 a0_1]) ?_ 1 _ rfl; (with_reducible repeat (first | refine blk_drewN ?_ _ | refine blk_drew ?_ | refine blk_alloc ?_ _)); refine blk_put (cs := #[.int .i64 a0_0, .int .i64 a0_1]) ?_ 0 _ rfl; (with_reducible repeat (first | refine blk_drewN ?_ _ | refine blk_drew ?_ | refine blk_alloc ?_ _)); exact BK351.out⟩, ⟨by (with_reducible repeat (first | refine blk_drewN ?_ _ | refine blk_drew ?_ | refine blk_alloc ?_ _)); refine blk_far ?_ NB352_351.out _; (with_reducible repeat (first | refine blk_drewN ?_ _ | refine blk_drew ?_ | refine blk_alloc ?_ _)); refine blk_far ?_ NB352_351.out _; (with_reducible repeat (first | refine blk_drewN ?_ _ | refine blk_drew ?_ | refine blk_alloc ?_ _)); exact BK352.out⟩, ⟨bl2_ GE351.out GE352.out⟩⟩
    · rw [if_neg c6] at H
      have c6b0 : decide (4 ≤ a1) = false := decide_eq_false c6
      clear c6
      (first | rw [c6b0] | (simp only [i64_w, i32_w]; rw [c6b0]) | skip)
      have H' := Aside0.mk H
      clear H
      go_wp2
      go_meet
      case rel => exact ⟨_, (a0_0), (a0_1), H', ⟨by first | omega | exact Nat.le_refl _⟩, ⟨bk_ BK351.out⟩, ⟨bk_ BK352.out⟩, ⟨bl2_ GE351.out GE352.out⟩⟩
  case rest =>
    clear HC3
    try clear p2
    try clear c4
    try clear c6
    try clear c6b0
    try clear p6
    try clear c7
    try clear hcz8_0
    try clear hcz8_1
    try clear hfz8_0
    try clear hfz8_1
    obtain ⟨kq, x352000_2, x352001_2, HA, HJ2, BK351, BK352, HB⟩ := hcut
    cases kq with
    | zero => exact absurd HA.out (by simp [spec_l03Turn.j0])
    | succ kj2 =>
      have H := HA.out
      clear HA
      simp only [spec_l03Turn.j0] at H
      have H' := Aside0.mk H
      clear H
      go_wp2
      go_loopg [5] kj2 (fun kq v5 w' => ∃ (x5_2 : Int) (x352000_2 : Int) (x352001_2 : Int), v5 = .int .i64 x5_2 ∧ Aside0 (spec_l03Turn.l0 kq x5_2 x352000_2 x352001_2 = some (r1, r2)) ∧ Aside0 (kq ≤ kj2) ∧ Aside0 (w'.heap[gb351]? = some (.cells #[.int .i64 x352000_2, .int .i64 x352001_2] 47 (0, 0))) ∧ Aside0 (w'.heap[gb352]? = some (.cells #[.int .i64 0, .int .i64 0] 47 (0, 0))) ∧ Aside0 (Below w.heap.size w w'))
      case atStart => exact ⟨(Int.tmod a1 4), (x352000_2), (x352001_2), rs_, H', ⟨Nat.le_refl _⟩, ⟨bk_ BK351.out⟩, ⟨bk_ BK352.out⟩, ⟨bl2_ GE351.out GE352.out⟩⟩
      case round =>
        clear H'
        try clear p2
        try clear c4
        try clear c6
        try clear c6b0
        try clear p6
        try clear c7
        try clear hcz8_0
        try clear hcz8_1
        try clear hfz8_0
        try clear hfz8_1
        try clear p2
        try clear p6
        obtain ⟨x5_2, x352000_2, x352001_2, rfl, HA, HK2, BK351, BK352, HB⟩ := hrel
        cases gk with
        | zero => exact absurd HA.out (by simp [spec_l03Turn.l0])
        | succ k2 =>
          have H := HA.out
          clear HA
          simp only [spec_l03Turn.l0] at H
          by_cases c9 : x5_2 > 0
          · rw [if_pos c9] at H
            have c9b0 : decide (0 < x5_2) = true := decide_eq_true c9
            clear c9
            have H' := Aside0.mk H
            clear H
            have hnb10 := NB351_352.out
            have hnc10 := NB352_351.out
            have hcz11_0 : wr.cell? ⟨gb351, 0, none⟩ = some (.int .i64 x352000_2) := (blk_cell BK351.out 0).trans rfl
            have hcz11_1 : wr.cell? ⟨gb351, 1, none⟩ = some (.int .i64 x352001_2) := (blk_cell BK351.out 1).trans rfl
            have hfz11_0 := blk_frozen BK351.out 0
            have hfz11_1 := blk_frozen BK351.out 1
            go_wp2
            go_roundg k2
            case measure => have := HJ2.out; have := HK2.out; omega
            case rel => exact ⟨(wrap64 (x5_2 - 1)), (wrap64 (-x352001_2)), (x352000_2), rs_, H', ⟨by have := HJ2.out; have := HK2.out; omega⟩, ⟨by (with_reducible repeat (first | refine blk_drewN ?_ _ | refine blk_drew ?_ | refine blk_alloc ?_ _)); refine blk_put (cs := #[.int .i64 (wrap64 (-x352001_2)), .int .i64 x352001_2]) ?_ 1 _ rfl; (with_reducible repeat (first | refine blk_drewN ?_ _ | refine blk_drew ?_ | refine blk_alloc ?_ _)); refine blk_put (cs := #[.int .i64 x352000_2, .int .i64 x352001_2]) ?_ 0 _ rfl; (with_reducible repeat (first | refine blk_drewN ?_ _ | refine blk_drew ?_ | refine blk_alloc ?_ _)); exact BK351.out⟩, ⟨by (with_reducible repeat (first | refine blk_drewN ?_ _ | refine blk_drew ?_ | refine blk_alloc ?_ _)); refine blk_far ?_ NB352_351.out _; (with_reducible repeat (first | refine blk_drewN ?_ _ | refine blk_drew ?_ | refine blk_alloc ?_ _)); refine blk_far ?_ NB352_351.out _; (with_reducible repeat (first | refine blk_drewN ?_ _ | refine blk_drew ?_ | refine blk_alloc ?_ _)); exact BK352.out⟩, ⟨bl2_ GE351.out GE352.out⟩⟩
          · rw [if_neg c9] at H
            have c9b0 : decide (0 < x5_2) = false := decide_eq_false c9
            clear c9
            simp only [Option.some.injEq, Prod.mk.injEq] at H
            obtain ⟨rfl, rfl⟩ := H
            have hnb12 := NB351_352.out
            have hnc12 := NB352_351.out
            have hcz13_0 : wr.cell? ⟨gb351, 0, none⟩ = some (.int .i64 x352000_2) := (blk_cell BK351.out 0).trans rfl
            have hcz13_1 : wr.cell? ⟨gb351, 1, none⟩ = some (.int .i64 x352001_2) := (blk_cell BK351.out 1).trans rfl
            have hfz13_0 := blk_frozen BK351.out 0
            have hfz13_1 := blk_frozen BK351.out 1
            have hcz14_0 : wr.cell? ⟨gb352, 0, none⟩ = some (.int .i64 0) := (blk_cell BK352.out 0).trans rfl
            have hcz14_1 : wr.cell? ⟨gb352, 1, none⟩ = some (.int .i64 0) := (blk_cell BK352.out 1).trans rfl
            have hfz14_0 := blk_frozen BK352.out 0
            have hfz14_1 := blk_frozen BK352.out 1
            go_wp2
            refine bodyPost_ret (results_cell_row rfl _ _ gb352 47 #[.int .i64 x352000_2, .int .i64 x352001_2] (0, 0) _ rfl (by (with_reducible repeat (first | refine blk_drewN ?_ _ | refine blk_drew ?_ | refine blk_alloc ?_ _)); refine blk_put (cs := #[.int .i64 x352000_2, .int .i64 0]) ?_ 1 _ rfl; (with_reducible repeat (first | refine blk_drewN ?_ _ | refine blk_drew ?_ | refine blk_alloc ?_ _)); refine blk_put (cs := #[.int .i64 0, .int .i64 0]) ?_ 0 _ rfl; (with_reducible repeat (first | refine blk_drewN ?_ _ | refine blk_drew ?_ | refine blk_alloc ?_ _)); exact BK352.out) Try.underlying47 rfl (by kernel_rfl)) rfl ?_
            exact ⟨er_, bl2_ GE351.out GE352.out⟩

/-! ### spec_l03Form: function 25 -/
def spec_l03Form.l0 : Nat → List (S47) → Int → List (S47) → Int → Option ((List (S47)))
  | 0, _, _, _, _ => none
  | k + 1, x0, x1, x5, x6 => if x6 < (x0.length : Int) then (if 0 ≤ x6 then ((spec_l03Turn.f k ((rd_T47 x0 x6).f0) ((rd_T47 x0 x6).f1) x1).bind fun bt357 => (if x5.length < 8796093022208 then (spec_l03Form.l0 k x0 x1 (x5 ++ [(⟨bt357.1, bt357.2⟩ : S47)]) (wrap64 (x6 + 1))) else (none))) else (none)) else ((spec_l02Sort.f k x5).bind fun t362 => ((spec_l02Normal.f k t362).bind fun t365 => (some t365)))
def spec_l03Form.f (k : Nat) (l0 : List (S47)) (a1 : Int) : Option ((List (S47))) := spec_l03Form.l0 k l0 a1 (([] : List (S47))) 0
theorem spec_l03Form.mono_l : ∀ k, (∀ y0 y1 y2 y3, LeO (spec_l03Form.l0 k y0 y1 y2 y3) (spec_l03Form.l0 (k + 1) y0 y1 y2 y3))
  | 0 => fun _ _ _ _ r h => by simp [spec_l03Form.l0] at h
  | k + 1 => by
    have ih0 := spec_l03Form.mono_l k
    · intro y0 y1 y2 y3
      unfold spec_l03Form.l0
      repeat' first
      | (with_reducible exact ih0 _ _ _ _)
      | (with_reducible exact spec_l02Normal.mono _ _)
      | (with_reducible exact spec_l02Sort.mono _ _)
      | (with_reducible exact spec_l03Turn.mono _ _ _ _)
      | (with_reducible exact LeO.refl _)
      | (with_reducible exact LeO.none _)
      | (with_reducible refine LeO.ite ?_ ?_)
      | (with_reducible refine LeO.bind ?_ (fun _ => ?_))
      | exact ih0 _ _ _ _
      | exact spec_l02Normal.mono _ _
      | exact spec_l02Sort.mono _ _
      | exact spec_l03Turn.mono _ _ _ _
      | exact LeO.none _
      | refine LeO.ite ?_ ?_
      | refine LeO.bind ?_ (fun _ => ?_)
theorem spec_l03Form.mono : ∀ a0 a1 k, LeO (spec_l03Form.f k a0 a1) (spec_l03Form.f (k + 1) a0 a1) := by
  intro a0 a1 k
  have ih0 := spec_l03Form.mono_l k
  unfold spec_l03Form.f
  repeat' first
      | (with_reducible exact ih0 _ _ _ _)
      | (with_reducible exact spec_l02Normal.mono _ _)
      | (with_reducible exact spec_l02Sort.mono _ _)
      | (with_reducible exact spec_l03Turn.mono _ _ _ _)
      | (with_reducible exact LeO.refl _)
      | (with_reducible exact LeO.none _)
      | (with_reducible refine LeO.ite ?_ ?_)
      | (with_reducible refine LeO.bind ?_ (fun _ => ?_))
      | exact ih0 _ _ _ _
      | exact spec_l02Normal.mono _ _
      | exact spec_l02Sort.mono _ _
      | exact spec_l03Turn.mono _ _ _ _
      | exact LeO.none _
      | refine LeO.ite ?_ ?_
      | refine LeO.bind ?_ (fun _ => ?_)
set_option maxHeartbeats 8000000 in
set_option maxRecDepth 100000 in
theorem spec_l03Form.calls (k : Nat) (A0 : Option Addr) (c0 : Nat) (l0 : List (S47)) (a1 : Int) (r : List (S47)) (w : World) (hr0 : Kd.C k47 w A0 l0.length l0) (hc0 : l0.length ≤ c0) (h : spec_l03Form.f k l0 a1 = some r) :
    Calls Try.prog 25 #[.slice A0 l0.length c0, .int .i64 a1] w fun e w' => ∃ v0_ : Value, e = .returned (v0_) ∧ Kd.R k47 47 w' w.heap.size (fun _ => True) v0_ r ∧ Below w.heap.size w w' := by
  have hu47 := Try.underlying47
  have HR0 := Aside0.mk hr0
  have HC0 := Aside0.mk hc0
  clear hr0 hc0
  have HB := Aside0.mk (Below.refl w.heap.size w)
  have H : (spec_l03Form.l0 k l0 a1 (([] : List (S47))) 0) = some r := h
  clear h
  obtain ⟨y353, hy353⟩ : ∃ y_ : List (S47), y_ = (([] : List (S47))) := ⟨_, rfl⟩
  replace H : (spec_l03Form.l0 k l0 a1 y353 0) = some r := by first | (rw [hy353]; with_reducible exact H) | (have H2_ := (Option.bind_some _ _).symm.trans H; rw [hy353]; with_reducible exact H2_) | (have H2_ := (Option.bind_some _ _).symm.trans H; with_reducible exact H2_) | with_reducible exact H | (rw [hy353]; exact H) | exact H
  have Ny353 := Aside0.mk hy353
  clear hy353
  have H' := Aside0.mk H
  clear H
  go_enter Try.func25, Try.ntmps25
  go_wp2_with (first | ((with_reducible refine gate_dst (N := 7) rfl ?_); refine Kd.R_lit k47 _ 47 ?hg (N := 7) ?hd (xs := ([] : List (S47))) (inner := []) (ok := fun _ => True) (okp := fun _ => True) ?hr ?hp (fun _ hk => hk) trivial (Below.refl _ _) (Nat.le_refl _) (by simp) ?_; (case hd => rfl); (case hg => rfl); (case hr => first | (go_simp; done) | (go_simp; rfl)); (case hp => exact (Reps.none _ _)); intro v354 w3 ho4 hb hg_ hnew_; clear hg_ hnew_; (first | rw [← Ny353.out] at ho4 | (simp only [Int.reduceToNat] at ho4; rw [← Ny353.out] at ho4)); have n0_ := Aside0.mk (Kd.R_lower ho4 (below_size (bl0_))); have n1_ := Aside0.mk (below_step (bl0_) hb); clear HB; have HO355 := n0_; have HB := n1_; clear n0_ n1_; clear hb ho4))
  go_loopg [5, 6] k (fun kq v5 v6 w' => ∃ (x5_1 : List (S47)) (x6_1 : Int), v6 = .int .i64 x6_1 ∧ Aside0 (spec_l03Form.l0 kq l0 a1 x5_1 x6_1 = some r) ∧ Aside0 (kq ≤ k) ∧ Aside0 (Kd.R k47 47 w' w.heap.size (fun _ => True) v5 x5_1) ∧ Aside0 (Below w.heap.size w w'))
  case atStart => exact ⟨(y353), (0), rs_, H', ⟨Nat.le_refl _⟩, ⟨ra_ HO355.out⟩, ⟨bl0_⟩⟩
  case round =>
    clear H'
    try clear c2
    try clear p2
    obtain ⟨x5_1, x6_1, rfl, HA, HK1, HO_5, HB⟩ := hrel
    cases gk with
    | zero => exact absurd HA.out (by simp [spec_l03Form.l0])
    | succ k1 =>
      have H := HA.out
      clear HA
      simp only [spec_l03Form.l0] at H
      by_cases c5 : x6_1 < (l0.length : Int)
      · rw [if_pos c5] at H
        have c5b0 : decide (x6_1 < (l0.length : Int)) = true := decide_eq_true c5
        clear c5
        by_cases c6 : 0 ≤ x6_1
        · rw [if_pos c6] at H
          have c6b0 : decide (0 ≤ x6_1) = true := decide_eq_true c6
          clear c6
          replace H := Option.bind_eq_some_iff.mp H
          obtain ⟨⟨t357, t358⟩, A70, H⟩ := H
          replace H : (if x5_1.length < 8796093022208 then (spec_l03Form.l0 k1 l0 a1 (x5_1 ++ [(⟨t357, t358⟩ : S47)]) (wrap64 (x6_1 + 1))) else (none)) = some r := H
          have A7 := Aside0.mk A70
          clear A70
          by_cases c8 : x5_1.length < 8796093022208
          · rw [if_pos c8] at H
            have LMc8 := Aside0.mk c8
            clear c8
            obtain ⟨y359, hy359⟩ : ∃ y_ : List (S47), y_ = (x5_1 ++ [(⟨t357, t358⟩ : S47)]) := ⟨_, rfl⟩
            replace H : (spec_l03Form.l0 k1 l0 a1 y359 (wrap64 (x6_1 + 1))) = some r := by first | (rw [hy359]; with_reducible exact H) | (have H2_ := (Option.bind_some _ _).symm.trans H; rw [hy359]; with_reducible exact H2_) | (have H2_ := (Option.bind_some _ _).symm.trans H; with_reducible exact H2_) | with_reducible exact H | (rw [hy359]; exact H) | exact H
            have Ny359 := Aside0.mk hy359
            clear hy359
            have H' := Aside0.mk H
            clear H
            have p356 : 0 ≤ (x6_1 : Int) := od_
            have q356 : x6_1 < (l0.length : Int) := od_
            obtain ⟨ad356, e356, hx356_0, hx356_1⟩ := at_T47 HR0.out x6_1 p356 q356
            cases e356
            replace hx356_0 := (HB.out.cell (World.block_lt_of_cell? w _ hx356_0)).trans hx356_0
            replace hx356_1 := (HB.out.cell (World.block_lt_of_cell? w _ hx356_1)).trans hx356_1
            replace p356 := eq_true p356
            replace q356 := eq_true q356
            go_wp2_with (first | ((with_reducible refine gate_callee (f := 42) rfl ?_); refine goesL_ (some 20) rfl rfl Try.func42 (by kernel_rfl) rfl #[.agg #[.int .i64 ((rd_T47 l0 x6_1).f0), .int .i64 ((rd_T47 l0 x6_1).f1)], .int .i64 a1] rfl ta_ ?_; (with_reducible refine (spec_l03Turn.calls k1 ((rd_T47 l0 x6_1).f0) ((rd_T47 l0 x6_1).f1) a1 t357 t358 _ A7.out).mono ?_); rintro e w9 ⟨rfl, hb⟩; refine ⟨_, rfl, ?_⟩; have n0_ := Aside0.mk (Kd.R_below (ra_ HO_5.out) hb); have n1_ := Aside0.mk (below_step (bl0_) hb); clear HO_5; clear HB; have HO_5 := n0_; have HB := n1_; clear n0_ n1_; (try clear hb); (try clear hb2); (try clear hk); (try clear hi)) | ((with_reducible refine gate_builtin (b := .append) (xs := #[.tmp 14, .tmp 21]) rfl ?_); at_builtin; refine Kd.R_append k47 (w0 := w) w.heap.size rfl (.tmp 14) (.tmp 21) 24 47 (.agg #[(.int .i64 0), (.int .i64 0)]) 16 rfl Try.underlying24 info47 rfl (by decide) (by omega) u5 x5_1 (⟨t357, t358⟩ : S47) [.int .i64 t357, .int .i64 t358] (fun _ => True) (fun _ => False) rfl rfl ?aP (fun _ hk => hk.elim) ?aF ?aO ?aB ?aS ?aL ?_; (case aP => exact k47_mkM _ _ _ (⟨t357, t358⟩ : S47)); (case aB => exact (bl0_)); (case aF => exact (fun _ _ => trivial)); (case aO => exact (ra_ HO_5.out)); (case aS => exact (below_size (bl0_))); (case aL => have := LMc8.out; omega); intro v360 w10 ho hb hg hat; rw [← Ny359.out] at ho; have n0_ := Aside0.mk (hb); have n1_ := Aside0.mk (ho); clear HB; clear HO_5; have HB := n0_; have HO361 := n1_; clear n0_ n1_; clear ho hb hg hat))
            go_roundg k1
            case measure => have := HK1.out; omega
            case rel => exact ⟨(y359), (wrap64 (x6_1 + 1)), rs_, H', ⟨by have := HK1.out; omega⟩, ⟨ra_ HO361.out⟩, ⟨bl0_⟩⟩
          · rw [if_neg c8] at H
            exact absurd H (by simp)
        · rw [if_neg c6] at H
          exact absurd H (by simp)
      · rw [if_neg c5] at H
        have c5b0 : decide (x6_1 < (l0.length : Int)) = false := decide_eq_false c5
        clear c5
        replace H := Option.bind_eq_some_iff.mp H
        obtain ⟨t362, A110, H⟩ := H
        replace H : ((spec_l02Normal.f k1 t362).bind fun t365 => (some t365)) = some r := H
        have A11 := Aside0.mk A110
        clear A110
        replace H := Option.bind_eq_some_iff.mp H
        obtain ⟨t365, A120, H⟩ := H
        replace H : (some t365) = some r := H
        have A12 := Aside0.mk A120
        clear A120
        obtain rfl := Option.some.inj H
        obtain ⟨Ao13, co13, eo13⟩ := Kd.R_slice HO_5.out
        subst eo13
        go_wp2_with (first | ((with_reducible refine gate_callee (f := 32) rfl ?_); refine goesL_ (some 24) rfl rfl Try.func32 (by kernel_rfl) rfl #[.slice Ao13 x5_1.length co13] rfl ta_ ?_; (with_reducible refine (spec_l02Sort.calls k1 _ _ x5_1 t362 _ ?side1 ?side2 A11.out).mono ?_); (case side1 => exact ca_ (Kd.R_reads' HO_5.out).2.2); (case side2 => exact (Kd.R_reads' HO_5.out).2.1); rintro e w14 ⟨v363, rfl, ho0, hb⟩; refine ⟨_, rfl, ?_⟩; have n0_ := Aside0.mk (Kd.R_elder' (ra_ HO_5.out) (Kd.R_base ho0) hb); have n1_ := Aside0.mk (Kd.R_lower (Kd.R_new' ho0 (Kd.R_lt (ra_ HO_5.out))) (below_size (bl0_))); have n2_ := Aside0.mk (below_step (bl0_) hb); clear HO_5; clear HB; have HO_5 := n0_; have HO364 := n1_; have HB := n2_; clear n0_ n1_ n2_; (try clear hb); (try clear hb2); (try clear hk); (try clear hi); (try clear ho0); obtain ⟨Ao15, co15, eo15⟩ := Kd.R_slice HO364.out; subst eo15) | ((with_reducible refine gate_callee (f := 40) rfl ?_); refine goesL_ (some 25) rfl rfl Try.func40 (by kernel_rfl) rfl #[.slice Ao15 t362.length co15] rfl ta_ ?_; (with_reducible refine (spec_l02Normal.calls k1 _ _ t362 t365 _ ?side1 ?side2 A12.out).mono ?_); (case side1 => exact ca_ (Kd.R_reads' HO364.out).2.2); (case side2 => exact (Kd.R_reads' HO364.out).2.1); rintro e w16 ⟨v366, rfl, ho0, hb⟩; refine ⟨_, rfl, ?_⟩; have n0_ := Aside0.mk (Kd.R_elder' (ra_ HO_5.out) (Kd.R_base ho0) hb); have n1_ := Aside0.mk (Kd.R_elder' (ra_ HO364.out) (Kd.R_base ho0) hb); have n2_ := Aside0.mk (Kd.R_lower (Kd.R_new' (Kd.R_new' ho0 (Kd.R_lt (ra_ HO_5.out))) (Kd.R_lt (ra_ HO364.out))) (below_size (bl0_))); have n3_ := Aside0.mk (below_step (bl0_) hb); clear HO_5; clear HO364; clear HB; have HO_5 := n0_; have HO364 := n1_; have HO367 := n2_; have HB := n3_; clear n0_ n1_ n2_ n3_; (try clear hb); (try clear hb2); (try clear hk); (try clear hi); (try clear ho0)))
        go_ret
        exact ⟨_, er_, by (with_reducible repeat (first | apply Kd.R_alloc | apply Kd.R_drewN | apply Kd.R_drew)); exact Kd.R_mono HO367.out (fun _ hk => trivial), bl0_⟩

/-! ### spec_TurnShape: function 7 -/
def spec_TurnShape.j0 : Nat → List (S47) → Int → Int → Bool → Option ((List (S47)) × Int)
  | 0, _, _, _, _ => none
  | k + 1, x0, x1, x6, x15 => if x15 = true then (if 2 = 0 then ((spec_l03Form.f k x0 x1).bind fun t370 => (some (t370, 0))) else (some (([] : List (S47)), 2))) else (if x6 = 0 then ((spec_l03Form.f k x0 x1).bind fun t373 => (some (t373, 0))) else (some (([] : List (S47)), x6)))
def spec_TurnShape.f (k : Nat) (l0 : List (S47)) (a1 : Int) : Option ((List (S47)) × Int) := (spec_l03Code.f k l0).bind fun t368 => (if t368 = 1 then (spec_TurnShape.j0 k l0 a1 t368 false) else ((spec_l03Is.f a1).bind fun t369 => (spec_TurnShape.j0 k l0 a1 t368 (!t369))))
theorem spec_TurnShape.mono_l : ∀ k, (∀ y0 y1 y2 y3, LeO (spec_TurnShape.j0 k y0 y1 y2 y3) (spec_TurnShape.j0 (k + 1) y0 y1 y2 y3))
  | 0 => fun _ _ _ _ r h => by simp [spec_TurnShape.j0] at h
  | k + 1 => by
    have ih0 := spec_TurnShape.mono_l k
    · intro y0 y1 y2 y3
      unfold spec_TurnShape.j0
      repeat' first
      | (with_reducible exact ih0 _ _ _ _)
      | (with_reducible exact spec_l03Code.mono _ _)
      | (with_reducible exact spec_l03Form.mono _ _ _)
      | (with_reducible exact LeO.refl _)
      | (with_reducible exact LeO.none _)
      | (with_reducible refine LeO.ite ?_ ?_)
      | (with_reducible refine LeO.bind ?_ (fun _ => ?_))
      | exact ih0 _ _ _ _
      | exact spec_l03Code.mono _ _
      | exact spec_l03Form.mono _ _ _
      | exact LeO.none _
      | refine LeO.ite ?_ ?_
      | refine LeO.bind ?_ (fun _ => ?_)
theorem spec_TurnShape.mono : ∀ a0 a1 k, LeO (spec_TurnShape.f k a0 a1) (spec_TurnShape.f (k + 1) a0 a1) := by
  intro a0 a1 k
  have ih0 := spec_TurnShape.mono_l k
  unfold spec_TurnShape.f
  repeat' first
      | (with_reducible exact ih0 _ _ _ _)
      | (with_reducible exact spec_l03Code.mono _ _)
      | (with_reducible exact spec_l03Form.mono _ _ _)
      | (with_reducible exact LeO.refl _)
      | (with_reducible exact LeO.none _)
      | (with_reducible refine LeO.ite ?_ ?_)
      | (with_reducible refine LeO.bind ?_ (fun _ => ?_))
      | exact ih0 _ _ _ _
      | exact spec_l03Code.mono _ _
      | exact spec_l03Form.mono _ _ _
      | exact LeO.none _
      | refine LeO.ite ?_ ?_
      | refine LeO.bind ?_ (fun _ => ?_)
set_option maxHeartbeats 8000000 in
set_option maxRecDepth 100000 in
theorem spec_TurnShape.calls (k : Nat) (A0 : Option Addr) (c0 : Nat) (l0 : List (S47)) (a1 : Int) (r1 : List (S47)) (r2 : Int) (w : World) (hr0 : Kd.C k47 w A0 l0.length l0) (hc0 : l0.length ≤ c0) (h : spec_TurnShape.f k l0 a1 = some (r1, r2)) :
    Calls Try.prog 7 #[.slice A0 l0.length c0, .int .i64 a1] w fun e w' => ∃ v0_ : Value, e = .returned (.tuple #[v0_, .int .i64 r2]) ∧ Kd.R k47 47 w' w.heap.size (fun _ => True) v0_ r1 ∧ Below w.heap.size w w' := by
  have HR0 := Aside0.mk hr0
  have HC0 := Aside0.mk hc0
  clear hr0 hc0
  have HB := Aside0.mk (Below.refl w.heap.size w)
  have H : ((spec_l03Code.f k l0).bind fun t368 => (if t368 = 1 then (spec_TurnShape.j0 k l0 a1 t368 false) else ((spec_l03Is.f a1).bind fun t369 => (spec_TurnShape.j0 k l0 a1 t368 (!t369))))) = some (r1, r2) := h
  clear h
  replace H := Option.bind_eq_some_iff.mp H
  obtain ⟨t368, A30, H⟩ := H
  replace H : (if t368 = 1 then (spec_TurnShape.j0 k l0 a1 t368 false) else ((spec_l03Is.f a1).bind fun t369 => (spec_TurnShape.j0 k l0 a1 t368 (!t369)))) = some (r1, r2) := H
  have A3 := Aside0.mk A30
  clear A30
  have HC4 := Aside0.mk H
  clear H
  go_enter Try.func7, Try.ntmps7
  go_upto_region 2 with (first | ((with_reducible refine gate_callee (f := 23) rfl ?_); refine goesL_ (some 8) rfl rfl Try.func23 (by kernel_rfl) rfl #[.slice A0 l0.length c0] rfl ta_ ?_; (with_reducible refine (spec_l03Code.calls k _ _ l0 t368 _ ?side1 ?side2 A3.out).mono ?_); (case side1 => exact ca_ HR0.out); (case side2 => exact HC0.out); rintro e w5 ⟨rfl, hb⟩; refine ⟨_, rfl, ?_⟩; have n0_ := Aside0.mk (below_step (bl0_) hb); clear HB; have HB := n0_; clear n0_; (try clear hb); (try clear hb2); (try clear hk); (try clear hi)))
  (try simp only [Act.put, List.setIfInBounds_toArray, List.set_cons_zero, List.set_cons_succ])
  go_cut [15] (fun v15 wc => ∃ (kq : Nat) (x15_3 : Bool), v15 = .bool x15_3 ∧ Aside0 (spec_TurnShape.j0 kq l0 a1 t368 x15_3 = some (r1, r2)) ∧ Aside0 (kq ≤ k) ∧ Aside0 (Below w.heap.size w wc))
  case first =>
    have H := HC4.out
    clear HC4
    by_cases c6 : t368 = 1
    · rw [if_pos c6] at H
      have c6b0 : (t368 == 1) = true := beq_iff_eq.mpr c6
      have c6b1 : (t368 != 1) = false := bne_eq_false_iff_eq.mpr c6
      clear c6
      (first | rw [c6b0] | (simp only [i64_w, i32_w]; rw [c6b0]) | skip)
      have H' := Aside0.mk H
      clear H
      go_wp2
      go_meet
      case rel => exact ⟨_, (false), rs_, H', ⟨by first | omega | exact Nat.le_refl _⟩, ⟨bl0_⟩⟩
    · rw [if_neg c6] at H
      have c6b0 : (t368 == 1) = false := beq_eq_false_iff_ne.mpr c6
      have c6b1 : (t368 != 1) = true := bne_iff_ne.mpr c6
      (first | rw [c6b0] | (simp only [i64_w, i32_w]; rw [c6b0]) | skip)
      replace H := Option.bind_eq_some_iff.mp H
      obtain ⟨t369, A70, H⟩ := H
      replace H : (spec_TurnShape.j0 k l0 a1 t368 (!t369)) = some (r1, r2) := H
      have A7 := Aside0.mk A70
      clear A70
      have H' := Aside0.mk H
      clear H
      go_wp2_with (first | (go_at_call 24; (with_reducible refine (spec_l03Is.calls a1 t369 _ A7.out).mono ?_); rintro e w' ⟨rfl, ⟨nd, rfl⟩⟩))
      go_meet
      case rel => exact ⟨_, (!t369), rs_, H', ⟨by first | omega | exact Nat.le_refl _⟩, ⟨bl0_⟩⟩
  case rest =>
    clear HC4
    try clear c2
    try clear p2
    try clear c6
    try clear c6b0
    try clear c6b1
    try clear c7
    obtain ⟨kq, x15_3, rfl, HA, HJ3, HB⟩ := hcut
    cases kq with
    | zero => exact absurd HA.out (by simp [spec_TurnShape.j0])
    | succ kj3 =>
      have H := HA.out
      clear HA
      simp only [spec_TurnShape.j0] at H
      by_cases c8 : x15_3 = true
      · subst c8
        have H1 : (if 2 = 0 then ((spec_l03Form.f kj3 l0 a1).bind fun t370 => (some (t370, 0))) else (some (([] : List (S47)), 2))) = some (r1, r2) := by rw [if_pos rfl] at H; exact H
        clear H
        have H := H1
        clear H1
        by_cases c9 : 2 = 0
        · exact absurd c9 (by decide)
        · rw [if_neg c9] at H
          have c9b0 : (2 == 0) = false := beq_eq_false_iff_ne.mpr c9
          have c9b1 : (2 != 0) = true := bne_iff_ne.mpr c9
          simp only [Option.some.injEq, Prod.mk.injEq] at H
          obtain ⟨rfl, rfl⟩ := H
          go_wp2
          go_ret2
          exact ⟨_, er_, by first | exact Kd.R_nil _ _ _ _ _ | exact Kd.N_nil _ _ _ _ _ | exact Kd.V_nil _ _ _ _ _ | exact Kd.Q_nil _ _ _ _ _ | exact Kd.S_nil _ _ _ _ _, bl0_⟩
      · replace c8 := Bool.eq_false_iff.mpr c8
        subst c8
        have H1 : (if t368 = 0 then ((spec_l03Form.f kj3 l0 a1).bind fun t373 => (some (t373, 0))) else (some (([] : List (S47)), t368))) = some (r1, r2) := by rw [if_neg (show ¬ (false = true) by decide)] at H; exact H
        clear H
        have H := H1
        clear H1
        by_cases c12 : t368 = 0
        · rw [if_pos c12] at H
          have c12b0 : (t368 == 0) = true := beq_iff_eq.mpr c12
          have c12b1 : (t368 != 0) = false := bne_eq_false_iff_eq.mpr c12
          clear c12
          replace H := Option.bind_eq_some_iff.mp H
          obtain ⟨t373, A130, H⟩ := H
          replace H : (some (t373, 0)) = some (r1, r2) := H
          have A13 := Aside0.mk A130
          clear A130
          simp only [Option.some.injEq, Prod.mk.injEq] at H
          obtain ⟨rfl, rfl⟩ := H
          go_wp2_with (first | ((with_reducible refine gate_callee (f := 25) rfl ?_); refine goesL_ (some 21) rfl rfl Try.func25 (by kernel_rfl) rfl #[.slice A0 l0.length c0, .int .i64 a1] rfl ta_ ?_; (with_reducible refine (spec_l03Form.calls kj3 _ _ l0 a1 t373 _ ?side1 ?side2 A13.out).mono ?_); (case side1 => exact ca_ (Kd.C_below HR0.out HB.out)); (case side2 => exact HC0.out); rintro e w14 ⟨v374, rfl, ho0, hb⟩; refine ⟨_, rfl, ?_⟩; have n0_ := Aside0.mk (Kd.R_lower ho0 (below_size (bl0_))); have n1_ := Aside0.mk (below_step (bl0_) hb); clear HB; have HO375 := n0_; have HB := n1_; clear n0_ n1_; (try clear hb); (try clear hb2); (try clear hk); (try clear hi); (try clear ho0)))
          go_ret2
          exact ⟨_, er_, ra_ HO375.out, bl0_⟩
        · rw [if_neg c12] at H
          have c12b0 : (t368 == 0) = false := beq_eq_false_iff_ne.mpr c12
          have c12b1 : (t368 != 0) = true := bne_iff_ne.mpr c12
          simp only [Option.some.injEq, Prod.mk.injEq] at H
          obtain ⟨rfl, rfl⟩ := H
          go_wp2
          go_ret2
          exact ⟨_, er_, by first | exact Kd.R_nil _ _ _ _ _ | exact Kd.N_nil _ _ _ _ _ | exact Kd.V_nil _ _ _ _ _ | exact Kd.Q_nil _ _ _ _ _ | exact Kd.S_nil _ _ _ _ _, bl0_⟩

/-! ### spec_DrawComposeTurns: function 8 -/
def spec_DrawComposeTurns.f (k : Nat) (l0 : List Int) : Option (Int × Int) := (spec_l01From.f k l0).bind fun bt376 => ((spec_l03DrawTurn.f bt376.1 bt376.2.1 bt376.2.2).bind fun bt380 => ((spec_l03DrawTurn.f bt376.1 bt380.2.1 bt380.2.2).bind fun bt383 => (some (bt380.1, bt383.1))))
theorem spec_DrawComposeTurns.mono : ∀ a0 k, LeO (spec_DrawComposeTurns.f k a0) (spec_DrawComposeTurns.f (k + 1) a0) := by
  intro a0 k
  unfold spec_DrawComposeTurns.f
  repeat' first
      | (with_reducible exact spec_l01From.mono _ _)
      | (with_reducible exact LeO.refl _)
      | (with_reducible exact LeO.none _)
      | (with_reducible refine LeO.ite ?_ ?_)
      | (with_reducible refine LeO.bind ?_ (fun _ => ?_))
      | exact spec_l01From.mono _ _
      | exact LeO.none _
      | refine LeO.ite ?_ ?_
      | refine LeO.bind ?_ (fun _ => ?_)
set_option maxHeartbeats 8000000 in
set_option maxRecDepth 100000 in
theorem spec_DrawComposeTurns.calls (k : Nat) (A0 : Option Addr) (c0 : Nat) (l0 : List Int) (r1 : Int) (r2 : Int) (w : World) (hr0 : Kd.C (Kd.int .u8) w A0 l0.length l0) (hc0 : l0.length ≤ c0) (h : spec_DrawComposeTurns.f k l0 = some (r1, r2)) :
    Calls Try.prog 8 #[.slice A0 l0.length c0] w fun e w' => e = .returned (.tuple #[.int .i64 r1, .int .i64 r2]) ∧ Below w.heap.size w w' := by
  have HR0 := Aside0.mk hr0
  have HC0 := Aside0.mk hc0
  clear hr0 hc0
  have HB := Aside0.mk (Below.refl w.heap.size w)
  have H : ((spec_l01From.f k l0).bind fun bt376 => ((spec_l03DrawTurn.f bt376.1 bt376.2.1 bt376.2.2).bind fun bt380 => ((spec_l03DrawTurn.f bt376.1 bt380.2.1 bt380.2.2).bind fun bt383 => (some (bt380.1, bt383.1))))) = some (r1, r2) := h
  clear h
  replace H := Option.bind_eq_some_iff.mp H
  obtain ⟨⟨t376, t377, t378⟩, A20, H⟩ := H
  replace H : ((spec_l03DrawTurn.f t376 t377 t378).bind fun bt380 => ((spec_l03DrawTurn.f t376 bt380.2.1 bt380.2.2).bind fun bt383 => (some (bt380.1, bt383.1)))) = some (r1, r2) := H
  have A2 := Aside0.mk A20
  clear A20
  replace H := Option.bind_eq_some_iff.mp H
  obtain ⟨⟨t380, t381, t382⟩, A30, H⟩ := H
  replace H : ((spec_l03DrawTurn.f t376 t381 t382).bind fun bt383 => (some (t380, bt383.1))) = some (r1, r2) := H
  have A3 := Aside0.mk A30
  clear A30
  replace H := Option.bind_eq_some_iff.mp H
  obtain ⟨⟨t383, t384, t385⟩, A40, H⟩ := H
  replace H : (some (t380, t383)) = some (r1, r2) := H
  have A4 := Aside0.mk A40
  clear A40
  simp only [Option.some.injEq, Prod.mk.injEq] at H
  obtain ⟨rfl, rfl⟩ := H
  go_enter Try.func8, Try.ntmps8
  go_wp2_with (first | ((with_reducible refine gate_callee (f := 16) rfl ?_); refine goesL_ (some 7) rfl rfl Try.func16 (by kernel_rfl) rfl #[.slice A0 l0.length c0] rfl ta_ ?_; (with_reducible refine (spec_l01From.calls k _ _ l0 t376 t377 t378 w _ ?side1 ?side2 ?side3 A2.out).mono ?_); (case side1 => repeat (first | (with_reducible first | exact HB.out | apply below_alloc | apply pw_below_drewN | apply below_drew1) | exact HB.out)); (case side2 => exact HR0.out); (case side3 => exact HC0.out); rintro e w5 ⟨g379, rfl, hi, hb, hb2⟩; refine ⟨_, rfl, ?_⟩; have n0_ := Aside0.mk (hb); have n1_ := Aside0.mk (hi); clear HB; have HB := n0_; have HI379 := n1_; clear n0_ n1_; (try clear hb); (try clear hb2); (try clear hk); (try clear hi)) | ((with_reducible refine gate_callee (f := 18) rfl ?_); refine goesL_ (some 9) rfl rfl Try.func18 (by kernel_rfl) rfl #[.pointer (some ⟨g379, 0, none⟩)] rfl ta_ ?_; (with_reducible refine (spec_l03DrawTurn.calls g379 t376 t377 t378 t380 t381 t382 w _ ?side1 ?side2 A3.out).mono ?_); (case side1 => repeat (first | (with_reducible first | exact HI379.out | apply IsS52.alloc | apply IsS52.drewN | apply IsS52.drew | apply IsS52.set_1 | apply IsS52.set_2) | exact HI379.out)); (case side2 => repeat (first | (with_reducible first | exact HB.out | apply below_alloc | apply pw_below_drewN | apply below_drew1 | refine below_set ?_ (IsS52.ge HI379.out)) | exact HB.out)); rintro e w6 ⟨rfl, hi, hb, hk⟩; refine ⟨_, rfl, ?_⟩; have n0_ := Aside0.mk (hb); have n1_ := Aside0.mk (hi); clear HB; clear HI379; have HB := n0_; have HI379 := n1_; clear n0_ n1_; (try clear hb); (try clear hb2); (try clear hk); (try clear hi)) | ((with_reducible refine gate_callee (f := 18) rfl ?_); refine goesL_ (some 12) rfl rfl Try.func18 (by kernel_rfl) rfl #[.pointer (some ⟨g379, 0, none⟩)] rfl ta_ ?_; (with_reducible refine (spec_l03DrawTurn.calls g379 t376 t381 t382 t383 t384 t385 w _ ?side1 ?side2 A4.out).mono ?_); (case side1 => repeat (first | (with_reducible first | exact HI379.out | apply IsS52.alloc | apply IsS52.drewN | apply IsS52.drew | apply IsS52.set_1 | apply IsS52.set_2) | exact HI379.out)); (case side2 => repeat (first | (with_reducible first | exact HB.out | apply below_alloc | apply pw_below_drewN | apply below_drew1 | refine below_set ?_ (IsS52.ge HI379.out)) | exact HB.out)); rintro e w7 ⟨rfl, hi, hb, hk⟩; refine ⟨_, rfl, ?_⟩; have n0_ := Aside0.mk (hb); have n1_ := Aside0.mk (hi); clear HB; clear HI379; have HB := n0_; have HI379 := n1_; clear n0_ n1_; (try clear hb); (try clear hb2); (try clear hk); (try clear hi)))
  go_ret2
  exact ⟨er_, by repeat (first | (with_reducible first | exact HB.out | apply below_alloc | apply pw_below_drewN | apply below_drew1 | refine below_set ?_ (IsS52.ge HI379.out)) | exact HB.out)⟩

end Go.Proofs.Ytopceddgiddhlaa.PFnTurned
