/- Over the kit's printer by a driver of mine (hprint.py), with parts by hand: functions of the program as Lean functions, and that each call comes to exactly these answers. -/
import Derived.Test.YtaaodakmelihaaaPFnNamesx0
import Derived.Test.YtaaodakmelihaaaPFnNamesx2
import Derived.Test.YtaaodakmelihaaaPFnNamesx5
import Derived.Test.YtaaodakmelihaaaPFnNamesx6
import Derived.Test.YtaaodakmelihaaaPFnNamesx7
import Derived.Test.YtaaodakmelihaaaPFnNamesx11
import Derived.Test.YtaaodakmelihaaaPFnNamesx13
import Derived.Test.YtaaodakmelihaaaPFnNamesx14
namespace Go.Proofs.Ytaaodakmelihaaa.PFnNames
open Go.RowKit Go.Proofs.YtaaodakmelihaaaW.PrintWords Go.Proofs.YtaaodakmelihaaaW.PrintLast Go.Proofs.YtaaodakmelihaaaW.PrintMore
attribute [local go_sem] max2_int min2_int max_two min_two max_three min_three max_four min_four   -- for this text's walks alone
set_option linter.unusedVariables false
set_option linter.unusedSimpArgs false

/-! ### spec_l04Text: function 38 -/
mutual
def spec_l04Text.l0 : Nat → Int → Int → List (S49) → List Int → Int → Option (ByteArray)
 | 0, _, _, _, _, _ => none
 | k + 1, x3, x4, x5, x6, x7 => if x7 < x4 then (if x7 > 0 then (if x6.length < 140737488355328 then (spec_l04Text.j1 k x3 x4 x5 (x6 ++ [47]) x7) else (none)) else (spec_l04Text.j1 k x3 x4 x5 x6 x7)) else (some (strOfNums x6))
def spec_l04Text.j1 : Nat → Int → Int → List (S49) → List Int → Int → Option (ByteArray)
 | 0, _, _, _, _, _ => none
 | k + 1, x3, x4, x5, x6, x7 => spec_l04Text.l1 k x3 x4 x5 x6 x7 0
def spec_l04Text.l1 : Nat → Int → Int → List (S49) → List Int → Int → Int → Option (ByteArray)
 | 0, _, _, _, _, _, _ => none
 | k + 1, x3, x4, x5, x6, x7, x8 => if x8 < x3 then ((spec_l02Index.f k x5 x8 x7).bind fun t447 => (if t447 ≥ 0 then (if x6.length < 140737488355328 then (spec_l04Text.l1 k x3 x4 x5 (x6 ++ [35]) x7 (wrap64 (x8 + 1))) else (none)) else (if x6.length < 140737488355328 then (spec_l04Text.l1 k x3 x4 x5 (x6 ++ [46]) x7 (wrap64 (x8 + 1))) else (none)))) else (spec_l04Text.l0 k x3 x4 x5 x6 (wrap64 (x7 + 1)))
end
def spec_l04Text.f (k : Nat) (l0 : List (S49)) : Option (ByteArray) := (spec_l04Size.f k l0).bind fun bt436 => ((spec_l02Normal.f k l0).bind fun t438 => (spec_l04Text.l0 k bt436.1 bt436.2 t438 (([] : List Int)) 0))
theorem spec_l04Text.mono_l : ∀ k, (∀ y0 y1 y2 y3 y4, LeO (spec_l04Text.l0 k y0 y1 y2 y3 y4) (spec_l04Text.l0 (k + 1) y0 y1 y2 y3 y4)) ∧ (∀ y0 y1 y2 y3 y4, LeO (spec_l04Text.j1 k y0 y1 y2 y3 y4) (spec_l04Text.j1 (k + 1) y0 y1 y2 y3 y4)) ∧ (∀ y0 y1 y2 y3 y4 y5, LeO (spec_l04Text.l1 k y0 y1 y2 y3 y4 y5) (spec_l04Text.l1 (k + 1) y0 y1 y2 y3 y4 y5))
 | 0 => ⟨fun _ _ _ _ _ r h => by simp [spec_l04Text.l0] at h, fun _ _ _ _ _ r h => by simp [spec_l04Text.j1] at h, fun _ _ _ _ _ _ r h => by simp [spec_l04Text.l1] at h⟩
 | k + 1 => by
  obtain ⟨ih0, ih1, ih2⟩ := spec_l04Text.mono_l k
  refine ⟨?_, ?_, ?_⟩
  ·intro y0 y1 y2 y3 y4
   unfold spec_l04Text.l0
   repeat' first
   | (with_reducible exact ih0 _ _ _ _ _)
   | (with_reducible exact ih1 _ _ _ _ _)
   | (with_reducible exact ih2 _ _ _ _ _ _)
   | (with_reducible exact spec_l02Index.mono _ _ _ _)
   | (with_reducible exact spec_l02Normal.mono _ _)
   | (with_reducible exact spec_l04Size.mono _ _)
   | (with_reducible exact LeO.refl _)
   | (with_reducible exact LeO.none _)
   | (with_reducible refine LeO.ite ?_ ?_)
   | (with_reducible refine LeO.bind ?_ (fun _ => ?_))
   | exact ih0 _ _ _ _ _
   | exact ih1 _ _ _ _ _
   | exact ih2 _ _ _ _ _ _
   | exact spec_l02Index.mono _ _ _ _
   | exact spec_l02Normal.mono _ _
   | exact spec_l04Size.mono _ _
   | exact LeO.none _
   | refine LeO.ite ?_ ?_
   | refine LeO.bind ?_ (fun _ => ?_)
  ·intro y0 y1 y2 y3 y4
   unfold spec_l04Text.j1
   repeat' first
   | (with_reducible exact ih0 _ _ _ _ _)
   | (with_reducible exact ih1 _ _ _ _ _)
   | (with_reducible exact ih2 _ _ _ _ _ _)
   | (with_reducible exact spec_l02Index.mono _ _ _ _)
   | (with_reducible exact spec_l02Normal.mono _ _)
   | (with_reducible exact spec_l04Size.mono _ _)
   | (with_reducible exact LeO.refl _)
   | (with_reducible exact LeO.none _)
   | (with_reducible refine LeO.ite ?_ ?_)
   | (with_reducible refine LeO.bind ?_ (fun _ => ?_))
   | exact ih0 _ _ _ _ _
   | exact ih1 _ _ _ _ _
   | exact ih2 _ _ _ _ _ _
   | exact spec_l02Index.mono _ _ _ _
   | exact spec_l02Normal.mono _ _
   | exact spec_l04Size.mono _ _
   | exact LeO.none _
   | refine LeO.ite ?_ ?_
   | refine LeO.bind ?_ (fun _ => ?_)
  ·intro y0 y1 y2 y3 y4 y5
   unfold spec_l04Text.l1
   repeat' first
   | (with_reducible exact ih0 _ _ _ _ _)
   | (with_reducible exact ih1 _ _ _ _ _)
   | (with_reducible exact ih2 _ _ _ _ _ _)
   | (with_reducible exact spec_l02Index.mono _ _ _ _)
   | (with_reducible exact spec_l02Normal.mono _ _)
   | (with_reducible exact spec_l04Size.mono _ _)
   | (with_reducible exact LeO.refl _)
   | (with_reducible exact LeO.none _)
   | (with_reducible refine LeO.ite ?_ ?_)
   | (with_reducible refine LeO.bind ?_ (fun _ => ?_))
   | exact ih0 _ _ _ _ _
   | exact ih1 _ _ _ _ _
   | exact ih2 _ _ _ _ _ _
   | exact spec_l02Index.mono _ _ _ _
   | exact spec_l02Normal.mono _ _
   | exact spec_l04Size.mono _ _
   | exact LeO.none _
   | refine LeO.ite ?_ ?_
   | refine LeO.bind ?_ (fun _ => ?_)
theorem spec_l04Text.mono : ∀ a0 k, LeO (spec_l04Text.f k a0) (spec_l04Text.f (k + 1) a0) := by
 intro a0 k
 obtain ⟨ih0, ih1, ih2⟩ := spec_l04Text.mono_l k
 unfold spec_l04Text.f
 repeat' first
   | (with_reducible exact ih0 _ _ _ _ _)
   | (with_reducible exact ih1 _ _ _ _ _)
   | (with_reducible exact ih2 _ _ _ _ _ _)
   | (with_reducible exact spec_l02Index.mono _ _ _ _)
   | (with_reducible exact spec_l02Normal.mono _ _)
   | (with_reducible exact spec_l04Size.mono _ _)
   | (with_reducible exact LeO.refl _)
   | (with_reducible exact LeO.none _)
   | (with_reducible refine LeO.ite ?_ ?_)
   | (with_reducible refine LeO.bind ?_ (fun _ => ?_))
   | exact ih0 _ _ _ _ _
   | exact ih1 _ _ _ _ _
   | exact ih2 _ _ _ _ _ _
   | exact spec_l02Index.mono _ _ _ _
   | exact spec_l02Normal.mono _ _
   | exact spec_l04Size.mono _ _
   | exact LeO.none _
   | refine LeO.ite ?_ ?_
   | refine LeO.bind ?_ (fun _ => ?_)
set_option maxHeartbeats 8000000 in
set_option maxRecDepth 100000 in
theorem spec_l04Text.calls (k : Nat) (A0 : Option Addr) (c0 : Nat) (l0 : List (S49)) (r : ByteArray) (w : World) (hr0 : Kd.C k49 w A0 l0.length l0) (hc0 : l0.length ≤ c0) (h : spec_l04Text.f k l0 = some r) :
  Calls Try.prog 38 #[.slice A0 l0.length c0] w fun e w' => e = .returned (.string r) ∧ Below w.heap.size w w' := by
 have hu49 := Try.underlying49
 have HR0 := Aside0.mk hr0
 have HC0 := Aside0.mk hc0
 clear hr0 hc0
 have HB := Aside0.mk (Below.refl w.heap.size w)
 have H : ((spec_l04Size.f k l0).bind fun bt436 => ((spec_l02Normal.f k l0).bind fun t438 => (spec_l04Text.l0 k bt436.1 bt436.2 t438 (([] : List Int)) 0))) = some r := h
 clear h
 replace H := Option.bind_eq_some_iff.mp H
 obtain ⟨⟨t436, t437⟩, A20, H⟩ := H
 replace H : ((spec_l02Normal.f k l0).bind fun t438 => (spec_l04Text.l0 k t436 t437 t438 (([] : List Int)) 0)) = some r := H
 have A2 := Aside0.mk A20
 clear A20
 replace H := Option.bind_eq_some_iff.mp H
 obtain ⟨t438, A30, H⟩ := H
 replace H : (spec_l04Text.l0 k t436 t437 t438 (([] : List Int)) 0) = some r := H
 have A3 := Aside0.mk A30
 clear A30
 obtain ⟨y441, hy441⟩ : ∃ y_ : List Int, y_ = (([] : List Int)) := ⟨_, rfl⟩
 replace H : (spec_l04Text.l0 k t436 t437 t438 y441 0) = some r := by first | (rw [hy441]; with_reducible exact H) | (have H2_ := (Option.bind_some _ _).symm.trans H; rw [hy441]; with_reducible exact H2_) | (have H2_ := (Option.bind_some _ _).symm.trans H; with_reducible exact H2_) | with_reducible exact H | (rw [hy441]; exact H) | exact H
 have Ny441 := Aside0.mk hy441
 clear hy441
 have H' := Aside0.mk H
 clear H
 go_enter Try.func38, Try.ntmps38
 go_wp2_with (first | ((with_reducible refine gate_callee (f := 57) rfl ?_); refine goesL_ (some 11) rfl rfl Try.func57 kr_ rfl #[.slice A0 l0.length c0] rfl ta_ ?_; (with_reducible refine (spec_l04Size.calls k _ _ l0 t436 t437 _ ?side1 ?side2 A2.out).mono ?_); (case side1 => exact ca_ HR0.out); (case side2 => exact HC0.out); rintro e w4 ⟨rfl, hb⟩; refine ⟨_, rfl, ?_⟩; have n0_ := Aside0.mk (below_step (bl0_) hb); clear HB; have HB := n0_; clear n0_; (try clear hb); (try clear hb2); (try clear hk); (try clear hi)) | ((with_reducible refine gate_callee (f := 42) rfl ?_); refine goesL_ (some 15) rfl rfl Try.func42 kr_ rfl #[.slice A0 l0.length c0] rfl ta_ ?_; (with_reducible refine (spec_l02Normal.calls k _ _ l0 t438 _ ?side1 ?side2 A3.out).mono ?_); (case side1 => exact ca_ (Kd.C_below HR0.out HB.out)); (case side2 => exact HC0.out); rintro e w5 ⟨v439, rfl, ho0, hb⟩; refine ⟨_, rfl, ?_⟩; have n0_ := Aside0.mk (Kd.R_lower ho0 (below_size (bl0_))); have n1_ := Aside0.mk (below_step (bl0_) hb); clear HB; have HO440 := n0_; have HB := n1_; clear n0_ n1_; (try clear hb); (try clear hb2); (try clear hk); (try clear hi); (try clear ho0)) | ((with_reducible refine gate_dst (N := 16) rfl ?_); refine Kd.R_lit (Kd.int .u8) _ 5 ?hg (N := 16) ?hd (xs := ([] : List Int)) (inner := []) (ok := fun _ => True) (okp := fun _ => True) ?hr ?hp (fun _ hk => hk) trivial (Below.refl _ _) (Nat.le_refl _) (by simp) ?_; (case hd => rfl); (case hg => rfl); (case hr => first | (go_simp; done) | (go_simp; rfl)); (case hp => exact (Reps.none _ _)); intro v442 w6 ho7 hb hg_ hnew_; clear hg_ hnew_; (first | rw [← Ny441.out] at ho7 | (simp only [Int.reduceToNat] at ho7; rw [← Ny441.out] at ho7)); have n0_ := Aside0.mk (Kd.R_below (ra_ HO440.out) hb); have n1_ := Aside0.mk (Kd.R_lower ho7 (below_size (bl0_))); have n2_ := Aside0.mk (below_step (bl0_) hb); clear HO440; clear HB; have HO440 := n0_; have HO443 := n1_; have HB := n2_; clear n0_ n1_ n2_; clear hb ho7))
 go_loopg [6, 7] k (fun kq v6 v7 w' => ∃ (x6_1 : List Int) (x7_1 : Int), v7 = .int .i64 x7_1 ∧ Aside0 (spec_l04Text.l0 kq t436 t437 t438 x6_1 x7_1 = some r) ∧ Aside0 (kq ≤ k) ∧ Aside0 (Kd.R k49 49 w' w.heap.size (fun _ => True) v439 t438) ∧ Aside0 (Kd.R (Kd.int .u8) 5 w' w.heap.size (fun _ => True) v6 x6_1) ∧ Aside0 (Below w.heap.size w w'))
 case atStart => exact ⟨(y441), (0), rs_, H', ⟨Nat.le_refl _⟩, ⟨ra_ HO440.out⟩, ⟨ra_ HO443.out⟩, ⟨bl0_⟩⟩
 case round =>
  clear H'
  try clear p2
  try clear c3
  try clear c4
  try clear c5
  obtain ⟨x6_1, x7_1, rfl, HA, HK1, HO_5, HO_6, HB⟩ := hrel
  cases gk with
  | zero => exact absurd HA.out (by simp [spec_l04Text.l0])
  | succ k1 =>
   have H := HA.out
   clear HA
   simp only [spec_l04Text.l0] at H
   by_cases c8 : x7_1 < t437
   ·rw [if_pos c8] at H
    have c8b0 : decide (x7_1 < t437) = true := decide_eq_true c8
    clear c8
    have HC9 := Aside0.mk H
    clear H
    go_upto_if 23 with (fail)
    go_cut [6] (fun v6 wc => ∃ (kq : Nat) (x6_8 : List Int), Aside0 (spec_l04Text.j1 kq t436 t437 t438 x6_8 x7_1 = some r) ∧ Aside0 (kq ≤ k1) ∧ Aside0 (Kd.R k49 49 wc w.heap.size (fun _ => True) v439 t438) ∧ Aside0 (Kd.R (Kd.int .u8) 5 wc w.heap.size (fun _ => True) v6 x6_8) ∧ Aside0 (Below w.heap.size w wc))
    case first =>
     have H := HC9.out
     clear HC9
     by_cases c10 : x7_1 > 0
     ·rw [if_pos c10] at H
      have c10b0 : decide (0 < x7_1) = true := decide_eq_true c10
      clear c10
      (first | rw [c10b0] | (simp only [i64_w, i32_w]; rw [c10b0]) | skip)
      by_cases c11 : x6_1.length < 140737488355328
      ·rw [if_pos c11] at H
       have LMc11 := Aside0.mk c11
       clear c11
       obtain ⟨y444, hy444⟩ : ∃ y_ : List Int, y_ = (x6_1 ++ [47]) := ⟨_, rfl⟩
       replace H : (spec_l04Text.j1 k1 t436 t437 t438 y444 x7_1) = some r := by first | (rw [hy444]; with_reducible exact H) | (have H2_ := (Option.bind_some _ _).symm.trans H; rw [hy444]; with_reducible exact H2_) | (have H2_ := (Option.bind_some _ _).symm.trans H; with_reducible exact H2_) | with_reducible exact H | (rw [hy444]; exact H) | exact H
       have Ny444 := Aside0.mk hy444
       clear hy444
       have H' := Aside0.mk H
       clear H
       go_wp2_with (first | ((with_reducible refine gate_builtin (b := .append) (xs := #[.tmp 24, .tmp 25]) rfl ?_); at_builtin; refine Kd.R_append (Kd.int .u8) (w0 := w) w.heap.size rfl (.tmp 24) (.tmp 25) 22 5 (.int .u8 0) 1 rfl Try.underlying22 info5 rfl (by decide) (by omega) u6 x6_1 47 [.int .u8 47] (fun _ => True) (fun _ => False) rfl rfl ?aP (fun _ hk => hk.elim) ?aF ?aO ?aB ?aS ?aL ?_; (case aP => exact rfl); (case aB => exact (bl0_)); (case aF => exact (fun _ _ => trivial)); (case aO => exact (ra_ HO_6.out)); (case aS => exact (below_size (bl0_))); (case aL => have := LMc11.out; omega); intro v445 w12 ho hb hg hat; rw [← Ny444.out] at ho; have n0_ := Aside0.mk (Kd.R_over' (ra_ HO_5.out) (Kd.R_typed (ra_ HO_6.out)) (by decide) hg); have n1_ := Aside0.mk (hb); have n2_ := Aside0.mk (ho); clear HO_5; clear HB; clear HO_6; have HO_5 := n0_; have HB := n1_; have HO446 := n2_; clear n0_ n1_ n2_; clear ho hb hg hat))
       go_meet
       case rel => exact ⟨_, (y444), H', ⟨by have := HK1.out; first | omega | exact Nat.le_refl _⟩, ⟨ra_ HO_5.out⟩, ⟨ra_ HO446.out⟩, ⟨bl0_⟩⟩
      ·rw [if_neg c11] at H
       exact absurd H (by simp)
     ·rw [if_neg c10] at H
      have c10b0 : decide (0 < x7_1) = false := decide_eq_false c10
      clear c10
      (first | rw [c10b0] | (simp only [i64_w, i32_w]; rw [c10b0]) | skip)
      have H' := Aside0.mk H
      clear H
      go_wp2
      go_meet
      case rel => exact ⟨_, (x6_1), H', ⟨by have := HK1.out; first | omega | exact Nat.le_refl _⟩, ⟨ra_ HO_5.out⟩, ⟨ra_ HO_6.out⟩, ⟨bl0_⟩⟩
    case rest =>
     clear HC9
     try clear c1
     try clear p2
     try clear c3
     try clear c4
     try clear c5
     try clear c8
     try clear c8b0
     try clear c10
     try clear c10b0
     try clear c11
     try clear p2
     obtain ⟨kq, x6_8, HA, HJ8, HO_5, HO_6, HB⟩ := hcut
     cases kq with
     | zero => exact absurd HA.out (by simp [spec_l04Text.j1])
     | succ kj8 =>
      have H := HA.out
      clear HA
      simp only [spec_l04Text.j1] at H
      have H' := Aside0.mk H
      clear H
      go_wp2
      go_loopg [6, 8] kj8 (fun kq v6 v8 w' => ∃ (x6_3 : List Int) (x8_3 : Int), v8 = .int .i64 x8_3 ∧ Aside0 (spec_l04Text.l1 kq t436 t437 t438 x6_3 x7_1 x8_3 = some r) ∧ Aside0 (kq ≤ kj8) ∧ Aside0 (Kd.R k49 49 w' w.heap.size (fun _ => True) v439 t438) ∧ Aside0 (Kd.R (Kd.int .u8) 5 w' w.heap.size (fun _ => True) v6 x6_3) ∧ Aside0 (Below w.heap.size w w'))
      case atStart => exact ⟨(x6_8), (0), rs_, H', ⟨Nat.le_refl _⟩, ⟨ra_ HO_5.out⟩, ⟨ra_ HO_6.out⟩, ⟨bl0_⟩⟩
      case round =>
       clear H'
       try clear c1
       try clear p2
       try clear c3
       try clear c4
       try clear c5
       try clear c8
       try clear c8b0
       try clear c10
       try clear c10b0
       try clear c11
       try clear p2
       obtain ⟨x6_3, x8_3, rfl, HA, HK3, HO_5, HO_6, HB⟩ := hrel
       cases gk with
       | zero => exact absurd HA.out (by simp [spec_l04Text.l1])
       | succ k3 =>
        have H := HA.out
        clear HA
        simp only [spec_l04Text.l1] at H
        by_cases c13 : x8_3 < t436
        ·rw [if_pos c13] at H
         have c13b0 : decide (x8_3 < t436) = true := decide_eq_true c13
         clear c13
         replace H := Option.bind_eq_some_iff.mp H
         obtain ⟨t447, A140, H⟩ := H
         replace H : (if t447 ≥ 0 then (if x6_3.length < 140737488355328 then (spec_l04Text.l1 k3 t436 t437 t438 (x6_3 ++ [35]) x7_1 (wrap64 (x8_3 + 1))) else (none)) else (if x6_3.length < 140737488355328 then (spec_l04Text.l1 k3 t436 t437 t438 (x6_3 ++ [46]) x7_1 (wrap64 (x8_3 + 1))) else (none))) = some r := H
         have A14 := Aside0.mk A140
         clear A140
         by_cases c15 : t447 ≥ 0
         ·rw [if_pos c15] at H
          have c15b0 : decide (0 ≤ t447) = true := decide_eq_true c15
          clear c15
          by_cases c16 : x6_3.length < 140737488355328
          ·rw [if_pos c16] at H
           have LMc16 := Aside0.mk c16
           clear c16
           obtain ⟨y448, hy448⟩ : ∃ y_ : List Int, y_ = (x6_3 ++ [35]) := ⟨_, rfl⟩
           replace H : (spec_l04Text.l1 k3 t436 t437 t438 y448 x7_1 (wrap64 (x8_3 + 1))) = some r := by first | (rw [hy448]; with_reducible exact H) | (have H2_ := (Option.bind_some _ _).symm.trans H; rw [hy448]; with_reducible exact H2_) | (have H2_ := (Option.bind_some _ _).symm.trans H; with_reducible exact H2_) | with_reducible exact H | (rw [hy448]; exact H) | exact H
           have Ny448 := Aside0.mk hy448
           clear hy448
           have H' := Aside0.mk H
           clear H
           obtain ⟨Ao17, co17, eo17⟩ := Kd.R_slice HO_5.out
           subst eo17
           go_wp2_with (first | ((with_reducible refine gate_callee (f := 58) rfl ?_); refine goesL_ (some 36) rfl rfl Try.func58 kr_ rfl #[.slice Ao17 t438.length co17, .agg #[.int .i64 x8_3, .int .i64 x7_1]] rfl ta_ ?_; (with_reducible refine (spec_l02Index.calls k3 _ _ t438 x8_3 x7_1 t447 _ ?side1 ?side2 A14.out).mono ?_); (case side1 => exact ca_ (Kd.R_reads' HO_5.out).2.2); (case side2 => exact (Kd.R_reads' HO_5.out).2.1); rintro e w18 ⟨rfl, hb⟩; refine ⟨_, rfl, ?_⟩; have n0_ := Aside0.mk (Kd.R_below (ra_ HO_5.out) hb); have n1_ := Aside0.mk (Kd.R_below (ra_ HO_6.out) hb); have n2_ := Aside0.mk (below_step (bl0_) hb); clear HO_5; clear HO_6; clear HB; have HO_5 := n0_; have HO_6 := n1_; have HB := n2_; clear n0_ n1_ n2_; (try clear hb); (try clear hb2); (try clear hk); (try clear hi)) | ((with_reducible refine gate_builtin (b := .append) (xs := #[.tmp 38, .tmp 39]) rfl ?_); at_builtin; refine Kd.R_append (Kd.int .u8) (w0 := w) w.heap.size rfl (.tmp 38) (.tmp 39) 22 5 (.int .u8 0) 1 rfl Try.underlying22 info5 rfl (by decide) (by omega) u6 x6_3 35 [.int .u8 35] (fun _ => True) (fun _ => False) rfl rfl ?aP (fun _ hk => hk.elim) ?aF ?aO ?aB ?aS ?aL ?_; (case aP => exact rfl); (case aB => exact (bl0_)); (case aF => exact (fun _ _ => trivial)); (case aO => exact (ra_ HO_6.out)); (case aS => exact (below_size (bl0_))); (case aL => have := LMc16.out; omega); intro v449 w19 ho hb hg hat; rw [← Ny448.out] at ho; have n0_ := Aside0.mk (Kd.R_over' (ra_ HO_5.out) (Kd.R_typed (ra_ HO_6.out)) (by decide) hg); have n1_ := Aside0.mk (hb); have n2_ := Aside0.mk (ho); clear HO_5; clear HB; clear HO_6; have HO_5 := n0_; have HB := n1_; have HO450 := n2_; clear n0_ n1_ n2_; clear ho hb hg hat))
           go_roundg k3
           case measure => have := HK1.out; have := HJ8.out; have := HK3.out; omega
           case rel => exact ⟨(y448), (wrap64 (x8_3 + 1)), rs_, H', ⟨by have := HK1.out; have := HJ8.out; have := HK3.out; omega⟩, ⟨ra_ HO_5.out⟩, ⟨ra_ HO450.out⟩, ⟨bl0_⟩⟩
          ·rw [if_neg c16] at H
           exact absurd H (by simp)
         ·rw [if_neg c15] at H
          have c15b0 : decide (0 ≤ t447) = false := decide_eq_false c15
          clear c15
          by_cases c20 : x6_3.length < 140737488355328
          ·rw [if_pos c20] at H
           have LMc20 := Aside0.mk c20
           clear c20
           obtain ⟨y451, hy451⟩ : ∃ y_ : List Int, y_ = (x6_3 ++ [46]) := ⟨_, rfl⟩
           replace H : (spec_l04Text.l1 k3 t436 t437 t438 y451 x7_1 (wrap64 (x8_3 + 1))) = some r := by first | (rw [hy451]; with_reducible exact H) | (have H2_ := (Option.bind_some _ _).symm.trans H; rw [hy451]; with_reducible exact H2_) | (have H2_ := (Option.bind_some _ _).symm.trans H; with_reducible exact H2_) | with_reducible exact H | (rw [hy451]; exact H) | exact H
           have Ny451 := Aside0.mk hy451
           clear hy451
           have H' := Aside0.mk H
           clear H
           obtain ⟨Ao21, co21, eo21⟩ := Kd.R_slice HO_5.out
           subst eo21
           go_wp2_with (first | ((with_reducible refine gate_callee (f := 58) rfl ?_); refine goesL_ (some 36) rfl rfl Try.func58 kr_ rfl #[.slice Ao21 t438.length co21, .agg #[.int .i64 x8_3, .int .i64 x7_1]] rfl ta_ ?_; (with_reducible refine (spec_l02Index.calls k3 _ _ t438 x8_3 x7_1 t447 _ ?side1 ?side2 A14.out).mono ?_); (case side1 => exact ca_ (Kd.R_reads' HO_5.out).2.2); (case side2 => exact (Kd.R_reads' HO_5.out).2.1); rintro e w22 ⟨rfl, hb⟩; refine ⟨_, rfl, ?_⟩; have n0_ := Aside0.mk (Kd.R_below (ra_ HO_5.out) hb); have n1_ := Aside0.mk (Kd.R_below (ra_ HO_6.out) hb); have n2_ := Aside0.mk (below_step (bl0_) hb); clear HO_5; clear HO_6; clear HB; have HO_5 := n0_; have HO_6 := n1_; have HB := n2_; clear n0_ n1_ n2_; (try clear hb); (try clear hb2); (try clear hk); (try clear hi)) | ((with_reducible refine gate_builtin (b := .append) (xs := #[.tmp 41, .tmp 42]) rfl ?_); at_builtin; refine Kd.R_append (Kd.int .u8) (w0 := w) w.heap.size rfl (.tmp 41) (.tmp 42) 22 5 (.int .u8 0) 1 rfl Try.underlying22 info5 rfl (by decide) (by omega) u6 x6_3 46 [.int .u8 46] (fun _ => True) (fun _ => False) rfl rfl ?aP (fun _ hk => hk.elim) ?aF ?aO ?aB ?aS ?aL ?_; (case aP => exact rfl); (case aB => exact (bl0_)); (case aF => exact (fun _ _ => trivial)); (case aO => exact (ra_ HO_6.out)); (case aS => exact (below_size (bl0_))); (case aL => have := LMc20.out; omega); intro v452 w23 ho hb hg hat; rw [← Ny451.out] at ho; have n0_ := Aside0.mk (Kd.R_over' (ra_ HO_5.out) (Kd.R_typed (ra_ HO_6.out)) (by decide) hg); have n1_ := Aside0.mk (hb); have n2_ := Aside0.mk (ho); clear HO_5; clear HB; clear HO_6; have HO_5 := n0_; have HB := n1_; have HO453 := n2_; clear n0_ n1_ n2_; clear ho hb hg hat))
           go_roundg k3
           case measure => have := HK1.out; have := HJ8.out; have := HK3.out; omega
           case rel => exact ⟨(y451), (wrap64 (x8_3 + 1)), rs_, H', ⟨by have := HK1.out; have := HJ8.out; have := HK3.out; omega⟩, ⟨ra_ HO_5.out⟩, ⟨ra_ HO453.out⟩, ⟨bl0_⟩⟩
          ·rw [if_neg c20] at H
           exact absurd H (by simp)
        ·rw [if_neg c13] at H
         have c13b0 : decide (x8_3 < t436) = false := decide_eq_false c13
         clear c13
         have H' := Aside0.mk H
         clear H
         go_wp2
         go_roundg k3
         case measure => have := HK1.out; have := HJ8.out; have := HK3.out; omega
         case rel => exact ⟨(x6_3), (wrap64 (x7_1 + 1)), rs_, H', ⟨by have := HK1.out; have := HJ8.out; have := HK3.out; omega⟩, ⟨ra_ HO_5.out⟩, ⟨ra_ HO_6.out⟩, ⟨bl0_⟩⟩
   ·rw [if_neg c8] at H
    have c8b0 : decide (x7_1 < t437) = false := decide_eq_false c8
    clear c8
    obtain rfl := Option.some.inj H
    have hcv24 := own_string (P := Try.prog) Try.underlying22 Try.underlying5 Try.underlying9 (Kd.own_of_R HO_6.out)
    go_wp2
    go_ret
    exact ⟨er_, bl0_⟩

/-! ### spec_NameOf: function 21 -/
def spec_NameOf.f (k : Nat) (l0 : List (S49)) : Option (ByteArray × Int) := (spec_l03Code.f k l0).bind fun t454 => (if t454 = 0 then ((spec_l03Forms.f k l0 8).bind fun t455 => (if 0 < (t455.length : Int) then ((spec_l04Text.f k (rd_L3 t455 0)).bind fun t459 => (some (t459, 0))) else (none))) else (some ((⟨#[]⟩ : ByteArray), t454)))
theorem spec_NameOf.mono : ∀ a0 k, LeO (spec_NameOf.f k a0) (spec_NameOf.f (k + 1) a0) := by
 intro a0 k
 unfold spec_NameOf.f
 repeat' first
   | (with_reducible exact spec_l03Code.mono _ _)
   | (with_reducible exact spec_l03Forms.mono _ _ _)
   | (with_reducible exact spec_l04Text.mono _ _)
   | (with_reducible exact LeO.refl _)
   | (with_reducible exact LeO.none _)
   | (with_reducible refine LeO.ite ?_ ?_)
   | (with_reducible refine LeO.bind ?_ (fun _ => ?_))
   | exact spec_l03Code.mono _ _
   | exact spec_l03Forms.mono _ _ _
   | exact spec_l04Text.mono _ _
   | exact LeO.none _
   | refine LeO.ite ?_ ?_
   | refine LeO.bind ?_ (fun _ => ?_)
set_option maxHeartbeats 8000000 in
set_option maxRecDepth 100000 in
theorem spec_NameOf.calls (k : Nat) (A0 : Option Addr) (c0 : Nat) (l0 : List (S49)) (r1 : ByteArray) (r2 : Int) (w : World) (hr0 : Kd.C k49 w A0 l0.length l0) (hc0 : l0.length ≤ c0) (h : spec_NameOf.f k l0 = some (r1, r2)) :
  Calls Try.prog 21 #[.slice A0 l0.length c0] w fun e w' => e = .returned (.tuple #[.string r1, .int .i64 r2]) ∧ Below w.heap.size w w' := by
 have HR0 := Aside0.mk hr0
 have HC0 := Aside0.mk hc0
 clear hr0 hc0
 have HB := Aside0.mk (Below.refl w.heap.size w)
 have H : ((spec_l03Code.f k l0).bind fun t454 => (if t454 = 0 then ((spec_l03Forms.f k l0 8).bind fun t455 => (if 0 < (t455.length : Int) then ((spec_l04Text.f k (rd_L3 t455 0)).bind fun t459 => (some (t459, 0))) else (none))) else (some ((⟨#[]⟩ : ByteArray), t454)))) = some (r1, r2) := h
 clear h
 replace H := Option.bind_eq_some_iff.mp H
 obtain ⟨t454, A20, H⟩ := H
 replace H : (if t454 = 0 then ((spec_l03Forms.f k l0 8).bind fun t455 => (if 0 < (t455.length : Int) then ((spec_l04Text.f k (rd_L3 t455 0)).bind fun t459 => (some (t459, 0))) else (none))) else (some ((⟨#[]⟩ : ByteArray), t454))) = some (r1, r2) := H
 have A2 := Aside0.mk A20
 clear A20
 by_cases c3 : t454 = 0
 ·rw [if_pos c3] at H
  have c3b0 : (t454 == 0) = true := beq_iff_eq.mpr c3
  have c3b1 : (t454 != 0) = false := bne_eq_false_iff_eq.mpr c3
  clear c3
  replace H := Option.bind_eq_some_iff.mp H
  obtain ⟨t455, A40, H⟩ := H
  replace H : (if 0 < (t455.length : Int) then ((spec_l04Text.f k (rd_L3 t455 0)).bind fun t459 => (some (t459, 0))) else (none)) = some (r1, r2) := H
  have A4 := Aside0.mk A40
  clear A40
  by_cases c5 : 0 < (t455.length : Int)
  ·rw [if_pos c5] at H
   have c5b0 : decide (0 < (t455.length : Int)) = true := decide_eq_true c5
   have c5b1 : decide (0 < t455.length) = true := decide_eq_true (by omega)
   clear c5
   replace H := Option.bind_eq_some_iff.mp H
   obtain ⟨t459, A60, H⟩ := H
   replace H : (some (t459, 0)) = some (r1, r2) := H
   have A6 := Aside0.mk A60
   clear A60
   simp only [Option.some.injEq, Prod.mk.injEq] at H
   obtain ⟨rfl, rfl⟩ := H
   go_enter Try.func21, Try.ntmps21
   go_wp2_with (first | ((with_reducible refine gate_callee (f := 26) rfl ?_); refine goesL_ (some 6) rfl rfl Try.func26 kr_ rfl #[.slice A0 l0.length c0] rfl ta_ ?_; (with_reducible refine (spec_l03Code.calls k _ _ l0 t454 _ ?side1 ?side2 A2.out).mono ?_); (case side1 => exact ca_ HR0.out); (case side2 => exact HC0.out); rintro e w7 ⟨rfl, hb⟩; refine ⟨_, rfl, ?_⟩; have n0_ := Aside0.mk (below_step (bl0_) hb); clear HB; have HB := n0_; clear n0_; (try clear hb); (try clear hb2); (try clear hk); (try clear hi)) | ((with_reducible refine gate_callee (f := 27) rfl ?_); refine goesL_ (some 11) rfl rfl Try.func27 kr_ rfl #[.slice A0 l0.length c0, .int .i64 8] rfl ta_ ?_; (with_reducible refine (spec_l03Forms.calls k _ _ l0 8 t455 _ ?side1 ?side2 A4.out).mono ?_); (case side1 => exact ca_ (Kd.C_below HR0.out HB.out)); (case side2 => exact HC0.out); rintro e w8 ⟨v456, rfl, ho0, hb⟩; refine ⟨_, rfl, ?_⟩; have n0_ := Aside0.mk (Kd.V_lower (Kd.V_mono (ok' := fun k_ => True) ho0 (fun k_ hk_ => trivial)) (below_size (bl0_))); have n1_ := Aside0.mk (below_step (bl0_) hb); clear HB; have HO457 := n0_; have HB := n1_; clear n0_ n1_; (try clear hb); (try clear hb2); (try clear hk); (try clear hi); (try clear ho0); obtain ⟨Ao9, co9, eo9⟩ := Kd.V_slice HO457.out; subst eo9; have p458 : 0 ≤ (0 : Int) := (by omega); have q458 : 0 < (t455.length : Int) := od_; obtain ⟨ad458, A458_0, c458_0, e458, hx458_0, hl458_0, hi458_0⟩ := at_L3 (Kd.V_reads' HO457.out).2.2 0 p458 q458; cases e458; obtain ⟨ce458, hce458, hMe458, hcc458⟩ := Kd.V_get HO457.out [] 0 p458 (by first | exact q458 | exact od_ | (have e_ := (Kd.V_reads' HO457.out).1; omega)); obtain ⟨ua458_0, uc458_0, rfl, ul458_0, ge458_0⟩ := Kd.FK_slice_open hMe458; have hv458_0 := hcc458 0 _ rfl; rw [Nat.add_zero, show ((Kd.slice 49 k49)).sz = 1 from rfl, Nat.mul_one] at hv458_0; replace hv458_0 := Option.some.inj (hv458_0.symm.trans hx458_0); injection hv458_0 with hva_ hvn_ hvc_; rw [hva_] at ge458_0; rw [hvc_] at ul458_0; have HL458_0 := Aside0.mk (show Kd.V k49 49 _ w.heap.size _ _ (rd_L3 t455 0) from Kd.V_mk ul458_0 ge458_0); clear hva_ hvn_ hvc_ ge458_0 ul458_0; clear hcc458 hce458; have qi458 : (0 < t455.length) = True := eq_true (by omega); (try rw [show ((0 : Int)).toNat = 0 from rfl] at hx458_0); (try rw [Addr.add_zero'] at hx458_0); have HR458_0 := Aside0.mk hi458_0; have HC458_0 := Aside0.mk hl458_0; clear hi458_0 hl458_0; replace p458 := eq_true p458; replace q458 := eq_true q458) | ((with_reducible refine gate_callee (f := 38) rfl ?_); refine goesL_ (some 14) rfl rfl Try.func38 kr_ rfl #[.slice A458_0 (rd_L3 t455 0).length c458_0] rfl ta_ ?_; (with_reducible refine (spec_l04Text.calls k _ _ (rd_L3 t455 0) t459 _ ?side1 ?side2 A6.out).mono ?_); (case side1 => repeat (first | exact (by repeat (first | (with_reducible exact HR458_0.out) | (with_reducible refine Kd.C_alloc ?_ _) | (with_reducible refine Kd.C_drewN ?_ _) | (with_reducible refine Kd.C_drew ?_) | exact HR458_0.out)) | (with_reducible refine Kd.C_alloc ?_ _) | (with_reducible refine Kd.C_drewN ?_ _) | (with_reducible refine Kd.C_drew ?_))); (case side2 => exact HC458_0.out); rintro e w10 ⟨rfl, hb⟩; refine ⟨_, rfl, ?_⟩; have n0_ := Aside0.mk (Kd.V_below (by (with_reducible repeat (first | apply Kd.V_alloc | apply Kd.V_drewN | apply Kd.V_drew)); exact HO457.out) hb); have n1_ := Aside0.mk (Kd.V_below (by (with_reducible repeat (first | apply Kd.V_alloc | apply Kd.V_drewN | apply Kd.V_drew)); exact HL458_0.out) hb); have n2_ := Aside0.mk (Kd.C_below (by repeat (first | (with_reducible exact HR458_0.out) | (with_reducible refine Kd.C_alloc ?_ _) | (with_reducible refine Kd.C_drewN ?_ _) | (with_reducible refine Kd.C_drew ?_) | exact HR458_0.out)) hb); have n3_ := Aside0.mk (below_step (bl0_) hb); clear HO457; clear HL458_0; clear HR458_0; clear HB; have HO457 := n0_; have HL458_0 := n1_; have HR458_0 := n2_; have HB := n3_; clear n0_ n1_ n2_ n3_; (try clear hb); (try clear hb2); (try clear hk); (try clear hi)))
   go_ret2
   exact ⟨er_, bl0_⟩
  ·rw [if_neg c5] at H
   exact absurd H (by simp)
 ·rw [if_neg c3] at H
  have c3b0 : (t454 == 0) = false := beq_eq_false_iff_ne.mpr c3
  have c3b1 : (t454 != 0) = true := bne_iff_ne.mpr c3
  simp only [Option.some.injEq, Prod.mk.injEq] at H
  obtain ⟨rfl, rfl⟩ := H
  go_enter Try.func21, Try.ntmps21
  go_wp2_with (first | ((with_reducible refine gate_callee (f := 26) rfl ?_); refine goesL_ (some 6) rfl rfl Try.func26 kr_ rfl #[.slice A0 l0.length c0] rfl ta_ ?_; (with_reducible refine (spec_l03Code.calls k _ _ l0 t454 _ ?side1 ?side2 A2.out).mono ?_); (case side1 => exact ca_ HR0.out); (case side2 => exact HC0.out); rintro e w11 ⟨rfl, hb⟩; refine ⟨_, rfl, ?_⟩; have n0_ := Aside0.mk (below_step (bl0_) hb); clear HB; have HB := n0_; clear n0_; (try clear hb); (try clear hb2); (try clear hk); (try clear hi)))
  go_ret2
  exact ⟨er_, bl0_⟩

/-! ### laws_FnNames: function 4 -/
mutual
def laws_FnNames.j0 : Nat → List Int → List (S49) → List (S49) → ByteArray → Int → ByteArray → Int → Bool → Option (Bool)
 | 0, _, _, _, _, _, _, _, _ => none
 | k + 1, x0, x3, x4, x5, x6, x9, x10, x64 => if x64 = true then (some false) else (if x6 = 0 then (laws_FnNames.j1 k x0 x3 x4 x5 x9 (x10 != 0)) else (laws_FnNames.j1 k x0 x3 x4 x5 x9 true))
def laws_FnNames.j1 : Nat → List Int → List (S49) → List (S49) → ByteArray → ByteArray → Bool → Option (Bool)
 | 0, _, _, _, _, _, _ => none
 | k + 1, x0, x3, x4, x5, x9, x70 => if x70 = true then (some true) else ((impl_FreeForm.f k x3).bind fun bt475 => ((impl_FreeForm.f k x4).bind fun bt479 => ((laws_roll.f k x0 401).bind fun bt483 => ((laws_dice_below.f bt483.1 bt483.2.1 bt483.2.2 8).bind fun bt487 => ((impl_TurnShape.f k x3 bt487.1).bind fun bt490 => ((impl_NameOf.f k bt490.1).bind fun bt494 => (if bt475.2 = 0 then (if bt479.2 = 0 then (if bt490.2 = 0 then (if bt494.2 = 0 then ((laws_likeCells.f k bt475.1 bt479.1).bind fun t496 => (if ((x5.toList == x9.toList) == t496) = true then (some (bt494.1.toList == x5.toList)) else (some false))) else (some false)) else (some false)) else (some false)) else (some false))))))))
end
def laws_FnNames.f (k : Nat) (l0 : List Int) : Option (Bool) := (laws_big.f l0).bind fun t460 => (if t460 = true then (some true) else ((spec_DrawNameOf.f k l0).bind fun t461 => ((spec_DrawFreeForm.f k l0).bind fun t464 => ((impl_NameOf.f k t461).bind fun bt467 => ((spec_NameOf.f k t461).bind fun bt469 => ((impl_NameOf.f k t464).bind fun bt471 => ((spec_NameOf.f k t464).bind fun bt473 => (if bt467.2 = bt469.2 then (if bt467.1.toList = bt469.1.toList then (if bt471.2 = bt473.2 then (laws_FnNames.j0 k l0 t461 t464 bt467.1 bt467.2 bt471.1 bt471.2 (bt471.1.toList != bt473.1.toList)) else (laws_FnNames.j0 k l0 t461 t464 bt467.1 bt467.2 bt471.1 bt471.2 true)) else (laws_FnNames.j0 k l0 t461 t464 bt467.1 bt467.2 bt471.1 bt471.2 true)) else (laws_FnNames.j0 k l0 t461 t464 bt467.1 bt467.2 bt471.1 bt471.2 true)))))))))
theorem laws_FnNames.mono_l : ∀ k, (∀ y0 y1 y2 y3 y4 y5 y6 y7, LeO (laws_FnNames.j0 k y0 y1 y2 y3 y4 y5 y6 y7) (laws_FnNames.j0 (k + 1) y0 y1 y2 y3 y4 y5 y6 y7)) ∧ (∀ y0 y1 y2 y3 y4 y5, LeO (laws_FnNames.j1 k y0 y1 y2 y3 y4 y5) (laws_FnNames.j1 (k + 1) y0 y1 y2 y3 y4 y5))
 | 0 => ⟨fun _ _ _ _ _ _ _ _ r h => by simp [laws_FnNames.j0] at h, fun _ _ _ _ _ _ r h => by simp [laws_FnNames.j1] at h⟩
 | k + 1 => by
  obtain ⟨ih0, ih1⟩ := laws_FnNames.mono_l k
  refine ⟨?_, ?_⟩
  ·intro y0 y1 y2 y3 y4 y5 y6 y7
   unfold laws_FnNames.j0
   repeat' first
   | (with_reducible exact ih0 _ _ _ _ _ _ _ _)
   | (with_reducible exact ih1 _ _ _ _ _ _)
   | (with_reducible exact impl_FreeForm.mono _ _)
   | (with_reducible exact impl_NameOf.mono _ _)
   | (with_reducible exact impl_TurnShape.mono _ _ _)
   | (with_reducible exact laws_likeCells.mono _ _ _)
   | (with_reducible exact laws_roll.mono _ _ _)
   | (with_reducible exact spec_DrawFreeForm.mono _ _)
   | (with_reducible exact spec_DrawNameOf.mono _ _)
   | (with_reducible exact spec_NameOf.mono _ _)
   | (with_reducible exact LeO.refl _)
   | (with_reducible exact LeO.none _)
   | (with_reducible refine LeO.ite ?_ ?_)
   | (with_reducible refine LeO.bind ?_ (fun _ => ?_))
   | exact ih0 _ _ _ _ _ _ _ _
   | exact ih1 _ _ _ _ _ _
   | exact impl_FreeForm.mono _ _
   | exact impl_NameOf.mono _ _
   | exact impl_TurnShape.mono _ _ _
   | exact laws_likeCells.mono _ _ _
   | exact laws_roll.mono _ _ _
   | exact spec_DrawFreeForm.mono _ _
   | exact spec_DrawNameOf.mono _ _
   | exact spec_NameOf.mono _ _
   | exact LeO.none _
   | refine LeO.ite ?_ ?_
   | refine LeO.bind ?_ (fun _ => ?_)
  ·intro y0 y1 y2 y3 y4 y5
   unfold laws_FnNames.j1
   repeat' first
   | (with_reducible exact ih0 _ _ _ _ _ _ _ _)
   | (with_reducible exact ih1 _ _ _ _ _ _)
   | (with_reducible exact impl_FreeForm.mono _ _)
   | (with_reducible exact impl_NameOf.mono _ _)
   | (with_reducible exact impl_TurnShape.mono _ _ _)
   | (with_reducible exact laws_likeCells.mono _ _ _)
   | (with_reducible exact laws_roll.mono _ _ _)
   | (with_reducible exact spec_DrawFreeForm.mono _ _)
   | (with_reducible exact spec_DrawNameOf.mono _ _)
   | (with_reducible exact spec_NameOf.mono _ _)
   | (with_reducible exact LeO.refl _)
   | (with_reducible exact LeO.none _)
   | (with_reducible refine LeO.ite ?_ ?_)
   | (with_reducible refine LeO.bind ?_ (fun _ => ?_))
   | exact ih0 _ _ _ _ _ _ _ _
   | exact ih1 _ _ _ _ _ _
   | exact impl_FreeForm.mono _ _
   | exact impl_NameOf.mono _ _
   | exact impl_TurnShape.mono _ _ _
   | exact laws_likeCells.mono _ _ _
   | exact laws_roll.mono _ _ _
   | exact spec_DrawFreeForm.mono _ _
   | exact spec_DrawNameOf.mono _ _
   | exact spec_NameOf.mono _ _
   | exact LeO.none _
   | refine LeO.ite ?_ ?_
   | refine LeO.bind ?_ (fun _ => ?_)
theorem laws_FnNames.mono : ∀ a0 k, LeO (laws_FnNames.f k a0) (laws_FnNames.f (k + 1) a0) := by
 intro a0 k
 obtain ⟨ih0, ih1⟩ := laws_FnNames.mono_l k
 unfold laws_FnNames.f
 repeat' first
   | (with_reducible exact ih0 _ _ _ _ _ _ _ _)
   | (with_reducible exact ih1 _ _ _ _ _ _)
   | (with_reducible exact impl_FreeForm.mono _ _)
   | (with_reducible exact impl_NameOf.mono _ _)
   | (with_reducible exact impl_TurnShape.mono _ _ _)
   | (with_reducible exact laws_likeCells.mono _ _ _)
   | (with_reducible exact laws_roll.mono _ _ _)
   | (with_reducible exact spec_DrawFreeForm.mono _ _)
   | (with_reducible exact spec_DrawNameOf.mono _ _)
   | (with_reducible exact spec_NameOf.mono _ _)
   | (with_reducible exact LeO.refl _)
   | (with_reducible exact LeO.none _)
   | (with_reducible refine LeO.ite ?_ ?_)
   | (with_reducible refine LeO.bind ?_ (fun _ => ?_))
   | exact ih0 _ _ _ _ _ _ _ _
   | exact ih1 _ _ _ _ _ _
   | exact impl_FreeForm.mono _ _
   | exact impl_NameOf.mono _ _
   | exact impl_TurnShape.mono _ _ _
   | exact laws_likeCells.mono _ _ _
   | exact laws_roll.mono _ _ _
   | exact spec_DrawFreeForm.mono _ _
   | exact spec_DrawNameOf.mono _ _
   | exact spec_NameOf.mono _ _
   | exact LeO.none _
   | refine LeO.ite ?_ ?_
   | refine LeO.bind ?_ (fun _ => ?_)
set_option maxHeartbeats 8000000 in
set_option maxRecDepth 100000 in
theorem laws_FnNames.calls (k : Nat) (A0 : Option Addr) (c0 : Nat) (l0 : List Int) (r : Bool) (w : World) (hr0 : Kd.C (Kd.int .u8) w A0 l0.length l0) (hc0 : l0.length ≤ c0) (h : laws_FnNames.f k l0 = some r) :
  Calls Try.prog 4 #[.slice A0 l0.length c0] w fun e w' => e = .returned (.bool r) ∧ Below w.heap.size w w' := by
 have HR0 := Aside0.mk hr0
 have HC0 := Aside0.mk hc0
 clear hr0 hc0
 have HB := Aside0.mk (Below.refl w.heap.size w)
 have H : ((laws_big.f l0).bind fun t460 => (if t460 = true then (some true) else ((spec_DrawNameOf.f k l0).bind fun t461 => ((spec_DrawFreeForm.f k l0).bind fun t464 => ((impl_NameOf.f k t461).bind fun bt467 => ((spec_NameOf.f k t461).bind fun bt469 => ((impl_NameOf.f k t464).bind fun bt471 => ((spec_NameOf.f k t464).bind fun bt473 => (if bt467.2 = bt469.2 then (if bt467.1.toList = bt469.1.toList then (if bt471.2 = bt473.2 then (laws_FnNames.j0 k l0 t461 t464 bt467.1 bt467.2 bt471.1 bt471.2 (bt471.1.toList != bt473.1.toList)) else (laws_FnNames.j0 k l0 t461 t464 bt467.1 bt467.2 bt471.1 bt471.2 true)) else (laws_FnNames.j0 k l0 t461 t464 bt467.1 bt467.2 bt471.1 bt471.2 true)) else (laws_FnNames.j0 k l0 t461 t464 bt467.1 bt467.2 bt471.1 bt471.2 true)))))))))) = some r := h
 clear h
 replace H := Option.bind_eq_some_iff.mp H
 obtain ⟨t460, A20, H⟩ := H
 replace H : (if t460 = true then (some true) else ((spec_DrawNameOf.f k l0).bind fun t461 => ((spec_DrawFreeForm.f k l0).bind fun t464 => ((impl_NameOf.f k t461).bind fun bt467 => ((spec_NameOf.f k t461).bind fun bt469 => ((impl_NameOf.f k t464).bind fun bt471 => ((spec_NameOf.f k t464).bind fun bt473 => (if bt467.2 = bt469.2 then (if bt467.1.toList = bt469.1.toList then (if bt471.2 = bt473.2 then (laws_FnNames.j0 k l0 t461 t464 bt467.1 bt467.2 bt471.1 bt471.2 (bt471.1.toList != bt473.1.toList)) else (laws_FnNames.j0 k l0 t461 t464 bt467.1 bt467.2 bt471.1 bt471.2 true)) else (laws_FnNames.j0 k l0 t461 t464 bt467.1 bt467.2 bt471.1 bt471.2 true)) else (laws_FnNames.j0 k l0 t461 t464 bt467.1 bt467.2 bt471.1 bt471.2 true))))))))) = some r := H
 have A2 := Aside0.mk A20
 clear A20
 by_cases c3 : t460 = true
 ·subst c3
  have H1 : (some true) = some r := by rw [if_pos rfl] at H; exact H
  clear H
  have H := H1
  clear H1
  obtain rfl := Option.some.inj H
  go_enter Try.func4, Try.ntmps4
  go_wp2_with (first | ((with_reducible refine gate_callee (f := 5) rfl ?_); refine goesL_ (some 22) rfl rfl Try.func5 kr_ rfl #[.slice A0 l0.length c0] rfl ta_ ?_; (with_reducible refine (laws_big.calls _ _ l0 true _ ?side1 ?side2 A2.out).mono ?_); (case side1 => exact ca_ HR0.out); (case side2 => exact HC0.out); rintro e w' ⟨rfl, ⟨nd, rfl⟩⟩; refine ⟨_, rfl, ?_⟩))
  go_ret
  exact ⟨er_, bl0_⟩
 ·replace c3 := Bool.eq_false_iff.mpr c3
  subst c3
  have H1 : ((spec_DrawNameOf.f k l0).bind fun t461 => ((spec_DrawFreeForm.f k l0).bind fun t464 => ((impl_NameOf.f k t461).bind fun bt467 => ((spec_NameOf.f k t461).bind fun bt469 => ((impl_NameOf.f k t464).bind fun bt471 => ((spec_NameOf.f k t464).bind fun bt473 => (if bt467.2 = bt469.2 then (if bt467.1.toList = bt469.1.toList then (if bt471.2 = bt473.2 then (laws_FnNames.j0 k l0 t461 t464 bt467.1 bt467.2 bt471.1 bt471.2 (bt471.1.toList != bt473.1.toList)) else (laws_FnNames.j0 k l0 t461 t464 bt467.1 bt467.2 bt471.1 bt471.2 true)) else (laws_FnNames.j0 k l0 t461 t464 bt467.1 bt467.2 bt471.1 bt471.2 true)) else (laws_FnNames.j0 k l0 t461 t464 bt467.1 bt467.2 bt471.1 bt471.2 true)))))))) = some r := by rw [if_neg (show ¬ (false = true) by decide)] at H; exact H
  clear H
  have H := H1
  clear H1
  replace H := Option.bind_eq_some_iff.mp H
  obtain ⟨t461, A40, H⟩ := H
  replace H : ((spec_DrawFreeForm.f k l0).bind fun t464 => ((impl_NameOf.f k t461).bind fun bt467 => ((spec_NameOf.f k t461).bind fun bt469 => ((impl_NameOf.f k t464).bind fun bt471 => ((spec_NameOf.f k t464).bind fun bt473 => (if bt467.2 = bt469.2 then (if bt467.1.toList = bt469.1.toList then (if bt471.2 = bt473.2 then (laws_FnNames.j0 k l0 t461 t464 bt467.1 bt467.2 bt471.1 bt471.2 (bt471.1.toList != bt473.1.toList)) else (laws_FnNames.j0 k l0 t461 t464 bt467.1 bt467.2 bt471.1 bt471.2 true)) else (laws_FnNames.j0 k l0 t461 t464 bt467.1 bt467.2 bt471.1 bt471.2 true)) else (laws_FnNames.j0 k l0 t461 t464 bt467.1 bt467.2 bt471.1 bt471.2 true))))))) = some r := H
  have A4 := Aside0.mk A40
  clear A40
  replace H := Option.bind_eq_some_iff.mp H
  obtain ⟨t464, A50, H⟩ := H
  replace H : ((impl_NameOf.f k t461).bind fun bt467 => ((spec_NameOf.f k t461).bind fun bt469 => ((impl_NameOf.f k t464).bind fun bt471 => ((spec_NameOf.f k t464).bind fun bt473 => (if bt467.2 = bt469.2 then (if bt467.1.toList = bt469.1.toList then (if bt471.2 = bt473.2 then (laws_FnNames.j0 k l0 t461 t464 bt467.1 bt467.2 bt471.1 bt471.2 (bt471.1.toList != bt473.1.toList)) else (laws_FnNames.j0 k l0 t461 t464 bt467.1 bt467.2 bt471.1 bt471.2 true)) else (laws_FnNames.j0 k l0 t461 t464 bt467.1 bt467.2 bt471.1 bt471.2 true)) else (laws_FnNames.j0 k l0 t461 t464 bt467.1 bt467.2 bt471.1 bt471.2 true)))))) = some r := H
  have A5 := Aside0.mk A50
  clear A50
  replace H := Option.bind_eq_some_iff.mp H
  obtain ⟨⟨t467, t468⟩, A60, H⟩ := H
  replace H : ((spec_NameOf.f k t461).bind fun bt469 => ((impl_NameOf.f k t464).bind fun bt471 => ((spec_NameOf.f k t464).bind fun bt473 => (if t468 = bt469.2 then (if t467.toList = bt469.1.toList then (if bt471.2 = bt473.2 then (laws_FnNames.j0 k l0 t461 t464 t467 t468 bt471.1 bt471.2 (bt471.1.toList != bt473.1.toList)) else (laws_FnNames.j0 k l0 t461 t464 t467 t468 bt471.1 bt471.2 true)) else (laws_FnNames.j0 k l0 t461 t464 t467 t468 bt471.1 bt471.2 true)) else (laws_FnNames.j0 k l0 t461 t464 t467 t468 bt471.1 bt471.2 true))))) = some r := H
  have A6 := Aside0.mk A60
  clear A60
  replace H := Option.bind_eq_some_iff.mp H
  obtain ⟨⟨t469, t470⟩, A70, H⟩ := H
  replace H : ((impl_NameOf.f k t464).bind fun bt471 => ((spec_NameOf.f k t464).bind fun bt473 => (if t468 = t470 then (if t467.toList = t469.toList then (if bt471.2 = bt473.2 then (laws_FnNames.j0 k l0 t461 t464 t467 t468 bt471.1 bt471.2 (bt471.1.toList != bt473.1.toList)) else (laws_FnNames.j0 k l0 t461 t464 t467 t468 bt471.1 bt471.2 true)) else (laws_FnNames.j0 k l0 t461 t464 t467 t468 bt471.1 bt471.2 true)) else (laws_FnNames.j0 k l0 t461 t464 t467 t468 bt471.1 bt471.2 true)))) = some r := H
  have A7 := Aside0.mk A70
  clear A70
  replace H := Option.bind_eq_some_iff.mp H
  obtain ⟨⟨t471, t472⟩, A80, H⟩ := H
  replace H : ((spec_NameOf.f k t464).bind fun bt473 => (if t468 = t470 then (if t467.toList = t469.toList then (if t472 = bt473.2 then (laws_FnNames.j0 k l0 t461 t464 t467 t468 t471 t472 (t471.toList != bt473.1.toList)) else (laws_FnNames.j0 k l0 t461 t464 t467 t468 t471 t472 true)) else (laws_FnNames.j0 k l0 t461 t464 t467 t468 t471 t472 true)) else (laws_FnNames.j0 k l0 t461 t464 t467 t468 t471 t472 true))) = some r := H
  have A8 := Aside0.mk A80
  clear A80
  replace H := Option.bind_eq_some_iff.mp H
  obtain ⟨⟨t473, t474⟩, A90, H⟩ := H
  replace H : (if t468 = t470 then (if t467.toList = t469.toList then (if t472 = t474 then (laws_FnNames.j0 k l0 t461 t464 t467 t468 t471 t472 (t471.toList != t473.toList)) else (laws_FnNames.j0 k l0 t461 t464 t467 t468 t471 t472 true)) else (laws_FnNames.j0 k l0 t461 t464 t467 t468 t471 t472 true)) else (laws_FnNames.j0 k l0 t461 t464 t467 t468 t471 t472 true)) = some r := H
  have A9 := Aside0.mk A90
  clear A90
  have HC10 := Aside0.mk H
  clear H
  go_enter Try.func4, Try.ntmps4
  go_upto_region 9 with (first | ((with_reducible refine gate_callee (f := 5) rfl ?_); refine goesL_ (some 22) rfl rfl Try.func5 kr_ rfl #[.slice A0 l0.length c0] rfl ta_ ?_; (with_reducible refine (laws_big.calls _ _ l0 false _ ?side1 ?side2 A2.out).mono ?_); (case side1 => exact ca_ HR0.out); (case side2 => exact HC0.out); rintro e w' ⟨rfl, ⟨nd, rfl⟩⟩; refine ⟨_, rfl, ?_⟩) | ((with_reducible refine gate_callee (f := 18) rfl ?_); refine goesL_ (some 24) rfl rfl Try.func18 kr_ rfl #[.slice A0 l0.length c0] rfl ta_ ?_; (with_reducible refine (spec_DrawNameOf.calls k _ _ l0 t461 _ ?side1 ?side2 A4.out).mono ?_); (case side1 => exact ca_ HR0.out); (case side2 => exact HC0.out); rintro e w11 ⟨v462, rfl, ho0, hb⟩; refine ⟨_, rfl, ?_⟩; have n0_ := Aside0.mk (Kd.R_lower ho0 (below_size (bl0_))); have n1_ := Aside0.mk (below_step (bl0_) hb); clear HB; have HO463 := n0_; have HB := n1_; clear n0_ n1_; (try clear hb); (try clear hb2); (try clear hk); (try clear hi); (try clear ho0)) | ((with_reducible refine gate_callee (f := 19) rfl ?_); refine goesL_ (some 26) rfl rfl Try.func19 kr_ rfl #[.slice A0 l0.length c0] rfl ta_ ?_; (with_reducible refine (spec_DrawFreeForm.calls k _ _ l0 t464 _ ?side1 ?side2 A5.out).mono ?_); (case side1 => exact ca_ (Kd.C_below HR0.out HB.out)); (case side2 => exact HC0.out); rintro e w12 ⟨v465, rfl, ho0, hb⟩; refine ⟨_, rfl, ?_⟩; have n0_ := Aside0.mk (Kd.R_elder' (ra_ HO463.out) (Kd.R_base ho0) hb); have n1_ := Aside0.mk (Kd.R_lower (Kd.R_new' ho0 (Kd.R_lt (ra_ HO463.out))) (below_size (bl0_))); have n2_ := Aside0.mk (below_step (bl0_) hb); clear HO463; clear HB; have HO463 := n0_; have HO466 := n1_; have HB := n2_; clear n0_ n1_ n2_; (try clear hb); (try clear hb2); (try clear hk); (try clear hi); (try clear ho0); obtain ⟨Ao13, co13, eo13⟩ := Kd.R_slice HO463.out; subst eo13) | ((with_reducible refine gate_callee (f := 20) rfl ?_); refine goesL_ (some 29) rfl rfl Try.func20 kr_ rfl #[.slice Ao13 t461.length co13] rfl ta_ ?_; (with_reducible refine (impl_NameOf.calls k _ _ t461 t467 t468 _ ?side1 ?side2 A6.out).mono ?_); (case side1 => exact ca_ (Kd.R_reads' HO463.out).2.2); (case side2 => exact (Kd.R_reads' HO463.out).2.1); rintro e w14 ⟨rfl, hb⟩; refine ⟨_, rfl, ?_⟩; have n0_ := Aside0.mk (Kd.R_below (ra_ HO463.out) hb); have n1_ := Aside0.mk (Kd.R_below (ra_ HO466.out) hb); have n2_ := Aside0.mk (below_step (bl0_) hb); clear HO463; clear HO466; clear HB; have HO463 := n0_; have HO466 := n1_; have HB := n2_; clear n0_ n1_ n2_; (try clear hb); (try clear hb2); (try clear hk); (try clear hi)) | ((with_reducible refine gate_callee (f := 21) rfl ?_); refine goesL_ (some 34) rfl rfl Try.func21 kr_ rfl #[.slice Ao13 t461.length co13] rfl ta_ ?_; (with_reducible refine (spec_NameOf.calls k _ _ t461 t469 t470 _ ?side1 ?side2 A7.out).mono ?_); (case side1 => exact ca_ (Kd.R_reads' HO463.out).2.2); (case side2 => exact (Kd.R_reads' HO463.out).2.1); rintro e w15 ⟨rfl, hb⟩; refine ⟨_, rfl, ?_⟩; have n0_ := Aside0.mk (Kd.R_below (ra_ HO463.out) hb); have n1_ := Aside0.mk (Kd.R_below (ra_ HO466.out) hb); have n2_ := Aside0.mk (below_step (bl0_) hb); clear HO463; clear HO466; clear HB; have HO463 := n0_; have HO466 := n1_; have HB := n2_; clear n0_ n1_ n2_; (try clear hb); (try clear hb2); (try clear hk); (try clear hi); obtain ⟨Ao16, co16, eo16⟩ := Kd.R_slice HO466.out; subst eo16) | ((with_reducible refine gate_callee (f := 20) rfl ?_); refine goesL_ (some 39) rfl rfl Try.func20 kr_ rfl #[.slice Ao16 t464.length co16] rfl ta_ ?_; (with_reducible refine (impl_NameOf.calls k _ _ t464 t471 t472 _ ?side1 ?side2 A8.out).mono ?_); (case side1 => exact ca_ (Kd.R_reads' HO466.out).2.2); (case side2 => exact (Kd.R_reads' HO466.out).2.1); rintro e w17 ⟨rfl, hb⟩; refine ⟨_, rfl, ?_⟩; have n0_ := Aside0.mk (Kd.R_below (ra_ HO463.out) hb); have n1_ := Aside0.mk (Kd.R_below (ra_ HO466.out) hb); have n2_ := Aside0.mk (below_step (bl0_) hb); clear HO463; clear HO466; clear HB; have HO463 := n0_; have HO466 := n1_; have HB := n2_; clear n0_ n1_ n2_; (try clear hb); (try clear hb2); (try clear hk); (try clear hi)) | ((with_reducible refine gate_callee (f := 21) rfl ?_); refine goesL_ (some 44) rfl rfl Try.func21 kr_ rfl #[.slice Ao16 t464.length co16] rfl ta_ ?_; (with_reducible refine (spec_NameOf.calls k _ _ t464 t473 t474 _ ?side1 ?side2 A9.out).mono ?_); (case side1 => exact ca_ (Kd.R_reads' HO466.out).2.2); (case side2 => exact (Kd.R_reads' HO466.out).2.1); rintro e w18 ⟨rfl, hb⟩; refine ⟨_, rfl, ?_⟩; have n0_ := Aside0.mk (Kd.R_below (ra_ HO463.out) hb); have n1_ := Aside0.mk (Kd.R_below (ra_ HO466.out) hb); have n2_ := Aside0.mk (below_step (bl0_) hb); clear HO463; clear HO466; clear HB; have HO463 := n0_; have HO466 := n1_; have HB := n2_; clear n0_ n1_ n2_; (try clear hb); (try clear hb2); (try clear hk); (try clear hi)))
  (try simp only [Act.put, List.setIfInBounds_toArray, List.set_cons_zero, List.set_cons_succ])
  go_cut [64] (fun v64 wc => ∃ (kq : Nat) (x64_9 : Bool), v64 = .bool x64_9 ∧ Aside0 (laws_FnNames.j0 kq l0 t461 t464 t467 t468 t471 t472 x64_9 = some r) ∧ Aside0 (kq ≤ k) ∧ Aside0 (Kd.R k49 49 wc w.heap.size (fun k_ => some k_ ≠ ((.slice Ao16 t464.length co16) : Value).ownBlock) (.slice Ao13 t461.length co13) t461) ∧ Aside0 (Kd.R k49 49 wc w.heap.size (fun k_ => some k_ ≠ ((.slice Ao13 t461.length co13) : Value).ownBlock) (.slice Ao16 t464.length co16) t464) ∧ Aside0 (Below w.heap.size w wc))
  case first =>
   have H := HC10.out
   clear HC10
   by_cases c19 : t468 = t470
   ·rw [if_pos c19] at H
    have c19b0 : (t468 == t470) = true := beq_iff_eq.mpr c19
    have c19b1 : (t468 != t470) = false := bne_eq_false_iff_eq.mpr c19
    clear c19
    (first | rw [c19b0] | (simp only [i64_w, i32_w]; rw [c19b0]) | skip)
    by_cases c20 : t467.toList = t469.toList
    ·rw [if_pos c20] at H
     have c20b0 : (t467.toList == t469.toList) = true := beq_iff_eq.mpr c20
     have c20b1 : (t467.toList != t469.toList) = false := bne_eq_false_iff_eq.mpr c20
     clear c20
     by_cases c21 : t472 = t474
     ·rw [if_pos c21] at H
      have c21b0 : (t472 == t474) = true := beq_iff_eq.mpr c21
      have c21b1 : (t472 != t474) = false := bne_eq_false_iff_eq.mpr c21
      clear c21
      have H' := Aside0.mk H
      clear H
      go_wp2
      go_meet
      case rel => exact ⟨_, ((t471.toList != t473.toList)), rs_, H', ⟨by first | omega | exact Nat.le_refl _⟩, ⟨by (with_reducible repeat (first | apply Kd.R_alloc | apply Kd.R_drewN | apply Kd.R_drew)); exact Kd.R_mono HO463.out (fun _ hk => hk.2)⟩, ⟨by (with_reducible repeat (first | apply Kd.R_alloc | apply Kd.R_drewN | apply Kd.R_drew)); exact Kd.R_mono HO466.out (fun _ hk => hk.2)⟩, ⟨bl0_⟩⟩
     ·rw [if_neg c21] at H
      have c21b0 : (t472 == t474) = false := beq_eq_false_iff_ne.mpr c21
      have c21b1 : (t472 != t474) = true := bne_iff_ne.mpr c21
      have H' := Aside0.mk H
      clear H
      go_wp2
      go_meet
      case rel => exact ⟨_, (true), rs_, H', ⟨by first | omega | exact Nat.le_refl _⟩, ⟨by (with_reducible repeat (first | apply Kd.R_alloc | apply Kd.R_drewN | apply Kd.R_drew)); exact Kd.R_mono HO463.out (fun _ hk => hk.2)⟩, ⟨by (with_reducible repeat (first | apply Kd.R_alloc | apply Kd.R_drewN | apply Kd.R_drew)); exact Kd.R_mono HO466.out (fun _ hk => hk.2)⟩, ⟨bl0_⟩⟩
    ·rw [if_neg c20] at H
     have c20b0 : (t467.toList == t469.toList) = false := beq_eq_false_iff_ne.mpr c20
     have c20b1 : (t467.toList != t469.toList) = true := bne_iff_ne.mpr c20
     have H' := Aside0.mk H
     clear H
     go_wp2
     go_meet
     case rel => exact ⟨_, (true), rs_, H', ⟨by first | omega | exact Nat.le_refl _⟩, ⟨by (with_reducible repeat (first | apply Kd.R_alloc | apply Kd.R_drewN | apply Kd.R_drew)); exact Kd.R_mono HO463.out (fun _ hk => hk.2)⟩, ⟨by (with_reducible repeat (first | apply Kd.R_alloc | apply Kd.R_drewN | apply Kd.R_drew)); exact Kd.R_mono HO466.out (fun _ hk => hk.2)⟩, ⟨bl0_⟩⟩
   ·rw [if_neg c19] at H
    have c19b0 : (t468 == t470) = false := beq_eq_false_iff_ne.mpr c19
    have c19b1 : (t468 != t470) = true := bne_iff_ne.mpr c19
    (first | rw [c19b0] | (simp only [i64_w, i32_w]; rw [c19b0]) | skip)
    have H' := Aside0.mk H
    clear H
    go_wp2
    go_meet
    case rel => exact ⟨_, (true), rs_, H', ⟨by first | omega | exact Nat.le_refl _⟩, ⟨by (with_reducible repeat (first | apply Kd.R_alloc | apply Kd.R_drewN | apply Kd.R_drew)); exact Kd.R_mono HO463.out (fun _ hk => hk.2)⟩, ⟨by (with_reducible repeat (first | apply Kd.R_alloc | apply Kd.R_drewN | apply Kd.R_drew)); exact Kd.R_mono HO466.out (fun _ hk => hk.2)⟩, ⟨bl0_⟩⟩
  case rest =>
   clear HC10
   try clear c1
   try clear c2
   try clear p2
   try clear c3
   try clear c4
   try clear c5
   try clear c18
   try clear c19
   try clear c19b0
   try clear c19b1
   try clear c20
   try clear c20b0
   try clear c20b1
   try clear c21
   try clear c21b0
   try clear c21b1
   obtain ⟨kq, x64_9, rfl, HA, HJ9, HO_3, HO_4, HB⟩ := hcut
   cases kq with
   | zero => exact absurd HA.out (by simp [laws_FnNames.j0])
   | succ kj9 =>
    have H := HA.out
    clear HA
    simp only [laws_FnNames.j0] at H
    by_cases c22 : x64_9 = true
    ·subst c22
     have H1 : (some false) = some r := by rw [if_pos rfl] at H; exact H
     clear H
     have H := H1
     clear H1
     obtain rfl := Option.some.inj H
     go_wp2
     go_ret
     exact ⟨er_, bl0_⟩
    ·replace c22 := Bool.eq_false_iff.mpr c22
     subst c22
     have H1 : (if t468 = 0 then (laws_FnNames.j1 kj9 l0 t461 t464 t467 t471 (t472 != 0)) else (laws_FnNames.j1 kj9 l0 t461 t464 t467 t471 true)) = some r := by rw [if_neg (show ¬ (false = true) by decide)] at H; exact H
     clear H
     have H := H1
     clear H1
     have HC23 := Aside0.mk H
     clear H
     go_upto_region 11 with (fail)
     go_cut [70] (fun v70 wc => ∃ (kq : Nat) (x70_22 : Bool), v70 = .bool x70_22 ∧ Aside0 (laws_FnNames.j1 kq l0 t461 t464 t467 t471 x70_22 = some r) ∧ Aside0 (kq ≤ kj9) ∧ Aside0 (Kd.R k49 49 wc w.heap.size (fun k_ => some k_ ≠ ((.slice Ao16 t464.length co16) : Value).ownBlock) (.slice Ao13 t461.length co13) t461) ∧ Aside0 (Kd.R k49 49 wc w.heap.size (fun k_ => some k_ ≠ ((.slice Ao13 t461.length co13) : Value).ownBlock) (.slice Ao16 t464.length co16) t464) ∧ Aside0 (Below w.heap.size w wc))
     case first =>
      have H := HC23.out
      clear HC23
      by_cases c24 : t468 = 0
      ·rw [if_pos c24] at H
       have c24b0 : (t468 == 0) = true := beq_iff_eq.mpr c24
       have c24b1 : (t468 != 0) = false := bne_eq_false_iff_eq.mpr c24
       clear c24
       (first | rw [c24b0] | (simp only [i64_w, i32_w]; rw [c24b0]) | skip)
       have H' := Aside0.mk H
       clear H
       go_wp2
       go_meet
       case rel => exact ⟨_, ((t472 != 0)), rs_, H', ⟨by have := HJ9.out; first | omega | exact Nat.le_refl _⟩, ⟨ra_ HO_3.out⟩, ⟨ra_ HO_4.out⟩, ⟨bl0_⟩⟩
      ·rw [if_neg c24] at H
       have c24b0 : (t468 == 0) = false := beq_eq_false_iff_ne.mpr c24
       have c24b1 : (t468 != 0) = true := bne_iff_ne.mpr c24
       (first | rw [c24b0] | (simp only [i64_w, i32_w]; rw [c24b0]) | skip)
       have H' := Aside0.mk H
       clear H
       go_wp2
       go_meet
       case rel => exact ⟨_, (true), rs_, H', ⟨by have := HJ9.out; first | omega | exact Nat.le_refl _⟩, ⟨ra_ HO_3.out⟩, ⟨ra_ HO_4.out⟩, ⟨bl0_⟩⟩
     case rest =>
      clear HC23
      try clear c1
      try clear c2
      try clear p2
      try clear c3
      try clear c4
      try clear c5
      try clear c18
      try clear c19
      try clear c19b0
      try clear c19b1
      try clear c20
      try clear c20b0
      try clear c20b1
      try clear c21
      try clear c21b0
      try clear c21b1
      try clear c22
      try clear c24
      try clear c24b0
      try clear c24b1
      try clear p2
      obtain ⟨kq, x70_22, rfl, HA, HJ22, HO_3, HO_4, HB⟩ := hcut
      cases kq with
      | zero => exact absurd HA.out (by simp [laws_FnNames.j1])
      | succ kj22 =>
       have H := HA.out
       clear HA
       simp only [laws_FnNames.j1] at H
       by_cases c25 : x70_22 = true
       ·subst c25
        have H1 : (some true) = some r := by rw [if_pos rfl] at H; exact H
        clear H
        have H := H1
        clear H1
        obtain rfl := Option.some.inj H
        go_wp2
        go_ret
        exact ⟨er_, bl0_⟩
       ·replace c25 := Bool.eq_false_iff.mpr c25
        subst c25
        have H1 : ((impl_FreeForm.f kj22 t461).bind fun bt475 => ((impl_FreeForm.f kj22 t464).bind fun bt479 => ((laws_roll.f kj22 l0 401).bind fun bt483 => ((laws_dice_below.f bt483.1 bt483.2.1 bt483.2.2 8).bind fun bt487 => ((impl_TurnShape.f kj22 t461 bt487.1).bind fun bt490 => ((impl_NameOf.f kj22 bt490.1).bind fun bt494 => (if bt475.2 = 0 then (if bt479.2 = 0 then (if bt490.2 = 0 then (if bt494.2 = 0 then ((laws_likeCells.f kj22 bt475.1 bt479.1).bind fun t496 => (if ((t467.toList == t471.toList) == t496) = true then (some (bt494.1.toList == t467.toList)) else (some false))) else (some false)) else (some false)) else (some false)) else (some false)))))))) = some r := by rw [if_neg (show ¬ (false = true) by decide)] at H; exact H
        clear H
        have H := H1
        clear H1
        replace H := Option.bind_eq_some_iff.mp H
        obtain ⟨⟨t475, t476⟩, A260, H⟩ := H
        replace H : ((impl_FreeForm.f kj22 t464).bind fun bt479 => ((laws_roll.f kj22 l0 401).bind fun bt483 => ((laws_dice_below.f bt483.1 bt483.2.1 bt483.2.2 8).bind fun bt487 => ((impl_TurnShape.f kj22 t461 bt487.1).bind fun bt490 => ((impl_NameOf.f kj22 bt490.1).bind fun bt494 => (if t476 = 0 then (if bt479.2 = 0 then (if bt490.2 = 0 then (if bt494.2 = 0 then ((laws_likeCells.f kj22 t475 bt479.1).bind fun t496 => (if ((t467.toList == t471.toList) == t496) = true then (some (bt494.1.toList == t467.toList)) else (some false))) else (some false)) else (some false)) else (some false)) else (some false))))))) = some r := H
        have A26 := Aside0.mk A260
        clear A260
        replace H := Option.bind_eq_some_iff.mp H
        obtain ⟨⟨t479, t480⟩, A270, H⟩ := H
        replace H : ((laws_roll.f kj22 l0 401).bind fun bt483 => ((laws_dice_below.f bt483.1 bt483.2.1 bt483.2.2 8).bind fun bt487 => ((impl_TurnShape.f kj22 t461 bt487.1).bind fun bt490 => ((impl_NameOf.f kj22 bt490.1).bind fun bt494 => (if t476 = 0 then (if t480 = 0 then (if bt490.2 = 0 then (if bt494.2 = 0 then ((laws_likeCells.f kj22 t475 t479).bind fun t496 => (if ((t467.toList == t471.toList) == t496) = true then (some (bt494.1.toList == t467.toList)) else (some false))) else (some false)) else (some false)) else (some false)) else (some false)))))) = some r := H
        have A27 := Aside0.mk A270
        clear A270
        replace H := Option.bind_eq_some_iff.mp H
        obtain ⟨⟨t483, t484, t485⟩, A280, H⟩ := H
        replace H : ((laws_dice_below.f t483 t484 t485 8).bind fun bt487 => ((impl_TurnShape.f kj22 t461 bt487.1).bind fun bt490 => ((impl_NameOf.f kj22 bt490.1).bind fun bt494 => (if t476 = 0 then (if t480 = 0 then (if bt490.2 = 0 then (if bt494.2 = 0 then ((laws_likeCells.f kj22 t475 t479).bind fun t496 => (if ((t467.toList == t471.toList) == t496) = true then (some (bt494.1.toList == t467.toList)) else (some false))) else (some false)) else (some false)) else (some false)) else (some false))))) = some r := H
        have A28 := Aside0.mk A280
        clear A280
        replace H := Option.bind_eq_some_iff.mp H
        obtain ⟨⟨t487, t488, t489⟩, A290, H⟩ := H
        replace H : ((impl_TurnShape.f kj22 t461 t487).bind fun bt490 => ((impl_NameOf.f kj22 bt490.1).bind fun bt494 => (if t476 = 0 then (if t480 = 0 then (if bt490.2 = 0 then (if bt494.2 = 0 then ((laws_likeCells.f kj22 t475 t479).bind fun t496 => (if ((t467.toList == t471.toList) == t496) = true then (some (bt494.1.toList == t467.toList)) else (some false))) else (some false)) else (some false)) else (some false)) else (some false)))) = some r := H
        have A29 := Aside0.mk A290
        clear A290
        replace H := Option.bind_eq_some_iff.mp H
        obtain ⟨⟨t490, t491⟩, A300, H⟩ := H
        replace H : ((impl_NameOf.f kj22 t490).bind fun bt494 => (if t476 = 0 then (if t480 = 0 then (if t491 = 0 then (if bt494.2 = 0 then ((laws_likeCells.f kj22 t475 t479).bind fun t496 => (if ((t467.toList == t471.toList) == t496) = true then (some (bt494.1.toList == t467.toList)) else (some false))) else (some false)) else (some false)) else (some false)) else (some false))) = some r := H
        have A30 := Aside0.mk A300
        clear A300
        replace H := Option.bind_eq_some_iff.mp H
        obtain ⟨⟨t494, t495⟩, A310, H⟩ := H
        replace H : (if t476 = 0 then (if t480 = 0 then (if t491 = 0 then (if t495 = 0 then ((laws_likeCells.f kj22 t475 t479).bind fun t496 => (if ((t467.toList == t471.toList) == t496) = true then (some (t494.toList == t467.toList)) else (some false))) else (some false)) else (some false)) else (some false)) else (some false)) = some r := H
        have A31 := Aside0.mk A310
        clear A310
        by_cases c32 : t476 = 0
        ·rw [if_pos c32] at H
         have c32b0 : (t476 == 0) = true := beq_iff_eq.mpr c32
         have c32b1 : (t476 != 0) = false := bne_eq_false_iff_eq.mpr c32
         clear c32
         by_cases c33 : t480 = 0
         ·rw [if_pos c33] at H
          have c33b0 : (t480 == 0) = true := beq_iff_eq.mpr c33
          have c33b1 : (t480 != 0) = false := bne_eq_false_iff_eq.mpr c33
          clear c33
          by_cases c34 : t491 = 0
          ·rw [if_pos c34] at H
           have c34b0 : (t491 == 0) = true := beq_iff_eq.mpr c34
           have c34b1 : (t491 != 0) = false := bne_eq_false_iff_eq.mpr c34
           clear c34
           by_cases c35 : t495 = 0
           ·rw [if_pos c35] at H
            have c35b0 : (t495 == 0) = true := beq_iff_eq.mpr c35
            have c35b1 : (t495 != 0) = false := bne_eq_false_iff_eq.mpr c35
            clear c35
            replace H := Option.bind_eq_some_iff.mp H
            obtain ⟨t496, A360, H⟩ := H
            replace H : (if ((t467.toList == t471.toList) == t496) = true then (some (t494.toList == t467.toList)) else (some false)) = some r := H
            have A36 := Aside0.mk A360
            clear A360
            by_cases c37 : ((t467.toList == t471.toList) == t496) = true
            ·rw [if_pos c37] at H
             have c37b0 : ((t467.toList == t471.toList) == t496) = true := c37
             (try (have c37b1 : decide ((t467.toList == t471.toList) = t496) = true := by simpa using c37))
             (try (have c37b2 : ((t467.toList == t471.toList) == t496) = true := by simpa using c37))
             clear c37
             obtain rfl := Option.some.inj H
             go_wp2_with (first | ((with_reducible refine gate_callee (f := 9) rfl ?_); refine goesL_ (some 73) rfl rfl Try.func9 kr_ rfl #[.slice Ao13 t461.length co13] rfl ta_ ?_; (with_reducible refine (impl_FreeForm.calls kj22 _ _ t461 t475 t476 _ ?side1 ?side2 A26.out).mono ?_); (case side1 => exact ca_ (Kd.R_reads' HO_3.out).2.2); (case side2 => exact (Kd.R_reads' HO_3.out).2.1); rintro e w38 ⟨v477, rfl, ho0, hb⟩; refine ⟨_, rfl, ?_⟩; have n0_ := Aside0.mk (Kd.R_elder' (ra_ HO_3.out) (Kd.R_base ho0) hb); have n1_ := Aside0.mk (Kd.R_elder' (ra_ HO_4.out) (Kd.R_base ho0) hb); have n2_ := Aside0.mk (Kd.R_lower (Kd.R_new' (Kd.R_new' ho0 (Kd.R_lt (ra_ HO_3.out))) (Kd.R_lt (ra_ HO_4.out))) (below_size (bl0_))); have n3_ := Aside0.mk (below_step (bl0_) hb); clear HO_3; clear HO_4; clear HB; have HO_3 := n0_; have HO_4 := n1_; have HO478 := n2_; have HB := n3_; clear n0_ n1_ n2_ n3_; (try clear hb); (try clear hb2); (try clear hk); (try clear hi); (try clear ho0)) | ((with_reducible refine gate_callee (f := 9) rfl ?_); refine goesL_ (some 78) rfl rfl Try.func9 kr_ rfl #[.slice Ao16 t464.length co16] rfl ta_ ?_; (with_reducible refine (impl_FreeForm.calls kj22 _ _ t464 t479 t480 _ ?side1 ?side2 A27.out).mono ?_); (case side1 => exact ca_ (Kd.R_reads' HO_4.out).2.2); (case side2 => exact (Kd.R_reads' HO_4.out).2.1); rintro e w39 ⟨v481, rfl, ho0, hb⟩; refine ⟨_, rfl, ?_⟩; have n0_ := Aside0.mk (Kd.R_elder' (ra_ HO_3.out) (Kd.R_base ho0) hb); have n1_ := Aside0.mk (Kd.R_elder' (ra_ HO_4.out) (Kd.R_base ho0) hb); have n2_ := Aside0.mk (Kd.R_elder' (ra_ HO478.out) (Kd.R_base ho0) hb); have n3_ := Aside0.mk (Kd.R_lower (Kd.R_new' (Kd.R_new' (Kd.R_new' ho0 (Kd.R_lt (ra_ HO_3.out))) (Kd.R_lt (ra_ HO_4.out))) (Kd.R_lt (ra_ HO478.out))) (below_size (bl0_))); have n4_ := Aside0.mk (below_step (bl0_) hb); clear HO_3; clear HO_4; clear HO478; clear HB; have HO_3 := n0_; have HO_4 := n1_; have HO478 := n2_; have HO482 := n3_; have HB := n4_; clear n0_ n1_ n2_ n3_ n4_; (try clear hb); (try clear hb2); (try clear hk); (try clear hi); (try clear ho0)) | ((with_reducible refine gate_callee (f := 16) rfl ?_); refine goesL_ (some 84) rfl rfl Try.func16 kr_ rfl #[.slice A0 l0.length c0, .int .u64 401] rfl ta_ ?_; (with_reducible refine (laws_roll.calls kj22 _ _ l0 401 t483 t484 t485 w _ ?side1 ?side2 ?side3 A28.out).mono ?_); (case side1 => repeat (first | (with_reducible first | exact HB.out | apply below_alloc | apply pw_below_drewN | apply below_drew1) | exact HB.out)); (case side2 => exact HR0.out); (case side3 => exact HC0.out); rintro e w40 ⟨g486, rfl, hi, hb, hb2⟩; refine ⟨_, rfl, ?_⟩; have n0_ := Aside0.mk (Kd.R_below (ra_ HO_3.out) hb2); have n1_ := Aside0.mk (Kd.R_below (ra_ HO_4.out) hb2); have n2_ := Aside0.mk (Kd.R_below (ra_ HO478.out) hb2); have n3_ := Aside0.mk (Kd.R_below (ra_ HO482.out) hb2); have n4_ := Aside0.mk (hb); have n5_ := Aside0.mk (hi); clear HO_3; clear HO_4; clear HO478; clear HO482; clear HB; have HO_3 := n0_; have HO_4 := n1_; have HO478 := n2_; have HO482 := n3_; have HB := n4_; have HI486 := n5_; clear n0_ n1_ n2_ n3_ n4_ n5_; (try clear hb); (try clear hb2); (try clear hk); (try clear hi)) | ((with_reducible refine gate_callee (f := 17) rfl ?_); refine goesL_ (some 85) rfl rfl Try.func17 kr_ rfl #[.pointer (some ⟨g486, 0, none⟩), .int .i64 8] rfl ta_ ?_; (with_reducible refine (laws_dice_below.calls g486 t483 t484 t485 8 t487 t488 t489 w _ ?side1 ?side2 A29.out).mono ?_); (case side1 => exact is56_ HI486.out); (case side2 => repeat (first | (with_reducible first | exact HB.out | apply below_alloc | apply pw_below_drewN | apply below_drew1 | refine below_set ?_ (IsS56.ge HI486.out)) | exact HB.out)); rintro e w41 ⟨rfl, hi, hb, hk⟩; refine ⟨_, rfl, ?_⟩; have n0_ := Aside0.mk (Kd.R_mono (Kd.R_keep (IsS56.apart (show IsS56 w _ g486 t483 t484 t485 from is56_ HI486.out) (ra_ HO_3.out) (by decide)) hk (fun _ h => h.2)) (fun _ h => h.1)); have n1_ := Aside0.mk (Kd.R_mono (Kd.R_keep (IsS56.apart (show IsS56 w _ g486 t483 t484 t485 from is56_ HI486.out) (ra_ HO_4.out) (by decide)) hk (fun _ h => h.2)) (fun _ h => h.1)); have n2_ := Aside0.mk (Kd.R_mono (Kd.R_keep (IsS56.apart (show IsS56 w _ g486 t483 t484 t485 from is56_ HI486.out) (ra_ HO478.out) (by decide)) hk (fun _ h => h.2)) (fun _ h => h.1)); have n3_ := Aside0.mk (Kd.R_mono (Kd.R_keep (IsS56.apart (show IsS56 w _ g486 t483 t484 t485 from is56_ HI486.out) (ra_ HO482.out) (by decide)) hk (fun _ h => h.2)) (fun _ h => h.1)); have n4_ := Aside0.mk (hb); have n5_ := Aside0.mk (hi); clear HO_3; clear HO_4; clear HO478; clear HO482; clear HB; clear HI486; have HO_3 := n0_; have HO_4 := n1_; have HO478 := n2_; have HO482 := n3_; have HB := n4_; have HI486 := n5_; clear n0_ n1_ n2_ n3_ n4_ n5_; (try clear hb); (try clear hb2); (try clear hk); (try clear hi)) | ((with_reducible refine gate_callee (f := 15) rfl ?_); refine goesL_ (some 86) rfl rfl Try.func15 kr_ rfl #[.slice Ao13 t461.length co13, .int .i64 t487] rfl ta_ ?_; (with_reducible refine (impl_TurnShape.calls kj22 _ _ t461 t487 t490 t491 _ ?side1 ?side2 A30.out).mono ?_); (case side1 => exact ca_ (Kd.R_reads' HO_3.out).2.2); (case side2 => exact (Kd.R_reads' HO_3.out).2.1); rintro e w42 ⟨v492, rfl, ho0, hb⟩; refine ⟨_, rfl, ?_⟩; have n0_ := Aside0.mk (Kd.R_elder' (ra_ HO_3.out) (Kd.R_base ho0) hb); have n1_ := Aside0.mk (Kd.R_elder' (ra_ HO_4.out) (Kd.R_base ho0) hb); have n2_ := Aside0.mk (Kd.R_elder' (ra_ HO478.out) (Kd.R_base ho0) hb); have n3_ := Aside0.mk (Kd.R_elder' (ra_ HO482.out) (Kd.R_base ho0) hb); have n4_ := Aside0.mk (Kd.R_lower (Kd.R_new' (Kd.R_new' (Kd.R_new' (Kd.R_new' ho0 (Kd.R_lt (ra_ HO_3.out))) (Kd.R_lt (ra_ HO_4.out))) (Kd.R_lt (ra_ HO478.out))) (Kd.R_lt (ra_ HO482.out))) (below_size (by repeat (first | (with_reducible first | exact HB.out | apply below_alloc | apply pw_below_drewN | apply below_drew1 | refine below_set ?_ (IsS56.ge HI486.out)) | exact HB.out)))); have n5_ := Aside0.mk (IsS56.below (is56_ HI486.out) hb); have n6_ := Aside0.mk (below_step (by repeat (first | (with_reducible first | exact HB.out | apply below_alloc | apply pw_below_drewN | apply below_drew1 | refine below_set ?_ (IsS56.ge HI486.out)) | exact HB.out)) hb); clear HO_3; clear HO_4; clear HO478; clear HO482; clear HI486; clear HB; have HO_3 := n0_; have HO_4 := n1_; have HO478 := n2_; have HO482 := n3_; have HO493 := n4_; have HI486 := n5_; have HB := n6_; clear n0_ n1_ n2_ n3_ n4_ n5_ n6_; (try clear hb); (try clear hb2); (try clear hk); (try clear hi); (try clear ho0); obtain ⟨Ao43, co43, eo43⟩ := Kd.R_slice HO493.out; subst eo43) | ((with_reducible refine gate_callee (f := 20) rfl ?_); refine goesL_ (some 91) rfl rfl Try.func20 kr_ rfl #[.slice Ao43 t490.length co43] rfl ta_ ?_; (with_reducible refine (impl_NameOf.calls kj22 _ _ t490 t494 t495 _ ?side1 ?side2 A31.out).mono ?_); (case side1 => exact ca_ (Kd.R_reads' HO493.out).2.2); (case side2 => exact (Kd.R_reads' HO493.out).2.1); rintro e w44 ⟨rfl, hb⟩; refine ⟨_, rfl, ?_⟩; have n0_ := Aside0.mk (Kd.R_below (ra_ HO_3.out) hb); have n1_ := Aside0.mk (Kd.R_below (ra_ HO_4.out) hb); have n2_ := Aside0.mk (Kd.R_below (ra_ HO478.out) hb); have n3_ := Aside0.mk (Kd.R_below (ra_ HO482.out) hb); have n4_ := Aside0.mk (Kd.R_below (ra_ HO493.out) hb); have n5_ := Aside0.mk (IsS56.below (is56_ HI486.out) hb); have n6_ := Aside0.mk (below_step (by repeat (first | (with_reducible first | exact HB.out | apply below_alloc | apply pw_below_drewN | apply below_drew1 | refine below_set ?_ (IsS56.ge HI486.out)) | exact HB.out)) hb); clear HO_3; clear HO_4; clear HO478; clear HO482; clear HO493; clear HI486; clear HB; have HO_3 := n0_; have HO_4 := n1_; have HO478 := n2_; have HO482 := n3_; have HO493 := n4_; have HI486 := n5_; have HB := n6_; clear n0_ n1_ n2_ n3_ n4_ n5_ n6_; (try clear hb); (try clear hb2); (try clear hk); (try clear hi); obtain ⟨Ao45, co45, eo45⟩ := Kd.R_slice HO478.out; subst eo45; obtain ⟨Ao46, co46, eo46⟩ := Kd.R_slice HO482.out; subst eo46) | (go_at_call 12; (with_reducible refine (laws_likeCells.calls kj22 _ _ t475 _ _ t479 t496 _ ?side1 ?side2 ?side3 ?side4 A36.out).mono ?_); (case side1 => exact ca_ (Kd.R_reads' HO478.out).2.2); (case side2 => exact (Kd.R_reads' HO478.out).2.1); (case side3 => exact ca_ (Kd.R_reads' HO482.out).2.2); (case side4 => exact (Kd.R_reads' HO482.out).2.1); rintro e w' ⟨rfl, ⟨nd, rfl⟩⟩))
             go_ret
             exact ⟨er_, by repeat (first | (with_reducible first | exact HB.out | apply below_alloc | apply pw_below_drewN | apply below_drew1 | refine below_set ?_ (IsS56.ge HI486.out)) | exact HB.out)⟩
            ·rw [if_neg c37] at H
             have c37b0 : ((t467.toList == t471.toList) == t496) = false := by simpa using c37
             (try (have c37b1 : decide ((t467.toList == t471.toList) = t496) = false := by simpa using c37))
             (try (have c37b2 : ((t467.toList == t471.toList) == t496) = false := by simpa using c37))
             (try (have c37b3 : ¬ ((t467.toList == t471.toList) = t496) := by simpa using c37))
             clear c37
             obtain rfl := Option.some.inj H
             go_wp2_with (first | ((with_reducible refine gate_callee (f := 9) rfl ?_); refine goesL_ (some 73) rfl rfl Try.func9 kr_ rfl #[.slice Ao13 t461.length co13] rfl ta_ ?_; (with_reducible refine (impl_FreeForm.calls kj22 _ _ t461 t475 t476 _ ?side1 ?side2 A26.out).mono ?_); (case side1 => exact ca_ (Kd.R_reads' HO_3.out).2.2); (case side2 => exact (Kd.R_reads' HO_3.out).2.1); rintro e w47 ⟨v477, rfl, ho0, hb⟩; refine ⟨_, rfl, ?_⟩; have n0_ := Aside0.mk (Kd.R_elder' (ra_ HO_3.out) (Kd.R_base ho0) hb); have n1_ := Aside0.mk (Kd.R_elder' (ra_ HO_4.out) (Kd.R_base ho0) hb); have n2_ := Aside0.mk (Kd.R_lower (Kd.R_new' (Kd.R_new' ho0 (Kd.R_lt (ra_ HO_3.out))) (Kd.R_lt (ra_ HO_4.out))) (below_size (bl0_))); have n3_ := Aside0.mk (below_step (bl0_) hb); clear HO_3; clear HO_4; clear HB; have HO_3 := n0_; have HO_4 := n1_; have HO478 := n2_; have HB := n3_; clear n0_ n1_ n2_ n3_; (try clear hb); (try clear hb2); (try clear hk); (try clear hi); (try clear ho0)) | ((with_reducible refine gate_callee (f := 9) rfl ?_); refine goesL_ (some 78) rfl rfl Try.func9 kr_ rfl #[.slice Ao16 t464.length co16] rfl ta_ ?_; (with_reducible refine (impl_FreeForm.calls kj22 _ _ t464 t479 t480 _ ?side1 ?side2 A27.out).mono ?_); (case side1 => exact ca_ (Kd.R_reads' HO_4.out).2.2); (case side2 => exact (Kd.R_reads' HO_4.out).2.1); rintro e w48 ⟨v481, rfl, ho0, hb⟩; refine ⟨_, rfl, ?_⟩; have n0_ := Aside0.mk (Kd.R_elder' (ra_ HO_3.out) (Kd.R_base ho0) hb); have n1_ := Aside0.mk (Kd.R_elder' (ra_ HO_4.out) (Kd.R_base ho0) hb); have n2_ := Aside0.mk (Kd.R_elder' (ra_ HO478.out) (Kd.R_base ho0) hb); have n3_ := Aside0.mk (Kd.R_lower (Kd.R_new' (Kd.R_new' (Kd.R_new' ho0 (Kd.R_lt (ra_ HO_3.out))) (Kd.R_lt (ra_ HO_4.out))) (Kd.R_lt (ra_ HO478.out))) (below_size (bl0_))); have n4_ := Aside0.mk (below_step (bl0_) hb); clear HO_3; clear HO_4; clear HO478; clear HB; have HO_3 := n0_; have HO_4 := n1_; have HO478 := n2_; have HO482 := n3_; have HB := n4_; clear n0_ n1_ n2_ n3_ n4_; (try clear hb); (try clear hb2); (try clear hk); (try clear hi); (try clear ho0)) | ((with_reducible refine gate_callee (f := 16) rfl ?_); refine goesL_ (some 84) rfl rfl Try.func16 kr_ rfl #[.slice A0 l0.length c0, .int .u64 401] rfl ta_ ?_; (with_reducible refine (laws_roll.calls kj22 _ _ l0 401 t483 t484 t485 w _ ?side1 ?side2 ?side3 A28.out).mono ?_); (case side1 => repeat (first | (with_reducible first | exact HB.out | apply below_alloc | apply pw_below_drewN | apply below_drew1) | exact HB.out)); (case side2 => exact HR0.out); (case side3 => exact HC0.out); rintro e w49 ⟨g486, rfl, hi, hb, hb2⟩; refine ⟨_, rfl, ?_⟩; have n0_ := Aside0.mk (Kd.R_below (ra_ HO_3.out) hb2); have n1_ := Aside0.mk (Kd.R_below (ra_ HO_4.out) hb2); have n2_ := Aside0.mk (Kd.R_below (ra_ HO478.out) hb2); have n3_ := Aside0.mk (Kd.R_below (ra_ HO482.out) hb2); have n4_ := Aside0.mk (hb); have n5_ := Aside0.mk (hi); clear HO_3; clear HO_4; clear HO478; clear HO482; clear HB; have HO_3 := n0_; have HO_4 := n1_; have HO478 := n2_; have HO482 := n3_; have HB := n4_; have HI486 := n5_; clear n0_ n1_ n2_ n3_ n4_ n5_; (try clear hb); (try clear hb2); (try clear hk); (try clear hi)) | ((with_reducible refine gate_callee (f := 17) rfl ?_); refine goesL_ (some 85) rfl rfl Try.func17 kr_ rfl #[.pointer (some ⟨g486, 0, none⟩), .int .i64 8] rfl ta_ ?_; (with_reducible refine (laws_dice_below.calls g486 t483 t484 t485 8 t487 t488 t489 w _ ?side1 ?side2 A29.out).mono ?_); (case side1 => exact is56_ HI486.out); (case side2 => repeat (first | (with_reducible first | exact HB.out | apply below_alloc | apply pw_below_drewN | apply below_drew1 | refine below_set ?_ (IsS56.ge HI486.out)) | exact HB.out)); rintro e w50 ⟨rfl, hi, hb, hk⟩; refine ⟨_, rfl, ?_⟩; have n0_ := Aside0.mk (Kd.R_mono (Kd.R_keep (IsS56.apart (show IsS56 w _ g486 t483 t484 t485 from is56_ HI486.out) (ra_ HO_3.out) (by decide)) hk (fun _ h => h.2)) (fun _ h => h.1)); have n1_ := Aside0.mk (Kd.R_mono (Kd.R_keep (IsS56.apart (show IsS56 w _ g486 t483 t484 t485 from is56_ HI486.out) (ra_ HO_4.out) (by decide)) hk (fun _ h => h.2)) (fun _ h => h.1)); have n2_ := Aside0.mk (Kd.R_mono (Kd.R_keep (IsS56.apart (show IsS56 w _ g486 t483 t484 t485 from is56_ HI486.out) (ra_ HO478.out) (by decide)) hk (fun _ h => h.2)) (fun _ h => h.1)); have n3_ := Aside0.mk (Kd.R_mono (Kd.R_keep (IsS56.apart (show IsS56 w _ g486 t483 t484 t485 from is56_ HI486.out) (ra_ HO482.out) (by decide)) hk (fun _ h => h.2)) (fun _ h => h.1)); have n4_ := Aside0.mk (hb); have n5_ := Aside0.mk (hi); clear HO_3; clear HO_4; clear HO478; clear HO482; clear HB; clear HI486; have HO_3 := n0_; have HO_4 := n1_; have HO478 := n2_; have HO482 := n3_; have HB := n4_; have HI486 := n5_; clear n0_ n1_ n2_ n3_ n4_ n5_; (try clear hb); (try clear hb2); (try clear hk); (try clear hi)) | ((with_reducible refine gate_callee (f := 15) rfl ?_); refine goesL_ (some 86) rfl rfl Try.func15 kr_ rfl #[.slice Ao13 t461.length co13, .int .i64 t487] rfl ta_ ?_; (with_reducible refine (impl_TurnShape.calls kj22 _ _ t461 t487 t490 t491 _ ?side1 ?side2 A30.out).mono ?_); (case side1 => exact ca_ (Kd.R_reads' HO_3.out).2.2); (case side2 => exact (Kd.R_reads' HO_3.out).2.1); rintro e w51 ⟨v492, rfl, ho0, hb⟩; refine ⟨_, rfl, ?_⟩; have n0_ := Aside0.mk (Kd.R_elder' (ra_ HO_3.out) (Kd.R_base ho0) hb); have n1_ := Aside0.mk (Kd.R_elder' (ra_ HO_4.out) (Kd.R_base ho0) hb); have n2_ := Aside0.mk (Kd.R_elder' (ra_ HO478.out) (Kd.R_base ho0) hb); have n3_ := Aside0.mk (Kd.R_elder' (ra_ HO482.out) (Kd.R_base ho0) hb); have n4_ := Aside0.mk (Kd.R_lower (Kd.R_new' (Kd.R_new' (Kd.R_new' (Kd.R_new' ho0 (Kd.R_lt (ra_ HO_3.out))) (Kd.R_lt (ra_ HO_4.out))) (Kd.R_lt (ra_ HO478.out))) (Kd.R_lt (ra_ HO482.out))) (below_size (by repeat (first | (with_reducible first | exact HB.out | apply below_alloc | apply pw_below_drewN | apply below_drew1 | refine below_set ?_ (IsS56.ge HI486.out)) | exact HB.out)))); have n5_ := Aside0.mk (IsS56.below (is56_ HI486.out) hb); have n6_ := Aside0.mk (below_step (by repeat (first | (with_reducible first | exact HB.out | apply below_alloc | apply pw_below_drewN | apply below_drew1 | refine below_set ?_ (IsS56.ge HI486.out)) | exact HB.out)) hb); clear HO_3; clear HO_4; clear HO478; clear HO482; clear HI486; clear HB; have HO_3 := n0_; have HO_4 := n1_; have HO478 := n2_; have HO482 := n3_; have HO493 := n4_; have HI486 := n5_; have HB := n6_; clear n0_ n1_ n2_ n3_ n4_ n5_ n6_; (try clear hb); (try clear hb2); (try clear hk); (try clear hi); (try clear ho0); obtain ⟨Ao52, co52, eo52⟩ := Kd.R_slice HO493.out; subst eo52) | ((with_reducible refine gate_callee (f := 20) rfl ?_); refine goesL_ (some 91) rfl rfl Try.func20 kr_ rfl #[.slice Ao52 t490.length co52] rfl ta_ ?_; (with_reducible refine (impl_NameOf.calls kj22 _ _ t490 t494 t495 _ ?side1 ?side2 A31.out).mono ?_); (case side1 => exact ca_ (Kd.R_reads' HO493.out).2.2); (case side2 => exact (Kd.R_reads' HO493.out).2.1); rintro e w53 ⟨rfl, hb⟩; refine ⟨_, rfl, ?_⟩; have n0_ := Aside0.mk (Kd.R_below (ra_ HO_3.out) hb); have n1_ := Aside0.mk (Kd.R_below (ra_ HO_4.out) hb); have n2_ := Aside0.mk (Kd.R_below (ra_ HO478.out) hb); have n3_ := Aside0.mk (Kd.R_below (ra_ HO482.out) hb); have n4_ := Aside0.mk (Kd.R_below (ra_ HO493.out) hb); have n5_ := Aside0.mk (IsS56.below (is56_ HI486.out) hb); have n6_ := Aside0.mk (below_step (by repeat (first | (with_reducible first | exact HB.out | apply below_alloc | apply pw_below_drewN | apply below_drew1 | refine below_set ?_ (IsS56.ge HI486.out)) | exact HB.out)) hb); clear HO_3; clear HO_4; clear HO478; clear HO482; clear HO493; clear HI486; clear HB; have HO_3 := n0_; have HO_4 := n1_; have HO478 := n2_; have HO482 := n3_; have HO493 := n4_; have HI486 := n5_; have HB := n6_; clear n0_ n1_ n2_ n3_ n4_ n5_ n6_; (try clear hb); (try clear hb2); (try clear hk); (try clear hi); obtain ⟨Ao54, co54, eo54⟩ := Kd.R_slice HO478.out; subst eo54; obtain ⟨Ao55, co55, eo55⟩ := Kd.R_slice HO482.out; subst eo55) | (go_at_call 12; (with_reducible refine (laws_likeCells.calls kj22 _ _ t475 _ _ t479 t496 _ ?side1 ?side2 ?side3 ?side4 A36.out).mono ?_); (case side1 => exact ca_ (Kd.R_reads' HO478.out).2.2); (case side2 => exact (Kd.R_reads' HO478.out).2.1); (case side3 => exact ca_ (Kd.R_reads' HO482.out).2.2); (case side4 => exact (Kd.R_reads' HO482.out).2.1); rintro e w' ⟨rfl, ⟨nd, rfl⟩⟩))
             go_ret
             exact ⟨er_, by repeat (first | (with_reducible first | exact HB.out | apply below_alloc | apply pw_below_drewN | apply below_drew1 | refine below_set ?_ (IsS56.ge HI486.out)) | exact HB.out)⟩
           ·rw [if_neg c35] at H
            have c35b0 : (t495 == 0) = false := beq_eq_false_iff_ne.mpr c35
            have c35b1 : (t495 != 0) = true := bne_iff_ne.mpr c35
            obtain rfl := Option.some.inj H
            go_wp2_with (first | ((with_reducible refine gate_callee (f := 9) rfl ?_); refine goesL_ (some 73) rfl rfl Try.func9 kr_ rfl #[.slice Ao13 t461.length co13] rfl ta_ ?_; (with_reducible refine (impl_FreeForm.calls kj22 _ _ t461 t475 t476 _ ?side1 ?side2 A26.out).mono ?_); (case side1 => exact ca_ (Kd.R_reads' HO_3.out).2.2); (case side2 => exact (Kd.R_reads' HO_3.out).2.1); rintro e w56 ⟨v477, rfl, ho0, hb⟩; refine ⟨_, rfl, ?_⟩; have n0_ := Aside0.mk (Kd.R_elder' (ra_ HO_3.out) (Kd.R_base ho0) hb); have n1_ := Aside0.mk (Kd.R_elder' (ra_ HO_4.out) (Kd.R_base ho0) hb); have n2_ := Aside0.mk (Kd.R_lower (Kd.R_new' (Kd.R_new' ho0 (Kd.R_lt (ra_ HO_3.out))) (Kd.R_lt (ra_ HO_4.out))) (below_size (bl0_))); have n3_ := Aside0.mk (below_step (bl0_) hb); clear HO_3; clear HO_4; clear HB; have HO_3 := n0_; have HO_4 := n1_; have HO478 := n2_; have HB := n3_; clear n0_ n1_ n2_ n3_; (try clear hb); (try clear hb2); (try clear hk); (try clear hi); (try clear ho0)) | ((with_reducible refine gate_callee (f := 9) rfl ?_); refine goesL_ (some 78) rfl rfl Try.func9 kr_ rfl #[.slice Ao16 t464.length co16] rfl ta_ ?_; (with_reducible refine (impl_FreeForm.calls kj22 _ _ t464 t479 t480 _ ?side1 ?side2 A27.out).mono ?_); (case side1 => exact ca_ (Kd.R_reads' HO_4.out).2.2); (case side2 => exact (Kd.R_reads' HO_4.out).2.1); rintro e w57 ⟨v481, rfl, ho0, hb⟩; refine ⟨_, rfl, ?_⟩; have n0_ := Aside0.mk (Kd.R_elder' (ra_ HO_3.out) (Kd.R_base ho0) hb); have n1_ := Aside0.mk (Kd.R_elder' (ra_ HO_4.out) (Kd.R_base ho0) hb); have n2_ := Aside0.mk (Kd.R_elder' (ra_ HO478.out) (Kd.R_base ho0) hb); have n3_ := Aside0.mk (Kd.R_lower (Kd.R_new' (Kd.R_new' (Kd.R_new' ho0 (Kd.R_lt (ra_ HO_3.out))) (Kd.R_lt (ra_ HO_4.out))) (Kd.R_lt (ra_ HO478.out))) (below_size (bl0_))); have n4_ := Aside0.mk (below_step (bl0_) hb); clear HO_3; clear HO_4; clear HO478; clear HB; have HO_3 := n0_; have HO_4 := n1_; have HO478 := n2_; have HO482 := n3_; have HB := n4_; clear n0_ n1_ n2_ n3_ n4_; (try clear hb); (try clear hb2); (try clear hk); (try clear hi); (try clear ho0)) | ((with_reducible refine gate_callee (f := 16) rfl ?_); refine goesL_ (some 84) rfl rfl Try.func16 kr_ rfl #[.slice A0 l0.length c0, .int .u64 401] rfl ta_ ?_; (with_reducible refine (laws_roll.calls kj22 _ _ l0 401 t483 t484 t485 w _ ?side1 ?side2 ?side3 A28.out).mono ?_); (case side1 => repeat (first | (with_reducible first | exact HB.out | apply below_alloc | apply pw_below_drewN | apply below_drew1) | exact HB.out)); (case side2 => exact HR0.out); (case side3 => exact HC0.out); rintro e w58 ⟨g486, rfl, hi, hb, hb2⟩; refine ⟨_, rfl, ?_⟩; have n0_ := Aside0.mk (Kd.R_below (ra_ HO_3.out) hb2); have n1_ := Aside0.mk (Kd.R_below (ra_ HO_4.out) hb2); have n2_ := Aside0.mk (Kd.R_below (ra_ HO478.out) hb2); have n3_ := Aside0.mk (Kd.R_below (ra_ HO482.out) hb2); have n4_ := Aside0.mk (hb); have n5_ := Aside0.mk (hi); clear HO_3; clear HO_4; clear HO478; clear HO482; clear HB; have HO_3 := n0_; have HO_4 := n1_; have HO478 := n2_; have HO482 := n3_; have HB := n4_; have HI486 := n5_; clear n0_ n1_ n2_ n3_ n4_ n5_; (try clear hb); (try clear hb2); (try clear hk); (try clear hi)) | ((with_reducible refine gate_callee (f := 17) rfl ?_); refine goesL_ (some 85) rfl rfl Try.func17 kr_ rfl #[.pointer (some ⟨g486, 0, none⟩), .int .i64 8] rfl ta_ ?_; (with_reducible refine (laws_dice_below.calls g486 t483 t484 t485 8 t487 t488 t489 w _ ?side1 ?side2 A29.out).mono ?_); (case side1 => exact is56_ HI486.out); (case side2 => repeat (first | (with_reducible first | exact HB.out | apply below_alloc | apply pw_below_drewN | apply below_drew1 | refine below_set ?_ (IsS56.ge HI486.out)) | exact HB.out)); rintro e w59 ⟨rfl, hi, hb, hk⟩; refine ⟨_, rfl, ?_⟩; have n0_ := Aside0.mk (Kd.R_mono (Kd.R_keep (IsS56.apart (show IsS56 w _ g486 t483 t484 t485 from is56_ HI486.out) (ra_ HO_3.out) (by decide)) hk (fun _ h => h.2)) (fun _ h => h.1)); have n1_ := Aside0.mk (Kd.R_mono (Kd.R_keep (IsS56.apart (show IsS56 w _ g486 t483 t484 t485 from is56_ HI486.out) (ra_ HO_4.out) (by decide)) hk (fun _ h => h.2)) (fun _ h => h.1)); have n2_ := Aside0.mk (Kd.R_mono (Kd.R_keep (IsS56.apart (show IsS56 w _ g486 t483 t484 t485 from is56_ HI486.out) (ra_ HO478.out) (by decide)) hk (fun _ h => h.2)) (fun _ h => h.1)); have n3_ := Aside0.mk (Kd.R_mono (Kd.R_keep (IsS56.apart (show IsS56 w _ g486 t483 t484 t485 from is56_ HI486.out) (ra_ HO482.out) (by decide)) hk (fun _ h => h.2)) (fun _ h => h.1)); have n4_ := Aside0.mk (hb); have n5_ := Aside0.mk (hi); clear HO_3; clear HO_4; clear HO478; clear HO482; clear HB; clear HI486; have HO_3 := n0_; have HO_4 := n1_; have HO478 := n2_; have HO482 := n3_; have HB := n4_; have HI486 := n5_; clear n0_ n1_ n2_ n3_ n4_ n5_; (try clear hb); (try clear hb2); (try clear hk); (try clear hi)) | ((with_reducible refine gate_callee (f := 15) rfl ?_); refine goesL_ (some 86) rfl rfl Try.func15 kr_ rfl #[.slice Ao13 t461.length co13, .int .i64 t487] rfl ta_ ?_; (with_reducible refine (impl_TurnShape.calls kj22 _ _ t461 t487 t490 t491 _ ?side1 ?side2 A30.out).mono ?_); (case side1 => exact ca_ (Kd.R_reads' HO_3.out).2.2); (case side2 => exact (Kd.R_reads' HO_3.out).2.1); rintro e w60 ⟨v492, rfl, ho0, hb⟩; refine ⟨_, rfl, ?_⟩; have n0_ := Aside0.mk (Kd.R_elder' (ra_ HO_3.out) (Kd.R_base ho0) hb); have n1_ := Aside0.mk (Kd.R_elder' (ra_ HO_4.out) (Kd.R_base ho0) hb); have n2_ := Aside0.mk (Kd.R_elder' (ra_ HO478.out) (Kd.R_base ho0) hb); have n3_ := Aside0.mk (Kd.R_elder' (ra_ HO482.out) (Kd.R_base ho0) hb); have n4_ := Aside0.mk (Kd.R_lower (Kd.R_new' (Kd.R_new' (Kd.R_new' (Kd.R_new' ho0 (Kd.R_lt (ra_ HO_3.out))) (Kd.R_lt (ra_ HO_4.out))) (Kd.R_lt (ra_ HO478.out))) (Kd.R_lt (ra_ HO482.out))) (below_size (by repeat (first | (with_reducible first | exact HB.out | apply below_alloc | apply pw_below_drewN | apply below_drew1 | refine below_set ?_ (IsS56.ge HI486.out)) | exact HB.out)))); have n5_ := Aside0.mk (IsS56.below (is56_ HI486.out) hb); have n6_ := Aside0.mk (below_step (by repeat (first | (with_reducible first | exact HB.out | apply below_alloc | apply pw_below_drewN | apply below_drew1 | refine below_set ?_ (IsS56.ge HI486.out)) | exact HB.out)) hb); clear HO_3; clear HO_4; clear HO478; clear HO482; clear HI486; clear HB; have HO_3 := n0_; have HO_4 := n1_; have HO478 := n2_; have HO482 := n3_; have HO493 := n4_; have HI486 := n5_; have HB := n6_; clear n0_ n1_ n2_ n3_ n4_ n5_ n6_; (try clear hb); (try clear hb2); (try clear hk); (try clear hi); (try clear ho0); obtain ⟨Ao61, co61, eo61⟩ := Kd.R_slice HO493.out; subst eo61) | ((with_reducible refine gate_callee (f := 20) rfl ?_); refine goesL_ (some 91) rfl rfl Try.func20 kr_ rfl #[.slice Ao61 t490.length co61] rfl ta_ ?_; (with_reducible refine (impl_NameOf.calls kj22 _ _ t490 t494 t495 _ ?side1 ?side2 A31.out).mono ?_); (case side1 => exact ca_ (Kd.R_reads' HO493.out).2.2); (case side2 => exact (Kd.R_reads' HO493.out).2.1); rintro e w62 ⟨rfl, hb⟩; refine ⟨_, rfl, ?_⟩; have n0_ := Aside0.mk (Kd.R_below (ra_ HO_3.out) hb); have n1_ := Aside0.mk (Kd.R_below (ra_ HO_4.out) hb); have n2_ := Aside0.mk (Kd.R_below (ra_ HO478.out) hb); have n3_ := Aside0.mk (Kd.R_below (ra_ HO482.out) hb); have n4_ := Aside0.mk (Kd.R_below (ra_ HO493.out) hb); have n5_ := Aside0.mk (IsS56.below (is56_ HI486.out) hb); have n6_ := Aside0.mk (below_step (by repeat (first | (with_reducible first | exact HB.out | apply below_alloc | apply pw_below_drewN | apply below_drew1 | refine below_set ?_ (IsS56.ge HI486.out)) | exact HB.out)) hb); clear HO_3; clear HO_4; clear HO478; clear HO482; clear HO493; clear HI486; clear HB; have HO_3 := n0_; have HO_4 := n1_; have HO478 := n2_; have HO482 := n3_; have HO493 := n4_; have HI486 := n5_; have HB := n6_; clear n0_ n1_ n2_ n3_ n4_ n5_ n6_; (try clear hb); (try clear hb2); (try clear hk); (try clear hi)))
            go_ret
            exact ⟨er_, by repeat (first | (with_reducible first | exact HB.out | apply below_alloc | apply pw_below_drewN | apply below_drew1 | refine below_set ?_ (IsS56.ge HI486.out)) | exact HB.out)⟩
          ·rw [if_neg c34] at H
           have c34b0 : (t491 == 0) = false := beq_eq_false_iff_ne.mpr c34
           have c34b1 : (t491 != 0) = true := bne_iff_ne.mpr c34
           obtain rfl := Option.some.inj H
           go_wp2_with (first | ((with_reducible refine gate_callee (f := 9) rfl ?_); refine goesL_ (some 73) rfl rfl Try.func9 kr_ rfl #[.slice Ao13 t461.length co13] rfl ta_ ?_; (with_reducible refine (impl_FreeForm.calls kj22 _ _ t461 t475 t476 _ ?side1 ?side2 A26.out).mono ?_); (case side1 => exact ca_ (Kd.R_reads' HO_3.out).2.2); (case side2 => exact (Kd.R_reads' HO_3.out).2.1); rintro e w63 ⟨v477, rfl, ho0, hb⟩; refine ⟨_, rfl, ?_⟩; have n0_ := Aside0.mk (Kd.R_elder' (ra_ HO_3.out) (Kd.R_base ho0) hb); have n1_ := Aside0.mk (Kd.R_elder' (ra_ HO_4.out) (Kd.R_base ho0) hb); have n2_ := Aside0.mk (Kd.R_lower (Kd.R_new' (Kd.R_new' ho0 (Kd.R_lt (ra_ HO_3.out))) (Kd.R_lt (ra_ HO_4.out))) (below_size (bl0_))); have n3_ := Aside0.mk (below_step (bl0_) hb); clear HO_3; clear HO_4; clear HB; have HO_3 := n0_; have HO_4 := n1_; have HO478 := n2_; have HB := n3_; clear n0_ n1_ n2_ n3_; (try clear hb); (try clear hb2); (try clear hk); (try clear hi); (try clear ho0)) | ((with_reducible refine gate_callee (f := 9) rfl ?_); refine goesL_ (some 78) rfl rfl Try.func9 kr_ rfl #[.slice Ao16 t464.length co16] rfl ta_ ?_; (with_reducible refine (impl_FreeForm.calls kj22 _ _ t464 t479 t480 _ ?side1 ?side2 A27.out).mono ?_); (case side1 => exact ca_ (Kd.R_reads' HO_4.out).2.2); (case side2 => exact (Kd.R_reads' HO_4.out).2.1); rintro e w64 ⟨v481, rfl, ho0, hb⟩; refine ⟨_, rfl, ?_⟩; have n0_ := Aside0.mk (Kd.R_elder' (ra_ HO_3.out) (Kd.R_base ho0) hb); have n1_ := Aside0.mk (Kd.R_elder' (ra_ HO_4.out) (Kd.R_base ho0) hb); have n2_ := Aside0.mk (Kd.R_elder' (ra_ HO478.out) (Kd.R_base ho0) hb); have n3_ := Aside0.mk (Kd.R_lower (Kd.R_new' (Kd.R_new' (Kd.R_new' ho0 (Kd.R_lt (ra_ HO_3.out))) (Kd.R_lt (ra_ HO_4.out))) (Kd.R_lt (ra_ HO478.out))) (below_size (bl0_))); have n4_ := Aside0.mk (below_step (bl0_) hb); clear HO_3; clear HO_4; clear HO478; clear HB; have HO_3 := n0_; have HO_4 := n1_; have HO478 := n2_; have HO482 := n3_; have HB := n4_; clear n0_ n1_ n2_ n3_ n4_; (try clear hb); (try clear hb2); (try clear hk); (try clear hi); (try clear ho0)) | ((with_reducible refine gate_callee (f := 16) rfl ?_); refine goesL_ (some 84) rfl rfl Try.func16 kr_ rfl #[.slice A0 l0.length c0, .int .u64 401] rfl ta_ ?_; (with_reducible refine (laws_roll.calls kj22 _ _ l0 401 t483 t484 t485 w _ ?side1 ?side2 ?side3 A28.out).mono ?_); (case side1 => repeat (first | (with_reducible first | exact HB.out | apply below_alloc | apply pw_below_drewN | apply below_drew1) | exact HB.out)); (case side2 => exact HR0.out); (case side3 => exact HC0.out); rintro e w65 ⟨g486, rfl, hi, hb, hb2⟩; refine ⟨_, rfl, ?_⟩; have n0_ := Aside0.mk (Kd.R_below (ra_ HO_3.out) hb2); have n1_ := Aside0.mk (Kd.R_below (ra_ HO_4.out) hb2); have n2_ := Aside0.mk (Kd.R_below (ra_ HO478.out) hb2); have n3_ := Aside0.mk (Kd.R_below (ra_ HO482.out) hb2); have n4_ := Aside0.mk (hb); have n5_ := Aside0.mk (hi); clear HO_3; clear HO_4; clear HO478; clear HO482; clear HB; have HO_3 := n0_; have HO_4 := n1_; have HO478 := n2_; have HO482 := n3_; have HB := n4_; have HI486 := n5_; clear n0_ n1_ n2_ n3_ n4_ n5_; (try clear hb); (try clear hb2); (try clear hk); (try clear hi)) | ((with_reducible refine gate_callee (f := 17) rfl ?_); refine goesL_ (some 85) rfl rfl Try.func17 kr_ rfl #[.pointer (some ⟨g486, 0, none⟩), .int .i64 8] rfl ta_ ?_; (with_reducible refine (laws_dice_below.calls g486 t483 t484 t485 8 t487 t488 t489 w _ ?side1 ?side2 A29.out).mono ?_); (case side1 => exact is56_ HI486.out); (case side2 => repeat (first | (with_reducible first | exact HB.out | apply below_alloc | apply pw_below_drewN | apply below_drew1 | refine below_set ?_ (IsS56.ge HI486.out)) | exact HB.out)); rintro e w66 ⟨rfl, hi, hb, hk⟩; refine ⟨_, rfl, ?_⟩; have n0_ := Aside0.mk (Kd.R_mono (Kd.R_keep (IsS56.apart (show IsS56 w _ g486 t483 t484 t485 from is56_ HI486.out) (ra_ HO_3.out) (by decide)) hk (fun _ h => h.2)) (fun _ h => h.1)); have n1_ := Aside0.mk (Kd.R_mono (Kd.R_keep (IsS56.apart (show IsS56 w _ g486 t483 t484 t485 from is56_ HI486.out) (ra_ HO_4.out) (by decide)) hk (fun _ h => h.2)) (fun _ h => h.1)); have n2_ := Aside0.mk (Kd.R_mono (Kd.R_keep (IsS56.apart (show IsS56 w _ g486 t483 t484 t485 from is56_ HI486.out) (ra_ HO478.out) (by decide)) hk (fun _ h => h.2)) (fun _ h => h.1)); have n3_ := Aside0.mk (Kd.R_mono (Kd.R_keep (IsS56.apart (show IsS56 w _ g486 t483 t484 t485 from is56_ HI486.out) (ra_ HO482.out) (by decide)) hk (fun _ h => h.2)) (fun _ h => h.1)); have n4_ := Aside0.mk (hb); have n5_ := Aside0.mk (hi); clear HO_3; clear HO_4; clear HO478; clear HO482; clear HB; clear HI486; have HO_3 := n0_; have HO_4 := n1_; have HO478 := n2_; have HO482 := n3_; have HB := n4_; have HI486 := n5_; clear n0_ n1_ n2_ n3_ n4_ n5_; (try clear hb); (try clear hb2); (try clear hk); (try clear hi)) | ((with_reducible refine gate_callee (f := 15) rfl ?_); refine goesL_ (some 86) rfl rfl Try.func15 kr_ rfl #[.slice Ao13 t461.length co13, .int .i64 t487] rfl ta_ ?_; (with_reducible refine (impl_TurnShape.calls kj22 _ _ t461 t487 t490 t491 _ ?side1 ?side2 A30.out).mono ?_); (case side1 => exact ca_ (Kd.R_reads' HO_3.out).2.2); (case side2 => exact (Kd.R_reads' HO_3.out).2.1); rintro e w67 ⟨v492, rfl, ho0, hb⟩; refine ⟨_, rfl, ?_⟩; have n0_ := Aside0.mk (Kd.R_elder' (ra_ HO_3.out) (Kd.R_base ho0) hb); have n1_ := Aside0.mk (Kd.R_elder' (ra_ HO_4.out) (Kd.R_base ho0) hb); have n2_ := Aside0.mk (Kd.R_elder' (ra_ HO478.out) (Kd.R_base ho0) hb); have n3_ := Aside0.mk (Kd.R_elder' (ra_ HO482.out) (Kd.R_base ho0) hb); have n4_ := Aside0.mk (Kd.R_lower (Kd.R_new' (Kd.R_new' (Kd.R_new' (Kd.R_new' ho0 (Kd.R_lt (ra_ HO_3.out))) (Kd.R_lt (ra_ HO_4.out))) (Kd.R_lt (ra_ HO478.out))) (Kd.R_lt (ra_ HO482.out))) (below_size (by repeat (first | (with_reducible first | exact HB.out | apply below_alloc | apply pw_below_drewN | apply below_drew1 | refine below_set ?_ (IsS56.ge HI486.out)) | exact HB.out)))); have n5_ := Aside0.mk (IsS56.below (is56_ HI486.out) hb); have n6_ := Aside0.mk (below_step (by repeat (first | (with_reducible first | exact HB.out | apply below_alloc | apply pw_below_drewN | apply below_drew1 | refine below_set ?_ (IsS56.ge HI486.out)) | exact HB.out)) hb); clear HO_3; clear HO_4; clear HO478; clear HO482; clear HI486; clear HB; have HO_3 := n0_; have HO_4 := n1_; have HO478 := n2_; have HO482 := n3_; have HO493 := n4_; have HI486 := n5_; have HB := n6_; clear n0_ n1_ n2_ n3_ n4_ n5_ n6_; (try clear hb); (try clear hb2); (try clear hk); (try clear hi); (try clear ho0); obtain ⟨Ao68, co68, eo68⟩ := Kd.R_slice HO493.out; subst eo68) | ((with_reducible refine gate_callee (f := 20) rfl ?_); refine goesL_ (some 91) rfl rfl Try.func20 kr_ rfl #[.slice Ao68 t490.length co68] rfl ta_ ?_; (with_reducible refine (impl_NameOf.calls kj22 _ _ t490 t494 t495 _ ?side1 ?side2 A31.out).mono ?_); (case side1 => exact ca_ (Kd.R_reads' HO493.out).2.2); (case side2 => exact (Kd.R_reads' HO493.out).2.1); rintro e w69 ⟨rfl, hb⟩; refine ⟨_, rfl, ?_⟩; have n0_ := Aside0.mk (Kd.R_below (ra_ HO_3.out) hb); have n1_ := Aside0.mk (Kd.R_below (ra_ HO_4.out) hb); have n2_ := Aside0.mk (Kd.R_below (ra_ HO478.out) hb); have n3_ := Aside0.mk (Kd.R_below (ra_ HO482.out) hb); have n4_ := Aside0.mk (Kd.R_below (ra_ HO493.out) hb); have n5_ := Aside0.mk (IsS56.below (is56_ HI486.out) hb); have n6_ := Aside0.mk (below_step (by repeat (first | (with_reducible first | exact HB.out | apply below_alloc | apply pw_below_drewN | apply below_drew1 | refine below_set ?_ (IsS56.ge HI486.out)) | exact HB.out)) hb); clear HO_3; clear HO_4; clear HO478; clear HO482; clear HO493; clear HI486; clear HB; have HO_3 := n0_; have HO_4 := n1_; have HO478 := n2_; have HO482 := n3_; have HO493 := n4_; have HI486 := n5_; have HB := n6_; clear n0_ n1_ n2_ n3_ n4_ n5_ n6_; (try clear hb); (try clear hb2); (try clear hk); (try clear hi)))
           go_ret
           exact ⟨er_, by repeat (first | (with_reducible first | exact HB.out | apply below_alloc | apply pw_below_drewN | apply below_drew1 | refine below_set ?_ (IsS56.ge HI486.out)) | exact HB.out)⟩
         ·rw [if_neg c33] at H
          have c33b0 : (t480 == 0) = false := beq_eq_false_iff_ne.mpr c33
          have c33b1 : (t480 != 0) = true := bne_iff_ne.mpr c33
          obtain rfl := Option.some.inj H
          go_wp2_with (first | ((with_reducible refine gate_callee (f := 9) rfl ?_); refine goesL_ (some 73) rfl rfl Try.func9 kr_ rfl #[.slice Ao13 t461.length co13] rfl ta_ ?_; (with_reducible refine (impl_FreeForm.calls kj22 _ _ t461 t475 t476 _ ?side1 ?side2 A26.out).mono ?_); (case side1 => exact ca_ (Kd.R_reads' HO_3.out).2.2); (case side2 => exact (Kd.R_reads' HO_3.out).2.1); rintro e w70 ⟨v477, rfl, ho0, hb⟩; refine ⟨_, rfl, ?_⟩; have n0_ := Aside0.mk (Kd.R_elder' (ra_ HO_3.out) (Kd.R_base ho0) hb); have n1_ := Aside0.mk (Kd.R_elder' (ra_ HO_4.out) (Kd.R_base ho0) hb); have n2_ := Aside0.mk (Kd.R_lower (Kd.R_new' (Kd.R_new' ho0 (Kd.R_lt (ra_ HO_3.out))) (Kd.R_lt (ra_ HO_4.out))) (below_size (bl0_))); have n3_ := Aside0.mk (below_step (bl0_) hb); clear HO_3; clear HO_4; clear HB; have HO_3 := n0_; have HO_4 := n1_; have HO478 := n2_; have HB := n3_; clear n0_ n1_ n2_ n3_; (try clear hb); (try clear hb2); (try clear hk); (try clear hi); (try clear ho0)) | ((with_reducible refine gate_callee (f := 9) rfl ?_); refine goesL_ (some 78) rfl rfl Try.func9 kr_ rfl #[.slice Ao16 t464.length co16] rfl ta_ ?_; (with_reducible refine (impl_FreeForm.calls kj22 _ _ t464 t479 t480 _ ?side1 ?side2 A27.out).mono ?_); (case side1 => exact ca_ (Kd.R_reads' HO_4.out).2.2); (case side2 => exact (Kd.R_reads' HO_4.out).2.1); rintro e w71 ⟨v481, rfl, ho0, hb⟩; refine ⟨_, rfl, ?_⟩; have n0_ := Aside0.mk (Kd.R_elder' (ra_ HO_3.out) (Kd.R_base ho0) hb); have n1_ := Aside0.mk (Kd.R_elder' (ra_ HO_4.out) (Kd.R_base ho0) hb); have n2_ := Aside0.mk (Kd.R_elder' (ra_ HO478.out) (Kd.R_base ho0) hb); have n3_ := Aside0.mk (Kd.R_lower (Kd.R_new' (Kd.R_new' (Kd.R_new' ho0 (Kd.R_lt (ra_ HO_3.out))) (Kd.R_lt (ra_ HO_4.out))) (Kd.R_lt (ra_ HO478.out))) (below_size (bl0_))); have n4_ := Aside0.mk (below_step (bl0_) hb); clear HO_3; clear HO_4; clear HO478; clear HB; have HO_3 := n0_; have HO_4 := n1_; have HO478 := n2_; have HO482 := n3_; have HB := n4_; clear n0_ n1_ n2_ n3_ n4_; (try clear hb); (try clear hb2); (try clear hk); (try clear hi); (try clear ho0)) | ((with_reducible refine gate_callee (f := 16) rfl ?_); refine goesL_ (some 84) rfl rfl Try.func16 kr_ rfl #[.slice A0 l0.length c0, .int .u64 401] rfl ta_ ?_; (with_reducible refine (laws_roll.calls kj22 _ _ l0 401 t483 t484 t485 w _ ?side1 ?side2 ?side3 A28.out).mono ?_); (case side1 => repeat (first | (with_reducible first | exact HB.out | apply below_alloc | apply pw_below_drewN | apply below_drew1) | exact HB.out)); (case side2 => exact HR0.out); (case side3 => exact HC0.out); rintro e w72 ⟨g486, rfl, hi, hb, hb2⟩; refine ⟨_, rfl, ?_⟩; have n0_ := Aside0.mk (Kd.R_below (ra_ HO_3.out) hb2); have n1_ := Aside0.mk (Kd.R_below (ra_ HO_4.out) hb2); have n2_ := Aside0.mk (Kd.R_below (ra_ HO478.out) hb2); have n3_ := Aside0.mk (Kd.R_below (ra_ HO482.out) hb2); have n4_ := Aside0.mk (hb); have n5_ := Aside0.mk (hi); clear HO_3; clear HO_4; clear HO478; clear HO482; clear HB; have HO_3 := n0_; have HO_4 := n1_; have HO478 := n2_; have HO482 := n3_; have HB := n4_; have HI486 := n5_; clear n0_ n1_ n2_ n3_ n4_ n5_; (try clear hb); (try clear hb2); (try clear hk); (try clear hi)) | ((with_reducible refine gate_callee (f := 17) rfl ?_); refine goesL_ (some 85) rfl rfl Try.func17 kr_ rfl #[.pointer (some ⟨g486, 0, none⟩), .int .i64 8] rfl ta_ ?_; (with_reducible refine (laws_dice_below.calls g486 t483 t484 t485 8 t487 t488 t489 w _ ?side1 ?side2 A29.out).mono ?_); (case side1 => exact is56_ HI486.out); (case side2 => repeat (first | (with_reducible first | exact HB.out | apply below_alloc | apply pw_below_drewN | apply below_drew1 | refine below_set ?_ (IsS56.ge HI486.out)) | exact HB.out)); rintro e w73 ⟨rfl, hi, hb, hk⟩; refine ⟨_, rfl, ?_⟩; have n0_ := Aside0.mk (Kd.R_mono (Kd.R_keep (IsS56.apart (show IsS56 w _ g486 t483 t484 t485 from is56_ HI486.out) (ra_ HO_3.out) (by decide)) hk (fun _ h => h.2)) (fun _ h => h.1)); have n1_ := Aside0.mk (Kd.R_mono (Kd.R_keep (IsS56.apart (show IsS56 w _ g486 t483 t484 t485 from is56_ HI486.out) (ra_ HO_4.out) (by decide)) hk (fun _ h => h.2)) (fun _ h => h.1)); have n2_ := Aside0.mk (Kd.R_mono (Kd.R_keep (IsS56.apart (show IsS56 w _ g486 t483 t484 t485 from is56_ HI486.out) (ra_ HO478.out) (by decide)) hk (fun _ h => h.2)) (fun _ h => h.1)); have n3_ := Aside0.mk (Kd.R_mono (Kd.R_keep (IsS56.apart (show IsS56 w _ g486 t483 t484 t485 from is56_ HI486.out) (ra_ HO482.out) (by decide)) hk (fun _ h => h.2)) (fun _ h => h.1)); have n4_ := Aside0.mk (hb); have n5_ := Aside0.mk (hi); clear HO_3; clear HO_4; clear HO478; clear HO482; clear HB; clear HI486; have HO_3 := n0_; have HO_4 := n1_; have HO478 := n2_; have HO482 := n3_; have HB := n4_; have HI486 := n5_; clear n0_ n1_ n2_ n3_ n4_ n5_; (try clear hb); (try clear hb2); (try clear hk); (try clear hi)) | ((with_reducible refine gate_callee (f := 15) rfl ?_); refine goesL_ (some 86) rfl rfl Try.func15 kr_ rfl #[.slice Ao13 t461.length co13, .int .i64 t487] rfl ta_ ?_; (with_reducible refine (impl_TurnShape.calls kj22 _ _ t461 t487 t490 t491 _ ?side1 ?side2 A30.out).mono ?_); (case side1 => exact ca_ (Kd.R_reads' HO_3.out).2.2); (case side2 => exact (Kd.R_reads' HO_3.out).2.1); rintro e w74 ⟨v492, rfl, ho0, hb⟩; refine ⟨_, rfl, ?_⟩; have n0_ := Aside0.mk (Kd.R_elder' (ra_ HO_3.out) (Kd.R_base ho0) hb); have n1_ := Aside0.mk (Kd.R_elder' (ra_ HO_4.out) (Kd.R_base ho0) hb); have n2_ := Aside0.mk (Kd.R_elder' (ra_ HO478.out) (Kd.R_base ho0) hb); have n3_ := Aside0.mk (Kd.R_elder' (ra_ HO482.out) (Kd.R_base ho0) hb); have n4_ := Aside0.mk (Kd.R_lower (Kd.R_new' (Kd.R_new' (Kd.R_new' (Kd.R_new' ho0 (Kd.R_lt (ra_ HO_3.out))) (Kd.R_lt (ra_ HO_4.out))) (Kd.R_lt (ra_ HO478.out))) (Kd.R_lt (ra_ HO482.out))) (below_size (by repeat (first | (with_reducible first | exact HB.out | apply below_alloc | apply pw_below_drewN | apply below_drew1 | refine below_set ?_ (IsS56.ge HI486.out)) | exact HB.out)))); have n5_ := Aside0.mk (IsS56.below (is56_ HI486.out) hb); have n6_ := Aside0.mk (below_step (by repeat (first | (with_reducible first | exact HB.out | apply below_alloc | apply pw_below_drewN | apply below_drew1 | refine below_set ?_ (IsS56.ge HI486.out)) | exact HB.out)) hb); clear HO_3; clear HO_4; clear HO478; clear HO482; clear HI486; clear HB; have HO_3 := n0_; have HO_4 := n1_; have HO478 := n2_; have HO482 := n3_; have HO493 := n4_; have HI486 := n5_; have HB := n6_; clear n0_ n1_ n2_ n3_ n4_ n5_ n6_; (try clear hb); (try clear hb2); (try clear hk); (try clear hi); (try clear ho0); obtain ⟨Ao75, co75, eo75⟩ := Kd.R_slice HO493.out; subst eo75) | ((with_reducible refine gate_callee (f := 20) rfl ?_); refine goesL_ (some 91) rfl rfl Try.func20 kr_ rfl #[.slice Ao75 t490.length co75] rfl ta_ ?_; (with_reducible refine (impl_NameOf.calls kj22 _ _ t490 t494 t495 _ ?side1 ?side2 A31.out).mono ?_); (case side1 => exact ca_ (Kd.R_reads' HO493.out).2.2); (case side2 => exact (Kd.R_reads' HO493.out).2.1); rintro e w76 ⟨rfl, hb⟩; refine ⟨_, rfl, ?_⟩; have n0_ := Aside0.mk (Kd.R_below (ra_ HO_3.out) hb); have n1_ := Aside0.mk (Kd.R_below (ra_ HO_4.out) hb); have n2_ := Aside0.mk (Kd.R_below (ra_ HO478.out) hb); have n3_ := Aside0.mk (Kd.R_below (ra_ HO482.out) hb); have n4_ := Aside0.mk (Kd.R_below (ra_ HO493.out) hb); have n5_ := Aside0.mk (IsS56.below (is56_ HI486.out) hb); have n6_ := Aside0.mk (below_step (by repeat (first | (with_reducible first | exact HB.out | apply below_alloc | apply pw_below_drewN | apply below_drew1 | refine below_set ?_ (IsS56.ge HI486.out)) | exact HB.out)) hb); clear HO_3; clear HO_4; clear HO478; clear HO482; clear HO493; clear HI486; clear HB; have HO_3 := n0_; have HO_4 := n1_; have HO478 := n2_; have HO482 := n3_; have HO493 := n4_; have HI486 := n5_; have HB := n6_; clear n0_ n1_ n2_ n3_ n4_ n5_ n6_; (try clear hb); (try clear hb2); (try clear hk); (try clear hi)))
          go_ret
          exact ⟨er_, by repeat (first | (with_reducible first | exact HB.out | apply below_alloc | apply pw_below_drewN | apply below_drew1 | refine below_set ?_ (IsS56.ge HI486.out)) | exact HB.out)⟩
        ·rw [if_neg c32] at H
         have c32b0 : (t476 == 0) = false := beq_eq_false_iff_ne.mpr c32
         have c32b1 : (t476 != 0) = true := bne_iff_ne.mpr c32
         obtain rfl := Option.some.inj H
         go_wp2_with (first | ((with_reducible refine gate_callee (f := 9) rfl ?_); refine goesL_ (some 73) rfl rfl Try.func9 kr_ rfl #[.slice Ao13 t461.length co13] rfl ta_ ?_; (with_reducible refine (impl_FreeForm.calls kj22 _ _ t461 t475 t476 _ ?side1 ?side2 A26.out).mono ?_); (case side1 => exact ca_ (Kd.R_reads' HO_3.out).2.2); (case side2 => exact (Kd.R_reads' HO_3.out).2.1); rintro e w77 ⟨v477, rfl, ho0, hb⟩; refine ⟨_, rfl, ?_⟩; have n0_ := Aside0.mk (Kd.R_elder' (ra_ HO_3.out) (Kd.R_base ho0) hb); have n1_ := Aside0.mk (Kd.R_elder' (ra_ HO_4.out) (Kd.R_base ho0) hb); have n2_ := Aside0.mk (Kd.R_lower (Kd.R_new' (Kd.R_new' ho0 (Kd.R_lt (ra_ HO_3.out))) (Kd.R_lt (ra_ HO_4.out))) (below_size (bl0_))); have n3_ := Aside0.mk (below_step (bl0_) hb); clear HO_3; clear HO_4; clear HB; have HO_3 := n0_; have HO_4 := n1_; have HO478 := n2_; have HB := n3_; clear n0_ n1_ n2_ n3_; (try clear hb); (try clear hb2); (try clear hk); (try clear hi); (try clear ho0)) | ((with_reducible refine gate_callee (f := 9) rfl ?_); refine goesL_ (some 78) rfl rfl Try.func9 kr_ rfl #[.slice Ao16 t464.length co16] rfl ta_ ?_; (with_reducible refine (impl_FreeForm.calls kj22 _ _ t464 t479 t480 _ ?side1 ?side2 A27.out).mono ?_); (case side1 => exact ca_ (Kd.R_reads' HO_4.out).2.2); (case side2 => exact (Kd.R_reads' HO_4.out).2.1); rintro e w78 ⟨v481, rfl, ho0, hb⟩; refine ⟨_, rfl, ?_⟩; have n0_ := Aside0.mk (Kd.R_elder' (ra_ HO_3.out) (Kd.R_base ho0) hb); have n1_ := Aside0.mk (Kd.R_elder' (ra_ HO_4.out) (Kd.R_base ho0) hb); have n2_ := Aside0.mk (Kd.R_elder' (ra_ HO478.out) (Kd.R_base ho0) hb); have n3_ := Aside0.mk (Kd.R_lower (Kd.R_new' (Kd.R_new' (Kd.R_new' ho0 (Kd.R_lt (ra_ HO_3.out))) (Kd.R_lt (ra_ HO_4.out))) (Kd.R_lt (ra_ HO478.out))) (below_size (bl0_))); have n4_ := Aside0.mk (below_step (bl0_) hb); clear HO_3; clear HO_4; clear HO478; clear HB; have HO_3 := n0_; have HO_4 := n1_; have HO478 := n2_; have HO482 := n3_; have HB := n4_; clear n0_ n1_ n2_ n3_ n4_; (try clear hb); (try clear hb2); (try clear hk); (try clear hi); (try clear ho0)) | ((with_reducible refine gate_callee (f := 16) rfl ?_); refine goesL_ (some 84) rfl rfl Try.func16 kr_ rfl #[.slice A0 l0.length c0, .int .u64 401] rfl ta_ ?_; (with_reducible refine (laws_roll.calls kj22 _ _ l0 401 t483 t484 t485 w _ ?side1 ?side2 ?side3 A28.out).mono ?_); (case side1 => repeat (first | (with_reducible first | exact HB.out | apply below_alloc | apply pw_below_drewN | apply below_drew1) | exact HB.out)); (case side2 => exact HR0.out); (case side3 => exact HC0.out); rintro e w79 ⟨g486, rfl, hi, hb, hb2⟩; refine ⟨_, rfl, ?_⟩; have n0_ := Aside0.mk (Kd.R_below (ra_ HO_3.out) hb2); have n1_ := Aside0.mk (Kd.R_below (ra_ HO_4.out) hb2); have n2_ := Aside0.mk (Kd.R_below (ra_ HO478.out) hb2); have n3_ := Aside0.mk (Kd.R_below (ra_ HO482.out) hb2); have n4_ := Aside0.mk (hb); have n5_ := Aside0.mk (hi); clear HO_3; clear HO_4; clear HO478; clear HO482; clear HB; have HO_3 := n0_; have HO_4 := n1_; have HO478 := n2_; have HO482 := n3_; have HB := n4_; have HI486 := n5_; clear n0_ n1_ n2_ n3_ n4_ n5_; (try clear hb); (try clear hb2); (try clear hk); (try clear hi)) | ((with_reducible refine gate_callee (f := 17) rfl ?_); refine goesL_ (some 85) rfl rfl Try.func17 kr_ rfl #[.pointer (some ⟨g486, 0, none⟩), .int .i64 8] rfl ta_ ?_; (with_reducible refine (laws_dice_below.calls g486 t483 t484 t485 8 t487 t488 t489 w _ ?side1 ?side2 A29.out).mono ?_); (case side1 => exact is56_ HI486.out); (case side2 => repeat (first | (with_reducible first | exact HB.out | apply below_alloc | apply pw_below_drewN | apply below_drew1 | refine below_set ?_ (IsS56.ge HI486.out)) | exact HB.out)); rintro e w80 ⟨rfl, hi, hb, hk⟩; refine ⟨_, rfl, ?_⟩; have n0_ := Aside0.mk (Kd.R_mono (Kd.R_keep (IsS56.apart (show IsS56 w _ g486 t483 t484 t485 from is56_ HI486.out) (ra_ HO_3.out) (by decide)) hk (fun _ h => h.2)) (fun _ h => h.1)); have n1_ := Aside0.mk (Kd.R_mono (Kd.R_keep (IsS56.apart (show IsS56 w _ g486 t483 t484 t485 from is56_ HI486.out) (ra_ HO_4.out) (by decide)) hk (fun _ h => h.2)) (fun _ h => h.1)); have n2_ := Aside0.mk (Kd.R_mono (Kd.R_keep (IsS56.apart (show IsS56 w _ g486 t483 t484 t485 from is56_ HI486.out) (ra_ HO478.out) (by decide)) hk (fun _ h => h.2)) (fun _ h => h.1)); have n3_ := Aside0.mk (Kd.R_mono (Kd.R_keep (IsS56.apart (show IsS56 w _ g486 t483 t484 t485 from is56_ HI486.out) (ra_ HO482.out) (by decide)) hk (fun _ h => h.2)) (fun _ h => h.1)); have n4_ := Aside0.mk (hb); have n5_ := Aside0.mk (hi); clear HO_3; clear HO_4; clear HO478; clear HO482; clear HB; clear HI486; have HO_3 := n0_; have HO_4 := n1_; have HO478 := n2_; have HO482 := n3_; have HB := n4_; have HI486 := n5_; clear n0_ n1_ n2_ n3_ n4_ n5_; (try clear hb); (try clear hb2); (try clear hk); (try clear hi)) | ((with_reducible refine gate_callee (f := 15) rfl ?_); refine goesL_ (some 86) rfl rfl Try.func15 kr_ rfl #[.slice Ao13 t461.length co13, .int .i64 t487] rfl ta_ ?_; (with_reducible refine (impl_TurnShape.calls kj22 _ _ t461 t487 t490 t491 _ ?side1 ?side2 A30.out).mono ?_); (case side1 => exact ca_ (Kd.R_reads' HO_3.out).2.2); (case side2 => exact (Kd.R_reads' HO_3.out).2.1); rintro e w81 ⟨v492, rfl, ho0, hb⟩; refine ⟨_, rfl, ?_⟩; have n0_ := Aside0.mk (Kd.R_elder' (ra_ HO_3.out) (Kd.R_base ho0) hb); have n1_ := Aside0.mk (Kd.R_elder' (ra_ HO_4.out) (Kd.R_base ho0) hb); have n2_ := Aside0.mk (Kd.R_elder' (ra_ HO478.out) (Kd.R_base ho0) hb); have n3_ := Aside0.mk (Kd.R_elder' (ra_ HO482.out) (Kd.R_base ho0) hb); have n4_ := Aside0.mk (Kd.R_lower (Kd.R_new' (Kd.R_new' (Kd.R_new' (Kd.R_new' ho0 (Kd.R_lt (ra_ HO_3.out))) (Kd.R_lt (ra_ HO_4.out))) (Kd.R_lt (ra_ HO478.out))) (Kd.R_lt (ra_ HO482.out))) (below_size (by repeat (first | (with_reducible first | exact HB.out | apply below_alloc | apply pw_below_drewN | apply below_drew1 | refine below_set ?_ (IsS56.ge HI486.out)) | exact HB.out)))); have n5_ := Aside0.mk (IsS56.below (is56_ HI486.out) hb); have n6_ := Aside0.mk (below_step (by repeat (first | (with_reducible first | exact HB.out | apply below_alloc | apply pw_below_drewN | apply below_drew1 | refine below_set ?_ (IsS56.ge HI486.out)) | exact HB.out)) hb); clear HO_3; clear HO_4; clear HO478; clear HO482; clear HI486; clear HB; have HO_3 := n0_; have HO_4 := n1_; have HO478 := n2_; have HO482 := n3_; have HO493 := n4_; have HI486 := n5_; have HB := n6_; clear n0_ n1_ n2_ n3_ n4_ n5_ n6_; (try clear hb); (try clear hb2); (try clear hk); (try clear hi); (try clear ho0); obtain ⟨Ao82, co82, eo82⟩ := Kd.R_slice HO493.out; subst eo82) | ((with_reducible refine gate_callee (f := 20) rfl ?_); refine goesL_ (some 91) rfl rfl Try.func20 kr_ rfl #[.slice Ao82 t490.length co82] rfl ta_ ?_; (with_reducible refine (impl_NameOf.calls kj22 _ _ t490 t494 t495 _ ?side1 ?side2 A31.out).mono ?_); (case side1 => exact ca_ (Kd.R_reads' HO493.out).2.2); (case side2 => exact (Kd.R_reads' HO493.out).2.1); rintro e w83 ⟨rfl, hb⟩; refine ⟨_, rfl, ?_⟩; have n0_ := Aside0.mk (Kd.R_below (ra_ HO_3.out) hb); have n1_ := Aside0.mk (Kd.R_below (ra_ HO_4.out) hb); have n2_ := Aside0.mk (Kd.R_below (ra_ HO478.out) hb); have n3_ := Aside0.mk (Kd.R_below (ra_ HO482.out) hb); have n4_ := Aside0.mk (Kd.R_below (ra_ HO493.out) hb); have n5_ := Aside0.mk (IsS56.below (is56_ HI486.out) hb); have n6_ := Aside0.mk (below_step (by repeat (first | (with_reducible first | exact HB.out | apply below_alloc | apply pw_below_drewN | apply below_drew1 | refine below_set ?_ (IsS56.ge HI486.out)) | exact HB.out)) hb); clear HO_3; clear HO_4; clear HO478; clear HO482; clear HO493; clear HI486; clear HB; have HO_3 := n0_; have HO_4 := n1_; have HO478 := n2_; have HO482 := n3_; have HO493 := n4_; have HI486 := n5_; have HB := n6_; clear n0_ n1_ n2_ n3_ n4_ n5_ n6_; (try clear hb); (try clear hb2); (try clear hk); (try clear hi)))
         go_ret
         exact ⟨er_, by repeat (first | (with_reducible first | exact HB.out | apply below_alloc | apply pw_below_drewN | apply below_drew1 | refine below_set ?_ (IsS56.ge HI486.out)) | exact HB.out)⟩

end Go.Proofs.Ytaaodakmelihaaa.PFnNames
