/- Over the kit's printer by a driver of mine (hprint.py), with parts by hand: functions of the program as Lean functions, and that each call comes to exactly these answers. -/
import Derived.Test.YtmdjkmfocgelnaaGreatPFnHexShapesx0
import Derived.Test.YtmdjkmfocgelnaaGreatPFnHexShapesx3
import Derived.Test.YtmdjkmfocgelnaaGreatPFnHexShapesx6
import Derived.Test.YtmdjkmfocgelnaaGreatPFnHexShapesx7
import Derived.Test.YtmdjkmfocgelnaaGreatPFnHexShapesx8
import Derived.Test.YtmdjkmfocgelnaaGreatPFnHexShapesx9
import Derived.Test.YtmdjkmfocgelnaaGreatPFnHexShapesx13
import Derived.Test.YtmdjkmfocgelnaaGreatPFnHexShapesx16
import Derived.Test.YtmdjkmfocgelnaaGreatPFnHexShapesx18
namespace Go.Proofs.YtmdjkmfocgelnaaGreat.PFnHexShapes
open Go.RowKit Go.Proofs.YtmdjkmfocgelnaaGreatW.PrintWords Go.Proofs.YtmdjkmfocgelnaaGreatW.PrintLast Go.Proofs.YtmdjkmfocgelnaaGreatW.PrintMore
attribute [local go_sem] max2_int min2_int max_two min_two max_three min_three max_four min_four   -- for this text's walks alone
set_option linter.unusedVariables false
set_option linter.unusedSimpArgs false

/-! ### spec_HexShapes: function 26 -/
def spec_HexShapes.f (k : Nat) (a0 : Int) : Option ((List (List (S46))) × Int) := (spec_l01In.f a0 1 5).bind fun t379 => (if t379 = true then ((spec_l07All.f k 1 a0).bind fun t380 => ((spec_l07Free.f k 1 t380).bind fun t383 => (some (t383, 0)))) else (some (([] : List (List (S46))), 2)))
theorem spec_HexShapes.mono : ∀ a0 k, LeO (spec_HexShapes.f k a0) (spec_HexShapes.f (k + 1) a0) := by
 intro a0 k
 unfold spec_HexShapes.f
 with_reducible (repeat' first | exact spec_l07All.mono _ _ _ | exact spec_l07Free.mono _ _ _ | exact LeO.refl _ | exact LeO.none _ | refine LeO.ite ?_ ?_ | refine LeO.bind ?_ (fun _ => ?_))
set_option maxHeartbeats 8000000 in
set_option maxRecDepth 100000 in
theorem spec_HexShapes.calls (k : Nat) (a0 : Int) (r1 : List (List (S46))) (r2 : Int) (w : World) (h : spec_HexShapes.f k a0 = some (r1, r2)) :
  Calls Tryz.prog 26 #[.int .i64 a0] w fun e w' => ∃ v0_ : Value, e = .returned (.tuple #[v0_, .int .i64 r2]) ∧ Kd.N (Kd.slice 46 k46) 35 w' w.heap.size (fun k_ => (w.heap.size ≤ k_)) v0_ r1 ∧ Below w.heap.size w w' := by
 have HB := a0_ (Below.refl w.heap.size w)
 have H := h
 clear h
 unfold spec_HexShapes.f at H
 obtain ⟨t379, A2, H⟩ := bs_ H
 by_cases c3 : t379 = true
 ·subst c3
  rw [if_pos rfl] at H
  obtain ⟨t380, A4, H⟩ := bs_ H
  obtain ⟨t383, A5, H⟩ := bs_ H
  simp only [Option.some.injEq, Prod.mk.injEq] at H
  obtain ⟨rfl, rfl⟩ := H
  go_enter Tryz.func26, Tryz.ntmps26
  go_wp2_with (first | ((with_reducible refine gate_callee (f := 43) rfl ?_); refine goesL_ (some 5) rfl rfl Tryz.func43 kr_ rfl #[.int .i64 a0, .int .i64 1, .int .i64 5] rfl ta_ ?_; (with_reducible refine (spec_l01In.calls a0 1 5 true _ A2.out).mono ?_); rintro e w' ⟨rfl, ⟨nd, rfl⟩⟩; refine ⟨_, rfl, ?_⟩) | ((with_reducible refine gate_callee (f := 45) rfl ?_); refine goesL_ (some 8) rfl rfl Tryz.func45 kr_ rfl #[.int .i64 1, .int .i64 a0] rfl ta_ ?_; (with_reducible refine (spec_l07All.calls k 1 a0 t380 _ A4.out).mono ?_); rintro e w6 ⟨v381, rfl, ho0, hb⟩; refine ⟨_, rfl, ?_⟩; have HO382 := a0_ (Kd.V_lower (Kd.V_mono (ok' := fun k_ => (w.heap.size ≤ k_)) ho0 (fun k_ hk_ => (Nat.le_trans (below_size (bl0_)) hk_))) (below_size (bl0_))); replace HB := a0_ (below_step (bl0_) hb); (try clear hb); (try clear hb2); (try clear hk); (try clear hi); (try clear ho0); obtain ⟨Ao7, co7, eo7⟩ := Kd.V_slice HO382.out; subst eo7) | ((with_reducible refine gate_callee (f := 44) rfl ?_); refine goesL_ (some 9) rfl rfl Tryz.func44 kr_ rfl #[.int .i64 1, .slice Ao7 t380.length co7] rfl ta_ ?_; (with_reducible refine (spec_l07Free.calls k 1 (fun k_ => (w.heap.size ≤ k_)) _ _ t380 t383 _ ?side1 A5.out).mono ?_); (case side1 => exact HO382.out); rintro e w8 ⟨v384, rfl, ho0, hb⟩; refine ⟨_, rfl, ?_⟩; replace HO382 := a0_ (Kd.V_elder' (va_ HO382.out) (Kd.N_base ho0) hb); have HO385 := a0_ (Kd.N_lower (Kd.N_mono (ok' := fun k_ => (w.heap.size ≤ k_)) ho0 (fun k_ hk_ => Or.elim hk_ (fun hs_ => hs_) (fun hn_ => (Nat.le_trans (below_size (bl0_)) hn_)))) (below_size (bl0_))); replace HB := a0_ (below_step (bl0_) hb); (try clear hb); (try clear hb2); (try clear hk); (try clear hi); (try clear ho0)))
  go_ret2
  exact ⟨_, er_, by (with_reducible repeat (first | apply Kd.N_alloc | apply Kd.N_drewN | apply Kd.N_drew)); exact HO385.out, bl0_⟩
 ·replace c3 := Bool.eq_false_iff.mpr c3
  subst c3
  rw [if_neg (show ¬ (false = true) by decide)] at H
  simp only [Option.some.injEq, Prod.mk.injEq] at H
  obtain ⟨rfl, rfl⟩ := H
  go_enter Tryz.func26, Tryz.ntmps26
  go_wp2_with (first | ((with_reducible refine gate_callee (f := 43) rfl ?_); refine goesL_ (some 5) rfl rfl Tryz.func43 kr_ rfl #[.int .i64 a0, .int .i64 1, .int .i64 5] rfl ta_ ?_; (with_reducible refine (spec_l01In.calls a0 1 5 false _ A2.out).mono ?_); rintro e w' ⟨rfl, ⟨nd, rfl⟩⟩; refine ⟨_, rfl, ?_⟩))
  go_ret2
  exact ⟨_, er_, by first | exact Kd.S_nil _ _ _ _ _ | exact Kd.N_nil _ _ _ _ _ | exact Kd.V_nil _ _ _ _ _ | exact Kd.Q_nil _ _ _ _ _ | exact Kd.R_nil _ _ _ _ _, bl0_⟩

/-! ### impl_CountHexes: function 27 -/
/-! How many hex shapes there are, and how many are their own least form. -/
def impl_CountHexes.f (k : Nat) (n : Int) : Option (Int × Int × Int) := if 1 ≤ n ∧ n ≤ 5 then (impl_allHexes.f n).bind fun L => if L.length ≤ 1000000 then (ownG k (impl_hexForm.f k) L).bind fun r => some ((L.length : Int), (r.length : Int), 0) else none else some (0, 0, 2)
theorem impl_CountHexes.mono (n : Int) (k : Nat) : LeO (impl_CountHexes.f k n) (impl_CountHexes.f (k + 1) n) := by
 unfold impl_CountHexes.f
 exact LeO.ite (LeO.bind (LeO.refl _) (fun L => LeO.ite (LeO.bind (ownG_mono k L) (fun q => LeO.refl _)) (LeO.refl _))) (LeO.refl _)
set_option maxHeartbeats 1000000 in
theorem impl_CountHexes.calls (k : Nat) (n : Int) (r1 r2 r3 : Int) (w : World) (h : impl_CountHexes.f k n = some (r1, r2, r3)) :
  Calls Tryz.prog 27 #[.int .i64 n] w fun e w' => e = .returned (.tuple #[.int .i64 r1, .int .i64 r2, .int .i64 r3]) ∧ Below w.heap.size w w' := by
 unfold impl_CountHexes.f at h
 by_cases hc : 1 ≤ n ∧ n ≤ 5
 ·rw [if_pos hc] at h
  obtain ⟨L, hL, h2⟩ := Option.bind_eq_some_iff.mp h
  split at h2
  case isFalse => cases h2
  rename_i hl
  obtain ⟨r, hr, h3⟩ := Option.bind_eq_some_iff.mp h2
  have h4 := Option.some.inj h3
  injection h4 with h5 h6
  injection h6 with h7 h8
  subst h5 h7 h8
  have hw : impl_within.f n 1 5 = some true := by unfold impl_within.f; simp [hc.1, hc.2]
  have hwc := fun W => impl_within.calls n 1 5 true W hw
  have hall := fun W => allHexes_S n L W hL
  have HO := Aside0.mk hr
  have HL := Aside0.mk hl
  clear h h2 h3 hL hr hl hc hw
  go_enter Tryz.func27, Tryz.ntmps27
  go_wp2_with (first | (go_at_call 39; (refine (hwc _).mono ?_; rintro e w1 ⟨rfl, ⟨nq, rfl⟩⟩; have HB1 := a0_ (pw_below_drewN (Below.refl w.heap.size w) nq))) | (go_at_call 67; (refine (hall _).mono ?_; rintro e w2 ⟨v2, rfl, hS, hb⟩; obtain ⟨A2, c2, rfl⟩ := Kd.S_slice hS; have HS2 := a0_ (Kd.R_lower (Kd.S_R hS) HB1.out.size); have HB2 := a0_ (below_step HB1.out hb); clear hS hb hall)) | (go_at_call 40; (refine (ownLeast_calls k 68 _ (formH k) _ L r w _ HB2.out HS2.out HL.out HO.out).mono ?_; rintro e w3 ⟨v3, rfl, hR, hb⟩; obtain ⟨A3, c3, rfl⟩ := Kd.R_slice hR; have HB3 := Aside0.mk hb; clear hR hb)))
  go_ret3
  exact ⟨rfl, HB3.out⟩
 ·rw [if_neg hc] at h
  have h4 := Option.some.inj h
  injection h4 with h5 h6
  injection h6 with h7 h8
  subst h5 h7 h8
  have hw : impl_within.f n 1 5 = some false := by unfold impl_within.f; simp; omega
  have hwc := fun W => impl_within.calls n 1 5 false W hw
  clear h hc hw
  go_enter Tryz.func27, Tryz.ntmps27
  go_wp2_with (go_at_call 39; (refine (hwc _).mono ?_; rintro e w1 ⟨rfl, ⟨nq, rfl⟩⟩; have HB1 := a0_ (pw_below_drewN (Below.refl w.heap.size w) nq)))
  go_ret3
  exact ⟨rfl, HB1.out⟩


/-! ### spec_CountHexes: function 28 -/
def spec_CountHexes.f (k : Nat) (a0 : Int) : Option (Int × Int × Int) := (spec_l01In.f a0 1 5).bind fun t386 => (if t386 = true then ((spec_l07All.f k 1 a0).bind fun t387 => ((spec_l07Free.f k 1 t387).bind fun t390 => (some ((t387.length : Int), (t390.length : Int), 0)))) else (some (0, 0, 2)))
theorem spec_CountHexes.mono : ∀ a0 k, LeO (spec_CountHexes.f k a0) (spec_CountHexes.f (k + 1) a0) := by
 intro a0 k
 unfold spec_CountHexes.f
 with_reducible (repeat' first | exact spec_l07All.mono _ _ _ | exact spec_l07Free.mono _ _ _ | exact LeO.refl _ | exact LeO.none _ | refine LeO.ite ?_ ?_ | refine LeO.bind ?_ (fun _ => ?_))
set_option maxHeartbeats 8000000 in
set_option maxRecDepth 100000 in
theorem spec_CountHexes.calls (k : Nat) (a0 : Int) (r1 : Int) (r2 : Int) (r3 : Int) (w : World) (h : spec_CountHexes.f k a0 = some (r1, r2, r3)) :
  Calls Tryz.prog 28 #[.int .i64 a0] w fun e w' => e = .returned (.tuple #[.int .i64 r1, .int .i64 r2, .int .i64 r3]) ∧ Below w.heap.size w w' := by
 have HB := a0_ (Below.refl w.heap.size w)
 have H := h
 clear h
 unfold spec_CountHexes.f at H
 obtain ⟨t386, A2, H⟩ := bs_ H
 by_cases c3 : t386 = true
 ·subst c3
  rw [if_pos rfl] at H
  obtain ⟨t387, A4, H⟩ := bs_ H
  obtain ⟨t390, A5, H⟩ := bs_ H
  simp only [Option.some.injEq, Prod.mk.injEq] at H
  obtain ⟨rfl, rfl, rfl⟩ := H
  go_enter Tryz.func28, Tryz.ntmps28
  go_wp2_with (first | ((with_reducible refine gate_callee (f := 43) rfl ?_); refine goesL_ (some 7) rfl rfl Tryz.func43 kr_ rfl #[.int .i64 a0, .int .i64 1, .int .i64 5] rfl ta_ ?_; (with_reducible refine (spec_l01In.calls a0 1 5 true _ A2.out).mono ?_); rintro e w' ⟨rfl, ⟨nd, rfl⟩⟩; refine ⟨_, rfl, ?_⟩) | ((with_reducible refine gate_callee (f := 45) rfl ?_); refine goesL_ (some 10) rfl rfl Tryz.func45 kr_ rfl #[.int .i64 1, .int .i64 a0] rfl ta_ ?_; (with_reducible refine (spec_l07All.calls k 1 a0 t387 _ A4.out).mono ?_); rintro e w6 ⟨v388, rfl, ho0, hb⟩; refine ⟨_, rfl, ?_⟩; have HO389 := a0_ (Kd.V_lower (Kd.V_mono (ok' := fun k_ => True) ho0 (fun k_ hk_ => trivial)) (below_size (bl0_))); replace HB := a0_ (below_step (bl0_) hb); (try clear hb); (try clear hb2); (try clear hk); (try clear hi); (try clear ho0); obtain ⟨Ao7, co7, eo7⟩ := Kd.V_slice HO389.out; subst eo7) | ((with_reducible refine gate_callee (f := 44) rfl ?_); refine goesL_ (some 14) rfl rfl Tryz.func44 kr_ rfl #[.int .i64 1, .slice Ao7 t387.length co7] rfl ta_ ?_; (with_reducible refine (spec_l07Free.calls k 1 (fun k_ => True) _ _ t387 t390 _ ?side1 A5.out).mono ?_); (case side1 => exact HO389.out); rintro e w8 ⟨v391, rfl, ho0, hb⟩; refine ⟨_, rfl, ?_⟩; replace HO389 := a0_ (Kd.V_elder' (va_ HO389.out) (Kd.N_base ho0) hb); have HO392 := a0_ (Kd.N_lower (Kd.N_mono (ok' := fun k_ => True) ho0 (fun k_ hk_ => trivial)) (below_size (bl0_))); replace HB := a0_ (below_step (bl0_) hb); (try clear hb); (try clear hb2); (try clear hk); (try clear hi); (try clear ho0); obtain ⟨Ao9, co9, eo9⟩ := Kd.N_slice HO392.out; subst eo9))
  go_ret3
  exact ⟨er_, bl0_⟩
 ·replace c3 := Bool.eq_false_iff.mpr c3
  subst c3
  rw [if_neg (show ¬ (false = true) by decide)] at H
  simp only [Option.some.injEq, Prod.mk.injEq] at H
  obtain ⟨rfl, rfl, rfl⟩ := H
  go_enter Tryz.func28, Tryz.ntmps28
  go_wp2_with (first | ((with_reducible refine gate_callee (f := 43) rfl ?_); refine goesL_ (some 7) rfl rfl Tryz.func43 kr_ rfl #[.int .i64 a0, .int .i64 1, .int .i64 5] rfl ta_ ?_; (with_reducible refine (spec_l01In.calls a0 1 5 false _ A2.out).mono ?_); rintro e w' ⟨rfl, ⟨nd, rfl⟩⟩; refine ⟨_, rfl, ?_⟩))
  go_ret3
  exact ⟨er_, bl0_⟩

/-! ### spec_DrawHexAround: function 29 -/
def spec_DrawHexAround.f (k : Nat) (l0 : List Int) : Option (Int × Int) := (spec_l01From.f k l0).bind fun bt394 => ((spec_l01Next.f bt394.1 bt394.2.1 bt394.2.2 9).bind fun bt398 => ((some (([bt398.1, (-100), 101] : List Int) : List Int)).bind fun y401 => ((spec_l01Next.f bt394.1 bt398.2.1 bt398.2.2 3).bind fun bt404 => (if 0 ≤ bt404.1 then (if bt404.1 < (y401.length : Int) then ((spec_l01Next.f bt394.1 bt404.2.1 bt404.2.2 9).bind fun bt408 => (some (rd y401 bt404.1, wrap64 (bt408.1 - 4)))) else (none)) else (none)))))
theorem spec_DrawHexAround.mono : ∀ a0 k, LeO (spec_DrawHexAround.f k a0) (spec_DrawHexAround.f (k + 1) a0) := by
 intro a0 k
 unfold spec_DrawHexAround.f
 with_reducible (repeat' first | exact spec_l01From.mono _ _ | exact LeO.refl _ | exact LeO.none _ | refine LeO.ite ?_ ?_ | refine LeO.bind ?_ (fun _ => ?_))
def spec_DrawHexAround.T2 : Bool × List (List Nat × List Nat) := (true, [([], []), ([0], [0]), ([1], [1]), ([], []), ([3, 1], [3]), ([2, 4], [2, 4]), ([5], [5]), ([], []), ([7, 4], [7]), ([8], [8]), ([6, 9], [6, 9]), ([10, 8, 0, 1, 2, 3, 4, 5, 6, 7, 8, 9, 10], [10])])
def spec_DrawHexAround.B2 : List Nat := [0, 1, 3, 0, 11, 31, 63, 0, 155, 411, 1023, 2047]
theorem spec_DrawHexAround.tab2 : rtab .any (opsOf Tryz.f29 2) = spec_DrawHexAround.T2 := by kernel_rfl
theorem spec_DrawHexAround.bits2 : waitsOk spec_DrawHexAround.T2.2 spec_DrawHexAround.B2 = true := by kernel_rfl
set_option maxHeartbeats 8000000 in
set_option maxRecDepth 100000 in
theorem spec_DrawHexAround.calls (k : Nat) (A0 : Option Addr) (c0 : Nat) (l0 : List Int) (r1 : Int) (r2 : Int) (w : World) (hr0 : Kd.C (Kd.int .u8) w A0 l0.length l0) (hc0 : l0.length ≤ c0) (h : spec_DrawHexAround.f k l0 = some (r1, r2)) :
  Calls Tryz.prog 29 #[.slice A0 l0.length c0] w fun e w' => e = .returned (.agg #[.int .i64 r1, .int .i64 r2]) ∧ Below w.heap.size w w' := by
 have hu46 := Tryz.underlying46
 have HR0 := Aside0.mk hr0
 have HC0 := Aside0.mk hc0
 clear hr0 hc0
 have HB := a0_ (Below.refl w.heap.size w)
 have H := h
 clear h
 unfold spec_DrawHexAround.f at H
 obtain ⟨⟨t394, t395, t396⟩, A2, H⟩ := bs_ H
 dsimp only at H
 obtain ⟨⟨t398, t399, t400⟩, A3, H⟩ := bs_ H
 dsimp only at H
 obtain ⟨y401, hy401⟩ : ∃ y_ : List Int, y_ = (([t398, (-100), 101] : List Int)) := ⟨_, rfl⟩
 replace H : ((spec_l01Next.f t394 t399 t400 3).bind fun bt404 => (if 0 ≤ bt404.1 then (if bt404.1 < (y401.length : Int) then ((spec_l01Next.f t394 bt404.2.1 bt404.2.2 9).bind fun bt408 => (some (rd y401 bt404.1, wrap64 (bt408.1 - 4)))) else (none)) else (none))) = some (r1, r2) := hh_ hy401 H
 have Ny401 := Aside0.mk hy401
 clear hy401
 obtain ⟨⟨t404, t405, t406⟩, A4, H⟩ := bs_ H
 dsimp only at H
 by_cases c5 : 0 ≤ t404
 ·rw [if_pos c5] at H
  have c5b0 : decide (0 ≤ t404) = true := decide_eq_true c5
  clear c5
  by_cases c6 : t404 < (y401.length : Int)
  ·rw [if_pos c6] at H
   have c6b0 : decide (t404 < (y401.length : Int)) = true := decide_eq_true c6
   clear c6
   obtain ⟨⟨t408, t409, t410⟩, A7, H⟩ := bs_ H
   dsimp only at H
   simp only [Option.some.injEq, Prod.mk.injEq] at H
   obtain ⟨rfl, rfl⟩ := H
   go_enter Tryz.func29, Tryz.ntmps29
   try go_wp2_with (first | ((with_reducible refine gate_dst (N := 2) rfl ?_); refine bx_ (N := 2) (cs := #[.int .i64 0, .int .i64 0]) (t := 46) ?_; intro gb393 hg w8 hbox hb; have BK393 := a0_ (hbox); have GW393 := a0_ ((sz_ hg (bl0_) : w.heap.size ≤ gb393)); have GE393 := a0_ ((sz_ hg (bl0_) : w.heap.size ≤ gb393)); replace HB := a0_ (below_step (bl0_) hb); clear hb hbox hg) | ((with_reducible refine gate_callee (f := 37) rfl ?_); refine goesL_ (some 5) rfl rfl Tryz.func37 kr_ rfl #[.slice A0 l0.length c0] rfl ta_ ?_; (with_reducible refine (spec_l01From.calls k _ _ l0 t394 t395 t396 w _ ?side1 ?side2 ?side3 A2.out).mono ?_); (case side1 => exact bl1_ GE393.out); (case side2 => exact HR0.out); (case side3 => exact HC0.out); rintro e w9 ⟨g397, rfl, hi, hb, hb2⟩; refine ⟨_, rfl, ?_⟩; replace HB := a0_ (hb); have HI397 := a0_ (hi); have NB397_393 := a0_ (IsS85.ne_blk hi (bb_ BK393.out hb2) (by decide)); have NB393_397 := a0_ (Ne.symm (IsS85.ne_blk hi (bb_ BK393.out hb2) (by decide))); replace BK393 := a0_ (bb_ BK393.out hb2); (try clear hb); (try clear hb2); (try clear hk); (try clear hi)))
   have pi407 : (0 ≤ (t404 : Int)) = True := eq_true (od_)
   have qi407 : (t404 < (y401.length : Int)) = True := eq_true (od_)
   replace BK393 := a0_ (blk_drew BK393.out)
   replace HI397 := a0_ (IsS85.drew HI397.out)
   replace HB := a0_ (below_drew1 HB.out)
   refine start_ (n := 12) (S := fun w' => True) (ds := []) (mk_ 0 12) kr_ rfl rfl trivial (fun hHeld => ?_); refine with_tabW spec_DrawHexAround.tab2 spec_DrawHexAround.bits2 (fun HT_ HW_ => ?_)
   generalize w9.drew = w10 at BK393 HI397 HB hHeld ⊢
   refine pu_ 0 (some 6) (mk_ 1 11) HT_ ?_
   refine pu_ 3 (some 9) #[true, false, false, true, false, false, false, false, false, false, false, false] HT_ ?_
   refine pu_ 7 (some 13) #[true, false, false, true, false, false, false, true, false, false, false, false] HT_ ?_
   refine inv_at [1, 2, 4, 5, 6, 8, 9, 10, 11] (fun a0_ b a w' => ∃ (v402 : Value) (adz_v402 : Addr) (m5_ : Value), a = putSel a0_ b [(1, 7, .int .i64 t398), (2, 8, v402), (4, 10, .int .i64 t404), (5, 11, m5_), (6, 12, .int .i64 (rd y401 t404)), (8, 14, .int .i64 t408), (9, 15, .int .i64 (wrap64 (t408 - 4))), (10, 16, .agg #[.int .i64 (rd y401 t404), .int .i64 (wrap64 (t408 - 4))])] ∧ (b 11 = false → w'.heap[gb393]? = some (.cells #[.int .i64 0, .int .i64 0] 46 (0, 0))) ∧ (b 1 = false → IsS85 w w' g397 t394 t395 t396) ∧ (Below w.heap.size w w') ∧ (b 1 = true → b 4 = false → IsS85 w w' g397 t394 t399 t400) ∧ (b 2 = true → Kd.R (Kd.int .i64) 2 w' w.heap.size (fun _ => True) v402 y401) ∧ (b 2 = true → ∃ c_, (v402 : Value) = .slice (some adz_v402) y401.length c_) ∧ (b 4 = true → b 8 = false → IsS85 w w' g397 t394 t405 t406) ∧ (b 8 = true → IsS85 w w' g397 t394 t409 t410) ∧ (b 11 = true → w'.heap[gb393]? = some (.cells #[.int .i64 (rd y401 t404), .int .i64 (wrap64 (t408 - 4))] 46 (0, 0))) ∧ (b 5 = true → (m5_ : Value) = .pointer (some (adz_v402.add (t404).toNat)))) HT_.out HW_.out kr_ kr_ ?_ ?_ ?_
   ·exact ⟨.bool false, ⟨0, 0, none⟩, .bool false, by simp only [putSel, Bool.false_eq_true, if_false], fun _ => BK393.out, fun _ => HI397.out, HB.out, fun h_ => absurd h_ (by decide), fun h_ => absurd h_ (by decide), fun h_ => absurd h_ (by decide), fun h_ => absurd h_ (by decide), fun h_ => absurd h_ (by decide), fun h_ => absurd h_ (by decide), fun h_ => absurd h_ (by decide)⟩
   ·skip
    clear BK393 HB HI397
    refine steps_cons ?_ ?_
    ·rintro b a w' ⟨v402, adz_v402, m5_, ha, Q_BK393, Q_HI397, Q_HB, Q_HI397_e1, Q_HO403, Q_HA_HO403, Q_HI397_e4, Q_HI397_e8, Q_BK393_e11, Q_X5_⟩ hb_ hon hoff
     refine ⟨_, rfl, fun K hK => ?_⟩
     have e6 : a.tmps[6]? = some (.pointer (some ⟨g397, 0, none⟩)) := by rw [ha]; exact (putSel_off rfl).trans rfl
     replace ha := Aside0.mk ha
     have BK393 := a0_ (Q_BK393 (hoff 11 kr_))
     have HI397 := a0_ (Q_HI397 hb_)
     have HB := Aside0.mk Q_HB
     refine goes_ Tryz.func38 kr_ rfl #[.pointer (some ⟨g397, 0, none⟩), .int .i64 9] (by rfl) rfl rfl (by first | (simp only [List.map_toArray, List.map_cons, List.map_nil, Act.eval, Array.getD_eq_getD_getElem?, Option.getD_some, e6]; done) | (simp only [List.map_toArray, List.map_cons, List.map_nil, Act.eval, Array.getD_eq_getD_getElem?, Option.getD_some, e6]; rfl)) ?_
     with_reducible refine (spec_l01Next.calls g397 t394 t395 t396 9 t398 t399 t400 w _ ?side1 ?side2 A3.out).mono ?_
     (case side1 => repeat (first | (with_reducible first | exact HI397.out | apply IsS85.alloc | apply IsS85.drewN | apply IsS85.drew | apply IsS85.set_1 | apply IsS85.set_2 | refine IsS85.far ?_ NB397_393.out _) | exact HI397.out))
     (case side2 => exact bl2_ (IsS85.ge HI397.out) GE393.out)
     rintro e w11 ⟨rfl, hi, hb, hk⟩
     refine ⟨_, rfl, ?_⟩
     replace BK393 := a0_ (KeepBut.blk hk (g' := gb393) (o := .cells #[.int .i64 0, .int .i64 0] 46 (0, 0)) (bk_ BK393.out) NB393_397.out (by simp))
     replace HB := a0_ (hb)
     replace HI397 := a0_ (hi)
     (try clear hb)
     (try clear hb2)
     (try clear hk)
     (try clear hi)
     refine hK.out _ _ ⟨v402, adz_v402, m5_, (by rw [ha.out]; exact putSel_upk 0 hb_ rfl rfl rfl), fun _ => (bk_ BK393.out), fun h0_ => absurd ((up_self b 1).symm.trans h0_) (by decide), (bl2_ (IsS85.ge HI397.out) GE393.out), fun _ _ => (by repeat (first | (with_reducible first | exact HI397.out | apply IsS85.alloc | apply IsS85.drewN | apply IsS85.drew | apply IsS85.set_1 | apply IsS85.set_2 | refine IsS85.far ?_ NB397_393.out _) | exact HI397.out)), fun h0_ => absurd ((hoff 2 kr_).symm.trans h0_) (by decide), fun h0_ => absurd ((hoff 2 kr_).symm.trans h0_) (by decide), fun h0_ _ => absurd ((hoff 4 kr_).symm.trans h0_) (by decide), fun h0_ => absurd ((hoff 8 kr_).symm.trans h0_) (by decide), fun h0_ => absurd ((hoff 11 kr_).symm.trans h0_) (by decide), fun h0_ => absurd ((hoff 5 kr_).symm.trans h0_) (by decide)⟩
    refine steps_cons ?_ ?_
    ·rintro b a w' ⟨v402, adz_v402, m5_, ha, Q_BK393, Q_HI397, Q_HB, Q_HI397_e1, Q_HO403, Q_HA_HO403, Q_HI397_e4, Q_HI397_e8, Q_BK393_e11, Q_X5_⟩ hb_ hon hoff
     refine ⟨_, rfl, fun K hK => ?_⟩
     have e7 : a.tmps[7]? = some (.int .i64 t398) := by rw [ha]; exact putSel_on (e := (1, 7, .int .i64 t398)) 0 rfl rfl (hon 1 kr_) rfl
     replace ha := Aside0.mk ha
     have BK393 := a0_ (Q_BK393 (hoff 11 kr_))
     have HB := Aside0.mk Q_HB
     refine Kd.R_lit_step (Kd.int .i64) _ 2 ?hg (N := 8) ?hd (xs := ([t398, (-100), 101] : List Int)) (inner := [.int .i64 t398, .int .i64 (-100), .int .i64 101]) (ok := fun _ => True) (okp := fun _ => True) ?hr ?hp (fun _ hk => hk) trivial (Below.refl _ _) (Nat.le_refl _) (by simp) ?_; (case hd => rfl); (case hg => rfl); (case hr => first | (go_simp; done) | (go_simp; rfl)); (case hp => exact (Reps.one (show Kd.M (Kd.int .i64) _ _ _ t398 [.int .i64 t398] from rfl) (Reps.one (show Kd.M (Kd.int .i64) _ _ _ (-100) [.int .i64 (-100)] from rfl) (Reps.one (show Kd.M (Kd.int .i64) _ _ _ 101 [.int .i64 101] from rfl) (Reps.none _ _)))))
     intro v402 w13 ho14 hb hg_ hnew_
     clear hg_ hnew_
     (first | rw [← Ny401.out] at ho14 | (simp only [Int.reduceToNat] at ho14; rw [← Ny401.out] at ho14))
     have n0_ := a0_ (Kd.R_lower ho14 (below_size (bl1_ GE393.out)))
     have n1_ := a0_ (bb_ BK393.out hb)
     have n3_ := a0_ (below_step (bl1_ GE393.out) hb)
     have z_HI397_e1 := fun (h0_ : b 1 = true) (h1_ : b 4 = false) => (show IsS85 w w13 g397 t394 t399 t400 from by first | exact (IsS85.below (by repeat (first | (with_reducible first | exact (Q_HI397_e1 h0_ h1_) | apply IsS85.alloc | apply IsS85.drewN | apply IsS85.drew | apply IsS85.set_1 | apply IsS85.set_2 | refine IsS85.far ?_ NB397_393.out _) | exact (Q_HI397_e1 h0_ h1_))) hb))
     have z_HI397_e4 := fun (h0_ : b 4 = true) (h1_ : b 8 = false) => (show IsS85 w w13 g397 t394 t405 t406 from by first | exact (IsS85.below (by repeat (first | (with_reducible first | exact (Q_HI397_e4 h0_ h1_) | apply IsS85.alloc | apply IsS85.drewN | apply IsS85.drew | apply IsS85.set_1 | apply IsS85.set_2 | refine IsS85.far ?_ NB397_393.out _) | exact (Q_HI397_e4 h0_ h1_))) hb))
     have z_HI397_e8 := fun (h0_ : b 8 = true) => (show IsS85 w w13 g397 t394 t409 t410 from by first | exact (IsS85.below (by repeat (first | (with_reducible first | exact (Q_HI397_e8 h0_) | apply IsS85.alloc | apply IsS85.drewN | apply IsS85.drew | apply IsS85.set_1 | apply IsS85.set_2 | refine IsS85.far ?_ NB397_393.out _) | exact (Q_HI397_e8 h0_))) hb))
     clear BK393
     clear HB
     have HO403 := n0_
     have BK393 := n1_
     have HB := n3_
     clear n0_ n1_ n3_
     clear hb ho14
     obtain ⟨Ao15, co15, eo15⟩ := Kd.R_slice HO403.out
     subst eo15
     obtain ⟨ado15, fo15, _⟩ := Kd.at_int (Kd.R_reads' HO403.out).2.2 0 (by decide) (by rw [Ny401.out]; simp)
     cases fo15
     refine hK.out _ _ ⟨.slice (some ado15) y401.length co15, ado15, m5_, (by rw [ha.out]; exact putSel_upk 1 hb_ rfl rfl rfl), fun _ => (bk_ BK393.out), fun h0_ => absurd ((hon 1 kr_).symm.trans h0_) (by decide), (bl1_ GE393.out), z_HI397_e1, fun _ => (ra_ HO403.out), fun _ => ⟨_, rfl⟩, z_HI397_e4, z_HI397_e8, fun h0_ => absurd ((hoff 11 kr_).symm.trans h0_) (by decide), fun h0_ => absurd ((hoff 5 kr_).symm.trans h0_) (by decide)⟩
    refine steps_cons ?_ ?_
    ·rintro b a w' ⟨v402, adz_v402, m5_, ha, Q_BK393, Q_HI397, Q_HB, Q_HI397_e1, Q_HO403, Q_HA_HO403, Q_HI397_e4, Q_HI397_e8, Q_BK393_e11, Q_X5_⟩ hb_ hon hoff
     refine ⟨_, rfl, fun K hK => ?_⟩
     have e9 : a.tmps[9]? = some (.pointer (some ⟨g397, 0, none⟩)) := by rw [ha]; exact (putSel_off rfl).trans rfl
     replace ha := Aside0.mk ha
     have BK393 := a0_ (Q_BK393 (hoff 11 kr_))
     have HB := Aside0.mk Q_HB
     have HI397 := a0_ (Q_HI397_e1 (hon 1 kr_) hb_)
     refine goes_ Tryz.func38 kr_ rfl #[.pointer (some ⟨g397, 0, none⟩), .int .i64 3] (by rfl) rfl rfl (by first | (simp only [List.map_toArray, List.map_cons, List.map_nil, Act.eval, Array.getD_eq_getD_getElem?, Option.getD_some, e9]; done) | (simp only [List.map_toArray, List.map_cons, List.map_nil, Act.eval, Array.getD_eq_getD_getElem?, Option.getD_some, e9]; rfl)) ?_
     with_reducible refine (spec_l01Next.calls g397 t394 t399 t400 3 t404 t405 t406 w _ ?side1 ?side2 A4.out).mono ?_
     (case side1 => repeat (first | (with_reducible first | exact HI397.out | apply IsS85.alloc | apply IsS85.drewN | apply IsS85.drew | apply IsS85.set_1 | apply IsS85.set_2 | refine IsS85.far ?_ NB397_393.out _) | exact HI397.out))
     (case side2 => exact bl2_ (IsS85.ge HI397.out) GE393.out)
     rintro e w13 ⟨rfl, hi, hb, hk⟩
     refine ⟨_, rfl, ?_⟩
     have n0_ := a0_ (KeepBut.blk hk (g' := gb393) (o := .cells #[.int .i64 0, .int .i64 0] 46 (0, 0)) (bk_ BK393.out) NB393_397.out (by simp))
     have n1_ := a0_ (hb)
     have n2_ := a0_ (hi)
     have z_HO403 := fun (h0_ : b 2 = true) => (show Kd.R (Kd.int .i64) 2 w13 w.heap.size (fun _ => True) v402 y401 from by first | exact (Kd.R_mono (Kd.R_keep (IsS85.apart (show IsS85 w _ g397 t394 t399 t400 from by repeat (first | (with_reducible first | exact HI397.out | apply IsS85.alloc | apply IsS85.drewN | apply IsS85.drew | apply IsS85.set_1 | apply IsS85.set_2 | refine IsS85.far ?_ NB397_393.out _) | exact HI397.out)) (by (with_reducible repeat (first | apply Kd.R_alloc | apply Kd.R_drewN | apply Kd.R_drew)); exact (Q_HO403 h0_)) (by decide)) hk (fun _ h => h.2)) (fun _ h => h.1)) | exact Kd.R_mono (Kd.R_mono (Kd.R_keep (IsS85.apart (show IsS85 w _ g397 t394 t399 t400 from by repeat (first | (with_reducible first | exact HI397.out | apply IsS85.alloc | apply IsS85.drewN | apply IsS85.drew | apply IsS85.set_1 | apply IsS85.set_2 | refine IsS85.far ?_ NB397_393.out _) | exact HI397.out)) (by (with_reducible repeat (first | apply Kd.R_alloc | apply Kd.R_drewN | apply Kd.R_drew)); exact (Q_HO403 h0_)) (by decide)) hk (fun _ h => h.2)) (fun _ h => h.1)) (fun _ h_ => by first | trivial | exact h_ | exact h_.1))
     clear BK393
     clear HB
     clear HI397
     have BK393 := n0_
     have HB := n1_
     have HI397 := n2_
     clear n0_ n1_ n2_
     (try clear hb)
     (try clear hb2)
     (try clear hk)
     (try clear hi)
     refine hK.out _ _ ⟨v402, adz_v402, m5_, (by rw [ha.out]; exact putSel_upk 2 hb_ rfl rfl rfl), fun _ => (bk_ BK393.out), fun h0_ => absurd ((hon 1 kr_).symm.trans h0_) (by decide), (bl2_ (IsS85.ge HI397.out) GE393.out), fun _ h1_ => absurd ((up_self b 4).symm.trans h1_) (by decide), z_HO403, Q_HA_HO403, fun _ _ => (by repeat (first | (with_reducible first | exact HI397.out | apply IsS85.alloc | apply IsS85.drewN | apply IsS85.drew | apply IsS85.set_1 | apply IsS85.set_2 | refine IsS85.far ?_ NB397_393.out _) | exact HI397.out)), fun h0_ => absurd ((hoff 8 kr_).symm.trans h0_) (by decide), fun h0_ => absurd ((hoff 11 kr_).symm.trans h0_) (by decide), fun h0_ => absurd ((hoff 5 kr_).symm.trans h0_) (by decide)⟩
    refine steps_cons ?_ ?_
    ·rintro b a w' ⟨v402, adz_v402, m5_, ha, Q_BK393, Q_HI397, Q_HB, Q_HI397_e1, Q_HO403, Q_HA_HO403, Q_HI397_e4, Q_HI397_e8, Q_BK393_e11, Q_X5_⟩ hb_ hon hoff
     refine ⟨_, rfl, fun K hK => ?_⟩
     have e8 : a.tmps[8]? = some (v402) := by rw [ha]; exact putSel_on (e := (2, 8, v402)) 1 rfl rfl (hon 2 kr_) rfl
     have e10 : a.tmps[10]? = some (.int .i64 t404) := by rw [ha]; exact putSel_on (e := (4, 10, .int .i64 t404)) 2 rfl rfl (hon 4 kr_) rfl
     replace ha := Aside0.mk ha
     have BK393 := a0_ (Q_BK393 (hoff 11 kr_))
     have HB := Aside0.mk Q_HB
     have HO403 := a0_ (Q_HO403 (hon 2 kr_))
     have HA_HO403 := a0_ (Q_HA_HO403 (hon 2 kr_))
     obtain ⟨c_, hv_⟩ := HA_HO403.out
     rw [hv_] at e8
     refine value_ (w1 := w') (v := .pointer (some (adz_v402.add (t404).toNat))) (by rfl) rfl ?_ ?_
     ·go_simp
      (try simp only [i64_w])
      try rfl
     refine hK.out _ _ ⟨v402, adz_v402, (.pointer (some (adz_v402.add (t404).toNat))), (by rw [ha.out]; exact putSel_upk 3 hb_ rfl rfl rfl), Q_BK393, fun h0_ => absurd ((hon 1 kr_).symm.trans h0_) (by decide), Q_HB, fun _ h1_ => absurd ((hon 4 kr_).symm.trans h1_) (by decide), Q_HO403, Q_HA_HO403, Q_HI397_e4, Q_HI397_e8, fun h0_ => absurd ((hoff 11 kr_).symm.trans h0_) (by decide), fun _ => rfl⟩
    refine steps_cons ?_ ?_
    ·rintro b a w' ⟨v402, adz_v402, m5_, ha, Q_BK393, Q_HI397, Q_HB, Q_HI397_e1, Q_HO403, Q_HA_HO403, Q_HI397_e4, Q_HI397_e8, Q_BK393_e11, Q_X5_⟩ hb_ hon hoff
     refine ⟨_, rfl, fun K hK => ?_⟩
     have e11 : a.tmps[11]? = some (m5_) := by rw [ha]; exact putSel_on (e := (5, 11, m5_)) 3 rfl rfl (hon 5 kr_) rfl
     rw [Q_X5_ (hon 5 kr_)] at e11
     replace ha := Aside0.mk ha
     have BK393 := a0_ (Q_BK393 (hoff 11 kr_))
     have HB := Aside0.mk Q_HB
     have HO403 := a0_ (Q_HO403 (hon 2 kr_))
     have HA_HO403 := a0_ (Q_HA_HO403 (hon 2 kr_))
     obtain ⟨c_, hv_⟩ := HA_HO403.out
     have hF_ := HO403.out
     rw [hv_] at hF_
     obtain ⟨ad_, ea_, hx_⟩ := Kd.at_int (Kd.R_reads' hF_).2.2 t404 (of_eq_true pi407) (of_eq_true qi407)
     cases ea_
     refine value_ (w1 := w') (v := .int .i64 (rd y401 t404)) (by rfl) rfl ?_ ?_
     ·go_simp
      (try simp only [i64_w])
      try rfl
     refine hK.out _ _ ⟨v402, adz_v402, m5_, (by rw [ha.out]; exact putSel_upk 4 hb_ rfl rfl rfl), Q_BK393, fun h0_ => absurd ((hon 1 kr_).symm.trans h0_) (by decide), Q_HB, fun _ h1_ => absurd ((hon 4 kr_).symm.trans h1_) (by decide), Q_HO403, Q_HA_HO403, Q_HI397_e4, Q_HI397_e8, fun h0_ => absurd ((hoff 11 kr_).symm.trans h0_) (by decide), Q_X5_⟩
    refine steps_cons ?_ ?_
    ·rintro b a w' ⟨v402, adz_v402, m5_, ha, Q_BK393, Q_HI397, Q_HB, Q_HI397_e1, Q_HO403, Q_HA_HO403, Q_HI397_e4, Q_HI397_e8, Q_BK393_e11, Q_X5_⟩ hb_ hon hoff
     refine ⟨_, rfl, fun K hK => ?_⟩
     have e13 : a.tmps[13]? = some (.pointer (some ⟨g397, 0, none⟩)) := by rw [ha]; exact (putSel_off rfl).trans rfl
     replace ha := Aside0.mk ha
     have BK393 := a0_ (Q_BK393 (hoff 11 kr_))
     have HB := Aside0.mk Q_HB
     have HI397 := a0_ (Q_HI397_e4 (hon 4 kr_) hb_)
     refine goes_ Tryz.func38 kr_ rfl #[.pointer (some ⟨g397, 0, none⟩), .int .i64 9] (by rfl) rfl rfl (by first | (simp only [List.map_toArray, List.map_cons, List.map_nil, Act.eval, Array.getD_eq_getD_getElem?, Option.getD_some, e13]; done) | (simp only [List.map_toArray, List.map_cons, List.map_nil, Act.eval, Array.getD_eq_getD_getElem?, Option.getD_some, e13]; rfl)) ?_
     with_reducible refine (spec_l01Next.calls g397 t394 t405 t406 9 t408 t409 t410 w _ ?side1 ?side2 A7.out).mono ?_
     (case side1 => repeat (first | (with_reducible first | exact HI397.out | apply IsS85.alloc | apply IsS85.drewN | apply IsS85.drew | apply IsS85.set_1 | apply IsS85.set_2 | refine IsS85.far ?_ NB397_393.out _) | exact HI397.out))
     (case side2 => exact bl2_ (IsS85.ge HI397.out) GE393.out)
     rintro e w14 ⟨rfl, hi, hb, hk⟩
     refine ⟨_, rfl, ?_⟩
     have n0_ := a0_ (KeepBut.blk hk (g' := gb393) (o := .cells #[.int .i64 0, .int .i64 0] 46 (0, 0)) (bk_ BK393.out) NB393_397.out (by simp))
     have n1_ := a0_ (hb)
     have n2_ := a0_ (hi)
     have z_HO403 := fun (h0_ : b 2 = true) => (show Kd.R (Kd.int .i64) 2 w14 w.heap.size (fun _ => True) v402 y401 from by first | exact (Kd.R_mono (Kd.R_keep (IsS85.apart (show IsS85 w _ g397 t394 t405 t406 from by repeat (first | (with_reducible first | exact HI397.out | apply IsS85.alloc | apply IsS85.drewN | apply IsS85.drew | apply IsS85.set_1 | apply IsS85.set_2 | refine IsS85.far ?_ NB397_393.out _) | exact HI397.out)) (by (with_reducible repeat (first | apply Kd.R_alloc | apply Kd.R_drewN | apply Kd.R_drew)); exact (Q_HO403 h0_)) (by decide)) hk (fun _ h => h.2)) (fun _ h => h.1)) | exact Kd.R_mono (Kd.R_mono (Kd.R_keep (IsS85.apart (show IsS85 w _ g397 t394 t405 t406 from by repeat (first | (with_reducible first | exact HI397.out | apply IsS85.alloc | apply IsS85.drewN | apply IsS85.drew | apply IsS85.set_1 | apply IsS85.set_2 | refine IsS85.far ?_ NB397_393.out _) | exact HI397.out)) (by (with_reducible repeat (first | apply Kd.R_alloc | apply Kd.R_drewN | apply Kd.R_drew)); exact (Q_HO403 h0_)) (by decide)) hk (fun _ h => h.2)) (fun _ h => h.1)) (fun _ h_ => by first | trivial | exact h_ | exact h_.1))
     clear BK393
     clear HB
     clear HI397
     have BK393 := n0_
     have HB := n1_
     have HI397 := n2_
     clear n0_ n1_ n2_
     (try clear hb)
     (try clear hb2)
     (try clear hk)
     (try clear hi)
     refine hK.out _ _ ⟨v402, adz_v402, m5_, (by rw [ha.out]; exact putSel_upk 5 hb_ rfl rfl rfl), fun _ => (bk_ BK393.out), fun h0_ => absurd ((hon 1 kr_).symm.trans h0_) (by decide), (bl2_ (IsS85.ge HI397.out) GE393.out), fun _ h1_ => absurd ((hon 4 kr_).symm.trans h1_) (by decide), z_HO403, Q_HA_HO403, fun _ h1_ => absurd ((up_self b 8).symm.trans h1_) (by decide), fun _ => (by repeat (first | (with_reducible first | exact HI397.out | apply IsS85.alloc | apply IsS85.drewN | apply IsS85.drew | apply IsS85.set_1 | apply IsS85.set_2 | refine IsS85.far ?_ NB397_393.out _) | exact HI397.out)), fun h0_ => absurd ((hoff 11 kr_).symm.trans h0_) (by decide), Q_X5_⟩
    refine steps_cons ?_ ?_
    ·rintro b a w' ⟨v402, adz_v402, m5_, ha, Q_BK393, Q_HI397, Q_HB, Q_HI397_e1, Q_HO403, Q_HA_HO403, Q_HI397_e4, Q_HI397_e8, Q_BK393_e11, Q_X5_⟩ hb_ hon hoff
     refine ⟨_, rfl, fun K hK => ?_⟩
     have e14 : a.tmps[14]? = some (.int .i64 t408) := by rw [ha]; exact putSel_on (e := (8, 14, .int .i64 t408)) 5 rfl rfl (hon 8 kr_) rfl
     replace ha := Aside0.mk ha
     have BK393 := a0_ (Q_BK393 (hoff 11 kr_))
     have HB := Aside0.mk Q_HB
     have HI397 := a0_ (Q_HI397_e8 (hon 8 kr_))
     refine value_ (w1 := w') (v := .int .i64 (wrap64 (t408 - 4))) (by rfl) rfl ?_ ?_
     ·go_simp
      (try simp only [i64_w])
      try rfl
     refine hK.out _ _ ⟨v402, adz_v402, m5_, (by rw [ha.out]; exact putSel_upk 6 hb_ rfl rfl rfl), Q_BK393, fun h0_ => absurd ((hon 1 kr_).symm.trans h0_) (by decide), Q_HB, fun _ h1_ => absurd ((hon 4 kr_).symm.trans h1_) (by decide), Q_HO403, Q_HA_HO403, fun _ h1_ => absurd ((hon 8 kr_).symm.trans h1_) (by decide), Q_HI397_e8, fun h0_ => absurd ((hoff 11 kr_).symm.trans h0_) (by decide), Q_X5_⟩
    refine steps_cons ?_ ?_
    ·rintro b a w' ⟨v402, adz_v402, m5_, ha, Q_BK393, Q_HI397, Q_HB, Q_HI397_e1, Q_HO403, Q_HA_HO403, Q_HI397_e4, Q_HI397_e8, Q_BK393_e11, Q_X5_⟩ hb_ hon hoff
     refine ⟨_, rfl, fun K hK => ?_⟩
     have e12 : a.tmps[12]? = some (.int .i64 (rd y401 t404)) := by rw [ha]; exact putSel_on (e := (6, 12, .int .i64 (rd y401 t404))) 4 rfl rfl (hon 6 kr_) rfl
     have e15 : a.tmps[15]? = some (.int .i64 (wrap64 (t408 - 4))) := by rw [ha]; exact putSel_on (e := (9, 15, .int .i64 (wrap64 (t408 - 4)))) 6 rfl rfl (hon 9 kr_) rfl
     replace ha := Aside0.mk ha
     have BK393 := a0_ (Q_BK393 (hoff 11 kr_))
     have HB := Aside0.mk Q_HB
     have HO403 := a0_ (Q_HO403 (hon 2 kr_))
     have HA_HO403 := a0_ (Q_HA_HO403 (hon 2 kr_))
     have HI397 := a0_ (Q_HI397_e8 (hon 8 kr_))
     refine value_ (w1 := w') (v := .agg #[.int .i64 (rd y401 t404), .int .i64 (wrap64 (t408 - 4))]) (by rfl) rfl ?_ ?_
     ·go_simp
      (try simp only [i64_w])
      try rfl
     refine hK.out _ _ ⟨v402, adz_v402, m5_, (by rw [ha.out]; exact putSel_upk 7 hb_ rfl rfl rfl), Q_BK393, fun h0_ => absurd ((hon 1 kr_).symm.trans h0_) (by decide), Q_HB, fun _ h1_ => absurd ((hon 4 kr_).symm.trans h1_) (by decide), Q_HO403, Q_HA_HO403, fun _ h1_ => absurd ((hon 8 kr_).symm.trans h1_) (by decide), Q_HI397_e8, fun h0_ => absurd ((hoff 11 kr_).symm.trans h0_) (by decide), Q_X5_⟩
    refine steps_cons ?_ ?_
    ·rintro b a w' ⟨v402, adz_v402, m5_, ha, Q_BK393, Q_HI397, Q_HB, Q_HI397_e1, Q_HO403, Q_HA_HO403, Q_HI397_e4, Q_HI397_e8, Q_BK393_e11, Q_X5_⟩ hb_ hon hoff
     refine ⟨_, rfl, fun K hK => ?_⟩
     have e2 : a.tmps[2]? = some (.pointer (some ⟨gb393, 0, none⟩)) := by rw [ha]; exact (putSel_off rfl).trans rfl
     have e16 : a.tmps[16]? = some (.agg #[.int .i64 (rd y401 t404), .int .i64 (wrap64 (t408 - 4))]) := by rw [ha]; exact putSel_on (e := (10, 16, .agg #[.int .i64 (rd y401 t404), .int .i64 (wrap64 (t408 - 4))])) 7 rfl rfl (hon 10 kr_) rfl
     replace ha := Aside0.mk ha
     have BK393 := a0_ (Q_BK393 hb_)
     have HB := Aside0.mk Q_HB
     have HO403 := a0_ (Q_HO403 (hon 2 kr_))
     have HA_HO403 := a0_ (Q_HA_HO403 (hon 2 kr_))
     have HI397 := a0_ (Q_HI397_e8 (hon 8 kr_))
     obtain ⟨co18, eo18⟩ := HA_HO403.out
     clear HA_HO403
     subst eo18
     have hs19 : w'.cell? ⟨gb393, 0, none⟩ = some (.int .i64 0) := (blk_cell BK393.out 0).trans rfl
     have hfs19 := blk_frozen BK393.out 0
     have hs20 : w'.cell? ⟨gb393, 1, none⟩ = some (.int .i64 0) := (blk_cell BK393.out 1).trans rfl
     have hfs20 := blk_frozen BK393.out 1
     refine skip_ (w1 := ?_) (by rfl) rfl ?_ ?_
     rotate_left
     ·go_simp
      rfl
     refine hK.out _ _ ⟨.slice (some adz_v402) y401.length co18, adz_v402, m5_, (by rw [ha.out]; exact putSel_none (v := undef) rfl), fun h0_ => absurd ((up_self b 11).symm.trans h0_) (by decide), fun h0_ => absurd ((hon 1 kr_).symm.trans h0_) (by decide), (bl2_ (IsS85.ge HI397.out) GE393.out), fun _ h1_ => absurd ((hon 4 kr_).symm.trans h1_) (by decide), fun _ => (by (with_reducible repeat (first | apply Kd.R_alloc | apply Kd.R_drewN | apply Kd.R_drew)); exact Kd.R_mono (Kd.R_far (p := ⟨gb393, 1, none⟩) (Kd.R_far (p := ⟨gb393, 0, none⟩) (Kd.R_types HO403.out BK393.out (by decide)) (fun _ hk => hk.2) (.int .i64 (rd y401 t404))) (fun _ hk => hk.2) (.int .i64 (wrap64 (t408 - 4)))) (fun _ hk => trivial)), fun _ => ⟨_, rfl⟩, fun _ h1_ => absurd ((hon 8 kr_).symm.trans h1_) (by decide), fun _ => (by repeat (first | (with_reducible first | exact HI397.out | apply IsS85.alloc | apply IsS85.drewN | apply IsS85.drew | apply IsS85.set_1 | apply IsS85.set_2 | refine IsS85.far ?_ NB397_393.out _) | exact HI397.out)), fun _ => (by (with_reducible repeat (first | refine blk_drewN ?_ _ | refine blk_drew ?_ | refine blk_alloc ?_ _)); refine blk_put (cs := #[.int .i64 (rd y401 t404), .int .i64 0]) ?_ 1 _ rfl; (with_reducible repeat (first | refine blk_drewN ?_ _ | refine blk_drew ?_ | refine blk_alloc ?_ _)); refine blk_put (cs := #[.int .i64 0, .int .i64 0]) ?_ 0 _ rfl; (with_reducible repeat (first | refine blk_drewN ?_ _ | refine blk_drew ?_ | refine blk_alloc ?_ _)); exact BK393.out), Q_X5_⟩
    exact steps_nil
   rintro b a w19 hall ⟨v402, adz_v402, m5_, ha, Q_BK393, Q_HI397, Q_HB, Q_HI397_e1, Q_HO403, Q_HA_HO403, Q_HI397_e4, Q_HI397_e8, Q_BK393_e11, Q_X5_⟩
   clear BK393 HB HI397
   have hb1_ := hall 1 kr_
   have hb2_ := hall 2 kr_
   have hb4_ := hall 4 kr_
   have hb5_ := hall 5 kr_
   have hb6_ := hall 6 kr_
   have hb8_ := hall 8 kr_
   have hb9_ := hall 9 kr_
   have hb10_ := hall 10 kr_
   have hb11_ := hall 11 kr_
   subst ha
   obtain rfl := Q_X5_ hb5_
   simp only [putSel, hb1_, hb2_, hb4_, hb5_, hb6_, hb8_, hb9_, hb10_, hb11_, if_true, Act.put, List.setIfInBounds_toArray, List.set_cons_zero, List.set_cons_succ]
   clear Q_BK393
   clear Q_HI397
   have HB := Aside0.mk Q_HB
   clear Q_HB
   clear Q_HI397_e1
   have HO403 := a0_ (Q_HO403 hb2_)
   clear Q_HO403
   have HA_HO403 := a0_ (Q_HA_HO403 hb2_)
   clear Q_HA_HO403
   clear Q_HI397_e4
   have HI397 := a0_ (Q_HI397_e8 hb8_)
   clear Q_HI397_e8
   have BK393 := a0_ (Q_BK393_e11 hb11_)
   clear Q_BK393_e11
   clear hall hb1_ hb2_ hb4_ hb5_ hb6_ hb8_ hb9_ hb10_ hb11_
   obtain ⟨co20, eo20⟩ := HA_HO403.out
   clear HA_HO403
   subst eo20
   try go_wp2
   refine bodyPost_ret (results_cell_row rfl _ _ gb393 46 #[.int .i64 (rd y401 t404), .int .i64 (wrap64 (t408 - 4))] (0, 0) _ rfl (bk_ BK393.out) Tryz.underlying46 rfl kr_) rfl ?_
   exact ⟨er_, bl2_ (IsS85.ge HI397.out) GE393.out⟩
  ·rw [if_neg c6] at H
   exact absurd H (by simp)
 ·rw [if_neg c5] at H
  exact absurd H (by simp)

/-! ### impl_HexAround: function 30 -/
def impl_HexAround.f (a0_0 : Int) (a0_1 : Int) : Option ((List (S46)) × Int) := (impl_isCoordinate.f a0_0).bind fun t412 => (if t412 = true then ((impl_isCoordinate.f a0_1).bind fun t413 => (if t413 = true then ((impl_hexAround.f a0_0 a0_1).bind fun t414 => (some (t414, 0))) else (some (([] : List (S46)), 2)))) else (some (([] : List (S46)), 2)))
set_option maxHeartbeats 8000000 in
set_option maxRecDepth 100000 in
theorem impl_HexAround.calls (a0_0 : Int) (a0_1 : Int) (r1 : List (S46)) (r2 : Int) (w : World) (h : impl_HexAround.f a0_0 a0_1 = some (r1, r2)) :
  Calls Tryz.prog 30 #[.agg #[.int .i64 a0_0, .int .i64 a0_1]] w fun e w' => ∃ v0_ : Value, e = .returned (.tuple #[v0_, .int .i64 r2]) ∧ Kd.R k46 46 w' w.heap.size (fun _ => True) v0_ r1 ∧ Below w.heap.size w w' := by
 have hu46 := Tryz.underlying46
 have HB := a0_ (Below.refl w.heap.size w)
 have H := h
 clear h
 unfold impl_HexAround.f at H
 obtain ⟨t412, A2, H⟩ := bs_ H
 by_cases c3 : t412 = true
 ·subst c3
  rw [if_pos rfl] at H
  obtain ⟨t413, A4, H⟩ := bs_ H
  by_cases c5 : t413 = true
  ·subst c5
   rw [if_pos rfl] at H
   obtain ⟨t414, A6, H⟩ := bs_ H
   simp only [Option.some.injEq, Prod.mk.injEq] at H
   obtain ⟨rfl, rfl⟩ := H
   go_enter Tryz.func30, Tryz.ntmps30
   go_wp2_with (first | ((with_reducible refine gate_dst (N := 1) rfl ?_); refine bx_ (N := 1) (cs := #[.int .i64 a0_0, .int .i64 a0_1]) (t := 46) ?_; intro gb411 hg w7 hbox hb; have BK411 := a0_ (hbox); have GW411 := a0_ ((sz_ hg (bl0_) : w.heap.size ≤ gb411)); have GE411 := a0_ ((sz_ hg (bl0_) : w.heap.size ≤ gb411)); replace HB := a0_ (below_step (bl0_) hb); clear hb hbox hg; obtain ⟨hcz8_0, hcz8_1, hfz8_0, hfz8_1⟩ := bc2_ BK411.out) | ((with_reducible refine gate_callee (f := 69) rfl ?_); refine goesL_ (some 6) rfl rfl Tryz.func69 kr_ rfl #[.int .i64 a0_0] rfl ta_ ?_; (with_reducible refine (impl_isCoordinate.calls a0_0 true _ A2.out).mono ?_); rintro e w' ⟨rfl, ⟨nd, rfl⟩⟩; refine ⟨_, rfl, ?_⟩) | (go_at_call 69; (with_reducible refine (impl_isCoordinate.calls a0_1 true _ A4.out).mono ?_); rintro e w' ⟨rfl, ⟨nd, rfl⟩⟩) | ((with_reducible refine gate_callee (f := 70) rfl ?_); refine goesL_ (some 15) rfl rfl Tryz.func70 kr_ rfl #[.agg #[.int .i64 a0_0, .int .i64 a0_1]] rfl ta_ ?_; (with_reducible refine (impl_hexAround.calls a0_0 a0_1 t414 _ A6.out).mono ?_); rintro e w9 ⟨v415, rfl, ho0, hb⟩; refine ⟨_, rfl, ?_⟩; have HO416 := a0_ (Kd.R_lower (Kd.R_newB ho0 (g := gb411) (o := .cells #[.int .i64 a0_0, .int .i64 a0_1] 46 (0, 0)) (bk_ BK411.out)) (below_size (bl1_ GE411.out))); replace BK411 := a0_ (bb_ BK411.out hb); replace HB := a0_ (below_step (bl1_ GE411.out) hb); (try clear hb); (try clear hb2); (try clear hk); (try clear hi); (try clear ho0)))
   go_ret2
   exact ⟨_, er_, by (with_reducible repeat (first | apply Kd.R_alloc | apply Kd.R_drewN | apply Kd.R_drew)); exact Kd.R_mono HO416.out (fun _ hk => trivial), bl1_ GE411.out⟩
  ·replace c5 := Bool.eq_false_iff.mpr c5
   subst c5
   rw [if_neg (show ¬ (false = true) by decide)] at H
   simp only [Option.some.injEq, Prod.mk.injEq] at H
   obtain ⟨rfl, rfl⟩ := H
   go_enter Tryz.func30, Tryz.ntmps30
   go_wp2_with (first | ((with_reducible refine gate_dst (N := 1) rfl ?_); refine bx_ (N := 1) (cs := #[.int .i64 a0_0, .int .i64 a0_1]) (t := 46) ?_; intro gb411 hg w10 hbox hb; have BK411 := a0_ (hbox); have GW411 := a0_ ((sz_ hg (bl0_) : w.heap.size ≤ gb411)); have GE411 := a0_ ((sz_ hg (bl0_) : w.heap.size ≤ gb411)); replace HB := a0_ (below_step (bl0_) hb); clear hb hbox hg; obtain ⟨hcz11_0, hcz11_1, hfz11_0, hfz11_1⟩ := bc2_ BK411.out) | ((with_reducible refine gate_callee (f := 69) rfl ?_); refine goesL_ (some 6) rfl rfl Tryz.func69 kr_ rfl #[.int .i64 a0_0] rfl ta_ ?_; (with_reducible refine (impl_isCoordinate.calls a0_0 true _ A2.out).mono ?_); rintro e w' ⟨rfl, ⟨nd, rfl⟩⟩; refine ⟨_, rfl, ?_⟩) | (go_at_call 69; (with_reducible refine (impl_isCoordinate.calls a0_1 false _ A4.out).mono ?_); rintro e w' ⟨rfl, ⟨nd, rfl⟩⟩))
   go_ret2
   exact ⟨_, er_, by first | exact Kd.R_nil _ _ _ _ _ | exact Kd.N_nil _ _ _ _ _ | exact Kd.V_nil _ _ _ _ _ | exact Kd.Q_nil _ _ _ _ _ | exact Kd.S_nil _ _ _ _ _, bl1_ GE411.out⟩
 ·replace c3 := Bool.eq_false_iff.mpr c3
  subst c3
  rw [if_neg (show ¬ (false = true) by decide)] at H
  simp only [Option.some.injEq, Prod.mk.injEq] at H
  obtain ⟨rfl, rfl⟩ := H
  go_enter Tryz.func30, Tryz.ntmps30
  go_wp2_with (first | ((with_reducible refine gate_dst (N := 1) rfl ?_); refine bx_ (N := 1) (cs := #[.int .i64 a0_0, .int .i64 a0_1]) (t := 46) ?_; intro gb411 hg w12 hbox hb; have BK411 := a0_ (hbox); have GW411 := a0_ ((sz_ hg (bl0_) : w.heap.size ≤ gb411)); have GE411 := a0_ ((sz_ hg (bl0_) : w.heap.size ≤ gb411)); replace HB := a0_ (below_step (bl0_) hb); clear hb hbox hg; obtain ⟨hcz13_0, hcz13_1, hfz13_0, hfz13_1⟩ := bc2_ BK411.out) | ((with_reducible refine gate_callee (f := 69) rfl ?_); refine goesL_ (some 6) rfl rfl Tryz.func69 kr_ rfl #[.int .i64 a0_0] rfl ta_ ?_; (with_reducible refine (impl_isCoordinate.calls a0_0 false _ A2.out).mono ?_); rintro e w' ⟨rfl, ⟨nd, rfl⟩⟩; refine ⟨_, rfl, ?_⟩))
  go_ret2
  exact ⟨_, er_, by first | exact Kd.R_nil _ _ _ _ _ | exact Kd.N_nil _ _ _ _ _ | exact Kd.V_nil _ _ _ _ _ | exact Kd.Q_nil _ _ _ _ _ | exact Kd.S_nil _ _ _ _ _, bl1_ GE411.out⟩

/-! ### spec_HexAround: function 31 -/
def spec_HexAround.f (a0_0 : Int) (a0_1 : Int) : Option ((List (S46)) × Int) := (spec_l02Cell.f a0_0 a0_1).bind fun t418 => (if t418 = true then ((spec_l07Around.f 1 a0_0 a0_1).bind fun t419 => (some (t419, 0))) else (some (([] : List (S46)), 2)))
set_option maxHeartbeats 8000000 in
set_option maxRecDepth 100000 in
theorem spec_HexAround.calls (a0_0 : Int) (a0_1 : Int) (r1 : List (S46)) (r2 : Int) (w : World) (h : spec_HexAround.f a0_0 a0_1 = some (r1, r2)) :
  Calls Tryz.prog 31 #[.agg #[.int .i64 a0_0, .int .i64 a0_1]] w fun e w' => ∃ v0_ : Value, e = .returned (.tuple #[v0_, .int .i64 r2]) ∧ Kd.R k46 46 w' w.heap.size (fun _ => True) v0_ r1 ∧ Below w.heap.size w w' := by
 have hu46 := Tryz.underlying46
 have HB := a0_ (Below.refl w.heap.size w)
 have H := h
 clear h
 unfold spec_HexAround.f at H
 obtain ⟨t418, A2, H⟩ := bs_ H
 by_cases c3 : t418 = true
 ·subst c3
  rw [if_pos rfl] at H
  obtain ⟨t419, A4, H⟩ := bs_ H
  simp only [Option.some.injEq, Prod.mk.injEq] at H
  obtain ⟨rfl, rfl⟩ := H
  go_enter Tryz.func31, Tryz.ntmps31
  go_wp2_with (first | ((with_reducible refine gate_dst (N := 1) rfl ?_); refine bx_ (N := 1) (cs := #[.int .i64 a0_0, .int .i64 a0_1]) (t := 46) ?_; intro gb417 hg w5 hbox hb; have BK417 := a0_ (hbox); have GW417 := a0_ ((sz_ hg (bl0_) : w.heap.size ≤ gb417)); have GE417 := a0_ ((sz_ hg (bl0_) : w.heap.size ≤ gb417)); replace HB := a0_ (below_step (bl0_) hb); clear hb hbox hg; obtain ⟨hcz6_0, hcz6_1, hfz6_0, hfz6_1⟩ := bc2_ BK417.out) | ((with_reducible refine gate_callee (f := 71) rfl ?_); refine goesL_ (some 5) rfl rfl Tryz.func71 kr_ rfl #[.agg #[.int .i64 a0_0, .int .i64 a0_1]] rfl ta_ ?_; (with_reducible refine (spec_l02Cell.calls a0_0 a0_1 true _ A2.out).mono ?_); rintro e w7 ⟨rfl, hb⟩; refine ⟨_, rfl, ?_⟩; replace BK417 := a0_ (bb_ BK417.out hb); replace HB := a0_ (below_step (bl1_ GE417.out) hb); (try clear hb); (try clear hb2); (try clear hk); (try clear hi); obtain ⟨hcz8_0, hcz8_1, hfz8_0, hfz8_1⟩ := bc2_ BK417.out) | ((with_reducible refine gate_callee (f := 72) rfl ?_); refine goesL_ (some 8) rfl rfl Tryz.func72 kr_ rfl #[.int .i64 1, .agg #[.int .i64 a0_0, .int .i64 a0_1]] rfl ta_ ?_; (with_reducible refine (spec_l07Around.calls 1 a0_0 a0_1 t419 _ A4.out).mono ?_); rintro e w9 ⟨v420, rfl, ho0, hb⟩; refine ⟨_, rfl, ?_⟩; have HO421 := a0_ (Kd.R_lower (Kd.R_newB ho0 (g := gb417) (o := .cells #[.int .i64 a0_0, .int .i64 a0_1] 46 (0, 0)) (bk_ BK417.out)) (below_size (bl1_ GE417.out))); replace BK417 := a0_ (bb_ BK417.out hb); replace HB := a0_ (below_step (bl1_ GE417.out) hb); (try clear hb); (try clear hb2); (try clear hk); (try clear hi); (try clear ho0)))
  go_ret2
  exact ⟨_, er_, by (with_reducible repeat (first | apply Kd.R_alloc | apply Kd.R_drewN | apply Kd.R_drew)); exact Kd.R_mono HO421.out (fun _ hk => trivial), bl1_ GE417.out⟩
 ·replace c3 := Bool.eq_false_iff.mpr c3
  subst c3
  rw [if_neg (show ¬ (false = true) by decide)] at H
  simp only [Option.some.injEq, Prod.mk.injEq] at H
  obtain ⟨rfl, rfl⟩ := H
  go_enter Tryz.func31, Tryz.ntmps31
  go_wp2_with (first | ((with_reducible refine gate_dst (N := 1) rfl ?_); refine bx_ (N := 1) (cs := #[.int .i64 a0_0, .int .i64 a0_1]) (t := 46) ?_; intro gb417 hg w10 hbox hb; have BK417 := a0_ (hbox); have GW417 := a0_ ((sz_ hg (bl0_) : w.heap.size ≤ gb417)); have GE417 := a0_ ((sz_ hg (bl0_) : w.heap.size ≤ gb417)); replace HB := a0_ (below_step (bl0_) hb); clear hb hbox hg; obtain ⟨hcz11_0, hcz11_1, hfz11_0, hfz11_1⟩ := bc2_ BK417.out) | ((with_reducible refine gate_callee (f := 71) rfl ?_); refine goesL_ (some 5) rfl rfl Tryz.func71 kr_ rfl #[.agg #[.int .i64 a0_0, .int .i64 a0_1]] rfl ta_ ?_; (with_reducible refine (spec_l02Cell.calls a0_0 a0_1 false _ A2.out).mono ?_); rintro e w12 ⟨rfl, hb⟩; refine ⟨_, rfl, ?_⟩; replace BK417 := a0_ (bb_ BK417.out hb); replace HB := a0_ (below_step (bl1_ GE417.out) hb); (try clear hb); (try clear hb2); (try clear hk); (try clear hi)))
  go_ret2
  exact ⟨_, er_, by first | exact Kd.R_nil _ _ _ _ _ | exact Kd.N_nil _ _ _ _ _ | exact Kd.V_nil _ _ _ _ _ | exact Kd.Q_nil _ _ _ _ _ | exact Kd.S_nil _ _ _ _ _, bl1_ GE417.out⟩

end Go.Proofs.YtmdjkmfocgelnaaGreat.PFnHexShapes
