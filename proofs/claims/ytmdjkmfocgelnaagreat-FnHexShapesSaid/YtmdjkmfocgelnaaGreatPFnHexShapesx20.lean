/- Over the kit's printer by a driver of mine (hprint.py), with parts by hand: functions of the program as Lean functions, and that each call comes to exactly these answers. -/
import Derived.Test.YtmdjkmfocgelnaaGreatPFnHexShapesx0
import Derived.Test.YtmdjkmfocgelnaaGreatPFnHexShapesx3
import Derived.Test.YtmdjkmfocgelnaaGreatPFnHexShapesx11
import Derived.Test.YtmdjkmfocgelnaaGreatPFnHexShapesx12
import Derived.Test.YtmdjkmfocgelnaaGreatPFnHexShapesx16
namespace Go.Proofs.YtmdjkmfocgelnaaGreat.PFnHexShapes
open Go.RowKit Go.Proofs.YtmdjkmfocgelnaaGreatW.PrintWords Go.Proofs.YtmdjkmfocgelnaaGreatW.PrintLast Go.Proofs.YtmdjkmfocgelnaaGreatW.PrintMore
attribute [local go_sem] max2_int min2_int max_two min_two max_three min_three max_four min_four   -- for this text's walks alone
set_option linter.unusedVariables false
set_option linter.unusedSimpArgs false

/-! ### spec_l07Draw: function 108 -/
def spec_l07Draw.l0 : Nat → Int → List (S46) → Int → List Int → Int → Int → Option ((List (S46)) × Int × Int)
 | 0, _, _, _, _, _, _ => none
 | k + 1, x1, x5, x6, x1000, x1001, x1002 => if x6 > 0 then ((spec_l01Next.f x1000 x1001 x1002 (x5.length : Int)).bind fun bt433 => (if 0 ≤ bt433.1 then (if bt433.1 < (x5.length : Int) then ((spec_l07Around.f x1 ((rd_T46 x5 bt433.1).f0) ((rd_T46 x5 bt433.1).f1)).bind fun t437 => ((spec_l01Next.f x1000 bt433.2.1 bt433.2.2 (t437.length : Int)).bind fun bt440 => (if 0 ≤ bt440.1 then (if bt440.1 < (t437.length : Int) then ((spec_l02Index.f k x5 ((rd_T46 t437 bt440.1).f0) ((rd_T46 t437 bt440.1).f1)).bind fun t445 => (if t445 < 0 then ((spec_l02Insert.f k x5 ((rd_T46 t437 bt440.1).f0) ((rd_T46 t437 bt440.1).f1)).bind fun t446 => (spec_l07Draw.l0 k x1 t446 (wrap64 (x6 - 1)) x1000 bt440.2.1 bt440.2.2)) else (spec_l07Draw.l0 k x1 x5 (wrap64 (x6 - 1)) x1000 bt440.2.1 bt440.2.2))) else (none)) else (none)))) else (none)) else (none))) else ((spec_l01Next.f x1000 x1001 x1002 5).bind fun bt449 => ((spec_l01Next.f x1000 bt449.2.1 bt449.2.2 5).bind fun bt452 => ((spec_l02Move.f k x5 (wrap64 ((wrap64 (3 * bt449.1)) - 6)) (wrap64 ((wrap64 (3 * bt452.1)) - 6))).bind fun t455 => ((spec_l01Next.f x1000 bt452.2.1 bt452.2.2 (t455.length : Int)).bind fun bt458 => ((spec_l01Next.f x1000 bt458.2.1 bt458.2.2 24).bind fun bt461 => (if bt461.1 = 0 then (if 0 ≤ bt458.1 then (if bt458.1 < (t455.length : Int) then (some ((t455.set (bt458.1 : Int).toNat (⟨wrap64 (((rd_T46 t455 bt458.1).f0) + 1), (rd_T46 t455 bt458.1).f1⟩ : S46)), bt461.2.1, bt461.2.2)) else (none)) else (none)) else (if bt461.1 = 1 then (if 0 ≤ bt458.1 then (if bt458.1 < (t455.length : Int) then (if 0 ≤ (wrap64 ((t455.length : Int) - 1)) then (if (wrap64 ((t455.length : Int) - 1)) < (t455.length : Int) then (if t455.length < 8796093022208 then (some ((t455 ++ [(⟨(rd_T46 t455 bt458.1).f0, wrap64 (((rd_T46 t455 (wrap64 ((t455.length : Int) - 1))).f1) + 6)⟩ : S46)]), bt461.2.1, bt461.2.2)) else (none)) else (none)) else (none)) else (none)) else (none)) else (if bt461.1 = 2 then (some (([] : List (S46)), bt461.2.1, bt461.2.2)) else (if bt461.1 = 3 then (if 0 < (t455.length : Int) then ((spec_l02Move.f k t455 (wrap64 ((wrap64 (90 - ((rd_T46 t455 0).f0))) + ((rd_T46 t455 0).f1))) 90).bind fun t473 => (some (t473, bt461.2.1, bt461.2.2))) else (none)) else (some (t455, bt461.2.1, bt461.2.2)))))))))))
def spec_l07Draw.f (k : Nat) (s0_0 : List Int) (s0_1 : Int) (s0_2 : Int) (a1 : Int) : Option ((List (S46)) × Int × Int) := (spec_l01Next.f s0_0 s0_1 s0_2 2).bind fun bt422 => ((some (([(⟨wrap64 (1 + bt422.1), 0⟩ : S46)] : List (S46)) : List (S46))).bind fun y425 => (if 0 < (y425.length : Int) then ((spec_l01Next.f s0_0 bt422.2.1 bt422.2.2 6).bind fun bt430 => (spec_l07Draw.l0 k a1 (y425.set (0 : Int).toNat (⟨(rd_T46 y425 0).f0, (rd_T46 y425 0).f0⟩ : S46)) bt430.1 s0_0 bt430.2.1 bt430.2.2)) else (none)))
theorem spec_l07Draw.mono_l : ∀ k, (∀ y0 y1 y2 y3 y4 y5, LeO (spec_l07Draw.l0 k y0 y1 y2 y3 y4 y5) (spec_l07Draw.l0 (k + 1) y0 y1 y2 y3 y4 y5))
 | 0 => fun _ _ _ _ _ _ r h => by simp [spec_l07Draw.l0] at h
 | k + 1 => by
  have ih0 := spec_l07Draw.mono_l k
  ·intro y0 y1 y2 y3 y4 y5
   unfold spec_l07Draw.l0
   with_reducible (repeat' first | exact ih0 _ _ _ _ _ _ | exact spec_l02Index.mono _ _ _ _ | exact spec_l02Insert.mono _ _ _ _ | exact spec_l02Move.mono _ _ _ _ | exact LeO.refl _ | exact LeO.none _ | refine LeO.ite ?_ ?_ | refine LeO.bind ?_ (fun _ => ?_))
theorem spec_l07Draw.mono : ∀ a0 a1 a2 a3 k, LeO (spec_l07Draw.f k a0 a1 a2 a3) (spec_l07Draw.f (k + 1) a0 a1 a2 a3) := by
 intro a0 a1 a2 a3 k
 have ih0 := spec_l07Draw.mono_l k
 unfold spec_l07Draw.f
 with_reducible (repeat' first | exact ih0 _ _ _ _ _ _ | exact spec_l02Index.mono _ _ _ _ | exact spec_l02Insert.mono _ _ _ _ | exact spec_l02Move.mono _ _ _ _ | exact LeO.refl _ | exact LeO.none _ | refine LeO.ite ?_ ?_ | refine LeO.bind ?_ (fun _ => ?_))
def spec_l07Draw.T16 : Bool × List (List Nat × List Nat) := (true, [([], []), ([], []), ([], []), ([1, 2], [1, 2]), ([3], [3]), ([4], [4]), ([], []), ([], []), ([7], [7]), ([8], [8]), ([6, 9], [6, 9]), ([10], [10]), ([11], [11]), ([12], [12]), ([5, 13], [5, 13]), ([14], [14]), ([0, 15], [0, 15]), ([16, 16, 0, 1, 2, 3, 4, 5, 6, 7, 8, 9, 10, 11, 12, 13, 14, 15, 16], [0, 1, 6, 7, 16])])
def spec_l07Draw.B16 : List Nat := [0, 0, 0, 6, 14, 30, 0, 0, 128, 384, 960, 1984, 4032, 8128, 16382, 32766, 65535, 131071]
theorem spec_l07Draw.tab16 : rtab .any (opsOf Tryz.f108 16) = spec_l07Draw.T16 := by kernel_rfl
theorem spec_l07Draw.bits16 : waitsOk spec_l07Draw.T16.2 spec_l07Draw.B16 = true := by kernel_rfl
def spec_l07Draw.T20 : Bool × List (List Nat × List Nat) := (true, [([], []), ([], []), ([1], [1]), ([2], [2]), ([3], [3]), ([4], [4]), ([], []), ([6], [6]), ([7], [7]), ([8], [8]), ([5, 9], [5, 9]), ([0, 10], [0, 10]), ([11, 11, 0, 1, 2, 3, 4, 5, 6, 7, 8, 9, 10, 11], [11])])
def spec_l07Draw.B20 : List Nat := [0, 0, 2, 6, 14, 30, 0, 64, 192, 448, 1022, 2047, 4095]
theorem spec_l07Draw.tab20 : rtab .any (opsOf Tryz.f108 20) = spec_l07Draw.T20 := by kernel_rfl
theorem spec_l07Draw.bits20 : waitsOk spec_l07Draw.T20.2 spec_l07Draw.B20 = true := by kernel_rfl
set_option maxHeartbeats 8000000 in
set_option maxRecDepth 100000 in
theorem spec_l07Draw.calls (k : Nat) (g : Nat) (s0_0 : List Int) (s0_1 : Int) (s0_2 : Int) (a1 : Int) (r1 : List (S46)) (r2 : Int) (r3 : Int) (w0 w : World) (hI : IsS85 w0 w g s0_0 s0_1 s0_2) (hB : Below w0.heap.size w0 w) (h : spec_l07Draw.f k s0_0 s0_1 s0_2 a1 = some (r1, r2, r3)) :
  Calls Tryz.prog 108 #[.pointer (some ⟨g, 0, none⟩), .int .i64 a1] w fun e w' => ∃ v0_ : Value, e = .returned (v0_) ∧ Kd.R k46 46 w' w.heap.size (fun _ => True) v0_ r1 ∧ IsS85 w0 w' g s0_0 r2 r3 ∧ Below w0.heap.size w0 w' ∧ KeepBut w w' g none := by
 have hu46 := Tryz.underlying46
 have HI0 := Aside0.mk hI
 have HK := a0_ (KeepBut.refl w g none)
 have HL := Aside0.mk hB.size
 clear hI
 have HW0 := Aside0.mk hB.size
 have HB := Aside0.mk hB
 clear hB
 have H := h
 clear h
 unfold spec_l07Draw.f at H
 obtain ⟨⟨t422, t423, t424⟩, A3, H⟩ := bs_ H
 dsimp only at H
 obtain ⟨y425, hy425⟩ : ∃ y_ : List (S46), y_ = (([(⟨wrap64 (1 + t422), 0⟩ : S46)] : List (S46))) := ⟨_, rfl⟩
 replace H : (if 0 < (y425.length : Int) then ((spec_l01Next.f s0_0 t423 t424 6).bind fun bt430 => (spec_l07Draw.l0 k a1 (y425.set (0 : Int).toNat (⟨(rd_T46 y425 0).f0, (rd_T46 y425 0).f0⟩ : S46)) bt430.1 s0_0 bt430.2.1 bt430.2.2)) else (none)) = some (r1, r2, r3) := hh_ hy425 H
 have Ny425 := Aside0.mk hy425
 clear hy425
 by_cases c4 : 0 < (y425.length : Int)
 ·rw [if_pos c4] at H
  have c4b0 : decide (0 < (y425.length : Int)) = true := decide_eq_true c4
  have c4b1 : decide (0 < y425.length) = true := decide_eq_true (by omega)
  clear c4
  obtain ⟨y429, hy429⟩ : ∃ y_ : List (S46), y_ = (y425.set (0 : Int).toNat (⟨(rd_T46 y425 0).f0, (rd_T46 y425 0).f0⟩ : S46)) := ⟨_, rfl⟩
  replace H : ((spec_l01Next.f s0_0 t423 t424 6).bind fun bt430 => (spec_l07Draw.l0 k a1 y429 bt430.1 s0_0 bt430.2.1 bt430.2.2)) = some (r1, r2, r3) := hh_ hy429 H
  have Ny429 := Aside0.mk hy429
  clear hy429
  obtain ⟨⟨t430, t431, t432⟩, A6, H⟩ := bs_ H
  dsimp only at H
  have H' := Aside0.mk H
  clear H
  go_enter Tryz.func108, Tryz.ntmps108
  go_wp2_with (first | ((with_reducible refine gate_callee (f := 38) rfl ?_); refine goesL_ (some 11) rfl rfl Tryz.func38 kr_ rfl #[.pointer (some ⟨g, 0, none⟩), .int .i64 2] rfl ta_ ?_; (with_reducible refine (spec_l01Next.calls g s0_0 s0_1 s0_2 2 t422 t423 t424 w0 _ ?side1 ?side2 A3.out).mono ?_); (case side1 => exact is85_ HI0.out); (case side2 => exact bl1_ (IsS85.ge HI0.out)); rintro e w7 ⟨rfl, hi, hb, hk⟩; refine ⟨_, rfl, ?_⟩; replace HK := a0_ (KeepBut.trans (kb0_) hk (.inl rfl)); replace HB := a0_ (hb); replace HI0 := a0_ (hi); (try clear hb); (try clear hb2); (try clear hk); (try clear hi)) | ((with_reducible refine gate_dst (N := 14) rfl ?_); refine Kd.R_lit k46 _ 46 ?hg (N := 14) ?hd (xs := ([(⟨wrap64 (1 + t422), 0⟩ : S46)] : List (S46))) (inner := [.int .i64 (wrap64 (1 + t422)), .int .i64 0]) (ok := fun _ => True) (okp := fun _ => True) ?hr ?hp (fun _ hk => hk) trivial (Below.refl _ _) (Nat.le_refl _) (by simp) ?_; (case hd => rfl); (case hg => rfl); (case hr => first | (go_simp; done) | (go_simp; rfl)); (case hp => exact (Reps.c2 (show Kd.M k46 _ _ _ (⟨wrap64 (1 + t422), 0⟩ : S46) [.int .i64 (wrap64 (1 + t422)), .int .i64 0] from (k46_mkM _ _ _ (⟨wrap64 (1 + t422), 0⟩ : S46) )) (Reps.none _ _))); intro v426 w8 ho9 hb hg_ hnew_; clear hg_ hnew_; (first | rw [← Ny425.out] at ho9 | (simp only [Int.reduceToNat] at ho9; rw [← Ny425.out] at ho9)); have HO427 := a0_ (Kd.R_lower ho9 (keep_size (w := w) (g := g) (row := none) (kb0_))); replace HK := a0_ (KeepBut.trans (kb0_) (KeepBut.of_below hb g none) (.inl rfl)); replace HB := a0_ (below_step (bl1_ (IsS85.ge HI0.out)) hb); replace HI0 := a0_ (IsS85.below (is85_ HI0.out) hb); clear hb ho9; obtain ⟨Ao10, co10, eo10⟩ := Kd.R_slice HO427.out; subst eo10; have p428 : 0 ≤ (0 : Int) := (by omega); have q428 : 0 < (y425.length : Int) := od_; obtain ⟨ad428, e428, hx428_0, hx428_1⟩ := at_T46 (Kd.R_reads' HO427.out).2.2 0 p428 q428; cases e428; have qi428 : (0 < y425.length) = True := eq_true (by omega); (try rw [show ((0 : Int)).toNat = 0 from rfl] at hx428_0); (try rw [show 0 * 2 = 0 from rfl] at hx428_0); (try rw [Addr.add_zero'] at hx428_0); (try rw [show ((0 : Int)).toNat = 0 from rfl] at hx428_1); (try rw [show 0 * 2 = 0 from rfl] at hx428_1); (try rw [Addr.add_zero'] at hx428_1); replace p428 := eq_true p428; replace q428 := eq_true q428; have p5 : 0 ≤ (0 : Int) := (by omega); have q5 : (0 : Int) < ((y425.length : Int) : Int) := od_; have qi5 : (0 < y425.length) = True := eq_true (by omega); obtain ⟨go5, co5, eo5, gb5, gl5, cl5, HG5⟩ := Kd.R_form HO427.out (by omega); (first | cases eo5 | (injection eo5 with ea_ en_ ec_; (first | subst ea_ | (injection ea_ with ea_; subst ea_)); subst ec_; clear en_)); have GB5 := Aside0.mk gb5; have GG5 := Aside0.mk HG5; clear gb5 gl5 HG5; (first | simp only [add_plain] at hx428_0 | skip); (first | simp only [add_plain] at hx428_1 | skip); obtain ⟨ce5, hcl5, hM5, hcc5, hfr5⟩ := Kd.R_elem HO427.out z46 (0 : Int) p5 q5; obtain rfl := k46_openM hM5; have hx5_0 : w8.cell? ⟨go5, (0 : Int).toNat * 2, none⟩ = some (.int .i64 ((rd_T46 y425 0).f0)) := hcc5 0 _ rfl; have hx5_1 : w8.cell? ⟨go5, (0 : Int).toNat * 2 + 1, none⟩ = some (.int .i64 ((rd_T46 y425 0).f1)) := hcc5 1 _ rfl; have hf5_0 : w8.frozen? ⟨go5, (0 : Int).toNat * 2, none⟩ = false := hfr5 0; have hf5_1 : w8.frozen? ⟨go5, (0 : Int).toNat * 2 + 1, none⟩ = false := hfr5 1; clear hcl5 hcc5 hfr5 hM5; (try rw [show ((0 : Int)).toNat = 0 from rfl] at hx5_0); (try simp only [Nat.reduceMul, Nat.zero_mul, Nat.zero_add, Nat.reduceAdd] at hx5_0); (try rw [show ((0 : Int)).toNat = 0 from rfl] at hf5_0); (try simp only [Nat.reduceMul, Nat.zero_mul, Nat.zero_add, Nat.reduceAdd] at hf5_0); (try rw [show ((0 : Int)).toNat = 0 from rfl] at hx5_1); (try simp only [Nat.reduceMul, Nat.zero_mul, Nat.zero_add, Nat.reduceAdd] at hx5_1); (try rw [show ((0 : Int)).toNat = 0 from rfl] at hf5_1); (try simp only [Nat.reduceMul, Nat.zero_mul, Nat.zero_add, Nat.reduceAdd] at hf5_1); replace p5 := eq_true p5; replace q5 := eq_true q5; have HX11 := a0_ (show Kd.R k46 46 w8 w.heap.size (fun _ => True) (.slice (some ⟨go5, 0, none⟩) y425.length co10) y425 from (ra_ HO427.out)); obtain ⟨ce11, hcl11, hM11, hcc11, hfr11⟩ := Kd.R_elem HX11.out z46 (0 : Int) (by omega) (by have h_ : (0 : Int) < ((y425.length : Int) : Int) := od_; first | exact h_ | (have e_ := (Kd.R_reads' HO427.out).1; omega) | simpa using h_); obtain rfl := k46_openM hM11; have HP11 := Kd.R_seg HX11.out (0 : Int) (by omega) (by have h_ : (0 : Int) < ((y425.length : Int) : Int) := od_; first | exact h_ | (have e_ := (Kd.R_reads' HO427.out).1; omega) | simpa using h_) (seg := [.int .i64 ((rd_T46 y425 0).f0)]) (j := 1) hcl11 hcc11 (show 2 ≤ 2 from by decide) (x' := (⟨(rd_T46 y425 0).f0, (rd_T46 y425 0).f0⟩ : S46)) (k46_mkM _ _ _ (⟨(rd_T46 y425 0).f0, (rd_T46 y425 0).f0⟩ : S46) ) (fun _ hk => hk); have hx11_1 := hcc11 1 _ rfl; (try simp only [show (k46).sz = 2 from rfl, Nat.mul_one, Nat.add_zero] at hx11_1); (try rw [show ((0 : Int)).toNat = 0 from rfl] at hx11_1); (try simp only [Nat.reduceMul, Nat.zero_mul, Nat.zero_add, Nat.reduceAdd] at hx11_1); have hf11_1 := hfr11 1; (try simp only [show (k46).sz = 2 from rfl, Nat.mul_one, Nat.add_zero] at hf11_1); (try rw [show ((0 : Int)).toNat = 0 from rfl] at hf11_1); (try simp only [Nat.reduceMul, Nat.zero_mul, Nat.zero_add, Nat.reduceAdd] at hf11_1); clear hcl11 hcc11 hfr11 hM11) | ((with_reducible refine gate_store (t := 2) (p := 21) rfl ?_); refine store_event (t := 2) (p := 21) (v := ?vo_w12) (w1 := (w8.setCell ⟨go5, 1, none⟩ (.int .i64 ((rd_T46 y425 0).f0)))) ?hg ?ho ?hn ?hr ?_; (case ho => rfl); (case hg => rfl); (case hn => rfl); (case hr => first | (go_simp; done) | (go_simp; rfl)); intro w12 hw; have hg : w8.grownBy w12 (some go5) := (by rw [hw]; exact HP11.2); have hp_ : Kd.R k46 46 w12 w.heap.size (fun _ => True) (.slice (some ⟨go5, 0, none⟩) y425.length co10) y429 := (by rw [hw, Ny429.out]; exact HP11.1); clear HP11; replace HI0 := a0_ (IsS85.grown (is85_ HI0.out) hg (IsS85.own_ne HI0.out HO427.out (by decide))); replace HB := a0_ ((by rw [hw]; exact below_set (HB.out) (Nat.le_trans HL.out GB5.out) : Below w0.heap.size w0 w12)); replace HK := a0_ (KeepBut.trans (kb0_) (KeepBut.of_grown hg g) (Kd.R_base2 HO427.out)); replace HO427 := a0_ (hp_); clear hg hw hp_) | ((with_reducible refine gate_callee (f := 38) rfl ?_); refine goesL_ (some 23) rfl rfl Tryz.func38 kr_ rfl #[.pointer (some ⟨g, 0, none⟩), .int .i64 6] rfl ta_ ?_; (with_reducible refine (spec_l01Next.calls g s0_0 t423 t424 6 t430 t431 t432 w0 _ ?side1 ?side2 A6.out).mono ?_); (case side1 => exact is85_ HI0.out); (case side2 => exact bl1_ (IsS85.ge HI0.out)); rintro e w13 ⟨rfl, hi, hb, hk⟩; refine ⟨_, rfl, ?_⟩; replace HO427 := a0_ (Kd.R_mono (Kd.R_keep (IsS85.apart (show IsS85 w0 _ g s0_0 t423 t424 from is85_ HI0.out) (ra_ HO427.out) (by decide)) hk (fun _ h => h.2)) (fun _ h => h.1)); replace HK := a0_ (KeepBut.trans (kb0_) hk (.inl rfl)); replace HB := a0_ (hb); replace HI0 := a0_ (hi); (try clear hb); (try clear hb2); (try clear hk); (try clear hi)))
  go_loopg [5, 6] k (fun kq v5 v6 w' => ∃ (x5_1 : List (S46)) (x6_1 : Int) (x1001_1 : Int) (x1002_1 : Int), v6 = .int .i64 x6_1 ∧ Aside0 (spec_l07Draw.l0 kq a1 x5_1 x6_1 s0_0 x1001_1 x1002_1 = some (r1, r2, r3)) ∧ Aside0 (kq ≤ k) ∧ Aside0 (Kd.R k46 46 w' w.heap.size (fun _ => True) v5 x5_1) ∧ Aside0 (IsS85 w0 w' g s0_0 x1001_1 x1002_1) ∧ Aside0 (KeepBut w w' g none) ∧ Aside0 (Below w0.heap.size w0 w'))
  case atStart => exact ⟨(y429), (t430), (t431), (t432), rs_, H', ⟨Nat.le_refl _⟩, ⟨ra_ HO427.out⟩, ⟨is85_ HI0.out⟩, ⟨kb0_⟩, ⟨bl1_ (IsS85.ge HI0.out)⟩⟩
  case round =>
   clear H'
   try clear c1
   try clear hx1
   try clear c2
   try clear p2
   try clear c3
   try clear c4
   try clear c4b0
   try clear c4b1
   try clear p4
   try clear q4
   try clear hx4
   try clear qi4
   try clear c5
   try clear p5
   try clear q5
   try clear hx5
   try clear qi5
   try clear hf5
   try clear p6
   try clear c10
   try clear c11
   try clear hx11
   try clear hf11
   try clear hx11_1
   try clear hx428_0
   try clear hx428_1
   try clear hx5_0
   try clear hx5_1
   try clear p428
   try clear p5
   try clear q428
   try clear q5
   obtain ⟨x5_1, x6_1, x1001_1, x1002_1, rfl, HA, HK1, HO_5, HI0, HK, HB⟩ := hrel
   cases gk with
   | zero => exact absurd HA.out (by simp [spec_l07Draw.l0])
   | succ k1 =>
    have H := HA.out
    clear HA
    simp only [spec_l07Draw.l0] at H
    by_cases c14 : x6_1 > 0
    ·rw [if_pos c14] at H
     have c14b0 : decide (0 < x6_1) = true := decide_eq_true c14
     clear c14
     obtain ⟨⟨t433, t434, t435⟩, A15, H⟩ := bs_ H
     dsimp only at H
     by_cases c16 : 0 ≤ t433
     ·rw [if_pos c16] at H
      have c16b0 : decide (0 ≤ t433) = true := decide_eq_true c16
      clear c16
      by_cases c17 : t433 < (x5_1.length : Int)
      ·rw [if_pos c17] at H
       have c17b0 : decide (t433 < (x5_1.length : Int)) = true := decide_eq_true c17
       clear c17
       obtain ⟨t437, A18, H⟩ := bs_ H
       obtain ⟨⟨t440, t441, t442⟩, A19, H⟩ := bs_ H
       dsimp only at H
       by_cases c20 : 0 ≤ t440
       ·rw [if_pos c20] at H
        have c20b0 : decide (0 ≤ t440) = true := decide_eq_true c20
        clear c20
        by_cases c21 : t440 < (t437.length : Int)
        ·rw [if_pos c21] at H
         have c21b0 : decide (t440 < (t437.length : Int)) = true := decide_eq_true c21
         clear c21
         obtain ⟨t445, A22, H⟩ := bs_ H
         by_cases c23 : t445 < 0
         ·rw [if_pos c23] at H
          have c23b0 : decide (t445 < 0) = true := decide_eq_true c23
          clear c23
          obtain ⟨t446, A24, H⟩ := bs_ H
          have H' := Aside0.mk H
          clear H
          obtain ⟨Ao25, co25, eo25⟩ := Kd.R_slice HO_5.out
          subst eo25
          go_wp2_with (first | ((with_reducible refine gate_callee (f := 38) rfl ?_); refine goesL_ (some 33) rfl rfl Tryz.func38 kr_ rfl #[.pointer (some ⟨g, 0, none⟩), .int .i64 (x5_1.length : Int)] rfl ta_ ?_; (with_reducible refine (spec_l01Next.calls g s0_0 x1001_1 x1002_1 (x5_1.length : Int) t433 t434 t435 w0 _ ?side1 ?side2 A15.out).mono ?_); (case side1 => exact is85_ HI0.out); (case side2 => exact bl1_ (IsS85.ge HI0.out)); rintro e w26 ⟨rfl, hi, hb, hk⟩; refine ⟨_, rfl, ?_⟩; replace HO_5 := a0_ (Kd.R_mono (Kd.R_keep (IsS85.apart (show IsS85 w0 _ g s0_0 x1001_1 x1002_1 from is85_ HI0.out) (ra_ HO_5.out) (by decide)) hk (fun _ h => h.2)) (fun _ h => h.1)); replace HK := a0_ (KeepBut.trans (kb0_) hk (.inl rfl)); replace HB := a0_ (hb); replace HI0 := a0_ (hi); (try clear hb); (try clear hb2); (try clear hk); (try clear hi); have p436 : 0 ≤ (t433 : Int) := od_; have q436 : t433 < (x5_1.length : Int) := od_; obtain ⟨ad436, e436, hx436_0, hx436_1⟩ := at_T46 (Kd.R_reads' HO_5.out).2.2 t433 p436 q436; cases e436; replace p436 := eq_true p436; replace q436 := eq_true q436) | ((with_reducible refine gate_callee (f := 72) rfl ?_); refine goesL_ (some 36) rfl rfl Tryz.func72 kr_ rfl #[.int .i64 a1, .agg #[.int .i64 ((rd_T46 x5_1 t433).f0), .int .i64 ((rd_T46 x5_1 t433).f1)]] rfl ta_ ?_; (with_reducible refine (spec_l07Around.calls a1 ((rd_T46 x5_1 t433).f0) ((rd_T46 x5_1 t433).f1) t437 _ A18.out).mono ?_); rintro e w27 ⟨v438, rfl, ho0, hb⟩; refine ⟨_, rfl, ?_⟩; have HO439 := a0_ (Kd.R_lower (Kd.R_new' ho0 (Kd.R_lt (ra_ HO_5.out))) (keep_size (w := w) (g := g) (row := none) (kb0_))); replace HO_5 := a0_ (Kd.R_elder' (ra_ HO_5.out) (Kd.R_base ho0) hb); replace HK := a0_ (KeepBut.trans (kb0_) (KeepBut.of_below hb g none) (.inl rfl)); replace HB := a0_ (below_step (bl1_ (IsS85.ge HI0.out)) hb); replace HI0 := a0_ (IsS85.below (is85_ HI0.out) hb); (try clear hb); (try clear hb2); (try clear hk); (try clear hi); (try clear ho0); obtain ⟨Ao28, co28, eo28⟩ := Kd.R_slice HO439.out; subst eo28) | ((with_reducible refine gate_callee (f := 38) rfl ?_); refine goesL_ (some 41) rfl rfl Tryz.func38 kr_ rfl #[.pointer (some ⟨g, 0, none⟩), .int .i64 (t437.length : Int)] rfl ta_ ?_; (with_reducible refine (spec_l01Next.calls g s0_0 t434 t435 (t437.length : Int) t440 t441 t442 w0 _ ?side1 ?side2 A19.out).mono ?_); (case side1 => exact is85_ HI0.out); (case side2 => exact bl1_ (IsS85.ge HI0.out)); rintro e w29 ⟨rfl, hi, hb, hk⟩; refine ⟨_, rfl, ?_⟩; replace HO_5 := a0_ (Kd.R_mono (Kd.R_keep (IsS85.apart (show IsS85 w0 _ g s0_0 t434 t435 from is85_ HI0.out) (ra_ HO_5.out) (by decide)) hk (fun _ h => h.2)) (fun _ h => h.1)); replace HO439 := a0_ (Kd.R_mono (Kd.R_keep (IsS85.apart (show IsS85 w0 _ g s0_0 t434 t435 from is85_ HI0.out) (ra_ HO439.out) (by decide)) hk (fun _ h => h.2)) (fun _ h => h.1)); replace HK := a0_ (KeepBut.trans (kb0_) hk (.inl rfl)); replace HB := a0_ (hb); replace HI0 := a0_ (hi); (try clear hb); (try clear hb2); (try clear hk); (try clear hi); have p443 : 0 ≤ (t440 : Int) := od_; have q443 : t440 < (t437.length : Int) := od_; obtain ⟨ad443, e443, hx443_0, hx443_1⟩ := at_T46 (Kd.R_reads' HO439.out).2.2 t440 p443 q443; cases e443; replace p443 := eq_true p443; replace q443 := eq_true q443) | ((with_reducible refine gate_dst (N := 8) rfl ?_); refine bx_ (N := 8) (cs := #[.int .i64 0, .int .i64 0]) (t := 46) ?_; intro gb444 hg w30 hbox hb; replace HO_5 := a0_ (Kd.R_below (Kd.R_elderB (ra_ HO_5.out) gb444 (Nat.le_of_eq hg.symm)) hb); replace HO439 := a0_ (Kd.R_below (Kd.R_elderB (ra_ HO439.out) gb444 (Nat.le_of_eq hg.symm)) hb); replace HB := a0_ (below_step (bl1_ (IsS85.ge HI0.out)) hb); have BK444 := a0_ (hbox); have GW444 := a0_ ((by rw [hg]; exact (keep_size (w := w) (g := g) (row := none) (kb0_)) : w.heap.size ≤ gb444)); have GE444 := a0_ ((Nat.le_trans HW0.out (by rw [hg]; exact (keep_size (w := w) (g := g) (row := none) (kb0_)) : w.heap.size ≤ gb444) : w0.heap.size ≤ gb444)); replace HK := a0_ (KeepBut.trans (kb0_) (KeepBut.of_below hb g none) (.inl rfl)); have NB0_444 := a0_ ((by rw [hg]; exact Nat.ne_of_lt (IsS85.lt (show IsS85 w0 _ g s0_0 t441 t442 from is85_ HI0.out)) : g ≠ gb444)); have NB444_0 := a0_ ((by rw [hg]; exact Nat.ne_of_gt (IsS85.lt (show IsS85 w0 _ g s0_0 t441 t442 from is85_ HI0.out)) : gb444 ≠ g)); replace HI0 := a0_ (IsS85.below (is85_ HI0.out) hb); clear hb hbox hg; have hnb31 := NB444_0.out; have hnc31 := NB0_444.out; obtain ⟨hcz32_0, hcz32_1, hfz32_0, hfz32_1⟩ := bc2_ BK444.out) | ((with_reducible refine gate_callee (f := 83) rfl ?_); refine goesL_ (some 46) rfl rfl Tryz.func83 kr_ rfl #[.slice (some ad436) x5_1.length co25, .agg #[.int .i64 ((rd_T46 t437 t440).f0), .int .i64 ((rd_T46 t437 t440).f1)]] rfl ta_ ?_; (with_reducible refine (spec_l02Index.calls k1 _ _ x5_1 ((rd_T46 t437 t440).f0) ((rd_T46 t437 t440).f1) t445 _ ?side1 ?side2 A22.out).mono ?_); (case side1 => refine (Kd.R_reads' (e := 46) (base := w.heap.size) (ok := fun k_ => ((True ∧ some k_ ≠ (.slice (some ad443) t437.length co28 : Value).ownBlock) ∧ k_ ≠ gb444)) (n := x5_1.length) (c := co25) ?_).2.2; exact (by (with_reducible repeat (first | apply Kd.R_alloc | apply Kd.R_drewN | apply Kd.R_drew)); exact (Kd.R_mono (Kd.R_far (p := ⟨gb444, 1, none⟩) (Kd.R_far (p := ⟨gb444, 0, none⟩) (Kd.R_mono HO_5.out (fun k_ hk => (⟨hk, hk.2⟩ : _ ∧ k_ ≠ gb444))) (fun _ hk => hk.2) (.int .i64 ((rd_T46 t437 t440).f0))) (fun _ hk => hk.2) (.int .i64 ((rd_T46 t437 t440).f1))) (fun _ h_ => h_.1)))); (case side2 => exact (Kd.R_reads' HO_5.out).2.1); rintro e w33 ⟨rfl, hb⟩; refine ⟨_, rfl, ?_⟩; replace HO_5 := a0_ (Kd.R_below (by (with_reducible repeat (first | apply Kd.R_alloc | apply Kd.R_drewN | apply Kd.R_drew)); exact (Kd.R_mono (Kd.R_far (p := ⟨gb444, 1, none⟩) (Kd.R_far (p := ⟨gb444, 0, none⟩) (Kd.R_mono HO_5.out (fun k_ hk => (⟨hk, hk.2⟩ : _ ∧ k_ ≠ gb444))) (fun _ hk => hk.2) (.int .i64 ((rd_T46 t437 t440).f0))) (fun _ hk => hk.2) (.int .i64 ((rd_T46 t437 t440).f1))) (fun _ h_ => h_.1))) hb); replace HO439 := a0_ (Kd.R_below (by (with_reducible repeat (first | apply Kd.R_alloc | apply Kd.R_drewN | apply Kd.R_drew)); exact (Kd.R_mono (Kd.R_far (p := ⟨gb444, 1, none⟩) (Kd.R_far (p := ⟨gb444, 0, none⟩) (Kd.R_mono HO439.out (fun k_ hk => (⟨hk, hk.2⟩ : _ ∧ k_ ≠ gb444))) (fun _ hk => hk.2) (.int .i64 ((rd_T46 t437 t440).f0))) (fun _ hk => hk.2) (.int .i64 ((rd_T46 t437 t440).f1))) (fun _ h_ => h_.1))) hb); replace BK444 := a0_ (blk_below (g := gb444) (o := .cells #[.int .i64 ((rd_T46 t437 t440).f0), .int .i64 ((rd_T46 t437 t440).f1)] 46 (0, 0)) (by (with_reducible repeat (first | refine blk_drewN ?_ _ | refine blk_drew ?_ | refine blk_alloc ?_ _)); refine blk_put (cs := #[.int .i64 ((rd_T46 t437 t440).f0), .int .i64 0]) ?_ 1 _ rfl; (with_reducible repeat (first | refine blk_drewN ?_ _ | refine blk_drew ?_ | refine blk_alloc ?_ _)); refine blk_put (cs := #[.int .i64 0, .int .i64 0]) ?_ 0 _ rfl; (with_reducible repeat (first | refine blk_drewN ?_ _ | refine blk_drew ?_ | refine blk_alloc ?_ _)); exact BK444.out) hb); replace HK := a0_ (KeepBut.trans (kb1_ GW444.out) (KeepBut.of_below hb g none) (.inl rfl)); replace HB := a0_ (below_step (bl2_ (IsS85.ge HI0.out) GE444.out) hb); replace HI0 := a0_ (IsS85.below (show IsS85 w0 ((w30.setCell ⟨gb444, 0, none⟩ (.int .i64 ((rd_T46 t437 t440).f0))).setCell ⟨gb444, 1, none⟩ (.int .i64 ((rd_T46 t437 t440).f1))) g s0_0 t441 t442 from by repeat (first | (with_reducible first | exact HI0.out | apply IsS85.alloc | apply IsS85.drewN | apply IsS85.drew | apply IsS85.set_1 | apply IsS85.set_2 | refine IsS85.far ?_ NB0_444.out _) | exact HI0.out)) hb); (try clear hb); (try clear hb2); (try clear hk); (try clear hi); obtain ⟨hcz34_0, hcz34_1, hfz34_0, hfz34_1⟩ := bc2_ BK444.out) | ((with_reducible refine gate_callee (f := 86) rfl ?_); refine goesL_ (some 50) rfl rfl Tryz.func86 kr_ rfl #[.slice (some ad436) x5_1.length co25, .agg #[.int .i64 ((rd_T46 t437 t440).f0), .int .i64 ((rd_T46 t437 t440).f1)]] rfl ta_ ?_; (with_reducible refine (spec_l02Insert.calls k1 _ _ x5_1 ((rd_T46 t437 t440).f0) ((rd_T46 t437 t440).f1) t446 _ ?side1 ?side2 A24.out).mono ?_); (case side1 => exact ca_ (Kd.R_reads' HO_5.out).2.2); (case side2 => exact (Kd.R_reads' HO_5.out).2.1); rintro e w35 ⟨v447, rfl, ho0, hb⟩; refine ⟨_, rfl, ?_⟩; have HO448 := a0_ (Kd.R_lower (Kd.R_newB (Kd.R_new' (Kd.R_new' ho0 (Kd.R_lt (ra_ HO_5.out))) (Kd.R_lt (ra_ HO439.out))) (g := gb444) (o := .cells #[.int .i64 ((rd_T46 t437 t440).f0), .int .i64 ((rd_T46 t437 t440).f1)] 46 (0, 0)) (bk_ BK444.out)) (keep_size (w := w) (g := g) (row := none) (kb1_ GW444.out))); replace HO_5 := a0_ (Kd.R_elder' (ra_ HO_5.out) (Kd.R_base ho0) hb); replace HO439 := a0_ (Kd.R_elder' (ra_ HO439.out) (Kd.R_base ho0) hb); replace BK444 := a0_ (bb_ BK444.out hb); replace HK := a0_ (KeepBut.trans (kb1_ GW444.out) (KeepBut.of_below hb g none) (.inl rfl)); replace HB := a0_ (below_step (bl2_ (IsS85.ge HI0.out) GE444.out) hb); replace HI0 := a0_ (IsS85.below (by repeat (first | (with_reducible first | exact HI0.out | apply IsS85.alloc | apply IsS85.drewN | apply IsS85.drew | apply IsS85.set_1 | apply IsS85.set_2 | refine IsS85.far ?_ NB0_444.out _) | exact HI0.out)) hb); (try clear hb); (try clear hb2); (try clear hk); (try clear hi); (try clear ho0)))
          go_roundg k1
          case measure => have := HK1.out; omega
          case rel => exact ⟨(t446), (wrap64 (x6_1 - 1)), (t441), (t442), rs_, H', ⟨by have := HK1.out; omega⟩, ⟨by (with_reducible repeat (first | apply Kd.R_alloc | apply Kd.R_drewN | apply Kd.R_drew)); exact Kd.R_mono HO448.out (fun _ hk => trivial)⟩, ⟨by repeat (first | (with_reducible first | exact HI0.out | apply IsS85.alloc | apply IsS85.drewN | apply IsS85.drew | apply IsS85.set_1 | apply IsS85.set_2 | refine IsS85.far ?_ NB0_444.out _) | exact HI0.out)⟩, ⟨kb1_ GW444.out⟩, ⟨bl2_ (IsS85.ge HI0.out) GE444.out⟩⟩
         ·rw [if_neg c23] at H
          have c23b0 : decide (t445 < 0) = false := decide_eq_false c23
          clear c23
          have H' := Aside0.mk H
          clear H
          obtain ⟨Ao36, co36, eo36⟩ := Kd.R_slice HO_5.out
          subst eo36
          go_wp2_with (first | ((with_reducible refine gate_callee (f := 38) rfl ?_); refine goesL_ (some 33) rfl rfl Tryz.func38 kr_ rfl #[.pointer (some ⟨g, 0, none⟩), .int .i64 (x5_1.length : Int)] rfl ta_ ?_; (with_reducible refine (spec_l01Next.calls g s0_0 x1001_1 x1002_1 (x5_1.length : Int) t433 t434 t435 w0 _ ?side1 ?side2 A15.out).mono ?_); (case side1 => exact is85_ HI0.out); (case side2 => exact bl1_ (IsS85.ge HI0.out)); rintro e w37 ⟨rfl, hi, hb, hk⟩; refine ⟨_, rfl, ?_⟩; replace HO_5 := a0_ (Kd.R_mono (Kd.R_keep (IsS85.apart (show IsS85 w0 _ g s0_0 x1001_1 x1002_1 from is85_ HI0.out) (ra_ HO_5.out) (by decide)) hk (fun _ h => h.2)) (fun _ h => h.1)); replace HK := a0_ (KeepBut.trans (kb0_) hk (.inl rfl)); replace HB := a0_ (hb); replace HI0 := a0_ (hi); (try clear hb); (try clear hb2); (try clear hk); (try clear hi); have p436 : 0 ≤ (t433 : Int) := od_; have q436 : t433 < (x5_1.length : Int) := od_; obtain ⟨ad436, e436, hx436_0, hx436_1⟩ := at_T46 (Kd.R_reads' HO_5.out).2.2 t433 p436 q436; cases e436; replace p436 := eq_true p436; replace q436 := eq_true q436) | ((with_reducible refine gate_callee (f := 72) rfl ?_); refine goesL_ (some 36) rfl rfl Tryz.func72 kr_ rfl #[.int .i64 a1, .agg #[.int .i64 ((rd_T46 x5_1 t433).f0), .int .i64 ((rd_T46 x5_1 t433).f1)]] rfl ta_ ?_; (with_reducible refine (spec_l07Around.calls a1 ((rd_T46 x5_1 t433).f0) ((rd_T46 x5_1 t433).f1) t437 _ A18.out).mono ?_); rintro e w38 ⟨v438, rfl, ho0, hb⟩; refine ⟨_, rfl, ?_⟩; have HO439 := a0_ (Kd.R_lower (Kd.R_new' ho0 (Kd.R_lt (ra_ HO_5.out))) (keep_size (w := w) (g := g) (row := none) (kb0_))); replace HO_5 := a0_ (Kd.R_elder' (ra_ HO_5.out) (Kd.R_base ho0) hb); replace HK := a0_ (KeepBut.trans (kb0_) (KeepBut.of_below hb g none) (.inl rfl)); replace HB := a0_ (below_step (bl1_ (IsS85.ge HI0.out)) hb); replace HI0 := a0_ (IsS85.below (is85_ HI0.out) hb); (try clear hb); (try clear hb2); (try clear hk); (try clear hi); (try clear ho0); obtain ⟨Ao39, co39, eo39⟩ := Kd.R_slice HO439.out; subst eo39) | ((with_reducible refine gate_callee (f := 38) rfl ?_); refine goesL_ (some 41) rfl rfl Tryz.func38 kr_ rfl #[.pointer (some ⟨g, 0, none⟩), .int .i64 (t437.length : Int)] rfl ta_ ?_; (with_reducible refine (spec_l01Next.calls g s0_0 t434 t435 (t437.length : Int) t440 t441 t442 w0 _ ?side1 ?side2 A19.out).mono ?_); (case side1 => exact is85_ HI0.out); (case side2 => exact bl1_ (IsS85.ge HI0.out)); rintro e w40 ⟨rfl, hi, hb, hk⟩; refine ⟨_, rfl, ?_⟩; replace HO_5 := a0_ (Kd.R_mono (Kd.R_keep (IsS85.apart (show IsS85 w0 _ g s0_0 t434 t435 from is85_ HI0.out) (ra_ HO_5.out) (by decide)) hk (fun _ h => h.2)) (fun _ h => h.1)); replace HO439 := a0_ (Kd.R_mono (Kd.R_keep (IsS85.apart (show IsS85 w0 _ g s0_0 t434 t435 from is85_ HI0.out) (ra_ HO439.out) (by decide)) hk (fun _ h => h.2)) (fun _ h => h.1)); replace HK := a0_ (KeepBut.trans (kb0_) hk (.inl rfl)); replace HB := a0_ (hb); replace HI0 := a0_ (hi); (try clear hb); (try clear hb2); (try clear hk); (try clear hi); have p443 : 0 ≤ (t440 : Int) := od_; have q443 : t440 < (t437.length : Int) := od_; obtain ⟨ad443, e443, hx443_0, hx443_1⟩ := at_T46 (Kd.R_reads' HO439.out).2.2 t440 p443 q443; cases e443; replace p443 := eq_true p443; replace q443 := eq_true q443) | ((with_reducible refine gate_dst (N := 8) rfl ?_); refine bx_ (N := 8) (cs := #[.int .i64 0, .int .i64 0]) (t := 46) ?_; intro gb444 hg w41 hbox hb; replace HO_5 := a0_ (Kd.R_below (Kd.R_elderB (ra_ HO_5.out) gb444 (Nat.le_of_eq hg.symm)) hb); replace HO439 := a0_ (Kd.R_below (Kd.R_elderB (ra_ HO439.out) gb444 (Nat.le_of_eq hg.symm)) hb); replace HB := a0_ (below_step (bl1_ (IsS85.ge HI0.out)) hb); have BK444 := a0_ (hbox); have GW444 := a0_ ((by rw [hg]; exact (keep_size (w := w) (g := g) (row := none) (kb0_)) : w.heap.size ≤ gb444)); have GE444 := a0_ ((Nat.le_trans HW0.out (by rw [hg]; exact (keep_size (w := w) (g := g) (row := none) (kb0_)) : w.heap.size ≤ gb444) : w0.heap.size ≤ gb444)); replace HK := a0_ (KeepBut.trans (kb0_) (KeepBut.of_below hb g none) (.inl rfl)); have NB0_444 := a0_ ((by rw [hg]; exact Nat.ne_of_lt (IsS85.lt (show IsS85 w0 _ g s0_0 t441 t442 from is85_ HI0.out)) : g ≠ gb444)); have NB444_0 := a0_ ((by rw [hg]; exact Nat.ne_of_gt (IsS85.lt (show IsS85 w0 _ g s0_0 t441 t442 from is85_ HI0.out)) : gb444 ≠ g)); replace HI0 := a0_ (IsS85.below (is85_ HI0.out) hb); clear hb hbox hg; have hnb42 := NB444_0.out; have hnc42 := NB0_444.out; obtain ⟨hcz43_0, hcz43_1, hfz43_0, hfz43_1⟩ := bc2_ BK444.out) | ((with_reducible refine gate_callee (f := 83) rfl ?_); refine goesL_ (some 46) rfl rfl Tryz.func83 kr_ rfl #[.slice (some ad436) x5_1.length co36, .agg #[.int .i64 ((rd_T46 t437 t440).f0), .int .i64 ((rd_T46 t437 t440).f1)]] rfl ta_ ?_; (with_reducible refine (spec_l02Index.calls k1 _ _ x5_1 ((rd_T46 t437 t440).f0) ((rd_T46 t437 t440).f1) t445 _ ?side1 ?side2 A22.out).mono ?_); (case side1 => refine (Kd.R_reads' (e := 46) (base := w.heap.size) (ok := fun k_ => ((True ∧ some k_ ≠ (.slice (some ad443) t437.length co39 : Value).ownBlock) ∧ k_ ≠ gb444)) (n := x5_1.length) (c := co36) ?_).2.2; exact (by (with_reducible repeat (first | apply Kd.R_alloc | apply Kd.R_drewN | apply Kd.R_drew)); exact (Kd.R_mono (Kd.R_far (p := ⟨gb444, 1, none⟩) (Kd.R_far (p := ⟨gb444, 0, none⟩) (Kd.R_mono HO_5.out (fun k_ hk => (⟨hk, hk.2⟩ : _ ∧ k_ ≠ gb444))) (fun _ hk => hk.2) (.int .i64 ((rd_T46 t437 t440).f0))) (fun _ hk => hk.2) (.int .i64 ((rd_T46 t437 t440).f1))) (fun _ h_ => h_.1)))); (case side2 => exact (Kd.R_reads' HO_5.out).2.1); rintro e w44 ⟨rfl, hb⟩; refine ⟨_, rfl, ?_⟩; replace HO_5 := a0_ (Kd.R_below (by (with_reducible repeat (first | apply Kd.R_alloc | apply Kd.R_drewN | apply Kd.R_drew)); exact (Kd.R_mono (Kd.R_far (p := ⟨gb444, 1, none⟩) (Kd.R_far (p := ⟨gb444, 0, none⟩) (Kd.R_mono HO_5.out (fun k_ hk => (⟨hk, hk.2⟩ : _ ∧ k_ ≠ gb444))) (fun _ hk => hk.2) (.int .i64 ((rd_T46 t437 t440).f0))) (fun _ hk => hk.2) (.int .i64 ((rd_T46 t437 t440).f1))) (fun _ h_ => h_.1))) hb); replace HO439 := a0_ (Kd.R_below (by (with_reducible repeat (first | apply Kd.R_alloc | apply Kd.R_drewN | apply Kd.R_drew)); exact (Kd.R_mono (Kd.R_far (p := ⟨gb444, 1, none⟩) (Kd.R_far (p := ⟨gb444, 0, none⟩) (Kd.R_mono HO439.out (fun k_ hk => (⟨hk, hk.2⟩ : _ ∧ k_ ≠ gb444))) (fun _ hk => hk.2) (.int .i64 ((rd_T46 t437 t440).f0))) (fun _ hk => hk.2) (.int .i64 ((rd_T46 t437 t440).f1))) (fun _ h_ => h_.1))) hb); replace BK444 := a0_ (blk_below (g := gb444) (o := .cells #[.int .i64 ((rd_T46 t437 t440).f0), .int .i64 ((rd_T46 t437 t440).f1)] 46 (0, 0)) (by (with_reducible repeat (first | refine blk_drewN ?_ _ | refine blk_drew ?_ | refine blk_alloc ?_ _)); refine blk_put (cs := #[.int .i64 ((rd_T46 t437 t440).f0), .int .i64 0]) ?_ 1 _ rfl; (with_reducible repeat (first | refine blk_drewN ?_ _ | refine blk_drew ?_ | refine blk_alloc ?_ _)); refine blk_put (cs := #[.int .i64 0, .int .i64 0]) ?_ 0 _ rfl; (with_reducible repeat (first | refine blk_drewN ?_ _ | refine blk_drew ?_ | refine blk_alloc ?_ _)); exact BK444.out) hb); replace HK := a0_ (KeepBut.trans (kb1_ GW444.out) (KeepBut.of_below hb g none) (.inl rfl)); replace HB := a0_ (below_step (bl2_ (IsS85.ge HI0.out) GE444.out) hb); replace HI0 := a0_ (IsS85.below (show IsS85 w0 ((w41.setCell ⟨gb444, 0, none⟩ (.int .i64 ((rd_T46 t437 t440).f0))).setCell ⟨gb444, 1, none⟩ (.int .i64 ((rd_T46 t437 t440).f1))) g s0_0 t441 t442 from by repeat (first | (with_reducible first | exact HI0.out | apply IsS85.alloc | apply IsS85.drewN | apply IsS85.drew | apply IsS85.set_1 | apply IsS85.set_2 | refine IsS85.far ?_ NB0_444.out _) | exact HI0.out)) hb); (try clear hb); (try clear hb2); (try clear hk); (try clear hi)))
          go_roundg k1
          case measure => have := HK1.out; omega
          case rel => exact ⟨(x5_1), (wrap64 (x6_1 - 1)), (t441), (t442), rs_, H', ⟨by have := HK1.out; omega⟩, ⟨by (with_reducible repeat (first | apply Kd.R_alloc | apply Kd.R_drewN | apply Kd.R_drew)); exact Kd.R_mono HO_5.out (fun _ hk => trivial)⟩, ⟨by repeat (first | (with_reducible first | exact HI0.out | apply IsS85.alloc | apply IsS85.drewN | apply IsS85.drew | apply IsS85.set_1 | apply IsS85.set_2 | refine IsS85.far ?_ NB0_444.out _) | exact HI0.out)⟩, ⟨kb1_ GW444.out⟩, ⟨bl2_ (IsS85.ge HI0.out) GE444.out⟩⟩
        ·rw [if_neg c21] at H
         exact absurd H (by simp)
       ·rw [if_neg c20] at H
        exact absurd H (by simp)
      ·rw [if_neg c17] at H
       exact absurd H (by simp)
     ·rw [if_neg c16] at H
      exact absurd H (by simp)
    ·rw [if_neg c14] at H
     have c14b0 : decide (0 < x6_1) = false := decide_eq_false c14
     clear c14
     obtain ⟨⟨t449, t450, t451⟩, A45, H⟩ := bs_ H
     dsimp only at H
     obtain ⟨⟨t452, t453, t454⟩, A46, H⟩ := bs_ H
     dsimp only at H
     obtain ⟨t455, A47, H⟩ := bs_ H
     obtain ⟨⟨t458, t459, t460⟩, A48, H⟩ := bs_ H
     dsimp only at H
     obtain ⟨⟨t461, t462, t463⟩, A49, H⟩ := bs_ H
     dsimp only at H
     by_cases c50 : t461 = 0
     ·rw [if_pos c50] at H
      have c50b0 : (t461 == 0) = true := beq_iff_eq.mpr c50
      have c50b1 : (t461 != 0) = false := bne_eq_false_iff_eq.mpr c50
      clear c50
      by_cases c51 : 0 ≤ t458
      ·rw [if_pos c51] at H
       have c51b0 : decide (0 ≤ t458) = true := decide_eq_true c51
       clear c51
       by_cases c52 : t458 < (t455.length : Int)
       ·rw [if_pos c52] at H
        have c52b0 : decide (t458 < (t455.length : Int)) = true := decide_eq_true c52
        clear c52
        obtain ⟨y465, hy465⟩ : ∃ y_ : List (S46), y_ = (t455.set (t458 : Int).toNat (⟨wrap64 (((rd_T46 t455 t458).f0) + 1), (rd_T46 t455 t458).f1⟩ : S46)) := ⟨_, rfl⟩
        replace H : (some (y465, t462, t463)) = some (r1, r2, r3) := hh_ hy465 H
        have Ny465 := Aside0.mk hy465
        clear hy465
        simp only [Option.some.injEq, Prod.mk.injEq] at H
        obtain ⟨rfl, rfl, rfl⟩ := H
        go_wp2_with (first | ((with_reducible refine gate_callee (f := 38) rfl ?_); refine goesL_ (some 53) rfl rfl Tryz.func38 kr_ rfl #[.pointer (some ⟨g, 0, none⟩), .int .i64 5] rfl ta_ ?_; (with_reducible refine (spec_l01Next.calls g s0_0 x1001_1 x1002_1 5 t449 t450 t451 w0 _ ?side1 ?side2 A45.out).mono ?_); (case side1 => exact is85_ HI0.out); (case side2 => exact bl1_ (IsS85.ge HI0.out)); rintro e w54 ⟨rfl, hi, hb, hk⟩; refine ⟨_, rfl, ?_⟩; replace HO_5 := a0_ (Kd.R_mono (Kd.R_keep (IsS85.apart (show IsS85 w0 _ g s0_0 x1001_1 x1002_1 from is85_ HI0.out) (ra_ HO_5.out) (by decide)) hk (fun _ h => h.2)) (fun _ h => h.1)); replace HK := a0_ (KeepBut.trans (kb0_) hk (.inl rfl)); replace HB := a0_ (hb); replace HI0 := a0_ (hi); (try clear hb); (try clear hb2); (try clear hk); (try clear hi)) | ((with_reducible refine gate_callee (f := 38) rfl ?_); refine goesL_ (some 57) rfl rfl Tryz.func38 kr_ rfl #[.pointer (some ⟨g, 0, none⟩), .int .i64 5] rfl ta_ ?_; (with_reducible refine (spec_l01Next.calls g s0_0 t450 t451 5 t452 t453 t454 w0 _ ?side1 ?side2 A46.out).mono ?_); (case side1 => exact is85_ HI0.out); (case side2 => exact bl1_ (IsS85.ge HI0.out)); rintro e w55 ⟨rfl, hi, hb, hk⟩; refine ⟨_, rfl, ?_⟩; replace HO_5 := a0_ (Kd.R_mono (Kd.R_keep (IsS85.apart (show IsS85 w0 _ g s0_0 t450 t451 from is85_ HI0.out) (ra_ HO_5.out) (by decide)) hk (fun _ h => h.2)) (fun _ h => h.1)); replace HK := a0_ (KeepBut.trans (kb0_) hk (.inl rfl)); replace HB := a0_ (hb); replace HI0 := a0_ (hi); (try clear hb); (try clear hb2); (try clear hk); (try clear hi); obtain ⟨Ao56, co56, eo56⟩ := Kd.R_slice HO_5.out; subst eo56) | ((with_reducible refine gate_callee (f := 56) rfl ?_); refine goesL_ (some 60) rfl rfl Tryz.func56 kr_ rfl #[.slice Ao56 x5_1.length co56, .int .i64 (wrap64 ((wrap64 (3 * t449)) - 6)), .int .i64 (wrap64 ((wrap64 (3 * t452)) - 6))] rfl ta_ ?_; (with_reducible refine (spec_l02Move.calls k1 _ _ x5_1 (wrap64 ((wrap64 (3 * t449)) - 6)) (wrap64 ((wrap64 (3 * t452)) - 6)) t455 _ ?side1 ?side2 A47.out).mono ?_); (case side1 => exact ca_ (Kd.R_reads' HO_5.out).2.2); (case side2 => exact (Kd.R_reads' HO_5.out).2.1); rintro e w57 ⟨v456, rfl, ho0, hb⟩; refine ⟨_, rfl, ?_⟩; have HO457 := a0_ (Kd.R_lower (Kd.R_new' ho0 (Kd.R_lt (ra_ HO_5.out))) (keep_size (w := w) (g := g) (row := none) (kb0_))); replace HO_5 := a0_ (Kd.R_elder' (ra_ HO_5.out) (Kd.R_base ho0) hb); replace HK := a0_ (KeepBut.trans (kb0_) (KeepBut.of_below hb g none) (.inl rfl)); replace HB := a0_ (below_step (bl1_ (IsS85.ge HI0.out)) hb); replace HI0 := a0_ (IsS85.below (is85_ HI0.out) hb); (try clear hb); (try clear hb2); (try clear hk); (try clear hi); (try clear ho0); obtain ⟨Ao58, co58, eo58⟩ := Kd.R_slice HO457.out; subst eo58) | ((with_reducible refine gate_callee (f := 38) rfl ?_); refine goesL_ (some 64) rfl rfl Tryz.func38 kr_ rfl #[.pointer (some ⟨g, 0, none⟩), .int .i64 (t455.length : Int)] rfl ta_ ?_; (with_reducible refine (spec_l01Next.calls g s0_0 t453 t454 (t455.length : Int) t458 t459 t460 w0 _ ?side1 ?side2 A48.out).mono ?_); (case side1 => exact is85_ HI0.out); (case side2 => exact bl1_ (IsS85.ge HI0.out)); rintro e w59 ⟨rfl, hi, hb, hk⟩; refine ⟨_, rfl, ?_⟩; replace HO_5 := a0_ (Kd.R_mono (Kd.R_keep (IsS85.apart (show IsS85 w0 _ g s0_0 t453 t454 from is85_ HI0.out) (ra_ HO_5.out) (by decide)) hk (fun _ h => h.2)) (fun _ h => h.1)); replace HO457 := a0_ (Kd.R_mono (Kd.R_keep (IsS85.apart (show IsS85 w0 _ g s0_0 t453 t454 from is85_ HI0.out) (ra_ HO457.out) (by decide)) hk (fun _ h => h.2)) (fun _ h => h.1)); replace HK := a0_ (KeepBut.trans (kb0_) hk (.inl rfl)); replace HB := a0_ (hb); replace HI0 := a0_ (hi); (try clear hb); (try clear hb2); (try clear hk); (try clear hi)) | ((with_reducible refine gate_callee (f := 38) rfl ?_); refine goesL_ (some 66) rfl rfl Tryz.func38 kr_ rfl #[.pointer (some ⟨g, 0, none⟩), .int .i64 24] rfl ta_ ?_; (with_reducible refine (spec_l01Next.calls g s0_0 t459 t460 24 t461 t462 t463 w0 _ ?side1 ?side2 A49.out).mono ?_); (case side1 => exact is85_ HI0.out); (case side2 => exact bl1_ (IsS85.ge HI0.out)); rintro e w60 ⟨rfl, hi, hb, hk⟩; refine ⟨_, rfl, ?_⟩; replace HO_5 := a0_ (Kd.R_mono (Kd.R_keep (IsS85.apart (show IsS85 w0 _ g s0_0 t459 t460 from is85_ HI0.out) (ra_ HO_5.out) (by decide)) hk (fun _ h => h.2)) (fun _ h => h.1)); replace HO457 := a0_ (Kd.R_mono (Kd.R_keep (IsS85.apart (show IsS85 w0 _ g s0_0 t459 t460 from is85_ HI0.out) (ra_ HO457.out) (by decide)) hk (fun _ h => h.2)) (fun _ h => h.1)); replace HK := a0_ (KeepBut.trans (kb0_) hk (.inl rfl)); replace HB := a0_ (hb); replace HI0 := a0_ (hi); (try clear hb); (try clear hb2); (try clear hk); (try clear hi); have p464 : 0 ≤ (t458 : Int) := od_; have q464 : t458 < (t455.length : Int) := od_; obtain ⟨ad464, e464, hx464_0, hx464_1⟩ := at_T46 (Kd.R_reads' HO457.out).2.2 t458 p464 q464; cases e464; replace p464 := eq_true p464; replace q464 := eq_true q464; have p53 : 0 ≤ (t458 : Int) := od_; have q53 : (t458 : Int) < ((t455.length : Int) : Int) := od_; obtain ⟨go53, co53, eo53, gb53, gl53, cl53, HG53⟩ := Kd.R_form HO457.out (by omega); (first | cases eo53 | (injection eo53 with ea_ en_ ec_; (first | subst ea_ | (injection ea_ with ea_; subst ea_)); subst ec_; clear en_)); have GB53 := Aside0.mk gb53; have GG53 := Aside0.mk HG53; clear gb53 gl53 HG53; (first | simp only [add_plain] at hx464_0 | skip); (first | simp only [add_plain] at hx464_1 | skip); obtain ⟨ce53, hcl53, hM53, hcc53, hfr53⟩ := Kd.R_elem HO457.out z46 (t458 : Int) p53 q53; obtain rfl := k46_openM hM53; have hx53_0 : w60.cell? ⟨go53, (t458 : Int).toNat * 2, none⟩ = some (.int .i64 ((rd_T46 t455 t458).f0)) := hcc53 0 _ rfl; have hx53_1 : w60.cell? ⟨go53, (t458 : Int).toNat * 2 + 1, none⟩ = some (.int .i64 ((rd_T46 t455 t458).f1)) := hcc53 1 _ rfl; have hf53_0 : w60.frozen? ⟨go53, (t458 : Int).toNat * 2, none⟩ = false := hfr53 0; have hf53_1 : w60.frozen? ⟨go53, (t458 : Int).toNat * 2 + 1, none⟩ = false := hfr53 1; clear hcl53 hcc53 hfr53 hM53; replace p53 := eq_true p53; replace q53 := eq_true q53; have n_ := a0_ (Kd.R_mono (ok' := (fun k_ => some k_ ≠ (.slice Ao56 x5_1.length co56 : Value).ownBlock)) HO457.out (fun k_ hk => hk.2)); clear HO457; have HO457 := n_; clear n_; have HX61 := a0_ (show Kd.R k46 46 w60 w.heap.size (fun k_ => some k_ ≠ (.slice Ao56 x5_1.length co56 : Value).ownBlock) (.slice (some ⟨go53, 0, none⟩) t455.length co58) t455 from (ra_ HO457.out)); obtain ⟨ce61, hcl61, hM61, hcc61, hfr61⟩ := Kd.R_elem HX61.out z46 (t458 : Int) (od_) (by have h_ : (t458 : Int) < ((t455.length : Int) : Int) := od_; first | exact h_ | (have e_ := (Kd.R_reads' HO457.out).1; omega) | simpa using h_); obtain rfl := k46_openM hM61; have HP61 := Kd.R_seg HX61.out (t458 : Int) (od_) (by have h_ : (t458 : Int) < ((t455.length : Int) : Int) := od_; first | exact h_ | (have e_ := (Kd.R_reads' HO457.out).1; omega) | simpa using h_) (seg := [.int .i64 (wrap64 (((rd_T46 t455 t458).f0) + 1))]) (j := 0) hcl61 hcc61 (show 1 ≤ 2 from by decide) (x' := (⟨wrap64 (((rd_T46 t455 t458).f0) + 1), (rd_T46 t455 t458).f1⟩ : S46)) (k46_mkM _ _ _ (⟨wrap64 (((rd_T46 t455 t458).f0) + 1), (rd_T46 t455 t458).f1⟩ : S46) ) (fun _ hk => hk); have hx61_0 := hcc61 0 _ rfl; (try simp only [show (k46).sz = 2 from rfl, Nat.mul_one, Nat.add_zero] at hx61_0); have hf61_0 := hfr61 0; (try simp only [show (k46).sz = 2 from rfl, Nat.mul_one, Nat.add_zero] at hf61_0); clear hcl61 hcc61 hfr61 hM61) | ((with_reducible refine gate_store (t := 2) (p := 78) rfl ?_); refine store_event (t := 2) (p := 78) (v := ?vo_w62) (w1 := (w60.setCell ⟨go53, (t458 : Int).toNat * 2, none⟩ (.int .i64 (wrap64 (((rd_T46 t455 t458).f0) + 1))))) ?hg ?ho ?hn ?hr ?_; (case ho => rfl); (case hg => rfl); (case hn => rfl); (case hr => first | (go_simp; done) | (go_simp; rfl)); intro w62 hw; have hg : w60.grownBy w62 (some go53) := (by rw [hw]; exact HP61.2); have hp_ : Kd.R k46 46 w62 w.heap.size (fun k_ => some k_ ≠ (.slice Ao56 x5_1.length co56 : Value).ownBlock) (.slice (some ⟨go53, 0, none⟩) t455.length co58) y465 := (by rw [hw, Ny465.out]; exact HP61.1); clear HP61; replace HO_5 := a0_ (Kd.R_after (v := (.slice (some ⟨go53, 0, none⟩) t455.length co58)) (v1 := (.slice (some ⟨go53, 0, none⟩) t455.length co58)) (ok := (fun _ => True)) (ra_ HO_5.out) hg (.inl rfl)); replace HI0 := a0_ (IsS85.grown (is85_ HI0.out) hg (IsS85.own_ne HI0.out HO457.out (by decide))); replace HB := a0_ ((by rw [hw]; exact below_set (HB.out) (Nat.le_trans HL.out GB53.out) : Below w0.heap.size w0 w62)); replace HK := a0_ (KeepBut.trans (kb0_) (KeepBut.of_grown hg g) (Kd.R_base2 HO457.out)); replace HO457 := a0_ (hp_); clear hg hw hp_))
        go_ret
        exact ⟨_, er_, by (with_reducible repeat (first | apply Kd.R_alloc | apply Kd.R_drewN | apply Kd.R_drew)); exact Kd.R_mono HO457.out (fun _ hk => trivial), is85_ HI0.out, bl1_ (IsS85.ge HI0.out), kb0_⟩
       ·rw [if_neg c52] at H
        exact absurd H (by simp)
      ·rw [if_neg c51] at H
       exact absurd H (by simp)
     ·rw [if_neg c50] at H
      have c50b0 : (t461 == 0) = false := beq_eq_false_iff_ne.mpr c50
      have c50b1 : (t461 != 0) = true := bne_iff_ne.mpr c50
      by_cases c63 : t461 = 1
      ·rw [if_pos c63] at H
       have c63b0 : (t461 == 1) = true := beq_iff_eq.mpr c63
       have c63b1 : (t461 != 1) = false := bne_eq_false_iff_eq.mpr c63
       clear c63
       by_cases c64 : 0 ≤ t458
       ·rw [if_pos c64] at H
        have c64b0 : decide (0 ≤ t458) = true := decide_eq_true c64
        clear c64
        by_cases c65 : t458 < (t455.length : Int)
        ·rw [if_pos c65] at H
         have c65b0 : decide (t458 < (t455.length : Int)) = true := decide_eq_true c65
         clear c65
         obtain ⟨ji66, hji66⟩ : ∃ j_ : Int, (wrap64 ((t455.length : Int) - 1)) = j_ := ⟨_, rfl⟩
         replace H : (if 0 ≤ (ji66) then (if (ji66) < (t455.length : Int) then (if t455.length < 8796093022208 then (some ((t455 ++ [(⟨(rd_T46 t455 t458).f0, wrap64 (((rd_T46 t455 (ji66)).f1) + 6)⟩ : S46)]), t462, t463)) else (none)) else (none)) else (none)) = some (r1, r2, r3) := by first | (rw [hji66] at H; exact H) | (simp only [hji66] at H ⊢; exact H)
         (try rw [hji66] at A45)
         (try rw [hji66] at A46)
         (try rw [hji66] at A47)
         (try rw [hji66] at A48)
         (try rw [hji66] at A49)
         have hji66w : (IntKind.i64.wrap ((t455.length : Int) - 1)) = ji66 := (i64_w _).trans hji66
         by_cases c67 : 0 ≤ (ji66)
         ·rw [if_pos c67] at H
          have c67b0 : decide (0 ≤ (ji66)) = true := decide_eq_true c67
          clear c67
          by_cases c68 : (ji66) < (t455.length : Int)
          ·rw [if_pos c68] at H
           have c68b0 : decide ((ji66) < (t455.length : Int)) = true := decide_eq_true c68
           clear c68
           by_cases c69 : t455.length < 8796093022208
           ·rw [if_pos c69] at H
            have LMc69 := Aside0.mk c69
            clear c69
            obtain ⟨y468, hy468⟩ : ∃ y_ : List (S46), y_ = (t455 ++ [(⟨(rd_T46 t455 t458).f0, wrap64 (((rd_T46 t455 (ji66)).f1) + 6)⟩ : S46)]) := ⟨_, rfl⟩
            replace H : (some (y468, t462, t463)) = some (r1, r2, r3) := hh_ hy468 H
            have Ny468 := Aside0.mk hy468
            clear hy468
            simp only [Option.some.injEq, Prod.mk.injEq] at H
            obtain ⟨rfl, rfl, rfl⟩ := H
            try go_wp2_with (first | ((with_reducible refine gate_callee (f := 38) rfl ?_); refine goesL_ (some 53) rfl rfl Tryz.func38 kr_ rfl #[.pointer (some ⟨g, 0, none⟩), .int .i64 5] rfl ta_ ?_; (with_reducible refine (spec_l01Next.calls g s0_0 x1001_1 x1002_1 5 t449 t450 t451 w0 _ ?side1 ?side2 A45.out).mono ?_); (case side1 => exact is85_ HI0.out); (case side2 => exact bl1_ (IsS85.ge HI0.out)); rintro e w70 ⟨rfl, hi, hb, hk⟩; refine ⟨_, rfl, ?_⟩; replace HO_5 := a0_ (Kd.R_mono (Kd.R_keep (IsS85.apart (show IsS85 w0 _ g s0_0 x1001_1 x1002_1 from is85_ HI0.out) (ra_ HO_5.out) (by decide)) hk (fun _ h => h.2)) (fun _ h => h.1)); replace HK := a0_ (KeepBut.trans (kb0_) hk (.inl rfl)); replace HB := a0_ (hb); replace HI0 := a0_ (hi); (try clear hb); (try clear hb2); (try clear hk); (try clear hi)) | ((with_reducible refine gate_callee (f := 38) rfl ?_); refine goesL_ (some 57) rfl rfl Tryz.func38 kr_ rfl #[.pointer (some ⟨g, 0, none⟩), .int .i64 5] rfl ta_ ?_; (with_reducible refine (spec_l01Next.calls g s0_0 t450 t451 5 t452 t453 t454 w0 _ ?side1 ?side2 A46.out).mono ?_); (case side1 => exact is85_ HI0.out); (case side2 => exact bl1_ (IsS85.ge HI0.out)); rintro e w71 ⟨rfl, hi, hb, hk⟩; refine ⟨_, rfl, ?_⟩; replace HO_5 := a0_ (Kd.R_mono (Kd.R_keep (IsS85.apart (show IsS85 w0 _ g s0_0 t450 t451 from is85_ HI0.out) (ra_ HO_5.out) (by decide)) hk (fun _ h => h.2)) (fun _ h => h.1)); replace HK := a0_ (KeepBut.trans (kb0_) hk (.inl rfl)); replace HB := a0_ (hb); replace HI0 := a0_ (hi); (try clear hb); (try clear hb2); (try clear hk); (try clear hi); obtain ⟨Ao72, co72, eo72⟩ := Kd.R_slice HO_5.out; subst eo72) | ((with_reducible refine gate_callee (f := 56) rfl ?_); refine goesL_ (some 60) rfl rfl Tryz.func56 kr_ rfl #[.slice Ao72 x5_1.length co72, .int .i64 (wrap64 ((wrap64 (3 * t449)) - 6)), .int .i64 (wrap64 ((wrap64 (3 * t452)) - 6))] rfl ta_ ?_; (with_reducible refine (spec_l02Move.calls k1 _ _ x5_1 (wrap64 ((wrap64 (3 * t449)) - 6)) (wrap64 ((wrap64 (3 * t452)) - 6)) t455 _ ?side1 ?side2 A47.out).mono ?_); (case side1 => exact ca_ (Kd.R_reads' HO_5.out).2.2); (case side2 => exact (Kd.R_reads' HO_5.out).2.1); rintro e w73 ⟨v456, rfl, ho0, hb⟩; refine ⟨_, rfl, ?_⟩; have HO457 := a0_ (Kd.R_lower (Kd.R_new' ho0 (Kd.R_lt (ra_ HO_5.out))) (keep_size (w := w) (g := g) (row := none) (kb0_))); replace HO_5 := a0_ (Kd.R_elder' (ra_ HO_5.out) (Kd.R_base ho0) hb); replace HK := a0_ (KeepBut.trans (kb0_) (KeepBut.of_below hb g none) (.inl rfl)); replace HB := a0_ (below_step (bl1_ (IsS85.ge HI0.out)) hb); replace HI0 := a0_ (IsS85.below (is85_ HI0.out) hb); (try clear hb); (try clear hb2); (try clear hk); (try clear hi); (try clear ho0); obtain ⟨Ao74, co74, eo74⟩ := Kd.R_slice HO457.out; subst eo74) | ((with_reducible refine gate_callee (f := 38) rfl ?_); refine goesL_ (some 64) rfl rfl Tryz.func38 kr_ rfl #[.pointer (some ⟨g, 0, none⟩), .int .i64 (t455.length : Int)] rfl ta_ ?_; (with_reducible refine (spec_l01Next.calls g s0_0 t453 t454 (t455.length : Int) t458 t459 t460 w0 _ ?side1 ?side2 A48.out).mono ?_); (case side1 => exact is85_ HI0.out); (case side2 => exact bl1_ (IsS85.ge HI0.out)); rintro e w75 ⟨rfl, hi, hb, hk⟩; refine ⟨_, rfl, ?_⟩; replace HO_5 := a0_ (Kd.R_mono (Kd.R_keep (IsS85.apart (show IsS85 w0 _ g s0_0 t453 t454 from is85_ HI0.out) (ra_ HO_5.out) (by decide)) hk (fun _ h => h.2)) (fun _ h => h.1)); replace HO457 := a0_ (Kd.R_mono (Kd.R_keep (IsS85.apart (show IsS85 w0 _ g s0_0 t453 t454 from is85_ HI0.out) (ra_ HO457.out) (by decide)) hk (fun _ h => h.2)) (fun _ h => h.1)); replace HK := a0_ (KeepBut.trans (kb0_) hk (.inl rfl)); replace HB := a0_ (hb); replace HI0 := a0_ (hi); (try clear hb); (try clear hb2); (try clear hk); (try clear hi)) | ((with_reducible refine gate_callee (f := 38) rfl ?_); refine goesL_ (some 66) rfl rfl Tryz.func38 kr_ rfl #[.pointer (some ⟨g, 0, none⟩), .int .i64 24] rfl ta_ ?_; (with_reducible refine (spec_l01Next.calls g s0_0 t459 t460 24 t461 t462 t463 w0 _ ?side1 ?side2 A49.out).mono ?_); (case side1 => exact is85_ HI0.out); (case side2 => exact bl1_ (IsS85.ge HI0.out)); rintro e w76 ⟨rfl, hi, hb, hk⟩; refine ⟨_, rfl, ?_⟩; replace HO_5 := a0_ (Kd.R_mono (Kd.R_keep (IsS85.apart (show IsS85 w0 _ g s0_0 t459 t460 from is85_ HI0.out) (ra_ HO_5.out) (by decide)) hk (fun _ h => h.2)) (fun _ h => h.1)); replace HO457 := a0_ (Kd.R_mono (Kd.R_keep (IsS85.apart (show IsS85 w0 _ g s0_0 t459 t460 from is85_ HI0.out) (ra_ HO457.out) (by decide)) hk (fun _ h => h.2)) (fun _ h => h.1)); replace HK := a0_ (KeepBut.trans (kb0_) hk (.inl rfl)); replace HB := a0_ (hb); replace HI0 := a0_ (hi); (try clear hb); (try clear hb2); (try clear hk); (try clear hi)))
            replace HO_5 := a0_ (Kd.R_drew HO_5.out)
            replace HO457 := a0_ (Kd.R_drew HO457.out)
            replace HI0 := a0_ (IsS85.drew HI0.out)
            replace HK := a0_ (keep_drew HK.out)
            replace HB := a0_ (below_drew1 HB.out)
            have p466 : 0 ≤ (t458 : Int) := od_
            have q466 : t458 < (t455.length : Int) := od_
            obtain ⟨ad466, e466, hx466_0, hx466_1⟩ := at_T46 (Kd.R_reads' HO457.out).2.2 t458 p466 q466
            cases e466
            replace p466 := eq_true p466
            replace q466 := eq_true q466
            have p467 : 0 ≤ ((ji66) : Int) := od_
            have q467 : (ji66) < (t455.length : Int) := od_
            obtain ⟨ad467, e467, hx467_0, hx467_1⟩ := at_T46 (Kd.R_reads' HO457.out).2.2 (ji66) p467 q467
            obtain rfl : ad466 = ad467 := (by injection e467)
            replace p467 := eq_true p467
            replace q467 := eq_true q467
            refine start_ (n := 18) (S := fun w' => w'.cell? (ad466.add ((t458).toNat * 2)) = some (.int .i64 ((rd_T46 t455 t458).f0)) ∧ w'.cell? ⟨(ad466.add ((t458).toNat * 2)).block, (ad466.add ((t458).toNat * 2)).off + 1, none⟩ = some (.int .i64 ((rd_T46 t455 t458).f1)) ∧ w'.cell? (ad466.add (((ji66)).toNat * 2)) = some (.int .i64 ((rd_T46 t455 (ji66)).f0)) ∧ w'.cell? ⟨(ad466.add (((ji66)).toNat * 2)).block, (ad466.add (((ji66)).toNat * 2)).off + 1, none⟩ = some (.int .i64 ((rd_T46 t455 (ji66)).f1))) (ds := [15, 16]) (mk_ 0 18) kr_ rfl rfl ⟨hx466_0, hx466_1, hx467_0, hx467_1⟩ (fun hHeld => ?_); refine with_tabW spec_l07Draw.tab16 spec_l07Draw.bits16 (fun HT_ HW_ => ?_)
            generalize w76.drew = w77 at HO_5 HO457 HI0 HK HB hx466_0 hx466_1 hx467_0 hx467_1 hHeld ⊢
            refine pu_ 0 (some 81) (mk_ 1 17) HT_ ?_
            refine pu_ 1 (some 82) (mk_ 2 16) HT_ ?_
            refine pu_ 2 (some 83) (mk_ 3 15) HT_ ?_
            refine pu_ 3 (some 84) (mk_ 4 14) HT_ ?_
            refine pu_ 4 (some 85) (mk_ 5 13) HT_ ?_
            refine pu_ 6 (some 87) #[true, true, true, true, true, false, true, false, false, false, false, false, false, false, false, false, false, false] HT_ ?_
            refine pu_ 7 (some 88) #[true, true, true, true, true, false, true, true, false, false, false, false, false, false, false, false, false, false] HT_ ?_
            refine pu_ 8 (some 89) #[true, true, true, true, true, false, true, true, true, false, false, false, false, false, false, false, false, false] HT_ ?_
            refine pu_ 9 (some 90) #[true, true, true, true, true, false, true, true, true, true, false, false, false, false, false, false, false, false] HT_ ?_
            refine pu_ 10 (some 91) #[true, true, true, true, true, false, true, true, true, true, true, false, false, false, false, false, false, false] HT_ ?_
            refine pu_ 11 (some 92) #[true, true, true, true, true, false, true, true, true, true, true, true, false, false, false, false, false, false] HT_ ?_
            refine tk_ 5 (some 86) (mk_ 12 6) HT_ HW_ hHeld (hy := .inl ⟨by rfl, by rintro w' ⟨s0, s1, s2, s3⟩; go_simp; with_reducible rfl⟩) ?_
            refine tk_ 12 (some 93) (mk_ 13 5) HT_ HW_ hHeld (hy := .inl ⟨by rfl, by rintro w' ⟨s0, s1, s2, s3⟩; go_simp; with_reducible rfl⟩) ?_
            refine pu_ 13 (some 94) (mk_ 14 4) HT_ ?_
            refine pu_ 14 (some 95) (mk_ 15 3) HT_ ?_
            refine last_ (i := 15) (N := some 96) (mk_ 16 2) rfl rfl (one_of HT_.out kr_) (by decide) (fun K hK => ?_)
            refine value_ (w1 := ?_) (v := ?_) (by rfl) rfl ?_ ?_
            rotate_left 2
            ·go_simp
             constructor
             ·rfl
             ·rfl
            refine hK.out _ _ ?_
            clear hK K
            refine nm_ ?_
            refine last_ (i := 16) (N := some 97) (mk_ 17 1) rfl rfl (one_of HT_.out kr_) (by decide) (fun K hK => ?_)
            refine Kd.R_append_step k46 w.heap.size (by rfl) (.tmp 81) (.tmp 96) 35 46 (.agg #[(.int .i64 0), (.int .i64 0)]) 16 rfl Tryz.underlying35 info46 rfl (by decide) (by omega) (.slice (some ad466) t455.length co74) t455 (⟨(rd_T46 t455 t458).f0, wrap64 (((rd_T46 t455 (ji66)).f1) + 6)⟩ : S46) [.int .i64 ((rd_T46 t455 t458).f0), .int .i64 (wrap64 (((rd_T46 t455 (ji66)).f1) + 6))] (fun k_ => some k_ ≠ (.slice Ao72 x5_1.length co72 : Value).ownBlock) (fun _ => False) rfl rfl ?aP (fun _ hk => hk.elim) ?aF ?aO (Below.refl _ _) ?aS ?aL ?_
            (case aP => exact k46_mkM _ _ _ (⟨(rd_T46 t455 t458).f0, wrap64 (((rd_T46 t455 (ji66)).f1) + 6)⟩ : S46))
            (case aF => exact (fun k_ hk => Kd.fresh' (Kd.R_lt (ra_ HO_5.out)) k_ hk))
            (case aO => exact (by (with_reducible repeat (first | apply Kd.R_alloc | apply Kd.R_drewN | apply Kd.R_drew)); exact Kd.R_mono HO457.out (fun _ hk => hk.2)))
            (case aS => exact (keep_size (w := w) (g := g) (row := none) (kb0_)))
            (case aL => have := LMc69.out; omega)
            intro v469 w78 ho hb hg hat
            rw [← Ny468.out] at ho
            replace HO_5 := a0_ (Kd.R_after (ok := (fun _ => True)) (ra_ HO_5.out) hg hat)
            replace HB := a0_ (below_weaken (bl1_ (IsS85.ge HI0.out)) HL.out hb)
            replace HI0 := a0_ (IsS85.grown (is85_ HI0.out) hg (IsS85.own_ne HI0.out HO457.out (by decide)))
            replace HK := a0_ (KeepBut.trans (kb0_) (KeepBut.of_grown hg g) (Kd.R_base2 HO457.out))
            have HO470 := a0_ (ho)
            clear HO457
            clear ho hb hg hat
            refine hK.out _ _ ?_
            clear hK K
            refine nm_ ?_
            refine pu_ 17 (some 5) (mk_ 18 0) HT_ ?_
            refine done_ (done_of HT_.out kr_) ?_
            try go_wp2
            go_ret
            exact ⟨_, by first | rfl | (simp [errW_none, errW_some] <;> rfl) | (simp only [← hji66]; first | rfl | (simp [errW_none, errW_some] <;> rfl)) | (simp [*, errW_none, errW_some] <;> rfl), by (with_reducible repeat (first | apply Kd.R_alloc | apply Kd.R_drewN | apply Kd.R_drew)); exact Kd.R_mono HO470.out (fun _ hk => trivial), is85_ HI0.out, bl1_ (IsS85.ge HI0.out), kb0_⟩
           ·rw [if_neg c69] at H
            exact absurd H (by simp)
          ·rw [if_neg c68] at H
           exact absurd H (by simp)
         ·rw [if_neg c67] at H
          exact absurd H (by simp)
        ·rw [if_neg c65] at H
         exact absurd H (by simp)
       ·rw [if_neg c64] at H
        exact absurd H (by simp)
      ·rw [if_neg c63] at H
       have c63b0 : (t461 == 1) = false := beq_eq_false_iff_ne.mpr c63
       have c63b1 : (t461 != 1) = true := bne_iff_ne.mpr c63
       by_cases c79 : t461 = 2
       ·rw [if_pos c79] at H
        have c79b0 : (t461 == 2) = true := beq_iff_eq.mpr c79
        have c79b1 : (t461 != 2) = false := bne_eq_false_iff_eq.mpr c79
        clear c79
        simp only [Option.some.injEq, Prod.mk.injEq] at H
        obtain ⟨rfl, rfl, rfl⟩ := H
        go_wp2_with (first | ((with_reducible refine gate_callee (f := 38) rfl ?_); refine goesL_ (some 53) rfl rfl Tryz.func38 kr_ rfl #[.pointer (some ⟨g, 0, none⟩), .int .i64 5] rfl ta_ ?_; (with_reducible refine (spec_l01Next.calls g s0_0 x1001_1 x1002_1 5 t449 t450 t451 w0 _ ?side1 ?side2 A45.out).mono ?_); (case side1 => exact is85_ HI0.out); (case side2 => exact bl1_ (IsS85.ge HI0.out)); rintro e w80 ⟨rfl, hi, hb, hk⟩; refine ⟨_, rfl, ?_⟩; replace HO_5 := a0_ (Kd.R_mono (Kd.R_keep (IsS85.apart (show IsS85 w0 _ g s0_0 x1001_1 x1002_1 from is85_ HI0.out) (ra_ HO_5.out) (by decide)) hk (fun _ h => h.2)) (fun _ h => h.1)); replace HK := a0_ (KeepBut.trans (kb0_) hk (.inl rfl)); replace HB := a0_ (hb); replace HI0 := a0_ (hi); (try clear hb); (try clear hb2); (try clear hk); (try clear hi)) | ((with_reducible refine gate_callee (f := 38) rfl ?_); refine goesL_ (some 57) rfl rfl Tryz.func38 kr_ rfl #[.pointer (some ⟨g, 0, none⟩), .int .i64 5] rfl ta_ ?_; (with_reducible refine (spec_l01Next.calls g s0_0 t450 t451 5 t452 t453 t454 w0 _ ?side1 ?side2 A46.out).mono ?_); (case side1 => exact is85_ HI0.out); (case side2 => exact bl1_ (IsS85.ge HI0.out)); rintro e w81 ⟨rfl, hi, hb, hk⟩; refine ⟨_, rfl, ?_⟩; replace HO_5 := a0_ (Kd.R_mono (Kd.R_keep (IsS85.apart (show IsS85 w0 _ g s0_0 t450 t451 from is85_ HI0.out) (ra_ HO_5.out) (by decide)) hk (fun _ h => h.2)) (fun _ h => h.1)); replace HK := a0_ (KeepBut.trans (kb0_) hk (.inl rfl)); replace HB := a0_ (hb); replace HI0 := a0_ (hi); (try clear hb); (try clear hb2); (try clear hk); (try clear hi); obtain ⟨Ao82, co82, eo82⟩ := Kd.R_slice HO_5.out; subst eo82) | ((with_reducible refine gate_callee (f := 56) rfl ?_); refine goesL_ (some 60) rfl rfl Tryz.func56 kr_ rfl #[.slice Ao82 x5_1.length co82, .int .i64 (wrap64 ((wrap64 (3 * t449)) - 6)), .int .i64 (wrap64 ((wrap64 (3 * t452)) - 6))] rfl ta_ ?_; (with_reducible refine (spec_l02Move.calls k1 _ _ x5_1 (wrap64 ((wrap64 (3 * t449)) - 6)) (wrap64 ((wrap64 (3 * t452)) - 6)) t455 _ ?side1 ?side2 A47.out).mono ?_); (case side1 => exact ca_ (Kd.R_reads' HO_5.out).2.2); (case side2 => exact (Kd.R_reads' HO_5.out).2.1); rintro e w83 ⟨v456, rfl, ho0, hb⟩; refine ⟨_, rfl, ?_⟩; have HO457 := a0_ (Kd.R_lower (Kd.R_new' ho0 (Kd.R_lt (ra_ HO_5.out))) (keep_size (w := w) (g := g) (row := none) (kb0_))); replace HO_5 := a0_ (Kd.R_elder' (ra_ HO_5.out) (Kd.R_base ho0) hb); replace HK := a0_ (KeepBut.trans (kb0_) (KeepBut.of_below hb g none) (.inl rfl)); replace HB := a0_ (below_step (bl1_ (IsS85.ge HI0.out)) hb); replace HI0 := a0_ (IsS85.below (is85_ HI0.out) hb); (try clear hb); (try clear hb2); (try clear hk); (try clear hi); (try clear ho0); obtain ⟨Ao84, co84, eo84⟩ := Kd.R_slice HO457.out; subst eo84) | ((with_reducible refine gate_callee (f := 38) rfl ?_); refine goesL_ (some 64) rfl rfl Tryz.func38 kr_ rfl #[.pointer (some ⟨g, 0, none⟩), .int .i64 (t455.length : Int)] rfl ta_ ?_; (with_reducible refine (spec_l01Next.calls g s0_0 t453 t454 (t455.length : Int) t458 t459 t460 w0 _ ?side1 ?side2 A48.out).mono ?_); (case side1 => exact is85_ HI0.out); (case side2 => exact bl1_ (IsS85.ge HI0.out)); rintro e w85 ⟨rfl, hi, hb, hk⟩; refine ⟨_, rfl, ?_⟩; replace HO_5 := a0_ (Kd.R_mono (Kd.R_keep (IsS85.apart (show IsS85 w0 _ g s0_0 t453 t454 from is85_ HI0.out) (ra_ HO_5.out) (by decide)) hk (fun _ h => h.2)) (fun _ h => h.1)); replace HO457 := a0_ (Kd.R_mono (Kd.R_keep (IsS85.apart (show IsS85 w0 _ g s0_0 t453 t454 from is85_ HI0.out) (ra_ HO457.out) (by decide)) hk (fun _ h => h.2)) (fun _ h => h.1)); replace HK := a0_ (KeepBut.trans (kb0_) hk (.inl rfl)); replace HB := a0_ (hb); replace HI0 := a0_ (hi); (try clear hb); (try clear hb2); (try clear hk); (try clear hi)) | ((with_reducible refine gate_callee (f := 38) rfl ?_); refine goesL_ (some 66) rfl rfl Tryz.func38 kr_ rfl #[.pointer (some ⟨g, 0, none⟩), .int .i64 24] rfl ta_ ?_; (with_reducible refine (spec_l01Next.calls g s0_0 t459 t460 24 t461 t462 t463 w0 _ ?side1 ?side2 A49.out).mono ?_); (case side1 => exact is85_ HI0.out); (case side2 => exact bl1_ (IsS85.ge HI0.out)); rintro e w86 ⟨rfl, hi, hb, hk⟩; refine ⟨_, rfl, ?_⟩; replace HO_5 := a0_ (Kd.R_mono (Kd.R_keep (IsS85.apart (show IsS85 w0 _ g s0_0 t459 t460 from is85_ HI0.out) (ra_ HO_5.out) (by decide)) hk (fun _ h => h.2)) (fun _ h => h.1)); replace HO457 := a0_ (Kd.R_mono (Kd.R_keep (IsS85.apart (show IsS85 w0 _ g s0_0 t459 t460 from is85_ HI0.out) (ra_ HO457.out) (by decide)) hk (fun _ h => h.2)) (fun _ h => h.1)); replace HK := a0_ (KeepBut.trans (kb0_) hk (.inl rfl)); replace HB := a0_ (hb); replace HI0 := a0_ (hi); (try clear hb); (try clear hb2); (try clear hk); (try clear hi)))
        go_ret
        exact ⟨_, er_, by first | exact Kd.R_nil _ _ _ _ _ | exact Kd.N_nil _ _ _ _ _ | exact Kd.V_nil _ _ _ _ _ | exact Kd.Q_nil _ _ _ _ _ | exact Kd.S_nil _ _ _ _ _, is85_ HI0.out, bl1_ (IsS85.ge HI0.out), kb0_⟩
       ·rw [if_neg c79] at H
        have c79b0 : (t461 == 2) = false := beq_eq_false_iff_ne.mpr c79
        have c79b1 : (t461 != 2) = true := bne_iff_ne.mpr c79
        by_cases c87 : t461 = 3
        ·rw [if_pos c87] at H
         have c87b0 : (t461 == 3) = true := beq_iff_eq.mpr c87
         have c87b1 : (t461 != 3) = false := bne_eq_false_iff_eq.mpr c87
         clear c87
         by_cases c88 : 0 < (t455.length : Int)
         ·rw [if_pos c88] at H
          have c88b0 : decide (0 < (t455.length : Int)) = true := decide_eq_true c88
          have c88b1 : decide (0 < t455.length) = true := decide_eq_true (by omega)
          clear c88
          obtain ⟨t473, A89, H⟩ := bs_ H
          simp only [Option.some.injEq, Prod.mk.injEq] at H
          obtain ⟨rfl, rfl, rfl⟩ := H
          try go_wp2_with (first | ((with_reducible refine gate_callee (f := 38) rfl ?_); refine goesL_ (some 53) rfl rfl Tryz.func38 kr_ rfl #[.pointer (some ⟨g, 0, none⟩), .int .i64 5] rfl ta_ ?_; (with_reducible refine (spec_l01Next.calls g s0_0 x1001_1 x1002_1 5 t449 t450 t451 w0 _ ?side1 ?side2 A45.out).mono ?_); (case side1 => exact is85_ HI0.out); (case side2 => exact bl1_ (IsS85.ge HI0.out)); rintro e w90 ⟨rfl, hi, hb, hk⟩; refine ⟨_, rfl, ?_⟩; replace HO_5 := a0_ (Kd.R_mono (Kd.R_keep (IsS85.apart (show IsS85 w0 _ g s0_0 x1001_1 x1002_1 from is85_ HI0.out) (ra_ HO_5.out) (by decide)) hk (fun _ h => h.2)) (fun _ h => h.1)); replace HK := a0_ (KeepBut.trans (kb0_) hk (.inl rfl)); replace HB := a0_ (hb); replace HI0 := a0_ (hi); (try clear hb); (try clear hb2); (try clear hk); (try clear hi)) | ((with_reducible refine gate_callee (f := 38) rfl ?_); refine goesL_ (some 57) rfl rfl Tryz.func38 kr_ rfl #[.pointer (some ⟨g, 0, none⟩), .int .i64 5] rfl ta_ ?_; (with_reducible refine (spec_l01Next.calls g s0_0 t450 t451 5 t452 t453 t454 w0 _ ?side1 ?side2 A46.out).mono ?_); (case side1 => exact is85_ HI0.out); (case side2 => exact bl1_ (IsS85.ge HI0.out)); rintro e w91 ⟨rfl, hi, hb, hk⟩; refine ⟨_, rfl, ?_⟩; replace HO_5 := a0_ (Kd.R_mono (Kd.R_keep (IsS85.apart (show IsS85 w0 _ g s0_0 t450 t451 from is85_ HI0.out) (ra_ HO_5.out) (by decide)) hk (fun _ h => h.2)) (fun _ h => h.1)); replace HK := a0_ (KeepBut.trans (kb0_) hk (.inl rfl)); replace HB := a0_ (hb); replace HI0 := a0_ (hi); (try clear hb); (try clear hb2); (try clear hk); (try clear hi); obtain ⟨Ao92, co92, eo92⟩ := Kd.R_slice HO_5.out; subst eo92) | ((with_reducible refine gate_callee (f := 56) rfl ?_); refine goesL_ (some 60) rfl rfl Tryz.func56 kr_ rfl #[.slice Ao92 x5_1.length co92, .int .i64 (wrap64 ((wrap64 (3 * t449)) - 6)), .int .i64 (wrap64 ((wrap64 (3 * t452)) - 6))] rfl ta_ ?_; (with_reducible refine (spec_l02Move.calls k1 _ _ x5_1 (wrap64 ((wrap64 (3 * t449)) - 6)) (wrap64 ((wrap64 (3 * t452)) - 6)) t455 _ ?side1 ?side2 A47.out).mono ?_); (case side1 => exact ca_ (Kd.R_reads' HO_5.out).2.2); (case side2 => exact (Kd.R_reads' HO_5.out).2.1); rintro e w93 ⟨v456, rfl, ho0, hb⟩; refine ⟨_, rfl, ?_⟩; have HO457 := a0_ (Kd.R_lower (Kd.R_new' ho0 (Kd.R_lt (ra_ HO_5.out))) (keep_size (w := w) (g := g) (row := none) (kb0_))); replace HO_5 := a0_ (Kd.R_elder' (ra_ HO_5.out) (Kd.R_base ho0) hb); replace HK := a0_ (KeepBut.trans (kb0_) (KeepBut.of_below hb g none) (.inl rfl)); replace HB := a0_ (below_step (bl1_ (IsS85.ge HI0.out)) hb); replace HI0 := a0_ (IsS85.below (is85_ HI0.out) hb); (try clear hb); (try clear hb2); (try clear hk); (try clear hi); (try clear ho0); obtain ⟨Ao94, co94, eo94⟩ := Kd.R_slice HO457.out; subst eo94) | ((with_reducible refine gate_callee (f := 38) rfl ?_); refine goesL_ (some 64) rfl rfl Tryz.func38 kr_ rfl #[.pointer (some ⟨g, 0, none⟩), .int .i64 (t455.length : Int)] rfl ta_ ?_; (with_reducible refine (spec_l01Next.calls g s0_0 t453 t454 (t455.length : Int) t458 t459 t460 w0 _ ?side1 ?side2 A48.out).mono ?_); (case side1 => exact is85_ HI0.out); (case side2 => exact bl1_ (IsS85.ge HI0.out)); rintro e w95 ⟨rfl, hi, hb, hk⟩; refine ⟨_, rfl, ?_⟩; replace HO_5 := a0_ (Kd.R_mono (Kd.R_keep (IsS85.apart (show IsS85 w0 _ g s0_0 t453 t454 from is85_ HI0.out) (ra_ HO_5.out) (by decide)) hk (fun _ h => h.2)) (fun _ h => h.1)); replace HO457 := a0_ (Kd.R_mono (Kd.R_keep (IsS85.apart (show IsS85 w0 _ g s0_0 t453 t454 from is85_ HI0.out) (ra_ HO457.out) (by decide)) hk (fun _ h => h.2)) (fun _ h => h.1)); replace HK := a0_ (KeepBut.trans (kb0_) hk (.inl rfl)); replace HB := a0_ (hb); replace HI0 := a0_ (hi); (try clear hb); (try clear hb2); (try clear hk); (try clear hi)) | ((with_reducible refine gate_callee (f := 38) rfl ?_); refine goesL_ (some 66) rfl rfl Tryz.func38 kr_ rfl #[.pointer (some ⟨g, 0, none⟩), .int .i64 24] rfl ta_ ?_; (with_reducible refine (spec_l01Next.calls g s0_0 t459 t460 24 t461 t462 t463 w0 _ ?side1 ?side2 A49.out).mono ?_); (case side1 => exact is85_ HI0.out); (case side2 => exact bl1_ (IsS85.ge HI0.out)); rintro e w96 ⟨rfl, hi, hb, hk⟩; refine ⟨_, rfl, ?_⟩; replace HO_5 := a0_ (Kd.R_mono (Kd.R_keep (IsS85.apart (show IsS85 w0 _ g s0_0 t459 t460 from is85_ HI0.out) (ra_ HO_5.out) (by decide)) hk (fun _ h => h.2)) (fun _ h => h.1)); replace HO457 := a0_ (Kd.R_mono (Kd.R_keep (IsS85.apart (show IsS85 w0 _ g s0_0 t459 t460 from is85_ HI0.out) (ra_ HO457.out) (by decide)) hk (fun _ h => h.2)) (fun _ h => h.1)); replace HK := a0_ (KeepBut.trans (kb0_) hk (.inl rfl)); replace HB := a0_ (hb); replace HI0 := a0_ (hi); (try clear hb); (try clear hb2); (try clear hk); (try clear hi)))
          replace HO_5 := a0_ (Kd.R_drew HO_5.out)
          replace HO457 := a0_ (Kd.R_drew HO457.out)
          replace HI0 := a0_ (IsS85.drew HI0.out)
          replace HK := a0_ (keep_drew HK.out)
          replace HB := a0_ (below_drew1 HB.out)
          have p471 : 0 ≤ (0 : Int) := (by omega)
          have q471 : 0 < (t455.length : Int) := od_
          obtain ⟨ad471, e471, hx471_0, hx471_1⟩ := at_T46 (Kd.R_reads' HO457.out).2.2 0 p471 q471
          cases e471
          have qi471 : (0 < t455.length) = True := eq_true (by omega)
          (try rw [show ((0 : Int)).toNat = 0 from rfl] at hx471_0)
          (try rw [show 0 * 2 = 0 from rfl] at hx471_0)
          (try rw [Addr.add_zero'] at hx471_0)
          (try rw [show ((0 : Int)).toNat = 0 from rfl] at hx471_1)
          (try rw [show 0 * 2 = 0 from rfl] at hx471_1)
          (try rw [Addr.add_zero'] at hx471_1)
          replace p471 := eq_true p471
          replace q471 := eq_true q471
          have p472 : 0 ≤ (0 : Int) := (by omega)
          have q472 : 0 < (t455.length : Int) := od_
          obtain ⟨ad472, e472, hx472_0, hx472_1⟩ := at_T46 (Kd.R_reads' HO457.out).2.2 0 p472 q472
          obtain rfl : ad471 = ad472 := (by injection e472)
          have qi472 : (0 < t455.length) = True := eq_true (by omega)
          (try rw [show ((0 : Int)).toNat = 0 from rfl] at hx472_0)
          (try rw [show 0 * 2 = 0 from rfl] at hx472_0)
          (try rw [Addr.add_zero'] at hx472_0)
          (try rw [show ((0 : Int)).toNat = 0 from rfl] at hx472_1)
          (try rw [show 0 * 2 = 0 from rfl] at hx472_1)
          (try rw [Addr.add_zero'] at hx472_1)
          replace p472 := eq_true p472
          replace q472 := eq_true q472
          refine start_ (n := 13) (S := fun w' => w'.cell? ad471 = some (.int .i64 ((rd_T46 t455 0).f0)) ∧ w'.cell? ⟨ad471.block, ad471.off + 1, none⟩ = some (.int .i64 ((rd_T46 t455 0).f1)) ∧ w'.cell? ad471 = some (.int .i64 ((rd_T46 t455 0).f0)) ∧ w'.cell? ⟨ad471.block, ad471.off + 1, none⟩ = some (.int .i64 ((rd_T46 t455 0).f1))) (ds := []) (mk_ 0 13) kr_ rfl rfl ⟨hx471_0, hx471_1, hx472_0, hx472_1⟩ (fun hHeld => ?_); refine with_tabW spec_l07Draw.tab20 spec_l07Draw.bits20 (fun HT_ HW_ => ?_)
          generalize w96.drew = w97 at HO_5 HO457 HI0 HK HB hx471_0 hx471_1 hx472_0 hx472_1 hHeld ⊢
          refine pu_ 0 (some 102) (mk_ 1 12) HT_ ?_
          refine pu_ 1 (some 103) (mk_ 2 11) HT_ ?_
          refine pu_ 2 (some 104) (mk_ 3 10) HT_ ?_
          refine pu_ 3 (some 105) (mk_ 4 9) HT_ ?_
          refine pu_ 6 (some 108) #[true, true, true, true, false, false, true, false, false, false, false, false, false] HT_ ?_
          refine pu_ 7 (some 109) #[true, true, true, true, false, false, true, true, false, false, false, false, false] HT_ ?_
          refine pu_ 8 (some 110) #[true, true, true, true, false, false, true, true, true, false, false, false, false] HT_ ?_
          refine tk_ 4 (some 106) #[true, true, true, true, true, false, true, true, true, false, false, false, false] HT_ HW_ hHeld (hy := .inl ⟨by rfl, by rintro w' ⟨s0, s1, s2, s3⟩; go_simp; with_reducible rfl⟩) ?_
          refine pu_ 5 (some 107) (mk_ 9 4) HT_ ?_
          refine tk_ 9 (some 111) (mk_ 10 3) HT_ HW_ hHeld (hy := .inl ⟨by rfl, by rintro w' ⟨s0, s1, s2, s3⟩; go_simp; with_reducible rfl⟩) ?_
          refine pu_ 10 (some 112) (mk_ 11 2) HT_ ?_
          refine one_ (i := 11) (N := some 113) (mk_ 12 1) rfl rfl (one_of HT_.out kr_) (by decide) (fun K hK => ?_)
          refine goes_ Tryz.func56 kr_ rfl #[.slice (some ad471) t455.length co94, .int .i64 (wrap64 ((wrap64 (90 - ((rd_T46 t455 0).f0))) + ((rd_T46 t455 0).f1))), .int .i64 90] (by rfl) rfl rfl ta_ ?_
          with_reducible refine (spec_l02Move.calls k1 _ _ t455 (wrap64 ((wrap64 (90 - ((rd_T46 t455 0).f0))) + ((rd_T46 t455 0).f1))) 90 t473 _ ?side1 ?side2 A89.out).mono ?_
          (case side1 => exact ca_ (Kd.R_reads' HO457.out).2.2)
          (case side2 => exact (Kd.R_reads' HO457.out).2.1)
          rintro e w98 ⟨v474, rfl, ho0, hb⟩
          have HS0_ := (hb.cell (World.block_lt_of_cell? _ _ (hHeld.1))).trans (hHeld.1)
          have HS1_ := (hb.cell (World.block_lt_of_cell? _ _ (hHeld.2.1))).trans (hHeld.2.1)
          have HS2_ := (hb.cell (World.block_lt_of_cell? _ _ (hHeld.2.2.1))).trans (hHeld.2.2.1)
          have HS3_ := (hb.cell (World.block_lt_of_cell? _ _ (hHeld.2.2.2))).trans (hHeld.2.2.2)
          refine ⟨_, rfl, ?_⟩
          have HO475 := a0_ (Kd.R_lower (Kd.R_new' (Kd.R_new' ho0 (Kd.R_lt (ra_ HO_5.out))) (Kd.R_lt (ra_ HO457.out))) (keep_size (w := w) (g := g) (row := none) (kb0_)))
          replace HO_5 := a0_ (Kd.R_elder' (ra_ HO_5.out) (Kd.R_base ho0) hb)
          replace HO457 := a0_ (Kd.R_elder' (ra_ HO457.out) (Kd.R_base ho0) hb)
          replace HK := a0_ (KeepBut.trans (kb0_) (KeepBut.of_below hb g none) (.inl rfl))
          replace HB := a0_ (below_step (bl1_ (IsS85.ge HI0.out)) hb)
          replace HI0 := a0_ (IsS85.below (is85_ HI0.out) hb)
          (try clear hb)
          (try clear hb2)
          (try clear hk)
          (try clear hi)
          (try clear ho0)
          refine hK.out _ _ ⟨HS0_, HS1_, HS2_, HS3_⟩ (fun hHeld => ?_)
          clear hK K
          refine nm_ ?_
          refine pu_ 12 (some 4) (mk_ 13 0) HT_ ?_
          refine done_ (done_of HT_.out kr_) ?_
          try go_wp2
          go_ret
          exact ⟨_, er_, by (with_reducible repeat (first | apply Kd.R_alloc | apply Kd.R_drewN | apply Kd.R_drew)); exact Kd.R_mono HO475.out (fun _ hk => trivial), is85_ HI0.out, bl1_ (IsS85.ge HI0.out), kb0_⟩
         ·rw [if_neg c88] at H
          exact absurd H (by simp)
        ·rw [if_neg c87] at H
         have c87b0 : (t461 == 3) = false := beq_eq_false_iff_ne.mpr c87
         have c87b1 : (t461 != 3) = true := bne_iff_ne.mpr c87
         simp only [Option.some.injEq, Prod.mk.injEq] at H
         obtain ⟨rfl, rfl, rfl⟩ := H
         go_wp2_with (first | ((with_reducible refine gate_callee (f := 38) rfl ?_); refine goesL_ (some 53) rfl rfl Tryz.func38 kr_ rfl #[.pointer (some ⟨g, 0, none⟩), .int .i64 5] rfl ta_ ?_; (with_reducible refine (spec_l01Next.calls g s0_0 x1001_1 x1002_1 5 t449 t450 t451 w0 _ ?side1 ?side2 A45.out).mono ?_); (case side1 => exact is85_ HI0.out); (case side2 => exact bl1_ (IsS85.ge HI0.out)); rintro e w99 ⟨rfl, hi, hb, hk⟩; refine ⟨_, rfl, ?_⟩; replace HO_5 := a0_ (Kd.R_mono (Kd.R_keep (IsS85.apart (show IsS85 w0 _ g s0_0 x1001_1 x1002_1 from is85_ HI0.out) (ra_ HO_5.out) (by decide)) hk (fun _ h => h.2)) (fun _ h => h.1)); replace HK := a0_ (KeepBut.trans (kb0_) hk (.inl rfl)); replace HB := a0_ (hb); replace HI0 := a0_ (hi); (try clear hb); (try clear hb2); (try clear hk); (try clear hi)) | ((with_reducible refine gate_callee (f := 38) rfl ?_); refine goesL_ (some 57) rfl rfl Tryz.func38 kr_ rfl #[.pointer (some ⟨g, 0, none⟩), .int .i64 5] rfl ta_ ?_; (with_reducible refine (spec_l01Next.calls g s0_0 t450 t451 5 t452 t453 t454 w0 _ ?side1 ?side2 A46.out).mono ?_); (case side1 => exact is85_ HI0.out); (case side2 => exact bl1_ (IsS85.ge HI0.out)); rintro e w100 ⟨rfl, hi, hb, hk⟩; refine ⟨_, rfl, ?_⟩; replace HO_5 := a0_ (Kd.R_mono (Kd.R_keep (IsS85.apart (show IsS85 w0 _ g s0_0 t450 t451 from is85_ HI0.out) (ra_ HO_5.out) (by decide)) hk (fun _ h => h.2)) (fun _ h => h.1)); replace HK := a0_ (KeepBut.trans (kb0_) hk (.inl rfl)); replace HB := a0_ (hb); replace HI0 := a0_ (hi); (try clear hb); (try clear hb2); (try clear hk); (try clear hi); obtain ⟨Ao101, co101, eo101⟩ := Kd.R_slice HO_5.out; subst eo101) | ((with_reducible refine gate_callee (f := 56) rfl ?_); refine goesL_ (some 60) rfl rfl Tryz.func56 kr_ rfl #[.slice Ao101 x5_1.length co101, .int .i64 (wrap64 ((wrap64 (3 * t449)) - 6)), .int .i64 (wrap64 ((wrap64 (3 * t452)) - 6))] rfl ta_ ?_; (with_reducible refine (spec_l02Move.calls k1 _ _ x5_1 (wrap64 ((wrap64 (3 * t449)) - 6)) (wrap64 ((wrap64 (3 * t452)) - 6)) t455 _ ?side1 ?side2 A47.out).mono ?_); (case side1 => exact ca_ (Kd.R_reads' HO_5.out).2.2); (case side2 => exact (Kd.R_reads' HO_5.out).2.1); rintro e w102 ⟨v456, rfl, ho0, hb⟩; refine ⟨_, rfl, ?_⟩; have HO457 := a0_ (Kd.R_lower (Kd.R_new' ho0 (Kd.R_lt (ra_ HO_5.out))) (keep_size (w := w) (g := g) (row := none) (kb0_))); replace HO_5 := a0_ (Kd.R_elder' (ra_ HO_5.out) (Kd.R_base ho0) hb); replace HK := a0_ (KeepBut.trans (kb0_) (KeepBut.of_below hb g none) (.inl rfl)); replace HB := a0_ (below_step (bl1_ (IsS85.ge HI0.out)) hb); replace HI0 := a0_ (IsS85.below (is85_ HI0.out) hb); (try clear hb); (try clear hb2); (try clear hk); (try clear hi); (try clear ho0); obtain ⟨Ao103, co103, eo103⟩ := Kd.R_slice HO457.out; subst eo103) | ((with_reducible refine gate_callee (f := 38) rfl ?_); refine goesL_ (some 64) rfl rfl Tryz.func38 kr_ rfl #[.pointer (some ⟨g, 0, none⟩), .int .i64 (t455.length : Int)] rfl ta_ ?_; (with_reducible refine (spec_l01Next.calls g s0_0 t453 t454 (t455.length : Int) t458 t459 t460 w0 _ ?side1 ?side2 A48.out).mono ?_); (case side1 => exact is85_ HI0.out); (case side2 => exact bl1_ (IsS85.ge HI0.out)); rintro e w104 ⟨rfl, hi, hb, hk⟩; refine ⟨_, rfl, ?_⟩; replace HO_5 := a0_ (Kd.R_mono (Kd.R_keep (IsS85.apart (show IsS85 w0 _ g s0_0 t453 t454 from is85_ HI0.out) (ra_ HO_5.out) (by decide)) hk (fun _ h => h.2)) (fun _ h => h.1)); replace HO457 := a0_ (Kd.R_mono (Kd.R_keep (IsS85.apart (show IsS85 w0 _ g s0_0 t453 t454 from is85_ HI0.out) (ra_ HO457.out) (by decide)) hk (fun _ h => h.2)) (fun _ h => h.1)); replace HK := a0_ (KeepBut.trans (kb0_) hk (.inl rfl)); replace HB := a0_ (hb); replace HI0 := a0_ (hi); (try clear hb); (try clear hb2); (try clear hk); (try clear hi)) | ((with_reducible refine gate_callee (f := 38) rfl ?_); refine goesL_ (some 66) rfl rfl Tryz.func38 kr_ rfl #[.pointer (some ⟨g, 0, none⟩), .int .i64 24] rfl ta_ ?_; (with_reducible refine (spec_l01Next.calls g s0_0 t459 t460 24 t461 t462 t463 w0 _ ?side1 ?side2 A49.out).mono ?_); (case side1 => exact is85_ HI0.out); (case side2 => exact bl1_ (IsS85.ge HI0.out)); rintro e w105 ⟨rfl, hi, hb, hk⟩; refine ⟨_, rfl, ?_⟩; replace HO_5 := a0_ (Kd.R_mono (Kd.R_keep (IsS85.apart (show IsS85 w0 _ g s0_0 t459 t460 from is85_ HI0.out) (ra_ HO_5.out) (by decide)) hk (fun _ h => h.2)) (fun _ h => h.1)); replace HO457 := a0_ (Kd.R_mono (Kd.R_keep (IsS85.apart (show IsS85 w0 _ g s0_0 t459 t460 from is85_ HI0.out) (ra_ HO457.out) (by decide)) hk (fun _ h => h.2)) (fun _ h => h.1)); replace HK := a0_ (KeepBut.trans (kb0_) hk (.inl rfl)); replace HB := a0_ (hb); replace HI0 := a0_ (hi); (try clear hb); (try clear hb2); (try clear hk); (try clear hi)))
         go_ret
         exact ⟨_, er_, by (with_reducible repeat (first | apply Kd.R_alloc | apply Kd.R_drewN | apply Kd.R_drew)); exact Kd.R_mono HO457.out (fun _ hk => trivial), is85_ HI0.out, bl1_ (IsS85.ge HI0.out), kb0_⟩
 ·rw [if_neg c4] at H
  exact absurd H (by simp)

/-! ### spec_l07DrawFar: function 73 -/
def spec_l07DrawFar.f (k : Nat) (s0_0 : List Int) (s0_1 : Int) (s0_2 : Int) (a1 : Int) : Option ((List (S46)) × Int × Int) := (spec_l01Next.f s0_0 s0_1 s0_2 24).bind fun bt476 => (if bt476.1 = 0 then ((spec_l01Next.f s0_0 bt476.2.1 bt476.2.2 2).bind fun bt479 => (some ((([(⟨1, 1⟩ : S46), (⟨1, wrap64 (97 + (wrap64 (3 * bt479.1)))⟩ : S46)] : List (S46))), bt479.2.1, bt479.2.2))) else ((spec_l01Next.f s0_0 bt476.2.1 bt476.2.2 24).bind fun bt485 => (if bt485.1 = 0 then (some ((([(⟨1, 1⟩ : S46), (⟨61, 61⟩ : S46)] : List (S46))), bt485.2.1, bt485.2.2)) else ((spec_l07Draw.f k s0_0 bt485.2.1 bt485.2.2 a1).bind fun bt491 => (some (bt491.1, bt491.2.1, bt491.2.2))))))
theorem spec_l07DrawFar.mono : ∀ a0 a1 a2 a3 k, LeO (spec_l07DrawFar.f k a0 a1 a2 a3) (spec_l07DrawFar.f (k + 1) a0 a1 a2 a3) := by
 intro a0 a1 a2 a3 k
 unfold spec_l07DrawFar.f
 with_reducible (repeat' first | exact spec_l07Draw.mono _ _ _ _ _ | exact LeO.refl _ | exact LeO.none _ | refine LeO.ite ?_ ?_ | refine LeO.bind ?_ (fun _ => ?_))
set_option maxHeartbeats 8000000 in
set_option maxRecDepth 100000 in
theorem spec_l07DrawFar.calls (k : Nat) (g : Nat) (s0_0 : List Int) (s0_1 : Int) (s0_2 : Int) (a1 : Int) (r1 : List (S46)) (r2 : Int) (r3 : Int) (w0 w : World) (hI : IsS85 w0 w g s0_0 s0_1 s0_2) (hB : Below w0.heap.size w0 w) (h : spec_l07DrawFar.f k s0_0 s0_1 s0_2 a1 = some (r1, r2, r3)) :
  Calls Tryz.prog 73 #[.pointer (some ⟨g, 0, none⟩), .int .i64 a1] w fun e w' => ∃ v0_ : Value, e = .returned (v0_) ∧ Kd.R k46 46 w' w.heap.size (fun _ => True) v0_ r1 ∧ IsS85 w0 w' g s0_0 r2 r3 ∧ Below w0.heap.size w0 w' ∧ KeepBut w w' g none := by
 have hu46 := Tryz.underlying46
 have HI0 := Aside0.mk hI
 have HK := a0_ (KeepBut.refl w g none)
 have HL := Aside0.mk hB.size
 clear hI
 have HW0 := Aside0.mk hB.size
 have HB := Aside0.mk hB
 clear hB
 have H := h
 clear h
 unfold spec_l07DrawFar.f at H
 obtain ⟨⟨t476, t477, t478⟩, A3, H⟩ := bs_ H
 dsimp only at H
 by_cases c4 : t476 = 0
 ·rw [if_pos c4] at H
  have c4b0 : (t476 == 0) = true := beq_iff_eq.mpr c4
  have c4b1 : (t476 != 0) = false := bne_eq_false_iff_eq.mpr c4
  clear c4
  obtain ⟨⟨t479, t480, t481⟩, A5, H⟩ := bs_ H
  dsimp only at H
  obtain ⟨y482, hy482⟩ : ∃ y_ : List (S46), y_ = (([(⟨1, 1⟩ : S46), (⟨1, wrap64 (97 + (wrap64 (3 * t479)))⟩ : S46)] : List (S46))) := ⟨_, rfl⟩
  replace H : (some (y482, t480, t481)) = some (r1, r2, r3) := hh_ hy482 H
  have Ny482 := Aside0.mk hy482
  clear hy482
  simp only [Option.some.injEq, Prod.mk.injEq] at H
  obtain ⟨rfl, rfl, rfl⟩ := H
  go_enter Tryz.func73, Tryz.ntmps73
  go_wp2_with (first | ((with_reducible refine gate_callee (f := 38) rfl ?_); refine goesL_ (some 6) rfl rfl Tryz.func38 kr_ rfl #[.pointer (some ⟨g, 0, none⟩), .int .i64 24] rfl ta_ ?_; (with_reducible refine (spec_l01Next.calls g s0_0 s0_1 s0_2 24 t476 t477 t478 w0 _ ?side1 ?side2 A3.out).mono ?_); (case side1 => exact is85_ HI0.out); (case side2 => exact bl1_ (IsS85.ge HI0.out)); rintro e w6 ⟨rfl, hi, hb, hk⟩; refine ⟨_, rfl, ?_⟩; replace HK := a0_ (KeepBut.trans (kb0_) hk (.inl rfl)); replace HB := a0_ (hb); replace HI0 := a0_ (hi); (try clear hb); (try clear hb2); (try clear hk); (try clear hi)) | ((with_reducible refine gate_callee (f := 38) rfl ?_); refine goesL_ (some 10) rfl rfl Tryz.func38 kr_ rfl #[.pointer (some ⟨g, 0, none⟩), .int .i64 2] rfl ta_ ?_; (with_reducible refine (spec_l01Next.calls g s0_0 t477 t478 2 t479 t480 t481 w0 _ ?side1 ?side2 A5.out).mono ?_); (case side1 => exact is85_ HI0.out); (case side2 => exact bl1_ (IsS85.ge HI0.out)); rintro e w7 ⟨rfl, hi, hb, hk⟩; refine ⟨_, rfl, ?_⟩; replace HK := a0_ (KeepBut.trans (kb0_) hk (.inl rfl)); replace HB := a0_ (hb); replace HI0 := a0_ (hi); (try clear hb); (try clear hb2); (try clear hk); (try clear hi)) | ((with_reducible refine gate_dst (N := 14) rfl ?_); refine Kd.R_lit k46 _ 46 ?hg (N := 14) ?hd (xs := ([(⟨1, 1⟩ : S46), (⟨1, wrap64 (97 + (wrap64 (3 * t479)))⟩ : S46)] : List (S46))) (inner := [.int .i64 1, .int .i64 1, .int .i64 1, .int .i64 (wrap64 (97 + (wrap64 (3 * t479))))]) (ok := fun _ => True) (okp := fun _ => True) ?hr ?hp (fun _ hk => hk) trivial (Below.refl _ _) (Nat.le_refl _) (by simp) ?_; (case hd => rfl); (case hg => rfl); (case hr => first | (go_simp; done) | (go_simp; rfl)); (case hp => exact (Reps.c2 (show Kd.M k46 _ _ _ (⟨1, 1⟩ : S46) [.int .i64 1, .int .i64 1] from (k46_mkM _ _ _ (⟨1, 1⟩ : S46) )) (Reps.c2 (show Kd.M k46 _ _ _ (⟨1, wrap64 (97 + (wrap64 (3 * t479)))⟩ : S46) [.int .i64 1, .int .i64 (wrap64 (97 + (wrap64 (3 * t479))))] from (k46_mkM _ _ _ (⟨1, wrap64 (97 + (wrap64 (3 * t479)))⟩ : S46) )) (Reps.none _ _)))); intro v483 w8 ho9 hb hg_ hnew_; clear hg_ hnew_; (first | rw [← Ny482.out] at ho9 | (simp only [Int.reduceToNat] at ho9; rw [← Ny482.out] at ho9)); have HO484 := a0_ (Kd.R_lower ho9 (keep_size (w := w) (g := g) (row := none) (kb0_))); replace HK := a0_ (KeepBut.trans (kb0_) (KeepBut.of_below hb g none) (.inl rfl)); replace HB := a0_ (below_step (bl1_ (IsS85.ge HI0.out)) hb); replace HI0 := a0_ (IsS85.below (is85_ HI0.out) hb); clear hb ho9))
  go_ret
  exact ⟨_, er_, ra_ HO484.out, is85_ HI0.out, bl1_ (IsS85.ge HI0.out), kb0_⟩
 ·rw [if_neg c4] at H
  have c4b0 : (t476 == 0) = false := beq_eq_false_iff_ne.mpr c4
  have c4b1 : (t476 != 0) = true := bne_iff_ne.mpr c4
  obtain ⟨⟨t485, t486, t487⟩, A10, H⟩ := bs_ H
  dsimp only at H
  by_cases c11 : t485 = 0
  ·rw [if_pos c11] at H
   have c11b0 : (t485 == 0) = true := beq_iff_eq.mpr c11
   have c11b1 : (t485 != 0) = false := bne_eq_false_iff_eq.mpr c11
   clear c11
   obtain ⟨y488, hy488⟩ : ∃ y_ : List (S46), y_ = (([(⟨1, 1⟩ : S46), (⟨61, 61⟩ : S46)] : List (S46))) := ⟨_, rfl⟩
   replace H : (some (y488, t486, t487)) = some (r1, r2, r3) := hh_ hy488 H
   have Ny488 := Aside0.mk hy488
   clear hy488
   simp only [Option.some.injEq, Prod.mk.injEq] at H
   obtain ⟨rfl, rfl, rfl⟩ := H
   go_enter Tryz.func73, Tryz.ntmps73
   go_wp2_with (first | ((with_reducible refine gate_callee (f := 38) rfl ?_); refine goesL_ (some 6) rfl rfl Tryz.func38 kr_ rfl #[.pointer (some ⟨g, 0, none⟩), .int .i64 24] rfl ta_ ?_; (with_reducible refine (spec_l01Next.calls g s0_0 s0_1 s0_2 24 t476 t477 t478 w0 _ ?side1 ?side2 A3.out).mono ?_); (case side1 => exact is85_ HI0.out); (case side2 => exact bl1_ (IsS85.ge HI0.out)); rintro e w12 ⟨rfl, hi, hb, hk⟩; refine ⟨_, rfl, ?_⟩; replace HK := a0_ (KeepBut.trans (kb0_) hk (.inl rfl)); replace HB := a0_ (hb); replace HI0 := a0_ (hi); (try clear hb); (try clear hb2); (try clear hk); (try clear hi)) | ((with_reducible refine gate_callee (f := 38) rfl ?_); refine goesL_ (some 16) rfl rfl Tryz.func38 kr_ rfl #[.pointer (some ⟨g, 0, none⟩), .int .i64 24] rfl ta_ ?_; (with_reducible refine (spec_l01Next.calls g s0_0 t477 t478 24 t485 t486 t487 w0 _ ?side1 ?side2 A10.out).mono ?_); (case side1 => exact is85_ HI0.out); (case side2 => exact bl1_ (IsS85.ge HI0.out)); rintro e w13 ⟨rfl, hi, hb, hk⟩; refine ⟨_, rfl, ?_⟩; replace HK := a0_ (KeepBut.trans (kb0_) hk (.inl rfl)); replace HB := a0_ (hb); replace HI0 := a0_ (hi); (try clear hb); (try clear hb2); (try clear hk); (try clear hi)) | ((with_reducible refine gate_dst (N := 20) rfl ?_); refine Kd.R_lit k46 _ 46 ?hg (N := 20) ?hd (xs := ([(⟨1, 1⟩ : S46), (⟨61, 61⟩ : S46)] : List (S46))) (inner := [.int .i64 1, .int .i64 1, .int .i64 61, .int .i64 61]) (ok := fun _ => True) (okp := fun _ => True) ?hr ?hp (fun _ hk => hk) trivial (Below.refl _ _) (Nat.le_refl _) (by simp) ?_; (case hd => rfl); (case hg => rfl); (case hr => first | (go_simp; done) | (go_simp; rfl)); (case hp => exact (Reps.c2 (show Kd.M k46 _ _ _ (⟨1, 1⟩ : S46) [.int .i64 1, .int .i64 1] from (k46_mkM _ _ _ (⟨1, 1⟩ : S46) )) (Reps.c2 (show Kd.M k46 _ _ _ (⟨61, 61⟩ : S46) [.int .i64 61, .int .i64 61] from (k46_mkM _ _ _ (⟨61, 61⟩ : S46) )) (Reps.none _ _)))); intro v489 w14 ho15 hb hg_ hnew_; clear hg_ hnew_; (first | rw [← Ny488.out] at ho15 | (simp only [Int.reduceToNat] at ho15; rw [← Ny488.out] at ho15)); have HO490 := a0_ (Kd.R_lower ho15 (keep_size (w := w) (g := g) (row := none) (kb0_))); replace HK := a0_ (KeepBut.trans (kb0_) (KeepBut.of_below hb g none) (.inl rfl)); replace HB := a0_ (below_step (bl1_ (IsS85.ge HI0.out)) hb); replace HI0 := a0_ (IsS85.below (is85_ HI0.out) hb); clear hb ho15))
   go_ret
   exact ⟨_, er_, ra_ HO490.out, is85_ HI0.out, bl1_ (IsS85.ge HI0.out), kb0_⟩
  ·rw [if_neg c11] at H
   have c11b0 : (t485 == 0) = false := beq_eq_false_iff_ne.mpr c11
   have c11b1 : (t485 != 0) = true := bne_iff_ne.mpr c11
   obtain ⟨⟨t491, t494, t495⟩, A16, H⟩ := bs_ H
   dsimp only at H
   simp only [Option.some.injEq, Prod.mk.injEq] at H
   obtain ⟨rfl, rfl, rfl⟩ := H
   go_enter Tryz.func73, Tryz.ntmps73
   go_wp2_with (first | ((with_reducible refine gate_callee (f := 38) rfl ?_); refine goesL_ (some 6) rfl rfl Tryz.func38 kr_ rfl #[.pointer (some ⟨g, 0, none⟩), .int .i64 24] rfl ta_ ?_; (with_reducible refine (spec_l01Next.calls g s0_0 s0_1 s0_2 24 t476 t477 t478 w0 _ ?side1 ?side2 A3.out).mono ?_); (case side1 => exact is85_ HI0.out); (case side2 => exact bl1_ (IsS85.ge HI0.out)); rintro e w17 ⟨rfl, hi, hb, hk⟩; refine ⟨_, rfl, ?_⟩; replace HK := a0_ (KeepBut.trans (kb0_) hk (.inl rfl)); replace HB := a0_ (hb); replace HI0 := a0_ (hi); (try clear hb); (try clear hb2); (try clear hk); (try clear hi)) | ((with_reducible refine gate_callee (f := 38) rfl ?_); refine goesL_ (some 16) rfl rfl Tryz.func38 kr_ rfl #[.pointer (some ⟨g, 0, none⟩), .int .i64 24] rfl ta_ ?_; (with_reducible refine (spec_l01Next.calls g s0_0 t477 t478 24 t485 t486 t487 w0 _ ?side1 ?side2 A10.out).mono ?_); (case side1 => exact is85_ HI0.out); (case side2 => exact bl1_ (IsS85.ge HI0.out)); rintro e w18 ⟨rfl, hi, hb, hk⟩; refine ⟨_, rfl, ?_⟩; replace HK := a0_ (KeepBut.trans (kb0_) hk (.inl rfl)); replace HB := a0_ (hb); replace HI0 := a0_ (hi); (try clear hb); (try clear hb2); (try clear hk); (try clear hi)) | ((with_reducible refine gate_callee (f := 108) rfl ?_); refine goesL_ (some 23) rfl rfl Tryz.func108 kr_ rfl #[.pointer (some ⟨g, 0, none⟩), .int .i64 a1] rfl ta_ ?_; (with_reducible refine (spec_l07Draw.calls k g s0_0 t486 t487 a1 t491 t494 t495 w0 _ ?side1 ?side2 A16.out).mono ?_); (case side1 => exact is85_ HI0.out); (case side2 => exact bl1_ (IsS85.ge HI0.out)); rintro e w19 ⟨v492, rfl, ho0, hi, hb, hk⟩; refine ⟨_, rfl, ?_⟩; have HO493 := a0_ (Kd.R_lower ho0 (keep_size (w := w) (g := g) (row := none) (kb0_))); replace HK := a0_ (KeepBut.trans (kb0_) hk (.inl rfl)); replace HB := a0_ (hb); replace HI0 := a0_ (hi); (try clear hb); (try clear hb2); (try clear hk); (try clear hi); (try clear ho0)))
   go_ret
   exact ⟨_, er_, ra_ HO493.out, is85_ HI0.out, bl1_ (IsS85.ge HI0.out), kb0_⟩

end Go.Proofs.YtmdjkmfocgelnaaGreat.PFnHexShapes
