/- Over the kit's printer by a driver of mine (hprint.py), with parts by hand: functions of the program as Lean functions, and that each call comes to exactly these answers. -/
import Derived.Test.YtmdjkmfocgelnaaGreatPFnTriangleShapesx0
import Derived.Test.YtmdjkmfocgelnaaGreatPFnTriangleShapesx11
import Derived.Test.YtmdjkmfocgelnaaGreatPFnTriangleShapesx12
import Derived.Test.YtmdjkmfocgelnaaGreatPFnTriangleShapesx16
import Derived.Test.YtmdjkmfocgelnaaGreatPFnTriangleShapesx17
namespace Go.Proofs.YtmdjkmfocgelnaaGreat.PFnTriangleShapes
open Go.RowKit Go.Proofs.YtmdjkmfocgelnaaGreatW.PrintWords Go.Proofs.YtmdjkmfocgelnaaGreatW.PrintLast Go.Proofs.YtmdjkmfocgelnaaGreatW.PrintMore
attribute [local go_sem] max2_int min2_int max_two min_two max_three min_three max_four min_four   -- for this text's walks alone
set_option linter.unusedVariables false
set_option linter.unusedSimpArgs false

/-! ### spec_l07All: function 45 -/
mutual
def spec_l07All.j0 : Nat → Int → Int → List (List (S46)) → Option ((List (List (S46))))
 | 0, _, _, _ => none
 | k + 1, x0, x1, x5 => spec_l07All.l0 k x0 x1 x5 1
def spec_l07All.l0 : Nat → Int → Int → List (List (S46)) → Int → Option ((List (List (S46))))
 | 0, _, _, _, _ => none
 | k + 1, x0, x1, x5, x6 => if x6 < x1 then (spec_l07All.l1 k x0 x1 x5 x6 (([] : List (List (S46)))) 0) else (some x5)
def spec_l07All.l1 : Nat → Int → Int → List (List (S46)) → Int → List (List (S46)) → Int → Option ((List (List (S46))))
 | 0, _, _, _, _, _, _ => none
 | k + 1, x0, x1, x5, x6, x7, x8 => if x8 < (x5.length : Int) then (spec_l07All.l2 k x0 x1 x5 x6 x7 x8 0) else (spec_l07All.l0 k x0 x1 x7 (wrap64 (x6 + 1)))
def spec_l07All.l2 : Nat → Int → Int → List (List (S46)) → Int → List (List (S46)) → Int → Int → Option ((List (List (S46))))
 | 0, _, _, _, _, _, _, _ => none
 | k + 1, x0, x1, x5, x6, x7, x8, x9 => if 0 ≤ x8 then (if x8 < (x5.length : Int) then (if x9 < ((rd_L3 x5 x8).length : Int) then (if 0 ≤ x9 then ((spec_l07Around.f x0 ((rd_T46 (rd_L3 x5 x8) x9).f0) ((rd_T46 (rd_L3 x5 x8) x9).f1)).bind fun t366 => (spec_l07All.l3 k x0 x1 x5 x6 x7 x8 x9 t366 0)) else (none)) else (spec_l07All.l1 k x0 x1 x5 x6 x7 (wrap64 (x8 + 1)))) else (none)) else (none)
def spec_l07All.l3 : Nat → Int → Int → List (List (S46)) → Int → List (List (S46)) → Int → Int → List (S46) → Int → Option ((List (List (S46))))
 | 0, _, _, _, _, _, _, _, _, _ => none
 | k + 1, x0, x1, x5, x6, x7, x8, x9, x10, x11 => if x11 < (x10.length : Int) then (if 0 ≤ x8 then (if x8 < (x5.length : Int) then (if 0 ≤ x11 then ((spec_l02Index.f k (rd_L3 x5 x8) ((rd_T46 x10 x11).f0) ((rd_T46 x10 x11).f1)).bind fun t371 => (if t371 < 0 then ((spec_l02Insert.f k (rd_L3 x5 x8) ((rd_T46 x10 x11).f0) ((rd_T46 x10 x11).f1)).bind fun t374 => ((spec_l07Normal.f k x0 t374).bind fun t377 => ((spec_l03Add.f k x7 t377).bind fun t380 => (spec_l07All.l3 k x0 x1 x5 x6 t380 x8 x9 x10 (wrap64 (x11 + 1)))))) else (spec_l07All.l3 k x0 x1 x5 x6 x7 x8 x9 x10 (wrap64 (x11 + 1))))) else (none)) else (none)) else (none)) else (spec_l07All.l2 k x0 x1 x5 x6 x7 x8 (wrap64 (x9 + 1)))
end
def spec_l07All.f (k : Nat) (a0 : Int) (a1 : Int) : Option ((List (List (S46)))) := if a0 = 0 then (spec_l07All.j0 k a0 a1 (([(([(⟨1, 1⟩ : S46)] : List (S46))), (([(⟨2, 2⟩ : S46)] : List (S46)))] : List (List (S46))))) else (spec_l07All.j0 k a0 a1 (([(([(⟨0, 0⟩ : S46)] : List (S46)))] : List (List (S46)))))
theorem spec_l07All.mono_l : ∀ k, (∀ y0 y1 y2, LeO (spec_l07All.j0 k y0 y1 y2) (spec_l07All.j0 (k + 1) y0 y1 y2)) ∧ (∀ y0 y1 y2 y3, LeO (spec_l07All.l0 k y0 y1 y2 y3) (spec_l07All.l0 (k + 1) y0 y1 y2 y3)) ∧ (∀ y0 y1 y2 y3 y4 y5, LeO (spec_l07All.l1 k y0 y1 y2 y3 y4 y5) (spec_l07All.l1 (k + 1) y0 y1 y2 y3 y4 y5)) ∧ (∀ y0 y1 y2 y3 y4 y5 y6, LeO (spec_l07All.l2 k y0 y1 y2 y3 y4 y5 y6) (spec_l07All.l2 (k + 1) y0 y1 y2 y3 y4 y5 y6)) ∧ (∀ y0 y1 y2 y3 y4 y5 y6 y7 y8, LeO (spec_l07All.l3 k y0 y1 y2 y3 y4 y5 y6 y7 y8) (spec_l07All.l3 (k + 1) y0 y1 y2 y3 y4 y5 y6 y7 y8))
 | 0 => ⟨fun _ _ _ r h => by simp [spec_l07All.j0] at h, fun _ _ _ _ r h => by simp [spec_l07All.l0] at h, fun _ _ _ _ _ _ r h => by simp [spec_l07All.l1] at h, fun _ _ _ _ _ _ _ r h => by simp [spec_l07All.l2] at h, fun _ _ _ _ _ _ _ _ _ r h => by simp [spec_l07All.l3] at h⟩
 | k + 1 => by
  obtain ⟨ih0, ih1, ih2, ih3, ih4⟩ := spec_l07All.mono_l k
  refine ⟨?_, ?_, ?_, ?_, ?_⟩
  ·intro y0 y1 y2
   unfold spec_l07All.j0
   with_reducible (repeat' first | exact ih0 _ _ _ | exact ih1 _ _ _ _ | exact ih2 _ _ _ _ _ _ | exact ih3 _ _ _ _ _ _ _ | exact ih4 _ _ _ _ _ _ _ _ _ | exact spec_l02Index.mono _ _ _ _ | exact spec_l02Insert.mono _ _ _ _ | exact spec_l03Add.mono _ _ _ | exact spec_l07Normal.mono _ _ _ | exact LeO.refl _ | exact LeO.none _ | refine LeO.ite ?_ ?_ | refine LeO.bind ?_ (fun _ => ?_))
  ·intro y0 y1 y2 y3
   unfold spec_l07All.l0
   with_reducible (repeat' first | exact ih0 _ _ _ | exact ih1 _ _ _ _ | exact ih2 _ _ _ _ _ _ | exact ih3 _ _ _ _ _ _ _ | exact ih4 _ _ _ _ _ _ _ _ _ | exact spec_l02Index.mono _ _ _ _ | exact spec_l02Insert.mono _ _ _ _ | exact spec_l03Add.mono _ _ _ | exact spec_l07Normal.mono _ _ _ | exact LeO.refl _ | exact LeO.none _ | refine LeO.ite ?_ ?_ | refine LeO.bind ?_ (fun _ => ?_))
  ·intro y0 y1 y2 y3 y4 y5
   unfold spec_l07All.l1
   with_reducible (repeat' first | exact ih0 _ _ _ | exact ih1 _ _ _ _ | exact ih2 _ _ _ _ _ _ | exact ih3 _ _ _ _ _ _ _ | exact ih4 _ _ _ _ _ _ _ _ _ | exact spec_l02Index.mono _ _ _ _ | exact spec_l02Insert.mono _ _ _ _ | exact spec_l03Add.mono _ _ _ | exact spec_l07Normal.mono _ _ _ | exact LeO.refl _ | exact LeO.none _ | refine LeO.ite ?_ ?_ | refine LeO.bind ?_ (fun _ => ?_))
  ·intro y0 y1 y2 y3 y4 y5 y6
   unfold spec_l07All.l2
   with_reducible (repeat' first | exact ih0 _ _ _ | exact ih1 _ _ _ _ | exact ih2 _ _ _ _ _ _ | exact ih3 _ _ _ _ _ _ _ | exact ih4 _ _ _ _ _ _ _ _ _ | exact spec_l02Index.mono _ _ _ _ | exact spec_l02Insert.mono _ _ _ _ | exact spec_l03Add.mono _ _ _ | exact spec_l07Normal.mono _ _ _ | exact LeO.refl _ | exact LeO.none _ | refine LeO.ite ?_ ?_ | refine LeO.bind ?_ (fun _ => ?_))
  ·intro y0 y1 y2 y3 y4 y5 y6 y7 y8
   unfold spec_l07All.l3
   with_reducible (repeat' first | exact ih0 _ _ _ | exact ih1 _ _ _ _ | exact ih2 _ _ _ _ _ _ | exact ih3 _ _ _ _ _ _ _ | exact ih4 _ _ _ _ _ _ _ _ _ | exact spec_l02Index.mono _ _ _ _ | exact spec_l02Insert.mono _ _ _ _ | exact spec_l03Add.mono _ _ _ | exact spec_l07Normal.mono _ _ _ | exact LeO.refl _ | exact LeO.none _ | refine LeO.ite ?_ ?_ | refine LeO.bind ?_ (fun _ => ?_))
theorem spec_l07All.mono : ∀ a0 a1 k, LeO (spec_l07All.f k a0 a1) (spec_l07All.f (k + 1) a0 a1) := by
 intro a0 a1 k
 obtain ⟨ih0, ih1, ih2, ih3, ih4⟩ := spec_l07All.mono_l k
 unfold spec_l07All.f
 with_reducible (repeat' first | exact ih0 _ _ _ | exact ih1 _ _ _ _ | exact ih2 _ _ _ _ _ _ | exact ih3 _ _ _ _ _ _ _ | exact ih4 _ _ _ _ _ _ _ _ _ | exact spec_l02Index.mono _ _ _ _ | exact spec_l02Insert.mono _ _ _ _ | exact spec_l03Add.mono _ _ _ | exact spec_l07Normal.mono _ _ _ | exact LeO.refl _ | exact LeO.none _ | refine LeO.ite ?_ ?_ | refine LeO.bind ?_ (fun _ => ?_))
def spec_l07All.T18 : Bool × List (List Nat × List Nat) := (true, [([], []), ([], []), ([0, 1], [0, 1]), ([2], [2]), ([], []), ([], []), ([4, 5], [4, 5]), ([6], [6]), ([3, 7], [3, 7]), ([8], [8])])
def spec_l07All.B18 : List Nat := [0, 0, 3, 7, 0, 0, 48, 112, 255, 511]
theorem spec_l07All.tab18 : rtab .any (opsOf Tryz.f45 18) = spec_l07All.T18 := by kernel_rfl
theorem spec_l07All.bits18 : waitsOk spec_l07All.T18.2 spec_l07All.B18 = true := by kernel_rfl
def spec_l07All.T19 : Bool × List (List Nat × List Nat) := (true, [([], []), ([], []), ([], []), ([], []), ([2, 3], [2, 3]), ([4], [4]), ([], []), ([], []), ([6, 7], [6, 7]), ([8], [8]), ([5, 9], [5, 9]), ([1, 10, 10], [1, 10]), ([0, 11, 11], [0, 11]), ([12, 12, 0, 1, 2, 3, 4, 5, 6, 7, 8, 9, 10, 11, 12], [0, 12])])
def spec_l07All.B19 : List Nat := [0, 0, 0, 0, 12, 28, 0, 0, 192, 448, 1020, 2046, 4095, 8191]
theorem spec_l07All.tab19 : rtab .any (opsOf Tryz.f45 19) = spec_l07All.T19 := by kernel_rfl
theorem spec_l07All.bits19 : waitsOk spec_l07All.T19.2 spec_l07All.B19 = true := by kernel_rfl
set_option maxHeartbeats 8000000 in
set_option maxRecDepth 100000 in
theorem spec_l07All.calls (k : Nat) (a0 : Int) (a1 : Int) (r : List (List (S46))) (w : World) (h : spec_l07All.f k a0 a1 = some r) :
  Calls Tryz.prog 45 #[.int .i64 a0, .int .i64 a1] w fun e w' => ∃ v0_ : Value, e = .returned (v0_) ∧ Kd.V (Kd.slice 46 k46) 35 w' w.heap.size (fun k_ => (w.heap.size ≤ k_)) v0_ r ∧ Below w.heap.size w w' := by
 have hu46 := Tryz.underlying46
 have HB := a0_ (Below.refl w.heap.size w)
 have H := h
 clear h
 unfold spec_l07All.f at H
 obtain ⟨y345, hy345⟩ : ∃ y_ : List (S46), y_ = (([(⟨0, 0⟩ : S46)] : List (S46))) := ⟨_, rfl⟩
 replace H : (if a0 = 0 then (spec_l07All.j0 k a0 a1 (([(([(⟨1, 1⟩ : S46)] : List (S46))), (([(⟨2, 2⟩ : S46)] : List (S46)))] : List (List (S46))))) else (spec_l07All.j0 k a0 a1 (([y345] : List (List (S46)))))) = some r := hh_ hy345 H
 have Ny345 := Aside0.mk hy345
 clear hy345
 obtain ⟨y348, hy348⟩ : ∃ y_ : List (List (S46)), y_ = (([y345] : List (List (S46)))) := ⟨_, rfl⟩
 replace H : (if a0 = 0 then (spec_l07All.j0 k a0 a1 (([(([(⟨1, 1⟩ : S46)] : List (S46))), (([(⟨2, 2⟩ : S46)] : List (S46)))] : List (List (S46))))) else (spec_l07All.j0 k a0 a1 y348)) = some r := hh_ hy348 H
 have Ny348 := Aside0.mk hy348
 clear hy348
 have HC3 := Aside0.mk H
 clear H
 go_enter Tryz.func45, Tryz.ntmps45
 go_upto_if 16 with (first | ((with_reducible refine gate_dst (N := 13) rfl ?_); refine Kd.R_lit k46 _ 46 ?hg (N := 13) ?hd (xs := ([(⟨0, 0⟩ : S46)] : List (S46))) (inner := [.int .i64 0, .int .i64 0]) (ok := fun _ => True) (okp := fun _ => True) ?hr ?hp (fun _ hk => hk) trivial (Below.refl _ _) (Nat.le_refl _) (by simp) ?_; (case hd => rfl); (case hg => rfl); (case hr => first | (go_simp; done) | (go_simp; rfl)); (case hp => exact (Reps.c2 (show Kd.M k46 _ _ _ (⟨0, 0⟩ : S46) [.int .i64 0, .int .i64 0] from (k46_mkM _ _ _ (⟨0, 0⟩ : S46) )) (Reps.none _ _))); intro v346 w4 ho5 hb hg_ hnew_; clear hg_ hnew_; (first | rw [← Ny345.out] at ho5 | (simp only [Int.reduceToNat] at ho5; rw [← Ny345.out] at ho5)); have HO347 := a0_ (Kd.R_lower (Kd.R_newM (M := fun k_ => (w.heap.size ≤ k_)) ho5 (below_size (bl0_)) (fun k_ h_ => h_)) (below_size (bl0_))); replace HB := a0_ (below_step (bl0_) hb); clear hb ho5; obtain ⟨Ao6, co6, eo6⟩ := Kd.R_slice HO347.out; subst eo6) | ((with_reducible refine gate_dst (N := 14) rfl ?_); refine Kd.N_lit (Kd.slice 46 k46) _ 35 ?hg (N' := 14) ?hd (xs := ([y345] : List (List (S46)))) (inner := [.slice Ao6 y345.length co6]) (ok := (fun k_ => (w.heap.size ≤ k_))) (okp := (fun k_ => (w.heap.size ≤ k_))) ?hr ?hp (fun _ hk => hk) ((show ∀ k_, w4.heap.size ≤ k_ → (fun k_ => (w.heap.size ≤ k_)) k_ from fun k_ hk => (Nat.le_trans (below_size (bl0_)) hk)) _ (Nat.le_refl _)) (Below.refl _ _) (Nat.le_refl _) (by simp) ?_; (case hd => rfl); (case hg => rfl); (case hr => first | (go_simp; done) | (go_simp; rfl)); (case hp => exact (Reps.one (show Kd.FK (Kd.slice 46 k46) _ _ y345 [.slice Ao6 y345.length co6] from (Kd.FK_slice_mk (Kd.R_reads' (Kd.R_mono (ok' := (fun k_ => (w.heap.size ≤ k_))) (HO347.out) (fun k_ hk => hk.1))).2.1 (Kd.R_F (Kd.R_mono (ok' := (fun k_ => (w.heap.size ≤ k_))) (HO347.out) (fun k_ hk => hk.1))))) (Reps.none _ _))); intro v349 w7 ho8 hb hg_ hnew_; clear hg_ hnew_; (first | rw [← Ny348.out] at ho8 | (simp only [Int.reduceToNat] at ho8; rw [← Ny348.out] at ho8)); have HO350 := a0_ (Kd.N_lower ho8 (below_size (bl0_))); replace HB := a0_ (below_step (bl0_) hb); clear HO347; clear hb ho8))
 (try simp only [Act.put, List.setIfInBounds_toArray, List.set_cons_zero, List.set_cons_succ])
 go_cut [5] (fun v5 wc => ∃ (kq : Nat) (x5_2 : List (List (S46))), Aside0 (spec_l07All.j0 kq a0 a1 x5_2 = some r) ∧ Aside0 (kq ≤ k) ∧ Aside0 (Kd.N (Kd.slice 46 k46) 35 wc w.heap.size (fun k_ => (w.heap.size ≤ k_)) v5 x5_2) ∧ Aside0 (Below w.heap.size w wc))
 case first =>
  have H := HC3.out
  clear HC3
  by_cases c9 : a0 = 0
  ·rw [if_pos c9] at H
   have c9b0 : (a0 == 0) = true := beq_iff_eq.mpr c9
   have c9b1 : (a0 != 0) = false := bne_eq_false_iff_eq.mpr c9
   clear c9
   (first | rw [c9b0] | (simp only [i64_w, i32_w]; rw [c9b0]) | skip)
   obtain ⟨y351, hy351⟩ : ∃ y_ : List (S46), y_ = (([(⟨1, 1⟩ : S46)] : List (S46))) := ⟨_, rfl⟩
   replace H : (spec_l07All.j0 k a0 a1 (([y351, (([(⟨2, 2⟩ : S46)] : List (S46)))] : List (List (S46))))) = some r := hh_ hy351 H
   have Ny351 := Aside0.mk hy351
   clear hy351
   obtain ⟨y354, hy354⟩ : ∃ y_ : List (S46), y_ = (([(⟨2, 2⟩ : S46)] : List (S46))) := ⟨_, rfl⟩
   replace H : (spec_l07All.j0 k a0 a1 (([y351, y354] : List (List (S46))))) = some r := hh_ hy354 H
   have Ny354 := Aside0.mk hy354
   clear hy354
   obtain ⟨y357, hy357⟩ : ∃ y_ : List (List (S46)), y_ = (([y351, y354] : List (List (S46)))) := ⟨_, rfl⟩
   replace H : (spec_l07All.j0 k a0 a1 y357) = some r := hh_ hy357 H
   have Ny357 := Aside0.mk hy357
   clear hy357
   have H' := Aside0.mk H
   clear H
   go_wp2_with (first | ((with_reducible refine gate_dst (N := 18) rfl ?_); refine Kd.R_lit k46 _ 46 ?hg (N := 18) ?hd (xs := ([(⟨1, 1⟩ : S46)] : List (S46))) (inner := [.int .i64 1, .int .i64 1]) (ok := fun _ => True) (okp := fun _ => True) ?hr ?hp (fun _ hk => hk) trivial (Below.refl _ _) (Nat.le_refl _) (by simp) ?_; (case hd => rfl); (case hg => rfl); (case hr => first | (go_simp; done) | (go_simp; rfl)); (case hp => exact (Reps.c2 (show Kd.M k46 _ _ _ (⟨1, 1⟩ : S46) [.int .i64 1, .int .i64 1] from (k46_mkM _ _ _ (⟨1, 1⟩ : S46) )) (Reps.none _ _))); intro v352 w10 ho11 hb hg_ hnew_; clear hg_ hnew_; (first | rw [← Ny351.out] at ho11 | (simp only [Int.reduceToNat] at ho11; rw [← Ny351.out] at ho11)); replace HO350 := a0_ (Kd.N_elder' (by (with_reducible repeat (first | apply Kd.N_alloc | apply Kd.N_drewN | apply Kd.N_drew)); exact HO350.out) (Kd.R_base ho11) hb); have HO353 := a0_ (Kd.R_lower (Kd.R_newM (M := fun k_ => (w.heap.size ≤ k_)) ho11 (below_size (bl0_)) (fun k_ h_ => h_)) (below_size (bl0_))); replace HB := a0_ (below_step (bl0_) hb); clear hb ho11) | ((with_reducible refine gate_dst (N := 20) rfl ?_); refine Kd.R_lit k46 _ 46 ?hg (N := 20) ?hd (xs := ([(⟨2, 2⟩ : S46)] : List (S46))) (inner := [.int .i64 2, .int .i64 2]) (ok := fun _ => True) (okp := fun _ => True) ?hr ?hp (fun _ hk => hk) trivial (Below.refl _ _) (Nat.le_refl _) (by simp) ?_; (case hd => rfl); (case hg => rfl); (case hr => first | (go_simp; done) | (go_simp; rfl)); (case hp => exact (Reps.c2 (show Kd.M k46 _ _ _ (⟨2, 2⟩ : S46) [.int .i64 2, .int .i64 2] from (k46_mkM _ _ _ (⟨2, 2⟩ : S46) )) (Reps.none _ _))); intro v355 w12 ho13 hb hg_ hnew_; clear hg_ hnew_; (first | rw [← Ny354.out] at ho13 | (simp only [Int.reduceToNat] at ho13; rw [← Ny354.out] at ho13)); replace HO350 := a0_ (Kd.N_elder' (by (with_reducible repeat (first | apply Kd.N_alloc | apply Kd.N_drewN | apply Kd.N_drew)); exact HO350.out) (Kd.R_base ho13) hb); have HO356 := a0_ (Kd.R_lower (Kd.R_new' (Kd.R_newM (M := fun k_ => (w.heap.size ≤ k_)) ho13 (below_size (bl0_)) (fun k_ h_ => h_)) (Kd.R_lt (ra_ HO353.out))) (below_size (bl0_))); replace HO353 := a0_ (Kd.R_elder' (ra_ HO353.out) (Kd.R_base ho13) hb); replace HB := a0_ (below_step (bl0_) hb); clear hb ho13; obtain ⟨Ao14, co14, eo14⟩ := Kd.R_slice HO353.out; subst eo14; obtain ⟨Ao15, co15, eo15⟩ := Kd.R_slice HO356.out; subst eo15) | ((with_reducible refine gate_dst (N := 21) rfl ?_); refine Kd.N_lit (Kd.slice 46 k46) _ 35 ?hg (N' := 21) ?hd (xs := ([y351, y354] : List (List (S46)))) (inner := [.slice Ao14 y351.length co14, .slice Ao15 y354.length co15]) (ok := (fun k_ => (w.heap.size ≤ k_) ∧ some k_ ≠ (v349 : Value).ownBlock)) (okp := (fun k_ => (w.heap.size ≤ k_) ∧ some k_ ≠ (v349 : Value).ownBlock)) ?hr ?hp (fun _ hk => hk) ((show ∀ k_, w12.heap.size ≤ k_ → (fun k_ => (w.heap.size ≤ k_) ∧ some k_ ≠ (v349 : Value).ownBlock) k_ from fun k_ hk => ⟨(Nat.le_trans (below_size (bl0_)) hk), Kd.fresh' (Kd.N_lt (by (with_reducible repeat (first | apply Kd.N_alloc | apply Kd.N_drewN | apply Kd.N_drew)); exact HO350.out)) k_ hk⟩) _ (Nat.le_refl _)) (Below.refl _ _) (Nat.le_refl _) (by simp) ?_; (case hd => rfl); (case hg => rfl); (case hr => first | (go_simp; done) | (go_simp; rfl)); (case hp => exact (Reps.one (show Kd.FK (Kd.slice 46 k46) _ _ y351 [.slice Ao14 y351.length co14] from (Kd.FK_slice_mk (Kd.R_reads' (Kd.R_mono (ok' := (fun k_ => (w.heap.size ≤ k_) ∧ some k_ ≠ (v349 : Value).ownBlock)) (Kd.R_apart' (HO353.out) (Kd.N_typed HO350.out) (by decide)) (fun k_ hk => ⟨hk.1.1.1, hk.2⟩))).2.1 (Kd.R_F (Kd.R_mono (ok' := (fun k_ => (w.heap.size ≤ k_) ∧ some k_ ≠ (v349 : Value).ownBlock)) (Kd.R_apart' (HO353.out) (Kd.N_typed HO350.out) (by decide)) (fun k_ hk => ⟨hk.1.1.1, hk.2⟩))))) (Reps.one (show Kd.FK (Kd.slice 46 k46) _ _ y354 [.slice Ao15 y354.length co15] from (Kd.FK_slice_mk (Kd.R_reads' (Kd.R_mono (ok' := (fun k_ => (w.heap.size ≤ k_) ∧ some k_ ≠ (v349 : Value).ownBlock)) (Kd.R_apart' (HO356.out) (Kd.N_typed HO350.out) (by decide)) (fun k_ hk => ⟨hk.1.1.1, hk.2⟩))).2.1 (Kd.R_F (Kd.R_mono (ok' := (fun k_ => (w.heap.size ≤ k_) ∧ some k_ ≠ (v349 : Value).ownBlock)) (Kd.R_apart' (HO356.out) (Kd.N_typed HO350.out) (by decide)) (fun k_ hk => ⟨hk.1.1.1, hk.2⟩))))) (Reps.none _ _)))); intro v358 w16 ho17 hb hg_ hnew_; clear hg_ hnew_; (first | rw [← Ny357.out] at ho17 | (simp only [Int.reduceToNat] at ho17; rw [← Ny357.out] at ho17)); replace HO350 := a0_ (Kd.N_elder' (by (with_reducible repeat (first | apply Kd.N_alloc | apply Kd.N_drewN | apply Kd.N_drew)); exact HO350.out) (Kd.N_base ho17) hb); have HO359 := a0_ (Kd.N_lower ho17 (below_size (bl0_))); replace HB := a0_ (below_step (bl0_) hb); clear HO353 HO356; clear hb ho17))
   go_meet
   case rel => exact ⟨_, (y357), H', ⟨by first | omega | exact Nat.le_refl _⟩, ⟨by (with_reducible repeat (first | apply Kd.N_alloc | apply Kd.N_drewN | apply Kd.N_drew)); exact Kd.N_mono HO359.out (fun _ hk => hk.1)⟩, ⟨bl0_⟩⟩
  ·rw [if_neg c9] at H
   have c9b0 : (a0 == 0) = false := beq_eq_false_iff_ne.mpr c9
   have c9b1 : (a0 != 0) = true := bne_iff_ne.mpr c9
   (first | rw [c9b0] | (simp only [i64_w, i32_w]; rw [c9b0]) | skip)
   have H' := Aside0.mk H
   clear H
   go_wp2
   go_meet
   case rel => exact ⟨_, (y348), H', ⟨by first | omega | exact Nat.le_refl _⟩, ⟨by (with_reducible repeat (first | apply Kd.N_alloc | apply Kd.N_drewN | apply Kd.N_drew)); exact HO350.out⟩, ⟨bl0_⟩⟩
 case rest =>
  clear HC3
  try clear c2
  try clear p2
  try clear c4
  try clear c9
  try clear c9b0
  try clear c9b1
  obtain ⟨kq, x5_2, HA, HJ2, HO_5, HB⟩ := hcut
  cases kq with
  | zero => exact absurd HA.out (by simp [spec_l07All.j0])
  | succ kj2 =>
   have H := HA.out
   clear HA
   simp only [spec_l07All.j0] at H
   have H' := Aside0.mk H
   clear H
   go_wp2
   go_loopg [5, 6] kj2 (fun kq v5 v6 w' => ∃ (x5_2 : List (List (S46))) (x6_2 : Int), v6 = .int .i64 x6_2 ∧ Aside0 (spec_l07All.l0 kq a0 a1 x5_2 x6_2 = some r) ∧ Aside0 (kq ≤ kj2) ∧ Aside0 (Kd.V (Kd.slice 46 k46) 35 w' w.heap.size (fun k_ => (w.heap.size ≤ k_)) v5 x5_2) ∧ Aside0 (Below w.heap.size w w'))
   case atStart => exact ⟨(x5_2), (1), rs_, H', ⟨Nat.le_refl _⟩, ⟨Kd.N_V (by (with_reducible repeat (first | apply Kd.N_alloc | apply Kd.N_drewN | apply Kd.N_drew)); exact HO_5.out)⟩, ⟨bl0_⟩⟩
   case round =>
    clear H'
    try clear c2
    try clear p2
    try clear c4
    try clear c9
    try clear c9b0
    try clear c9b1
    try clear p2
    obtain ⟨x5_2, x6_2, rfl, HA, HK2, HO_5, HB⟩ := hrel
    cases gk with
    | zero => exact absurd HA.out (by simp [spec_l07All.l0])
    | succ k2 =>
     have H := HA.out
     clear HA
     simp only [spec_l07All.l0] at H
     by_cases c18 : x6_2 < a1
     ·rw [if_pos c18] at H
      have c18b0 : decide (x6_2 < a1) = true := decide_eq_true c18
      clear c18
      obtain ⟨y360, hy360⟩ : ∃ y_ : List (List (S46)), y_ = (([] : List (List (S46)))) := ⟨_, rfl⟩
      replace H : (spec_l07All.l1 k2 a0 a1 x5_2 x6_2 y360 0) = some r := hh_ hy360 H
      have Ny360 := Aside0.mk hy360
      clear hy360
      have H' := Aside0.mk H
      clear H
      go_wp2_with (first | ((with_reducible refine gate_dst (N := 27) rfl ?_); refine Kd.N_lit (Kd.slice 46 k46) _ 35 ?hg (N' := 27) ?hd (xs := ([] : List (List (S46)))) (inner := []) (ok := (fun k_ => (w.heap.size ≤ k_))) (okp := (fun k_ => (w.heap.size ≤ k_))) ?hr ?hp (fun _ hk => hk) ((show ∀ k_, wr.heap.size ≤ k_ → (fun k_ => (w.heap.size ≤ k_)) k_ from fun k_ hk => (Nat.le_trans (below_size (bl0_)) hk)) _ (Nat.le_refl _)) (Below.refl _ _) (Nat.le_refl _) (by simp) ?_; (case hd => rfl); (case hg => rfl); (case hr => first | (go_simp; done) | (go_simp; rfl)); (case hp => exact (Reps.none _ _)); intro v361 w19 ho20 hb hg_ hnew_; clear hg_ hnew_; (first | rw [← Ny360.out] at ho20 | (simp only [Int.reduceToNat] at ho20; rw [← Ny360.out] at ho20)); replace HO_5 := a0_ (Kd.V_elder' (va_ HO_5.out) (Kd.N_base ho20) hb); have HO362 := a0_ (Kd.N_lower ho20 (below_size (bl0_))); replace HB := a0_ (below_step (bl0_) hb); clear hb ho20))
      go_loopg [7, 8] k2 (fun kq v7 v8 w' => ∃ (x7_3 : List (List (S46))) (x8_3 : Int), v8 = .int .i64 x8_3 ∧ Aside0 (spec_l07All.l1 kq a0 a1 x5_2 x6_2 x7_3 x8_3 = some r) ∧ Aside0 (kq ≤ k2) ∧ Aside0 (Kd.V (Kd.slice 46 k46) 35 w' w.heap.size (fun k_ => (w.heap.size ≤ k_)) u5 x5_2) ∧ Aside0 (Kd.V (Kd.slice 46 k46) 35 w' w.heap.size (fun k_ => (w.heap.size ≤ k_)) v7 x7_3) ∧ Aside0 (Below w.heap.size w w'))
      case atStart => exact ⟨(y360), (0), rs_, H', ⟨Nat.le_refl _⟩, ⟨by (with_reducible repeat (first | apply Kd.V_alloc | apply Kd.V_drewN | apply Kd.V_drew)); exact Kd.V_mono HO_5.out (fun _ hk => hk.1)⟩, ⟨Kd.N_V (by (with_reducible repeat (first | apply Kd.N_alloc | apply Kd.N_drewN | apply Kd.N_drew)); exact HO362.out)⟩, ⟨bl0_⟩⟩
      case round =>
       clear H'
       try clear c1
       try clear c2
       try clear p2
       try clear c4
       try clear c9
       try clear c9b0
       try clear c9b1
       try clear c18
       try clear c18b0
       try clear p2
       obtain ⟨x7_3, x8_3, rfl, HA, HK3, HO_5, HO_7, HB⟩ := hrel
       cases gk with
       | zero => exact absurd HA.out (by simp [spec_l07All.l1])
       | succ k3 =>
        have H := HA.out
        clear HA
        simp only [spec_l07All.l1] at H
        by_cases c21 : x8_3 < (x5_2.length : Int)
        ·rw [if_pos c21] at H
         have c21b0 : decide (x8_3 < (x5_2.length : Int)) = true := decide_eq_true c21
         clear c21
         have H' := Aside0.mk H
         clear H
         obtain ⟨Ao22, co22, eo22⟩ := Kd.V_slice HO_5.out
         subst eo22
         go_wp2
         go_loopg [7, 9] k3 (fun kq v7 v9 w' => ∃ (x7_4 : List (List (S46))) (x9_4 : Int), v9 = .int .i64 x9_4 ∧ Aside0 (spec_l07All.l2 kq a0 a1 x5_2 x6_2 x7_4 x8_3 x9_4 = some r) ∧ Aside0 (kq ≤ k3) ∧ Aside0 (Kd.V (Kd.slice 46 k46) 35 w' w.heap.size (fun k_ => (w.heap.size ≤ k_)) (.slice Ao22 x5_2.length co22) x5_2) ∧ Aside0 (Kd.V (Kd.slice 46 k46) 35 w' w.heap.size (fun k_ => (w.heap.size ≤ k_)) v7 x7_4) ∧ Aside0 (Below w.heap.size w w'))
         case atStart => exact ⟨(x7_3), (0), rs_, H', ⟨Nat.le_refl _⟩, ⟨va_ HO_5.out⟩, ⟨va_ HO_7.out⟩, ⟨bl0_⟩⟩
         case round =>
          clear H'
          try clear c1
          try clear c2
          try clear p2
          try clear c4
          try clear c9
          try clear c9b0
          try clear c9b1
          try clear c18
          try clear c18b0
          try clear c21
          try clear c21b0
          try clear p2
          obtain ⟨x7_4, x9_4, rfl, HA, HK4, HO_5, HO_7, HB⟩ := hrel
          cases gk with
          | zero => exact absurd HA.out (by simp [spec_l07All.l2])
          | succ k4 =>
           have H := HA.out
           clear HA
           simp only [spec_l07All.l2] at H
           by_cases c23 : 0 ≤ x8_3
           ·rw [if_pos c23] at H
            have c23b0 : decide (0 ≤ x8_3) = true := decide_eq_true c23
            clear c23
            by_cases c24 : x8_3 < (x5_2.length : Int)
            ·rw [if_pos c24] at H
             have c24b0 : decide (x8_3 < (x5_2.length : Int)) = true := decide_eq_true c24
             clear c24
             by_cases c25 : x9_4 < ((rd_L3 x5_2 x8_3).length : Int)
             ·rw [if_pos c25] at H
              have c25b0 : decide (x9_4 < ((rd_L3 x5_2 x8_3).length : Int)) = true := decide_eq_true c25
              clear c25
              by_cases c26 : 0 ≤ x9_4
              ·rw [if_pos c26] at H
               have c26b0 : decide (0 ≤ x9_4) = true := decide_eq_true c26
               clear c26
               obtain ⟨t366, A27, H⟩ := bs_ H
               have H' := Aside0.mk H
               clear H
               have p363 : 0 ≤ (x8_3 : Int) := od_
               have q363 : x8_3 < (x5_2.length : Int) := od_
               obtain ⟨ad363, A363_0, c363_0, e363, hx363_0, hl363_0, hi363_0⟩ := at_L3 (Kd.V_reads' HO_5.out).2.2 x8_3 p363 q363
               cases e363
               obtain ⟨ce363, hce363, hMe363, hcc363⟩ := Kd.V_get HO_5.out [] x8_3 p363 (by first | exact q363 | exact od_ | (have e_ := (Kd.V_reads' HO_5.out).1; omega))
               obtain ⟨ua363_0, uc363_0, rfl, ul363_0, ge363_0⟩ := Kd.FK_slice_open hMe363
               have hv363_0 := hcc363 0 _ rfl
               rw [Nat.add_zero, show ((Kd.slice 46 k46)).sz = 1 from rfl, Nat.mul_one] at hv363_0
               replace hv363_0 := Option.some.inj (hv363_0.symm.trans hx363_0)
               injection hv363_0 with hva_ hvn_ hvc_
               rw [hva_] at ge363_0
               rw [hvc_] at ul363_0
               have HL363_0 := a0_ (show Kd.V k46 46 _ w.heap.size _ _ (rd_L3 x5_2 x8_3) from Kd.V_mk ul363_0 ge363_0)
               clear hva_ hvn_ hvc_ ge363_0 ul363_0
               clear hcc363 hce363
               have HR363_0 := Aside0.mk hi363_0
               have HC363_0 := Aside0.mk hl363_0
               clear hi363_0 hl363_0
               replace p363 := eq_true p363
               replace q363 := eq_true q363
               have p364 : 0 ≤ (x8_3 : Int) := od_
               have q364 : x8_3 < (x5_2.length : Int) := od_
               obtain ⟨ad364, A364_0, c364_0, e364, hx364_0, hl364_0, hi364_0⟩ := at_L3 (Kd.V_reads' HO_5.out).2.2 x8_3 p364 q364
               obtain rfl : ad363 = ad364 := (by injection e364)
               obtain ⟨ce364, hce364, hMe364, hcc364⟩ := Kd.V_get HO_5.out [] x8_3 p364 (by first | exact q364 | exact od_ | (have e_ := (Kd.V_reads' HO_5.out).1; omega))
               obtain ⟨ua364_0, uc364_0, rfl, ul364_0, ge364_0⟩ := Kd.FK_slice_open hMe364
               have hv364_0 := hcc364 0 _ rfl
               rw [Nat.add_zero, show ((Kd.slice 46 k46)).sz = 1 from rfl, Nat.mul_one] at hv364_0
               replace hv364_0 := Option.some.inj (hv364_0.symm.trans hx364_0)
               injection hv364_0 with hva_ hvn_ hvc_
               rw [hva_] at ge364_0
               rw [hvc_] at ul364_0
               have HL364_0 := a0_ (show Kd.V k46 46 _ w.heap.size _ _ (rd_L3 x5_2 x8_3) from Kd.V_mk ul364_0 ge364_0)
               clear hva_ hvn_ hvc_ ge364_0 ul364_0
               clear hcc364 hce364
               have HR364_0 := Aside0.mk hi364_0
               have HC364_0 := Aside0.mk hl364_0
               clear hi364_0 hl364_0
               replace p364 := eq_true p364
               replace q364 := eq_true q364
               have ea_ := Option.some.inj (hx363_0.symm.trans hx364_0)
               injection ea_ with ea_ en_ ec_
               subst ea_
               subst ec_
               clear en_
               have p365 : 0 ≤ (x9_4 : Int) := od_
               have q365 : x9_4 < ((rd_L3 x5_2 x8_3).length : Int) := od_
               obtain ⟨ad365, e365, hx365_0, hx365_1⟩ := at_T46 (by repeat (first | (with_reducible exact HR364_0.out) | (with_reducible refine Kd.C_alloc ?_ _) | (with_reducible refine Kd.C_drewN ?_ _) | (with_reducible refine Kd.C_drew ?_) | exact HR364_0.out)) x9_4 p365 q365
               cases e365
               replace p365 := eq_true p365
               replace q365 := eq_true q365
               go_wp2_with (first | ((with_reducible refine gate_callee (f := 72) rfl ?_); refine goesL_ (some 51) rfl rfl Tryz.func72 kr_ rfl #[.int .i64 a0, .agg #[.int .i64 ((rd_T46 (rd_L3 x5_2 x8_3) x9_4).f0), .int .i64 ((rd_T46 (rd_L3 x5_2 x8_3) x9_4).f1)]] rfl ta_ ?_; (with_reducible refine (spec_l07Around.calls a0 ((rd_T46 (rd_L3 x5_2 x8_3) x9_4).f0) ((rd_T46 (rd_L3 x5_2 x8_3) x9_4).f1) t366 _ A27.out).mono ?_); rintro e w28 ⟨v367, rfl, ho0, hb⟩; refine ⟨_, rfl, ?_⟩; replace HO_5 := a0_ (Kd.V_elder' (va_ HO_5.out) (Kd.R_base ho0) hb); replace HO_7 := a0_ (Kd.V_elder' (va_ HO_7.out) (Kd.R_base ho0) hb); replace HL363_0 := a0_ (Kd.V_elder' (va_ HL363_0.out) (Kd.R_base ho0) hb); replace HL364_0 := a0_ (Kd.V_elder' (va_ HL364_0.out) (Kd.R_base ho0) hb); have HO368 := a0_ (Kd.R_lower (Kd.R_newM (M := fun k_ => (w.heap.size ≤ k_)) ho0 (below_size (bl0_)) (fun k_ h_ => h_)) (below_size (bl0_))); replace HR363_0 := a0_ (Kd.C_below (by repeat (first | (with_reducible exact HR363_0.out) | (with_reducible refine Kd.C_alloc ?_ _) | (with_reducible refine Kd.C_drewN ?_ _) | (with_reducible refine Kd.C_drew ?_) | exact HR363_0.out)) hb); replace HR364_0 := a0_ (Kd.C_below (by repeat (first | (with_reducible exact HR364_0.out) | (with_reducible refine Kd.C_alloc ?_ _) | (with_reducible refine Kd.C_drewN ?_ _) | (with_reducible refine Kd.C_drew ?_) | exact HR364_0.out)) hb); replace HB := a0_ (below_step (bl0_) hb); (try clear hb); (try clear hb2); (try clear hk); (try clear hi); (try clear ho0)))
               go_loopg [7, 11] k4 (fun kq v7 v11 w' => ∃ (x7_5 : List (List (S46))) (x11_5 : Int), v11 = .int .i64 x11_5 ∧ Aside0 (spec_l07All.l3 kq a0 a1 x5_2 x6_2 x7_5 x8_3 x9_4 t366 x11_5 = some r) ∧ Aside0 (kq ≤ k4) ∧ Aside0 (Kd.V (Kd.slice 46 k46) 35 w' w.heap.size (fun k_ => (w.heap.size ≤ k_) ∧ some k_ ≠ (v367 : Value).ownBlock) (.slice (some ad363) x5_2.length co22) x5_2) ∧ Aside0 (Kd.V (Kd.slice 46 k46) 35 w' w.heap.size (fun k_ => (w.heap.size ≤ k_) ∧ some k_ ≠ (v367 : Value).ownBlock) v7 x7_5) ∧ Aside0 (Kd.R k46 46 w' w.heap.size (fun k_ => (w.heap.size ≤ k_)) v367 t366) ∧ Aside0 (Kd.C k46 w' (some ad365) (rd_L3 x5_2 x8_3).length (rd_L3 x5_2 x8_3)) ∧ Aside0 (Kd.C k46 w' (some ad365) (rd_L3 x5_2 x8_3).length (rd_L3 x5_2 x8_3)) ∧ Aside0 (Below w.heap.size w w'))
               case atStart => exact ⟨(x7_4), (0), rs_, H', ⟨Nat.le_refl _⟩, ⟨va_ HO_5.out⟩, ⟨va_ HO_7.out⟩, ⟨by (with_reducible repeat (first | apply Kd.R_alloc | apply Kd.R_drewN | apply Kd.R_drew)); exact Kd.R_mono HO368.out (fun _ hk => hk.1)⟩, ⟨by repeat (first | (with_reducible exact HR363_0.out) | (with_reducible refine Kd.C_alloc ?_ _) | (with_reducible refine Kd.C_drewN ?_ _) | (with_reducible refine Kd.C_drew ?_) | exact HR363_0.out)⟩, ⟨by repeat (first | (with_reducible exact HR364_0.out) | (with_reducible refine Kd.C_alloc ?_ _) | (with_reducible refine Kd.C_drewN ?_ _) | (with_reducible refine Kd.C_drew ?_) | exact HR364_0.out)⟩, ⟨bl0_⟩⟩
               case round =>
                clear H'
                try clear c1
                try clear c2
                try clear p2
                try clear c3
                try clear p3
                try clear q3
                try clear hx3
                try clear c4
                try clear c7
                try clear c9
                try clear c9b0
                try clear c9b1
                try clear c18
                try clear c18b0
                try clear c21
                try clear c21b0
                try clear c23
                try clear c23b0
                try clear c24
                try clear c24b0
                try clear c25
                try clear c25b0
                try clear c26
                try clear c26b0
                try clear hx363_0
                try clear hx364_0
                try clear hx365_0
                try clear hx365_1
                try clear p2
                try clear p363
                try clear p364
                try clear p365
                try clear q363
                try clear q364
                try clear q365
                obtain ⟨x7_5, x11_5, rfl, HA, HK5, HO_5, HO_7, HO_10, HR363_0, HR364_0, HB⟩ := hrel
                cases gk with
                | zero => exact absurd HA.out (by simp [spec_l07All.l3])
                | succ k5 =>
                 have H := HA.out
                 clear HA
                 simp only [spec_l07All.l3] at H
                 by_cases c29 : x11_5 < (t366.length : Int)
                 ·rw [if_pos c29] at H
                  have c29b0 : decide (x11_5 < (t366.length : Int)) = true := decide_eq_true c29
                  clear c29
                  by_cases c30 : 0 ≤ x8_3
                  ·rw [if_pos c30] at H
                   have c30b0 : decide (0 ≤ x8_3) = true := decide_eq_true c30
                   clear c30
                   by_cases c31 : x8_3 < (x5_2.length : Int)
                   ·rw [if_pos c31] at H
                    have c31b0 : decide (x8_3 < (x5_2.length : Int)) = true := decide_eq_true c31
                    clear c31
                    by_cases c32 : 0 ≤ x11_5
                    ·rw [if_pos c32] at H
                     have c32b0 : decide (0 ≤ x11_5) = true := decide_eq_true c32
                     clear c32
                     obtain ⟨t371, A33, H⟩ := bs_ H
                     by_cases c34 : t371 < 0
                     ·rw [if_pos c34] at H
                      have c34b0 : decide (t371 < 0) = true := decide_eq_true c34
                      clear c34
                      obtain ⟨t374, A35, H⟩ := bs_ H
                      obtain ⟨t377, A36, H⟩ := bs_ H
                      obtain ⟨t380, A37, H⟩ := bs_ H
                      have H' := Aside0.mk H
                      clear H
                      obtain ⟨Ao38, co38, eo38⟩ := Kd.R_slice HO_10.out
                      subst eo38
                      try go_wp2
                      replace HO_5 := a0_ (Kd.V_drew HO_5.out)
                      replace HO_7 := a0_ (Kd.V_drew HO_7.out)
                      replace HO_10 := a0_ (Kd.R_drew HO_10.out)
                      replace HR363_0 := a0_ (Kd.C_drew HR363_0.out)
                      replace HR364_0 := a0_ (Kd.C_drew HR364_0.out)
                      replace HB := a0_ (below_drew1 HB.out)
                      have p369 : 0 ≤ (x8_3 : Int) := od_
                      have q369 : x8_3 < (x5_2.length : Int) := od_
                      obtain ⟨ad369, A369_0, c369_0, e369, hx369_0, hl369_0, hi369_0⟩ := at_L3 (Kd.V_reads' HO_5.out).2.2 x8_3 p369 q369
                      obtain rfl : ad363 = ad369 := (by injection e369)
                      obtain ⟨ce369, hce369, hMe369, hcc369⟩ := Kd.V_get HO_5.out [] x8_3 p369 (by first | exact q369 | exact od_ | (have e_ := (Kd.V_reads' HO_5.out).1; omega))
                      obtain ⟨ua369_0, uc369_0, rfl, ul369_0, ge369_0⟩ := Kd.FK_slice_open hMe369
                      have hv369_0 := hcc369 0 _ rfl
                      rw [Nat.add_zero, show ((Kd.slice 46 k46)).sz = 1 from rfl, Nat.mul_one] at hv369_0
                      replace hv369_0 := Option.some.inj (hv369_0.symm.trans hx369_0)
                      injection hv369_0 with hva_ hvn_ hvc_
                      rw [hva_] at ge369_0
                      rw [hvc_] at ul369_0
                      have HL369_0 := a0_ (show Kd.V k46 46 _ w.heap.size _ _ (rd_L3 x5_2 x8_3) from Kd.V_mk ul369_0 ge369_0)
                      clear hva_ hvn_ hvc_ ge369_0 ul369_0
                      clear hcc369 hce369
                      have HR369_0 := Aside0.mk hi369_0
                      have HC369_0 := Aside0.mk hl369_0
                      clear hi369_0 hl369_0
                      replace p369 := eq_true p369
                      replace q369 := eq_true q369
                      have p370 : 0 ≤ (x11_5 : Int) := od_
                      have q370 : x11_5 < (t366.length : Int) := od_
                      obtain ⟨ad370, e370, hx370_0, hx370_1⟩ := at_T46 (Kd.R_reads' HO_10.out).2.2 x11_5 p370 q370
                      cases e370
                      replace p370 := eq_true p370
                      replace q370 := eq_true q370
                      refine start_ (n := 10) (S := fun w' => w'.cell? (ad363.add (x8_3).toNat) = some (.slice A369_0 (rd_L3 x5_2 x8_3).length c369_0) ∧ w'.cell? (ad370.add ((x11_5).toNat * 2)) = some (.int .i64 ((rd_T46 t366 x11_5).f0)) ∧ w'.cell? ⟨(ad370.add ((x11_5).toNat * 2)).block, (ad370.add ((x11_5).toNat * 2)).off + 1, none⟩ = some (.int .i64 ((rd_T46 t366 x11_5).f1))) (ds := []) (mk_ 0 10) kr_ rfl rfl ⟨hx369_0, hx370_0, hx370_1⟩ (fun hHeld => ?_); refine with_tabW spec_l07All.tab18 spec_l07All.bits18 (fun HT_ HW_ => ?_)
                      generalize wr.drew = w39 at HO_5 HO_7 HO_10 HR363_0 HR364_0 HB HL369_0 HR369_0 hx369_0 hx370_0 hx370_1 hHeld ⊢
                      refine pu_ 0 (some 58) (mk_ 1 9) HT_ ?_
                      refine pu_ 1 (some 59) (mk_ 2 8) HT_ ?_
                      refine pu_ 2 (some 60) (mk_ 3 7) HT_ ?_
                      refine pu_ 4 (some 62) #[true, true, true, false, true, false, false, false, false, false] HT_ ?_
                      refine pu_ 5 (some 63) #[true, true, true, false, true, true, false, false, false, false] HT_ ?_
                      refine pu_ 6 (some 64) #[true, true, true, false, true, true, true, false, false, false] HT_ ?_
                      refine tk_ 3 (some 61) (mk_ 7 3) HT_ HW_ hHeld (hy := .inl ⟨by rfl, by rintro w' ⟨s0, s1, s2⟩; go_simp; with_reducible rfl⟩) ?_
                      refine tk_ 7 (some 65) (mk_ 8 2) HT_ HW_ hHeld (hy := .inl ⟨by rfl, by rintro w' ⟨s0, s1, s2⟩; go_simp; with_reducible rfl⟩) ?_
                      refine one_ (i := 8) (N := some 66) (mk_ 9 1) rfl rfl (one_of HT_.out kr_) (by decide) (fun K hK => ?_)
                      refine goes_ Tryz.func83 kr_ rfl #[.slice A369_0 (rd_L3 x5_2 x8_3).length c369_0, .agg #[.int .i64 ((rd_T46 t366 x11_5).f0), .int .i64 ((rd_T46 t366 x11_5).f1)]] (by rfl) rfl rfl ta_ ?_
                      with_reducible refine (spec_l02Index.calls k5 _ _ (rd_L3 x5_2 x8_3) ((rd_T46 t366 x11_5).f0) ((rd_T46 t366 x11_5).f1) t371 _ ?side1 ?side2 A33.out).mono ?_
                      (case side1 => repeat (first | exact (by repeat (first | (with_reducible exact HR369_0.out) | (with_reducible refine Kd.C_alloc ?_ _) | (with_reducible refine Kd.C_drewN ?_ _) | (with_reducible refine Kd.C_drew ?_) | exact HR369_0.out)) | (with_reducible refine Kd.C_alloc ?_ _) | (with_reducible refine Kd.C_drewN ?_ _) | (with_reducible refine Kd.C_drew ?_)))
                      (case side2 => exact HC369_0.out)
                      rintro e w40 ⟨rfl, hb⟩
                      have HS0_ := (hb.cell (World.block_lt_of_cell? _ _ (hHeld.1))).trans (hHeld.1)
                      have HS1_ := (hb.cell (World.block_lt_of_cell? _ _ (hHeld.2.1))).trans (hHeld.2.1)
                      have HS2_ := (hb.cell (World.block_lt_of_cell? _ _ (hHeld.2.2))).trans (hHeld.2.2)
                      refine ⟨_, rfl, ?_⟩
                      replace HO_5 := a0_ (Kd.V_below (va_ HO_5.out) hb)
                      replace HO_7 := a0_ (Kd.V_below (va_ HO_7.out) hb)
                      replace HO_10 := a0_ (Kd.R_below (ra_ HO_10.out) hb)
                      replace HL369_0 := a0_ (Kd.V_below (va_ HL369_0.out) hb)
                      replace HR363_0 := a0_ (Kd.C_below (by repeat (first | (with_reducible exact HR363_0.out) | (with_reducible refine Kd.C_alloc ?_ _) | (with_reducible refine Kd.C_drewN ?_ _) | (with_reducible refine Kd.C_drew ?_) | exact HR363_0.out)) hb)
                      replace HR364_0 := a0_ (Kd.C_below (by repeat (first | (with_reducible exact HR364_0.out) | (with_reducible refine Kd.C_alloc ?_ _) | (with_reducible refine Kd.C_drewN ?_ _) | (with_reducible refine Kd.C_drew ?_) | exact HR364_0.out)) hb)
                      replace HR369_0 := a0_ (Kd.C_below (by repeat (first | (with_reducible exact HR369_0.out) | (with_reducible refine Kd.C_alloc ?_ _) | (with_reducible refine Kd.C_drewN ?_ _) | (with_reducible refine Kd.C_drew ?_) | exact HR369_0.out)) hb)
                      replace HB := a0_ (below_step (bl0_) hb)
                      (try clear hb)
                      (try clear hb2)
                      (try clear hk)
                      (try clear hi)
                      refine hK.out _ _ ⟨HS0_, HS1_, HS2_⟩ (fun hHeld => ?_)
                      clear hK K
                      refine nm_ ?_
                      refine pu_ 9 (some 67) (mk_ 10 0) HT_ ?_
                      refine done_ (done_of HT_.out kr_) ?_
                      try go_wp2
                      replace HO_5 := a0_ (Kd.V_drew HO_5.out)
                      replace HO_7 := a0_ (Kd.V_drew HO_7.out)
                      replace HO_10 := a0_ (Kd.R_drew HO_10.out)
                      replace HL369_0 := a0_ (Kd.V_drew HL369_0.out)
                      replace HR363_0 := a0_ (Kd.C_drew HR363_0.out)
                      replace HR364_0 := a0_ (Kd.C_drew HR364_0.out)
                      replace HR369_0 := a0_ (Kd.C_drew HR369_0.out)
                      replace HB := a0_ (below_drew1 HB.out)
                      have p372 : 0 ≤ (x8_3 : Int) := od_
                      have q372 : x8_3 < (x5_2.length : Int) := od_
                      obtain ⟨ad372, A372_0, c372_0, e372, hx372_0, hl372_0, hi372_0⟩ := at_L3 (Kd.V_reads' HO_5.out).2.2 x8_3 p372 q372
                      obtain rfl : ad363 = ad372 := (by injection e372)
                      obtain ⟨ce372, hce372, hMe372, hcc372⟩ := Kd.V_get HO_5.out [] x8_3 p372 (by first | exact q372 | exact od_ | (have e_ := (Kd.V_reads' HO_5.out).1; omega))
                      obtain ⟨ua372_0, uc372_0, rfl, ul372_0, ge372_0⟩ := Kd.FK_slice_open hMe372
                      have hv372_0 := hcc372 0 _ rfl
                      rw [Nat.add_zero, show ((Kd.slice 46 k46)).sz = 1 from rfl, Nat.mul_one] at hv372_0
                      replace hv372_0 := Option.some.inj (hv372_0.symm.trans hx372_0)
                      injection hv372_0 with hva_ hvn_ hvc_
                      rw [hva_] at ge372_0
                      rw [hvc_] at ul372_0
                      have HL372_0 := a0_ (show Kd.V k46 46 _ w.heap.size _ _ (rd_L3 x5_2 x8_3) from Kd.V_mk ul372_0 ge372_0)
                      clear hva_ hvn_ hvc_ ge372_0 ul372_0
                      clear hcc372 hce372
                      have HR372_0 := Aside0.mk hi372_0
                      have HC372_0 := Aside0.mk hl372_0
                      clear hi372_0 hl372_0
                      replace p372 := eq_true p372
                      replace q372 := eq_true q372
                      have p373 : 0 ≤ (x11_5 : Int) := od_
                      have q373 : x11_5 < (t366.length : Int) := od_
                      obtain ⟨ad373, e373, hx373_0, hx373_1⟩ := at_T46 (Kd.R_reads' HO_10.out).2.2 x11_5 p373 q373
                      obtain rfl : ad370 = ad373 := (by injection e373)
                      replace p373 := eq_true p373
                      replace q373 := eq_true q373
                      refine start_ (n := 14) (S := fun w' => w'.cell? (ad363.add (x8_3).toNat) = some (.slice A372_0 (rd_L3 x5_2 x8_3).length c372_0) ∧ w'.cell? (ad370.add ((x11_5).toNat * 2)) = some (.int .i64 ((rd_T46 t366 x11_5).f0)) ∧ w'.cell? ⟨(ad370.add ((x11_5).toNat * 2)).block, (ad370.add ((x11_5).toNat * 2)).off + 1, none⟩ = some (.int .i64 ((rd_T46 t366 x11_5).f1))) (ds := []) (mk_ 0 14) kr_ rfl rfl ⟨hx372_0, hx373_0, hx373_1⟩ (fun hHeld => ?_); refine with_tabW spec_l07All.tab19 spec_l07All.bits19 (fun HT_ HW_ => ?_)
                      generalize w40.drew = w41 at HO_5 HO_7 HO_10 HL369_0 HR363_0 HR364_0 HR369_0 HB HL372_0 HR372_0 hx372_0 hx373_0 hx373_1 hHeld ⊢
                      refine pu_ 0 (some 68) (mk_ 1 13) HT_ ?_
                      refine pu_ 1 (some 69) (mk_ 2 12) HT_ ?_
                      refine pu_ 2 (some 70) (mk_ 3 11) HT_ ?_
                      refine pu_ 3 (some 71) (mk_ 4 10) HT_ ?_
                      refine pu_ 4 (some 72) (mk_ 5 9) HT_ ?_
                      refine pu_ 6 (some 74) #[true, true, true, true, true, false, true, false, false, false, false, false, false, false] HT_ ?_
                      refine pu_ 7 (some 75) #[true, true, true, true, true, false, true, true, false, false, false, false, false, false] HT_ ?_
                      refine pu_ 8 (some 76) #[true, true, true, true, true, false, true, true, true, false, false, false, false, false] HT_ ?_
                      refine tk_ 5 (some 73) (mk_ 9 5) HT_ HW_ hHeld (hy := .inl ⟨by rfl, by rintro w' ⟨s0, s1, s2⟩; go_simp; with_reducible rfl⟩) ?_
                      refine tk_ 9 (some 77) (mk_ 10 4) HT_ HW_ hHeld (hy := .inl ⟨by rfl, by rintro w' ⟨s0, s1, s2⟩; go_simp; with_reducible rfl⟩) ?_
                      refine one_ (i := 10) (N := some 78) (mk_ 11 3) rfl rfl (one_of HT_.out kr_) (by decide) (fun K hK => ?_)
                      refine goes_ Tryz.func86 kr_ rfl #[.slice A372_0 (rd_L3 x5_2 x8_3).length c372_0, .agg #[.int .i64 ((rd_T46 t366 x11_5).f0), .int .i64 ((rd_T46 t366 x11_5).f1)]] (by rfl) rfl rfl ta_ ?_
                      with_reducible refine (spec_l02Insert.calls k5 _ _ (rd_L3 x5_2 x8_3) ((rd_T46 t366 x11_5).f0) ((rd_T46 t366 x11_5).f1) t374 _ ?side1 ?side2 A35.out).mono ?_
                      (case side1 => repeat (first | exact (by repeat (first | (with_reducible exact HR372_0.out) | (with_reducible refine Kd.C_alloc ?_ _) | (with_reducible refine Kd.C_drewN ?_ _) | (with_reducible refine Kd.C_drew ?_) | exact HR372_0.out)) | (with_reducible refine Kd.C_alloc ?_ _) | (with_reducible refine Kd.C_drewN ?_ _) | (with_reducible refine Kd.C_drew ?_)))
                      (case side2 => exact HC372_0.out)
                      rintro e w42 ⟨v375, rfl, ho0, hb⟩
                      have HS0_ := (hb.cell (World.block_lt_of_cell? _ _ (hHeld.1))).trans (hHeld.1)
                      have HS1_ := (hb.cell (World.block_lt_of_cell? _ _ (hHeld.2.1))).trans (hHeld.2.1)
                      have HS2_ := (hb.cell (World.block_lt_of_cell? _ _ (hHeld.2.2))).trans (hHeld.2.2)
                      refine ⟨_, rfl, ?_⟩
                      replace HO_5 := a0_ (Kd.V_elder' (va_ HO_5.out) (Kd.R_base ho0) hb)
                      replace HO_7 := a0_ (Kd.V_elder' (va_ HO_7.out) (Kd.R_base ho0) hb)
                      replace HL369_0 := a0_ (Kd.V_elder' (va_ HL369_0.out) (Kd.R_base ho0) hb)
                      replace HL372_0 := a0_ (Kd.V_elder' (va_ HL372_0.out) (Kd.R_base ho0) hb)
                      have HO376 := a0_ (Kd.R_lower (Kd.R_new' (Kd.R_newM (M := fun k_ => (w.heap.size ≤ k_)) ho0 (below_size (bl0_)) (fun k_ h_ => h_)) (Kd.R_lt (ra_ HO_10.out))) (below_size (bl0_)))
                      replace HO_10 := a0_ (Kd.R_elder' (ra_ HO_10.out) (Kd.R_base ho0) hb)
                      replace HR363_0 := a0_ (Kd.C_below (by repeat (first | (with_reducible exact HR363_0.out) | (with_reducible refine Kd.C_alloc ?_ _) | (with_reducible refine Kd.C_drewN ?_ _) | (with_reducible refine Kd.C_drew ?_) | exact HR363_0.out)) hb)
                      replace HR364_0 := a0_ (Kd.C_below (by repeat (first | (with_reducible exact HR364_0.out) | (with_reducible refine Kd.C_alloc ?_ _) | (with_reducible refine Kd.C_drewN ?_ _) | (with_reducible refine Kd.C_drew ?_) | exact HR364_0.out)) hb)
                      replace HR369_0 := a0_ (Kd.C_below (by repeat (first | (with_reducible exact HR369_0.out) | (with_reducible refine Kd.C_alloc ?_ _) | (with_reducible refine Kd.C_drewN ?_ _) | (with_reducible refine Kd.C_drew ?_) | exact HR369_0.out)) hb)
                      replace HR372_0 := a0_ (Kd.C_below (by repeat (first | (with_reducible exact HR372_0.out) | (with_reducible refine Kd.C_alloc ?_ _) | (with_reducible refine Kd.C_drewN ?_ _) | (with_reducible refine Kd.C_drew ?_) | exact HR372_0.out)) hb)
                      replace HB := a0_ (below_step (bl0_) hb)
                      (try clear hb)
                      (try clear hb2)
                      (try clear hk)
                      (try clear hi)
                      (try clear ho0)
                      obtain ⟨Ao43, co43, eo43⟩ := Kd.R_slice HO376.out
                      (first | subst eo43 | (injection eo43 with f1_ f2_ f3_; have f4_ := f1_.symm; have f5_ := f3_.symm; clear f1_ f2_ f3_; subst f4_; subst f5_))
                      refine hK.out _ _ ⟨HS0_, HS1_, HS2_⟩ (fun hHeld => ?_)
                      clear hK K
                      refine nm_ ?_
                      refine one_ (i := 11) (N := some 79) (mk_ 12 2) rfl rfl (one_of HT_.out kr_) (by decide) (fun K hK => ?_)
                      refine goes_ Tryz.func85 kr_ rfl #[.int .i64 a0, .slice Ao43 t374.length co43] (by rfl) rfl rfl ta_ ?_
                      with_reducible refine (spec_l07Normal.calls k5 a0 _ _ t374 t377 _ ?side1 ?side2 A36.out).mono ?_
                      (case side1 => exact ca_ (Kd.R_reads' HO376.out).2.2)
                      (case side2 => exact (Kd.R_reads' HO376.out).2.1)
                      rintro e w44 ⟨v378, rfl, ho0, hb⟩
                      have HS0_ := (hb.cell (World.block_lt_of_cell? _ _ (hHeld.1))).trans (hHeld.1)
                      have HS1_ := (hb.cell (World.block_lt_of_cell? _ _ (hHeld.2.1))).trans (hHeld.2.1)
                      have HS2_ := (hb.cell (World.block_lt_of_cell? _ _ (hHeld.2.2))).trans (hHeld.2.2)
                      refine ⟨_, rfl, ?_⟩
                      replace HO_5 := a0_ (Kd.V_elder' (va_ HO_5.out) (Kd.R_base ho0) hb)
                      replace HO_7 := a0_ (Kd.V_elder' (va_ HO_7.out) (Kd.R_base ho0) hb)
                      replace HL369_0 := a0_ (Kd.V_elder' (va_ HL369_0.out) (Kd.R_base ho0) hb)
                      replace HL372_0 := a0_ (Kd.V_elder' (va_ HL372_0.out) (Kd.R_base ho0) hb)
                      have HO379 := a0_ (Kd.R_lower (Kd.R_new' (Kd.R_new' (Kd.R_newM (M := fun k_ => (w.heap.size ≤ k_)) ho0 (below_size (bl0_)) (fun k_ h_ => h_)) (Kd.R_lt (ra_ HO_10.out))) (Kd.R_lt (ra_ HO376.out))) (below_size (bl0_)))
                      replace HO_10 := a0_ (Kd.R_elder' (ra_ HO_10.out) (Kd.R_base ho0) hb)
                      replace HO376 := a0_ (Kd.R_elder' (ra_ HO376.out) (Kd.R_base ho0) hb)
                      replace HR363_0 := a0_ (Kd.C_below (by repeat (first | (with_reducible exact HR363_0.out) | (with_reducible refine Kd.C_alloc ?_ _) | (with_reducible refine Kd.C_drewN ?_ _) | (with_reducible refine Kd.C_drew ?_) | exact HR363_0.out)) hb)
                      replace HR364_0 := a0_ (Kd.C_below (by repeat (first | (with_reducible exact HR364_0.out) | (with_reducible refine Kd.C_alloc ?_ _) | (with_reducible refine Kd.C_drewN ?_ _) | (with_reducible refine Kd.C_drew ?_) | exact HR364_0.out)) hb)
                      replace HR369_0 := a0_ (Kd.C_below (by repeat (first | (with_reducible exact HR369_0.out) | (with_reducible refine Kd.C_alloc ?_ _) | (with_reducible refine Kd.C_drewN ?_ _) | (with_reducible refine Kd.C_drew ?_) | exact HR369_0.out)) hb)
                      replace HR372_0 := a0_ (Kd.C_below (by repeat (first | (with_reducible exact HR372_0.out) | (with_reducible refine Kd.C_alloc ?_ _) | (with_reducible refine Kd.C_drewN ?_ _) | (with_reducible refine Kd.C_drew ?_) | exact HR372_0.out)) hb)
                      replace HB := a0_ (below_step (bl0_) hb)
                      (try clear hb)
                      (try clear hb2)
                      (try clear hk)
                      (try clear hi)
                      (try clear ho0)
                      obtain ⟨Ao45, co45, eo45⟩ := Kd.V_slice HO_7.out
                      (first | subst eo45 | (injection eo45 with f1_ f2_ f3_; have f4_ := f1_.symm; have f5_ := f3_.symm; clear f1_ f2_ f3_; subst f4_; subst f5_))
                      obtain ⟨Ao46, co46, eo46⟩ := Kd.R_slice HO379.out
                      (first | subst eo46 | (injection eo46 with f1_ f2_ f3_; have f4_ := f1_.symm; have f5_ := f3_.symm; clear f1_ f2_ f3_; subst f4_; subst f5_))
                      refine hK.out _ _ ⟨HS0_, HS1_, HS2_⟩ (fun hHeld => ?_)
                      clear hK K
                      refine nm_ ?_
                      refine one_ (i := 12) (N := some 80) (mk_ 13 1) rfl rfl (one_of HT_.out kr_) (by decide) (fun K hK => ?_)
                      refine goes_ Tryz.func84 kr_ rfl #[.slice Ao45 x7_5.length co45, .slice Ao46 t377.length co46] (by rfl) rfl rfl ta_ ?_
                      with_reducible refine (spec_l03Add.calls k5 (fun k_ => ((((w.heap.size ≤ k_) ∧ some k_ ≠ (.slice (some ad370) t366.length co38 : Value).ownBlock) ∧ some k_ ≠ (.slice Ao43 t374.length co43 : Value).ownBlock) ∧ some k_ ≠ (.slice Ao46 t377.length co46 : Value).ownBlock)) _ _ x7_5 (fun k_ => some k_ = (.slice Ao46 t377.length co46 : Value).ownBlock) _ _ t377 t380 _ ?side1 ?side2 A37.out).mono ?_
                      (case side1 => exact HO_7.out)
                      (case side2 => exact Kd.R_V (Kd.R_tight rfl (HO379.out)))
                      rintro e w47 ⟨v381, rfl, ho0, hb⟩
                      have HS0_ := (hb.cell (World.block_lt_of_cell? _ _ (hHeld.1))).trans (hHeld.1)
                      have HS1_ := (hb.cell (World.block_lt_of_cell? _ _ (hHeld.2.1))).trans (hHeld.2.1)
                      have HS2_ := (hb.cell (World.block_lt_of_cell? _ _ (hHeld.2.2))).trans (hHeld.2.2)
                      refine ⟨_, rfl, ?_⟩
                      replace HO_5 := a0_ (Kd.V_below (va_ HO_5.out) hb)
                      replace HO_7 := a0_ (Kd.V_below (va_ HO_7.out) hb)
                      replace HL369_0 := a0_ (Kd.V_below (va_ HL369_0.out) hb)
                      replace HL372_0 := a0_ (Kd.V_below (va_ HL372_0.out) hb)
                      have HO382 := a0_ (Kd.V_lower (Kd.V_mono (ok' := fun k_ => (w.heap.size ≤ k_) ∧ some k_ ≠ (.slice (some ad370) t366.length co38 : Value).ownBlock ∧ some k_ ≠ (.slice Ao43 t374.length co43 : Value).ownBlock) ho0 (fun k_ hk_ => ⟨Or.elim hk_ (fun hs_ => Or.elim hs_ (fun hs_ => hs_.1.1.1) (fun hs_ => ((HO379.out).1 k_ hs_.symm).1.1.1)) (fun hn_ => (Nat.le_trans (below_size (bl0_)) hn_)), Or.elim hk_ (fun hs_ => Or.elim hs_ (fun hs_ => hs_.1.1.2) (fun hs_ => ((HO379.out).1 k_ hs_.symm).1.2)) (fun hn_ => (Kd.fresh' (Kd.R_lt (ra_ HO_10.out)) k_ hn_)), Or.elim hk_ (fun hs_ => Or.elim hs_ (fun hs_ => hs_.1.2) (fun hs_ => ((HO379.out).1 k_ hs_.symm).2)) (fun hn_ => (Kd.fresh' (Kd.R_lt (ra_ HO376.out)) k_ hn_))⟩)) (below_size (bl0_)))
                      replace HO_10 := a0_ (Kd.R_below (ra_ HO_10.out) hb)
                      replace HO376 := a0_ (Kd.R_below (ra_ HO376.out) hb)
                      replace HO379 := a0_ (Kd.R_below (ra_ HO379.out) hb)
                      replace HR363_0 := a0_ (Kd.C_below (by repeat (first | (with_reducible exact HR363_0.out) | (with_reducible refine Kd.C_alloc ?_ _) | (with_reducible refine Kd.C_drewN ?_ _) | (with_reducible refine Kd.C_drew ?_) | exact HR363_0.out)) hb)
                      replace HR364_0 := a0_ (Kd.C_below (by repeat (first | (with_reducible exact HR364_0.out) | (with_reducible refine Kd.C_alloc ?_ _) | (with_reducible refine Kd.C_drewN ?_ _) | (with_reducible refine Kd.C_drew ?_) | exact HR364_0.out)) hb)
                      replace HR369_0 := a0_ (Kd.C_below (by repeat (first | (with_reducible exact HR369_0.out) | (with_reducible refine Kd.C_alloc ?_ _) | (with_reducible refine Kd.C_drewN ?_ _) | (with_reducible refine Kd.C_drew ?_) | exact HR369_0.out)) hb)
                      replace HR372_0 := a0_ (Kd.C_below (by repeat (first | (with_reducible exact HR372_0.out) | (with_reducible refine Kd.C_alloc ?_ _) | (with_reducible refine Kd.C_drewN ?_ _) | (with_reducible refine Kd.C_drew ?_) | exact HR372_0.out)) hb)
                      replace HB := a0_ (below_step (bl0_) hb)
                      (try clear hb)
                      (try clear hb2)
                      (try clear hk)
                      (try clear hi)
                      (try clear ho0)
                      refine hK.out _ _ ⟨HS0_, HS1_, HS2_⟩ (fun hHeld => ?_)
                      clear hK K
                      refine nm_ ?_
                      refine pu_ 13 (some 7) (mk_ 14 0) HT_ ?_
                      refine done_ (done_of HT_.out kr_) ?_
                      try go_wp2
                      go_roundg k5
                      case measure => have := HJ2.out; have := HK2.out; have := HK3.out; have := HK4.out; have := HK5.out; omega
                      case rel => exact ⟨(t380), (wrap64 (x11_5 + 1)), rs_, H', ⟨by have := HJ2.out; have := HK2.out; have := HK3.out; have := HK4.out; have := HK5.out; omega⟩, ⟨by (with_reducible repeat (first | apply Kd.V_alloc | apply Kd.V_drewN | apply Kd.V_drew)); exact Kd.V_mono HO_5.out (fun _ hk => ⟨hk.1.1.1, hk.1.1.2⟩)⟩, ⟨by (with_reducible repeat (first | apply Kd.V_alloc | apply Kd.V_drewN | apply Kd.V_drew)); exact Kd.V_mono HO382.out (fun _ hk => ⟨hk.1, hk.2.1⟩)⟩, ⟨by (with_reducible repeat (first | apply Kd.R_alloc | apply Kd.R_drewN | apply Kd.R_drew)); exact Kd.R_mono HO_10.out (fun _ hk => hk.1.1)⟩, ⟨by repeat (first | (with_reducible exact HR363_0.out) | (with_reducible refine Kd.C_alloc ?_ _) | (with_reducible refine Kd.C_drewN ?_ _) | (with_reducible refine Kd.C_drew ?_) | exact HR363_0.out)⟩, ⟨by repeat (first | (with_reducible exact HR364_0.out) | (with_reducible refine Kd.C_alloc ?_ _) | (with_reducible refine Kd.C_drewN ?_ _) | (with_reducible refine Kd.C_drew ?_) | exact HR364_0.out)⟩, ⟨bl0_⟩⟩
                     ·rw [if_neg c34] at H
                      have c34b0 : decide (t371 < 0) = false := decide_eq_false c34
                      clear c34
                      have H' := Aside0.mk H
                      clear H
                      obtain ⟨Ao48, co48, eo48⟩ := Kd.R_slice HO_10.out
                      subst eo48
                      try go_wp2
                      replace HO_5 := a0_ (Kd.V_drew HO_5.out)
                      replace HO_7 := a0_ (Kd.V_drew HO_7.out)
                      replace HO_10 := a0_ (Kd.R_drew HO_10.out)
                      replace HR363_0 := a0_ (Kd.C_drew HR363_0.out)
                      replace HR364_0 := a0_ (Kd.C_drew HR364_0.out)
                      replace HB := a0_ (below_drew1 HB.out)
                      have p369 : 0 ≤ (x8_3 : Int) := od_
                      have q369 : x8_3 < (x5_2.length : Int) := od_
                      obtain ⟨ad369, A369_0, c369_0, e369, hx369_0, hl369_0, hi369_0⟩ := at_L3 (Kd.V_reads' HO_5.out).2.2 x8_3 p369 q369
                      obtain rfl : ad363 = ad369 := (by injection e369)
                      obtain ⟨ce369, hce369, hMe369, hcc369⟩ := Kd.V_get HO_5.out [] x8_3 p369 (by first | exact q369 | exact od_ | (have e_ := (Kd.V_reads' HO_5.out).1; omega))
                      obtain ⟨ua369_0, uc369_0, rfl, ul369_0, ge369_0⟩ := Kd.FK_slice_open hMe369
                      have hv369_0 := hcc369 0 _ rfl
                      rw [Nat.add_zero, show ((Kd.slice 46 k46)).sz = 1 from rfl, Nat.mul_one] at hv369_0
                      replace hv369_0 := Option.some.inj (hv369_0.symm.trans hx369_0)
                      injection hv369_0 with hva_ hvn_ hvc_
                      rw [hva_] at ge369_0
                      rw [hvc_] at ul369_0
                      have HL369_0 := a0_ (show Kd.V k46 46 _ w.heap.size _ _ (rd_L3 x5_2 x8_3) from Kd.V_mk ul369_0 ge369_0)
                      clear hva_ hvn_ hvc_ ge369_0 ul369_0
                      clear hcc369 hce369
                      have HR369_0 := Aside0.mk hi369_0
                      have HC369_0 := Aside0.mk hl369_0
                      clear hi369_0 hl369_0
                      replace p369 := eq_true p369
                      replace q369 := eq_true q369
                      have p370 : 0 ≤ (x11_5 : Int) := od_
                      have q370 : x11_5 < (t366.length : Int) := od_
                      obtain ⟨ad370, e370, hx370_0, hx370_1⟩ := at_T46 (Kd.R_reads' HO_10.out).2.2 x11_5 p370 q370
                      cases e370
                      replace p370 := eq_true p370
                      replace q370 := eq_true q370
                      refine start_ (n := 10) (S := fun w' => w'.cell? (ad363.add (x8_3).toNat) = some (.slice A369_0 (rd_L3 x5_2 x8_3).length c369_0) ∧ w'.cell? (ad370.add ((x11_5).toNat * 2)) = some (.int .i64 ((rd_T46 t366 x11_5).f0)) ∧ w'.cell? ⟨(ad370.add ((x11_5).toNat * 2)).block, (ad370.add ((x11_5).toNat * 2)).off + 1, none⟩ = some (.int .i64 ((rd_T46 t366 x11_5).f1))) (ds := []) (mk_ 0 10) kr_ rfl rfl ⟨hx369_0, hx370_0, hx370_1⟩ (fun hHeld => ?_); refine with_tabW spec_l07All.tab18 spec_l07All.bits18 (fun HT_ HW_ => ?_)
                      generalize wr.drew = w49 at HO_5 HO_7 HO_10 HR363_0 HR364_0 HB HL369_0 HR369_0 hx369_0 hx370_0 hx370_1 hHeld ⊢
                      refine pu_ 0 (some 58) (mk_ 1 9) HT_ ?_
                      refine pu_ 1 (some 59) (mk_ 2 8) HT_ ?_
                      refine pu_ 2 (some 60) (mk_ 3 7) HT_ ?_
                      refine pu_ 4 (some 62) #[true, true, true, false, true, false, false, false, false, false] HT_ ?_
                      refine pu_ 5 (some 63) #[true, true, true, false, true, true, false, false, false, false] HT_ ?_
                      refine pu_ 6 (some 64) #[true, true, true, false, true, true, true, false, false, false] HT_ ?_
                      refine tk_ 3 (some 61) (mk_ 7 3) HT_ HW_ hHeld (hy := .inl ⟨by rfl, by rintro w' ⟨s0, s1, s2⟩; go_simp; with_reducible rfl⟩) ?_
                      refine tk_ 7 (some 65) (mk_ 8 2) HT_ HW_ hHeld (hy := .inl ⟨by rfl, by rintro w' ⟨s0, s1, s2⟩; go_simp; with_reducible rfl⟩) ?_
                      refine one_ (i := 8) (N := some 66) (mk_ 9 1) rfl rfl (one_of HT_.out kr_) (by decide) (fun K hK => ?_)
                      refine goes_ Tryz.func83 kr_ rfl #[.slice A369_0 (rd_L3 x5_2 x8_3).length c369_0, .agg #[.int .i64 ((rd_T46 t366 x11_5).f0), .int .i64 ((rd_T46 t366 x11_5).f1)]] (by rfl) rfl rfl ta_ ?_
                      with_reducible refine (spec_l02Index.calls k5 _ _ (rd_L3 x5_2 x8_3) ((rd_T46 t366 x11_5).f0) ((rd_T46 t366 x11_5).f1) t371 _ ?side1 ?side2 A33.out).mono ?_
                      (case side1 => repeat (first | exact (by repeat (first | (with_reducible exact HR369_0.out) | (with_reducible refine Kd.C_alloc ?_ _) | (with_reducible refine Kd.C_drewN ?_ _) | (with_reducible refine Kd.C_drew ?_) | exact HR369_0.out)) | (with_reducible refine Kd.C_alloc ?_ _) | (with_reducible refine Kd.C_drewN ?_ _) | (with_reducible refine Kd.C_drew ?_)))
                      (case side2 => exact HC369_0.out)
                      rintro e w50 ⟨rfl, hb⟩
                      have HS0_ := (hb.cell (World.block_lt_of_cell? _ _ (hHeld.1))).trans (hHeld.1)
                      have HS1_ := (hb.cell (World.block_lt_of_cell? _ _ (hHeld.2.1))).trans (hHeld.2.1)
                      have HS2_ := (hb.cell (World.block_lt_of_cell? _ _ (hHeld.2.2))).trans (hHeld.2.2)
                      refine ⟨_, rfl, ?_⟩
                      replace HO_5 := a0_ (Kd.V_below (va_ HO_5.out) hb)
                      replace HO_7 := a0_ (Kd.V_below (va_ HO_7.out) hb)
                      replace HO_10 := a0_ (Kd.R_below (ra_ HO_10.out) hb)
                      replace HL369_0 := a0_ (Kd.V_below (va_ HL369_0.out) hb)
                      replace HR363_0 := a0_ (Kd.C_below (by repeat (first | (with_reducible exact HR363_0.out) | (with_reducible refine Kd.C_alloc ?_ _) | (with_reducible refine Kd.C_drewN ?_ _) | (with_reducible refine Kd.C_drew ?_) | exact HR363_0.out)) hb)
                      replace HR364_0 := a0_ (Kd.C_below (by repeat (first | (with_reducible exact HR364_0.out) | (with_reducible refine Kd.C_alloc ?_ _) | (with_reducible refine Kd.C_drewN ?_ _) | (with_reducible refine Kd.C_drew ?_) | exact HR364_0.out)) hb)
                      replace HR369_0 := a0_ (Kd.C_below (by repeat (first | (with_reducible exact HR369_0.out) | (with_reducible refine Kd.C_alloc ?_ _) | (with_reducible refine Kd.C_drewN ?_ _) | (with_reducible refine Kd.C_drew ?_) | exact HR369_0.out)) hb)
                      replace HB := a0_ (below_step (bl0_) hb)
                      (try clear hb)
                      (try clear hb2)
                      (try clear hk)
                      (try clear hi)
                      refine hK.out _ _ ⟨HS0_, HS1_, HS2_⟩ (fun hHeld => ?_)
                      clear hK K
                      refine nm_ ?_
                      refine pu_ 9 (some 67) (mk_ 10 0) HT_ ?_
                      refine done_ (done_of HT_.out kr_) ?_
                      try go_wp2
                      go_roundg k5
                      case measure => have := HJ2.out; have := HK2.out; have := HK3.out; have := HK4.out; have := HK5.out; omega
                      case rel => exact ⟨(x7_5), (wrap64 (x11_5 + 1)), rs_, H', ⟨by have := HJ2.out; have := HK2.out; have := HK3.out; have := HK4.out; have := HK5.out; omega⟩, ⟨va_ HO_5.out⟩, ⟨va_ HO_7.out⟩, ⟨ra_ HO_10.out⟩, ⟨by repeat (first | (with_reducible exact HR363_0.out) | (with_reducible refine Kd.C_alloc ?_ _) | (with_reducible refine Kd.C_drewN ?_ _) | (with_reducible refine Kd.C_drew ?_) | exact HR363_0.out)⟩, ⟨by repeat (first | (with_reducible exact HR364_0.out) | (with_reducible refine Kd.C_alloc ?_ _) | (with_reducible refine Kd.C_drewN ?_ _) | (with_reducible refine Kd.C_drew ?_) | exact HR364_0.out)⟩, ⟨bl0_⟩⟩
                    ·rw [if_neg c32] at H
                     exact absurd H (by simp)
                   ·rw [if_neg c31] at H
                    exact absurd H (by simp)
                  ·rw [if_neg c30] at H
                   exact absurd H (by simp)
                 ·rw [if_neg c29] at H
                  have c29b0 : decide (x11_5 < (t366.length : Int)) = false := decide_eq_false c29
                  clear c29
                  have H' := Aside0.mk H
                  clear H
                  obtain ⟨Ao51, co51, eo51⟩ := Kd.R_slice HO_10.out
                  subst eo51
                  go_wp2
                  go_roundg k5
                  case measure => have := HJ2.out; have := HK2.out; have := HK3.out; have := HK4.out; have := HK5.out; omega
                  case rel => exact ⟨(x7_5), (wrap64 (x9_4 + 1)), rs_, H', ⟨by have := HJ2.out; have := HK2.out; have := HK3.out; have := HK4.out; have := HK5.out; omega⟩, ⟨by (with_reducible repeat (first | apply Kd.V_alloc | apply Kd.V_drewN | apply Kd.V_drew)); exact Kd.V_mono HO_5.out (fun _ hk => hk.1)⟩, ⟨by (with_reducible repeat (first | apply Kd.V_alloc | apply Kd.V_drewN | apply Kd.V_drew)); exact Kd.V_mono HO_7.out (fun _ hk => hk.1)⟩, ⟨bl0_⟩⟩
              ·rw [if_neg c26] at H
               exact absurd H (by simp)
             ·rw [if_neg c25] at H
              have c25b0 : decide (x9_4 < ((rd_L3 x5_2 x8_3).length : Int)) = false := decide_eq_false c25
              clear c25
              have H' := Aside0.mk H
              clear H
              have p363 : 0 ≤ (x8_3 : Int) := od_
              have q363 : x8_3 < (x5_2.length : Int) := od_
              obtain ⟨ad363, A363_0, c363_0, e363, hx363_0, hl363_0, hi363_0⟩ := at_L3 (Kd.V_reads' HO_5.out).2.2 x8_3 p363 q363
              cases e363
              obtain ⟨ce363, hce363, hMe363, hcc363⟩ := Kd.V_get HO_5.out [] x8_3 p363 (by first | exact q363 | exact od_ | (have e_ := (Kd.V_reads' HO_5.out).1; omega))
              obtain ⟨ua363_0, uc363_0, rfl, ul363_0, ge363_0⟩ := Kd.FK_slice_open hMe363
              have hv363_0 := hcc363 0 _ rfl
              rw [Nat.add_zero, show ((Kd.slice 46 k46)).sz = 1 from rfl, Nat.mul_one] at hv363_0
              replace hv363_0 := Option.some.inj (hv363_0.symm.trans hx363_0)
              injection hv363_0 with hva_ hvn_ hvc_
              rw [hva_] at ge363_0
              rw [hvc_] at ul363_0
              have HL363_0 := a0_ (show Kd.V k46 46 _ w.heap.size _ _ (rd_L3 x5_2 x8_3) from Kd.V_mk ul363_0 ge363_0)
              clear hva_ hvn_ hvc_ ge363_0 ul363_0
              clear hcc363 hce363
              have HR363_0 := Aside0.mk hi363_0
              have HC363_0 := Aside0.mk hl363_0
              clear hi363_0 hl363_0
              replace p363 := eq_true p363
              replace q363 := eq_true q363
              go_wp2
              go_roundg k4
              case measure => have := HJ2.out; have := HK2.out; have := HK3.out; have := HK4.out; omega
              case rel => exact ⟨(x7_4), (wrap64 (x8_3 + 1)), rs_, H', ⟨by have := HJ2.out; have := HK2.out; have := HK3.out; have := HK4.out; omega⟩, ⟨va_ HO_5.out⟩, ⟨va_ HO_7.out⟩, ⟨bl0_⟩⟩
            ·rw [if_neg c24] at H
             exact absurd H (by simp)
           ·rw [if_neg c23] at H
            exact absurd H (by simp)
        ·rw [if_neg c21] at H
         have c21b0 : decide (x8_3 < (x5_2.length : Int)) = false := decide_eq_false c21
         clear c21
         have H' := Aside0.mk H
         clear H
         obtain ⟨Ao52, co52, eo52⟩ := Kd.V_slice HO_5.out
         subst eo52
         go_wp2
         go_roundg k3
         case measure => have := HJ2.out; have := HK2.out; have := HK3.out; omega
         case rel => exact ⟨(x7_3), (wrap64 (x6_2 + 1)), rs_, H', ⟨by have := HJ2.out; have := HK2.out; have := HK3.out; omega⟩, ⟨va_ HO_7.out⟩, ⟨bl0_⟩⟩
     ·rw [if_neg c18] at H
      have c18b0 : decide (x6_2 < a1) = false := decide_eq_false c18
      clear c18
      obtain rfl := Option.some.inj H
      go_wp2
      go_ret
      exact ⟨_, er_, va_ HO_5.out, bl0_⟩

end Go.Proofs.YtmdjkmfocgelnaaGreat.PFnTriangleShapes
