/- Over the kit's printer by a driver of mine (hprint.py), with parts by hand: functions of the program as Lean functions, and that each call comes to exactly these answers. -/
import Derived.Test.YtopceddgiddhlaaDoorPFnRolledx0
import Derived.Test.YtopceddgiddhlaaDoorPFnRolledx2
namespace Go.Proofs.YtopceddgiddhlaaDoor.PFnRolled
open Go.RowKit Go.Proofs.YtopceddgiddhlaaDoorW.PrintWords Go.Proofs.YtopceddgiddhlaaDoorW.PrintLast Go.Proofs.YtopceddgiddhlaaDoorW.PrintMore
attribute [local go_sem] max2_int min2_int max_two min_two max_three min_three max_four min_four   -- for this text's walks alone
set_option linter.unusedVariables false
set_option linter.unusedSimpArgs false

attribute [local go_sem high] eqA78
/-! ### spec_l02Move: function 61 -/
def spec_l02Move.l0 : Nat → List (S78) → Int → Int → List (S78) → Int → Option ((List (S78)))
 | 0, _, _, _, _, _ => none
 | k + 1, x0, x1, x2, x7, x8 => if x8 < (x0.length : Int) then (if 0 ≤ x8 then (if x7.length < 8796093022208 then (spec_l02Move.l0 k x0 x1 x2 (x7 ++ [(⟨wrap64 (((rd_T78 x0 x8).f0) + x1), wrap64 (((rd_T78 x0 x8).f1) + x2)⟩ : S78)]) (wrap64 (x8 + 1))) else (none)) else (none)) else (some x7)
def spec_l02Move.f (k : Nat) (l0 : List (S78)) (a1 : Int) (a2 : Int) : Option ((List (S78))) := spec_l02Move.l0 k l0 a1 a2 (([] : List (S78))) 0
theorem spec_l02Move.mono_l : ∀ k, (∀ y0 y1 y2 y3 y4, LeO (spec_l02Move.l0 k y0 y1 y2 y3 y4) (spec_l02Move.l0 (k + 1) y0 y1 y2 y3 y4))
 | 0 => fun _ _ _ _ _ r h => by simp [spec_l02Move.l0] at h
 | k + 1 => by
  have ih0 := spec_l02Move.mono_l k
  ·intro y0 y1 y2 y3 y4
   unfold spec_l02Move.l0
   with_reducible (repeat' first | exact ih0 _ _ _ _ _ | exact LeO.refl _ | exact LeO.none _ | refine LeO.ite ?_ ?_ | refine LeO.bind ?_ (fun _ => ?_))
theorem spec_l02Move.mono : ∀ a0 a1 a2 k, LeO (spec_l02Move.f k a0 a1 a2) (spec_l02Move.f (k + 1) a0 a1 a2) := by
 intro a0 a1 a2 k
 have ih0 := spec_l02Move.mono_l k
 unfold spec_l02Move.f
 with_reducible (repeat' first | exact ih0 _ _ _ _ _ | exact LeO.refl _ | exact LeO.none _ | refine LeO.ite ?_ ?_ | refine LeO.bind ?_ (fun _ => ?_))
def spec_l02Move.T5 : Bool × List (List Nat × List Nat) := (true, [([], []), ([], []), ([], []), ([1, 2], [1, 2]), ([3], [3]), ([4], [4]), ([], []), ([5, 6], [5, 6]), ([], []), ([], []), ([8, 9], [8, 9]), ([10], [10]), ([11], [11]), ([], []), ([12, 13], [12, 13]), ([7, 14], [7, 14]), ([15], [15]), ([0, 16], [0, 16]), ([17, 17, 0, 1, 2, 3, 4, 5, 6, 7, 8, 9, 10, 11, 12, 13, 14, 15, 16, 17], [0, 17])])
def spec_l02Move.B5 : List Nat := [0, 0, 0, 6, 14, 30, 0, 126, 0, 0, 768, 1792, 3840, 0, 16128, 32766, 65534, 131071, 262143]
theorem spec_l02Move.tab5 : rtab .any (opsOf Tryd.f61 5) = spec_l02Move.T5 := by kernel_rfl
theorem spec_l02Move.bits5 : waitsOk spec_l02Move.T5.2 spec_l02Move.B5 = true := by kernel_rfl
set_option maxHeartbeats 8000000 in
set_option maxRecDepth 100000 in
theorem spec_l02Move.calls (k : Nat) (A0 : Option Addr) (c0 : Nat) (l0 : List (S78)) (a1 : Int) (a2 : Int) (r : List (S78)) (w : World) (hr0 : Kd.C k78 w A0 l0.length l0) (hc0 : l0.length ≤ c0) (h : spec_l02Move.f k l0 a1 a2 = some r) :
  Calls Tryd.prog 61 #[.slice A0 l0.length c0, .int .i64 a1, .int .i64 a2] w fun e w' => ∃ v0_ : Value, e = .returned (v0_) ∧ Kd.R k78 78 w' w.heap.size (fun _ => True) v0_ r ∧ Below w.heap.size w w' := by
 have hu78 := Tryd.underlying78
 have HR0 := Aside0.mk hr0
 have HC0 := Aside0.mk hc0
 clear hr0 hc0
 have HB := a0_ (Below.refl w.heap.size w)
 have H : (spec_l02Move.l0 k l0 a1 a2 (([] : List (S78))) 0) = some r := h
 clear h
 obtain ⟨y107, hy107⟩ : ∃ y_ : List (S78), y_ = (([] : List (S78))) := ⟨_, rfl⟩
 replace H : (spec_l02Move.l0 k l0 a1 a2 y107 0) = some r := hh_ hy107 H
 have Ny107 := Aside0.mk hy107
 clear hy107
 have H' := Aside0.mk H
 clear H
 go_enter Tryd.func61, Tryd.ntmps61
 go_wp2_with (first | ((with_reducible refine gate_dst (N := 9) rfl ?_); refine Kd.R_lit k78 _ 78 ?hg (N := 9) ?hd (xs := ([] : List (S78))) (inner := []) (ok := fun _ => True) (okp := fun _ => True) ?hr ?hp (fun _ hk => hk) trivial (Below.refl _ _) (Nat.le_refl _) (by simp) ?_; (case hd => rfl); (case hg => rfl); (case hr => first | (go_simp; done) | (go_simp; rfl)); (case hp => exact (Reps.none _ _)); intro v108 w4 ho5 hb hg_ hnew_; clear hg_ hnew_; (first | rw [← Ny107.out] at ho5 | (simp only [Int.reduceToNat] at ho5; rw [← Ny107.out] at ho5)); have HO109 := a0_ (Kd.R_lower ho5 (below_size (bl0_))); replace HB := a0_ (below_step (bl0_) hb); clear hb ho5))
 go_loopg [7, 8] k (fun kq v7 v8 w' => ∃ (x7_1 : List (S78)) (x8_1 : Int), v8 = .int .i64 x8_1 ∧ Aside0 (spec_l02Move.l0 kq l0 a1 a2 x7_1 x8_1 = some r) ∧ Aside0 (kq ≤ k) ∧ Aside0 (Kd.R k78 78 w' w.heap.size (fun _ => True) v7 x7_1) ∧ Aside0 (Below w.heap.size w w'))
 case atStart => exact ⟨(y107), (0), rs_, H', ⟨Nat.le_refl _⟩, ⟨ra_ HO109.out⟩, ⟨bl0_⟩⟩
 case round =>
  clear H'
  try clear p2
  obtain ⟨x7_1, x8_1, rfl, HA, HK1, HO_7, HB⟩ := hrel
  cases gk with
  | zero => exact absurd HA.out (by simp [spec_l02Move.l0])
  | succ k1 =>
   have H := HA.out
   clear HA
   simp only [spec_l02Move.l0] at H
   by_cases c6 : x8_1 < (l0.length : Int)
   ·rw [if_pos c6] at H
    have c6b0 : decide (x8_1 < (l0.length : Int)) = true := decide_eq_true c6
    clear c6
    by_cases c7 : 0 ≤ x8_1
    ·rw [if_pos c7] at H
     have c7b0 : decide (0 ≤ x8_1) = true := decide_eq_true c7
     clear c7
     by_cases c8 : x7_1.length < 8796093022208
     ·rw [if_pos c8] at H
      have LMc8 := Aside0.mk c8
      clear c8
      obtain ⟨y112, hy112⟩ : ∃ y_ : List (S78), y_ = (x7_1 ++ [(⟨wrap64 (((rd_T78 l0 x8_1).f0) + a1), wrap64 (((rd_T78 l0 x8_1).f1) + a2)⟩ : S78)]) := ⟨_, rfl⟩
      replace H : (spec_l02Move.l0 k1 l0 a1 a2 y112 (wrap64 (x8_1 + 1))) = some r := hh_ hy112 H
      have Ny112 := Aside0.mk hy112
      clear hy112
      have H' := Aside0.mk H
      clear H
      try go_wp2
      replace HO_7 := a0_ (Kd.R_drew HO_7.out)
      replace HB := a0_ (below_drew1 HB.out)
      have p110 : 0 ≤ (x8_1 : Int) := od_
      have q110 : x8_1 < (l0.length : Int) := od_
      obtain ⟨ad110, e110, hx110_0, hx110_1⟩ := at_T78 HR0.out x8_1 p110 q110
      have hw110_1 := hx110_1
      have hw110_0 := hx110_0
      cases e110
      replace hx110_0 := (HB.out.cell (World.block_lt_of_cell? w _ hx110_0)).trans hx110_0
      replace hx110_1 := (HB.out.cell (World.block_lt_of_cell? w _ hx110_1)).trans hx110_1
      replace p110 := eq_true p110
      replace q110 := eq_true q110
      have p111 : 0 ≤ (x8_1 : Int) := od_
      have q111 : x8_1 < (l0.length : Int) := od_
      obtain ⟨ad111, e111, hx111_0, hx111_1⟩ := at_T78 HR0.out x8_1 p111 q111
      have hw111_1 := hx111_1
      have hw111_0 := hx111_0
      obtain rfl : ad110 = ad111 := (by injection e111)
      replace hx111_0 := (HB.out.cell (World.block_lt_of_cell? w _ hx111_0)).trans hx111_0
      replace hx111_1 := (HB.out.cell (World.block_lt_of_cell? w _ hx111_1)).trans hx111_1
      replace p111 := eq_true p111
      replace q111 := eq_true q111
      refine start_ (n := 19) (S := fun w' => w'.cell? (ad110.add ((x8_1).toNat * 2)) = some (.int .i64 ((rd_T78 l0 x8_1).f0)) ∧ w'.cell? ⟨(ad110.add ((x8_1).toNat * 2)).block, (ad110.add ((x8_1).toNat * 2)).off + 1, none⟩ = some (.int .i64 ((rd_T78 l0 x8_1).f1)) ∧ w'.cell? (ad110.add ((x8_1).toNat * 2)) = some (.int .i64 ((rd_T78 l0 x8_1).f0)) ∧ w'.cell? ⟨(ad110.add ((x8_1).toNat * 2)).block, (ad110.add ((x8_1).toNat * 2)).off + 1, none⟩ = some (.int .i64 ((rd_T78 l0 x8_1).f1))) (ds := []) (mk_ 0 19) kr_ rfl rfl ⟨((HB.out.cell (World.block_lt_of_cell? w _ hw110_0)).trans hw110_0), ((HB.out.cell (World.block_lt_of_cell? w _ hw110_1)).trans hw110_1), ((HB.out.cell (World.block_lt_of_cell? w _ hw111_0)).trans hw111_0), ((HB.out.cell (World.block_lt_of_cell? w _ hw111_1)).trans hw111_1)⟩ (fun hHeld => ?_); refine with_tabW spec_l02Move.tab5 spec_l02Move.bits5 (fun HT_ HW_ => ?_)
      generalize wr.drew = w9 at HO_7 HB hx110_0 hx110_1 hx111_0 hx111_1 hHeld ⊢
      refine pu_ 0 (some 16) (mk_ 1 18) HT_ ?_
      refine pu_ 1 (some 17) (mk_ 2 17) HT_ ?_
      refine pu_ 2 (some 18) (mk_ 3 16) HT_ ?_
      refine pu_ 3 (some 19) (mk_ 4 15) HT_ ?_
      refine pu_ 4 (some 20) (mk_ 5 14) HT_ ?_
      refine pu_ 6 (some 22) #[true, true, true, true, true, false, true, false, false, false, false, false, false, false, false, false, false, false, false] HT_ ?_
      refine pu_ 8 (some 24) #[true, true, true, true, true, false, true, false, true, false, false, false, false, false, false, false, false, false, false] HT_ ?_
      refine pu_ 9 (some 25) #[true, true, true, true, true, false, true, false, true, true, false, false, false, false, false, false, false, false, false] HT_ ?_
      refine pu_ 10 (some 26) #[true, true, true, true, true, false, true, false, true, true, true, false, false, false, false, false, false, false, false] HT_ ?_
      refine pu_ 11 (some 27) #[true, true, true, true, true, false, true, false, true, true, true, true, false, false, false, false, false, false, false] HT_ ?_
      refine pu_ 13 (some 29) #[true, true, true, true, true, false, true, false, true, true, true, true, false, true, false, false, false, false, false] HT_ ?_
      refine tk_ 5 (some 21) #[true, true, true, true, true, true, true, false, true, true, true, true, false, true, false, false, false, false, false] HT_ HW_ hHeld (hy := .inl ⟨by rfl, by rintro w' ⟨s0, s1, s2, s3⟩; go_simp; with_reducible rfl⟩) ?_
      refine pu_ 7 (some 23) #[true, true, true, true, true, true, true, true, true, true, true, true, false, true, false, false, false, false, false] HT_ ?_
      refine tk_ 12 (some 28) (mk_ 14 5) HT_ HW_ hHeld (hy := .inl ⟨by rfl, by rintro w' ⟨s0, s1, s2, s3⟩; go_simp; with_reducible rfl⟩) ?_
      refine pu_ 14 (some 30) (mk_ 15 4) HT_ ?_
      refine pu_ 15 (some 31) (mk_ 16 3) HT_ ?_
      refine one_ (i := 16) (N := some 32) (mk_ 17 2) rfl rfl (one_of HT_.out kr_) (by decide) (fun K hK => ?_)
      refine value_ (w1 := ?_) (v := ?_) (by rfl) rfl ?_ ?_
      rotate_left 2
      ·go_simp
       constructor
       ·rfl
       ·rfl
      refine hK.out _ _ ⟨(World.cell?_alloc_lt _ _ _ (World.block_lt_of_cell? _ _ (((HB.out.cell (World.block_lt_of_cell? w _ hw110_0)).trans hw110_0)))).trans (((HB.out.cell (World.block_lt_of_cell? w _ hw110_0)).trans hw110_0)), (World.cell?_alloc_lt _ _ _ (World.block_lt_of_cell? _ _ (((HB.out.cell (World.block_lt_of_cell? w _ hw110_1)).trans hw110_1)))).trans (((HB.out.cell (World.block_lt_of_cell? w _ hw110_1)).trans hw110_1)), (World.cell?_alloc_lt _ _ _ (World.block_lt_of_cell? _ _ (((HB.out.cell (World.block_lt_of_cell? w _ hw111_0)).trans hw111_0)))).trans (((HB.out.cell (World.block_lt_of_cell? w _ hw111_0)).trans hw111_0)), (World.cell?_alloc_lt _ _ _ (World.block_lt_of_cell? _ _ (((HB.out.cell (World.block_lt_of_cell? w _ hw111_1)).trans hw111_1)))).trans (((HB.out.cell (World.block_lt_of_cell? w _ hw111_1)).trans hw111_1))⟩ (fun hHeld => ?_)
      clear hK K
      refine nm_ ?_
      refine one_ (i := 17) (N := some 33) (mk_ 18 1) rfl rfl (one_of HT_.out kr_) (by decide) (fun K hK => ?_)
      refine Kd.R_append_step k78 (w0 := w) w.heap.size (by rfl) (.tmp 16) (.tmp 32) 24 78 (.agg #[(.int .i64 0), (.int .i64 0)]) 16 rfl Tryd.underlying24 info78 rfl (by decide) (by omega) u7 x7_1 (⟨wrap64 (((rd_T78 l0 x8_1).f0) + a1), wrap64 (((rd_T78 l0 x8_1).f1) + a2)⟩ : S78) [.int .i64 (wrap64 (((rd_T78 l0 x8_1).f0) + a1)), .int .i64 (wrap64 (((rd_T78 l0 x8_1).f1) + a2))] (fun _ => True) (fun _ => False) rfl rfl ?aP (fun _ hk => hk.elim) ?aF ?aO ?aB ?aS ?aL ?_
      (case aP => exact k78_mkM _ _ _ (⟨wrap64 (((rd_T78 l0 x8_1).f0) + a1), wrap64 (((rd_T78 l0 x8_1).f1) + a2)⟩ : S78))
      (case aB => exact (bl0_))
      (case aF => exact (fun _ _ => trivial))
      (case aO => exact (ra_ HO_7.out))
      (case aS => exact (below_size (bl0_)))
      (case aL => have := LMc8.out; omega)
      intro v113 w10 ho hb hg hat
      rw [← Ny112.out] at ho
      replace HB := a0_ (hb)
      have HO114 := a0_ (ho)
      clear HO_7
      clear ho hb hg hat
      refine hK.out _ _ ⟨((HB.out.cell (World.block_lt_of_cell? w _ hw110_0)).trans hw110_0), ((HB.out.cell (World.block_lt_of_cell? w _ hw110_1)).trans hw110_1), ((HB.out.cell (World.block_lt_of_cell? w _ hw111_0)).trans hw111_0), ((HB.out.cell (World.block_lt_of_cell? w _ hw111_1)).trans hw111_1)⟩ (fun hHeld => ?_)
      clear hK K
      refine nm_ ?_
      refine pu_ 18 (some 7) (mk_ 19 0) HT_ ?_
      refine done_ (done_of HT_.out kr_) ?_
      try go_wp2
      go_roundg k1
      case measure => have := HK1.out; omega
      case rel => exact ⟨(y112), (wrap64 (x8_1 + 1)), rs_, H', ⟨by have := HK1.out; omega⟩, ⟨ra_ HO114.out⟩, ⟨bl0_⟩⟩
     ·rw [if_neg c8] at H
      exact absurd H (by simp)
    ·rw [if_neg c7] at H
     exact absurd H (by simp)
   ·rw [if_neg c6] at H
    have c6b0 : decide (x8_1 < (l0.length : Int)) = false := decide_eq_false c6
    clear c6
    obtain rfl := Option.some.inj H
    go_wp2
    go_ret
    exact ⟨_, er_, ra_ HO_7.out, bl0_⟩

/-! ### spec_l02Least: function 104 -/
def spec_l02Least.l0 : Nat → List (S78) → Int → Int → Int → Option (Int × Int)
 | 0, _, _, _, _ => none
 | k + 1, x0, x4, x5, x6 => if x6 < (x0.length : Int) then (if 0 ≤ x6 then (spec_l02Least.l0 k x0 (mn x4 ((rd_T78 x0 x6).f0)) (mn x5 ((rd_T78 x0 x6).f1)) (wrap64 (x6 + 1))) else (none)) else (some (x4, x5))
def spec_l02Least.f (k : Nat) (l0 : List (S78)) : Option (Int × Int) := if 0 < (l0.length : Int) then (spec_l02Least.l0 k l0 ((rd_T78 l0 0).f0) ((rd_T78 l0 0).f1) 1) else (none)
theorem spec_l02Least.mono_l : ∀ k, (∀ y0 y1 y2 y3, LeO (spec_l02Least.l0 k y0 y1 y2 y3) (spec_l02Least.l0 (k + 1) y0 y1 y2 y3))
 | 0 => fun _ _ _ _ r h => by simp [spec_l02Least.l0] at h
 | k + 1 => by
  have ih0 := spec_l02Least.mono_l k
  ·intro y0 y1 y2 y3
   unfold spec_l02Least.l0
   with_reducible (repeat' first | exact ih0 _ _ _ _ | exact LeO.refl _ | exact LeO.none _ | refine LeO.ite ?_ ?_ | refine LeO.bind ?_ (fun _ => ?_))
theorem spec_l02Least.mono : ∀ a0 k, LeO (spec_l02Least.f k a0) (spec_l02Least.f (k + 1) a0) := by
 intro a0 k
 have ih0 := spec_l02Least.mono_l k
 unfold spec_l02Least.f
 with_reducible (repeat' first | exact ih0 _ _ _ _ | exact LeO.refl _ | exact LeO.none _ | refine LeO.ite ?_ ?_ | refine LeO.bind ?_ (fun _ => ?_))
set_option maxHeartbeats 8000000 in
set_option maxRecDepth 100000 in
theorem spec_l02Least.calls (k : Nat) (A0 : Option Addr) (c0 : Nat) (l0 : List (S78)) (r1 : Int) (r2 : Int) (w : World) (hr0 : Kd.C k78 w A0 l0.length l0) (hc0 : l0.length ≤ c0) (h : spec_l02Least.f k l0 = some (r1, r2)) :
  Calls Tryd.prog 104 #[.slice A0 l0.length c0] w fun e w' => e = .returned (.tuple #[.int .i64 r1, .int .i64 r2]) ∧ Below w.heap.size w w' := by
 have HR0 := Aside0.mk hr0
 have HC0 := Aside0.mk hc0
 clear hr0 hc0
 have HB := a0_ (Below.refl w.heap.size w)
 have H := h
 clear h
 unfold spec_l02Least.f at H
 by_cases c2 : 0 < (l0.length : Int)
 ·rw [if_pos c2] at H
  have c2b0 : decide (0 < (l0.length : Int)) = true := decide_eq_true c2
  have c2b1 : decide (0 < l0.length) = true := decide_eq_true (by omega)
  clear c2
  have H' := Aside0.mk H
  clear H
  have p115 : 0 ≤ (0 : Int) := (by omega)
  have q115 : 0 < (l0.length : Int) := od_
  obtain ⟨ad115, e115, hx115_0, hx115_1⟩ := at_T78 HR0.out 0 p115 q115
  cases e115
  have qi115 : (0 < l0.length) = True := eq_true (by omega)
  (try rw [show ((0 : Int)).toNat = 0 from rfl] at hx115_0)
  (try rw [show 0 * 2 = 0 from rfl] at hx115_0)
  (try rw [Addr.add_zero'] at hx115_0)
  (try rw [show ((0 : Int)).toNat = 0 from rfl] at hx115_1)
  (try rw [show 0 * 2 = 0 from rfl] at hx115_1)
  (try rw [Addr.add_zero'] at hx115_1)
  replace p115 := eq_true p115
  replace q115 := eq_true q115
  have p116 : 0 ≤ (0 : Int) := (by omega)
  have q116 : 0 < (l0.length : Int) := od_
  obtain ⟨ad116, e116, hx116_0, hx116_1⟩ := at_T78 HR0.out 0 p116 q116
  obtain rfl : ad115 = ad116 := (by injection e116)
  have qi116 : (0 < l0.length) = True := eq_true (by omega)
  (try rw [show ((0 : Int)).toNat = 0 from rfl] at hx116_0)
  (try rw [show 0 * 2 = 0 from rfl] at hx116_0)
  (try rw [Addr.add_zero'] at hx116_0)
  (try rw [show ((0 : Int)).toNat = 0 from rfl] at hx116_1)
  (try rw [show 0 * 2 = 0 from rfl] at hx116_1)
  (try rw [Addr.add_zero'] at hx116_1)
  replace p116 := eq_true p116
  replace q116 := eq_true q116
  go_enter Tryd.func104, Tryd.ntmps104
  go_wp2
  repeat (go_quiet (fail); try go_wp2)
  go_loopg [4, 5, 6] k (fun kq v4 v5 v6 w' => ∃ (x4_1 : Int) (x5_1 : Int) (x6_1 : Int), v4 = .int .i64 x4_1 ∧ v5 = .int .i64 x5_1 ∧ v6 = .int .i64 x6_1 ∧ Aside0 (spec_l02Least.l0 kq l0 x4_1 x5_1 x6_1 = some (r1, r2)) ∧ Aside0 (kq ≤ k) ∧ Aside0 (Below w.heap.size w w'))
  case atStart => exact ⟨((rd_T78 l0 0).f0), ((rd_T78 l0 0).f1), (1), rs_, rs_, rs_, H', ⟨Nat.le_refl _⟩, ⟨bl0_⟩⟩
  case round =>
   clear H'
   try clear c1
   try clear p1
   try clear q1
   try clear hx1
   try clear qi1
   try clear c2
   try clear c2b0
   try clear c2b1
   try clear p2
   try clear hx115_0
   try clear hx115_1
   try clear hx116_0
   try clear hx116_1
   try clear p115
   try clear p116
   try clear q115
   try clear q116
   obtain ⟨x4_1, x5_1, x6_1, rfl, rfl, rfl, HA, HK1, HB⟩ := hrel
   cases gk with
   | zero => exact absurd HA.out (by simp [spec_l02Least.l0])
   | succ k1 =>
    have H := HA.out
    clear HA
    simp only [spec_l02Least.l0] at H
    by_cases c3 : x6_1 < (l0.length : Int)
    ·rw [if_pos c3] at H
     have c3b0 : decide (x6_1 < (l0.length : Int)) = true := decide_eq_true c3
     clear c3
     by_cases c4 : 0 ≤ x6_1
     ·rw [if_pos c4] at H
      have c4b0 : decide (0 ≤ x6_1) = true := decide_eq_true c4
      clear c4
      obtain ⟨ji5, hji5⟩ : ∃ j_ : Int, (mn x4_1 ((rd_T78 l0 x6_1).f0)) = j_ := ⟨_, rfl⟩
      replace H : (spec_l02Least.l0 k1 l0 ji5 (mn x5_1 ((rd_T78 l0 x6_1).f1)) (wrap64 (x6_1 + 1))) = some (r1, r2) := by first | (rw [hji5] at H; exact H) | (simp only [hji5] at H ⊢; exact H)
      have hji5_ : (if ((rd_T78 l0 x6_1).f0) < x4_1 then ((rd_T78 l0 x6_1).f0) else x4_1) = ji5 := hji5
      obtain ⟨ji6, hji6⟩ : ∃ j_ : Int, (mn x5_1 ((rd_T78 l0 x6_1).f1)) = j_ := ⟨_, rfl⟩
      replace H : (spec_l02Least.l0 k1 l0 ji5 ji6 (wrap64 (x6_1 + 1))) = some (r1, r2) := by first | (rw [hji6] at H; exact H) | (simp only [hji6] at H ⊢; exact H)
      have hji6_ : (if ((rd_T78 l0 x6_1).f1) < x5_1 then ((rd_T78 l0 x6_1).f1) else x5_1) = ji6 := hji6
      have H' := Aside0.mk H
      clear H
      have p117 : 0 ≤ (x6_1 : Int) := od_
      have q117 : x6_1 < (l0.length : Int) := od_
      obtain ⟨ad117, e117, hx117_0, hx117_1⟩ := at_T78 HR0.out x6_1 p117 q117
      obtain rfl : ad115 = ad117 := (by injection e117)
      replace hx117_0 := (HB.out.cell (World.block_lt_of_cell? w _ hx117_0)).trans hx117_0
      replace hx117_1 := (HB.out.cell (World.block_lt_of_cell? w _ hx117_1)).trans hx117_1
      replace p117 := eq_true p117
      replace q117 := eq_true q117
      have p118 : 0 ≤ (x6_1 : Int) := od_
      have q118 : x6_1 < (l0.length : Int) := od_
      obtain ⟨ad118, e118, hx118_0, hx118_1⟩ := at_T78 HR0.out x6_1 p118 q118
      obtain rfl : ad115 = ad118 := (by injection e118)
      replace hx118_0 := (HB.out.cell (World.block_lt_of_cell? w _ hx118_0)).trans hx118_0
      replace hx118_1 := (HB.out.cell (World.block_lt_of_cell? w _ hx118_1)).trans hx118_1
      replace p118 := eq_true p118
      replace q118 := eq_true q118
      go_wp2
      repeat (go_quiet (fail); try go_wp2)
      go_roundg k1
      case measure => have := HK1.out; omega
      case rel => exact ⟨(ji5), (ji6), (wrap64 (x6_1 + 1)), (by first | rfl | (simp; done) | (simp only [← hji5] <;> (first | rfl | simp)) | (simp [*]; done)), (by first | rfl | (simp; done) | (simp only [← hji6] <;> (first | rfl | simp)) | (simp [*]; done)), rs_, H', ⟨by have := HK1.out; omega⟩, ⟨bl0_⟩⟩
     ·rw [if_neg c4] at H
      exact absurd H (by simp)
    ·rw [if_neg c3] at H
     have c3b0 : decide (x6_1 < (l0.length : Int)) = false := decide_eq_false c3
     clear c3
     simp only [Option.some.injEq, Prod.mk.injEq] at H
     obtain ⟨rfl, rfl⟩ := H
     go_wp2
     repeat (go_quiet (fail); try go_wp2)
     go_ret2
     exact ⟨er_, bl0_⟩
 ·rw [if_neg c2] at H
  exact absurd H (by simp)

/-! ### spec_l02Normal: function 68 -/
def spec_l02Normal.f (k : Nat) (l0 : List (S78)) : Option ((List (S78))) := (spec_l02Least.f k l0).bind fun bt119 => ((spec_l02Move.f k l0 (wrap64 (-bt119.1)) (wrap64 (-bt119.2))).bind fun t121 => (some t121))
theorem spec_l02Normal.mono : ∀ a0 k, LeO (spec_l02Normal.f k a0) (spec_l02Normal.f (k + 1) a0) := by
 intro a0 k
 unfold spec_l02Normal.f
 with_reducible (repeat' first | exact spec_l02Least.mono _ _ | exact spec_l02Move.mono _ _ _ _ | exact LeO.refl _ | exact LeO.none _ | refine LeO.ite ?_ ?_ | refine LeO.bind ?_ (fun _ => ?_))
set_option maxHeartbeats 8000000 in
set_option maxRecDepth 100000 in
theorem spec_l02Normal.calls (k : Nat) (A0 : Option Addr) (c0 : Nat) (l0 : List (S78)) (r : List (S78)) (w : World) (hr0 : Kd.C k78 w A0 l0.length l0) (hc0 : l0.length ≤ c0) (h : spec_l02Normal.f k l0 = some r) :
  Calls Tryd.prog 68 #[.slice A0 l0.length c0] w fun e w' => ∃ v0_ : Value, e = .returned (v0_) ∧ Kd.R k78 78 w' w.heap.size (fun _ => True) v0_ r ∧ Below w.heap.size w w' := by
 have HR0 := Aside0.mk hr0
 have HC0 := Aside0.mk hc0
 clear hr0 hc0
 have HB := a0_ (Below.refl w.heap.size w)
 have H := h
 clear h
 unfold spec_l02Normal.f at H
 obtain ⟨⟨t119, t120⟩, A2, H⟩ := bs_ H
 dsimp only at H
 obtain ⟨t121, A3, H⟩ := bs_ H
 obtain rfl := Option.some.inj H
 go_enter Tryd.func68, Tryd.ntmps68
 go_wp2_with (first | ((with_reducible refine gate_callee (f := 104) rfl ?_); refine goesL_ (some 7) rfl rfl Tryd.func104 kr_ rfl #[.slice A0 l0.length c0] rfl ta_ ?_; (with_reducible refine (spec_l02Least.calls k _ _ l0 t119 t120 _ ?side1 ?side2 A2.out).mono ?_); (case side1 => exact ca_ HR0.out); (case side2 => exact HC0.out); rintro e w4 ⟨rfl, hb⟩; refine ⟨_, rfl, ?_⟩; replace HB := a0_ (below_step (bl0_) hb); (try clear hb); (try clear hb2); (try clear hk); (try clear hi)) | ((with_reducible refine gate_callee (f := 61) rfl ?_); refine goesL_ (some 15) rfl rfl Tryd.func61 kr_ rfl #[.slice A0 l0.length c0, .int .i64 (wrap64 (-t119)), .int .i64 (wrap64 (-t120))] rfl ta_ ?_; (with_reducible refine (spec_l02Move.calls k _ _ l0 (wrap64 (-t119)) (wrap64 (-t120)) t121 _ ?side1 ?side2 A3.out).mono ?_); (case side1 => exact ca_ (Kd.C_below HR0.out HB.out)); (case side2 => exact HC0.out); rintro e w5 ⟨v122, rfl, ho0, hb⟩; refine ⟨_, rfl, ?_⟩; have HO123 := a0_ (Kd.R_lower ho0 (below_size (bl0_))); replace HB := a0_ (below_step (bl0_) hb); (try clear hb); (try clear hb2); (try clear hk); (try clear hi); (try clear ho0)))
 go_ret
 exact ⟨_, er_, ra_ HO123.out, bl0_⟩

/-! ### spec_l02Index: function 70 -/
def spec_l02Index.l0 : Nat → List (S78) → Int → Int → Int → Option (Int)
 | 0, _, _, _, _ => none
 | k + 1, x0, x5, x125000, x125001 => if x5 < (x0.length : Int) then (if 0 ≤ x5 then (if (((rd_T78 x0 x5).f0) == x125000 && (((rd_T78 x0 x5).f1) == x125001)) = true then (some x5) else (spec_l02Index.l0 k x0 (wrap64 (x5 + 1)) x125000 x125001)) else (none)) else (some (-1))
def spec_l02Index.f (k : Nat) (l0 : List (S78)) (a1_0 : Int) (a1_1 : Int) : Option (Int) := spec_l02Index.l0 k l0 0 a1_0 a1_1
theorem spec_l02Index.mono_l : ∀ k, (∀ y0 y1 y2 y3, LeO (spec_l02Index.l0 k y0 y1 y2 y3) (spec_l02Index.l0 (k + 1) y0 y1 y2 y3))
 | 0 => fun _ _ _ _ r h => by simp [spec_l02Index.l0] at h
 | k + 1 => by
  have ih0 := spec_l02Index.mono_l k
  ·intro y0 y1 y2 y3
   unfold spec_l02Index.l0
   with_reducible (repeat' first | exact ih0 _ _ _ _ | exact LeO.refl _ | exact LeO.none _ | refine LeO.ite ?_ ?_ | refine LeO.bind ?_ (fun _ => ?_))
theorem spec_l02Index.mono : ∀ a0 a1 a2 k, LeO (spec_l02Index.f k a0 a1 a2) (spec_l02Index.f (k + 1) a0 a1 a2) := by
 intro a0 a1 a2 k
 have ih0 := spec_l02Index.mono_l k
 unfold spec_l02Index.f
 with_reducible (repeat' first | exact ih0 _ _ _ _ | exact LeO.refl _ | exact LeO.none _ | refine LeO.ite ?_ ?_ | refine LeO.bind ?_ (fun _ => ?_))
set_option maxHeartbeats 8000000 in
set_option maxRecDepth 100000 in
theorem spec_l02Index.calls (k : Nat) (A0 : Option Addr) (c0 : Nat) (l0 : List (S78)) (a1_0 : Int) (a1_1 : Int) (r : Int) (w : World) (hr0 : Kd.C k78 w A0 l0.length l0) (hc0 : l0.length ≤ c0) (h : spec_l02Index.f k l0 a1_0 a1_1 = some r) :
  Calls Tryd.prog 70 #[.slice A0 l0.length c0, .agg #[.int .i64 a1_0, .int .i64 a1_1]] w fun e w' => e = .returned (.int .i64 r) ∧ Below w.heap.size w w' := by
 have hu78 := Tryd.underlying78
 have HR0 := Aside0.mk hr0
 have HC0 := Aside0.mk hc0
 clear hr0 hc0
 have HB := a0_ (Below.refl w.heap.size w)
 have H : (spec_l02Index.l0 k l0 0 a1_0 a1_1) = some r := h
 clear h
 have H' := Aside0.mk H
 clear H
 go_enter Tryd.func70, Tryd.ntmps70
 go_wp2_with (first | ((with_reducible refine gate_dst (N := 3) rfl ?_); refine bx_ (N := 3) (cs := #[.int .i64 a1_0, .int .i64 a1_1]) (t := 78) ?_; intro gb124 hg w3 hbox hb; have BK124 := a0_ (hbox); have GW124 := a0_ ((sz_ hg (bl0_) : w.heap.size ≤ gb124)); have GE124 := a0_ ((sz_ hg (bl0_) : w.heap.size ≤ gb124)); replace HB := a0_ (below_step (bl0_) hb); clear hb hbox hg))
 repeat (go_quiet (first | ((with_reducible refine gate_dst (N := 3) rfl ?_); refine bx_ (N := 3) (cs := #[.int .i64 a1_0, .int .i64 a1_1]) (t := 78) ?_; intro gb124 hg w3 hbox hb; have BK124 := a0_ (hbox); have GW124 := a0_ ((sz_ hg (bl0_) : w.heap.size ≤ gb124)); have GE124 := a0_ ((sz_ hg (bl0_) : w.heap.size ≤ gb124)); replace HB := a0_ (below_step (bl0_) hb); clear hb hbox hg)); try go_wp2_with (first | ((with_reducible refine gate_dst (N := 3) rfl ?_); refine bx_ (N := 3) (cs := #[.int .i64 a1_0, .int .i64 a1_1]) (t := 78) ?_; intro gb124 hg w3 hbox hb; have BK124 := a0_ (hbox); have GW124 := a0_ ((sz_ hg (bl0_) : w.heap.size ≤ gb124)); have GE124 := a0_ ((sz_ hg (bl0_) : w.heap.size ≤ gb124)); replace HB := a0_ (below_step (bl0_) hb); clear hb hbox hg)))
 go_loopg [5] k (fun kq v5 w' => ∃ (x5_1 : Int), v5 = .int .i64 x5_1 ∧ Aside0 (spec_l02Index.l0 kq l0 x5_1 a1_0 a1_1 = some r) ∧ Aside0 (kq ≤ k) ∧ Aside0 (w'.heap[gb124]? = some (.cells #[.int .i64 a1_0, .int .i64 a1_1] 78 (0, 0))) ∧ Aside0 (Below w.heap.size w w'))
 case atStart => exact ⟨(0), rs_, H', ⟨Nat.le_refl _⟩, ⟨bk_ BK124.out⟩, ⟨bl1_ GE124.out⟩⟩
 case round =>
  clear H'
  try clear p2
  obtain ⟨x5_1, rfl, HA, HK1, BK124, HB⟩ := hrel
  cases gk with
  | zero => exact absurd HA.out (by simp [spec_l02Index.l0])
  | succ k1 =>
   have H := HA.out
   clear HA
   simp only [spec_l02Index.l0] at H
   by_cases c4 : x5_1 < (l0.length : Int)
   ·rw [if_pos c4] at H
    have c4b0 : decide (x5_1 < (l0.length : Int)) = true := decide_eq_true c4
    clear c4
    by_cases c5 : 0 ≤ x5_1
    ·rw [if_pos c5] at H
     have c5b0 : decide (0 ≤ x5_1) = true := decide_eq_true c5
     clear c5
     by_cases c6 : (((rd_T78 l0 x5_1).f0) == a1_0 && (((rd_T78 l0 x5_1).f1) == a1_1)) = true
     ·rw [if_pos c6] at H
      have c6b0 : (((rd_T78 l0 x5_1).f0) == a1_0 && (((rd_T78 l0 x5_1).f1) == a1_1)) = true := c6
      (try (have c6b1 : decide (((rd_T78 l0 x5_1).f0) = a1_0 && (((rd_T78 l0 x5_1).f1) == a1_1)) = true := by simpa using c6))
      (try (have c6b2 : (((rd_T78 l0 x5_1).f0) == a1_0 && (((rd_T78 l0 x5_1).f1) == a1_1)) = true := by simpa using c6))
      clear c6
      obtain rfl := Option.some.inj H
      have p125 : 0 ≤ (x5_1 : Int) := od_
      have q125 : x5_1 < (l0.length : Int) := od_
      obtain ⟨ad125, e125, hx125_0, hx125_1⟩ := at_T78 HR0.out x5_1 p125 q125
      cases e125
      replace hx125_0 := (HB.out.cell (World.block_lt_of_cell? w _ hx125_0)).trans hx125_0
      replace hx125_1 := (HB.out.cell (World.block_lt_of_cell? w _ hx125_1)).trans hx125_1
      replace p125 := eq_true p125
      replace q125 := eq_true q125
      have hcz7_0 : wr.cell? ⟨gb124, 0, none⟩ = some (.int .i64 a1_0) := (blk_cell BK124.out 0).trans rfl
      have hcz7_1 : wr.cell? ⟨gb124, 1, none⟩ = some (.int .i64 a1_1) := (blk_cell BK124.out 1).trans rfl
      have hfz7_0 := blk_frozen BK124.out 0
      have hfz7_1 := blk_frozen BK124.out 1
      go_wp2
      repeat (go_quiet (fail); try go_wp2)
      go_ret
      exact ⟨er_, bl1_ GE124.out⟩
     ·rw [if_neg c6] at H
      have c6b0 : (((rd_T78 l0 x5_1).f0) == a1_0 && (((rd_T78 l0 x5_1).f1) == a1_1)) = false := by simpa using c6
      (try (have c6b1 : decide (((rd_T78 l0 x5_1).f0) = a1_0 && (((rd_T78 l0 x5_1).f1) == a1_1)) = false := by simpa using c6))
      (try (have c6b2 : (((rd_T78 l0 x5_1).f0) == a1_0 && (((rd_T78 l0 x5_1).f1) == a1_1)) = false := by simpa using c6))
      (try (have c6b3 : ¬ (((rd_T78 l0 x5_1).f0) = a1_0 && (((rd_T78 l0 x5_1).f1) == a1_1)) := by simpa using c6))
      clear c6
      have H' := Aside0.mk H
      clear H
      have p125 : 0 ≤ (x5_1 : Int) := od_
      have q125 : x5_1 < (l0.length : Int) := od_
      obtain ⟨ad125, e125, hx125_0, hx125_1⟩ := at_T78 HR0.out x5_1 p125 q125
      cases e125
      replace hx125_0 := (HB.out.cell (World.block_lt_of_cell? w _ hx125_0)).trans hx125_0
      replace hx125_1 := (HB.out.cell (World.block_lt_of_cell? w _ hx125_1)).trans hx125_1
      replace p125 := eq_true p125
      replace q125 := eq_true q125
      have hcz8_0 : wr.cell? ⟨gb124, 0, none⟩ = some (.int .i64 a1_0) := (blk_cell BK124.out 0).trans rfl
      have hcz8_1 : wr.cell? ⟨gb124, 1, none⟩ = some (.int .i64 a1_1) := (blk_cell BK124.out 1).trans rfl
      have hfz8_0 := blk_frozen BK124.out 0
      have hfz8_1 := blk_frozen BK124.out 1
      go_wp2
      repeat (go_quiet (fail); try go_wp2)
      go_roundg k1
      case measure => have := HK1.out; omega
      case rel => exact ⟨(wrap64 (x5_1 + 1)), rs_, H', ⟨by have := HK1.out; omega⟩, ⟨bk_ BK124.out⟩, ⟨bl1_ GE124.out⟩⟩
    ·rw [if_neg c5] at H
     exact absurd H (by simp)
   ·rw [if_neg c4] at H
    have c4b0 : decide (x5_1 < (l0.length : Int)) = false := decide_eq_false c4
    clear c4
    obtain rfl := Option.some.inj H
    go_wp2
    repeat (go_quiet (fail); try go_wp2)
    go_ret
    exact ⟨er_, bl1_ GE124.out⟩

/-! ### spec_l02Less: function 103 -/
def spec_l02Less.f (a0_0 : Int) (a0_1 : Int) (a1_0 : Int) (a1_1 : Int) : Option (Bool) := if a0_1 < a1_1 then (some true) else (if a0_1 = a1_1 then (some (decide (a0_0 < a1_0))) else (some false))
set_option maxHeartbeats 8000000 in
set_option maxRecDepth 100000 in
theorem spec_l02Less.calls (a0_0 : Int) (a0_1 : Int) (a1_0 : Int) (a1_1 : Int) (r : Bool) (w : World) (h : spec_l02Less.f a0_0 a0_1 a1_0 a1_1 = some r) :
  Calls Tryd.prog 103 #[.agg #[.int .i64 a0_0, .int .i64 a0_1], .agg #[.int .i64 a1_0, .int .i64 a1_1]] w fun e w' => e = .returned (.bool r) ∧ Below w.heap.size w w' := by
 have hu78 := Tryd.underlying78
 have HB := a0_ (Below.refl w.heap.size w)
 have H := h
 clear h
 unfold spec_l02Less.f at H
 by_cases c3 : a0_1 < a1_1
 ·rw [if_pos c3] at H
  have c3b0 : decide (a0_1 < a1_1) = true := decide_eq_true c3
  clear c3
  obtain rfl := Option.some.inj H
  go_enter Tryd.func103, Tryd.ntmps103
  go_wp2_with (first | ((with_reducible refine gate_dst (N := 2) rfl ?_); refine bx_ (N := 2) (cs := #[.int .i64 a0_0, .int .i64 a0_1]) (t := 78) ?_; intro gb126 hg w4 hbox hb; have BK126 := a0_ (hbox); have GW126 := a0_ ((sz_ hg (bl0_) : w.heap.size ≤ gb126)); have GE126 := a0_ ((sz_ hg (bl0_) : w.heap.size ≤ gb126)); replace HB := a0_ (below_step (bl0_) hb); clear hb hbox hg) | ((with_reducible refine gate_dst (N := 3) rfl ?_); refine bx_ (N := 3) (cs := #[.int .i64 a1_0, .int .i64 a1_1]) (t := 78) ?_; intro gb127 hg w5 hbox hb; have BK127 := a0_ (hbox); have GW127 := a0_ ((sz_ hg (bl1_ GE126.out) : w.heap.size ≤ gb127)); have GE127 := a0_ ((sz_ hg (bl1_ GE126.out) : w.heap.size ≤ gb127)); replace HB := a0_ (below_step (bl1_ GE126.out) hb); have NB126_127 := a0_ ((nl_ hg BK126.out : gb126 ≠ gb127)); have NB127_126 := a0_ ((ng_ hg BK126.out : gb127 ≠ gb126)); replace BK126 := a0_ (bb_ BK126.out hb); clear hb hbox hg; have hnb6 := NB126_127.out; have hnc6 := NB127_126.out; obtain ⟨hcz7_0, hcz7_1, hfz7_0, hfz7_1⟩ := bc2_ BK126.out; obtain ⟨hcz8_0, hcz8_1, hfz8_0, hfz8_1⟩ := bc2_ BK127.out))
  go_ret
  exact ⟨er_, bl2_ GE126.out GE127.out⟩
 ·rw [if_neg c3] at H
  have c3b0 : decide (a0_1 < a1_1) = false := decide_eq_false c3
  clear c3
  by_cases c9 : a0_1 = a1_1
  ·rw [if_pos c9] at H
   have c9b0 : (a0_1 == a1_1) = true := beq_iff_eq.mpr c9
   have c9b1 : (a0_1 != a1_1) = false := bne_eq_false_iff_eq.mpr c9
   clear c9
   obtain rfl := Option.some.inj H
   go_enter Tryd.func103, Tryd.ntmps103
   go_wp2_with (first | ((with_reducible refine gate_dst (N := 2) rfl ?_); refine bx_ (N := 2) (cs := #[.int .i64 a0_0, .int .i64 a0_1]) (t := 78) ?_; intro gb126 hg w10 hbox hb; have BK126 := a0_ (hbox); have GW126 := a0_ ((sz_ hg (bl0_) : w.heap.size ≤ gb126)); have GE126 := a0_ ((sz_ hg (bl0_) : w.heap.size ≤ gb126)); replace HB := a0_ (below_step (bl0_) hb); clear hb hbox hg) | ((with_reducible refine gate_dst (N := 3) rfl ?_); refine bx_ (N := 3) (cs := #[.int .i64 a1_0, .int .i64 a1_1]) (t := 78) ?_; intro gb127 hg w11 hbox hb; have BK127 := a0_ (hbox); have GW127 := a0_ ((sz_ hg (bl1_ GE126.out) : w.heap.size ≤ gb127)); have GE127 := a0_ ((sz_ hg (bl1_ GE126.out) : w.heap.size ≤ gb127)); replace HB := a0_ (below_step (bl1_ GE126.out) hb); have NB126_127 := a0_ ((nl_ hg BK126.out : gb126 ≠ gb127)); have NB127_126 := a0_ ((ng_ hg BK126.out : gb127 ≠ gb126)); replace BK126 := a0_ (bb_ BK126.out hb); clear hb hbox hg; have hnb12 := NB126_127.out; have hnc12 := NB127_126.out; obtain ⟨hcz13_0, hcz13_1, hfz13_0, hfz13_1⟩ := bc2_ BK126.out; obtain ⟨hcz14_0, hcz14_1, hfz14_0, hfz14_1⟩ := bc2_ BK127.out))
   go_ret
   exact ⟨er_, bl2_ GE126.out GE127.out⟩
  ·rw [if_neg c9] at H
   have c9b0 : (a0_1 == a1_1) = false := beq_eq_false_iff_ne.mpr c9
   have c9b1 : (a0_1 != a1_1) = true := bne_iff_ne.mpr c9
   obtain rfl := Option.some.inj H
   go_enter Tryd.func103, Tryd.ntmps103
   go_wp2_with (first | ((with_reducible refine gate_dst (N := 2) rfl ?_); refine bx_ (N := 2) (cs := #[.int .i64 a0_0, .int .i64 a0_1]) (t := 78) ?_; intro gb126 hg w15 hbox hb; have BK126 := a0_ (hbox); have GW126 := a0_ ((sz_ hg (bl0_) : w.heap.size ≤ gb126)); have GE126 := a0_ ((sz_ hg (bl0_) : w.heap.size ≤ gb126)); replace HB := a0_ (below_step (bl0_) hb); clear hb hbox hg) | ((with_reducible refine gate_dst (N := 3) rfl ?_); refine bx_ (N := 3) (cs := #[.int .i64 a1_0, .int .i64 a1_1]) (t := 78) ?_; intro gb127 hg w16 hbox hb; have BK127 := a0_ (hbox); have GW127 := a0_ ((sz_ hg (bl1_ GE126.out) : w.heap.size ≤ gb127)); have GE127 := a0_ ((sz_ hg (bl1_ GE126.out) : w.heap.size ≤ gb127)); replace HB := a0_ (below_step (bl1_ GE126.out) hb); have NB126_127 := a0_ ((nl_ hg BK126.out : gb126 ≠ gb127)); have NB127_126 := a0_ ((ng_ hg BK126.out : gb127 ≠ gb126)); replace BK126 := a0_ (bb_ BK126.out hb); clear hb hbox hg; have hnb17 := NB126_127.out; have hnc17 := NB127_126.out; obtain ⟨hcz18_0, hcz18_1, hfz18_0, hfz18_1⟩ := bc2_ BK126.out; obtain ⟨hcz19_0, hcz19_1, hfz19_0, hfz19_1⟩ := bc2_ BK127.out))
   go_ret
   exact ⟨er_, bl2_ GE126.out GE127.out⟩

end Go.Proofs.YtopceddgiddhlaaDoor.PFnRolled
