/- Over the kit's printer by a driver of mine (hprint.py), with parts by hand: functions of the program as Lean functions, and that each call comes to exactly these answers. -/
import Derived.Test.YtmdjkmfocgelnaaGreatPFnListedx0
import Derived.Test.YtmdjkmfocgelnaaGreatPFnListedx1
import Derived.Test.YtmdjkmfocgelnaaGreatPFnListedx8
import Derived.Test.YtmdjkmfocgelnaaGreatPFnListedx10
namespace Go.Proofs.YtmdjkmfocgelnaaGreat.PFnListed
open Go.RowKit Go.Proofs.YtmdjkmfocgelnaaGreatW.PrintWords Go.Proofs.YtmdjkmfocgelnaaGreatW.PrintLast Go.Proofs.YtmdjkmfocgelnaaGreatW.PrintMore
attribute [local go_sem] max2_int min2_int max_two min_two max_three min_three max_four min_four   -- for this text's walks alone
set_option linter.unusedVariables false
set_option linter.unusedSimpArgs false

attribute [local go_sem high] eqA46
/-! ### spec_l02Index: function 83 -/
def spec_l02Index.l0 : Nat → List (S46) → Int → Int → Int → Option (Int)
 | 0, _, _, _, _ => none
 | k + 1, x0, x5, x242000, x242001 => if x5 < (x0.length : Int) then (if 0 ≤ x5 then (if (((rd_T46 x0 x5).f0) == x242000 && (((rd_T46 x0 x5).f1) == x242001)) = true then (some x5) else (spec_l02Index.l0 k x0 (wrap64 (x5 + 1)) x242000 x242001)) else (none)) else (some (-1))
def spec_l02Index.f (k : Nat) (l0 : List (S46)) (a1_0 : Int) (a1_1 : Int) : Option (Int) := spec_l02Index.l0 k l0 0 a1_0 a1_1
theorem spec_l02Index.mono_l : ∀ k, (∀ y0 y1 y2 y3, LeO (spec_l02Index.l0 k y0 y1 y2 y3) (spec_l02Index.l0 (k + 1) y0 y1 y2 y3))
 | 0 => fun _ _ _ _ r h => by simp [spec_l02Index.l0] at h
 | k + 1 => by
  have ih0 := spec_l02Index.mono_l k
  ·intro y0 y1 y2 y3
   unfold spec_l02Index.l0
   with_reducible (repeat' first | exact ih0 _ _ _ _ | exact LeO.refl _ | exact LeO.none _ | refine LeO.ite ?_ ?_ | refine LeO.bind ?_ (fun _ => ?_))
theorem spec_l02Index.mono : ∀ a0 a1 a2 k, LeO (spec_l02Index.f k a0 a1 a2) (spec_l02Index.f (k + 1) a0 a1 a2) := by
 intro a0 a1 a2 k
 have ih0 := spec_l02Index.mono_l k
 unfold spec_l02Index.f
 with_reducible (repeat' first | exact ih0 _ _ _ _ | exact LeO.refl _ | exact LeO.none _ | refine LeO.ite ?_ ?_ | refine LeO.bind ?_ (fun _ => ?_))
set_option maxHeartbeats 8000000 in
set_option maxRecDepth 100000 in
theorem spec_l02Index.calls (k : Nat) (A0 : Option Addr) (c0 : Nat) (l0 : List (S46)) (a1_0 : Int) (a1_1 : Int) (r : Int) (w : World) (hr0 : Kd.C k46 w A0 l0.length l0) (hc0 : l0.length ≤ c0) (h : spec_l02Index.f k l0 a1_0 a1_1 = some r) :
  Calls Tryz.prog 83 #[.slice A0 l0.length c0, .agg #[.int .i64 a1_0, .int .i64 a1_1]] w fun e w' => e = .returned (.int .i64 r) ∧ Below w.heap.size w w' := by
 have hu46 := Tryz.underlying46
 have HR0 := Aside0.mk hr0
 have HC0 := Aside0.mk hc0
 clear hr0 hc0
 have HB := a0_ (Below.refl w.heap.size w)
 have H : (spec_l02Index.l0 k l0 0 a1_0 a1_1) = some r := h
 clear h
 have H' := Aside0.mk H
 clear H
 go_enter Tryz.func83, Tryz.ntmps83
 go_wp2_with (first | ((with_reducible refine gate_dst (N := 3) rfl ?_); refine bx_ (N := 3) (cs := #[.int .i64 a1_0, .int .i64 a1_1]) (t := 46) ?_; intro gb241 hg w3 hbox hb; have BK241 := a0_ (hbox); have GW241 := a0_ ((sz_ hg (bl0_) : w.heap.size ≤ gb241)); have GE241 := a0_ ((sz_ hg (bl0_) : w.heap.size ≤ gb241)); replace HB := a0_ (below_step (bl0_) hb); clear hb hbox hg))
 repeat (go_quiet (first | ((with_reducible refine gate_dst (N := 3) rfl ?_); refine bx_ (N := 3) (cs := #[.int .i64 a1_0, .int .i64 a1_1]) (t := 46) ?_; intro gb241 hg w3 hbox hb; have BK241 := a0_ (hbox); have GW241 := a0_ ((sz_ hg (bl0_) : w.heap.size ≤ gb241)); have GE241 := a0_ ((sz_ hg (bl0_) : w.heap.size ≤ gb241)); replace HB := a0_ (below_step (bl0_) hb); clear hb hbox hg)); try go_wp2_with (first | ((with_reducible refine gate_dst (N := 3) rfl ?_); refine bx_ (N := 3) (cs := #[.int .i64 a1_0, .int .i64 a1_1]) (t := 46) ?_; intro gb241 hg w3 hbox hb; have BK241 := a0_ (hbox); have GW241 := a0_ ((sz_ hg (bl0_) : w.heap.size ≤ gb241)); have GE241 := a0_ ((sz_ hg (bl0_) : w.heap.size ≤ gb241)); replace HB := a0_ (below_step (bl0_) hb); clear hb hbox hg)))
 go_loopg [5] k (fun kq v5 w' => ∃ (x5_1 : Int), v5 = .int .i64 x5_1 ∧ Aside0 (spec_l02Index.l0 kq l0 x5_1 a1_0 a1_1 = some r) ∧ Aside0 (kq ≤ k) ∧ Aside0 (w'.heap[gb241]? = some (.cells #[.int .i64 a1_0, .int .i64 a1_1] 46 (0, 0))) ∧ Aside0 (Below w.heap.size w w'))
 case atStart => exact ⟨(0), rs_, H', ⟨Nat.le_refl _⟩, ⟨bk_ BK241.out⟩, ⟨bl1_ GE241.out⟩⟩
 case round =>
  clear H'
  try clear p2
  obtain ⟨x5_1, rfl, HA, HK1, BK241, HB⟩ := hrel
  cases gk with
  | zero => exact absurd HA.out (by simp [spec_l02Index.l0])
  | succ k1 =>
   have H := HA.out
   clear HA
   simp only [spec_l02Index.l0] at H
   by_cases c4 : x5_1 < (l0.length : Int)
   ·rw [if_pos c4] at H
    have c4b0 : decide (x5_1 < (l0.length : Int)) = true := decide_eq_true c4
    clear c4
    by_cases c5 : 0 ≤ x5_1
    ·rw [if_pos c5] at H
     have c5b0 : decide (0 ≤ x5_1) = true := decide_eq_true c5
     clear c5
     by_cases c6 : (((rd_T46 l0 x5_1).f0) == a1_0 && (((rd_T46 l0 x5_1).f1) == a1_1)) = true
     ·rw [if_pos c6] at H
      have c6b0 : (((rd_T46 l0 x5_1).f0) == a1_0 && (((rd_T46 l0 x5_1).f1) == a1_1)) = true := c6
      (try (have c6b1 : decide (((rd_T46 l0 x5_1).f0) = a1_0 && (((rd_T46 l0 x5_1).f1) == a1_1)) = true := by simpa using c6))
      (try (have c6b2 : (((rd_T46 l0 x5_1).f0) == a1_0 && (((rd_T46 l0 x5_1).f1) == a1_1)) = true := by simpa using c6))
      clear c6
      obtain rfl := Option.some.inj H
      have p242 : 0 ≤ (x5_1 : Int) := od_
      have q242 : x5_1 < (l0.length : Int) := od_
      obtain ⟨ad242, e242, hx242_0, hx242_1⟩ := at_T46 HR0.out x5_1 p242 q242
      cases e242
      replace hx242_0 := (HB.out.cell (World.block_lt_of_cell? w _ hx242_0)).trans hx242_0
      replace hx242_1 := (HB.out.cell (World.block_lt_of_cell? w _ hx242_1)).trans hx242_1
      replace p242 := eq_true p242
      replace q242 := eq_true q242
      have hcz7_0 : wr.cell? ⟨gb241, 0, none⟩ = some (.int .i64 a1_0) := (blk_cell BK241.out 0).trans rfl
      have hcz7_1 : wr.cell? ⟨gb241, 1, none⟩ = some (.int .i64 a1_1) := (blk_cell BK241.out 1).trans rfl
      have hfz7_0 := blk_frozen BK241.out 0
      have hfz7_1 := blk_frozen BK241.out 1
      go_wp2
      repeat (go_quiet (fail); try go_wp2)
      go_ret
      exact ⟨er_, bl1_ GE241.out⟩
     ·rw [if_neg c6] at H
      have c6b0 : (((rd_T46 l0 x5_1).f0) == a1_0 && (((rd_T46 l0 x5_1).f1) == a1_1)) = false := by simpa using c6
      (try (have c6b1 : decide (((rd_T46 l0 x5_1).f0) = a1_0 && (((rd_T46 l0 x5_1).f1) == a1_1)) = false := by simpa using c6))
      (try (have c6b2 : (((rd_T46 l0 x5_1).f0) == a1_0 && (((rd_T46 l0 x5_1).f1) == a1_1)) = false := by simpa using c6))
      (try (have c6b3 : ¬ (((rd_T46 l0 x5_1).f0) = a1_0 && (((rd_T46 l0 x5_1).f1) == a1_1)) := by simpa using c6))
      clear c6
      have H' := Aside0.mk H
      clear H
      have p242 : 0 ≤ (x5_1 : Int) := od_
      have q242 : x5_1 < (l0.length : Int) := od_
      obtain ⟨ad242, e242, hx242_0, hx242_1⟩ := at_T46 HR0.out x5_1 p242 q242
      cases e242
      replace hx242_0 := (HB.out.cell (World.block_lt_of_cell? w _ hx242_0)).trans hx242_0
      replace hx242_1 := (HB.out.cell (World.block_lt_of_cell? w _ hx242_1)).trans hx242_1
      replace p242 := eq_true p242
      replace q242 := eq_true q242
      have hcz8_0 : wr.cell? ⟨gb241, 0, none⟩ = some (.int .i64 a1_0) := (blk_cell BK241.out 0).trans rfl
      have hcz8_1 : wr.cell? ⟨gb241, 1, none⟩ = some (.int .i64 a1_1) := (blk_cell BK241.out 1).trans rfl
      have hfz8_0 := blk_frozen BK241.out 0
      have hfz8_1 := blk_frozen BK241.out 1
      go_wp2
      repeat (go_quiet (fail); try go_wp2)
      go_roundg k1
      case measure => have := HK1.out; omega
      case rel => exact ⟨(wrap64 (x5_1 + 1)), rs_, H', ⟨by have := HK1.out; omega⟩, ⟨bk_ BK241.out⟩, ⟨bl1_ GE241.out⟩⟩
    ·rw [if_neg c5] at H
     exact absurd H (by simp)
   ·rw [if_neg c4] at H
    have c4b0 : decide (x5_1 < (l0.length : Int)) = false := decide_eq_false c4
    clear c4
    obtain rfl := Option.some.inj H
    go_wp2
    repeat (go_quiet (fail); try go_wp2)
    go_ret
    exact ⟨er_, bl1_ GE241.out⟩

/-! ### spec_l02Around: function 118 -/
def spec_l02Around.f (a0_0 : Int) (a0_1 : Int) : Option ((List (S46))) := some (([(⟨a0_0, wrap64 (a0_1 - 1)⟩ : S46), (⟨wrap64 (a0_0 - 1), a0_1⟩ : S46), (⟨wrap64 (a0_0 + 1), a0_1⟩ : S46), (⟨a0_0, wrap64 (a0_1 + 1)⟩ : S46)] : List (S46)))
set_option maxHeartbeats 8000000 in
set_option maxRecDepth 100000 in
theorem spec_l02Around.calls (a0_0 : Int) (a0_1 : Int) (r : List (S46)) (w : World) (h : spec_l02Around.f a0_0 a0_1 = some r) :
  Calls Tryz.prog 118 #[.agg #[.int .i64 a0_0, .int .i64 a0_1]] w fun e w' => ∃ v0_ : Value, e = .returned (v0_) ∧ Kd.R k46 46 w' w.heap.size (fun _ => True) v0_ r ∧ Below w.heap.size w w' := by
 have hu46 := Tryz.underlying46
 have HB := a0_ (Below.refl w.heap.size w)
 have H := h
 clear h
 unfold spec_l02Around.f at H
 obtain ⟨y244, hy244⟩ : ∃ y_ : List (S46), y_ = (([(⟨a0_0, wrap64 (a0_1 - 1)⟩ : S46), (⟨wrap64 (a0_0 - 1), a0_1⟩ : S46), (⟨wrap64 (a0_0 + 1), a0_1⟩ : S46), (⟨a0_0, wrap64 (a0_1 + 1)⟩ : S46)] : List (S46))) := ⟨_, rfl⟩
 replace H : (some y244) = some r := hh_ hy244 H
 have Ny244 := Aside0.mk hy244
 clear hy244
 obtain rfl := Option.some.inj H
 go_enter Tryz.func118, Tryz.ntmps118
 go_wp2_with (first | ((with_reducible refine gate_dst (N := 1) rfl ?_); refine bx_ (N := 1) (cs := #[.int .i64 a0_0, .int .i64 a0_1]) (t := 46) ?_; intro gb243 hg w2 hbox hb; have BK243 := a0_ (hbox); have GW243 := a0_ ((sz_ hg (bl0_) : w.heap.size ≤ gb243)); have GE243 := a0_ ((sz_ hg (bl0_) : w.heap.size ≤ gb243)); replace HB := a0_ (below_step (bl0_) hb); clear hb hbox hg; obtain ⟨hcz3_0, hcz3_1, hfz3_0, hfz3_1⟩ := bc2_ BK243.out) | ((with_reducible refine gate_dst (N := 27) rfl ?_); refine Kd.R_lit k46 _ 46 ?hg (N := 27) ?hd (xs := ([(⟨a0_0, wrap64 (a0_1 - 1)⟩ : S46), (⟨wrap64 (a0_0 - 1), a0_1⟩ : S46), (⟨wrap64 (a0_0 + 1), a0_1⟩ : S46), (⟨a0_0, wrap64 (a0_1 + 1)⟩ : S46)] : List (S46))) (inner := [.int .i64 a0_0, .int .i64 (wrap64 (a0_1 - 1)), .int .i64 (wrap64 (a0_0 - 1)), .int .i64 a0_1, .int .i64 (wrap64 (a0_0 + 1)), .int .i64 a0_1, .int .i64 a0_0, .int .i64 (wrap64 (a0_1 + 1))]) (ok := fun _ => True) (okp := fun _ => True) ?hr ?hp (fun _ hk => hk) trivial (Below.refl _ _) (Nat.le_refl _) (by simp) ?_; (case hd => rfl); (case hg => rfl); (case hr => first | (go_simp; done) | (go_simp; rfl)); (case hp => exact (Reps.c2 (show Kd.M k46 _ _ _ (⟨a0_0, wrap64 (a0_1 - 1)⟩ : S46) [.int .i64 a0_0, .int .i64 (wrap64 (a0_1 - 1))] from (k46_mkM _ _ _ (⟨a0_0, wrap64 (a0_1 - 1)⟩ : S46) )) (Reps.c2 (show Kd.M k46 _ _ _ (⟨wrap64 (a0_0 - 1), a0_1⟩ : S46) [.int .i64 (wrap64 (a0_0 - 1)), .int .i64 a0_1] from (k46_mkM _ _ _ (⟨wrap64 (a0_0 - 1), a0_1⟩ : S46) )) (Reps.c2 (show Kd.M k46 _ _ _ (⟨wrap64 (a0_0 + 1), a0_1⟩ : S46) [.int .i64 (wrap64 (a0_0 + 1)), .int .i64 a0_1] from (k46_mkM _ _ _ (⟨wrap64 (a0_0 + 1), a0_1⟩ : S46) )) (Reps.c2 (show Kd.M k46 _ _ _ (⟨a0_0, wrap64 (a0_1 + 1)⟩ : S46) [.int .i64 a0_0, .int .i64 (wrap64 (a0_1 + 1))] from (k46_mkM _ _ _ (⟨a0_0, wrap64 (a0_1 + 1)⟩ : S46) )) (Reps.none _ _)))))); intro v245 w4 ho5 hb hg_ hnew_; clear hg_ hnew_; (first | rw [← Ny244.out] at ho5 | (simp only [Int.reduceToNat] at ho5; rw [← Ny244.out] at ho5)); have HO246 := a0_ (Kd.R_lower (Kd.R_newB ho5 (g := gb243) (o := .cells #[.int .i64 a0_0, .int .i64 a0_1] 46 (0, 0)) (bk_ BK243.out)) (below_size (bl1_ GE243.out))); replace BK243 := a0_ (bb_ BK243.out hb); replace HB := a0_ (below_step (bl1_ GE243.out) hb); clear hb ho5))
 go_ret
 exact ⟨_, er_, by (with_reducible repeat (first | apply Kd.R_alloc | apply Kd.R_drewN | apply Kd.R_drew)); exact Kd.R_mono HO246.out (fun _ hk => trivial), bl1_ GE243.out⟩

/-! ### spec_l02Neighbours: function 97 -/
mutual
def spec_l02Neighbours.l0 : Nat → List (S46) → List (S46) → Int → Option ((List (S46)))
 | 0, _, _, _ => none
 | k + 1, x0, x3, x4 => if x4 < (x0.length : Int) then (if 0 ≤ x4 then ((spec_l02Around.f ((rd_T46 x0 x4).f0) ((rd_T46 x0 x4).f1)).bind fun t251 => (spec_l02Neighbours.l1 k x0 x3 x4 t251 0)) else (none)) else (some x3)
def spec_l02Neighbours.l1 : Nat → List (S46) → List (S46) → Int → List (S46) → Int → Option ((List (S46)))
 | 0, _, _, _, _, _ => none
 | k + 1, x0, x3, x4, x5, x6 => if x6 < 4 then (if 0 ≤ x6 then (if x6 < (x5.length : Int) then ((spec_l02Index.f k x0 ((rd_T46 x5 x6).f0) ((rd_T46 x5 x6).f1)).bind fun t255 => (if t255 < 0 then ((spec_l02Index.f k x3 ((rd_T46 x5 x6).f0) ((rd_T46 x5 x6).f1)).bind fun t257 => (if t257 < 0 then ((spec_l02Insert.f k x3 ((rd_T46 x5 x6).f0) ((rd_T46 x5 x6).f1)).bind fun t259 => (spec_l02Neighbours.l1 k x0 t259 x4 x5 (wrap64 (x6 + 1)))) else (spec_l02Neighbours.l1 k x0 x3 x4 x5 (wrap64 (x6 + 1))))) else (spec_l02Neighbours.l1 k x0 x3 x4 x5 (wrap64 (x6 + 1))))) else (none)) else (none)) else (spec_l02Neighbours.l0 k x0 x3 (wrap64 (x4 + 1)))
end
def spec_l02Neighbours.f (k : Nat) (l0 : List (S46)) : Option ((List (S46))) := spec_l02Neighbours.l0 k l0 (([] : List (S46))) 0
theorem spec_l02Neighbours.mono_l : ∀ k, (∀ y0 y1 y2, LeO (spec_l02Neighbours.l0 k y0 y1 y2) (spec_l02Neighbours.l0 (k + 1) y0 y1 y2)) ∧ (∀ y0 y1 y2 y3 y4, LeO (spec_l02Neighbours.l1 k y0 y1 y2 y3 y4) (spec_l02Neighbours.l1 (k + 1) y0 y1 y2 y3 y4))
 | 0 => ⟨fun _ _ _ r h => by simp [spec_l02Neighbours.l0] at h, fun _ _ _ _ _ r h => by simp [spec_l02Neighbours.l1] at h⟩
 | k + 1 => by
  obtain ⟨ih0, ih1⟩ := spec_l02Neighbours.mono_l k
  refine ⟨?_, ?_⟩
  ·intro y0 y1 y2
   unfold spec_l02Neighbours.l0
   with_reducible (repeat' first | exact ih0 _ _ _ | exact ih1 _ _ _ _ _ | exact spec_l02Index.mono _ _ _ _ | exact spec_l02Insert.mono _ _ _ _ | exact LeO.refl _ | exact LeO.none _ | refine LeO.ite ?_ ?_ | refine LeO.bind ?_ (fun _ => ?_))
  ·intro y0 y1 y2 y3 y4
   unfold spec_l02Neighbours.l1
   with_reducible (repeat' first | exact ih0 _ _ _ | exact ih1 _ _ _ _ _ | exact spec_l02Index.mono _ _ _ _ | exact spec_l02Insert.mono _ _ _ _ | exact LeO.refl _ | exact LeO.none _ | refine LeO.ite ?_ ?_ | refine LeO.bind ?_ (fun _ => ?_))
theorem spec_l02Neighbours.mono : ∀ a0 k, LeO (spec_l02Neighbours.f k a0) (spec_l02Neighbours.f (k + 1) a0) := by
 intro a0 k
 obtain ⟨ih0, ih1⟩ := spec_l02Neighbours.mono_l k
 unfold spec_l02Neighbours.f
 with_reducible (repeat' first | exact ih0 _ _ _ | exact ih1 _ _ _ _ _ | exact spec_l02Index.mono _ _ _ _ | exact spec_l02Insert.mono _ _ _ _ | exact LeO.refl _ | exact LeO.none _ | refine LeO.ite ?_ ?_ | refine LeO.bind ?_ (fun _ => ?_))
set_option maxHeartbeats 8000000 in
set_option maxRecDepth 100000 in
theorem spec_l02Neighbours.calls (k : Nat) (A0 : Option Addr) (c0 : Nat) (l0 : List (S46)) (r : List (S46)) (w : World) (hr0 : Kd.C k46 w A0 l0.length l0) (hc0 : l0.length ≤ c0) (h : spec_l02Neighbours.f k l0 = some r) :
  Calls Tryz.prog 97 #[.slice A0 l0.length c0] w fun e w' => ∃ v0_ : Value, e = .returned (v0_) ∧ Kd.R k46 46 w' w.heap.size (fun _ => True) v0_ r ∧ Below w.heap.size w w' := by
 have hu46 := Tryz.underlying46
 have HR0 := Aside0.mk hr0
 have HC0 := Aside0.mk hc0
 clear hr0 hc0
 have HB := a0_ (Below.refl w.heap.size w)
 have H : (spec_l02Neighbours.l0 k l0 (([] : List (S46))) 0) = some r := h
 clear h
 obtain ⟨y247, hy247⟩ : ∃ y_ : List (S46), y_ = (([] : List (S46))) := ⟨_, rfl⟩
 replace H : (spec_l02Neighbours.l0 k l0 y247 0) = some r := hh_ hy247 H
 have Ny247 := Aside0.mk hy247
 clear hy247
 have H' := Aside0.mk H
 clear H
 go_enter Tryz.func97, Tryz.ntmps97
 go_wp2_with (first | ((with_reducible refine gate_dst (N := 7) rfl ?_); refine Kd.R_lit k46 _ 46 ?hg (N := 7) ?hd (xs := ([] : List (S46))) (inner := []) (ok := fun _ => True) (okp := fun _ => True) ?hr ?hp (fun _ hk => hk) trivial (Below.refl _ _) (Nat.le_refl _) (by simp) ?_; (case hd => rfl); (case hg => rfl); (case hr => first | (go_simp; done) | (go_simp; rfl)); (case hp => exact (Reps.none _ _)); intro v248 w2 ho3 hb hg_ hnew_; clear hg_ hnew_; (first | rw [← Ny247.out] at ho3 | (simp only [Int.reduceToNat] at ho3; rw [← Ny247.out] at ho3)); have HO249 := a0_ (Kd.R_lower ho3 (below_size (bl0_))); replace HB := a0_ (below_step (bl0_) hb); clear hb ho3))
 go_loopg [3, 4] k (fun kq v3 v4 w' => ∃ (x3_1 : List (S46)) (x4_1 : Int), v4 = .int .i64 x4_1 ∧ Aside0 (spec_l02Neighbours.l0 kq l0 x3_1 x4_1 = some r) ∧ Aside0 (kq ≤ k) ∧ Aside0 (Kd.R k46 46 w' w.heap.size (fun _ => True) v3 x3_1) ∧ Aside0 (Below w.heap.size w w'))
 case atStart => exact ⟨(y247), (0), rs_, H', ⟨Nat.le_refl _⟩, ⟨ra_ HO249.out⟩, ⟨bl0_⟩⟩
 case round =>
  clear H'
  try clear p2
  obtain ⟨x3_1, x4_1, rfl, HA, HK1, HO_3, HB⟩ := hrel
  cases gk with
  | zero => exact absurd HA.out (by simp [spec_l02Neighbours.l0])
  | succ k1 =>
   have H := HA.out
   clear HA
   simp only [spec_l02Neighbours.l0] at H
   by_cases c4 : x4_1 < (l0.length : Int)
   ·rw [if_pos c4] at H
    have c4b0 : decide (x4_1 < (l0.length : Int)) = true := decide_eq_true c4
    clear c4
    by_cases c5 : 0 ≤ x4_1
    ·rw [if_pos c5] at H
     have c5b0 : decide (0 ≤ x4_1) = true := decide_eq_true c5
     clear c5
     obtain ⟨t251, A6, H⟩ := bs_ H
     have H' := Aside0.mk H
     clear H
     have p250 : 0 ≤ (x4_1 : Int) := od_
     have q250 : x4_1 < (l0.length : Int) := od_
     obtain ⟨ad250, e250, hx250_0, hx250_1⟩ := at_T46 HR0.out x4_1 p250 q250
     cases e250
     replace hx250_0 := (HB.out.cell (World.block_lt_of_cell? w _ hx250_0)).trans hx250_0
     replace hx250_1 := (HB.out.cell (World.block_lt_of_cell? w _ hx250_1)).trans hx250_1
     replace p250 := eq_true p250
     replace q250 := eq_true q250
     go_wp2_with (first | ((with_reducible refine gate_callee (f := 118) rfl ?_); refine goesL_ (some 18) rfl rfl Tryz.func118 kr_ rfl #[.agg #[.int .i64 ((rd_T46 l0 x4_1).f0), .int .i64 ((rd_T46 l0 x4_1).f1)]] rfl ta_ ?_; (with_reducible refine (spec_l02Around.calls ((rd_T46 l0 x4_1).f0) ((rd_T46 l0 x4_1).f1) t251 _ A6.out).mono ?_); rintro e w7 ⟨v252, rfl, ho0, hb⟩; refine ⟨_, rfl, ?_⟩; have HO253 := a0_ (Kd.R_lower (Kd.R_new' ho0 (Kd.R_lt (ra_ HO_3.out))) (below_size (bl0_))); replace HO_3 := a0_ (Kd.R_elder' (ra_ HO_3.out) (Kd.R_base ho0) hb); replace HB := a0_ (below_step (bl0_) hb); (try clear hb); (try clear hb2); (try clear hk); (try clear hi); (try clear ho0)))
     go_loopg [3, 6] k1 (fun kq v3 v6 w' => ∃ (x3_2 : List (S46)) (x6_2 : Int), v6 = .int .i64 x6_2 ∧ Aside0 (spec_l02Neighbours.l1 kq l0 x3_2 x4_1 t251 x6_2 = some r) ∧ Aside0 (kq ≤ k1) ∧ Aside0 (Kd.R k46 46 w' w.heap.size (fun k_ => some k_ ≠ (v252 : Value).ownBlock) v3 x3_2) ∧ Aside0 (Kd.R k46 46 w' w.heap.size (fun k_ => some k_ ≠ (v3 : Value).ownBlock) v252 t251) ∧ Aside0 (Below w.heap.size w w'))
     case atStart => exact ⟨(x3_1), (0), rs_, H', ⟨Nat.le_refl _⟩, ⟨by (with_reducible repeat (first | apply Kd.R_alloc | apply Kd.R_drewN | apply Kd.R_drew)); exact Kd.R_mono HO_3.out (fun _ hk => hk.2)⟩, ⟨by (with_reducible repeat (first | apply Kd.R_alloc | apply Kd.R_drewN | apply Kd.R_drew)); exact Kd.R_mono HO253.out (fun _ hk => hk.2)⟩, ⟨bl0_⟩⟩
     case round =>
      clear H'
      try clear c1
      try clear p2
      try clear q2
      try clear hx2
      try clear c4
      try clear c4b0
      try clear c5
      try clear c5b0
      try clear hx250_0
      try clear hx250_1
      try clear p2
      try clear p250
      try clear q250
      obtain ⟨x3_2, x6_2, rfl, HA, HK2, HO_3, HO_5, HB⟩ := hrel
      cases gk with
      | zero => exact absurd HA.out (by simp [spec_l02Neighbours.l1])
      | succ k2 =>
       have H := HA.out
       clear HA
       simp only [spec_l02Neighbours.l1] at H
       by_cases c8 : x6_2 < 4
       ·rw [if_pos c8] at H
        have c8b0 : decide (x6_2 < 4) = true := decide_eq_true c8
        clear c8
        by_cases c9 : 0 ≤ x6_2
        ·rw [if_pos c9] at H
         have c9b0 : decide (0 ≤ x6_2) = true := decide_eq_true c9
         clear c9
         by_cases c10 : x6_2 < (t251.length : Int)
         ·rw [if_pos c10] at H
          have c10b0 : decide (x6_2 < (t251.length : Int)) = true := decide_eq_true c10
          clear c10
          obtain ⟨t255, A11, H⟩ := bs_ H
          by_cases c12 : t255 < 0
          ·rw [if_pos c12] at H
           have c12b0 : decide (t255 < 0) = true := decide_eq_true c12
           clear c12
           obtain ⟨t257, A13, H⟩ := bs_ H
           by_cases c14 : t257 < 0
           ·rw [if_pos c14] at H
            have c14b0 : decide (t257 < 0) = true := decide_eq_true c14
            clear c14
            obtain ⟨t259, A15, H⟩ := bs_ H
            have H' := Aside0.mk H
            clear H
            obtain ⟨Ao16, co16, eo16⟩ := Kd.R_slice HO_5.out
            subst eo16
            have p254 : 0 ≤ (x6_2 : Int) := od_
            have q254 : x6_2 < (t251.length : Int) := od_
            obtain ⟨ad254, e254, hx254_0, hx254_1⟩ := at_T46 (Kd.R_reads' HO_5.out).2.2 x6_2 p254 q254
            cases e254
            replace p254 := eq_true p254
            replace q254 := eq_true q254
            go_wp2_with (first | ((with_reducible refine gate_callee (f := 83) rfl ?_); refine goesL_ (some 28) rfl rfl Tryz.func83 kr_ rfl #[.slice (some ad250) l0.length c0, .agg #[.int .i64 ((rd_T46 t251 x6_2).f0), .int .i64 ((rd_T46 t251 x6_2).f1)]] rfl ta_ ?_; (with_reducible refine (spec_l02Index.calls k2 _ _ l0 ((rd_T46 t251 x6_2).f0) ((rd_T46 t251 x6_2).f1) t255 _ ?side1 ?side2 A11.out).mono ?_); (case side1 => exact ca_ (Kd.C_below HR0.out HB.out)); (case side2 => exact HC0.out); rintro e w17 ⟨rfl, hb⟩; refine ⟨_, rfl, ?_⟩; replace HO_3 := a0_ (Kd.R_below (ra_ HO_3.out) hb); replace HO_5 := a0_ (Kd.R_below (ra_ HO_5.out) hb); replace HB := a0_ (below_step (bl0_) hb); (try clear hb); (try clear hb2); (try clear hk); (try clear hi); have p256 : 0 ≤ (x6_2 : Int) := od_; have q256 : x6_2 < (t251.length : Int) := od_; obtain ⟨ad256, e256, hx256_0, hx256_1⟩ := at_T46 (Kd.R_reads' HO_5.out).2.2 x6_2 p256 q256; obtain rfl : ad254 = ad256 := (by injection e256); replace p256 := eq_true p256; replace q256 := eq_true q256; obtain ⟨Ao18, co18, eo18⟩ := Kd.R_slice HO_3.out; subst eo18) | (go_at_call 83; (with_reducible refine (spec_l02Index.calls k2 _ _ x3_2 ((rd_T46 t251 x6_2).f0) ((rd_T46 t251 x6_2).f1) t257 _ ?side1 ?side2 A13.out).mono ?_); (case side1 => exact ca_ (Kd.R_reads' HO_3.out).2.2); (case side2 => exact (Kd.R_reads' HO_3.out).2.1); rintro e w19 ⟨rfl, hb⟩; replace HO_3 := a0_ (Kd.R_below (ra_ HO_3.out) hb); replace HO_5 := a0_ (Kd.R_below (ra_ HO_5.out) hb); replace HB := a0_ (below_step (bl0_) hb); (try clear hb); (try clear hb2); (try clear hk); (try clear hi); have p258 : 0 ≤ (x6_2 : Int) := od_; have q258 : x6_2 < (t251.length : Int) := od_; obtain ⟨ad258, e258, hx258_0, hx258_1⟩ := at_T46 (Kd.R_reads' HO_5.out).2.2 x6_2 p258 q258; obtain rfl : ad254 = ad258 := (by injection e258); replace p258 := eq_true p258; replace q258 := eq_true q258) | ((with_reducible refine gate_callee (f := 86) rfl ?_); refine goesL_ (some 44) rfl rfl Tryz.func86 kr_ rfl #[.slice Ao18 x3_2.length co18, .agg #[.int .i64 ((rd_T46 t251 x6_2).f0), .int .i64 ((rd_T46 t251 x6_2).f1)]] rfl ta_ ?_; (with_reducible refine (spec_l02Insert.calls k2 _ _ x3_2 ((rd_T46 t251 x6_2).f0) ((rd_T46 t251 x6_2).f1) t259 _ ?side1 ?side2 A15.out).mono ?_); (case side1 => exact ca_ (Kd.R_reads' HO_3.out).2.2); (case side2 => exact (Kd.R_reads' HO_3.out).2.1); rintro e w20 ⟨v260, rfl, ho0, hb⟩; refine ⟨_, rfl, ?_⟩; have HO261 := a0_ (Kd.R_lower (Kd.R_new' (Kd.R_new' ho0 (Kd.R_lt (ra_ HO_3.out))) (Kd.R_lt (ra_ HO_5.out))) (below_size (bl0_))); replace HO_3 := a0_ (Kd.R_elder' (ra_ HO_3.out) (Kd.R_base ho0) hb); replace HO_5 := a0_ (Kd.R_elder' (ra_ HO_5.out) (Kd.R_base ho0) hb); replace HB := a0_ (below_step (bl0_) hb); (try clear hb); (try clear hb2); (try clear hk); (try clear hi); (try clear ho0)))
            go_roundg k2
            case measure => have := HK1.out; have := HK2.out; omega
            case rel => exact ⟨(t259), (wrap64 (x6_2 + 1)), rs_, H', ⟨by have := HK1.out; have := HK2.out; omega⟩, ⟨by (with_reducible repeat (first | apply Kd.R_alloc | apply Kd.R_drewN | apply Kd.R_drew)); exact Kd.R_mono HO261.out (fun _ hk => hk.2)⟩, ⟨by (with_reducible repeat (first | apply Kd.R_alloc | apply Kd.R_drewN | apply Kd.R_drew)); exact Kd.R_mono HO_5.out (fun _ hk => hk.2)⟩, ⟨bl0_⟩⟩
           ·rw [if_neg c14] at H
            have c14b0 : decide (t257 < 0) = false := decide_eq_false c14
            clear c14
            have H' := Aside0.mk H
            clear H
            obtain ⟨Ao21, co21, eo21⟩ := Kd.R_slice HO_5.out
            subst eo21
            have p254 : 0 ≤ (x6_2 : Int) := od_
            have q254 : x6_2 < (t251.length : Int) := od_
            obtain ⟨ad254, e254, hx254_0, hx254_1⟩ := at_T46 (Kd.R_reads' HO_5.out).2.2 x6_2 p254 q254
            cases e254
            replace p254 := eq_true p254
            replace q254 := eq_true q254
            go_wp2_with (first | ((with_reducible refine gate_callee (f := 83) rfl ?_); refine goesL_ (some 28) rfl rfl Tryz.func83 kr_ rfl #[.slice (some ad250) l0.length c0, .agg #[.int .i64 ((rd_T46 t251 x6_2).f0), .int .i64 ((rd_T46 t251 x6_2).f1)]] rfl ta_ ?_; (with_reducible refine (spec_l02Index.calls k2 _ _ l0 ((rd_T46 t251 x6_2).f0) ((rd_T46 t251 x6_2).f1) t255 _ ?side1 ?side2 A11.out).mono ?_); (case side1 => exact ca_ (Kd.C_below HR0.out HB.out)); (case side2 => exact HC0.out); rintro e w22 ⟨rfl, hb⟩; refine ⟨_, rfl, ?_⟩; replace HO_3 := a0_ (Kd.R_below (ra_ HO_3.out) hb); replace HO_5 := a0_ (Kd.R_below (ra_ HO_5.out) hb); replace HB := a0_ (below_step (bl0_) hb); (try clear hb); (try clear hb2); (try clear hk); (try clear hi); have p256 : 0 ≤ (x6_2 : Int) := od_; have q256 : x6_2 < (t251.length : Int) := od_; obtain ⟨ad256, e256, hx256_0, hx256_1⟩ := at_T46 (Kd.R_reads' HO_5.out).2.2 x6_2 p256 q256; obtain rfl : ad254 = ad256 := (by injection e256); replace p256 := eq_true p256; replace q256 := eq_true q256; obtain ⟨Ao23, co23, eo23⟩ := Kd.R_slice HO_3.out; subst eo23) | (go_at_call 83; (with_reducible refine (spec_l02Index.calls k2 _ _ x3_2 ((rd_T46 t251 x6_2).f0) ((rd_T46 t251 x6_2).f1) t257 _ ?side1 ?side2 A13.out).mono ?_); (case side1 => exact ca_ (Kd.R_reads' HO_3.out).2.2); (case side2 => exact (Kd.R_reads' HO_3.out).2.1); rintro e w24 ⟨rfl, hb⟩; replace HO_3 := a0_ (Kd.R_below (ra_ HO_3.out) hb); replace HO_5 := a0_ (Kd.R_below (ra_ HO_5.out) hb); replace HB := a0_ (below_step (bl0_) hb); (try clear hb); (try clear hb2); (try clear hk); (try clear hi)))
            go_roundg k2
            case measure => have := HK1.out; have := HK2.out; omega
            case rel => exact ⟨(x3_2), (wrap64 (x6_2 + 1)), rs_, H', ⟨by have := HK1.out; have := HK2.out; omega⟩, ⟨ra_ HO_3.out⟩, ⟨ra_ HO_5.out⟩, ⟨bl0_⟩⟩
          ·rw [if_neg c12] at H
           have c12b0 : decide (t255 < 0) = false := decide_eq_false c12
           clear c12
           have H' := Aside0.mk H
           clear H
           obtain ⟨Ao25, co25, eo25⟩ := Kd.R_slice HO_5.out
           subst eo25
           have p254 : 0 ≤ (x6_2 : Int) := od_
           have q254 : x6_2 < (t251.length : Int) := od_
           obtain ⟨ad254, e254, hx254_0, hx254_1⟩ := at_T46 (Kd.R_reads' HO_5.out).2.2 x6_2 p254 q254
           cases e254
           replace p254 := eq_true p254
           replace q254 := eq_true q254
           go_wp2_with (first | ((with_reducible refine gate_callee (f := 83) rfl ?_); refine goesL_ (some 28) rfl rfl Tryz.func83 kr_ rfl #[.slice (some ad250) l0.length c0, .agg #[.int .i64 ((rd_T46 t251 x6_2).f0), .int .i64 ((rd_T46 t251 x6_2).f1)]] rfl ta_ ?_; (with_reducible refine (spec_l02Index.calls k2 _ _ l0 ((rd_T46 t251 x6_2).f0) ((rd_T46 t251 x6_2).f1) t255 _ ?side1 ?side2 A11.out).mono ?_); (case side1 => exact ca_ (Kd.C_below HR0.out HB.out)); (case side2 => exact HC0.out); rintro e w26 ⟨rfl, hb⟩; refine ⟨_, rfl, ?_⟩; replace HO_3 := a0_ (Kd.R_below (ra_ HO_3.out) hb); replace HO_5 := a0_ (Kd.R_below (ra_ HO_5.out) hb); replace HB := a0_ (below_step (bl0_) hb); (try clear hb); (try clear hb2); (try clear hk); (try clear hi)))
           go_roundg k2
           case measure => have := HK1.out; have := HK2.out; omega
           case rel => exact ⟨(x3_2), (wrap64 (x6_2 + 1)), rs_, H', ⟨by have := HK1.out; have := HK2.out; omega⟩, ⟨ra_ HO_3.out⟩, ⟨ra_ HO_5.out⟩, ⟨bl0_⟩⟩
         ·rw [if_neg c10] at H
          exact absurd H (by simp)
        ·rw [if_neg c9] at H
         exact absurd H (by simp)
       ·rw [if_neg c8] at H
        have c8b0 : decide (x6_2 < 4) = false := decide_eq_false c8
        clear c8
        have H' := Aside0.mk H
        clear H
        go_wp2
        go_roundg k2
        case measure => have := HK1.out; have := HK2.out; omega
        case rel => exact ⟨(x3_2), (wrap64 (x4_1 + 1)), rs_, H', ⟨by have := HK1.out; have := HK2.out; omega⟩, ⟨by (with_reducible repeat (first | apply Kd.R_alloc | apply Kd.R_drewN | apply Kd.R_drew)); exact Kd.R_mono HO_3.out (fun _ hk => trivial)⟩, ⟨bl0_⟩⟩
    ·rw [if_neg c5] at H
     exact absurd H (by simp)
   ·rw [if_neg c4] at H
    have c4b0 : decide (x4_1 < (l0.length : Int)) = false := decide_eq_false c4
    clear c4
    obtain rfl := Option.some.inj H
    go_wp2
    go_ret
    exact ⟨_, er_, ra_ HO_3.out, bl0_⟩

/-! ### spec_l05Grow: function 95 -/
def spec_l05Grow.l0 : Nat → List (List (S46)) → List (S46) → List (S46) → Int → Option ((List (List (S46))))
 | 0, _, _, _, _ => none
 | k + 1, x0, x1, x5, x6 => if x6 < (x5.length : Int) then (if 0 ≤ x6 then ((spec_l02Insert.f k x1 ((rd_T46 x5 x6).f0) ((rd_T46 x5 x6).f1)).bind fun t266 => ((spec_l02Normal.f k t266).bind fun t269 => ((spec_l03Add.f k x0 t269).bind fun t272 => (spec_l05Grow.l0 k t272 x1 x5 (wrap64 (x6 + 1)))))) else (none)) else (some x0)
def spec_l05Grow.f (k : Nat) (l0 : List (List (S46))) (l1 : List (S46)) : Option ((List (List (S46)))) := (spec_l02Neighbours.f k l1).bind fun t262 => (spec_l05Grow.l0 k l0 l1 t262 0)
theorem spec_l05Grow.mono_l : ∀ k, (∀ y0 y1 y2 y3, LeO (spec_l05Grow.l0 k y0 y1 y2 y3) (spec_l05Grow.l0 (k + 1) y0 y1 y2 y3))
 | 0 => fun _ _ _ _ r h => by simp [spec_l05Grow.l0] at h
 | k + 1 => by
  have ih0 := spec_l05Grow.mono_l k
  ·intro y0 y1 y2 y3
   unfold spec_l05Grow.l0
   with_reducible (repeat' first | exact ih0 _ _ _ _ | exact spec_l02Insert.mono _ _ _ _ | exact spec_l02Neighbours.mono _ _ | exact spec_l02Normal.mono _ _ | exact spec_l03Add.mono _ _ _ | exact LeO.refl _ | exact LeO.none _ | refine LeO.ite ?_ ?_ | refine LeO.bind ?_ (fun _ => ?_))
theorem spec_l05Grow.mono : ∀ a0 a1 k, LeO (spec_l05Grow.f k a0 a1) (spec_l05Grow.f (k + 1) a0 a1) := by
 intro a0 a1 k
 have ih0 := spec_l05Grow.mono_l k
 unfold spec_l05Grow.f
 with_reducible (repeat' first | exact ih0 _ _ _ _ | exact spec_l02Insert.mono _ _ _ _ | exact spec_l02Neighbours.mono _ _ | exact spec_l02Normal.mono _ _ | exact spec_l03Add.mono _ _ _ | exact LeO.refl _ | exact LeO.none _ | refine LeO.ite ?_ ?_ | refine LeO.bind ?_ (fun _ => ?_))
set_option maxHeartbeats 8000000 in
set_option maxRecDepth 100000 in
theorem spec_l05Grow.calls (k : Nat) (P0_ : Nat → Prop) (A0 : Option Addr) (c0 : Nat) (l0 : List (List (S46))) (A1 : Option Addr) (c1 : Nat) (l1 : List (S46)) (r : List (List (S46))) (w : World) (hs0 : Kd.V (Kd.slice 46 k46) 35 w w.heap.size (fun k_ => P0_ k_) (.slice A0 l0.length c0) l0) (hr1 : Kd.C k46 w A1 l1.length l1) (hc1 : l1.length ≤ c1) (h : spec_l05Grow.f k l0 l1 = some r) :
  Calls Tryz.prog 95 #[.slice A0 l0.length c0, .slice A1 l1.length c1] w fun e w' => ∃ v0_ : Value, e = .returned (v0_) ∧ Kd.V (Kd.slice 46 k46) 35 w' w.heap.size (fun k_ => (P0_ k_ ∨ w.heap.size ≤ k_)) v0_ r ∧ Below w.heap.size w w' := by
 have hu46 := Tryz.underlying46
 have HO0 := a0_ (show Kd.V (Kd.slice 46 k46) 35 w w.heap.size (fun k_ => (P0_ k_ ∨ w.heap.size ≤ k_)) (.slice A0 l0.length c0) l0 from Kd.V_mono hs0 (fun k_ hk => .inl hk))
 have HR1 := Aside0.mk hr1
 have HC1 := Aside0.mk hc1
 clear hr1 hc1
 have HB := a0_ (Below.refl w.heap.size w)
 have H := h
 clear h
 unfold spec_l05Grow.f at H
 obtain ⟨t262, A3, H⟩ := bs_ H
 have H' := Aside0.mk H
 clear H
 go_enter Tryz.func95, Tryz.ntmps95
 go_wp2_with (first | ((with_reducible refine gate_callee (f := 97) rfl ?_); refine goesL_ (some 8) rfl rfl Tryz.func97 kr_ rfl #[.slice A1 l1.length c1] rfl ta_ ?_; (with_reducible refine (spec_l02Neighbours.calls k _ _ l1 t262 _ ?side1 ?side2 A3.out).mono ?_); (case side1 => exact ca_ HR1.out); (case side2 => exact HC1.out); rintro e w4 ⟨v263, rfl, ho0, hb⟩; refine ⟨_, rfl, ?_⟩; replace HO0 := a0_ (Kd.V_elder' (va_ HO0.out) (Kd.R_base ho0) hb); have HO264 := a0_ (Kd.R_lower (Kd.R_newM (M := fun k_ => (w.heap.size ≤ k_)) ho0 (below_size (bl0_)) (fun k_ h_ => h_)) (below_size (bl0_))); replace HB := a0_ (below_step (bl0_) hb); (try clear hb); (try clear hb2); (try clear hk); (try clear hi); (try clear ho0)))
 go_loopg [0, 6] k (fun kq v0 v6 w' => ∃ (x0_1 : List (List (S46))) (x6_1 : Int), v6 = .int .i64 x6_1 ∧ Aside0 (spec_l05Grow.l0 kq x0_1 l1 t262 x6_1 = some r) ∧ Aside0 (kq ≤ k) ∧ Aside0 (Kd.V (Kd.slice 46 k46) 35 w' w.heap.size (fun k_ => (P0_ k_ ∨ w.heap.size ≤ k_) ∧ some k_ ≠ (v263 : Value).ownBlock) v0 x0_1) ∧ Aside0 (Kd.R k46 46 w' w.heap.size (fun k_ => (w.heap.size ≤ k_)) v263 t262) ∧ Aside0 (Below w.heap.size w w'))
 case atStart => exact ⟨(l0), (0), rs_, H', ⟨Nat.le_refl _⟩, ⟨va_ HO0.out⟩, ⟨by (with_reducible repeat (first | apply Kd.R_alloc | apply Kd.R_drewN | apply Kd.R_drew)); exact Kd.R_mono HO264.out (fun _ hk => hk.1)⟩, ⟨bl0_⟩⟩
 case round =>
  clear H'
  try clear c1
  try clear p2
  obtain ⟨x0_1, x6_1, rfl, HA, HK1, HO_0, HO_5, HB⟩ := hrel
  cases gk with
  | zero => exact absurd HA.out (by simp [spec_l05Grow.l0])
  | succ k1 =>
   have H := HA.out
   clear HA
   simp only [spec_l05Grow.l0] at H
   by_cases c5 : x6_1 < (t262.length : Int)
   ·rw [if_pos c5] at H
    have c5b0 : decide (x6_1 < (t262.length : Int)) = true := decide_eq_true c5
    clear c5
    by_cases c6 : 0 ≤ x6_1
    ·rw [if_pos c6] at H
     have c6b0 : decide (0 ≤ x6_1) = true := decide_eq_true c6
     clear c6
     obtain ⟨t266, A7, H⟩ := bs_ H
     obtain ⟨t269, A8, H⟩ := bs_ H
     obtain ⟨t272, A9, H⟩ := bs_ H
     have H' := Aside0.mk H
     clear H
     obtain ⟨Ao10, co10, eo10⟩ := Kd.R_slice HO_5.out
     subst eo10
     have p265 : 0 ≤ (x6_1 : Int) := od_
     have q265 : x6_1 < (t262.length : Int) := od_
     obtain ⟨ad265, e265, hx265_0, hx265_1⟩ := at_T46 (Kd.R_reads' HO_5.out).2.2 x6_1 p265 q265
     cases e265
     replace p265 := eq_true p265
     replace q265 := eq_true q265
     go_wp2_with (first | ((with_reducible refine gate_callee (f := 86) rfl ?_); refine goesL_ (some 21) rfl rfl Tryz.func86 kr_ rfl #[.slice A1 l1.length c1, .agg #[.int .i64 ((rd_T46 t262 x6_1).f0), .int .i64 ((rd_T46 t262 x6_1).f1)]] rfl ta_ ?_; (with_reducible refine (spec_l02Insert.calls k1 _ _ l1 ((rd_T46 t262 x6_1).f0) ((rd_T46 t262 x6_1).f1) t266 _ ?side1 ?side2 A7.out).mono ?_); (case side1 => exact ca_ (Kd.C_below HR1.out HB.out)); (case side2 => exact HC1.out); rintro e w11 ⟨v267, rfl, ho0, hb⟩; refine ⟨_, rfl, ?_⟩; replace HO_0 := a0_ (Kd.V_elder' (va_ HO_0.out) (Kd.R_base ho0) hb); have HO268 := a0_ (Kd.R_lower (Kd.R_new' (Kd.R_newM (M := fun k_ => (w.heap.size ≤ k_)) ho0 (below_size (bl0_)) (fun k_ h_ => h_)) (Kd.R_lt (ra_ HO_5.out))) (below_size (bl0_))); replace HO_5 := a0_ (Kd.R_elder' (ra_ HO_5.out) (Kd.R_base ho0) hb); replace HB := a0_ (below_step (bl0_) hb); (try clear hb); (try clear hb2); (try clear hk); (try clear hi); (try clear ho0); obtain ⟨Ao12, co12, eo12⟩ := Kd.R_slice HO268.out; subst eo12) | ((with_reducible refine gate_callee (f := 64) rfl ?_); refine goesL_ (some 22) rfl rfl Tryz.func64 kr_ rfl #[.slice Ao12 t266.length co12] rfl ta_ ?_; (with_reducible refine (spec_l02Normal.calls k1 _ _ t266 t269 _ ?side1 ?side2 A8.out).mono ?_); (case side1 => exact ca_ (Kd.R_reads' HO268.out).2.2); (case side2 => exact (Kd.R_reads' HO268.out).2.1); rintro e w13 ⟨v270, rfl, ho0, hb⟩; refine ⟨_, rfl, ?_⟩; replace HO_0 := a0_ (Kd.V_elder' (va_ HO_0.out) (Kd.R_base ho0) hb); have HO271 := a0_ (Kd.R_lower (Kd.R_new' (Kd.R_new' (Kd.R_newM (M := fun k_ => (w.heap.size ≤ k_)) ho0 (below_size (bl0_)) (fun k_ h_ => h_)) (Kd.R_lt (ra_ HO_5.out))) (Kd.R_lt (ra_ HO268.out))) (below_size (bl0_))); replace HO_5 := a0_ (Kd.R_elder' (ra_ HO_5.out) (Kd.R_base ho0) hb); replace HO268 := a0_ (Kd.R_elder' (ra_ HO268.out) (Kd.R_base ho0) hb); replace HB := a0_ (below_step (bl0_) hb); (try clear hb); (try clear hb2); (try clear hk); (try clear hi); (try clear ho0); obtain ⟨Ao14, co14, eo14⟩ := Kd.V_slice HO_0.out; subst eo14; obtain ⟨Ao15, co15, eo15⟩ := Kd.R_slice HO271.out; subst eo15) | ((with_reducible refine gate_callee (f := 84) rfl ?_); refine goesL_ (some 23) rfl rfl Tryz.func84 kr_ rfl #[.slice Ao14 x0_1.length co14, .slice Ao15 t269.length co15] rfl ta_ ?_; (with_reducible refine (spec_l03Add.calls k1 (fun k_ => ((((P0_ k_ ∨ w.heap.size ≤ k_) ∧ some k_ ≠ (.slice (some ad265) t262.length co10 : Value).ownBlock) ∧ some k_ ≠ (.slice Ao12 t266.length co12 : Value).ownBlock) ∧ some k_ ≠ (.slice Ao15 t269.length co15 : Value).ownBlock)) _ _ x0_1 (fun k_ => some k_ = (.slice Ao15 t269.length co15 : Value).ownBlock) _ _ t269 t272 _ ?side1 ?side2 A9.out).mono ?_); (case side1 => exact HO_0.out); (case side2 => exact Kd.R_V (Kd.R_tight rfl (HO271.out))); rintro e w16 ⟨v273, rfl, ho0, hb⟩; refine ⟨_, rfl, ?_⟩; replace HO_0 := a0_ (Kd.V_below (va_ HO_0.out) hb); have HO274 := a0_ (Kd.V_lower (Kd.V_mono (ok' := fun k_ => (P0_ k_ ∨ w.heap.size ≤ k_) ∧ some k_ ≠ (.slice (some ad265) t262.length co10 : Value).ownBlock ∧ some k_ ≠ (.slice Ao12 t266.length co12 : Value).ownBlock) ho0 (fun k_ hk_ => ⟨Or.elim hk_ (fun hs_ => Or.elim hs_ (fun hs_ => hs_.1.1.1) (fun hs_ => (.inr (((HO271.out).1 k_ hs_.symm).1.1.1)))) (fun hn_ => (.inr (Nat.le_trans (below_size (bl0_)) hn_))), Or.elim hk_ (fun hs_ => Or.elim hs_ (fun hs_ => hs_.1.1.2) (fun hs_ => ((HO271.out).1 k_ hs_.symm).1.2)) (fun hn_ => (Kd.fresh' (Kd.R_lt (ra_ HO_5.out)) k_ hn_)), Or.elim hk_ (fun hs_ => Or.elim hs_ (fun hs_ => hs_.1.2) (fun hs_ => ((HO271.out).1 k_ hs_.symm).2)) (fun hn_ => (Kd.fresh' (Kd.R_lt (ra_ HO268.out)) k_ hn_))⟩)) (below_size (bl0_))); replace HO_5 := a0_ (Kd.R_below (ra_ HO_5.out) hb); replace HO268 := a0_ (Kd.R_below (ra_ HO268.out) hb); replace HO271 := a0_ (Kd.R_below (ra_ HO271.out) hb); replace HB := a0_ (below_step (bl0_) hb); (try clear hb); (try clear hb2); (try clear hk); (try clear hi); (try clear ho0)))
     go_roundg k1
     case measure => have := HK1.out; omega
     case rel => exact ⟨(t272), (wrap64 (x6_1 + 1)), rs_, H', ⟨by have := HK1.out; omega⟩, ⟨by (with_reducible repeat (first | apply Kd.V_alloc | apply Kd.V_drewN | apply Kd.V_drew)); exact Kd.V_mono HO274.out (fun _ hk => ⟨hk.1, hk.2.1⟩)⟩, ⟨by (with_reducible repeat (first | apply Kd.R_alloc | apply Kd.R_drewN | apply Kd.R_drew)); exact Kd.R_mono HO_5.out (fun _ hk => hk.1.1)⟩, ⟨bl0_⟩⟩
    ·rw [if_neg c6] at H
     exact absurd H (by simp)
   ·rw [if_neg c5] at H
    have c5b0 : decide (x6_1 < (t262.length : Int)) = false := decide_eq_false c5
    clear c5
    obtain rfl := Option.some.inj H
    obtain ⟨Ao17, co17, eo17⟩ := Kd.R_slice HO_5.out
    subst eo17
    go_wp2
    go_ret
    exact ⟨_, er_, by (with_reducible repeat (first | apply Kd.V_alloc | apply Kd.V_drewN | apply Kd.V_drew)); exact Kd.V_mono HO_0.out (fun _ hk => hk.1), bl0_⟩

/-! ### spec_l05Fixed: function 54 -/
mutual
def spec_l05Fixed.l0 : Nat → Int → List (List (S46)) → Int → Option ((List (List (S46))))
 | 0, _, _, _ => none
 | k + 1, x0, x3, x4 => if x4 < x0 then (spec_l05Fixed.l1 k x0 x3 x4 (([] : List (List (S46)))) 0) else (some x3)
def spec_l05Fixed.l1 : Nat → Int → List (List (S46)) → Int → List (List (S46)) → Int → Option ((List (List (S46))))
 | 0, _, _, _, _, _ => none
 | k + 1, x0, x3, x4, x5, x6 => if x6 < (x3.length : Int) then (if 0 ≤ x6 then ((spec_l05Grow.f k x5 (rd_L3 x3 x6)).bind fun t285 => (spec_l05Fixed.l1 k x0 x3 x4 t285 (wrap64 (x6 + 1)))) else (none)) else (spec_l05Fixed.l0 k x0 x5 (wrap64 (x4 + 1)))
end
def spec_l05Fixed.f (k : Nat) (a0 : Int) : Option ((List (List (S46)))) := spec_l05Fixed.l0 k a0 (([(([(⟨0, 0⟩ : S46)] : List (S46)))] : List (List (S46)))) 1
theorem spec_l05Fixed.mono_l : ∀ k, (∀ y0 y1 y2, LeO (spec_l05Fixed.l0 k y0 y1 y2) (spec_l05Fixed.l0 (k + 1) y0 y1 y2)) ∧ (∀ y0 y1 y2 y3 y4, LeO (spec_l05Fixed.l1 k y0 y1 y2 y3 y4) (spec_l05Fixed.l1 (k + 1) y0 y1 y2 y3 y4))
 | 0 => ⟨fun _ _ _ r h => by simp [spec_l05Fixed.l0] at h, fun _ _ _ _ _ r h => by simp [spec_l05Fixed.l1] at h⟩
 | k + 1 => by
  obtain ⟨ih0, ih1⟩ := spec_l05Fixed.mono_l k
  refine ⟨?_, ?_⟩
  ·intro y0 y1 y2
   unfold spec_l05Fixed.l0
   with_reducible (repeat' first | exact ih0 _ _ _ | exact ih1 _ _ _ _ _ | exact spec_l05Grow.mono _ _ _ | exact LeO.refl _ | exact LeO.none _ | refine LeO.ite ?_ ?_ | refine LeO.bind ?_ (fun _ => ?_))
  ·intro y0 y1 y2 y3 y4
   unfold spec_l05Fixed.l1
   with_reducible (repeat' first | exact ih0 _ _ _ | exact ih1 _ _ _ _ _ | exact spec_l05Grow.mono _ _ _ | exact LeO.refl _ | exact LeO.none _ | refine LeO.ite ?_ ?_ | refine LeO.bind ?_ (fun _ => ?_))
theorem spec_l05Fixed.mono : ∀ a0 k, LeO (spec_l05Fixed.f k a0) (spec_l05Fixed.f (k + 1) a0) := by
 intro a0 k
 obtain ⟨ih0, ih1⟩ := spec_l05Fixed.mono_l k
 unfold spec_l05Fixed.f
 with_reducible (repeat' first | exact ih0 _ _ _ | exact ih1 _ _ _ _ _ | exact spec_l05Grow.mono _ _ _ | exact LeO.refl _ | exact LeO.none _ | refine LeO.ite ?_ ?_ | refine LeO.bind ?_ (fun _ => ?_))
set_option maxHeartbeats 8000000 in
set_option maxRecDepth 100000 in
theorem spec_l05Fixed.calls (k : Nat) (a0 : Int) (r : List (List (S46))) (w : World) (h : spec_l05Fixed.f k a0 = some r) :
  Calls Tryz.prog 54 #[.int .i64 a0] w fun e w' => ∃ v0_ : Value, e = .returned (v0_) ∧ Kd.V (Kd.slice 46 k46) 35 w' w.heap.size (fun k_ => (w.heap.size ≤ k_)) v0_ r ∧ Below w.heap.size w w' := by
 have hu46 := Tryz.underlying46
 have HB := a0_ (Below.refl w.heap.size w)
 have H := h
 clear h
 unfold spec_l05Fixed.f at H
 obtain ⟨y275, hy275⟩ : ∃ y_ : List (S46), y_ = (([(⟨0, 0⟩ : S46)] : List (S46))) := ⟨_, rfl⟩
 replace H : (spec_l05Fixed.l0 k a0 (([y275] : List (List (S46)))) 1) = some r := hh_ hy275 H
 have Ny275 := Aside0.mk hy275
 clear hy275
 obtain ⟨y278, hy278⟩ : ∃ y_ : List (List (S46)), y_ = (([y275] : List (List (S46)))) := ⟨_, rfl⟩
 replace H : (spec_l05Fixed.l0 k a0 y278 1) = some r := hh_ hy278 H
 have Ny278 := Aside0.mk hy278
 clear hy278
 have H' := Aside0.mk H
 clear H
 go_enter Tryz.func54, Tryz.ntmps54
 go_wp2_with (first | ((with_reducible refine gate_dst (N := 8) rfl ?_); refine Kd.R_lit k46 _ 46 ?hg (N := 8) ?hd (xs := ([(⟨0, 0⟩ : S46)] : List (S46))) (inner := [.int .i64 0, .int .i64 0]) (ok := fun _ => True) (okp := fun _ => True) ?hr ?hp (fun _ hk => hk) trivial (Below.refl _ _) (Nat.le_refl _) (by simp) ?_; (case hd => rfl); (case hg => rfl); (case hr => first | (go_simp; done) | (go_simp; rfl)); (case hp => exact (Reps.c2 (show Kd.M k46 _ _ _ (⟨0, 0⟩ : S46) [.int .i64 0, .int .i64 0] from (k46_mkM _ _ _ (⟨0, 0⟩ : S46) )) (Reps.none _ _))); intro v276 w2 ho3 hb hg_ hnew_; clear hg_ hnew_; (first | rw [← Ny275.out] at ho3 | (simp only [Int.reduceToNat] at ho3; rw [← Ny275.out] at ho3)); have HO277 := a0_ (Kd.R_lower (Kd.R_newM (M := fun k_ => (w.heap.size ≤ k_)) ho3 (below_size (bl0_)) (fun k_ h_ => h_)) (below_size (bl0_))); replace HB := a0_ (below_step (bl0_) hb); clear hb ho3; obtain ⟨Ao4, co4, eo4⟩ := Kd.R_slice HO277.out; subst eo4) | ((with_reducible refine gate_dst (N := 9) rfl ?_); refine Kd.N_lit (Kd.slice 46 k46) _ 35 ?hg (N' := 9) ?hd (xs := ([y275] : List (List (S46)))) (inner := [.slice Ao4 y275.length co4]) (ok := (fun k_ => (w.heap.size ≤ k_))) (okp := (fun k_ => (w.heap.size ≤ k_))) ?hr ?hp (fun _ hk => hk) ((show ∀ k_, w2.heap.size ≤ k_ → (fun k_ => (w.heap.size ≤ k_)) k_ from fun k_ hk => (Nat.le_trans (below_size (bl0_)) hk)) _ (Nat.le_refl _)) (Below.refl _ _) (Nat.le_refl _) (by simp) ?_; (case hd => rfl); (case hg => rfl); (case hr => first | (go_simp; done) | (go_simp; rfl)); (case hp => exact (Reps.one (show Kd.FK (Kd.slice 46 k46) _ _ y275 [.slice Ao4 y275.length co4] from (Kd.FK_slice_mk (Kd.R_reads' (Kd.R_mono (ok' := (fun k_ => (w.heap.size ≤ k_))) (HO277.out) (fun k_ hk => hk.1))).2.1 (Kd.R_F (Kd.R_mono (ok' := (fun k_ => (w.heap.size ≤ k_))) (HO277.out) (fun k_ hk => hk.1))))) (Reps.none _ _))); intro v279 w5 ho6 hb hg_ hnew_; clear hg_ hnew_; (first | rw [← Ny278.out] at ho6 | (simp only [Int.reduceToNat] at ho6; rw [← Ny278.out] at ho6)); have HO280 := a0_ (Kd.N_lower ho6 (below_size (bl0_))); replace HB := a0_ (below_step (bl0_) hb); clear HO277; clear hb ho6))
 go_loopg [3, 4] k (fun kq v3 v4 w' => ∃ (x3_1 : List (List (S46))) (x4_1 : Int), v4 = .int .i64 x4_1 ∧ Aside0 (spec_l05Fixed.l0 kq a0 x3_1 x4_1 = some r) ∧ Aside0 (kq ≤ k) ∧ Aside0 (Kd.V (Kd.slice 46 k46) 35 w' w.heap.size (fun k_ => (w.heap.size ≤ k_)) v3 x3_1) ∧ Aside0 (Below w.heap.size w w'))
 case atStart => exact ⟨(y278), (1), rs_, H', ⟨Nat.le_refl _⟩, ⟨Kd.N_V (by (with_reducible repeat (first | apply Kd.N_alloc | apply Kd.N_drewN | apply Kd.N_drew)); exact HO280.out)⟩, ⟨bl0_⟩⟩
 case round =>
  clear H'
  try clear c2
  try clear p2
  try clear c5
  obtain ⟨x3_1, x4_1, rfl, HA, HK1, HO_3, HB⟩ := hrel
  cases gk with
  | zero => exact absurd HA.out (by simp [spec_l05Fixed.l0])
  | succ k1 =>
   have H := HA.out
   clear HA
   simp only [spec_l05Fixed.l0] at H
   by_cases c7 : x4_1 < a0
   ·rw [if_pos c7] at H
    have c7b0 : decide (x4_1 < a0) = true := decide_eq_true c7
    clear c7
    obtain ⟨y281, hy281⟩ : ∃ y_ : List (List (S46)), y_ = (([] : List (List (S46)))) := ⟨_, rfl⟩
    replace H : (spec_l05Fixed.l1 k1 a0 x3_1 x4_1 y281 0) = some r := hh_ hy281 H
    have Ny281 := Aside0.mk hy281
    clear hy281
    have H' := Aside0.mk H
    clear H
    go_wp2_with (first | ((with_reducible refine gate_dst (N := 15) rfl ?_); refine Kd.N_lit (Kd.slice 46 k46) _ 35 ?hg (N' := 15) ?hd (xs := ([] : List (List (S46)))) (inner := []) (ok := (fun k_ => (w.heap.size ≤ k_))) (okp := (fun k_ => (w.heap.size ≤ k_))) ?hr ?hp (fun _ hk => hk) ((show ∀ k_, wr.heap.size ≤ k_ → (fun k_ => (w.heap.size ≤ k_)) k_ from fun k_ hk => (Nat.le_trans (below_size (bl0_)) hk)) _ (Nat.le_refl _)) (Below.refl _ _) (Nat.le_refl _) (by simp) ?_; (case hd => rfl); (case hg => rfl); (case hr => first | (go_simp; done) | (go_simp; rfl)); (case hp => exact (Reps.none _ _)); intro v282 w8 ho9 hb hg_ hnew_; clear hg_ hnew_; (first | rw [← Ny281.out] at ho9 | (simp only [Int.reduceToNat] at ho9; rw [← Ny281.out] at ho9)); replace HO_3 := a0_ (Kd.V_elder' (va_ HO_3.out) (Kd.N_base ho9) hb); have HO283 := a0_ (Kd.N_lower ho9 (below_size (bl0_))); replace HB := a0_ (below_step (bl0_) hb); clear hb ho9))
    go_loopg [5, 6] k1 (fun kq v5 v6 w' => ∃ (x5_2 : List (List (S46))) (x6_2 : Int), v6 = .int .i64 x6_2 ∧ Aside0 (spec_l05Fixed.l1 kq a0 x3_1 x4_1 x5_2 x6_2 = some r) ∧ Aside0 (kq ≤ k1) ∧ Aside0 (Kd.V (Kd.slice 46 k46) 35 w' w.heap.size (fun k_ => (w.heap.size ≤ k_)) u3 x3_1) ∧ Aside0 (Kd.V (Kd.slice 46 k46) 35 w' w.heap.size (fun k_ => (w.heap.size ≤ k_)) v5 x5_2) ∧ Aside0 (Below w.heap.size w w'))
    case atStart => exact ⟨(y281), (0), rs_, H', ⟨Nat.le_refl _⟩, ⟨by (with_reducible repeat (first | apply Kd.V_alloc | apply Kd.V_drewN | apply Kd.V_drew)); exact Kd.V_mono HO_3.out (fun _ hk => hk.1)⟩, ⟨Kd.N_V (by (with_reducible repeat (first | apply Kd.N_alloc | apply Kd.N_drewN | apply Kd.N_drew)); exact HO283.out)⟩, ⟨bl0_⟩⟩
    case round =>
     clear H'
     try clear c2
     try clear p2
     try clear c5
     try clear c7
     try clear c7b0
     try clear p2
     obtain ⟨x5_2, x6_2, rfl, HA, HK2, HO_3, HO_5, HB⟩ := hrel
     cases gk with
     | zero => exact absurd HA.out (by simp [spec_l05Fixed.l1])
     | succ k2 =>
      have H := HA.out
      clear HA
      simp only [spec_l05Fixed.l1] at H
      by_cases c10 : x6_2 < (x3_1.length : Int)
      ·rw [if_pos c10] at H
       have c10b0 : decide (x6_2 < (x3_1.length : Int)) = true := decide_eq_true c10
       clear c10
       by_cases c11 : 0 ≤ x6_2
       ·rw [if_pos c11] at H
        have c11b0 : decide (0 ≤ x6_2) = true := decide_eq_true c11
        clear c11
        obtain ⟨t285, A12, H⟩ := bs_ H
        have H' := Aside0.mk H
        clear H
        obtain ⟨Ao13, co13, eo13⟩ := Kd.V_slice HO_3.out
        subst eo13
        have p284 : 0 ≤ (x6_2 : Int) := od_
        have q284 : x6_2 < (x3_1.length : Int) := od_
        obtain ⟨ad284, A284_0, c284_0, e284, hx284_0, hl284_0, hi284_0⟩ := at_L3 (Kd.V_reads' HO_3.out).2.2 x6_2 p284 q284
        cases e284
        obtain ⟨ce284, hce284, hMe284, hcc284⟩ := Kd.V_get HO_3.out [] x6_2 p284 (by first | exact q284 | exact od_ | (have e_ := (Kd.V_reads' HO_3.out).1; omega))
        obtain ⟨ua284_0, uc284_0, rfl, ul284_0, ge284_0⟩ := Kd.FK_slice_open hMe284
        have hv284_0 := hcc284 0 _ rfl
        rw [Nat.add_zero, show ((Kd.slice 46 k46)).sz = 1 from rfl, Nat.mul_one] at hv284_0
        replace hv284_0 := Option.some.inj (hv284_0.symm.trans hx284_0)
        injection hv284_0 with hva_ hvn_ hvc_
        rw [hva_] at ge284_0
        rw [hvc_] at ul284_0
        have HL284_0 := a0_ (show Kd.V k46 46 _ w.heap.size _ _ (rd_L3 x3_1 x6_2) from Kd.V_mk ul284_0 ge284_0)
        clear hva_ hvn_ hvc_ ge284_0 ul284_0
        clear hcc284 hce284
        have HR284_0 := Aside0.mk hi284_0
        have HC284_0 := Aside0.mk hl284_0
        clear hi284_0 hl284_0
        replace p284 := eq_true p284
        replace q284 := eq_true q284
        obtain ⟨Ao14, co14, eo14⟩ := Kd.V_slice HO_5.out
        subst eo14
        go_wp2_with (first | ((with_reducible refine gate_callee (f := 95) rfl ?_); refine goesL_ (some 27) rfl rfl Tryz.func95 kr_ rfl #[.slice Ao14 x5_2.length co14, .slice A284_0 (rd_L3 x3_1 x6_2).length c284_0] rfl ta_ ?_; (with_reducible refine (spec_l05Grow.calls k2 (fun k_ => (w.heap.size ≤ k_)) _ _ x5_2 _ _ (rd_L3 x3_1 x6_2) t285 _ ?side1 ?side2 ?side3 A12.out).mono ?_); (case side1 => exact HO_5.out); (case side2 => repeat (first | exact (by repeat (first | (with_reducible exact HR284_0.out) | (with_reducible refine Kd.C_alloc ?_ _) | (with_reducible refine Kd.C_drewN ?_ _) | (with_reducible refine Kd.C_drew ?_) | exact HR284_0.out)) | (with_reducible refine Kd.C_alloc ?_ _) | (with_reducible refine Kd.C_drewN ?_ _) | (with_reducible refine Kd.C_drew ?_))); (case side3 => exact HC284_0.out); rintro e w15 ⟨v286, rfl, ho0, hb⟩; refine ⟨_, rfl, ?_⟩; replace HO_3 := a0_ (Kd.V_below (va_ HO_3.out) hb); replace HO_5 := a0_ (Kd.V_below (va_ HO_5.out) hb); replace HL284_0 := a0_ (Kd.V_below (va_ HL284_0.out) hb); have HO287 := a0_ (Kd.V_lower (Kd.V_mono (ok' := fun k_ => (w.heap.size ≤ k_)) ho0 (fun k_ hk_ => Or.elim hk_ (fun hs_ => hs_) (fun hn_ => (Nat.le_trans (below_size (bl0_)) hn_)))) (below_size (bl0_))); replace HR284_0 := a0_ (Kd.C_below (by repeat (first | (with_reducible exact HR284_0.out) | (with_reducible refine Kd.C_alloc ?_ _) | (with_reducible refine Kd.C_drewN ?_ _) | (with_reducible refine Kd.C_drew ?_) | exact HR284_0.out)) hb); replace HB := a0_ (below_step (bl0_) hb); (try clear hb); (try clear hb2); (try clear hk); (try clear hi); (try clear ho0)))
        go_roundg k2
        case measure => have := HK1.out; have := HK2.out; omega
        case rel => exact ⟨(t285), (wrap64 (x6_2 + 1)), rs_, H', ⟨by have := HK1.out; have := HK2.out; omega⟩, ⟨va_ HO_3.out⟩, ⟨va_ HO287.out⟩, ⟨bl0_⟩⟩
       ·rw [if_neg c11] at H
        exact absurd H (by simp)
      ·rw [if_neg c10] at H
       have c10b0 : decide (x6_2 < (x3_1.length : Int)) = false := decide_eq_false c10
       clear c10
       have H' := Aside0.mk H
       clear H
       obtain ⟨Ao16, co16, eo16⟩ := Kd.V_slice HO_3.out
       subst eo16
       go_wp2
       go_roundg k2
       case measure => have := HK1.out; have := HK2.out; omega
       case rel => exact ⟨(x5_2), (wrap64 (x4_1 + 1)), rs_, H', ⟨by have := HK1.out; have := HK2.out; omega⟩, ⟨va_ HO_5.out⟩, ⟨bl0_⟩⟩
   ·rw [if_neg c7] at H
    have c7b0 : decide (x4_1 < a0) = false := decide_eq_false c7
    clear c7
    obtain rfl := Option.some.inj H
    go_wp2
    go_ret
    exact ⟨_, er_, va_ HO_3.out, bl0_⟩

/-! ### spec_FixedShapes: function 19 -/
def spec_FixedShapes.f (k : Nat) (a0 : Int) : Option ((List (List (S46))) × Int) := (spec_l05Order.f a0).bind fun t288 => (if t288 = true then ((spec_l05Fixed.f k a0).bind fun t289 => (some (t289, 0))) else (some (([] : List (List (S46))), 2)))
theorem spec_FixedShapes.mono : ∀ a0 k, LeO (spec_FixedShapes.f k a0) (spec_FixedShapes.f (k + 1) a0) := by
 intro a0 k
 unfold spec_FixedShapes.f
 with_reducible (repeat' first | exact spec_l05Fixed.mono _ _ | exact LeO.refl _ | exact LeO.none _ | refine LeO.ite ?_ ?_ | refine LeO.bind ?_ (fun _ => ?_))
set_option maxHeartbeats 8000000 in
set_option maxRecDepth 100000 in
theorem spec_FixedShapes.calls (k : Nat) (a0 : Int) (r1 : List (List (S46))) (r2 : Int) (w : World) (h : spec_FixedShapes.f k a0 = some (r1, r2)) :
  Calls Tryz.prog 19 #[.int .i64 a0] w fun e w' => ∃ v0_ : Value, e = .returned (.tuple #[v0_, .int .i64 r2]) ∧ Kd.V (Kd.slice 46 k46) 35 w' w.heap.size (fun k_ => (w.heap.size ≤ k_)) v0_ r1 ∧ Below w.heap.size w w' := by
 have HB := a0_ (Below.refl w.heap.size w)
 have H := h
 clear h
 unfold spec_FixedShapes.f at H
 obtain ⟨t288, A2, H⟩ := bs_ H
 by_cases c3 : t288 = true
 ·subst c3
  rw [if_pos rfl] at H
  obtain ⟨t289, A4, H⟩ := bs_ H
  simp only [Option.some.injEq, Prod.mk.injEq] at H
  obtain ⟨rfl, rfl⟩ := H
  go_enter Tryz.func19, Tryz.ntmps19
  go_wp2_with (first | ((with_reducible refine gate_callee (f := 53) rfl ?_); refine goesL_ (some 5) rfl rfl Tryz.func53 kr_ rfl #[.int .i64 a0] rfl ta_ ?_; (with_reducible refine (spec_l05Order.calls a0 true _ A2.out).mono ?_); rintro e w' ⟨rfl, ⟨nd, rfl⟩⟩; refine ⟨_, rfl, ?_⟩) | ((with_reducible refine gate_callee (f := 54) rfl ?_); refine goesL_ (some 8) rfl rfl Tryz.func54 kr_ rfl #[.int .i64 a0] rfl ta_ ?_; (with_reducible refine (spec_l05Fixed.calls k a0 t289 _ A4.out).mono ?_); rintro e w5 ⟨v290, rfl, ho0, hb⟩; refine ⟨_, rfl, ?_⟩; have HO291 := a0_ (Kd.V_lower (Kd.V_mono (ok' := fun k_ => (w.heap.size ≤ k_)) ho0 (fun k_ hk_ => (Nat.le_trans (below_size (bl0_)) hk_))) (below_size (bl0_))); replace HB := a0_ (below_step (bl0_) hb); (try clear hb); (try clear hb2); (try clear hk); (try clear hi); (try clear ho0)))
  go_ret2
  exact ⟨_, er_, va_ HO291.out, bl0_⟩
 ·replace c3 := Bool.eq_false_iff.mpr c3
  subst c3
  rw [if_neg (show ¬ (false = true) by decide)] at H
  simp only [Option.some.injEq, Prod.mk.injEq] at H
  obtain ⟨rfl, rfl⟩ := H
  go_enter Tryz.func19, Tryz.ntmps19
  go_wp2_with (first | ((with_reducible refine gate_callee (f := 53) rfl ?_); refine goesL_ (some 5) rfl rfl Tryz.func53 kr_ rfl #[.int .i64 a0] rfl ta_ ?_; (with_reducible refine (spec_l05Order.calls a0 false _ A2.out).mono ?_); rintro e w' ⟨rfl, ⟨nd, rfl⟩⟩; refine ⟨_, rfl, ?_⟩))
  go_ret2
  exact ⟨_, er_, Kd.S_V (Kd.S_nil _ _ _ 0 _), bl0_⟩

end Go.Proofs.YtmdjkmfocgelnaaGreat.PFnListed
