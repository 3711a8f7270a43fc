/- Over the kit's printer by a driver of mine (hprint.py), with parts by hand: functions of the program as Lean functions, and that each call comes to exactly these answers. -/
import Derived.Test.YtmdjkmfocgelnaaGreatPFnTriangleShapesx0
import Derived.Test.YtmdjkmfocgelnaaGreatPFnTriangleShapesx1
namespace Go.Proofs.YtmdjkmfocgelnaaGreat.PFnTriangleShapes
open Go.RowKit Go.Proofs.YtmdjkmfocgelnaaGreatW.PrintWords Go.Proofs.YtmdjkmfocgelnaaGreatW.PrintLast Go.Proofs.YtmdjkmfocgelnaaGreatW.PrintMore
attribute [local go_sem] max2_int min2_int max_two min_two max_three min_three max_four min_four   -- for this text's walks alone
set_option linter.unusedVariables false
set_option linter.unusedSimpArgs false

attribute [local go_sem high] eqA46
/-! ### slices_Index_impl_Cell_impl_Cell: function 144 -/
def slices_Index_impl_Cell_impl_Cell.l0 : Nat → List (S46) → Int → Int → Int → Int → Option (Int)
 | 0, _, _, _, _, _ => none
 | k + 1, x0, x7, x8, x147000, x147001 => if x8 < x7 then (if 0 ≤ x8 then (if x8 < (x0.length : Int) then (if (x147000 == ((rd_T46 x0 x8).f0) && (x147001 == ((rd_T46 x0 x8).f1))) = true then (some x8) else (slices_Index_impl_Cell_impl_Cell.l0 k x0 x7 (wrap64 (x8 + 1)) x147000 x147001)) else (none)) else (none)) else (some (-1))
def slices_Index_impl_Cell_impl_Cell.f (k : Nat) (l0 : List (S46)) (a1_0 : Int) (a1_1 : Int) : Option (Int) := slices_Index_impl_Cell_impl_Cell.l0 k l0 (l0.length : Int) 0 a1_0 a1_1
theorem slices_Index_impl_Cell_impl_Cell.mono_l : ∀ k, (∀ y0 y1 y2 y3 y4, LeO (slices_Index_impl_Cell_impl_Cell.l0 k y0 y1 y2 y3 y4) (slices_Index_impl_Cell_impl_Cell.l0 (k + 1) y0 y1 y2 y3 y4))
 | 0 => fun _ _ _ _ _ r h => by simp [slices_Index_impl_Cell_impl_Cell.l0] at h
 | k + 1 => by
  have ih0 := slices_Index_impl_Cell_impl_Cell.mono_l k
  ·intro y0 y1 y2 y3 y4
   unfold slices_Index_impl_Cell_impl_Cell.l0
   with_reducible (repeat' first | exact ih0 _ _ _ _ _ | exact LeO.refl _ | exact LeO.none _ | refine LeO.ite ?_ ?_ | refine LeO.bind ?_ (fun _ => ?_))
theorem slices_Index_impl_Cell_impl_Cell.mono : ∀ a0 a1 a2 k, LeO (slices_Index_impl_Cell_impl_Cell.f k a0 a1 a2) (slices_Index_impl_Cell_impl_Cell.f (k + 1) a0 a1 a2) := by
 intro a0 a1 a2 k
 have ih0 := slices_Index_impl_Cell_impl_Cell.mono_l k
 unfold slices_Index_impl_Cell_impl_Cell.f
 with_reducible (repeat' first | exact ih0 _ _ _ _ _ | exact LeO.refl _ | exact LeO.none _ | refine LeO.ite ?_ ?_ | refine LeO.bind ?_ (fun _ => ?_))
set_option maxHeartbeats 8000000 in
set_option maxRecDepth 100000 in
theorem slices_Index_impl_Cell_impl_Cell.calls (k : Nat) (A0 : Option Addr) (c0 : Nat) (l0 : List (S46)) (a1_0 : Int) (a1_1 : Int) (r : Int) (w : World) (hr0 : Kd.C k46 w A0 l0.length l0) (hc0 : l0.length ≤ c0) (h : slices_Index_impl_Cell_impl_Cell.f k l0 a1_0 a1_1 = some r) :
  Calls Tryz.prog 144 #[.slice A0 l0.length c0, .agg #[.int .i64 a1_0, .int .i64 a1_1]] w fun e w' => e = .returned (.int .i64 r) ∧ Below w.heap.size w w' := by
 have hu46 := Tryz.underlying46
 have HR0 := Aside0.mk hr0
 have HC0 := Aside0.mk hc0
 clear hr0 hc0
 have HB := a0_ (Below.refl w.heap.size w)
 have H := h
 clear h
 unfold slices_Index_impl_Cell_impl_Cell.f at H
 have H' := Aside0.mk H
 clear H
 go_enter Tryz.func144, Tryz.ntmps144
 go_wp2_with (first | ((with_reducible refine gate_dst (N := 3) rfl ?_); refine bx_ (N := 3) (cs := #[.int .i64 a1_0, .int .i64 a1_1]) (t := 46) ?_; intro gb146 hg w3 hbox hb; have BK146 := a0_ (hbox); have GW146 := a0_ ((sz_ hg (bl0_) : w.heap.size ≤ gb146)); have GE146 := a0_ ((sz_ hg (bl0_) : w.heap.size ≤ gb146)); replace HB := a0_ (below_step (bl0_) hb); clear hb hbox hg))
 repeat (go_quiet (first | ((with_reducible refine gate_dst (N := 3) rfl ?_); refine bx_ (N := 3) (cs := #[.int .i64 a1_0, .int .i64 a1_1]) (t := 46) ?_; intro gb146 hg w3 hbox hb; have BK146 := a0_ (hbox); have GW146 := a0_ ((sz_ hg (bl0_) : w.heap.size ≤ gb146)); have GE146 := a0_ ((sz_ hg (bl0_) : w.heap.size ≤ gb146)); replace HB := a0_ (below_step (bl0_) hb); clear hb hbox hg)); try go_wp2_with (first | ((with_reducible refine gate_dst (N := 3) rfl ?_); refine bx_ (N := 3) (cs := #[.int .i64 a1_0, .int .i64 a1_1]) (t := 46) ?_; intro gb146 hg w3 hbox hb; have BK146 := a0_ (hbox); have GW146 := a0_ ((sz_ hg (bl0_) : w.heap.size ≤ gb146)); have GE146 := a0_ ((sz_ hg (bl0_) : w.heap.size ≤ gb146)); replace HB := a0_ (below_step (bl0_) hb); clear hb hbox hg)))
 go_loopg [8] k (fun kq v8 w' => ∃ (x8_1 : Int), v8 = .int .i64 x8_1 ∧ Aside0 (slices_Index_impl_Cell_impl_Cell.l0 kq l0 (l0.length : Int) x8_1 a1_0 a1_1 = some r) ∧ Aside0 (kq ≤ k) ∧ Aside0 (w'.heap[gb146]? = some (.cells #[.int .i64 a1_0, .int .i64 a1_1] 46 (0, 0))) ∧ Aside0 (Below w.heap.size w w'))
 case atStart => exact ⟨(0), rs_, H', ⟨Nat.le_refl _⟩, ⟨bk_ BK146.out⟩, ⟨bl1_ GE146.out⟩⟩
 case round =>
  clear H'
  try clear c1
  try clear p2
  obtain ⟨x8_1, rfl, HA, HK1, BK146, HB⟩ := hrel
  cases gk with
  | zero => exact absurd HA.out (by simp [slices_Index_impl_Cell_impl_Cell.l0])
  | succ k1 =>
   have H := HA.out
   clear HA
   simp only [slices_Index_impl_Cell_impl_Cell.l0] at H
   by_cases c4 : x8_1 < (l0.length : Int)
   ·rw [if_pos c4] at H
    have c4b0 : decide (x8_1 < (l0.length : Int)) = true := decide_eq_true c4
    clear c4
    by_cases c5 : 0 ≤ x8_1
    ·rw [if_pos c5] at H
     have c5b0 : decide (0 ≤ x8_1) = true := decide_eq_true c5
     clear c5
     by_cases c6 : x8_1 < (l0.length : Int)
     ·rw [if_pos c6] at H
      have c6b0 : decide (x8_1 < (l0.length : Int)) = true := decide_eq_true c6
      clear c6
      by_cases c7 : (a1_0 == ((rd_T46 l0 x8_1).f0) && (a1_1 == ((rd_T46 l0 x8_1).f1))) = true
      ·rw [if_pos c7] at H
       have c7b0 : (a1_0 == ((rd_T46 l0 x8_1).f0) && (a1_1 == ((rd_T46 l0 x8_1).f1))) = true := c7
       (try (have c7b1 : decide (a1_0 = ((rd_T46 l0 x8_1).f0) && (a1_1 == ((rd_T46 l0 x8_1).f1))) = true := by simpa using c7))
       (try (have c7b2 : (a1_0 == ((rd_T46 l0 x8_1).f0) && (a1_1 == ((rd_T46 l0 x8_1).f1))) = true := by simpa using c7))
       clear c7
       obtain rfl := Option.some.inj H
       have hcz8_0 : wr.cell? ⟨gb146, 0, none⟩ = some (.int .i64 a1_0) := (blk_cell BK146.out 0).trans rfl
       have hcz8_1 : wr.cell? ⟨gb146, 1, none⟩ = some (.int .i64 a1_1) := (blk_cell BK146.out 1).trans rfl
       have hfz8_0 := blk_frozen BK146.out 0
       have hfz8_1 := blk_frozen BK146.out 1
       have p147 : 0 ≤ (x8_1 : Int) := od_
       have q147 : x8_1 < (l0.length : Int) := od_
       obtain ⟨ad147, e147, hx147_0, hx147_1⟩ := at_T46 HR0.out x8_1 p147 q147
       cases e147
       replace hx147_0 := (HB.out.cell (World.block_lt_of_cell? w _ hx147_0)).trans hx147_0
       replace hx147_1 := (HB.out.cell (World.block_lt_of_cell? w _ hx147_1)).trans hx147_1
       replace p147 := eq_true p147
       replace q147 := eq_true q147
       go_wp2
       repeat (go_quiet (fail); try go_wp2)
       go_ret
       exact ⟨er_, bl1_ GE146.out⟩
      ·rw [if_neg c7] at H
       have c7b0 : (a1_0 == ((rd_T46 l0 x8_1).f0) && (a1_1 == ((rd_T46 l0 x8_1).f1))) = false := by simpa using c7
       (try (have c7b1 : decide (a1_0 = ((rd_T46 l0 x8_1).f0) && (a1_1 == ((rd_T46 l0 x8_1).f1))) = false := by simpa using c7))
       (try (have c7b2 : (a1_0 == ((rd_T46 l0 x8_1).f0) && (a1_1 == ((rd_T46 l0 x8_1).f1))) = false := by simpa using c7))
       (try (have c7b3 : ¬ (a1_0 = ((rd_T46 l0 x8_1).f0) && (a1_1 == ((rd_T46 l0 x8_1).f1))) := by simpa using c7))
       clear c7
       have H' := Aside0.mk H
       clear H
       have hcz9_0 : wr.cell? ⟨gb146, 0, none⟩ = some (.int .i64 a1_0) := (blk_cell BK146.out 0).trans rfl
       have hcz9_1 : wr.cell? ⟨gb146, 1, none⟩ = some (.int .i64 a1_1) := (blk_cell BK146.out 1).trans rfl
       have hfz9_0 := blk_frozen BK146.out 0
       have hfz9_1 := blk_frozen BK146.out 1
       have p147 : 0 ≤ (x8_1 : Int) := od_
       have q147 : x8_1 < (l0.length : Int) := od_
       obtain ⟨ad147, e147, hx147_0, hx147_1⟩ := at_T46 HR0.out x8_1 p147 q147
       cases e147
       replace hx147_0 := (HB.out.cell (World.block_lt_of_cell? w _ hx147_0)).trans hx147_0
       replace hx147_1 := (HB.out.cell (World.block_lt_of_cell? w _ hx147_1)).trans hx147_1
       replace p147 := eq_true p147
       replace q147 := eq_true q147
       go_wp2
       repeat (go_quiet (fail); try go_wp2)
       go_roundg k1
       case measure => have := HK1.out; omega
       case rel => exact ⟨(wrap64 (x8_1 + 1)), rs_, H', ⟨by have := HK1.out; omega⟩, ⟨bk_ BK146.out⟩, ⟨bl1_ GE146.out⟩⟩
     ·rw [if_neg c6] at H
      exact absurd H (by simp)
    ·rw [if_neg c5] at H
     exact absurd H (by simp)
   ·rw [if_neg c4] at H
    have c4b0 : decide (x8_1 < (l0.length : Int)) = false := decide_eq_false c4
    clear c4
    obtain rfl := Option.some.inj H
    go_wp2
    repeat (go_quiet (fail); try go_wp2)
    go_ret
    exact ⟨er_, bl1_ GE146.out⟩

/-! ### slices_Contains_impl_Cell_impl_Cell: function 131 -/
def slices_Contains_impl_Cell_impl_Cell.f (k : Nat) (l0 : List (S46)) (a1_0 : Int) (a1_1 : Int) : Option (Bool) := (slices_Index_impl_Cell_impl_Cell.f k l0 a1_0 a1_1).bind fun t149 => (some (decide (t149 ≥ 0)))
theorem slices_Contains_impl_Cell_impl_Cell.mono : ∀ a0 a1 a2 k, LeO (slices_Contains_impl_Cell_impl_Cell.f k a0 a1 a2) (slices_Contains_impl_Cell_impl_Cell.f (k + 1) a0 a1 a2) := by
 intro a0 a1 a2 k
 unfold slices_Contains_impl_Cell_impl_Cell.f
 with_reducible (repeat' first | exact slices_Index_impl_Cell_impl_Cell.mono _ _ _ _ | exact LeO.refl _ | exact LeO.none _ | refine LeO.ite ?_ ?_ | refine LeO.bind ?_ (fun _ => ?_))
set_option maxHeartbeats 8000000 in
set_option maxRecDepth 100000 in
theorem slices_Contains_impl_Cell_impl_Cell.calls (k : Nat) (A0 : Option Addr) (c0 : Nat) (l0 : List (S46)) (a1_0 : Int) (a1_1 : Int) (r : Bool) (w : World) (hr0 : Kd.C k46 w A0 l0.length l0) (hc0 : l0.length ≤ c0) (h : slices_Contains_impl_Cell_impl_Cell.f k l0 a1_0 a1_1 = some r) :
  Calls Tryz.prog 131 #[.slice A0 l0.length c0, .agg #[.int .i64 a1_0, .int .i64 a1_1]] w fun e w' => e = .returned (.bool r) ∧ Below w.heap.size w w' := by
 have hu46 := Tryz.underlying46
 have HR0 := Aside0.mk hr0
 have HC0 := Aside0.mk hc0
 clear hr0 hc0
 have HB := a0_ (Below.refl w.heap.size w)
 have H := h
 clear h
 unfold slices_Contains_impl_Cell_impl_Cell.f at H
 obtain ⟨t149, A3, H⟩ := bs_ H
 obtain rfl := Option.some.inj H
 go_enter Tryz.func131, Tryz.ntmps131
 go_wp2_with (first | ((with_reducible refine gate_dst (N := 3) rfl ?_); refine bx_ (N := 3) (cs := #[.int .i64 a1_0, .int .i64 a1_1]) (t := 46) ?_; intro gb148 hg w4 hbox hb; have BK148 := a0_ (hbox); have GW148 := a0_ ((sz_ hg (bl0_) : w.heap.size ≤ gb148)); have GE148 := a0_ ((sz_ hg (bl0_) : w.heap.size ≤ gb148)); replace HB := a0_ (below_step (bl0_) hb); clear hb hbox hg; obtain ⟨hcz5_0, hcz5_1, hfz5_0, hfz5_1⟩ := bc2_ BK148.out) | ((with_reducible refine gate_callee (f := 144) rfl ?_); refine goesL_ (some 7) rfl rfl Tryz.func144 kr_ rfl #[.slice A0 l0.length c0, .agg #[.int .i64 a1_0, .int .i64 a1_1]] rfl ta_ ?_; (with_reducible refine (slices_Index_impl_Cell_impl_Cell.calls k _ _ l0 a1_0 a1_1 t149 _ ?side1 ?side2 A3.out).mono ?_); (case side1 => exact ca_ (Kd.C_below HR0.out HB.out)); (case side2 => exact HC0.out); rintro e w6 ⟨rfl, hb⟩; refine ⟨_, rfl, ?_⟩; replace BK148 := a0_ (bb_ BK148.out hb); replace HB := a0_ (below_step (bl1_ GE148.out) hb); (try clear hb); (try clear hb2); (try clear hk); (try clear hi)))
 go_ret
 exact ⟨er_, bl1_ GE148.out⟩

end Go.Proofs.YtmdjkmfocgelnaaGreat.PFnTriangleShapes
