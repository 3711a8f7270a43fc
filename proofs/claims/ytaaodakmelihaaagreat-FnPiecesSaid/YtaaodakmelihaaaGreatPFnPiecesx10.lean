/- Over the kit's printer by a driver of mine (hprint.py), with parts by hand: functions of the program as Lean functions, and that each call comes to exactly these answers. -/
import Derived.Test.YtaaodakmelihaaaGreatPFnPiecesx0
import Derived.Test.YtaaodakmelihaaaGreatPFnPiecesx3
import Derived.Test.YtaaodakmelihaaaGreatPFnPiecesx4
namespace Go.Proofs.YtaaodakmelihaaaGreat.PFnPieces
open Go.RowKit Go.Proofs.YtaaodakmelihaaaGreatW.PrintWords Go.Proofs.YtaaodakmelihaaaGreatW.PrintLast Go.Proofs.YtaaodakmelihaaaGreatW.PrintMore
attribute [local go_sem] max2_int min2_int max_two min_two max_three min_three max_four min_four   -- for this text's walks alone
set_option linter.unusedVariables false
set_option linter.unusedSimpArgs false

/-! ### spec_l03Turn: function 34 -/
mutual
def spec_l03Turn.j0 : Nat → Int → Int → Int → Option (Int × Int)
 | 0, _, _, _ => none
 | k + 1, x1, x335000, x335001 => spec_l03Turn.l0 k (Int.tmod x1 4) x335000 x335001
def spec_l03Turn.l0 : Nat → Int → Int → Int → Option (Int × Int)
 | 0, _, _, _ => none
 | k + 1, x5, x335000, x335001 => if x5 > 0 then (spec_l03Turn.l0 k (wrap64 (x5 - 1)) (wrap64 (-x335001)) x335000) else (some (x335000, x335001))
end
def spec_l03Turn.f (k : Nat) (a0_0 : Int) (a0_1 : Int) (a1 : Int) : Option (Int × Int) := if a1 ≥ 4 then (spec_l03Turn.j0 k a1 (wrap64 (-a0_0)) a0_1) else (spec_l03Turn.j0 k a1 a0_0 a0_1)
theorem spec_l03Turn.mono_l : ∀ k, (∀ y0 y1 y2, LeO (spec_l03Turn.j0 k y0 y1 y2) (spec_l03Turn.j0 (k + 1) y0 y1 y2)) ∧ (∀ y0 y1 y2, LeO (spec_l03Turn.l0 k y0 y1 y2) (spec_l03Turn.l0 (k + 1) y0 y1 y2))
 | 0 => ⟨fun _ _ _ r h => by simp [spec_l03Turn.j0] at h, fun _ _ _ r h => by simp [spec_l03Turn.l0] at h⟩
 | k + 1 => by
  obtain ⟨ih0, ih1⟩ := spec_l03Turn.mono_l k
  refine ⟨?_, ?_⟩
  ·intro y0 y1 y2
   unfold spec_l03Turn.j0
   with_reducible (repeat' first | exact ih0 _ _ _ | exact ih1 _ _ _ | exact LeO.refl _ | exact LeO.none _ | refine LeO.ite ?_ ?_ | refine LeO.bind ?_ (fun _ => ?_))
  ·intro y0 y1 y2
   unfold spec_l03Turn.l0
   with_reducible (repeat' first | exact ih0 _ _ _ | exact ih1 _ _ _ | exact LeO.refl _ | exact LeO.none _ | refine LeO.ite ?_ ?_ | refine LeO.bind ?_ (fun _ => ?_))
theorem spec_l03Turn.mono : ∀ a0 a1 a2 k, LeO (spec_l03Turn.f k a0 a1 a2) (spec_l03Turn.f (k + 1) a0 a1 a2) := by
 intro a0 a1 a2 k
 obtain ⟨ih0, ih1⟩ := spec_l03Turn.mono_l k
 unfold spec_l03Turn.f
 with_reducible (repeat' first | exact ih0 _ _ _ | exact ih1 _ _ _ | exact LeO.refl _ | exact LeO.none _ | refine LeO.ite ?_ ?_ | refine LeO.bind ?_ (fun _ => ?_))
set_option maxHeartbeats 8000000 in
set_option maxRecDepth 100000 in
theorem spec_l03Turn.calls (k : Nat) (a0_0 : Int) (a0_1 : Int) (a1 : Int) (r1 : Int) (r2 : Int) (w : World) (h : spec_l03Turn.f k a0_0 a0_1 a1 = some (r1, r2)) :
  Calls Tryz.prog 34 #[.agg #[.int .i64 a0_0, .int .i64 a0_1], .int .i64 a1] w fun e w' => e = .returned (.agg #[.int .i64 r1, .int .i64 r2]) ∧ Below w.heap.size w w' := by
 have hu60 := Tryz.underlying60
 have HB := a0_ (Below.refl w.heap.size w)
 have H := h
 clear h
 unfold spec_l03Turn.f at H
 have HC3 := Aside0.mk H
 clear H
 go_enter Tryz.func34, Tryz.ntmps34
 go_upto_if 7 with (first | ((with_reducible refine gate_dst (N := 2) rfl ?_); refine bx_ (N := 2) (cs := #[.int .i64 a0_0, .int .i64 a0_1]) (t := 60) ?_; intro gb334 hg w4 hbox hb; have BK334 := a0_ (hbox); have GW334 := a0_ ((sz_ hg (bl0_) : w.heap.size ≤ gb334)); have GE334 := a0_ ((sz_ hg (bl0_) : w.heap.size ≤ gb334)); replace HB := a0_ (below_step (bl0_) hb); clear hb hbox hg) | ((with_reducible refine gate_dst (N := 4) rfl ?_); refine bx_ (N := 4) (cs := #[.int .i64 0, .int .i64 0]) (t := 60) ?_; intro gb335 hg w5 hbox hb; have BK335 := a0_ (hbox); have GW335 := a0_ ((sz_ hg (bl1_ GE334.out) : w.heap.size ≤ gb335)); have GE335 := a0_ ((sz_ hg (bl1_ GE334.out) : w.heap.size ≤ gb335)); replace HB := a0_ (below_step (bl1_ GE334.out) hb); have NB334_335 := a0_ ((nl_ hg BK334.out : gb334 ≠ gb335)); have NB335_334 := a0_ ((ng_ hg BK334.out : gb335 ≠ gb334)); replace BK334 := a0_ (bb_ BK334.out hb); clear hb hbox hg))
 (try simp only [Act.put, List.setIfInBounds_toArray, List.set_cons_zero, List.set_cons_succ])
 go_cut [] (fun wc => ∃ (kq : Nat) (x335000_2 : Int) (x335001_2 : Int), Aside0 (spec_l03Turn.j0 kq a1 x335000_2 x335001_2 = some (r1, r2)) ∧ Aside0 (kq ≤ k) ∧ Aside0 (wc.heap[gb334]? = some (.cells #[.int .i64 x335000_2, .int .i64 x335001_2] 60 (0, 0))) ∧ Aside0 (wc.heap[gb335]? = some (.cells #[.int .i64 0, .int .i64 0] 60 (0, 0))) ∧ Aside0 (Below w.heap.size w wc))
 case first =>
  have H := HC3.out
  clear HC3
  by_cases c6 : a1 ≥ 4
  ·rw [if_pos c6] at H
   have c6b0 : decide (4 ≤ a1) = true := decide_eq_true c6
   clear c6
   (first | rw [c6b0] | (simp only [i64_w, i32_w]; rw [c6b0]) | skip)
   have H' := Aside0.mk H
   clear H
   have hnb7 := NB334_335.out
   have hnc7 := NB335_334.out
   have hcz8_0 : w5.cell? ⟨gb334, 0, none⟩ = some (.int .i64 a0_0) := (blk_cell BK334.out 0).trans rfl
   have hcz8_1 : w5.cell? ⟨gb334, 1, none⟩ = some (.int .i64 a0_1) := (blk_cell BK334.out 1).trans rfl
   have hfz8_0 := blk_frozen BK334.out 0
   have hfz8_1 := blk_frozen BK334.out 1
   go_wp2
   go_meet
   case rel => exact ⟨_, (wrap64 (-a0_0)), (a0_1), H', ⟨by first | omega | exact Nat.le_refl _⟩, ⟨by (with_reducible repeat (first | refine blk_drewN ?_ _ | refine blk_drew ?_ | refine blk_alloc ?_ _)); refine blk_put (cs := #[.int .i64 (wrap64 (-a0_0)), .int .i64 a0_1]) ?_ 1 _ rfl; (with_reducible repeat (first | refine blk_drewN ?_ _ | refine blk_drew ?_ | refine blk_alloc ?_ _)); refine blk_put (cs := #[.int .i64 a0_0, .int .i64 a0_1]) ?_ 0 _ rfl; (with_reducible repeat (first | refine blk_drewN ?_ _ | refine blk_drew ?_ | refine blk_alloc ?_ _)); exact BK334.out⟩, ⟨bf_ BK335.out NB335_334.out⟩, ⟨bl2_ GE334.out GE335.out⟩⟩
  ·rw [if_neg c6] at H
   have c6b0 : decide (4 ≤ a1) = false := decide_eq_false c6
   clear c6
   (first | rw [c6b0] | (simp only [i64_w, i32_w]; rw [c6b0]) | skip)
   have H' := Aside0.mk H
   clear H
   go_wp2
   go_meet
   case rel => exact ⟨_, (a0_0), (a0_1), H', ⟨by first | omega | exact Nat.le_refl _⟩, ⟨bk_ BK334.out⟩, ⟨bk_ BK335.out⟩, ⟨bl2_ GE334.out GE335.out⟩⟩
 case rest =>
  clear HC3
  try clear p2
  try clear c3
  try clear c6
  try clear c6b0
  try clear p6
  try clear c7
  try clear hcz8_0
  try clear hcz8_1
  try clear hfz8_0
  try clear hfz8_1
  obtain ⟨kq, x335000_2, x335001_2, HA, HJ2, BK334, BK335, HB⟩ := hcut
  cases kq with
  | zero => exact absurd HA.out (by simp [spec_l03Turn.j0])
  | succ kj2 =>
   have H := HA.out
   clear HA
   simp only [spec_l03Turn.j0] at H
   have H' := Aside0.mk H
   clear H
   go_wp2
   go_loopg [5] kj2 (fun kq v5 w' => ∃ (x5_2 : Int) (x335000_2 : Int) (x335001_2 : Int), v5 = .int .i64 x5_2 ∧ Aside0 (spec_l03Turn.l0 kq x5_2 x335000_2 x335001_2 = some (r1, r2)) ∧ Aside0 (kq ≤ kj2) ∧ Aside0 (w'.heap[gb334]? = some (.cells #[.int .i64 x335000_2, .int .i64 x335001_2] 60 (0, 0))) ∧ Aside0 (w'.heap[gb335]? = some (.cells #[.int .i64 0, .int .i64 0] 60 (0, 0))) ∧ Aside0 (Below w.heap.size w w'))
   case atStart => exact ⟨(Int.tmod a1 4), (x335000_2), (x335001_2), rs_, H', ⟨Nat.le_refl _⟩, ⟨bk_ BK334.out⟩, ⟨bk_ BK335.out⟩, ⟨bl2_ GE334.out GE335.out⟩⟩
   case round =>
    clear H'
    try clear p2
    try clear c3
    try clear c6
    try clear c6b0
    try clear p6
    try clear c7
    try clear hcz8_0
    try clear hcz8_1
    try clear hfz8_0
    try clear hfz8_1
    try clear p2
    try clear p6
    obtain ⟨x5_2, x335000_2, x335001_2, rfl, HA, HK2, BK334, BK335, HB⟩ := hrel
    cases gk with
    | zero => exact absurd HA.out (by simp [spec_l03Turn.l0])
    | succ k2 =>
     have H := HA.out
     clear HA
     simp only [spec_l03Turn.l0] at H
     by_cases c9 : x5_2 > 0
     ·rw [if_pos c9] at H
      have c9b0 : decide (0 < x5_2) = true := decide_eq_true c9
      clear c9
      have H' := Aside0.mk H
      clear H
      have hnb10 := NB334_335.out
      have hnc10 := NB335_334.out
      have hcz11_0 : wr.cell? ⟨gb334, 0, none⟩ = some (.int .i64 x335000_2) := (blk_cell BK334.out 0).trans rfl
      have hcz11_1 : wr.cell? ⟨gb334, 1, none⟩ = some (.int .i64 x335001_2) := (blk_cell BK334.out 1).trans rfl
      have hfz11_0 := blk_frozen BK334.out 0
      have hfz11_1 := blk_frozen BK334.out 1
      go_wp2
      go_roundg k2
      case measure => have := HJ2.out; have := HK2.out; omega
      case rel => exact ⟨(wrap64 (x5_2 - 1)), (wrap64 (-x335001_2)), (x335000_2), rs_, H', ⟨by have := HJ2.out; have := HK2.out; omega⟩, ⟨by (with_reducible repeat (first | refine blk_drewN ?_ _ | refine blk_drew ?_ | refine blk_alloc ?_ _)); refine blk_put (cs := #[.int .i64 (wrap64 (-x335001_2)), .int .i64 x335001_2]) ?_ 1 _ rfl; (with_reducible repeat (first | refine blk_drewN ?_ _ | refine blk_drew ?_ | refine blk_alloc ?_ _)); refine blk_put (cs := #[.int .i64 x335000_2, .int .i64 x335001_2]) ?_ 0 _ rfl; (with_reducible repeat (first | refine blk_drewN ?_ _ | refine blk_drew ?_ | refine blk_alloc ?_ _)); exact BK334.out⟩, ⟨bf_ BK335.out NB335_334.out⟩, ⟨bl2_ GE334.out GE335.out⟩⟩
     ·rw [if_neg c9] at H
      have c9b0 : decide (0 < x5_2) = false := decide_eq_false c9
      clear c9
      simp only [Option.some.injEq, Prod.mk.injEq] at H
      obtain ⟨rfl, rfl⟩ := H
      have hnb12 := NB334_335.out
      have hnc12 := NB335_334.out
      have hcz13_0 : wr.cell? ⟨gb334, 0, none⟩ = some (.int .i64 x335000_2) := (blk_cell BK334.out 0).trans rfl
      have hcz13_1 : wr.cell? ⟨gb334, 1, none⟩ = some (.int .i64 x335001_2) := (blk_cell BK334.out 1).trans rfl
      have hfz13_0 := blk_frozen BK334.out 0
      have hfz13_1 := blk_frozen BK334.out 1
      have hcz14_0 : wr.cell? ⟨gb335, 0, none⟩ = some (.int .i64 0) := (blk_cell BK335.out 0).trans rfl
      have hcz14_1 : wr.cell? ⟨gb335, 1, none⟩ = some (.int .i64 0) := (blk_cell BK335.out 1).trans rfl
      have hfz14_0 := blk_frozen BK335.out 0
      have hfz14_1 := blk_frozen BK335.out 1
      go_wp2
      refine bodyPost_ret (results_cell_row rfl _ _ gb335 60 #[.int .i64 x335000_2, .int .i64 x335001_2] (0, 0) _ rfl (by (with_reducible repeat (first | refine blk_drewN ?_ _ | refine blk_drew ?_ | refine blk_alloc ?_ _)); refine blk_put (cs := #[.int .i64 x335000_2, .int .i64 0]) ?_ 1 _ rfl; (with_reducible repeat (first | refine blk_drewN ?_ _ | refine blk_drew ?_ | refine blk_alloc ?_ _)); refine blk_put (cs := #[.int .i64 0, .int .i64 0]) ?_ 0 _ rfl; (with_reducible repeat (first | refine blk_drewN ?_ _ | refine blk_drew ?_ | refine blk_alloc ?_ _)); exact BK335.out) Tryz.underlying60 rfl kr_) rfl ?_
      exact ⟨er_, bl2_ GE334.out GE335.out⟩

/-! ### spec_l03Form: function 19 -/
def spec_l03Form.l0 : Nat → List (S60) → Int → List (S60) → Int → Option ((List (S60)))
 | 0, _, _, _, _ => none
 | k + 1, x0, x1, x5, x6 => if x6 < (x0.length : Int) then (if 0 ≤ x6 then ((spec_l03Turn.f k ((rd_T60 x0 x6).f0) ((rd_T60 x0 x6).f1) x1).bind fun bt340 => (if x5.length < 8796093022208 then (spec_l03Form.l0 k x0 x1 (x5 ++ [(⟨bt340.1, bt340.2⟩ : S60)]) (wrap64 (x6 + 1))) else (none))) else (none)) else ((spec_l02Sort.f k x5).bind fun t345 => ((spec_l02Normal.f k t345).bind fun t348 => (some t348)))
def spec_l03Form.f (k : Nat) (l0 : List (S60)) (a1 : Int) : Option ((List (S60))) := spec_l03Form.l0 k l0 a1 (([] : List (S60))) 0
theorem spec_l03Form.mono_l : ∀ k, (∀ y0 y1 y2 y3, LeO (spec_l03Form.l0 k y0 y1 y2 y3) (spec_l03Form.l0 (k + 1) y0 y1 y2 y3))
 | 0 => fun _ _ _ _ r h => by simp [spec_l03Form.l0] at h
 | k + 1 => by
  have ih0 := spec_l03Form.mono_l k
  ·intro y0 y1 y2 y3
   unfold spec_l03Form.l0
   with_reducible (repeat' first | exact ih0 _ _ _ _ | exact spec_l02Normal.mono _ _ | exact spec_l02Sort.mono _ _ | exact spec_l03Turn.mono _ _ _ _ | exact LeO.refl _ | exact LeO.none _ | refine LeO.ite ?_ ?_ | refine LeO.bind ?_ (fun _ => ?_))
theorem spec_l03Form.mono : ∀ a0 a1 k, LeO (spec_l03Form.f k a0 a1) (spec_l03Form.f (k + 1) a0 a1) := by
 intro a0 a1 k
 have ih0 := spec_l03Form.mono_l k
 unfold spec_l03Form.f
 with_reducible (repeat' first | exact ih0 _ _ _ _ | exact spec_l02Normal.mono _ _ | exact spec_l02Sort.mono _ _ | exact spec_l03Turn.mono _ _ _ _ | exact LeO.refl _ | exact LeO.none _ | refine LeO.ite ?_ ?_ | refine LeO.bind ?_ (fun _ => ?_))
set_option maxHeartbeats 8000000 in
set_option maxRecDepth 100000 in
theorem spec_l03Form.calls (k : Nat) (A0 : Option Addr) (c0 : Nat) (l0 : List (S60)) (a1 : Int) (r : List (S60)) (w : World) (hr0 : Kd.C k60 w A0 l0.length l0) (hc0 : l0.length ≤ c0) (h : spec_l03Form.f k l0 a1 = some r) :
  Calls Tryz.prog 19 #[.slice A0 l0.length c0, .int .i64 a1] w fun e w' => ∃ v0_ : Value, e = .returned (v0_) ∧ Kd.R k60 60 w' w.heap.size (fun _ => True) v0_ r ∧ Below w.heap.size w w' := by
 have hu60 := Tryz.underlying60
 have HR0 := Aside0.mk hr0
 have HC0 := Aside0.mk hc0
 clear hr0 hc0
 have HB := a0_ (Below.refl w.heap.size w)
 have H : (spec_l03Form.l0 k l0 a1 (([] : List (S60))) 0) = some r := h
 clear h
 obtain ⟨y336, hy336⟩ : ∃ y_ : List (S60), y_ = (([] : List (S60))) := ⟨_, rfl⟩
 replace H : (spec_l03Form.l0 k l0 a1 y336 0) = some r := hh_ hy336 H
 have Ny336 := Aside0.mk hy336
 clear hy336
 have H' := Aside0.mk H
 clear H
 go_enter Tryz.func19, Tryz.ntmps19
 go_wp2_with (first | ((with_reducible refine gate_dst (N := 7) rfl ?_); refine Kd.R_lit k60 _ 60 ?hg (N := 7) ?hd (xs := ([] : List (S60))) (inner := []) (ok := fun _ => True) (okp := fun _ => True) ?hr ?hp (fun _ hk => hk) trivial (Below.refl _ _) (Nat.le_refl _) (by simp) ?_; (case hd => rfl); (case hg => rfl); (case hr => first | (go_simp; done) | (go_simp; rfl)); (case hp => exact (Reps.none _ _)); intro v337 w3 ho4 hb hg_ hnew_; clear hg_ hnew_; (first | rw [← Ny336.out] at ho4 | (simp only [Int.reduceToNat] at ho4; rw [← Ny336.out] at ho4)); have HO338 := a0_ (Kd.R_lower ho4 (below_size (bl0_))); replace HB := a0_ (below_step (bl0_) hb); clear hb ho4))
 go_loopg [5, 6] k (fun kq v5 v6 w' => ∃ (x5_1 : List (S60)) (x6_1 : Int), v6 = .int .i64 x6_1 ∧ Aside0 (spec_l03Form.l0 kq l0 a1 x5_1 x6_1 = some r) ∧ Aside0 (kq ≤ k) ∧ Aside0 (Kd.R k60 60 w' w.heap.size (fun _ => True) v5 x5_1) ∧ Aside0 (Below w.heap.size w w'))
 case atStart => exact ⟨(y336), (0), rs_, H', ⟨Nat.le_refl _⟩, ⟨ra_ HO338.out⟩, ⟨bl0_⟩⟩
 case round =>
  clear H'
  try clear c1
  try clear p2
  obtain ⟨x5_1, x6_1, rfl, HA, HK1, HO_5, HB⟩ := hrel
  cases gk with
  | zero => exact absurd HA.out (by simp [spec_l03Form.l0])
  | succ k1 =>
   have H := HA.out
   clear HA
   simp only [spec_l03Form.l0] at H
   by_cases c5 : x6_1 < (l0.length : Int)
   ·rw [if_pos c5] at H
    have c5b0 : decide (x6_1 < (l0.length : Int)) = true := decide_eq_true c5
    clear c5
    by_cases c6 : 0 ≤ x6_1
    ·rw [if_pos c6] at H
     have c6b0 : decide (0 ≤ x6_1) = true := decide_eq_true c6
     clear c6
     obtain ⟨⟨t340, t341⟩, A7, H⟩ := bs_ H
     dsimp only at H
     by_cases c8 : x5_1.length < 8796093022208
     ·rw [if_pos c8] at H
      have LMc8 := Aside0.mk c8
      clear c8
      obtain ⟨y342, hy342⟩ : ∃ y_ : List (S60), y_ = (x5_1 ++ [(⟨t340, t341⟩ : S60)]) := ⟨_, rfl⟩
      replace H : (spec_l03Form.l0 k1 l0 a1 y342 (wrap64 (x6_1 + 1))) = some r := hh_ hy342 H
      have Ny342 := Aside0.mk hy342
      clear hy342
      have H' := Aside0.mk H
      clear H
      have p339 : 0 ≤ (x6_1 : Int) := od_
      have q339 : x6_1 < (l0.length : Int) := od_
      obtain ⟨ad339, e339, hx339_0, hx339_1⟩ := at_T60 HR0.out x6_1 p339 q339
      cases e339
      replace hx339_0 := (HB.out.cell (World.block_lt_of_cell? w _ hx339_0)).trans hx339_0
      replace hx339_1 := (HB.out.cell (World.block_lt_of_cell? w _ hx339_1)).trans hx339_1
      replace p339 := eq_true p339
      replace q339 := eq_true q339
      go_wp2_with (first | ((with_reducible refine gate_callee (f := 34) rfl ?_); refine goesL_ (some 20) rfl rfl Tryz.func34 kr_ rfl #[.agg #[.int .i64 ((rd_T60 l0 x6_1).f0), .int .i64 ((rd_T60 l0 x6_1).f1)], .int .i64 a1] rfl ta_ ?_; (with_reducible refine (spec_l03Turn.calls k1 ((rd_T60 l0 x6_1).f0) ((rd_T60 l0 x6_1).f1) a1 t340 t341 _ A7.out).mono ?_); rintro e w9 ⟨rfl, hb⟩; refine ⟨_, rfl, ?_⟩; replace HO_5 := a0_ (Kd.R_below (ra_ HO_5.out) hb); replace HB := a0_ (below_step (bl0_) hb); (try clear hb); (try clear hb2); (try clear hk); (try clear hi)) | ((with_reducible refine gate_builtin (b := .append) (xs := #[.tmp 14, .tmp 21]) rfl ?_); at_builtin; refine Kd.R_append k60 (w0 := w) w.heap.size rfl (.tmp 14) (.tmp 21) 24 60 (.agg #[(.int .i64 0), (.int .i64 0)]) 16 rfl Tryz.underlying24 info60 rfl (by decide) (by omega) u5 x5_1 (⟨t340, t341⟩ : S60) [.int .i64 t340, .int .i64 t341] (fun _ => True) (fun _ => False) rfl rfl ?aP (fun _ hk => hk.elim) ?aF ?aO ?aB ?aS ?aL ?_; (case aP => exact k60_mkM _ _ _ (⟨t340, t341⟩ : S60)); (case aB => exact (bl0_)); (case aF => exact (fun _ _ => trivial)); (case aO => exact (ra_ HO_5.out)); (case aS => exact (below_size (bl0_))); (case aL => have := LMc8.out; omega); intro v343 w10 ho hb hg hat; rw [← Ny342.out] at ho; replace HB := a0_ (hb); have HO344 := a0_ (ho); clear HO_5; clear ho hb hg hat))
      go_roundg k1
      case measure => have := HK1.out; omega
      case rel => exact ⟨(y342), (wrap64 (x6_1 + 1)), rs_, H', ⟨by have := HK1.out; omega⟩, ⟨ra_ HO344.out⟩, ⟨bl0_⟩⟩
     ·rw [if_neg c8] at H
      exact absurd H (by simp)
    ·rw [if_neg c6] at H
     exact absurd H (by simp)
   ·rw [if_neg c5] at H
    have c5b0 : decide (x6_1 < (l0.length : Int)) = false := decide_eq_false c5
    clear c5
    obtain ⟨t345, A11, H⟩ := bs_ H
    obtain ⟨t348, A12, H⟩ := bs_ H
    obtain rfl := Option.some.inj H
    obtain ⟨Ao13, co13, eo13⟩ := Kd.R_slice HO_5.out
    subst eo13
    go_wp2_with (first | ((with_reducible refine gate_callee (f := 36) rfl ?_); refine goesL_ (some 24) rfl rfl Tryz.func36 kr_ rfl #[.slice Ao13 x5_1.length co13] rfl ta_ ?_; (with_reducible refine (spec_l02Sort.calls k1 _ _ x5_1 t345 _ ?side1 ?side2 A11.out).mono ?_); (case side1 => exact ca_ (Kd.R_reads' HO_5.out).2.2); (case side2 => exact (Kd.R_reads' HO_5.out).2.1); rintro e w14 ⟨v346, rfl, ho0, hb⟩; refine ⟨_, rfl, ?_⟩; have HO347 := a0_ (Kd.R_lower (Kd.R_new' ho0 (Kd.R_lt (ra_ HO_5.out))) (below_size (bl0_))); replace HO_5 := a0_ (Kd.R_elder' (ra_ HO_5.out) (Kd.R_base ho0) hb); replace HB := a0_ (below_step (bl0_) hb); (try clear hb); (try clear hb2); (try clear hk); (try clear hi); (try clear ho0); obtain ⟨Ao15, co15, eo15⟩ := Kd.R_slice HO347.out; subst eo15) | ((with_reducible refine gate_callee (f := 35) rfl ?_); refine goesL_ (some 25) rfl rfl Tryz.func35 kr_ rfl #[.slice Ao15 t345.length co15] rfl ta_ ?_; (with_reducible refine (spec_l02Normal.calls k1 _ _ t345 t348 _ ?side1 ?side2 A12.out).mono ?_); (case side1 => exact ca_ (Kd.R_reads' HO347.out).2.2); (case side2 => exact (Kd.R_reads' HO347.out).2.1); rintro e w16 ⟨v349, rfl, ho0, hb⟩; refine ⟨_, rfl, ?_⟩; have HO350 := a0_ (Kd.R_lower (Kd.R_new' (Kd.R_new' ho0 (Kd.R_lt (ra_ HO_5.out))) (Kd.R_lt (ra_ HO347.out))) (below_size (bl0_))); replace HO_5 := a0_ (Kd.R_elder' (ra_ HO_5.out) (Kd.R_base ho0) hb); replace HO347 := a0_ (Kd.R_elder' (ra_ HO347.out) (Kd.R_base ho0) hb); replace HB := a0_ (below_step (bl0_) hb); (try clear hb); (try clear hb2); (try clear hk); (try clear hi); (try clear ho0)))
    go_ret
    exact ⟨_, er_, by (with_reducible repeat (first | apply Kd.R_alloc | apply Kd.R_drewN | apply Kd.R_drew)); exact Kd.R_mono HO350.out (fun _ hk => trivial), bl0_⟩

end Go.Proofs.YtaaodakmelihaaaGreat.PFnPieces
