/- Over the kit's printer by a driver of mine (hprint.py), with parts by hand: functions of the program as Lean functions, and that each call comes to exactly these answers. -/
import Derived.Test.YtopceddgiddhlaaDoorPFnNetsx0
import Derived.Test.YtopceddgiddhlaaDoorPFnNetsx1
import Derived.Test.YtopceddgiddhlaaDoorPFnNetsx2
import Derived.Test.YtopceddgiddhlaaDoorPFnNetsx5
import Derived.Test.YtopceddgiddhlaaDoorPFnNetsx6
import Derived.Test.YtopceddgiddhlaaDoorPFnNetsx7
import Derived.Test.YtopceddgiddhlaaDoorPFnNetsx8
import Derived.Test.YtopceddgiddhlaaDoorPFnNetsx9
namespace Go.Proofs.YtopceddgiddhlaaDoor.PFnNets
open Go.RowKit Go.Proofs.YtopceddgiddhlaaDoorW.PrintWords Go.Proofs.YtopceddgiddhlaaDoorW.PrintLast Go.Proofs.YtopceddgiddhlaaDoorW.PrintMore
attribute [local go_sem] max2_int min2_int max_two min_two max_three min_three max_four min_four   -- for this text's walks alone
set_option linter.unusedVariables false
set_option linter.unusedSimpArgs false

attribute [local go_sem high] eqA78
/-! ### spec_l03Turn: function 113 -/
mutual
def spec_l03Turn.j0 : Nat → Int → Int → Int → Option (Int × Int)
 | 0, _, _, _ => none
 | k + 1, x1, x312000, x312001 => spec_l03Turn.l0 k (Int.tmod x1 4) x312000 x312001
def spec_l03Turn.l0 : Nat → Int → Int → Int → Option (Int × Int)
 | 0, _, _, _ => none
 | k + 1, x5, x312000, x312001 => if x5 > 0 then (spec_l03Turn.l0 k (wrap64 (x5 - 1)) (wrap64 (-x312001)) x312000) else (some (x312000, x312001))
end
def spec_l03Turn.f (k : Nat) (a0_0 : Int) (a0_1 : Int) (a1 : Int) : Option (Int × Int) := if a1 ≥ 4 then (spec_l03Turn.j0 k a1 (wrap64 (-a0_0)) a0_1) else (spec_l03Turn.j0 k a1 a0_0 a0_1)
theorem spec_l03Turn.mono_l : ∀ k, (∀ y0 y1 y2, LeO (spec_l03Turn.j0 k y0 y1 y2) (spec_l03Turn.j0 (k + 1) y0 y1 y2)) ∧ (∀ y0 y1 y2, LeO (spec_l03Turn.l0 k y0 y1 y2) (spec_l03Turn.l0 (k + 1) y0 y1 y2))
 | 0 => ⟨fun _ _ _ r h => by simp [spec_l03Turn.j0] at h, fun _ _ _ r h => by simp [spec_l03Turn.l0] at h⟩
 | k + 1 => by
  obtain ⟨ih0, ih1⟩ := spec_l03Turn.mono_l k
  refine ⟨?_, ?_⟩
  ·intro y0 y1 y2
   unfold spec_l03Turn.j0
   with_reducible (repeat' first | exact ih0 _ _ _ | exact ih1 _ _ _ | exact LeO.refl _ | exact LeO.none _ | refine LeO.ite ?_ ?_ | refine LeO.bind ?_ (fun _ => ?_))
  ·intro y0 y1 y2
   unfold spec_l03Turn.l0
   with_reducible (repeat' first | exact ih0 _ _ _ | exact ih1 _ _ _ | exact LeO.refl _ | exact LeO.none _ | refine LeO.ite ?_ ?_ | refine LeO.bind ?_ (fun _ => ?_))
theorem spec_l03Turn.mono : ∀ a0 a1 a2 k, LeO (spec_l03Turn.f k a0 a1 a2) (spec_l03Turn.f (k + 1) a0 a1 a2) := by
 intro a0 a1 a2 k
 obtain ⟨ih0, ih1⟩ := spec_l03Turn.mono_l k
 unfold spec_l03Turn.f
 with_reducible (repeat' first | exact ih0 _ _ _ | exact ih1 _ _ _ | exact LeO.refl _ | exact LeO.none _ | refine LeO.ite ?_ ?_ | refine LeO.bind ?_ (fun _ => ?_))
set_option maxHeartbeats 8000000 in
set_option maxRecDepth 100000 in
theorem spec_l03Turn.calls (k : Nat) (a0_0 : Int) (a0_1 : Int) (a1 : Int) (r1 : Int) (r2 : Int) (w : World) (h : spec_l03Turn.f k a0_0 a0_1 a1 = some (r1, r2)) :
  Calls Tryd.prog 113 #[.agg #[.int .i64 a0_0, .int .i64 a0_1], .int .i64 a1] w fun e w' => e = .returned (.agg #[.int .i64 r1, .int .i64 r2]) ∧ Below w.heap.size w w' := by
 have hu78 := Tryd.underlying78
 have HB := a0_ (Below.refl w.heap.size w)
 have H := h
 clear h
 unfold spec_l03Turn.f at H
 have HC3 := Aside0.mk H
 clear H
 go_enter Tryd.func113, Tryd.ntmps113
 go_upto_if 7 with (first | ((with_reducible refine gate_dst (N := 2) rfl ?_); refine bx_ (N := 2) (cs := #[.int .i64 a0_0, .int .i64 a0_1]) (t := 78) ?_; intro gb311 hg w4 hbox hb; have BK311 := a0_ (hbox); have GW311 := a0_ ((sz_ hg (bl0_) : w.heap.size ≤ gb311)); have GE311 := a0_ ((sz_ hg (bl0_) : w.heap.size ≤ gb311)); replace HB := a0_ (below_step (bl0_) hb); clear hb hbox hg) | ((with_reducible refine gate_dst (N := 4) rfl ?_); refine bx_ (N := 4) (cs := #[.int .i64 0, .int .i64 0]) (t := 78) ?_; intro gb312 hg w5 hbox hb; have BK312 := a0_ (hbox); have GW312 := a0_ ((sz_ hg (bl1_ GE311.out) : w.heap.size ≤ gb312)); have GE312 := a0_ ((sz_ hg (bl1_ GE311.out) : w.heap.size ≤ gb312)); replace HB := a0_ (below_step (bl1_ GE311.out) hb); have NB311_312 := a0_ ((nl_ hg BK311.out : gb311 ≠ gb312)); have NB312_311 := a0_ ((ng_ hg BK311.out : gb312 ≠ gb311)); replace BK311 := a0_ (bb_ BK311.out hb); clear hb hbox hg))
 (try simp only [Act.put, List.setIfInBounds_toArray, List.set_cons_zero, List.set_cons_succ])
 go_cut [] (fun wc => ∃ (kq : Nat) (x312000_2 : Int) (x312001_2 : Int), Aside0 (spec_l03Turn.j0 kq a1 x312000_2 x312001_2 = some (r1, r2)) ∧ Aside0 (kq ≤ k) ∧ Aside0 (wc.heap[gb311]? = some (.cells #[.int .i64 x312000_2, .int .i64 x312001_2] 78 (0, 0))) ∧ Aside0 (wc.heap[gb312]? = some (.cells #[.int .i64 0, .int .i64 0] 78 (0, 0))) ∧ Aside0 (Below w.heap.size w wc))
 case first =>
  have H := HC3.out
  clear HC3
  by_cases c6 : a1 ≥ 4
  ·rw [if_pos c6] at H
   have c6b0 : decide (4 ≤ a1) = true := decide_eq_true c6
   clear c6
   (first | rw [c6b0] | (simp only [i64_w, i32_w]; rw [c6b0]) | skip)
   have H' := Aside0.mk H
   clear H
   have hnb7 := NB311_312.out
   have hnc7 := NB312_311.out
   have hcz8_0 : w5.cell? ⟨gb311, 0, none⟩ = some (.int .i64 a0_0) := (blk_cell BK311.out 0).trans rfl
   have hcz8_1 : w5.cell? ⟨gb311, 1, none⟩ = some (.int .i64 a0_1) := (blk_cell BK311.out 1).trans rfl
   have hfz8_0 := blk_frozen BK311.out 0
   have hfz8_1 := blk_frozen BK311.out 1
   go_wp2
   go_meet
   case rel => exact ⟨_, (wrap64 (-a0_0)), (a0_1), H', ⟨by first | omega | exact Nat.le_refl _⟩, ⟨by (with_reducible repeat (first | refine blk_drewN ?_ _ | refine blk_drew ?_ | refine blk_alloc ?_ _)); refine blk_put (cs := #[.int .i64 (wrap64 (-a0_0)), .int .i64 a0_1]) ?_ 1 _ rfl; (with_reducible repeat (first | refine blk_drewN ?_ _ | refine blk_drew ?_ | refine blk_alloc ?_ _)); refine blk_put (cs := #[.int .i64 a0_0, .int .i64 a0_1]) ?_ 0 _ rfl; (with_reducible repeat (first | refine blk_drewN ?_ _ | refine blk_drew ?_ | refine blk_alloc ?_ _)); exact BK311.out⟩, ⟨by (with_reducible repeat (first | refine blk_drewN ?_ _ | refine blk_drew ?_ | refine blk_alloc ?_ _)); refine blk_far ?_ NB312_311.out _; (with_reducible repeat (first | refine blk_drewN ?_ _ | refine blk_drew ?_ | refine blk_alloc ?_ _)); refine blk_far ?_ NB312_311.out _; (with_reducible repeat (first | refine blk_drewN ?_ _ | refine blk_drew ?_ | refine blk_alloc ?_ _)); exact BK312.out⟩, ⟨bl2_ GE311.out GE312.out⟩⟩
  ·rw [if_neg c6] at H
   have c6b0 : decide (4 ≤ a1) = false := decide_eq_false c6
   clear c6
   (first | rw [c6b0] | (simp only [i64_w, i32_w]; rw [c6b0]) | skip)
   have H' := Aside0.mk H
   clear H
   go_wp2
   go_meet
   case rel => exact ⟨_, (a0_0), (a0_1), H', ⟨by first | omega | exact Nat.le_refl _⟩, ⟨bk_ BK311.out⟩, ⟨bk_ BK312.out⟩, ⟨bl2_ GE311.out GE312.out⟩⟩
 case rest =>
  clear HC3
  try clear c1
  try clear p2
  try clear c6
  try clear c6b0
  try clear p6
  try clear c7
  try clear hcz8_0
  try clear hcz8_1
  try clear hfz8_0
  try clear hfz8_1
  obtain ⟨kq, x312000_2, x312001_2, HA, HJ2, BK311, BK312, HB⟩ := hcut
  cases kq with
  | zero => exact absurd HA.out (by simp [spec_l03Turn.j0])
  | succ kj2 =>
   have H := HA.out
   clear HA
   simp only [spec_l03Turn.j0] at H
   have H' := Aside0.mk H
   clear H
   go_wp2
   go_loopg [5] kj2 (fun kq v5 w' => ∃ (x5_2 : Int) (x312000_2 : Int) (x312001_2 : Int), v5 = .int .i64 x5_2 ∧ Aside0 (spec_l03Turn.l0 kq x5_2 x312000_2 x312001_2 = some (r1, r2)) ∧ Aside0 (kq ≤ kj2) ∧ Aside0 (w'.heap[gb311]? = some (.cells #[.int .i64 x312000_2, .int .i64 x312001_2] 78 (0, 0))) ∧ Aside0 (w'.heap[gb312]? = some (.cells #[.int .i64 0, .int .i64 0] 78 (0, 0))) ∧ Aside0 (Below w.heap.size w w'))
   case atStart => exact ⟨(Int.tmod a1 4), (x312000_2), (x312001_2), rs_, H', ⟨Nat.le_refl _⟩, ⟨bk_ BK311.out⟩, ⟨bk_ BK312.out⟩, ⟨bl2_ GE311.out GE312.out⟩⟩
   case round =>
    clear H'
    try clear c1
    try clear p2
    try clear c6
    try clear c6b0
    try clear p6
    try clear c7
    try clear hcz8_0
    try clear hcz8_1
    try clear hfz8_0
    try clear hfz8_1
    try clear p2
    try clear p6
    obtain ⟨x5_2, x312000_2, x312001_2, rfl, HA, HK2, BK311, BK312, HB⟩ := hrel
    cases gk with
    | zero => exact absurd HA.out (by simp [spec_l03Turn.l0])
    | succ k2 =>
     have H := HA.out
     clear HA
     simp only [spec_l03Turn.l0] at H
     by_cases c9 : x5_2 > 0
     ·rw [if_pos c9] at H
      have c9b0 : decide (0 < x5_2) = true := decide_eq_true c9
      clear c9
      have H' := Aside0.mk H
      clear H
      have hnb10 := NB311_312.out
      have hnc10 := NB312_311.out
      have hcz11_0 : wr.cell? ⟨gb311, 0, none⟩ = some (.int .i64 x312000_2) := (blk_cell BK311.out 0).trans rfl
      have hcz11_1 : wr.cell? ⟨gb311, 1, none⟩ = some (.int .i64 x312001_2) := (blk_cell BK311.out 1).trans rfl
      have hfz11_0 := blk_frozen BK311.out 0
      have hfz11_1 := blk_frozen BK311.out 1
      go_wp2
      go_roundg k2
      case measure => have := HJ2.out; have := HK2.out; omega
      case rel => exact ⟨(wrap64 (x5_2 - 1)), (wrap64 (-x312001_2)), (x312000_2), rs_, H', ⟨by have := HJ2.out; have := HK2.out; omega⟩, ⟨by (with_reducible repeat (first | refine blk_drewN ?_ _ | refine blk_drew ?_ | refine blk_alloc ?_ _)); refine blk_put (cs := #[.int .i64 (wrap64 (-x312001_2)), .int .i64 x312001_2]) ?_ 1 _ rfl; (with_reducible repeat (first | refine blk_drewN ?_ _ | refine blk_drew ?_ | refine blk_alloc ?_ _)); refine blk_put (cs := #[.int .i64 x312000_2, .int .i64 x312001_2]) ?_ 0 _ rfl; (with_reducible repeat (first | refine blk_drewN ?_ _ | refine blk_drew ?_ | refine blk_alloc ?_ _)); exact BK311.out⟩, ⟨by (with_reducible repeat (first | refine blk_drewN ?_ _ | refine blk_drew ?_ | refine blk_alloc ?_ _)); refine blk_far ?_ NB312_311.out _; (with_reducible repeat (first | refine blk_drewN ?_ _ | refine blk_drew ?_ | refine blk_alloc ?_ _)); refine blk_far ?_ NB312_311.out _; (with_reducible repeat (first | refine blk_drewN ?_ _ | refine blk_drew ?_ | refine blk_alloc ?_ _)); exact BK312.out⟩, ⟨bl2_ GE311.out GE312.out⟩⟩
     ·rw [if_neg c9] at H
      have c9b0 : decide (0 < x5_2) = false := decide_eq_false c9
      clear c9
      simp only [Option.some.injEq, Prod.mk.injEq] at H
      obtain ⟨rfl, rfl⟩ := H
      have hnb12 := NB311_312.out
      have hnc12 := NB312_311.out
      have hcz13_0 : wr.cell? ⟨gb311, 0, none⟩ = some (.int .i64 x312000_2) := (blk_cell BK311.out 0).trans rfl
      have hcz13_1 : wr.cell? ⟨gb311, 1, none⟩ = some (.int .i64 x312001_2) := (blk_cell BK311.out 1).trans rfl
      have hfz13_0 := blk_frozen BK311.out 0
      have hfz13_1 := blk_frozen BK311.out 1
      have hcz14_0 : wr.cell? ⟨gb312, 0, none⟩ = some (.int .i64 0) := (blk_cell BK312.out 0).trans rfl
      have hcz14_1 : wr.cell? ⟨gb312, 1, none⟩ = some (.int .i64 0) := (blk_cell BK312.out 1).trans rfl
      have hfz14_0 := blk_frozen BK312.out 0
      have hfz14_1 := blk_frozen BK312.out 1
      go_wp2
      refine bodyPost_ret (results_cell_row rfl _ _ gb312 78 #[.int .i64 x312000_2, .int .i64 x312001_2] (0, 0) _ rfl (by (with_reducible repeat (first | refine blk_drewN ?_ _ | refine blk_drew ?_ | refine blk_alloc ?_ _)); refine blk_put (cs := #[.int .i64 x312000_2, .int .i64 0]) ?_ 1 _ rfl; (with_reducible repeat (first | refine blk_drewN ?_ _ | refine blk_drew ?_ | refine blk_alloc ?_ _)); refine blk_put (cs := #[.int .i64 0, .int .i64 0]) ?_ 0 _ rfl; (with_reducible repeat (first | refine blk_drewN ?_ _ | refine blk_drew ?_ | refine blk_alloc ?_ _)); exact BK312.out) Tryd.underlying78 rfl kr_) rfl ?_
      exact ⟨er_, bl2_ GE311.out GE312.out⟩

/-! ### spec_l03Form: function 79 -/
def spec_l03Form.l0 : Nat → List (S78) → Int → List (S78) → Int → Option ((List (S78)))
 | 0, _, _, _, _ => none
 | k + 1, x0, x1, x5, x6 => if x6 < (x0.length : Int) then (if 0 ≤ x6 then ((spec_l03Turn.f k ((rd_T78 x0 x6).f0) ((rd_T78 x0 x6).f1) x1).bind fun bt317 => (if x5.length < 8796093022208 then (spec_l03Form.l0 k x0 x1 (x5 ++ [(⟨bt317.1, bt317.2⟩ : S78)]) (wrap64 (x6 + 1))) else (none))) else (none)) else ((spec_l02Sort.f k x5).bind fun t322 => ((spec_l02Normal.f k t322).bind fun t325 => (some t325)))
def spec_l03Form.f (k : Nat) (l0 : List (S78)) (a1 : Int) : Option ((List (S78))) := spec_l03Form.l0 k l0 a1 (([] : List (S78))) 0
theorem spec_l03Form.mono_l : ∀ k, (∀ y0 y1 y2 y3, LeO (spec_l03Form.l0 k y0 y1 y2 y3) (spec_l03Form.l0 (k + 1) y0 y1 y2 y3))
 | 0 => fun _ _ _ _ r h => by simp [spec_l03Form.l0] at h
 | k + 1 => by
  have ih0 := spec_l03Form.mono_l k
  ·intro y0 y1 y2 y3
   unfold spec_l03Form.l0
   with_reducible (repeat' first | exact ih0 _ _ _ _ | exact spec_l02Normal.mono _ _ | exact spec_l02Sort.mono _ _ | exact spec_l03Turn.mono _ _ _ _ | exact LeO.refl _ | exact LeO.none _ | refine LeO.ite ?_ ?_ | refine LeO.bind ?_ (fun _ => ?_))
theorem spec_l03Form.mono : ∀ a0 a1 k, LeO (spec_l03Form.f k a0 a1) (spec_l03Form.f (k + 1) a0 a1) := by
 intro a0 a1 k
 have ih0 := spec_l03Form.mono_l k
 unfold spec_l03Form.f
 with_reducible (repeat' first | exact ih0 _ _ _ _ | exact spec_l02Normal.mono _ _ | exact spec_l02Sort.mono _ _ | exact spec_l03Turn.mono _ _ _ _ | exact LeO.refl _ | exact LeO.none _ | refine LeO.ite ?_ ?_ | refine LeO.bind ?_ (fun _ => ?_))
set_option maxHeartbeats 8000000 in
set_option maxRecDepth 100000 in
theorem spec_l03Form.calls (k : Nat) (A0 : Option Addr) (c0 : Nat) (l0 : List (S78)) (a1 : Int) (r : List (S78)) (w : World) (hr0 : Kd.C k78 w A0 l0.length l0) (hc0 : l0.length ≤ c0) (h : spec_l03Form.f k l0 a1 = some r) :
  Calls Tryd.prog 79 #[.slice A0 l0.length c0, .int .i64 a1] w fun e w' => ∃ v0_ : Value, e = .returned (v0_) ∧ Kd.R k78 78 w' w.heap.size (fun _ => True) v0_ r ∧ Below w.heap.size w w' := by
 have hu78 := Tryd.underlying78
 have HR0 := Aside0.mk hr0
 have HC0 := Aside0.mk hc0
 clear hr0 hc0
 have HB := a0_ (Below.refl w.heap.size w)
 have H : (spec_l03Form.l0 k l0 a1 (([] : List (S78))) 0) = some r := h
 clear h
 obtain ⟨y313, hy313⟩ : ∃ y_ : List (S78), y_ = (([] : List (S78))) := ⟨_, rfl⟩
 replace H : (spec_l03Form.l0 k l0 a1 y313 0) = some r := by first | (rw [hy313]; with_reducible exact H) | (have H2_ := (Option.bind_some _ _).symm.trans H; rw [hy313]; with_reducible exact H2_) | (have H2_ := (Option.bind_some _ _).symm.trans H; with_reducible exact H2_) | with_reducible exact H | (rw [hy313]; exact H) | exact H
 have Ny313 := Aside0.mk hy313
 clear hy313
 have H' := Aside0.mk H
 clear H
 go_enter Tryd.func79, Tryd.ntmps79
 go_wp2_with (first | ((with_reducible refine gate_dst (N := 7) rfl ?_); refine Kd.R_lit k78 _ 78 ?hg (N := 7) ?hd (xs := ([] : List (S78))) (inner := []) (ok := fun _ => True) (okp := fun _ => True) ?hr ?hp (fun _ hk => hk) trivial (Below.refl _ _) (Nat.le_refl _) (by simp) ?_; (case hd => rfl); (case hg => rfl); (case hr => first | (go_simp; done) | (go_simp; rfl)); (case hp => exact (Reps.none _ _)); intro v314 w3 ho4 hb hg_ hnew_; clear hg_ hnew_; (first | rw [← Ny313.out] at ho4 | (simp only [Int.reduceToNat] at ho4; rw [← Ny313.out] at ho4)); have HO315 := a0_ (Kd.R_lower ho4 (below_size (bl0_))); replace HB := a0_ (below_step (bl0_) hb); clear hb ho4))
 go_loopg [5, 6] k (fun kq v5 v6 w' => ∃ (x5_1 : List (S78)) (x6_1 : Int), v6 = .int .i64 x6_1 ∧ Aside0 (spec_l03Form.l0 kq l0 a1 x5_1 x6_1 = some r) ∧ Aside0 (kq ≤ k) ∧ Aside0 (Kd.R k78 78 w' w.heap.size (fun _ => True) v5 x5_1) ∧ Aside0 (Below w.heap.size w w'))
 case atStart => exact ⟨(y313), (0), rs_, H', ⟨Nat.le_refl _⟩, ⟨ra_ HO315.out⟩, ⟨bl0_⟩⟩
 case round =>
  clear H'
  try clear p2
  obtain ⟨x5_1, x6_1, rfl, HA, HK1, HO_5, HB⟩ := hrel
  cases gk with
  | zero => exact absurd HA.out (by simp [spec_l03Form.l0])
  | succ k1 =>
   have H := HA.out
   clear HA
   simp only [spec_l03Form.l0] at H
   by_cases c5 : x6_1 < (l0.length : Int)
   ·rw [if_pos c5] at H
    have c5b0 : decide (x6_1 < (l0.length : Int)) = true := decide_eq_true c5
    clear c5
    by_cases c6 : 0 ≤ x6_1
    ·rw [if_pos c6] at H
     have c6b0 : decide (0 ≤ x6_1) = true := decide_eq_true c6
     clear c6
     obtain ⟨⟨t317, t318⟩, A7, H⟩ := bs_ H
     dsimp only at H
     by_cases c8 : x5_1.length < 8796093022208
     ·rw [if_pos c8] at H
      have LMc8 := Aside0.mk c8
      clear c8
      obtain ⟨y319, hy319⟩ : ∃ y_ : List (S78), y_ = (x5_1 ++ [(⟨t317, t318⟩ : S78)]) := ⟨_, rfl⟩
      replace H : (spec_l03Form.l0 k1 l0 a1 y319 (wrap64 (x6_1 + 1))) = some r := by first | (rw [hy319]; with_reducible exact H) | (have H2_ := (Option.bind_some _ _).symm.trans H; rw [hy319]; with_reducible exact H2_) | (have H2_ := (Option.bind_some _ _).symm.trans H; with_reducible exact H2_) | with_reducible exact H | (rw [hy319]; exact H) | exact H
      have Ny319 := Aside0.mk hy319
      clear hy319
      have H' := Aside0.mk H
      clear H
      have p316 : 0 ≤ (x6_1 : Int) := od_
      have q316 : x6_1 < (l0.length : Int) := od_
      obtain ⟨ad316, e316, hx316_0, hx316_1⟩ := at_T78 HR0.out x6_1 p316 q316
      cases e316
      replace hx316_0 := (HB.out.cell (World.block_lt_of_cell? w _ hx316_0)).trans hx316_0
      replace hx316_1 := (HB.out.cell (World.block_lt_of_cell? w _ hx316_1)).trans hx316_1
      replace p316 := eq_true p316
      replace q316 := eq_true q316
      go_wp2_with (first | ((with_reducible refine gate_callee (f := 113) rfl ?_); refine goesL_ (some 20) rfl rfl Tryd.func113 kr_ rfl #[.agg #[.int .i64 ((rd_T78 l0 x6_1).f0), .int .i64 ((rd_T78 l0 x6_1).f1)], .int .i64 a1] rfl ta_ ?_; (with_reducible refine (spec_l03Turn.calls k1 ((rd_T78 l0 x6_1).f0) ((rd_T78 l0 x6_1).f1) a1 t317 t318 _ A7.out).mono ?_); rintro e w9 ⟨rfl, hb⟩; refine ⟨_, rfl, ?_⟩; replace HO_5 := a0_ (Kd.R_below (ra_ HO_5.out) hb); replace HB := a0_ (below_step (bl0_) hb); (try clear hb); (try clear hb2); (try clear hk); (try clear hi)) | ((with_reducible refine gate_builtin (b := .append) (xs := #[.tmp 14, .tmp 21]) rfl ?_); at_builtin; refine Kd.R_append k78 (w0 := w) w.heap.size rfl (.tmp 14) (.tmp 21) 24 78 (.agg #[(.int .i64 0), (.int .i64 0)]) 16 rfl Tryd.underlying24 info78 rfl (by decide) (by omega) u5 x5_1 (⟨t317, t318⟩ : S78) [.int .i64 t317, .int .i64 t318] (fun _ => True) (fun _ => False) rfl rfl ?aP (fun _ hk => hk.elim) ?aF ?aO ?aB ?aS ?aL ?_; (case aP => exact k78_mkM _ _ _ (⟨t317, t318⟩ : S78)); (case aB => exact (bl0_)); (case aF => exact (fun _ _ => trivial)); (case aO => exact (ra_ HO_5.out)); (case aS => exact (below_size (bl0_))); (case aL => have := LMc8.out; omega); intro v320 w10 ho hb hg hat; rw [← Ny319.out] at ho; replace HB := a0_ (hb); have HO321 := a0_ (ho); clear HO_5; clear ho hb hg hat))
      go_roundg k1
      case measure => have := HK1.out; omega
      case rel => exact ⟨(y319), (wrap64 (x6_1 + 1)), rs_, H', ⟨by have := HK1.out; omega⟩, ⟨ra_ HO321.out⟩, ⟨bl0_⟩⟩
     ·rw [if_neg c8] at H
      exact absurd H (by simp)
    ·rw [if_neg c6] at H
     exact absurd H (by simp)
   ·rw [if_neg c5] at H
    have c5b0 : decide (x6_1 < (l0.length : Int)) = false := decide_eq_false c5
    clear c5
    obtain ⟨t322, A11, H⟩ := bs_ H
    obtain ⟨t325, A12, H⟩ := bs_ H
    obtain rfl := Option.some.inj H
    obtain ⟨Ao13, co13, eo13⟩ := Kd.R_slice HO_5.out
    subst eo13
    go_wp2_with (first | ((with_reducible refine gate_callee (f := 63) rfl ?_); refine goesL_ (some 24) rfl rfl Tryd.func63 kr_ rfl #[.slice Ao13 x5_1.length co13] rfl ta_ ?_; (with_reducible refine (spec_l02Sort.calls k1 _ _ x5_1 t322 _ ?side1 ?side2 A11.out).mono ?_); (case side1 => exact ca_ (Kd.R_reads' HO_5.out).2.2); (case side2 => exact (Kd.R_reads' HO_5.out).2.1); rintro e w14 ⟨v323, rfl, ho0, hb⟩; refine ⟨_, rfl, ?_⟩; have HO324 := a0_ (Kd.R_lower (Kd.R_new' ho0 (Kd.R_lt (ra_ HO_5.out))) (below_size (bl0_))); replace HO_5 := a0_ (Kd.R_elder' (ra_ HO_5.out) (Kd.R_base ho0) hb); replace HB := a0_ (below_step (bl0_) hb); (try clear hb); (try clear hb2); (try clear hk); (try clear hi); (try clear ho0); obtain ⟨Ao15, co15, eo15⟩ := Kd.R_slice HO324.out; subst eo15) | ((with_reducible refine gate_callee (f := 68) rfl ?_); refine goesL_ (some 25) rfl rfl Tryd.func68 kr_ rfl #[.slice Ao15 t322.length co15] rfl ta_ ?_; (with_reducible refine (spec_l02Normal.calls k1 _ _ t322 t325 _ ?side1 ?side2 A12.out).mono ?_); (case side1 => exact ca_ (Kd.R_reads' HO324.out).2.2); (case side2 => exact (Kd.R_reads' HO324.out).2.1); rintro e w16 ⟨v326, rfl, ho0, hb⟩; refine ⟨_, rfl, ?_⟩; have HO327 := a0_ (Kd.R_lower (Kd.R_new' (Kd.R_new' ho0 (Kd.R_lt (ra_ HO_5.out))) (Kd.R_lt (ra_ HO324.out))) (below_size (bl0_))); replace HO_5 := a0_ (Kd.R_elder' (ra_ HO_5.out) (Kd.R_base ho0) hb); replace HO324 := a0_ (Kd.R_elder' (ra_ HO324.out) (Kd.R_base ho0) hb); replace HB := a0_ (below_step (bl0_) hb); (try clear hb); (try clear hb2); (try clear hk); (try clear hi); (try clear ho0)))
    go_ret
    exact ⟨_, er_, by (with_reducible repeat (first | apply Kd.R_alloc | apply Kd.R_drewN | apply Kd.R_drew)); exact Kd.R_mono HO327.out (fun _ hk => trivial), bl0_⟩

/-! ### spec_l32Draw: function 45 -/
def spec_l32Draw.l0 : Nat → List (S78) → List Int → Int → Int → Option ((List (S78)) × Int × Int)
 | 0, _, _, _, _ => none
 | k + 1, x3, x1000, x1001, x1002 => if (x3.length : Int) < 6 then ((spec_l02Neighbours.f k x3).bind fun t360 => ((spec_l01Next.f x1000 x1001 x1002 (t360.length : Int)).bind fun bt363 => (if 0 ≤ bt363.1 then (if bt363.1 < (t360.length : Int) then ((spec_l02Insert.f k x3 ((rd_T78 t360 bt363.1).f0) ((rd_T78 t360 bt363.1).f1)).bind fun t367 => (spec_l32Draw.l0 k t367 x1000 bt363.2.1 bt363.2.2)) else (none)) else (none)))) else (some (x3, x1001, x1002))
def spec_l32Draw.f (k : Nat) (s0_0 : List Int) (s0_1 : Int) (s0_2 : Int) : Option ((List (S78)) × Int × Int) := (spec_l01Next.f s0_0 s0_1 s0_2 3).bind fun bt328 => (if bt328.1 = 0 then ((spec_l02Draw.f k s0_0 bt328.2.1 bt328.2.2).bind fun bt331 => (some (bt331.1, bt331.2.1, bt331.2.2))) else ((spec_l01Next.f s0_0 bt328.2.1 bt328.2.2 2).bind fun bt336 => (if bt336.1 = 0 then ((spec_l01Next.f s0_0 bt336.2.1 bt336.2.2 4).bind fun bt339 => ((spec_l01Next.f s0_0 bt339.2.1 bt339.2.2 4).bind fun bt342 => ((spec_l02Sort.f k (([(⟨0, 1⟩ : S78), (⟨1, 1⟩ : S78), (⟨2, 1⟩ : S78), (⟨3, 1⟩ : S78), (⟨bt339.1, 0⟩ : S78), (⟨bt342.1, 2⟩ : S78)] : List (S78)))).bind fun t348 => ((spec_l01Next.f s0_0 bt342.2.1 bt342.2.2 8).bind fun bt351 => ((spec_l03Form.f k t348 bt351.1).bind fun t354 => (some (t354, bt351.2.1, bt351.2.2))))))) else (spec_l32Draw.l0 k (([(⟨0, 0⟩ : S78)] : List (S78))) s0_0 bt336.2.1 bt336.2.2))))
theorem spec_l32Draw.mono_l : ∀ k, (∀ y0 y1 y2 y3, LeO (spec_l32Draw.l0 k y0 y1 y2 y3) (spec_l32Draw.l0 (k + 1) y0 y1 y2 y3))
 | 0 => fun _ _ _ _ r h => by simp [spec_l32Draw.l0] at h
 | k + 1 => by
  have ih0 := spec_l32Draw.mono_l k
  ·intro y0 y1 y2 y3
   unfold spec_l32Draw.l0
   with_reducible (repeat' first | exact ih0 _ _ _ _ | exact spec_l02Draw.mono _ _ _ _ | exact spec_l02Insert.mono _ _ _ _ | exact spec_l02Neighbours.mono _ _ | exact spec_l02Sort.mono _ _ | exact spec_l03Form.mono _ _ _ | exact LeO.refl _ | exact LeO.none _ | refine LeO.ite ?_ ?_ | refine LeO.bind ?_ (fun _ => ?_))
theorem spec_l32Draw.mono : ∀ a0 a1 a2 k, LeO (spec_l32Draw.f k a0 a1 a2) (spec_l32Draw.f (k + 1) a0 a1 a2) := by
 intro a0 a1 a2 k
 have ih0 := spec_l32Draw.mono_l k
 unfold spec_l32Draw.f
 with_reducible (repeat' first | exact ih0 _ _ _ _ | exact spec_l02Draw.mono _ _ _ _ | exact spec_l02Insert.mono _ _ _ _ | exact spec_l02Neighbours.mono _ _ | exact spec_l02Sort.mono _ _ | exact spec_l03Form.mono _ _ _ | exact LeO.refl _ | exact LeO.none _ | refine LeO.ite ?_ ?_ | refine LeO.bind ?_ (fun _ => ?_))
set_option maxHeartbeats 8000000 in
set_option maxRecDepth 100000 in
theorem spec_l32Draw.calls (k : Nat) (g : Nat) (s0_0 : List Int) (s0_1 : Int) (s0_2 : Int) (r1 : List (S78)) (r2 : Int) (r3 : Int) (w0 w : World) (hI : IsS81 w0 w g s0_0 s0_1 s0_2) (hB : Below w0.heap.size w0 w) (h : spec_l32Draw.f k s0_0 s0_1 s0_2 = some (r1, r2, r3)) :
  Calls Tryd.prog 45 #[.pointer (some ⟨g, 0, none⟩)] w fun e w' => ∃ v0_ : Value, e = .returned (v0_) ∧ Kd.R k78 78 w' w.heap.size (fun _ => True) v0_ r1 ∧ IsS81 w0 w' g s0_0 r2 r3 ∧ Below w0.heap.size w0 w' ∧ KeepBut w w' g none := by
 have hu78 := Tryd.underlying78
 have HI0 := Aside0.mk hI
 have HK := a0_ (KeepBut.refl w g none)
 have HL := Aside0.mk hB.size
 clear hI
 have HW0 := Aside0.mk hB.size
 have HB := Aside0.mk hB
 clear hB
 have H := h
 clear h
 unfold spec_l32Draw.f at H
 obtain ⟨⟨t328, t329, t330⟩, A2, H⟩ := bs_ H
 dsimp only at H
 by_cases c3 : t328 = 0
 ·rw [if_pos c3] at H
  have c3b0 : (t328 == 0) = true := beq_iff_eq.mpr c3
  have c3b1 : (t328 != 0) = false := bne_eq_false_iff_eq.mpr c3
  clear c3
  obtain ⟨⟨t331, t334, t335⟩, A4, H⟩ := bs_ H
  dsimp only at H
  simp only [Option.some.injEq, Prod.mk.injEq] at H
  obtain ⟨rfl, rfl, rfl⟩ := H
  go_enter Tryd.func45, Tryd.ntmps45
  go_wp2_with (first | ((with_reducible refine gate_callee (f := 58) rfl ?_); refine goesL_ (some 6) rfl rfl Tryd.func58 kr_ rfl #[.pointer (some ⟨g, 0, none⟩), .int .i64 3] rfl ta_ ?_; (with_reducible refine (spec_l01Next.calls g s0_0 s0_1 s0_2 3 t328 t329 t330 w0 _ ?side1 ?side2 A2.out).mono ?_); (case side1 => exact is81_ HI0.out); (case side2 => repeat (first | (with_reducible first | exact HB.out | apply below_alloc | apply pw_below_drewN | apply below_drew1 | refine below_set ?_ (IsS81.ge HI0.out)) | exact HB.out)); rintro e w5 ⟨rfl, hi, hb, hk⟩; refine ⟨_, rfl, ?_⟩; replace HK := a0_ (KeepBut.trans (kb0_) hk (.inl rfl)); replace HB := a0_ (hb); replace HI0 := a0_ (hi); (try clear hb); (try clear hb2); (try clear hk); (try clear hi)) | ((with_reducible refine gate_callee (f := 33) rfl ?_); refine goesL_ (some 9) rfl rfl Tryd.func33 kr_ rfl #[.pointer (some ⟨g, 0, none⟩)] rfl ta_ ?_; (with_reducible refine (spec_l02Draw.calls k g s0_0 t329 t330 t331 t334 t335 w0 _ ?side1 ?side2 A4.out).mono ?_); (case side1 => exact is81_ HI0.out); (case side2 => repeat (first | (with_reducible first | exact HB.out | apply below_alloc | apply pw_below_drewN | apply below_drew1 | refine below_set ?_ (IsS81.ge HI0.out)) | exact HB.out)); rintro e w6 ⟨v332, rfl, ho0, hi, hb, hk⟩; refine ⟨_, rfl, ?_⟩; have HO333 := a0_ (Kd.R_lower ho0 (keep_size (w := w) (g := g) (row := none) (kb0_))); replace HK := a0_ (KeepBut.trans (kb0_) hk (.inl rfl)); replace HB := a0_ (hb); replace HI0 := a0_ (hi); (try clear hb); (try clear hb2); (try clear hk); (try clear hi); (try clear ho0)))
  go_ret
  exact ⟨_, er_, ra_ HO333.out, is81_ HI0.out, by repeat (first | (with_reducible first | exact HB.out | apply below_alloc | apply pw_below_drewN | apply below_drew1 | refine below_set ?_ (IsS81.ge HI0.out)) | exact HB.out), kb0_⟩
 ·rw [if_neg c3] at H
  have c3b0 : (t328 == 0) = false := beq_eq_false_iff_ne.mpr c3
  have c3b1 : (t328 != 0) = true := bne_iff_ne.mpr c3
  obtain ⟨⟨t336, t337, t338⟩, A7, H⟩ := bs_ H
  dsimp only at H
  by_cases c8 : t336 = 0
  ·rw [if_pos c8] at H
   have c8b0 : (t336 == 0) = true := beq_iff_eq.mpr c8
   have c8b1 : (t336 != 0) = false := bne_eq_false_iff_eq.mpr c8
   clear c8
   obtain ⟨⟨t339, t340, t341⟩, A9, H⟩ := bs_ H
   dsimp only at H
   obtain ⟨⟨t342, t343, t344⟩, A10, H⟩ := bs_ H
   dsimp only at H
   obtain ⟨y345, hy345⟩ : ∃ y_ : List (S78), y_ = (([(⟨0, 1⟩ : S78), (⟨1, 1⟩ : S78), (⟨2, 1⟩ : S78), (⟨3, 1⟩ : S78), (⟨t339, 0⟩ : S78), (⟨t342, 2⟩ : S78)] : List (S78))) := ⟨_, rfl⟩
   replace H : ((spec_l02Sort.f k y345).bind fun t348 => ((spec_l01Next.f s0_0 t343 t344 8).bind fun bt351 => ((spec_l03Form.f k t348 bt351.1).bind fun t354 => (some (t354, bt351.2.1, bt351.2.2))))) = some (r1, r2, r3) := by first | (rw [hy345]; with_reducible exact H) | (have H2_ := (Option.bind_some _ _).symm.trans H; rw [hy345]; with_reducible exact H2_) | (have H2_ := (Option.bind_some _ _).symm.trans H; with_reducible exact H2_) | with_reducible exact H | (rw [hy345]; exact H) | exact H
   have Ny345 := Aside0.mk hy345
   clear hy345
   obtain ⟨t348, A11, H⟩ := bs_ H
   obtain ⟨⟨t351, t352, t353⟩, A12, H⟩ := bs_ H
   dsimp only at H
   obtain ⟨t354, A13, H⟩ := bs_ H
   simp only [Option.some.injEq, Prod.mk.injEq] at H
   obtain ⟨rfl, rfl, rfl⟩ := H
   go_enter Tryd.func45, Tryd.ntmps45
   go_wp2_with (first | ((with_reducible refine gate_callee (f := 58) rfl ?_); refine goesL_ (some 6) rfl rfl Tryd.func58 kr_ rfl #[.pointer (some ⟨g, 0, none⟩), .int .i64 3] rfl ta_ ?_; (with_reducible refine (spec_l01Next.calls g s0_0 s0_1 s0_2 3 t328 t329 t330 w0 _ ?side1 ?side2 A2.out).mono ?_); (case side1 => exact is81_ HI0.out); (case side2 => repeat (first | (with_reducible first | exact HB.out | apply below_alloc | apply pw_below_drewN | apply below_drew1 | refine below_set ?_ (IsS81.ge HI0.out)) | exact HB.out)); rintro e w14 ⟨rfl, hi, hb, hk⟩; refine ⟨_, rfl, ?_⟩; replace HK := a0_ (KeepBut.trans (kb0_) hk (.inl rfl)); replace HB := a0_ (hb); replace HI0 := a0_ (hi); (try clear hb); (try clear hb2); (try clear hk); (try clear hi)) | ((with_reducible refine gate_callee (f := 58) rfl ?_); refine goesL_ (some 11) rfl rfl Tryd.func58 kr_ rfl #[.pointer (some ⟨g, 0, none⟩), .int .i64 2] rfl ta_ ?_; (with_reducible refine (spec_l01Next.calls g s0_0 t329 t330 2 t336 t337 t338 w0 _ ?side1 ?side2 A7.out).mono ?_); (case side1 => exact is81_ HI0.out); (case side2 => repeat (first | (with_reducible first | exact HB.out | apply below_alloc | apply pw_below_drewN | apply below_drew1 | refine below_set ?_ (IsS81.ge HI0.out)) | exact HB.out)); rintro e w15 ⟨rfl, hi, hb, hk⟩; refine ⟨_, rfl, ?_⟩; replace HK := a0_ (KeepBut.trans (kb0_) hk (.inl rfl)); replace HB := a0_ (hb); replace HI0 := a0_ (hi); (try clear hb); (try clear hb2); (try clear hk); (try clear hi)) | ((with_reducible refine gate_callee (f := 58) rfl ?_); refine goesL_ (some 18) rfl rfl Tryd.func58 kr_ rfl #[.pointer (some ⟨g, 0, none⟩), .int .i64 4] rfl ta_ ?_; (with_reducible refine (spec_l01Next.calls g s0_0 t337 t338 4 t339 t340 t341 w0 _ ?side1 ?side2 A9.out).mono ?_); (case side1 => exact is81_ HI0.out); (case side2 => repeat (first | (with_reducible first | exact HB.out | apply below_alloc | apply pw_below_drewN | apply below_drew1 | refine below_set ?_ (IsS81.ge HI0.out)) | exact HB.out)); rintro e w16 ⟨rfl, hi, hb, hk⟩; refine ⟨_, rfl, ?_⟩; replace HK := a0_ (KeepBut.trans (kb0_) hk (.inl rfl)); replace HB := a0_ (hb); replace HI0 := a0_ (hi); (try clear hb); (try clear hb2); (try clear hk); (try clear hi)) | ((with_reducible refine gate_callee (f := 58) rfl ?_); refine goesL_ (some 21) rfl rfl Tryd.func58 kr_ rfl #[.pointer (some ⟨g, 0, none⟩), .int .i64 4] rfl ta_ ?_; (with_reducible refine (spec_l01Next.calls g s0_0 t340 t341 4 t342 t343 t344 w0 _ ?side1 ?side2 A10.out).mono ?_); (case side1 => exact is81_ HI0.out); (case side2 => repeat (first | (with_reducible first | exact HB.out | apply below_alloc | apply pw_below_drewN | apply below_drew1 | refine below_set ?_ (IsS81.ge HI0.out)) | exact HB.out)); rintro e w17 ⟨rfl, hi, hb, hk⟩; refine ⟨_, rfl, ?_⟩; replace HK := a0_ (KeepBut.trans (kb0_) hk (.inl rfl)); replace HB := a0_ (hb); replace HI0 := a0_ (hi); (try clear hb); (try clear hb2); (try clear hk); (try clear hi)) | ((with_reducible refine gate_dst (N := 23) rfl ?_); refine Kd.R_lit k78 _ 78 ?hg (N := 23) ?hd (xs := ([(⟨0, 1⟩ : S78), (⟨1, 1⟩ : S78), (⟨2, 1⟩ : S78), (⟨3, 1⟩ : S78), (⟨t339, 0⟩ : S78), (⟨t342, 2⟩ : S78)] : List (S78))) (inner := [.int .i64 0, .int .i64 1, .int .i64 1, .int .i64 1, .int .i64 2, .int .i64 1, .int .i64 3, .int .i64 1, .int .i64 t339, .int .i64 0, .int .i64 t342, .int .i64 2]) (ok := fun _ => True) (okp := fun _ => True) ?hr ?hp (fun _ hk => hk) trivial (Below.refl _ _) (Nat.le_refl _) (by simp) ?_; (case hd => rfl); (case hg => rfl); (case hr => first | (go_simp; done) | (go_simp; rfl)); (case hp => exact (Reps.c2 (show Kd.M k78 _ _ _ (⟨0, 1⟩ : S78) [.int .i64 0, .int .i64 1] from (k78_mkM _ _ _ (⟨0, 1⟩ : S78) )) (Reps.c2 (show Kd.M k78 _ _ _ (⟨1, 1⟩ : S78) [.int .i64 1, .int .i64 1] from (k78_mkM _ _ _ (⟨1, 1⟩ : S78) )) (Reps.c2 (show Kd.M k78 _ _ _ (⟨2, 1⟩ : S78) [.int .i64 2, .int .i64 1] from (k78_mkM _ _ _ (⟨2, 1⟩ : S78) )) (Reps.c2 (show Kd.M k78 _ _ _ (⟨3, 1⟩ : S78) [.int .i64 3, .int .i64 1] from (k78_mkM _ _ _ (⟨3, 1⟩ : S78) )) (Reps.c2 (show Kd.M k78 _ _ _ (⟨t339, 0⟩ : S78) [.int .i64 t339, .int .i64 0] from (k78_mkM _ _ _ (⟨t339, 0⟩ : S78) )) (Reps.c2 (show Kd.M k78 _ _ _ (⟨t342, 2⟩ : S78) [.int .i64 t342, .int .i64 2] from (k78_mkM _ _ _ (⟨t342, 2⟩ : S78) )) (Reps.none _ _)))))))); intro v346 w18 ho19 hb hg_ hnew_; clear hg_ hnew_; (first | rw [← Ny345.out] at ho19 | (simp only [Int.reduceToNat] at ho19; rw [← Ny345.out] at ho19)); have HO347 := a0_ (Kd.R_lower ho19 (keep_size (w := w) (g := g) (row := none) (kb0_))); replace HK := a0_ (KeepBut.trans (kb0_) (KeepBut.of_below hb g none) (.inl rfl)); replace HB := a0_ (below_step (by repeat (first | (with_reducible first | exact HB.out | apply below_alloc | apply pw_below_drewN | apply below_drew1 | refine below_set ?_ (IsS81.ge HI0.out)) | exact HB.out)) hb); replace HI0 := a0_ (IsS81.below (is81_ HI0.out) hb); clear hb ho19; obtain ⟨Ao20, co20, eo20⟩ := Kd.R_slice HO347.out; subst eo20) | ((with_reducible refine gate_callee (f := 63) rfl ?_); refine goesL_ (some 24) rfl rfl Tryd.func63 kr_ rfl #[.slice Ao20 y345.length co20] rfl ta_ ?_; (with_reducible refine (spec_l02Sort.calls k _ _ y345 t348 _ ?side1 ?side2 A11.out).mono ?_); (case side1 => exact ca_ (Kd.R_reads' HO347.out).2.2); (case side2 => exact (Kd.R_reads' HO347.out).2.1); rintro e w21 ⟨v349, rfl, ho0, hb⟩; refine ⟨_, rfl, ?_⟩; have HO350 := a0_ (Kd.R_lower (Kd.R_new' ho0 (Kd.R_lt (ra_ HO347.out))) (keep_size (w := w) (g := g) (row := none) (kb0_))); replace HO347 := a0_ (Kd.R_elder' (ra_ HO347.out) (Kd.R_base ho0) hb); replace HK := a0_ (KeepBut.trans (kb0_) (KeepBut.of_below hb g none) (.inl rfl)); replace HB := a0_ (below_step (by repeat (first | (with_reducible first | exact HB.out | apply below_alloc | apply pw_below_drewN | apply below_drew1 | refine below_set ?_ (IsS81.ge HI0.out)) | exact HB.out)) hb); replace HI0 := a0_ (IsS81.below (is81_ HI0.out) hb); (try clear hb); (try clear hb2); (try clear hk); (try clear hi); (try clear ho0)) | ((with_reducible refine gate_callee (f := 58) rfl ?_); refine goesL_ (some 26) rfl rfl Tryd.func58 kr_ rfl #[.pointer (some ⟨g, 0, none⟩), .int .i64 8] rfl ta_ ?_; (with_reducible refine (spec_l01Next.calls g s0_0 t343 t344 8 t351 t352 t353 w0 _ ?side1 ?side2 A12.out).mono ?_); (case side1 => exact is81_ HI0.out); (case side2 => repeat (first | (with_reducible first | exact HB.out | apply below_alloc | apply pw_below_drewN | apply below_drew1 | refine below_set ?_ (IsS81.ge HI0.out)) | exact HB.out)); rintro e w22 ⟨rfl, hi, hb, hk⟩; refine ⟨_, rfl, ?_⟩; replace HO347 := a0_ (Kd.R_mono (Kd.R_keep (IsS81.apart (show IsS81 w0 _ g s0_0 t343 t344 from is81_ HI0.out) (ra_ HO347.out) (by decide)) hk (fun _ h => h.2)) (fun _ h => h.1)); replace HO350 := a0_ (Kd.R_mono (Kd.R_keep (IsS81.apart (show IsS81 w0 _ g s0_0 t343 t344 from is81_ HI0.out) (ra_ HO350.out) (by decide)) hk (fun _ h => h.2)) (fun _ h => h.1)); replace HK := a0_ (KeepBut.trans (kb0_) hk (.inl rfl)); replace HB := a0_ (hb); replace HI0 := a0_ (hi); (try clear hb); (try clear hb2); (try clear hk); (try clear hi); obtain ⟨Ao23, co23, eo23⟩ := Kd.R_slice HO350.out; subst eo23) | ((with_reducible refine gate_callee (f := 79) rfl ?_); refine goesL_ (some 27) rfl rfl Tryd.func79 kr_ rfl #[.slice Ao23 t348.length co23, .int .i64 t351] rfl ta_ ?_; (with_reducible refine (spec_l03Form.calls k _ _ t348 t351 t354 _ ?side1 ?side2 A13.out).mono ?_); (case side1 => exact ca_ (Kd.R_reads' HO350.out).2.2); (case side2 => exact (Kd.R_reads' HO350.out).2.1); rintro e w24 ⟨v355, rfl, ho0, hb⟩; refine ⟨_, rfl, ?_⟩; have HO356 := a0_ (Kd.R_lower (Kd.R_new' (Kd.R_new' ho0 (Kd.R_lt (ra_ HO347.out))) (Kd.R_lt (ra_ HO350.out))) (keep_size (w := w) (g := g) (row := none) (kb0_))); replace HO347 := a0_ (Kd.R_elder' (ra_ HO347.out) (Kd.R_base ho0) hb); replace HO350 := a0_ (Kd.R_elder' (ra_ HO350.out) (Kd.R_base ho0) hb); replace HK := a0_ (KeepBut.trans (kb0_) (KeepBut.of_below hb g none) (.inl rfl)); replace HB := a0_ (below_step (by repeat (first | (with_reducible first | exact HB.out | apply below_alloc | apply pw_below_drewN | apply below_drew1 | refine below_set ?_ (IsS81.ge HI0.out)) | exact HB.out)) hb); replace HI0 := a0_ (IsS81.below (is81_ HI0.out) hb); (try clear hb); (try clear hb2); (try clear hk); (try clear hi); (try clear ho0)))
   go_ret
   exact ⟨_, er_, by (with_reducible repeat (first | apply Kd.R_alloc | apply Kd.R_drewN | apply Kd.R_drew)); exact Kd.R_mono HO356.out (fun _ hk => trivial), is81_ HI0.out, by repeat (first | (with_reducible first | exact HB.out | apply below_alloc | apply pw_below_drewN | apply below_drew1 | refine below_set ?_ (IsS81.ge HI0.out)) | exact HB.out), kb0_⟩
  ·rw [if_neg c8] at H
   have c8b0 : (t336 == 0) = false := beq_eq_false_iff_ne.mpr c8
   have c8b1 : (t336 != 0) = true := bne_iff_ne.mpr c8
   obtain ⟨y357, hy357⟩ : ∃ y_ : List (S78), y_ = (([(⟨0, 0⟩ : S78)] : List (S78))) := ⟨_, rfl⟩
   replace H : (spec_l32Draw.l0 k y357 s0_0 t337 t338) = some (r1, r2, r3) := by first | (rw [hy357]; with_reducible exact H) | (have H2_ := (Option.bind_some _ _).symm.trans H; rw [hy357]; with_reducible exact H2_) | (have H2_ := (Option.bind_some _ _).symm.trans H; with_reducible exact H2_) | with_reducible exact H | (rw [hy357]; exact H) | exact H
   have Ny357 := Aside0.mk hy357
   clear hy357
   have H' := Aside0.mk H
   clear H
   go_enter Tryd.func45, Tryd.ntmps45
   go_wp2_with (first | ((with_reducible refine gate_callee (f := 58) rfl ?_); refine goesL_ (some 6) rfl rfl Tryd.func58 kr_ rfl #[.pointer (some ⟨g, 0, none⟩), .int .i64 3] rfl ta_ ?_; (with_reducible refine (spec_l01Next.calls g s0_0 s0_1 s0_2 3 t328 t329 t330 w0 _ ?side1 ?side2 A2.out).mono ?_); (case side1 => exact is81_ HI0.out); (case side2 => repeat (first | (with_reducible first | exact HB.out | apply below_alloc | apply pw_below_drewN | apply below_drew1 | refine below_set ?_ (IsS81.ge HI0.out)) | exact HB.out)); rintro e w25 ⟨rfl, hi, hb, hk⟩; refine ⟨_, rfl, ?_⟩; replace HK := a0_ (KeepBut.trans (kb0_) hk (.inl rfl)); replace HB := a0_ (hb); replace HI0 := a0_ (hi); (try clear hb); (try clear hb2); (try clear hk); (try clear hi)) | ((with_reducible refine gate_callee (f := 58) rfl ?_); refine goesL_ (some 11) rfl rfl Tryd.func58 kr_ rfl #[.pointer (some ⟨g, 0, none⟩), .int .i64 2] rfl ta_ ?_; (with_reducible refine (spec_l01Next.calls g s0_0 t329 t330 2 t336 t337 t338 w0 _ ?side1 ?side2 A7.out).mono ?_); (case side1 => exact is81_ HI0.out); (case side2 => repeat (first | (with_reducible first | exact HB.out | apply below_alloc | apply pw_below_drewN | apply below_drew1 | refine below_set ?_ (IsS81.ge HI0.out)) | exact HB.out)); rintro e w26 ⟨rfl, hi, hb, hk⟩; refine ⟨_, rfl, ?_⟩; replace HK := a0_ (KeepBut.trans (kb0_) hk (.inl rfl)); replace HB := a0_ (hb); replace HI0 := a0_ (hi); (try clear hb); (try clear hb2); (try clear hk); (try clear hi)) | ((with_reducible refine gate_dst (N := 29) rfl ?_); refine Kd.R_lit k78 _ 78 ?hg (N := 29) ?hd (xs := ([(⟨0, 0⟩ : S78)] : List (S78))) (inner := [.int .i64 0, .int .i64 0]) (ok := fun _ => True) (okp := fun _ => True) ?hr ?hp (fun _ hk => hk) trivial (Below.refl _ _) (Nat.le_refl _) (by simp) ?_; (case hd => rfl); (case hg => rfl); (case hr => first | (go_simp; done) | (go_simp; rfl)); (case hp => exact (Reps.c2 (show Kd.M k78 _ _ _ (⟨0, 0⟩ : S78) [.int .i64 0, .int .i64 0] from (k78_mkM _ _ _ (⟨0, 0⟩ : S78) )) (Reps.none _ _))); intro v358 w27 ho28 hb hg_ hnew_; clear hg_ hnew_; (first | rw [← Ny357.out] at ho28 | (simp only [Int.reduceToNat] at ho28; rw [← Ny357.out] at ho28)); have HO359 := a0_ (Kd.R_lower ho28 (keep_size (w := w) (g := g) (row := none) (kb0_))); replace HK := a0_ (KeepBut.trans (kb0_) (KeepBut.of_below hb g none) (.inl rfl)); replace HB := a0_ (below_step (by repeat (first | (with_reducible first | exact HB.out | apply below_alloc | apply pw_below_drewN | apply below_drew1 | refine below_set ?_ (IsS81.ge HI0.out)) | exact HB.out)) hb); replace HI0 := a0_ (IsS81.below (is81_ HI0.out) hb); clear hb ho28))
   go_loopg [3] k (fun kq v3 w' => ∃ (x3_1 : List (S78)) (x1001_1 : Int) (x1002_1 : Int), Aside0 (spec_l32Draw.l0 kq x3_1 s0_0 x1001_1 x1002_1 = some (r1, r2, r3)) ∧ Aside0 (kq ≤ k) ∧ Aside0 (Kd.R k78 78 w' w.heap.size (fun _ => True) v3 x3_1) ∧ Aside0 (IsS81 w0 w' g s0_0 x1001_1 x1002_1) ∧ Aside0 (KeepBut w w' g none) ∧ Aside0 (Below w0.heap.size w0 w'))
   case atStart => exact ⟨(y357), (t337), (t338), H', ⟨Nat.le_refl _⟩, ⟨ra_ HO359.out⟩, ⟨is81_ HI0.out⟩, ⟨kb0_⟩, ⟨by repeat (first | (with_reducible first | exact HB.out | apply below_alloc | apply pw_below_drewN | apply below_drew1 | refine below_set ?_ (IsS81.ge HI0.out)) | exact HB.out)⟩⟩
   case round =>
    clear H'
    try clear c2
    try clear p2
    try clear c3
    try clear c3b0
    try clear c3b1
    try clear c4
    try clear c5
    try clear c6
    try clear c7
    try clear c8
    try clear c8b0
    try clear c8b1
    obtain ⟨x3_1, x1001_1, x1002_1, HA, HK1, HO_3, HI0, HK, HB⟩ := hrel
    cases gk with
    | zero => exact absurd HA.out (by simp [spec_l32Draw.l0])
    | succ k1 =>
     have H := HA.out
     clear HA
     simp only [spec_l32Draw.l0] at H
     by_cases c29 : (x3_1.length : Int) < 6
     ·rw [if_pos c29] at H
      have c29b0 : decide ((x3_1.length : Int) < 6) = true := decide_eq_true c29
      have c29b1 : decide (x3_1.length < 6) = true := decide_eq_true (by omega)
      clear c29
      obtain ⟨t360, A30, H⟩ := bs_ H
      obtain ⟨⟨t363, t364, t365⟩, A31, H⟩ := bs_ H
      dsimp only at H
      by_cases c32 : 0 ≤ t363
      ·rw [if_pos c32] at H
       have c32b0 : decide (0 ≤ t363) = true := decide_eq_true c32
       clear c32
       by_cases c33 : t363 < (t360.length : Int)
       ·rw [if_pos c33] at H
        have c33b0 : decide (t363 < (t360.length : Int)) = true := decide_eq_true c33
        clear c33
        obtain ⟨t367, A34, H⟩ := bs_ H
        have H' := Aside0.mk H
        clear H
        obtain ⟨Ao35, co35, eo35⟩ := Kd.R_slice HO_3.out
        subst eo35
        go_wp2_with (first | ((with_reducible refine gate_callee (f := 80) rfl ?_); refine goesL_ (some 34) rfl rfl Tryd.func80 kr_ rfl #[.slice Ao35 x3_1.length co35] rfl ta_ ?_; (with_reducible refine (spec_l02Neighbours.calls k1 _ _ x3_1 t360 _ ?side1 ?side2 A30.out).mono ?_); (case side1 => exact ca_ (Kd.R_reads' HO_3.out).2.2); (case side2 => exact (Kd.R_reads' HO_3.out).2.1); rintro e w36 ⟨v361, rfl, ho0, hb⟩; refine ⟨_, rfl, ?_⟩; have HO362 := a0_ (Kd.R_lower (Kd.R_new' ho0 (Kd.R_lt (ra_ HO_3.out))) (keep_size (w := w) (g := g) (row := none) (kb0_))); replace HO_3 := a0_ (Kd.R_elder' (ra_ HO_3.out) (Kd.R_base ho0) hb); replace HK := a0_ (KeepBut.trans (kb0_) (KeepBut.of_below hb g none) (.inl rfl)); replace HB := a0_ (below_step (by repeat (first | (with_reducible first | exact HB.out | apply below_alloc | apply pw_below_drewN | apply below_drew1 | refine below_set ?_ (IsS81.ge HI0.out)) | exact HB.out)) hb); replace HI0 := a0_ (IsS81.below (is81_ HI0.out) hb); (try clear hb); (try clear hb2); (try clear hk); (try clear hi); (try clear ho0); obtain ⟨Ao37, co37, eo37⟩ := Kd.R_slice HO362.out; subst eo37) | ((with_reducible refine gate_callee (f := 58) rfl ?_); refine goesL_ (some 40) rfl rfl Tryd.func58 kr_ rfl #[.pointer (some ⟨g, 0, none⟩), .int .i64 (t360.length : Int)] rfl ta_ ?_; (with_reducible refine (spec_l01Next.calls g s0_0 x1001_1 x1002_1 (t360.length : Int) t363 t364 t365 w0 _ ?side1 ?side2 A31.out).mono ?_); (case side1 => exact is81_ HI0.out); (case side2 => repeat (first | (with_reducible first | exact HB.out | apply below_alloc | apply pw_below_drewN | apply below_drew1 | refine below_set ?_ (IsS81.ge HI0.out)) | exact HB.out)); rintro e w38 ⟨rfl, hi, hb, hk⟩; refine ⟨_, rfl, ?_⟩; replace HO_3 := a0_ (Kd.R_mono (Kd.R_keep (IsS81.apart (show IsS81 w0 _ g s0_0 x1001_1 x1002_1 from is81_ HI0.out) (ra_ HO_3.out) (by decide)) hk (fun _ h => h.2)) (fun _ h => h.1)); replace HO362 := a0_ (Kd.R_mono (Kd.R_keep (IsS81.apart (show IsS81 w0 _ g s0_0 x1001_1 x1002_1 from is81_ HI0.out) (ra_ HO362.out) (by decide)) hk (fun _ h => h.2)) (fun _ h => h.1)); replace HK := a0_ (KeepBut.trans (kb0_) hk (.inl rfl)); replace HB := a0_ (hb); replace HI0 := a0_ (hi); (try clear hb); (try clear hb2); (try clear hk); (try clear hi); have p366 : 0 ≤ (t363 : Int) := od_; have q366 : t363 < (t360.length : Int) := od_; obtain ⟨ad366, e366, hx366_0, hx366_1⟩ := at_T78 (Kd.R_reads' HO362.out).2.2 t363 p366 q366; cases e366; replace p366 := eq_true p366; replace q366 := eq_true q366) | ((with_reducible refine gate_callee (f := 81) rfl ?_); refine goesL_ (some 43) rfl rfl Tryd.func81 kr_ rfl #[.slice Ao35 x3_1.length co35, .agg #[.int .i64 ((rd_T78 t360 t363).f0), .int .i64 ((rd_T78 t360 t363).f1)]] rfl ta_ ?_; (with_reducible refine (spec_l02Insert.calls k1 _ _ x3_1 ((rd_T78 t360 t363).f0) ((rd_T78 t360 t363).f1) t367 _ ?side1 ?side2 A34.out).mono ?_); (case side1 => exact ca_ (Kd.R_reads' HO_3.out).2.2); (case side2 => exact (Kd.R_reads' HO_3.out).2.1); rintro e w39 ⟨v368, rfl, ho0, hb⟩; refine ⟨_, rfl, ?_⟩; have HO369 := a0_ (Kd.R_lower (Kd.R_new' (Kd.R_new' ho0 (Kd.R_lt (ra_ HO_3.out))) (Kd.R_lt (ra_ HO362.out))) (keep_size (w := w) (g := g) (row := none) (kb0_))); replace HO_3 := a0_ (Kd.R_elder' (ra_ HO_3.out) (Kd.R_base ho0) hb); replace HO362 := a0_ (Kd.R_elder' (ra_ HO362.out) (Kd.R_base ho0) hb); replace HK := a0_ (KeepBut.trans (kb0_) (KeepBut.of_below hb g none) (.inl rfl)); replace HB := a0_ (below_step (by repeat (first | (with_reducible first | exact HB.out | apply below_alloc | apply pw_below_drewN | apply below_drew1 | refine below_set ?_ (IsS81.ge HI0.out)) | exact HB.out)) hb); replace HI0 := a0_ (IsS81.below (is81_ HI0.out) hb); (try clear hb); (try clear hb2); (try clear hk); (try clear hi); (try clear ho0)))
        go_roundg k1
        case measure => have := HK1.out; omega
        case rel => exact ⟨(t367), (t364), (t365), H', ⟨by have := HK1.out; omega⟩, ⟨by (with_reducible repeat (first | apply Kd.R_alloc | apply Kd.R_drewN | apply Kd.R_drew)); exact Kd.R_mono HO369.out (fun _ hk => trivial)⟩, ⟨is81_ HI0.out⟩, ⟨kb0_⟩, ⟨by repeat (first | (with_reducible first | exact HB.out | apply below_alloc | apply pw_below_drewN | apply below_drew1 | refine below_set ?_ (IsS81.ge HI0.out)) | exact HB.out)⟩⟩
       ·rw [if_neg c33] at H
        exact absurd H (by simp)
      ·rw [if_neg c32] at H
       exact absurd H (by simp)
     ·rw [if_neg c29] at H
      have c29b0 : decide ((x3_1.length : Int) < 6) = false := decide_eq_false c29
      have c29b1 : decide (x3_1.length < 6) = false := decide_eq_false (by omega)
      clear c29
      simp only [Option.some.injEq, Prod.mk.injEq] at H
      obtain ⟨rfl, rfl, rfl⟩ := H
      obtain ⟨Ao40, co40, eo40⟩ := Kd.R_slice HO_3.out
      subst eo40
      go_wp2
      go_ret
      exact ⟨_, er_, ra_ HO_3.out, is81_ HI0.out, by repeat (first | (with_reducible first | exact HB.out | apply below_alloc | apply pw_below_drewN | apply below_drew1 | refine below_set ?_ (IsS81.ge HI0.out)) | exact HB.out), kb0_⟩

/-! ### spec_DrawOppositeCells: function 12 -/
def spec_DrawOppositeCells.f (k : Nat) (l0 : List Int) : Option ((List (S78))) := (spec_l01From.f k l0).bind fun bt370 => ((spec_l32Draw.f k bt370.1 bt370.2.1 bt370.2.2).bind fun bt374 => (some bt374.1))
theorem spec_DrawOppositeCells.mono : ∀ a0 k, LeO (spec_DrawOppositeCells.f k a0) (spec_DrawOppositeCells.f (k + 1) a0) := by
 intro a0 k
 unfold spec_DrawOppositeCells.f
 with_reducible (repeat' first | exact spec_l01From.mono _ _ | exact spec_l32Draw.mono _ _ _ _ | exact LeO.refl _ | exact LeO.none _ | refine LeO.ite ?_ ?_ | refine LeO.bind ?_ (fun _ => ?_))
set_option maxHeartbeats 8000000 in
set_option maxRecDepth 100000 in
theorem spec_DrawOppositeCells.calls (k : Nat) (A0 : Option Addr) (c0 : Nat) (l0 : List Int) (r : List (S78)) (w : World) (hr0 : Kd.C (Kd.int .u8) w A0 l0.length l0) (hc0 : l0.length ≤ c0) (h : spec_DrawOppositeCells.f k l0 = some r) :
  Calls Tryd.prog 12 #[.slice A0 l0.length c0] w fun e w' => ∃ v0_ : Value, e = .returned (v0_) ∧ Kd.R k78 78 w' w.heap.size (fun _ => True) v0_ r ∧ Below w.heap.size w w' := by
 have HR0 := Aside0.mk hr0
 have HC0 := Aside0.mk hc0
 clear hr0 hc0
 have HB := a0_ (Below.refl w.heap.size w)
 have H := h
 clear h
 unfold spec_DrawOppositeCells.f at H
 obtain ⟨⟨t370, t371, t372⟩, A2, H⟩ := bs_ H
 dsimp only at H
 obtain ⟨⟨t374, t377, t378⟩, A3, H⟩ := bs_ H
 dsimp only at H
 obtain rfl := Option.some.inj H
 go_enter Tryd.func12, Tryd.ntmps12
 go_wp2_with (first | ((with_reducible refine gate_callee (f := 34) rfl ?_); refine goesL_ (some 4) rfl rfl Tryd.func34 kr_ rfl #[.slice A0 l0.length c0] rfl ta_ ?_; (with_reducible refine (spec_l01From.calls k _ _ l0 t370 t371 t372 w _ ?side1 ?side2 ?side3 A2.out).mono ?_); (case side1 => repeat (first | (with_reducible first | exact HB.out | apply below_alloc | apply pw_below_drewN | apply below_drew1) | exact HB.out)); (case side2 => exact HR0.out); (case side3 => exact HC0.out); rintro e w4 ⟨g373, rfl, hi, hb, hb2⟩; refine ⟨_, rfl, ?_⟩; replace HB := a0_ (hb); have HI373 := a0_ (hi); (try clear hb); (try clear hb2); (try clear hk); (try clear hi)) | ((with_reducible refine gate_callee (f := 45) rfl ?_); refine goesL_ (some 5) rfl rfl Tryd.func45 kr_ rfl #[.pointer (some ⟨g373, 0, none⟩)] rfl ta_ ?_; (with_reducible refine (spec_l32Draw.calls k g373 t370 t371 t372 t374 t377 t378 w _ ?side1 ?side2 A3.out).mono ?_); (case side1 => exact is81_ HI373.out); (case side2 => repeat (first | (with_reducible first | exact HB.out | apply below_alloc | apply pw_below_drewN | apply below_drew1 | refine below_set ?_ (IsS81.ge HI373.out)) | exact HB.out)); rintro e w5 ⟨v375, rfl, ho0, hi, hb, hk⟩; refine ⟨_, rfl, ?_⟩; have HO376 := a0_ (Kd.R_lower ho0 (below_size (by repeat (first | (with_reducible first | exact HB.out | apply below_alloc | apply pw_below_drewN | apply below_drew1 | refine below_set ?_ (IsS81.ge HI373.out)) | exact HB.out)))); replace HB := a0_ (hb); replace HI373 := a0_ (hi); (try clear hb); (try clear hb2); (try clear hk); (try clear hi); (try clear ho0)))
 go_ret
 exact ⟨_, er_, ra_ HO376.out, by repeat (first | (with_reducible first | exact HB.out | apply below_alloc | apply pw_below_drewN | apply below_drew1 | refine below_set ?_ (IsS81.ge HI373.out)) | exact HB.out)⟩

/-! ### impl_IsPermutation: function 20 -/
def seenB (xs : List Bool) : Array Value := (xs.map Value.bool).toArray
def impl_IsPermutation.l0 : Nat → List Int → List Bool → Int → Option Bool
 | 0, _, _, _ => none
 | k + 1, p, seen, j => if j < (p.length : Int) then (if 0 ≤ j then ((impl_within.f (rd p j) 0 (wrap64 ((p.length : Int) - 1))).bind fun t => if t = true then (if 0 ≤ rd p j ∧ rd p j < 64 then (if seen.getD (rd p j).toNat false = true then some false else impl_IsPermutation.l0 k p (seen.set (rd p j).toNat true) (wrap64 (j + 1))) else none) else some false) else none) else some true
def impl_IsPermutation.f (k : Nat) (l0 : List Int) : Option Bool := if (l0.length : Int) > 64 then some false else impl_IsPermutation.l0 k l0 (List.replicate 64 false) 0
theorem impl_IsPermutation.mono_l : ∀ k p s j, LeO (impl_IsPermutation.l0 k p s j) (impl_IsPermutation.l0 (k + 1) p s j)
 | 0, _, _, _ => LeO.none _
 | k + 1, p, s, j => by
  unfold impl_IsPermutation.l0
  exact LeO.ite (LeO.ite (LeO.bind (LeO.refl _) (fun t => LeO.ite (LeO.ite (LeO.ite (LeO.refl _) (impl_IsPermutation.mono_l k _ _ _)) (LeO.none _)) (LeO.refl _))) (LeO.none _)) (LeO.refl _)
theorem impl_IsPermutation.mono : ∀ a0 k, LeO (impl_IsPermutation.f k a0) (impl_IsPermutation.f (k + 1) a0) := by
 intro a0 k
 unfold impl_IsPermutation.f
 exact LeO.ite (LeO.refl _) (impl_IsPermutation.mono_l _ _ _ _)
theorem seenB_get (xs : List Bool) (i : Nat) (h : i < xs.length) : (seenB xs)[i]? = some (.bool (xs.getD i false)) := by
 unfold seenB
 rw [List.getElem?_toArray, List.getElem?_map, List.getD_eq_getElem?_getD, List.getElem?_eq_getElem h]
 rfl
theorem seenB_set (xs : List Bool) (i : Nat) (b : Bool) : (seenB xs).setIfInBounds i (.bool b) = seenB (xs.set i b) := by
 unfold seenB
 simp [List.map_set]
set_option maxHeartbeats 4000000 in
set_option maxRecDepth 100000 in
theorem impl_IsPermutation.calls (k : Nat) (A0 : Option Addr) (c0 : Nat) (l0 : List Int) (r : Bool) (w : World) (hr0 : Kd.C (Kd.int .i64) w A0 l0.length l0) (hc0 : l0.length ≤ c0) (h : impl_IsPermutation.f k l0 = some r) :
  Calls Tryd.prog 20 #[.slice A0 l0.length c0] w fun e w' => e = .returned (.bool r) ∧ Below w.heap.size w w' := by
 have HR0 := Aside0.mk hr0
 unfold impl_IsPermutation.f at h
 by_cases c : (l0.length : Int) > 64
 ·rw [if_pos c] at h
  obtain rfl := Option.some.inj h
  have c1 : decide (64 < (l0.length : Int)) = true := decide_eq_true c
  have c2 : decide (64 < l0.length) = true := decide_eq_true (by omega)
  go_enter Tryd.func20, Tryd.ntmps20
  go_wp2
  go_ret
  exact ⟨rfl, Below.refl _ _⟩
 ·rw [if_neg c] at h
  have c1 : decide (64 < (l0.length : Int)) = false := decide_eq_false c
  have c2 : decide (64 < l0.length) = false := decide_eq_false (by omega)
  have H' := Aside0.mk h
  clear h c hr0
  go_enter Tryd.func20, Tryd.ntmps20
  have BK0 : Aside0 ((w.alloc (.cells (seenB (List.replicate 64 false)) 63)).heap[w.heap.size]? = some (.cells (seenB (List.replicate 64 false)) 63 (0, 0))) := ⟨heap_alloc_new w _⟩
  have HB0 : Aside0 (Below w.heap.size w (w.alloc (.cells (seenB (List.replicate 64 false)) 63))) := ⟨below_alloc (Below.refl _ _) _⟩
  go_wp2
  go_loopg [11] k (fun kq v11 w' => ∃ (seen : List Bool) (j : Int), v11 = .int .i64 j ∧ Aside0 (impl_IsPermutation.l0 kq l0 seen j = some r) ∧ Aside0 (kq ≤ k) ∧ Aside0 (seen.length = 64) ∧ Aside0 (w'.heap[w.heap.size]? = some (.cells (seenB seen) 63 (0, 0))) ∧ Aside0 (Below w.heap.size w w'))
  case atStart => exact ⟨_, 0, rfl, H', ⟨Nat.le_refl _⟩, ⟨by simp⟩, BK0, HB0⟩
  case round =>
   clear H' BK0 HB0
   obtain ⟨seen, j, rfl, HA, HK, HN, BK, HB⟩ := hrel
   cases gk with
   | zero => exact absurd HA.out (by simp [impl_IsPermutation.l0])
   | succ k1 =>
    have H := HA.out
    clear HA
    simp only [impl_IsPermutation.l0] at H
    by_cases c : j < (l0.length : Int)
    ·rw [if_pos c] at H
     by_cases d : 0 ≤ j
     ·rw [if_pos d] at H
      obtain ⟨t, hA, H⟩ := Option.bind_eq_some_iff.1 H
      have A' := Aside0.mk hA
      obtain ⟨ad, e1, hx⟩ := Kd.at_int HR0.out j d c
      cases e1
      replace hx := (HB.out.cell (World.block_lt_of_cell? w _ hx)).trans hx
      have c0 := decide_eq_true c
      replace c := eq_true c
      replace d := eq_true d
      cases t with
      | false =>
       simp only [Bool.false_eq_true, if_false, Option.some.injEq] at H
       subst H
       clear hA
       go_wp2_with (go_at_call 52; refine (impl_within.calls (rd l0 j) 0 (wrap64 ((l0.length : Int) - 1)) false _ A'.out).mono ?_; rintro e w' ⟨rfl, ⟨nd, rfl⟩⟩)
       go_ret
       exact ⟨rfl, pw_below_drewN HB.out _⟩
      | true =>
       simp only [if_true] at H
       clear hA
       by_cases e : 0 ≤ rd l0 j ∧ rd l0 j < 64
       ·rw [if_pos e] at H
        obtain ⟨e0, e1⟩ := e
        have hy : wr.cell? ⟨w.heap.size, (rd l0 j).toNat, none⟩ = some (.bool (seen.getD (rd l0 j).toNat false)) := (blk_cell BK.out _).trans (seenB_get _ _ (by have := HN.out; omega))
        have hf := blk_frozen BK.out (rd l0 j).toNat
        have e0b := decide_eq_true e0
        have e1b := decide_eq_true e1
        replace e0 := eq_true e0
        replace e1 := eq_true e1
        cases f : seen.getD (rd l0 j).toNat false with
        | true =>
         rw [f] at H hy
         obtain rfl := Option.some.inj H
         go_wp2_with (go_at_call 52; refine (impl_within.calls (rd l0 j) 0 (wrap64 ((l0.length : Int) - 1)) true _ A'.out).mono ?_; rintro e w' ⟨rfl, ⟨nd, rfl⟩⟩)
         go_ret
         exact ⟨rfl, pw_below_drewN HB.out _⟩
        | false =>
         rw [f] at H hy
         have H' : Aside0 (impl_IsPermutation.l0 k1 l0 (seen.set (rd l0 j).toNat true) (wrap64 (j + 1)) = some r) := ⟨(if_neg (by simp)).symm.trans H⟩
         clear H f
         go_wp2_with (go_at_call 52; refine (impl_within.calls (rd l0 j) 0 (wrap64 ((l0.length : Int) - 1)) true _ A'.out).mono ?_; rintro e w' ⟨rfl, ⟨nd, rfl⟩⟩)
         go_roundg k1
         case measure => have := HK.out; omega
         case rel => exact ⟨_, wrap64 (j + 1), rfl, H', ⟨by have := HK.out; omega⟩, ⟨by simpa using HN.out⟩, ⟨blk_put (blk_drewN BK.out nd) _ _ (seenB_set _ _ _)⟩, ⟨below_set (pw_below_drewN HB.out nd) (Nat.le_refl _)⟩⟩
       ·rw [if_neg e] at H
        exact absurd H (by simp)
     ·rw [if_neg d] at H
      exact absurd H (by simp)
    ·rw [if_neg c] at H
     have c0 := decide_eq_false c
     obtain rfl := Option.some.inj H
     clear H c
     go_wp2
     go_ret
     exact ⟨rfl, HB.out⟩


/-! ### impl_edges: function 82 -/
-- IMPORT Derived.Deep.WholeRow
/-- The four edges: what a letter adds, and the cells to the right and to the left. -/
def edgesV : Array Value := #[.int .i64 1, .int .i64 0, .int .i64 0, .int .i64 0, .int .i64 0, .int .i64 (-1), .int .i64 0, .int .i64 1, .int .i64 (-1), .int .i64 0, .int .i64 0, .int .i64 0, .int .i64 (-1), .int .i64 0, .int .i64 (-1), .int .i64 (-1), .int .i64 (-1), .int .i64 0, .int .i64 0, .int .i64 (-1), .int .i64 0, .int .i64 (-1), .int .i64 (-1), .int .i64 (-1)]
theorem store_run {P : Program} {a : Act} {o : Oper} {t : TypeId} {p v : Operand} {W w1 : World} (ho : o.op = .store t p v) (pv vv : Value) (h1 : a.eval p = pv) (h2 : a.eval v = vv) (h : (Instr.storeAt t pv vv).run P W = .ok () w1) :
  (execOp a.eval o).run P W = .ok .skip w1 := by simp [execOp, ho, h1, h2, h, Result.andThen]
theorem edgesStore (w : World) (Z : Array Value) (hZ : Z.size = 24) : (Instr.storeAt 103 (.pointer (some ⟨w.heap.size, 0, none⟩)) (.agg edgesV)).run Tryd.prog (w.alloc (.cells Z 103)) = .ok () (w.alloc (.cells edgesV 103)) :=
 run_storeAt_new w _ Z edgesV kr_ hZ kr_
theorem edgesLoad (w : World) : (Instr.loadAt 103 (.pointer (some ⟨w.heap.size, 0, none⟩))).run Tryd.prog (w.alloc (.cells edgesV 103)) = .ok (.agg edgesV) (w.alloc (.cells edgesV 103)) :=
 run_loadAt_new w _ edgesV 4 102 Tryd.underlying103 kr_
set_option maxRecDepth 100000 in
theorem impl_edges.calls (w : World) : Calls Tryd.prog 82 #[] w fun e w' => e = .returned (.agg edgesV) ∧ Below w.heap.size w w' := by
 go_enter Tryd.func82, Tryd.ntmps82
 go_wp2_with (first | ((with_reducible refine gate_store (t := 103) (p := 0) rfl ?_); refine store_event (t := 103) (p := 0) (v := ?vo_) (w1 := (w.alloc (.cells edgesV 103))) ?hg ?ho ?hn ?hr ?_; (case ho => rfl); (case hg => rfl); (case hn => rfl); (case hr => exact store_run rfl _ _ rfl rfl (edgesStore w _ rfl)); intro w2 hw; subst hw))
 refine bodyPost_ret (results_cell_row rfl _ _ w.heap.size 103 edgesV (0, 0) _ rfl (heap_alloc_new w _) Tryd.underlying103 rfl kr_) rfl ?_
 exact ⟨rfl, below_alloc (Below.refl _ _) _⟩
def edgeSX (e : Int) : Int := if e = 0 then 1 else if e = 2 then -1 else 0
def edgeSY (e : Int) : Int := if e = 1 then 1 else if e = 3 then -1 else 0
def edgeRX (e : Int) : Int := if e = 1 then -1 else if e = 2 then -1 else 0
def edgeRY (e : Int) : Int := if e = 2 then -1 else if e = 3 then -1 else 0
def edgeLX (e : Int) : Int := if e = 2 then -1 else if e = 3 then -1 else 0
def edgeLY (e : Int) : Int := if e = 0 then -1 else if e = 3 then -1 else 0
theorem edges_at (e : Int) (h0 : 0 ≤ e) (h4 : e < 4) (W : World) : (Instr.index 103 (.agg edgesV) (.int .i64 e)).run Tryd.prog W = .ok (.agg #[.int .i64 (edgeSX e), .int .i64 (edgeSY e), .int .i64 (edgeRX e), .int .i64 (edgeRY e), .int .i64 (edgeLX e), .int .i64 (edgeLY e)]) W := by
 rcases (by omega : e = 0 ∨ e = 1 ∨ e = 2 ∨ e = 3) with rfl | rfl | rfl | rfl <;> kernel_rfl


/-! ### impl_plus: function 83 -/
def impl_plus.f (a0_0 : Int) (a0_1 : Int) (a1_0 : Int) (a1_1 : Int) : Option (Int × Int) := some (wrap64 (a0_0 + a1_0), wrap64 (a0_1 + a1_1))
set_option maxHeartbeats 8000000 in
set_option maxRecDepth 100000 in
theorem impl_plus.calls (a0_0 : Int) (a0_1 : Int) (a1_0 : Int) (a1_1 : Int) (r1 : Int) (r2 : Int) (w : World) (h : impl_plus.f a0_0 a0_1 a1_0 a1_1 = some (r1, r2)) :
  Calls Tryd.prog 83 #[.agg #[.int .i64 a0_0, .int .i64 a0_1], .agg #[.int .i64 a1_0, .int .i64 a1_1]] w fun e w' => e = .returned (.agg #[.int .i64 r1, .int .i64 r2]) ∧ Below w.heap.size w w' := by
 have hu78 := Tryd.underlying78
 have HB := a0_ (Below.refl w.heap.size w)
 have H : (some (wrap64 (a0_0 + a1_0), wrap64 (a0_1 + a1_1))) = some (r1, r2) := h
 clear h
 simp only [Option.some.injEq, Prod.mk.injEq] at H
 obtain ⟨rfl, rfl⟩ := H
 go_enter Tryd.func83, Tryd.ntmps83
 go_wp2_with (first | ((with_reducible refine gate_dst (N := 2) rfl ?_); refine bx_ (N := 2) (cs := #[.int .i64 a0_0, .int .i64 a0_1]) (t := 78) ?_; intro gb379 hg w3 hbox hb; have BK379 := a0_ (hbox); have GW379 := a0_ ((sz_ hg (bl0_) : w.heap.size ≤ gb379)); have GE379 := a0_ ((sz_ hg (bl0_) : w.heap.size ≤ gb379)); replace HB := a0_ (below_step (bl0_) hb); clear hb hbox hg) | ((with_reducible refine gate_dst (N := 3) rfl ?_); refine bx_ (N := 3) (cs := #[.int .i64 a1_0, .int .i64 a1_1]) (t := 78) ?_; intro gb380 hg w4 hbox hb; have BK380 := a0_ (hbox); have GW380 := a0_ ((sz_ hg (bl1_ GE379.out) : w.heap.size ≤ gb380)); have GE380 := a0_ ((sz_ hg (bl1_ GE379.out) : w.heap.size ≤ gb380)); replace HB := a0_ (below_step (bl1_ GE379.out) hb); have NB379_380 := a0_ ((nl_ hg BK379.out : gb379 ≠ gb380)); have NB380_379 := a0_ ((ng_ hg BK379.out : gb380 ≠ gb379)); replace BK379 := a0_ (bb_ BK379.out hb); clear hb hbox hg) | ((with_reducible refine gate_dst (N := 4) rfl ?_); refine bx_ (N := 4) (cs := #[.int .i64 0, .int .i64 0]) (t := 78) ?_; intro gb381 hg w5 hbox hb; have BK381 := a0_ (hbox); have GW381 := a0_ ((sz_ hg (bl2_ GE379.out GE380.out) : w.heap.size ≤ gb381)); have GE381 := a0_ ((sz_ hg (bl2_ GE379.out GE380.out) : w.heap.size ≤ gb381)); replace HB := a0_ (below_step (bl2_ GE379.out GE380.out) hb); have NB379_381 := a0_ ((nl_ hg BK379.out : gb379 ≠ gb381)); have NB381_379 := a0_ ((ng_ hg BK379.out : gb381 ≠ gb379)); replace BK379 := a0_ (bb_ BK379.out hb); have NB380_381 := a0_ ((nl_ hg BK380.out : gb380 ≠ gb381)); have NB381_380 := a0_ ((ng_ hg BK380.out : gb381 ≠ gb380)); replace BK380 := a0_ (bb_ BK380.out hb); clear hb hbox hg; have hnb6 := NB379_380.out; have hnc6 := NB380_379.out; have hnb7 := NB379_381.out; have hnc7 := NB381_379.out; obtain ⟨hcz8_0, hcz8_1, hfz8_0, hfz8_1⟩ := bc2_ BK379.out; have hnb9 := NB380_381.out; have hnc9 := NB381_380.out; obtain ⟨hcz10_0, hcz10_1, hfz10_0, hfz10_1⟩ := bc2_ BK380.out; obtain ⟨hcz11_0, hcz11_1, hfz11_0, hfz11_1⟩ := bc2_ BK381.out))
 refine bodyPost_ret (results_cell_row rfl _ _ gb381 78 #[.int .i64 (wrap64 (a0_0 + a1_0)), .int .i64 (wrap64 (a0_1 + a1_1))] (0, 0) _ rfl (by (with_reducible repeat (first | refine blk_drewN ?_ _ | refine blk_drew ?_ | refine blk_alloc ?_ _)); refine blk_put (cs := #[.int .i64 (wrap64 (a0_0 + a1_0)), .int .i64 0]) ?_ 1 _ rfl; (with_reducible repeat (first | refine blk_drewN ?_ _ | refine blk_drew ?_ | refine blk_alloc ?_ _)); refine blk_put (cs := #[.int .i64 0, .int .i64 0]) ?_ 0 _ rfl; (with_reducible repeat (first | refine blk_drewN ?_ _ | refine blk_drew ?_ | refine blk_alloc ?_ _)); exact BK381.out) Tryd.underlying78 rfl kr_) rfl ?_
 exact ⟨er_, bl3_ GE379.out GE380.out GE381.out⟩

/-! ### slices_Index_impl_Cell_impl_Cell: function 115 -/
def slices_Index_impl_Cell_impl_Cell.l0 : Nat → List (S78) → Int → Int → Int → Int → Option (Int)
 | 0, _, _, _, _, _ => none
 | k + 1, x0, x7, x8, x383000, x383001 => if x8 < x7 then (if 0 ≤ x8 then (if x8 < (x0.length : Int) then (if (x383000 == ((rd_T78 x0 x8).f0) && (x383001 == ((rd_T78 x0 x8).f1))) = true then (some x8) else (slices_Index_impl_Cell_impl_Cell.l0 k x0 x7 (wrap64 (x8 + 1)) x383000 x383001)) else (none)) else (none)) else (some (-1))
def slices_Index_impl_Cell_impl_Cell.f (k : Nat) (l0 : List (S78)) (a1_0 : Int) (a1_1 : Int) : Option (Int) := slices_Index_impl_Cell_impl_Cell.l0 k l0 (l0.length : Int) 0 a1_0 a1_1
theorem slices_Index_impl_Cell_impl_Cell.mono_l : ∀ k, (∀ y0 y1 y2 y3 y4, LeO (slices_Index_impl_Cell_impl_Cell.l0 k y0 y1 y2 y3 y4) (slices_Index_impl_Cell_impl_Cell.l0 (k + 1) y0 y1 y2 y3 y4))
 | 0 => fun _ _ _ _ _ r h => by simp [slices_Index_impl_Cell_impl_Cell.l0] at h
 | k + 1 => by
  have ih0 := slices_Index_impl_Cell_impl_Cell.mono_l k
  ·intro y0 y1 y2 y3 y4
   unfold slices_Index_impl_Cell_impl_Cell.l0
   with_reducible (repeat' first | exact ih0 _ _ _ _ _ | exact LeO.refl _ | exact LeO.none _ | refine LeO.ite ?_ ?_ | refine LeO.bind ?_ (fun _ => ?_))
theorem slices_Index_impl_Cell_impl_Cell.mono : ∀ a0 a1 a2 k, LeO (slices_Index_impl_Cell_impl_Cell.f k a0 a1 a2) (slices_Index_impl_Cell_impl_Cell.f (k + 1) a0 a1 a2) := by
 intro a0 a1 a2 k
 have ih0 := slices_Index_impl_Cell_impl_Cell.mono_l k
 unfold slices_Index_impl_Cell_impl_Cell.f
 with_reducible (repeat' first | exact ih0 _ _ _ _ _ | exact LeO.refl _ | exact LeO.none _ | refine LeO.ite ?_ ?_ | refine LeO.bind ?_ (fun _ => ?_))
set_option maxHeartbeats 8000000 in
set_option maxRecDepth 100000 in
theorem slices_Index_impl_Cell_impl_Cell.calls (k : Nat) (A0 : Option Addr) (c0 : Nat) (l0 : List (S78)) (a1_0 : Int) (a1_1 : Int) (r : Int) (w : World) (hr0 : Kd.C k78 w A0 l0.length l0) (hc0 : l0.length ≤ c0) (h : slices_Index_impl_Cell_impl_Cell.f k l0 a1_0 a1_1 = some r) :
  Calls Tryd.prog 115 #[.slice A0 l0.length c0, .agg #[.int .i64 a1_0, .int .i64 a1_1]] w fun e w' => e = .returned (.int .i64 r) ∧ Below w.heap.size w w' := by
 have hu78 := Tryd.underlying78
 have HR0 := Aside0.mk hr0
 have HC0 := Aside0.mk hc0
 clear hr0 hc0
 have HB := a0_ (Below.refl w.heap.size w)
 have H := h
 clear h
 unfold slices_Index_impl_Cell_impl_Cell.f at H
 have H' := Aside0.mk H
 clear H
 go_enter Tryd.func115, Tryd.ntmps115
 go_wp2_with (first | ((with_reducible refine gate_dst (N := 3) rfl ?_); refine bx_ (N := 3) (cs := #[.int .i64 a1_0, .int .i64 a1_1]) (t := 78) ?_; intro gb382 hg w3 hbox hb; have BK382 := a0_ (hbox); have GW382 := a0_ ((sz_ hg (bl0_) : w.heap.size ≤ gb382)); have GE382 := a0_ ((sz_ hg (bl0_) : w.heap.size ≤ gb382)); replace HB := a0_ (below_step (bl0_) hb); clear hb hbox hg))
 repeat (go_quiet (first | ((with_reducible refine gate_dst (N := 3) rfl ?_); refine bx_ (N := 3) (cs := #[.int .i64 a1_0, .int .i64 a1_1]) (t := 78) ?_; intro gb382 hg w3 hbox hb; have BK382 := a0_ (hbox); have GW382 := a0_ ((sz_ hg (bl0_) : w.heap.size ≤ gb382)); have GE382 := a0_ ((sz_ hg (bl0_) : w.heap.size ≤ gb382)); replace HB := a0_ (below_step (bl0_) hb); clear hb hbox hg)); try go_wp2_with (first | ((with_reducible refine gate_dst (N := 3) rfl ?_); refine bx_ (N := 3) (cs := #[.int .i64 a1_0, .int .i64 a1_1]) (t := 78) ?_; intro gb382 hg w3 hbox hb; have BK382 := a0_ (hbox); have GW382 := a0_ ((sz_ hg (bl0_) : w.heap.size ≤ gb382)); have GE382 := a0_ ((sz_ hg (bl0_) : w.heap.size ≤ gb382)); replace HB := a0_ (below_step (bl0_) hb); clear hb hbox hg)))
 go_loopg [8] k (fun kq v8 w' => ∃ (x8_1 : Int), v8 = .int .i64 x8_1 ∧ Aside0 (slices_Index_impl_Cell_impl_Cell.l0 kq l0 (l0.length : Int) x8_1 a1_0 a1_1 = some r) ∧ Aside0 (kq ≤ k) ∧ Aside0 (w'.heap[gb382]? = some (.cells #[.int .i64 a1_0, .int .i64 a1_1] 78 (0, 0))) ∧ Aside0 (Below w.heap.size w w'))
 case atStart => exact ⟨(0), rs_, H', ⟨Nat.le_refl _⟩, ⟨bk_ BK382.out⟩, ⟨bl1_ GE382.out⟩⟩
 case round =>
  clear H'
  try clear c1
  try clear p2
  obtain ⟨x8_1, rfl, HA, HK1, BK382, HB⟩ := hrel
  cases gk with
  | zero => exact absurd HA.out (by simp [slices_Index_impl_Cell_impl_Cell.l0])
  | succ k1 =>
   have H := HA.out
   clear HA
   simp only [slices_Index_impl_Cell_impl_Cell.l0] at H
   by_cases c4 : x8_1 < (l0.length : Int)
   ·rw [if_pos c4] at H
    have c4b0 : decide (x8_1 < (l0.length : Int)) = true := decide_eq_true c4
    clear c4
    by_cases c5 : 0 ≤ x8_1
    ·rw [if_pos c5] at H
     have c5b0 : decide (0 ≤ x8_1) = true := decide_eq_true c5
     clear c5
     by_cases c6 : x8_1 < (l0.length : Int)
     ·rw [if_pos c6] at H
      have c6b0 : decide (x8_1 < (l0.length : Int)) = true := decide_eq_true c6
      clear c6
      by_cases c7 : (a1_0 == ((rd_T78 l0 x8_1).f0) && (a1_1 == ((rd_T78 l0 x8_1).f1))) = true
      ·rw [if_pos c7] at H
       have c7b0 : (a1_0 == ((rd_T78 l0 x8_1).f0) && (a1_1 == ((rd_T78 l0 x8_1).f1))) = true := c7
       (try (have c7b1 : decide (a1_0 = ((rd_T78 l0 x8_1).f0) && (a1_1 == ((rd_T78 l0 x8_1).f1))) = true := by simpa using c7))
       (try (have c7b2 : (a1_0 == ((rd_T78 l0 x8_1).f0) && (a1_1 == ((rd_T78 l0 x8_1).f1))) = true := by simpa using c7))
       clear c7
       obtain rfl := Option.some.inj H
       have hcz8_0 : wr.cell? ⟨gb382, 0, none⟩ = some (.int .i64 a1_0) := (blk_cell BK382.out 0).trans rfl
       have hcz8_1 : wr.cell? ⟨gb382, 1, none⟩ = some (.int .i64 a1_1) := (blk_cell BK382.out 1).trans rfl
       have hfz8_0 := blk_frozen BK382.out 0
       have hfz8_1 := blk_frozen BK382.out 1
       have p383 : 0 ≤ (x8_1 : Int) := od_
       have q383 : x8_1 < (l0.length : Int) := od_
       obtain ⟨ad383, e383, hx383_0, hx383_1⟩ := at_T78 HR0.out x8_1 p383 q383
       cases e383
       replace hx383_0 := (HB.out.cell (World.block_lt_of_cell? w _ hx383_0)).trans hx383_0
       replace hx383_1 := (HB.out.cell (World.block_lt_of_cell? w _ hx383_1)).trans hx383_1
       replace p383 := eq_true p383
       replace q383 := eq_true q383
       go_wp2
       repeat (go_quiet (fail); try go_wp2)
       go_ret
       exact ⟨er_, bl1_ GE382.out⟩
      ·rw [if_neg c7] at H
       have c7b0 : (a1_0 == ((rd_T78 l0 x8_1).f0) && (a1_1 == ((rd_T78 l0 x8_1).f1))) = false := by simpa using c7
       (try (have c7b1 : decide (a1_0 = ((rd_T78 l0 x8_1).f0) && (a1_1 == ((rd_T78 l0 x8_1).f1))) = false := by simpa using c7))
       (try (have c7b2 : (a1_0 == ((rd_T78 l0 x8_1).f0) && (a1_1 == ((rd_T78 l0 x8_1).f1))) = false := by simpa using c7))
       (try (have c7b3 : ¬ (a1_0 = ((rd_T78 l0 x8_1).f0) && (a1_1 == ((rd_T78 l0 x8_1).f1))) := by simpa using c7))
       clear c7
       have H' := Aside0.mk H
       clear H
       have hcz9_0 : wr.cell? ⟨gb382, 0, none⟩ = some (.int .i64 a1_0) := (blk_cell BK382.out 0).trans rfl
       have hcz9_1 : wr.cell? ⟨gb382, 1, none⟩ = some (.int .i64 a1_1) := (blk_cell BK382.out 1).trans rfl
       have hfz9_0 := blk_frozen BK382.out 0
       have hfz9_1 := blk_frozen BK382.out 1
       have p383 : 0 ≤ (x8_1 : Int) := od_
       have q383 : x8_1 < (l0.length : Int) := od_
       obtain ⟨ad383, e383, hx383_0, hx383_1⟩ := at_T78 HR0.out x8_1 p383 q383
       cases e383
       replace hx383_0 := (HB.out.cell (World.block_lt_of_cell? w _ hx383_0)).trans hx383_0
       replace hx383_1 := (HB.out.cell (World.block_lt_of_cell? w _ hx383_1)).trans hx383_1
       replace p383 := eq_true p383
       replace q383 := eq_true q383
       go_wp2
       repeat (go_quiet (fail); try go_wp2)
       go_roundg k1
       case measure => have := HK1.out; omega
       case rel => exact ⟨(wrap64 (x8_1 + 1)), rs_, H', ⟨by have := HK1.out; omega⟩, ⟨bk_ BK382.out⟩, ⟨bl1_ GE382.out⟩⟩
     ·rw [if_neg c6] at H
      exact absurd H (by simp)
    ·rw [if_neg c5] at H
     exact absurd H (by simp)
   ·rw [if_neg c4] at H
    have c4b0 : decide (x8_1 < (l0.length : Int)) = false := decide_eq_false c4
    clear c4
    obtain rfl := Option.some.inj H
    go_wp2
    repeat (go_quiet (fail); try go_wp2)
    go_ret
    exact ⟨er_, bl1_ GE382.out⟩

end Go.Proofs.YtopceddgiddhlaaDoor.PFnNets
