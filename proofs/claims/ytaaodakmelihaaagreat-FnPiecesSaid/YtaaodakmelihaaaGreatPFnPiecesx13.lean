/- Over the kit's printer by a driver of mine (hprint.py), with parts by hand: functions of the program as Lean functions, and that each call comes to exactly these answers. -/
import Derived.Test.YtaaodakmelihaaaGreatPFnPiecesx0
import Derived.Test.YtaaodakmelihaaaGreatPFnPiecesx1
import Derived.Test.YtaaodakmelihaaaGreatPFnPiecesx11
import Derived.Test.YtaaodakmelihaaaGreatPFnPiecesx12
namespace Go.Proofs.YtaaodakmelihaaaGreat.PFnPieces
open Go.RowKit Go.Proofs.YtaaodakmelihaaaGreatW.PrintWords Go.Proofs.YtaaodakmelihaaaGreatW.PrintLast Go.Proofs.YtaaodakmelihaaaGreatW.PrintMore
attribute [local go_sem] max2_int min2_int max_two min_two max_three min_three max_four min_four   -- for this text's walks alone
set_option linter.unusedVariables false
set_option linter.unusedSimpArgs false

attribute [local go_sem high] eqA60
/-! ### impl_corner: function 46 -/
def impl_corner.l0 : Nat → List (S60) → Int → Int → Int → Int → Option (Int × Int)
 | 0, _, _, _, _, _ => none
 | k + 1, x9, x10, x11, x401000, x401001 => if x11 < x10 then (if 0 ≤ x11 then (if x11 < (x9.length : Int) then (impl_corner.l0 k x9 x10 (wrap64 (x11 + 1)) (mn x401000 ((rd_T60 x9 x11).f0)) (mn x401001 ((rd_T60 x9 x11).f1))) else (none)) else (none)) else (some (x401000, x401001))
def impl_corner.f (k : Nat) (l0 : List (S60)) : Option (Int × Int) := if 0 < (l0.length : Int) then (impl_corner.l0 k l0 (l0.length : Int) 0 ((rd_T60 l0 0).f0) ((rd_T60 l0 0).f1)) else (none)
theorem impl_corner.mono_l : ∀ k, (∀ y0 y1 y2 y3 y4, LeO (impl_corner.l0 k y0 y1 y2 y3 y4) (impl_corner.l0 (k + 1) y0 y1 y2 y3 y4))
 | 0 => fun _ _ _ _ _ r h => by simp [impl_corner.l0] at h
 | k + 1 => by
  have ih0 := impl_corner.mono_l k
  ·intro y0 y1 y2 y3 y4
   unfold impl_corner.l0
   with_reducible (repeat' first | exact ih0 _ _ _ _ _ | exact LeO.refl _ | exact LeO.none _ | refine LeO.ite ?_ ?_ | refine LeO.bind ?_ (fun _ => ?_))
theorem impl_corner.mono : ∀ a0 k, LeO (impl_corner.f k a0) (impl_corner.f (k + 1) a0) := by
 intro a0 k
 have ih0 := impl_corner.mono_l k
 unfold impl_corner.f
 with_reducible (repeat' first | exact ih0 _ _ _ _ _ | exact LeO.refl _ | exact LeO.none _ | refine LeO.ite ?_ ?_ | refine LeO.bind ?_ (fun _ => ?_))
set_option maxHeartbeats 8000000 in
set_option maxRecDepth 100000 in
theorem impl_corner.calls (k : Nat) (A0 : Option Addr) (c0 : Nat) (l0 : List (S60)) (r1 : Int) (r2 : Int) (w : World) (hr0 : Kd.C k60 w A0 l0.length l0) (hc0 : l0.length ≤ c0) (h : impl_corner.f k l0 = some (r1, r2)) :
  Calls Tryz.prog 46 #[.slice A0 l0.length c0] w fun e w' => e = .returned (.agg #[.int .i64 r1, .int .i64 r2]) ∧ Below w.heap.size w w' := by
 have hu60 := Tryz.underlying60
 have HR0 := Aside0.mk hr0
 have HC0 := Aside0.mk hc0
 clear hr0 hc0
 have HB := a0_ (Below.refl w.heap.size w)
 have H := h
 clear h
 unfold impl_corner.f at H
 by_cases c2 : 0 < (l0.length : Int)
 ·rw [if_pos c2] at H
  have c2b0 : decide (0 < (l0.length : Int)) = true := decide_eq_true c2
  have c2b1 : decide (0 < l0.length) = true := decide_eq_true (by omega)
  clear c2
  have H' := Aside0.mk H
  clear H
  go_enter Tryz.func46, Tryz.ntmps46
  go_wp2_with (first | ((with_reducible refine gate_dst (N := 2) rfl ?_); refine bx_ (N := 2) (cs := #[.int .i64 0, .int .i64 0]) (t := 60) ?_; intro gb398 hg w3 hbox hb; have BK398 := a0_ (hbox); have GW398 := a0_ ((sz_ hg (bl0_) : w.heap.size ≤ gb398)); have GE398 := a0_ ((sz_ hg (bl0_) : w.heap.size ≤ gb398)); replace HB := a0_ (below_step (bl0_) hb); clear hb hbox hg; have p399 : 0 ≤ (0 : Int) := (by omega); have q399 : 0 < (l0.length : Int) := od_; obtain ⟨ad399, e399, hx399_0, hx399_1⟩ := at_T60 HR0.out 0 p399 q399; cases e399; have qi399 : (0 < l0.length) = True := eq_true (by omega); (try rw [show ((0 : Int)).toNat = 0 from rfl] at hx399_0); (try rw [show 0 * 2 = 0 from rfl] at hx399_0); (try rw [Addr.add_zero'] at hx399_0); (try rw [show ((0 : Int)).toNat = 0 from rfl] at hx399_1); (try rw [show 0 * 2 = 0 from rfl] at hx399_1); (try rw [Addr.add_zero'] at hx399_1); replace hx399_0 := (HB.out.cell (World.block_lt_of_cell? w _ hx399_0)).trans hx399_0; replace hx399_1 := (HB.out.cell (World.block_lt_of_cell? w _ hx399_1)).trans hx399_1; replace p399 := eq_true p399; replace q399 := eq_true q399) | ((with_reducible refine gate_dst (N := 3) rfl ?_); refine bx_ (N := 3) (cs := #[.int .i64 0, .int .i64 0]) (t := 60) ?_; intro gb400 hg w4 hbox hb; have BK400 := a0_ (hbox); have GW400 := a0_ ((sz_ hg (bl1_ GE398.out) : w.heap.size ≤ gb400)); have GE400 := a0_ ((sz_ hg (bl1_ GE398.out) : w.heap.size ≤ gb400)); replace HB := a0_ (below_step (bl1_ GE398.out) hb); have NB398_400 := a0_ ((nl_ hg BK398.out : gb398 ≠ gb400)); have NB400_398 := a0_ ((ng_ hg BK398.out : gb400 ≠ gb398)); replace BK398 := a0_ (bb_ BK398.out hb); clear hb hbox hg; have hnb5 := NB400_398.out; have hnc5 := NB398_400.out; obtain ⟨hcz6_0, hcz6_1, hfz6_0, hfz6_1⟩ := bc2_ BK400.out))
  go_loopg [11] k (fun kq v11 w' => ∃ (x11_1 : Int) (x401000_1 : Int) (x401001_1 : Int), v11 = .int .i64 x11_1 ∧ Aside0 (impl_corner.l0 kq l0 (l0.length : Int) x11_1 x401000_1 x401001_1 = some (r1, r2)) ∧ Aside0 (kq ≤ k) ∧ Aside0 (w'.heap[gb398]? = some (.cells #[.int .i64 0, .int .i64 0] 60 (0, 0))) ∧ Aside0 (w'.heap[gb400]? = some (.cells #[.int .i64 x401000_1, .int .i64 x401001_1] 60 (0, 0))) ∧ Aside0 (Below w.heap.size w w'))
  case atStart => exact ⟨(0), ((rd_T60 l0 0).f0), ((rd_T60 l0 0).f1), rs_, H', ⟨Nat.le_refl _⟩, ⟨bf_ BK398.out NB398_400.out⟩, ⟨by (with_reducible repeat (first | refine blk_drewN ?_ _ | refine blk_drew ?_ | refine blk_alloc ?_ _)); refine blk_put (cs := #[.int .i64 ((rd_T60 l0 0).f0), .int .i64 0]) ?_ 1 _ rfl; (with_reducible repeat (first | refine blk_drewN ?_ _ | refine blk_drew ?_ | refine blk_alloc ?_ _)); refine blk_put (cs := #[.int .i64 0, .int .i64 0]) ?_ 0 _ rfl; (with_reducible repeat (first | refine blk_drewN ?_ _ | refine blk_drew ?_ | refine blk_alloc ?_ _)); exact BK400.out⟩, ⟨bl2_ GE398.out GE400.out⟩⟩
  case round =>
   clear H'
   try clear c2
   try clear c2b0
   try clear c2b1
   try clear p2
   try clear p3
   try clear q3
   try clear hx3
   try clear qi3
   try clear c4
   try clear c5
   try clear hcz6_0
   try clear hcz6_1
   try clear hfz6_0
   try clear hfz6_1
   try clear hx399_0
   try clear hx399_1
   try clear p399
   try clear q399
   obtain ⟨x11_1, x401000_1, x401001_1, rfl, HA, HK1, BK398, BK400, HB⟩ := hrel
   cases gk with
   | zero => exact absurd HA.out (by simp [impl_corner.l0])
   | succ k1 =>
    have H := HA.out
    clear HA
    simp only [impl_corner.l0] at H
    by_cases c7 : x11_1 < (l0.length : Int)
    ·rw [if_pos c7] at H
     have c7b0 : decide (x11_1 < (l0.length : Int)) = true := decide_eq_true c7
     clear c7
     by_cases c8 : 0 ≤ x11_1
     ·rw [if_pos c8] at H
      have c8b0 : decide (0 ≤ x11_1) = true := decide_eq_true c8
      clear c8
      by_cases c9 : x11_1 < (l0.length : Int)
      ·rw [if_pos c9] at H
       have c9b0 : decide (x11_1 < (l0.length : Int)) = true := decide_eq_true c9
       clear c9
       obtain ⟨ji10, hji10⟩ : ∃ j_ : Int, (mn x401000_1 ((rd_T60 l0 x11_1).f0)) = j_ := ⟨_, rfl⟩
       replace H : (impl_corner.l0 k1 l0 (l0.length : Int) (wrap64 (x11_1 + 1)) ji10 (mn x401001_1 ((rd_T60 l0 x11_1).f1))) = some (r1, r2) := by first | (rw [hji10] at H; exact H) | (simp only [hji10] at H ⊢; exact H)
       have hji10_ : (if ((rd_T60 l0 x11_1).f0) < x401000_1 then ((rd_T60 l0 x11_1).f0) else x401000_1) = ji10 := hji10
       obtain ⟨ji11, hji11⟩ : ∃ j_ : Int, (mn x401001_1 ((rd_T60 l0 x11_1).f1)) = j_ := ⟨_, rfl⟩
       replace H : (impl_corner.l0 k1 l0 (l0.length : Int) (wrap64 (x11_1 + 1)) ji10 ji11) = some (r1, r2) := by first | (rw [hji11] at H; exact H) | (simp only [hji11] at H ⊢; exact H)
       have hji11_ : (if ((rd_T60 l0 x11_1).f1) < x401001_1 then ((rd_T60 l0 x11_1).f1) else x401001_1) = ji11 := hji11
       have H' := Aside0.mk H
       clear H
       have p401 : 0 ≤ (x11_1 : Int) := od_
       have q401 : x11_1 < (l0.length : Int) := od_
       obtain ⟨ad401, e401, hx401_0, hx401_1⟩ := at_T60 HR0.out x11_1 p401 q401
       obtain rfl : ad399 = ad401 := (by injection e401)
       replace hx401_0 := (HB.out.cell (World.block_lt_of_cell? w _ hx401_0)).trans hx401_0
       replace hx401_1 := (HB.out.cell (World.block_lt_of_cell? w _ hx401_1)).trans hx401_1
       replace p401 := eq_true p401
       replace q401 := eq_true q401
       go_wp2_with (first | ((with_reducible refine gate_dst (N := 5) rfl ?_); refine bx_ (N := 5) (cs := #[.int .i64 0, .int .i64 0]) (t := 60) ?_; intro gb402 hg w12 hbox hb; have BK402 := a0_ (hbox); have GW402 := a0_ ((sz_ hg (bl2_ GE398.out GE400.out) : w.heap.size ≤ gb402)); have GE402 := a0_ ((sz_ hg (bl2_ GE398.out GE400.out) : w.heap.size ≤ gb402)); replace HB := a0_ (below_step (bl2_ GE398.out GE400.out) hb); have NB398_402 := a0_ ((nl_ hg BK398.out : gb398 ≠ gb402)); have NB402_398 := a0_ ((ng_ hg BK398.out : gb402 ≠ gb398)); replace BK398 := a0_ (bb_ BK398.out hb); have NB400_402 := a0_ ((nl_ hg BK400.out : gb400 ≠ gb402)); have NB402_400 := a0_ ((ng_ hg BK400.out : gb402 ≠ gb400)); replace BK400 := a0_ (bb_ BK400.out hb); clear hb hbox hg; have hnb13 := NB402_398.out; have hnc13 := NB398_402.out; have hnb14 := NB402_400.out; have hnc14 := NB400_402.out; obtain ⟨hcz15_0, hcz15_1, hfz15_0, hfz15_1⟩ := bc2_ BK402.out; have hnb16 := NB400_398.out; have hnc16 := NB398_400.out; obtain ⟨hcz17_0, hcz17_1, hfz17_0, hfz17_1⟩ := bc2_ BK400.out))
       go_roundg k1
       case measure => have := HK1.out; omega
       case rel => exact ⟨(wrap64 (x11_1 + 1)), (ji10), (ji11), rs_, H', ⟨by have := HK1.out; omega⟩, ⟨by (with_reducible repeat (first | refine blk_drewN ?_ _ | refine blk_drew ?_ | refine blk_alloc ?_ _)); refine blk_far ?_ NB398_400.out _; (with_reducible repeat (first | refine blk_drewN ?_ _ | refine blk_drew ?_ | refine blk_alloc ?_ _)); refine blk_far ?_ NB398_400.out _; (with_reducible repeat (first | refine blk_drewN ?_ _ | refine blk_drew ?_ | refine blk_alloc ?_ _)); refine blk_far ?_ NB398_402.out _; (with_reducible repeat (first | refine blk_drewN ?_ _ | refine blk_drew ?_ | refine blk_alloc ?_ _)); refine blk_far ?_ NB398_402.out _; (with_reducible repeat (first | refine blk_drewN ?_ _ | refine blk_drew ?_ | refine blk_alloc ?_ _)); exact BK398.out⟩, ⟨by (with_reducible repeat (first | refine blk_drewN ?_ _ | refine blk_drew ?_ | refine blk_alloc ?_ _)); refine blk_put (cs := #[.int .i64 ji10, .int .i64 x401001_1]) ?_ 1 _ rfl; (with_reducible repeat (first | refine blk_drewN ?_ _ | refine blk_drew ?_ | refine blk_alloc ?_ _)); refine blk_put (cs := #[.int .i64 x401000_1, .int .i64 x401001_1]) ?_ 0 _ rfl; (with_reducible repeat (first | refine blk_drewN ?_ _ | refine blk_drew ?_ | refine blk_alloc ?_ _)); refine blk_far ?_ NB400_402.out _; (with_reducible repeat (first | refine blk_drewN ?_ _ | refine blk_drew ?_ | refine blk_alloc ?_ _)); refine blk_far ?_ NB400_402.out _; (with_reducible repeat (first | refine blk_drewN ?_ _ | refine blk_drew ?_ | refine blk_alloc ?_ _)); exact BK400.out⟩, ⟨bl3_ GE398.out GE400.out GE402.out⟩⟩
      ·rw [if_neg c9] at H
       exact absurd H (by simp)
     ·rw [if_neg c8] at H
      exact absurd H (by simp)
    ·rw [if_neg c7] at H
     have c7b0 : decide (x11_1 < (l0.length : Int)) = false := decide_eq_false c7
     clear c7
     simp only [Option.some.injEq, Prod.mk.injEq] at H
     obtain ⟨rfl, rfl⟩ := H
     have hnb18 := NB400_398.out
     have hnc18 := NB398_400.out
     have hcz19_0 : wr.cell? ⟨gb400, 0, none⟩ = some (.int .i64 x401000_1) := (blk_cell BK400.out 0).trans rfl
     have hcz19_1 : wr.cell? ⟨gb400, 1, none⟩ = some (.int .i64 x401001_1) := (blk_cell BK400.out 1).trans rfl
     have hfz19_0 := blk_frozen BK400.out 0
     have hfz19_1 := blk_frozen BK400.out 1
     have hcz20_0 : wr.cell? ⟨gb398, 0, none⟩ = some (.int .i64 0) := (blk_cell BK398.out 0).trans rfl
     have hcz20_1 : wr.cell? ⟨gb398, 1, none⟩ = some (.int .i64 0) := (blk_cell BK398.out 1).trans rfl
     have hfz20_0 := blk_frozen BK398.out 0
     have hfz20_1 := blk_frozen BK398.out 1
     go_wp2
     refine bodyPost_ret (results_cell_row rfl _ _ gb398 60 #[.int .i64 x401000_1, .int .i64 x401001_1] (0, 0) _ rfl (by (with_reducible repeat (first | refine blk_drewN ?_ _ | refine blk_drew ?_ | refine blk_alloc ?_ _)); refine blk_put (cs := #[.int .i64 x401000_1, .int .i64 0]) ?_ 1 _ rfl; (with_reducible repeat (first | refine blk_drewN ?_ _ | refine blk_drew ?_ | refine blk_alloc ?_ _)); refine blk_put (cs := #[.int .i64 0, .int .i64 0]) ?_ 0 _ rfl; (with_reducible repeat (first | refine blk_drewN ?_ _ | refine blk_drew ?_ | refine blk_alloc ?_ _)); exact BK398.out) Tryz.underlying60 rfl kr_) rfl ?_
     exact ⟨er_, bl2_ GE398.out GE400.out⟩
 ·rw [if_neg c2] at H
  exact absurd H (by simp)

/-! ### impl_reach: function 47 -/
def impl_reach.l0 : Nat → List (S60) → Int → Int → Int → Int → Option (Int × Int)
 | 0, _, _, _, _, _ => none
 | k + 1, x9, x10, x11, x406000, x406001 => if x11 < x10 then (if 0 ≤ x11 then (if x11 < (x9.length : Int) then (impl_reach.l0 k x9 x10 (wrap64 (x11 + 1)) (mx x406000 ((rd_T60 x9 x11).f0)) (mx x406001 ((rd_T60 x9 x11).f1))) else (none)) else (none)) else (some (x406000, x406001))
def impl_reach.f (k : Nat) (l0 : List (S60)) : Option (Int × Int) := if 0 < (l0.length : Int) then (impl_reach.l0 k l0 (l0.length : Int) 0 ((rd_T60 l0 0).f0) ((rd_T60 l0 0).f1)) else (none)
theorem impl_reach.mono_l : ∀ k, (∀ y0 y1 y2 y3 y4, LeO (impl_reach.l0 k y0 y1 y2 y3 y4) (impl_reach.l0 (k + 1) y0 y1 y2 y3 y4))
 | 0 => fun _ _ _ _ _ r h => by simp [impl_reach.l0] at h
 | k + 1 => by
  have ih0 := impl_reach.mono_l k
  ·intro y0 y1 y2 y3 y4
   unfold impl_reach.l0
   with_reducible (repeat' first | exact ih0 _ _ _ _ _ | exact LeO.refl _ | exact LeO.none _ | refine LeO.ite ?_ ?_ | refine LeO.bind ?_ (fun _ => ?_))
theorem impl_reach.mono : ∀ a0 k, LeO (impl_reach.f k a0) (impl_reach.f (k + 1) a0) := by
 intro a0 k
 have ih0 := impl_reach.mono_l k
 unfold impl_reach.f
 with_reducible (repeat' first | exact ih0 _ _ _ _ _ | exact LeO.refl _ | exact LeO.none _ | refine LeO.ite ?_ ?_ | refine LeO.bind ?_ (fun _ => ?_))
set_option maxHeartbeats 8000000 in
set_option maxRecDepth 100000 in
theorem impl_reach.calls (k : Nat) (A0 : Option Addr) (c0 : Nat) (l0 : List (S60)) (r1 : Int) (r2 : Int) (w : World) (hr0 : Kd.C k60 w A0 l0.length l0) (hc0 : l0.length ≤ c0) (h : impl_reach.f k l0 = some (r1, r2)) :
  Calls Tryz.prog 47 #[.slice A0 l0.length c0] w fun e w' => e = .returned (.agg #[.int .i64 r1, .int .i64 r2]) ∧ Below w.heap.size w w' := by
 have hu60 := Tryz.underlying60
 have HR0 := Aside0.mk hr0
 have HC0 := Aside0.mk hc0
 clear hr0 hc0
 have HB := a0_ (Below.refl w.heap.size w)
 have H := h
 clear h
 unfold impl_reach.f at H
 by_cases c2 : 0 < (l0.length : Int)
 ·rw [if_pos c2] at H
  have c2b0 : decide (0 < (l0.length : Int)) = true := decide_eq_true c2
  have c2b1 : decide (0 < l0.length) = true := decide_eq_true (by omega)
  clear c2
  have H' := Aside0.mk H
  clear H
  go_enter Tryz.func47, Tryz.ntmps47
  go_wp2_with (first | ((with_reducible refine gate_dst (N := 2) rfl ?_); refine bx_ (N := 2) (cs := #[.int .i64 0, .int .i64 0]) (t := 60) ?_; intro gb403 hg w3 hbox hb; have BK403 := a0_ (hbox); have GW403 := a0_ ((sz_ hg (bl0_) : w.heap.size ≤ gb403)); have GE403 := a0_ ((sz_ hg (bl0_) : w.heap.size ≤ gb403)); replace HB := a0_ (below_step (bl0_) hb); clear hb hbox hg; have p404 : 0 ≤ (0 : Int) := (by omega); have q404 : 0 < (l0.length : Int) := od_; obtain ⟨ad404, e404, hx404_0, hx404_1⟩ := at_T60 HR0.out 0 p404 q404; cases e404; have qi404 : (0 < l0.length) = True := eq_true (by omega); (try rw [show ((0 : Int)).toNat = 0 from rfl] at hx404_0); (try rw [show 0 * 2 = 0 from rfl] at hx404_0); (try rw [Addr.add_zero'] at hx404_0); (try rw [show ((0 : Int)).toNat = 0 from rfl] at hx404_1); (try rw [show 0 * 2 = 0 from rfl] at hx404_1); (try rw [Addr.add_zero'] at hx404_1); replace hx404_0 := (HB.out.cell (World.block_lt_of_cell? w _ hx404_0)).trans hx404_0; replace hx404_1 := (HB.out.cell (World.block_lt_of_cell? w _ hx404_1)).trans hx404_1; replace p404 := eq_true p404; replace q404 := eq_true q404) | ((with_reducible refine gate_dst (N := 3) rfl ?_); refine bx_ (N := 3) (cs := #[.int .i64 0, .int .i64 0]) (t := 60) ?_; intro gb405 hg w4 hbox hb; have BK405 := a0_ (hbox); have GW405 := a0_ ((sz_ hg (bl1_ GE403.out) : w.heap.size ≤ gb405)); have GE405 := a0_ ((sz_ hg (bl1_ GE403.out) : w.heap.size ≤ gb405)); replace HB := a0_ (below_step (bl1_ GE403.out) hb); have NB403_405 := a0_ ((nl_ hg BK403.out : gb403 ≠ gb405)); have NB405_403 := a0_ ((ng_ hg BK403.out : gb405 ≠ gb403)); replace BK403 := a0_ (bb_ BK403.out hb); clear hb hbox hg; have hnb5 := NB405_403.out; have hnc5 := NB403_405.out; obtain ⟨hcz6_0, hcz6_1, hfz6_0, hfz6_1⟩ := bc2_ BK405.out))
  go_loopg [11] k (fun kq v11 w' => ∃ (x11_1 : Int) (x406000_1 : Int) (x406001_1 : Int), v11 = .int .i64 x11_1 ∧ Aside0 (impl_reach.l0 kq l0 (l0.length : Int) x11_1 x406000_1 x406001_1 = some (r1, r2)) ∧ Aside0 (kq ≤ k) ∧ Aside0 (w'.heap[gb403]? = some (.cells #[.int .i64 0, .int .i64 0] 60 (0, 0))) ∧ Aside0 (w'.heap[gb405]? = some (.cells #[.int .i64 x406000_1, .int .i64 x406001_1] 60 (0, 0))) ∧ Aside0 (Below w.heap.size w w'))
  case atStart => exact ⟨(0), ((rd_T60 l0 0).f0), ((rd_T60 l0 0).f1), rs_, H', ⟨Nat.le_refl _⟩, ⟨bf_ BK403.out NB403_405.out⟩, ⟨by (with_reducible repeat (first | refine blk_drewN ?_ _ | refine blk_drew ?_ | refine blk_alloc ?_ _)); refine blk_put (cs := #[.int .i64 ((rd_T60 l0 0).f0), .int .i64 0]) ?_ 1 _ rfl; (with_reducible repeat (first | refine blk_drewN ?_ _ | refine blk_drew ?_ | refine blk_alloc ?_ _)); refine blk_put (cs := #[.int .i64 0, .int .i64 0]) ?_ 0 _ rfl; (with_reducible repeat (first | refine blk_drewN ?_ _ | refine blk_drew ?_ | refine blk_alloc ?_ _)); exact BK405.out⟩, ⟨bl2_ GE403.out GE405.out⟩⟩
  case round =>
   clear H'
   try clear c2
   try clear c2b0
   try clear c2b1
   try clear p2
   try clear c4
   try clear p4
   try clear q4
   try clear hx4
   try clear qi4
   try clear c5
   try clear hcz6_0
   try clear hcz6_1
   try clear hfz6_0
   try clear hfz6_1
   try clear hx404_0
   try clear hx404_1
   try clear p404
   try clear q404
   obtain ⟨x11_1, x406000_1, x406001_1, rfl, HA, HK1, BK403, BK405, HB⟩ := hrel
   cases gk with
   | zero => exact absurd HA.out (by simp [impl_reach.l0])
   | succ k1 =>
    have H := HA.out
    clear HA
    simp only [impl_reach.l0] at H
    by_cases c7 : x11_1 < (l0.length : Int)
    ·rw [if_pos c7] at H
     have c7b0 : decide (x11_1 < (l0.length : Int)) = true := decide_eq_true c7
     clear c7
     by_cases c8 : 0 ≤ x11_1
     ·rw [if_pos c8] at H
      have c8b0 : decide (0 ≤ x11_1) = true := decide_eq_true c8
      clear c8
      by_cases c9 : x11_1 < (l0.length : Int)
      ·rw [if_pos c9] at H
       have c9b0 : decide (x11_1 < (l0.length : Int)) = true := decide_eq_true c9
       clear c9
       obtain ⟨ji10, hji10⟩ : ∃ j_ : Int, (mx x406000_1 ((rd_T60 l0 x11_1).f0)) = j_ := ⟨_, rfl⟩
       replace H : (impl_reach.l0 k1 l0 (l0.length : Int) (wrap64 (x11_1 + 1)) ji10 (mx x406001_1 ((rd_T60 l0 x11_1).f1))) = some (r1, r2) := by first | (rw [hji10] at H; exact H) | (simp only [hji10] at H ⊢; exact H)
       have hji10_ : (if x406000_1 < ((rd_T60 l0 x11_1).f0) then ((rd_T60 l0 x11_1).f0) else x406000_1) = ji10 := hji10
       obtain ⟨ji11, hji11⟩ : ∃ j_ : Int, (mx x406001_1 ((rd_T60 l0 x11_1).f1)) = j_ := ⟨_, rfl⟩
       replace H : (impl_reach.l0 k1 l0 (l0.length : Int) (wrap64 (x11_1 + 1)) ji10 ji11) = some (r1, r2) := by first | (rw [hji11] at H; exact H) | (simp only [hji11] at H ⊢; exact H)
       have hji11_ : (if x406001_1 < ((rd_T60 l0 x11_1).f1) then ((rd_T60 l0 x11_1).f1) else x406001_1) = ji11 := hji11
       have H' := Aside0.mk H
       clear H
       have p406 : 0 ≤ (x11_1 : Int) := od_
       have q406 : x11_1 < (l0.length : Int) := od_
       obtain ⟨ad406, e406, hx406_0, hx406_1⟩ := at_T60 HR0.out x11_1 p406 q406
       obtain rfl : ad404 = ad406 := (by injection e406)
       replace hx406_0 := (HB.out.cell (World.block_lt_of_cell? w _ hx406_0)).trans hx406_0
       replace hx406_1 := (HB.out.cell (World.block_lt_of_cell? w _ hx406_1)).trans hx406_1
       replace p406 := eq_true p406
       replace q406 := eq_true q406
       go_wp2_with (first | ((with_reducible refine gate_dst (N := 5) rfl ?_); refine bx_ (N := 5) (cs := #[.int .i64 0, .int .i64 0]) (t := 60) ?_; intro gb407 hg w12 hbox hb; have BK407 := a0_ (hbox); have GW407 := a0_ ((sz_ hg (bl2_ GE403.out GE405.out) : w.heap.size ≤ gb407)); have GE407 := a0_ ((sz_ hg (bl2_ GE403.out GE405.out) : w.heap.size ≤ gb407)); replace HB := a0_ (below_step (bl2_ GE403.out GE405.out) hb); have NB403_407 := a0_ ((nl_ hg BK403.out : gb403 ≠ gb407)); have NB407_403 := a0_ ((ng_ hg BK403.out : gb407 ≠ gb403)); replace BK403 := a0_ (bb_ BK403.out hb); have NB405_407 := a0_ ((nl_ hg BK405.out : gb405 ≠ gb407)); have NB407_405 := a0_ ((ng_ hg BK405.out : gb407 ≠ gb405)); replace BK405 := a0_ (bb_ BK405.out hb); clear hb hbox hg; have hnb13 := NB407_403.out; have hnc13 := NB403_407.out; have hnb14 := NB407_405.out; have hnc14 := NB405_407.out; obtain ⟨hcz15_0, hcz15_1, hfz15_0, hfz15_1⟩ := bc2_ BK407.out; have hnb16 := NB405_403.out; have hnc16 := NB403_405.out; obtain ⟨hcz17_0, hcz17_1, hfz17_0, hfz17_1⟩ := bc2_ BK405.out))
       go_roundg k1
       case measure => have := HK1.out; omega
       case rel => exact ⟨(wrap64 (x11_1 + 1)), (ji10), (ji11), rs_, H', ⟨by have := HK1.out; omega⟩, ⟨by (with_reducible repeat (first | refine blk_drewN ?_ _ | refine blk_drew ?_ | refine blk_alloc ?_ _)); refine blk_far ?_ NB403_405.out _; (with_reducible repeat (first | refine blk_drewN ?_ _ | refine blk_drew ?_ | refine blk_alloc ?_ _)); refine blk_far ?_ NB403_405.out _; (with_reducible repeat (first | refine blk_drewN ?_ _ | refine blk_drew ?_ | refine blk_alloc ?_ _)); refine blk_far ?_ NB403_407.out _; (with_reducible repeat (first | refine blk_drewN ?_ _ | refine blk_drew ?_ | refine blk_alloc ?_ _)); refine blk_far ?_ NB403_407.out _; (with_reducible repeat (first | refine blk_drewN ?_ _ | refine blk_drew ?_ | refine blk_alloc ?_ _)); exact BK403.out⟩, ⟨by (with_reducible repeat (first | refine blk_drewN ?_ _ | refine blk_drew ?_ | refine blk_alloc ?_ _)); refine blk_put (cs := #[.int .i64 ji10, .int .i64 x406001_1]) ?_ 1 _ rfl; (with_reducible repeat (first | refine blk_drewN ?_ _ | refine blk_drew ?_ | refine blk_alloc ?_ _)); refine blk_put (cs := #[.int .i64 x406000_1, .int .i64 x406001_1]) ?_ 0 _ rfl; (with_reducible repeat (first | refine blk_drewN ?_ _ | refine blk_drew ?_ | refine blk_alloc ?_ _)); refine blk_far ?_ NB405_407.out _; (with_reducible repeat (first | refine blk_drewN ?_ _ | refine blk_drew ?_ | refine blk_alloc ?_ _)); refine blk_far ?_ NB405_407.out _; (with_reducible repeat (first | refine blk_drewN ?_ _ | refine blk_drew ?_ | refine blk_alloc ?_ _)); exact BK405.out⟩, ⟨bl3_ GE403.out GE405.out GE407.out⟩⟩
      ·rw [if_neg c9] at H
       exact absurd H (by simp)
     ·rw [if_neg c8] at H
      exact absurd H (by simp)
    ·rw [if_neg c7] at H
     have c7b0 : decide (x11_1 < (l0.length : Int)) = false := decide_eq_false c7
     clear c7
     simp only [Option.some.injEq, Prod.mk.injEq] at H
     obtain ⟨rfl, rfl⟩ := H
     have hnb18 := NB405_403.out
     have hnc18 := NB403_405.out
     have hcz19_0 : wr.cell? ⟨gb405, 0, none⟩ = some (.int .i64 x406000_1) := (blk_cell BK405.out 0).trans rfl
     have hcz19_1 : wr.cell? ⟨gb405, 1, none⟩ = some (.int .i64 x406001_1) := (blk_cell BK405.out 1).trans rfl
     have hfz19_0 := blk_frozen BK405.out 0
     have hfz19_1 := blk_frozen BK405.out 1
     have hcz20_0 : wr.cell? ⟨gb403, 0, none⟩ = some (.int .i64 0) := (blk_cell BK403.out 0).trans rfl
     have hcz20_1 : wr.cell? ⟨gb403, 1, none⟩ = some (.int .i64 0) := (blk_cell BK403.out 1).trans rfl
     have hfz20_0 := blk_frozen BK403.out 0
     have hfz20_1 := blk_frozen BK403.out 1
     go_wp2
     refine bodyPost_ret (results_cell_row rfl _ _ gb403 60 #[.int .i64 x406000_1, .int .i64 x406001_1] (0, 0) _ rfl (by (with_reducible repeat (first | refine blk_drewN ?_ _ | refine blk_drew ?_ | refine blk_alloc ?_ _)); refine blk_put (cs := #[.int .i64 x406000_1, .int .i64 0]) ?_ 1 _ rfl; (with_reducible repeat (first | refine blk_drewN ?_ _ | refine blk_drew ?_ | refine blk_alloc ?_ _)); refine blk_put (cs := #[.int .i64 0, .int .i64 0]) ?_ 0 _ rfl; (with_reducible repeat (first | refine blk_drewN ?_ _ | refine blk_drew ?_ | refine blk_alloc ?_ _)); exact BK403.out) Tryz.underlying60 rfl kr_) rfl ?_
     exact ⟨er_, bl2_ GE403.out GE405.out⟩
 ·rw [if_neg c2] at H
  exact absurd H (by simp)

/-! ### impl_IsRegion: function 25 -/
def impl_IsRegion.f (k : Nat) (l0 : List (S60)) : Option (Bool) := (impl_IsShape.f k l0).bind fun t408 => (if t408 = true then ((impl_corner.f k l0).bind fun bt409 => (if (!(bt409.1 == 0) || (!(bt409.2 == 0))) = true then (some false) else ((impl_reach.f k l0).bind fun bt411 => (if bt411.1 < 20 then (some (decide (bt411.2 < 20))) else (some false))))) else (some false))
theorem impl_IsRegion.mono : ∀ a0 k, LeO (impl_IsRegion.f k a0) (impl_IsRegion.f (k + 1) a0) := by
 intro a0 k
 unfold impl_IsRegion.f
 with_reducible (repeat' first | exact impl_IsShape.mono _ _ | exact impl_corner.mono _ _ | exact impl_reach.mono _ _ | exact LeO.refl _ | exact LeO.none _ | refine LeO.ite ?_ ?_ | refine LeO.bind ?_ (fun _ => ?_))
set_option maxHeartbeats 8000000 in
set_option maxRecDepth 100000 in
theorem impl_IsRegion.calls (k : Nat) (A0 : Option Addr) (c0 : Nat) (l0 : List (S60)) (r : Bool) (w : World) (hr0 : Kd.C k60 w A0 l0.length l0) (hc0 : l0.length ≤ c0) (h : impl_IsRegion.f k l0 = some r) :
  Calls Tryz.prog 25 #[.slice A0 l0.length c0] w fun e w' => e = .returned (.bool r) ∧ Below w.heap.size w w' := by
 have hu60 := Tryz.underlying60
 have HR0 := Aside0.mk hr0
 have HC0 := Aside0.mk hc0
 clear hr0 hc0
 have HB := a0_ (Below.refl w.heap.size w)
 have H := h
 clear h
 unfold impl_IsRegion.f at H
 obtain ⟨t408, A2, H⟩ := bs_ H
 by_cases c3 : t408 = true
 ·subst c3
  rw [if_pos rfl] at H
  obtain ⟨⟨t409, t410⟩, A4, H⟩ := bs_ H
  dsimp only at H
  by_cases c5 : (!(t409 == 0) || (!(t410 == 0))) = true
  ·rw [if_pos c5] at H
   have c5b0 : (!(t409 == 0) || (!(t410 == 0))) = true := c5
   clear c5
   obtain rfl := Option.some.inj H
   go_enter Tryz.func25, Tryz.ntmps25
   go_wp2_with (first | ((with_reducible refine gate_callee (f := 45) rfl ?_); refine goesL_ (some 5) rfl rfl Tryz.func45 kr_ rfl #[.slice A0 l0.length c0] rfl ta_ ?_; (with_reducible refine (impl_IsShape.calls k _ _ l0 true _ ?side1 ?side2 A2.out).mono ?_); (case side1 => exact ca_ HR0.out); (case side2 => exact HC0.out); rintro e w6 ⟨rfl, hb⟩; refine ⟨_, rfl, ?_⟩; replace HB := a0_ (below_step (bl0_) hb); (try clear hb); (try clear hb2); (try clear hk); (try clear hi)) | (go_at_call 46; (with_reducible refine (impl_corner.calls k _ _ l0 t409 t410 _ ?side1 ?side2 A4.out).mono ?_); (case side1 => exact ca_ (Kd.C_below HR0.out HB.out)); (case side2 => exact HC0.out); rintro e w7 ⟨rfl, hb⟩; replace HB := a0_ (below_step (bl0_) hb); (try clear hb); (try clear hb2); (try clear hk); (try clear hi)))
   go_ret
   exact ⟨er_, bl0_⟩
  ·rw [if_neg c5] at H
   have c5b0 : (!(t409 == 0) || (!(t410 == 0))) = false := by simpa using c5
   clear c5
   obtain ⟨⟨t411, t412⟩, A8, H⟩ := bs_ H
   dsimp only at H
   by_cases c9 : t411 < 20
   ·rw [if_pos c9] at H
    have c9b0 : decide (t411 < 20) = true := decide_eq_true c9
    clear c9
    obtain rfl := Option.some.inj H
    go_enter Tryz.func25, Tryz.ntmps25
    go_wp2_with (first | ((with_reducible refine gate_callee (f := 45) rfl ?_); refine goesL_ (some 5) rfl rfl Tryz.func45 kr_ rfl #[.slice A0 l0.length c0] rfl ta_ ?_; (with_reducible refine (impl_IsShape.calls k _ _ l0 true _ ?side1 ?side2 A2.out).mono ?_); (case side1 => exact ca_ HR0.out); (case side2 => exact HC0.out); rintro e w10 ⟨rfl, hb⟩; refine ⟨_, rfl, ?_⟩; replace HB := a0_ (below_step (bl0_) hb); (try clear hb); (try clear hb2); (try clear hk); (try clear hi)) | (go_at_call 46; (with_reducible refine (impl_corner.calls k _ _ l0 t409 t410 _ ?side1 ?side2 A4.out).mono ?_); (case side1 => exact ca_ (Kd.C_below HR0.out HB.out)); (case side2 => exact HC0.out); rintro e w11 ⟨rfl, hb⟩; replace HB := a0_ (below_step (bl0_) hb); (try clear hb); (try clear hb2); (try clear hk); (try clear hi)) | ((with_reducible refine gate_callee (f := 47) rfl ?_); refine goesL_ (some 14) rfl rfl Tryz.func47 kr_ rfl #[.slice A0 l0.length c0] rfl ta_ ?_; (with_reducible refine (impl_reach.calls k _ _ l0 t411 t412 _ ?side1 ?side2 A8.out).mono ?_); (case side1 => exact ca_ (Kd.C_below HR0.out HB.out)); (case side2 => exact HC0.out); rintro e w12 ⟨rfl, hb⟩; refine ⟨_, rfl, ?_⟩; replace HB := a0_ (below_step (bl0_) hb); (try clear hb); (try clear hb2); (try clear hk); (try clear hi)) | ((with_reducible refine gate_dst (N := 3) rfl ?_); refine bx_ (N := 3) (cs := #[.int .i64 0, .int .i64 0]) (t := 60) ?_; intro gb413 hg w13 hbox hb; have BK413 := a0_ (hbox); have GW413 := a0_ ((sz_ hg (bl0_) : w.heap.size ≤ gb413)); have GE413 := a0_ ((sz_ hg (bl0_) : w.heap.size ≤ gb413)); replace HB := a0_ (below_step (bl0_) hb); clear hb hbox hg; obtain ⟨hcz14_0, hcz14_1, hfz14_0, hfz14_1⟩ := bc2_ BK413.out))
    go_ret
    exact ⟨er_, bl1_ GE413.out⟩
   ·rw [if_neg c9] at H
    have c9b0 : decide (t411 < 20) = false := decide_eq_false c9
    clear c9
    obtain rfl := Option.some.inj H
    go_enter Tryz.func25, Tryz.ntmps25
    go_wp2_with (first | ((with_reducible refine gate_callee (f := 45) rfl ?_); refine goesL_ (some 5) rfl rfl Tryz.func45 kr_ rfl #[.slice A0 l0.length c0] rfl ta_ ?_; (with_reducible refine (impl_IsShape.calls k _ _ l0 true _ ?side1 ?side2 A2.out).mono ?_); (case side1 => exact ca_ HR0.out); (case side2 => exact HC0.out); rintro e w15 ⟨rfl, hb⟩; refine ⟨_, rfl, ?_⟩; replace HB := a0_ (below_step (bl0_) hb); (try clear hb); (try clear hb2); (try clear hk); (try clear hi)) | (go_at_call 46; (with_reducible refine (impl_corner.calls k _ _ l0 t409 t410 _ ?side1 ?side2 A4.out).mono ?_); (case side1 => exact ca_ (Kd.C_below HR0.out HB.out)); (case side2 => exact HC0.out); rintro e w16 ⟨rfl, hb⟩; replace HB := a0_ (below_step (bl0_) hb); (try clear hb); (try clear hb2); (try clear hk); (try clear hi)) | ((with_reducible refine gate_callee (f := 47) rfl ?_); refine goesL_ (some 14) rfl rfl Tryz.func47 kr_ rfl #[.slice A0 l0.length c0] rfl ta_ ?_; (with_reducible refine (impl_reach.calls k _ _ l0 t411 t412 _ ?side1 ?side2 A8.out).mono ?_); (case side1 => exact ca_ (Kd.C_below HR0.out HB.out)); (case side2 => exact HC0.out); rintro e w17 ⟨rfl, hb⟩; refine ⟨_, rfl, ?_⟩; replace HB := a0_ (below_step (bl0_) hb); (try clear hb); (try clear hb2); (try clear hk); (try clear hi)) | ((with_reducible refine gate_dst (N := 3) rfl ?_); refine bx_ (N := 3) (cs := #[.int .i64 0, .int .i64 0]) (t := 60) ?_; intro gb413 hg w18 hbox hb; have BK413 := a0_ (hbox); have GW413 := a0_ ((sz_ hg (bl0_) : w.heap.size ≤ gb413)); have GE413 := a0_ ((sz_ hg (bl0_) : w.heap.size ≤ gb413)); replace HB := a0_ (below_step (bl0_) hb); clear hb hbox hg; obtain ⟨hcz19_0, hcz19_1, hfz19_0, hfz19_1⟩ := bc2_ BK413.out))
    go_ret
    exact ⟨er_, bl1_ GE413.out⟩
 ·replace c3 := Bool.eq_false_iff.mpr c3
  subst c3
  rw [if_neg (show ¬ (false = true) by decide)] at H
  obtain rfl := Option.some.inj H
  go_enter Tryz.func25, Tryz.ntmps25
  go_wp2_with (first | ((with_reducible refine gate_callee (f := 45) rfl ?_); refine goesL_ (some 5) rfl rfl Tryz.func45 kr_ rfl #[.slice A0 l0.length c0] rfl ta_ ?_; (with_reducible refine (impl_IsShape.calls k _ _ l0 false _ ?side1 ?side2 A2.out).mono ?_); (case side1 => exact ca_ HR0.out); (case side2 => exact HC0.out); rintro e w20 ⟨rfl, hb⟩; refine ⟨_, rfl, ?_⟩; replace HB := a0_ (below_step (bl0_) hb); (try clear hb); (try clear hb2); (try clear hk); (try clear hi)))
  go_ret
  exact ⟨er_, bl0_⟩

/-! ### slices_Max_int64_int64: function 48 -/
def slices_Max_int64_int64.l0 : Nat → List Int → Int → Int → Option (Int)
 | 0, _, _, _ => none
 | k + 1, x0, x3, x4 => if x4 < (x0.length : Int) then (if 0 ≤ x4 then (slices_Max_int64_int64.l0 k x0 (mx x3 (rd x0 x4)) (wrap64 (x4 + 1))) else (none)) else (some x3)
def slices_Max_int64_int64.f (k : Nat) (l0 : List Int) : Option (Int) := if (l0.length : Int) < 1 then (none) else (if 0 < (l0.length : Int) then (slices_Max_int64_int64.l0 k l0 (rd l0 0) 1) else (none))
theorem slices_Max_int64_int64.mono_l : ∀ k, (∀ y0 y1 y2, LeO (slices_Max_int64_int64.l0 k y0 y1 y2) (slices_Max_int64_int64.l0 (k + 1) y0 y1 y2))
 | 0 => fun _ _ _ r h => by simp [slices_Max_int64_int64.l0] at h
 | k + 1 => by
  have ih0 := slices_Max_int64_int64.mono_l k
  ·intro y0 y1 y2
   unfold slices_Max_int64_int64.l0
   with_reducible (repeat' first | exact ih0 _ _ _ | exact LeO.refl _ | exact LeO.none _ | refine LeO.ite ?_ ?_ | refine LeO.bind ?_ (fun _ => ?_))
theorem slices_Max_int64_int64.mono : ∀ a0 k, LeO (slices_Max_int64_int64.f k a0) (slices_Max_int64_int64.f (k + 1) a0) := by
 intro a0 k
 have ih0 := slices_Max_int64_int64.mono_l k
 unfold slices_Max_int64_int64.f
 with_reducible (repeat' first | exact ih0 _ _ _ | exact LeO.refl _ | exact LeO.none _ | refine LeO.ite ?_ ?_ | refine LeO.bind ?_ (fun _ => ?_))
set_option maxHeartbeats 8000000 in
set_option maxRecDepth 100000 in
theorem slices_Max_int64_int64.calls (k : Nat) (A0 : Option Addr) (c0 : Nat) (l0 : List Int) (r : Int) (w : World) (hr0 : Kd.C (Kd.int .i64) w A0 l0.length l0) (hc0 : l0.length ≤ c0) (h : slices_Max_int64_int64.f k l0 = some r) :
  Calls Tryz.prog 48 #[.slice A0 l0.length c0] w fun e w' => e = .returned (.int .i64 r) ∧ Below w.heap.size w w' := by
 have HR0 := Aside0.mk hr0
 have HC0 := Aside0.mk hc0
 clear hr0 hc0
 have HB := a0_ (Below.refl w.heap.size w)
 have H := h
 clear h
 unfold slices_Max_int64_int64.f at H
 by_cases c2 : (l0.length : Int) < 1
 ·rw [if_pos c2] at H
  exact absurd H (by simp)
 ·rw [if_neg c2] at H
  have c2b0 : decide ((l0.length : Int) < 1) = false := decide_eq_false c2
  have c2b1 : decide (l0.length < 1) = false := decide_eq_false (by omega)
  clear c2
  by_cases c3 : 0 < (l0.length : Int)
  ·rw [if_pos c3] at H
   have c3b0 : decide (0 < (l0.length : Int)) = true := decide_eq_true c3
   have c3b1 : decide (0 < l0.length) = true := decide_eq_true (by omega)
   clear c3
   have H' := Aside0.mk H
   clear H
   have p414 : 0 ≤ (0 : Int) := (by omega)
   have q414 : 0 < (l0.length : Int) := od_
   obtain ⟨ad414, e414, hx414_0⟩ := Kd.at_int HR0.out 0 p414 q414
   cases e414
   have qi414 : (0 < l0.length) = True := eq_true (by omega)
   (try rw [show ((0 : Int)).toNat = 0 from rfl] at hx414_0)
   (try rw [Addr.add_zero'] at hx414_0)
   replace p414 := eq_true p414
   replace q414 := eq_true q414
   go_enter Tryz.func48, Tryz.ntmps48
   go_wp2
   go_loopg [3, 4] k (fun kq v3 v4 w' => ∃ (x3_1 : Int) (x4_1 : Int), v3 = .int .i64 x3_1 ∧ v4 = .int .i64 x4_1 ∧ Aside0 (slices_Max_int64_int64.l0 kq l0 x3_1 x4_1 = some r) ∧ Aside0 (kq ≤ k) ∧ Aside0 (Below w.heap.size w w'))
   case atStart => exact ⟨(rd l0 0), (1), rs_, rs_, H', ⟨Nat.le_refl _⟩, ⟨bl0_⟩⟩
   case round =>
    clear H'
    try clear c2
    try clear c2b0
    try clear c2b1
    try clear p2
    try clear c3
    try clear c3b0
    try clear c3b1
    try clear hx414_0
    try clear p414
    try clear q414
    obtain ⟨x3_1, x4_1, rfl, rfl, HA, HK1, HB⟩ := hrel
    cases gk with
    | zero => exact absurd HA.out (by simp [slices_Max_int64_int64.l0])
    | succ k1 =>
     have H := HA.out
     clear HA
     simp only [slices_Max_int64_int64.l0] at H
     by_cases c4 : x4_1 < (l0.length : Int)
     ·rw [if_pos c4] at H
      have c4b0 : decide (x4_1 < (l0.length : Int)) = true := decide_eq_true c4
      clear c4
      by_cases c5 : 0 ≤ x4_1
      ·rw [if_pos c5] at H
       have c5b0 : decide (0 ≤ x4_1) = true := decide_eq_true c5
       clear c5
       obtain ⟨ji6, hji6⟩ : ∃ j_ : Int, (mx x3_1 (rd l0 x4_1)) = j_ := ⟨_, rfl⟩
       replace H : (slices_Max_int64_int64.l0 k1 l0 ji6 (wrap64 (x4_1 + 1))) = some r := by first | (rw [hji6] at H; exact H) | (simp only [hji6] at H ⊢; exact H)
       have hji6_ : (if x3_1 < (rd l0 x4_1) then (rd l0 x4_1) else x3_1) = ji6 := hji6
       have H' := Aside0.mk H
       clear H
       have p415 : 0 ≤ (x4_1 : Int) := od_
       have q415 : x4_1 < (l0.length : Int) := od_
       obtain ⟨ad415, e415, hx415_0⟩ := Kd.at_int HR0.out x4_1 p415 q415
       obtain rfl : ad414 = ad415 := (by injection e415)
       replace hx415_0 := (HB.out.cell (World.block_lt_of_cell? w _ hx415_0)).trans hx415_0
       replace p415 := eq_true p415
       replace q415 := eq_true q415
       go_wp2
       go_roundg k1
       case measure => have := HK1.out; omega
       case rel => exact ⟨(ji6), (wrap64 (x4_1 + 1)), (by first | rfl | (simp; done) | (simp only [← hji6] <;> (first | rfl | simp)) | (simp [*]; done)), rs_, H', ⟨by have := HK1.out; omega⟩, ⟨bl0_⟩⟩
      ·rw [if_neg c5] at H
       exact absurd H (by simp)
     ·rw [if_neg c4] at H
      have c4b0 : decide (x4_1 < (l0.length : Int)) = false := decide_eq_false c4
      clear c4
      obtain rfl := Option.some.inj H
      go_wp2
      go_ret
      exact ⟨er_, bl0_⟩
  ·rw [if_neg c3] at H
   exact absurd H (by simp)

/-! ### impl_around: function 27 -/
def impl_around.f (a0_0 : Int) (a0_1 : Int) : Option ((List (S60))) := some (([(⟨a0_0, wrap64 (a0_1 - 1)⟩ : S60), (⟨wrap64 (a0_0 - 1), a0_1⟩ : S60), (⟨wrap64 (a0_0 + 1), a0_1⟩ : S60), (⟨a0_0, wrap64 (a0_1 + 1)⟩ : S60)] : List (S60)))
set_option maxHeartbeats 8000000 in
set_option maxRecDepth 100000 in
theorem impl_around.calls (a0_0 : Int) (a0_1 : Int) (r : List (S60)) (w : World) (h : impl_around.f a0_0 a0_1 = some r) :
  Calls Tryz.prog 27 #[.agg #[.int .i64 a0_0, .int .i64 a0_1]] w fun e w' => ∃ v0_ : Value, e = .returned (v0_) ∧ Kd.R k60 60 w' w.heap.size (fun _ => True) v0_ r ∧ Below w.heap.size w w' := by
 have hu60 := Tryz.underlying60
 have HB := a0_ (Below.refl w.heap.size w)
 have H := h
 clear h
 unfold impl_around.f at H
 obtain ⟨y417, hy417⟩ : ∃ y_ : List (S60), y_ = (([(⟨a0_0, wrap64 (a0_1 - 1)⟩ : S60), (⟨wrap64 (a0_0 - 1), a0_1⟩ : S60), (⟨wrap64 (a0_0 + 1), a0_1⟩ : S60), (⟨a0_0, wrap64 (a0_1 + 1)⟩ : S60)] : List (S60))) := ⟨_, rfl⟩
 replace H : (some y417) = some r := hh_ hy417 H
 have Ny417 := Aside0.mk hy417
 clear hy417
 obtain rfl := Option.some.inj H
 go_enter Tryz.func27, Tryz.ntmps27
 go_wp2_with (first | ((with_reducible refine gate_dst (N := 1) rfl ?_); refine bx_ (N := 1) (cs := #[.int .i64 a0_0, .int .i64 a0_1]) (t := 60) ?_; intro gb416 hg w2 hbox hb; have BK416 := a0_ (hbox); have GW416 := a0_ ((sz_ hg (bl0_) : w.heap.size ≤ gb416)); have GE416 := a0_ ((sz_ hg (bl0_) : w.heap.size ≤ gb416)); replace HB := a0_ (below_step (bl0_) hb); clear hb hbox hg; obtain ⟨hcz3_0, hcz3_1, hfz3_0, hfz3_1⟩ := bc2_ BK416.out) | ((with_reducible refine gate_dst (N := 27) rfl ?_); refine Kd.R_lit k60 _ 60 ?hg (N := 27) ?hd (xs := ([(⟨a0_0, wrap64 (a0_1 - 1)⟩ : S60), (⟨wrap64 (a0_0 - 1), a0_1⟩ : S60), (⟨wrap64 (a0_0 + 1), a0_1⟩ : S60), (⟨a0_0, wrap64 (a0_1 + 1)⟩ : S60)] : List (S60))) (inner := [.int .i64 a0_0, .int .i64 (wrap64 (a0_1 - 1)), .int .i64 (wrap64 (a0_0 - 1)), .int .i64 a0_1, .int .i64 (wrap64 (a0_0 + 1)), .int .i64 a0_1, .int .i64 a0_0, .int .i64 (wrap64 (a0_1 + 1))]) (ok := fun _ => True) (okp := fun _ => True) ?hr ?hp (fun _ hk => hk) trivial (Below.refl _ _) (Nat.le_refl _) (by simp) ?_; (case hd => rfl); (case hg => rfl); (case hr => first | (go_simp; done) | (go_simp; rfl)); (case hp => exact (Reps.c2 (show Kd.M k60 _ _ _ (⟨a0_0, wrap64 (a0_1 - 1)⟩ : S60) [.int .i64 a0_0, .int .i64 (wrap64 (a0_1 - 1))] from (k60_mkM _ _ _ (⟨a0_0, wrap64 (a0_1 - 1)⟩ : S60) )) (Reps.c2 (show Kd.M k60 _ _ _ (⟨wrap64 (a0_0 - 1), a0_1⟩ : S60) [.int .i64 (wrap64 (a0_0 - 1)), .int .i64 a0_1] from (k60_mkM _ _ _ (⟨wrap64 (a0_0 - 1), a0_1⟩ : S60) )) (Reps.c2 (show Kd.M k60 _ _ _ (⟨wrap64 (a0_0 + 1), a0_1⟩ : S60) [.int .i64 (wrap64 (a0_0 + 1)), .int .i64 a0_1] from (k60_mkM _ _ _ (⟨wrap64 (a0_0 + 1), a0_1⟩ : S60) )) (Reps.c2 (show Kd.M k60 _ _ _ (⟨a0_0, wrap64 (a0_1 + 1)⟩ : S60) [.int .i64 a0_0, .int .i64 (wrap64 (a0_1 + 1))] from (k60_mkM _ _ _ (⟨a0_0, wrap64 (a0_1 + 1)⟩ : S60) )) (Reps.none _ _)))))); intro v418 w4 ho5 hb hg_ hnew_; clear hg_ hnew_; (first | rw [← Ny417.out] at ho5 | (simp only [Int.reduceToNat] at ho5; rw [← Ny417.out] at ho5)); have HO419 := a0_ (Kd.R_lower (Kd.R_newB ho5 (g := gb416) (o := .cells #[.int .i64 a0_0, .int .i64 a0_1] 60 (0, 0)) (bk_ BK416.out)) (below_size (bl1_ GE416.out))); replace BK416 := a0_ (bb_ BK416.out hb); replace HB := a0_ (below_step (bl1_ GE416.out) hb); clear hb ho5))
 go_ret
 exact ⟨_, er_, by (with_reducible repeat (first | apply Kd.R_alloc | apply Kd.R_drewN | apply Kd.R_drew)); exact Kd.R_mono HO419.out (fun _ hk => trivial), bl1_ GE416.out⟩

/-! ### impl_parts: function 49 -/
/-- The pair of a cell's numbers; the last place among the first i at which a cell stands. -/
def cellKey (c : S60) : Int × Int := (c.f0, c.f1)
def okc (c : S60) : Prop := (-9223372036854775808 ≤ c.f0 ∧ c.f0 ≤ 9223372036854775807) ∧ (-9223372036854775808 ≤ c.f1 ∧ c.f1 ≤ 9223372036854775807)
instance (c : S60) : Decidable (okc c) := inferInstanceAs (Decidable (_ ∧ _))
def atCell (l : List S60) : Nat → Int × Int → Option Int
 | 0, _ => none
 | i + 1, p => if p = cellKey (rd_T60 l (i : Int)) then some (i : Int) else atCell l i p
def placeF (l : List S60) (i : Nat) (p : Int × Int) : Option Value := (atCell l i p).map (fun q => .int .i64 q)
mutual
def impl_parts.l1 : Nat → List S60 → List Int → Int → Option (List Int)
 | 0, _, _, _ => none
 | k + 1, l, out, i => if i < (l.length : Int) then (if 0 ≤ i then (if rd out i ≥ 0 then impl_parts.l1 k l out (wrap64 (i + 1)) else impl_parts.l2 k l (out.set i.toNat i) i [i] 0) else none) else some out
def impl_parts.l2 : Nat → List S60 → List Int → Int → List Int → Int → Option (List Int)
 | 0, _, _, _, _, _ => none
 | k + 1, l, out, i, list, t => if t < (list.length : Int) then (if (0 ≤ t ∧ 0 ≤ rd list t) ∧ rd list t < (l.length : Int) then ((impl_around.f (rd_T60 l (rd list t)).f0 (rd_T60 l (rd list t)).f1).bind fun ds => impl_parts.l3 k l out i list t ds 0) else none) else impl_parts.l1 k l out (wrap64 (i + 1))
def impl_parts.l3 : Nat → List S60 → List Int → Int → List Int → Int → List S60 → Int → Option (List Int)
 | 0, _, _, _, _, _, _, _ => none
 | k + 1, l, out, i, list, t, ds, j => if j < (ds.length : Int) then (if 0 ≤ j ∧ okc (rd_T60 ds j) then (match atCell l l.length (cellKey (rd_T60 ds j)) with
   | none => impl_parts.l3 k l out i list t ds (wrap64 (j + 1))
   | some q => if 0 ≤ q ∧ q < (l.length : Int) then (if rd out q < 0 then (if list.length < 17592186044416 then impl_parts.l3 k l (out.set q.toNat i) i (list ++ [q]) t ds (wrap64 (j + 1)) else none) else impl_parts.l3 k l out i list t ds (wrap64 (j + 1))) else none) else none) else impl_parts.l2 k l out i list (wrap64 (t + 1))
end
def impl_parts.f (k : Nat) (l : List S60) : Option (List Int) := if (0 < l.length ∧ l.length ≤ 35184372088832) ∧ (∀ c ∈ l, okc c) then impl_parts.l1 k l (List.replicate l.length (-1)) 0 else none
theorem mapZ (w : World) : (zeroValue 3).run Tryz.prog w = .ok (.int .i64 0) w := by kernel_rfl
theorem cellLaid : Go.Maps.Keyed Tryz.prog 60 := Go.Maps.Keyed.of_law (Go.deep_law_laid (m := 3) kr_ (by omega) (of_decide_eq_true kr_) kr_ kr_)
theorem cellKeyed (c : S60) (h : okc c) : ∃ l, keyOf Tryz.prog 60 (enc2 (cellKey c)) = some l :=
 key2 Tryz.underlying60 kr_ kr_ Tryz.underlying2 Tryz.underlying2 kr_ kr_ rfl rfl (by decide) (by decide) ⟨Tryz.prog.types.size - 1, by kernel_rfl⟩ c.f0 c.f1 h.1 h.2
theorem info8 : (Tryz.prog.info? 2).map (fun i => (i.zero, i.size, i.bytes)) = some (some (.int .i64 0), 1, 8) := by kernel_rfl
theorem wrapS (i : Nat) (h : i < 4611686018427387904) : wrap64 ((i : Int) + 1) = ((i + 1 : Nat) : Int) := by unfold wrap64; omega
theorem fillS (i n : Nat) (h : i < n) : (List.replicate i (-1 : Int) ++ List.replicate (n - i) 0).set i (-1) = List.replicate (i + 1) (-1) ++ List.replicate (n - (i + 1)) 0 := by
 rw [List.set_append_right _ _ (by simp), List.length_replicate, Nat.sub_self, List.replicate_succ', List.append_assoc]
 congr 1
 rw [show n - i = (n - (i + 1)) + 1 from by omega, List.replicate_succ]
 rfl
theorem placeS (l : List S60) (i : Nat) (x : Int × Int) : (if x = cellKey (rd_T60 l (i : Int)) then some (Value.int .i64 (i : Int)) else placeF l i x) = placeF l (i + 1) x := by
 unfold placeF
 rw [atCell]
 by_cases h : x = cellKey (rd_T60 l (i : Int))
 ·rw [if_pos h, if_pos h]
  rfl
 ·rw [if_neg h, if_neg h]
theorem rd_mem (l : List S60) (i : Int) (h0 : 0 ≤ i) (h : i < (l.length : Int)) : rd_T60 l i ∈ l := by
 unfold rd_T60
 rw [List.getD_eq_getElem?_getD, List.getElem?_eq_getElem (by omega), Option.getD_some]
 exact List.getElem_mem _
theorem info8i : (Tryz.prog.info? 3).map (fun i => (i.zero, i.size, i.bytes)) = some (some (.int .i64 0), 1, 8) := by kernel_rfl
set_option maxHeartbeats 4000000 in
set_option maxRecDepth 100000 in
theorem impl_parts.calls (k : Nat) (A0 : Option Addr) (c0 : Nat) (l0 : List S60) (r : List Int) (w : World) (hr0 : Kd.C k60 w A0 l0.length l0) (hc0 : l0.length ≤ c0) (h : impl_parts.f k l0 = some r) :
  Calls Tryz.prog 49 #[.slice A0 l0.length c0, .func (.func 27) #[] #[]] w fun e w' => ∃ v0_ : Value, e = .returned v0_ ∧ Kd.R (Kd.int .i64) 2 w' w.heap.size (fun _ => True) v0_ r ∧ Below w.heap.size w w' := by
 unfold impl_parts.f at h
 split at h
 case isFalse => exact absurd h (by simp)
 rename_i hl
 obtain ⟨⟨hp, hl⟩, hok⟩ := hl
 have hu := Tryz.underlying60
 have HR0 := Aside0.mk hr0
 have HL0 := Aside0.mk hc0
 have H' := Aside0.mk h
 have HL := Aside0.mk hl
 have HP := Aside0.mk hp
 have HOK := Aside0.mk hok
 clear hr0 hc0 h hl hok hp
 have HB := a0_ (Below.refl w.heap.size w)
 have hmm := @run_makeMap Tryz.prog
 go_enter Tryz.func49, Tryz.ntmps49
 have HM := a0_ (MapF.made Tryz.prog 60 enc2 w)
 go_wp2_with (first | ((with_reducible refine gate_dst (N := 19) rfl ?_); refine Kd.R_make (Kd.int .i64) (w0 := w) w.heap.size 2 rfl (N := 19) rfl 58 _ _ rfl (l0.length : Int) rfl rfl Tryz.underlying58 (.int .i64 0) 8 info8 rfl (by decide) (by omega) 0 (ok := fun _ => True) (okp := fun _ => True) rfl (fun _ hk => hk) trivial (by omega) (by have := HL.out; omega) (below_alloc HB.out _) (below_size (below_alloc HB.out _)) ?_; intro vo w2 ho hb hg _; obtain ⟨g, cap, eo, gb, _, _, _⟩ := Kd.R_form ho (by have := HP.out; simp; omega); subst eo; have GB := Aside0.mk gb; have HM2 := a0_ (HM.out.grown hg (by simp)); have HO := Aside0.mk ho; have HB2 := Aside0.mk hb; clear ho hb hg gb))
 clear HM HB
 simp only [List.length_replicate, Int.toNat_natCast] at HO ⊢
 have HO0 : Aside0 (Kd.R (Kd.int .i64) 2 w2 w.heap.size (fun _ => True) (.slice (some ⟨g, 0, none⟩) l0.length cap) (List.replicate 0 (-1) ++ List.replicate (l0.length - 0) 0)) := a0_ (by simpa using HO.out)
 have HM0 : Aside0 (MapF Tryz.prog 60 enc2 w2 w.heap.size 0 (placeF l0 0)) := a0_ (HM2.out.ext (fun _ => rfl))
 clear HO HM2
 go_loopg [22] l0.length (fun kq v22 w' => ∃ i : Nat, v22 = .int .i64 (i : Int) ∧ Aside0 (kq + i = l0.length) ∧ Aside0 (MapF Tryz.prog 60 enc2 w' w.heap.size i (placeF l0 i)) ∧ Aside0 (Kd.R (Kd.int .i64) 2 w' w.heap.size (fun _ => True) (.slice (some ⟨g, 0, none⟩) l0.length cap) (List.replicate i (-1) ++ List.replicate (l0.length - i) 0)) ∧ Aside0 (Below w.heap.size w w'))
 case atStart => exact ⟨0, rfl, ⟨by omega⟩, HM0, HO0, HB2⟩
 case round =>
  clear HM0 HO0 HB2
  obtain ⟨i, rfl, HI, HM, HO, HB⟩ := hrel
  cases gk with
  | succ k1 =>
   have c1 : decide ((i : Int) < (l0.length : Int)) = true := decide_eq_true (by have := HI.out; omega)
   have c1n : decide (i < l0.length) = true := decide_eq_true (by have := HI.out; omega)
   have p1 : 0 ≤ (i : Int) := by omega
   have q1 : (i : Int) < (l0.length : Int) := of_decide_eq_true c1
   obtain ⟨ad1, e1, hx0, hx1⟩ := at_T60 HR0.out (i : Int) p1 q1
   cases e1
   rw [Int.toNat_natCast] at hx0 hx1
   replace hx0 := (HB.out.cell (World.block_lt_of_cell? w _ hx0)).trans hx0
   replace hx1 := (HB.out.cell (World.block_lt_of_cell? w _ hx1)).trans hx1
   have KC := a0_ (HOK.out _ (rd_mem l0 (i : Int) p1 q1))
   replace p1 := eq_true p1
   replace q1 := eq_true q1
   go_wp2_with (first | (at_mapUpdate; refine wpList_putF rfl _ _ _ 84 rfl 60 3 cellLaid Tryz.underlying84 enc2 w.heap.size i (placeF l0 i) rfl (HM.out.alloc _) (by have := HI.out; have := HL.out; unfold maxLen; omega) (cellKey (rd_T60 l0 (i : Int))) rfl (fun q hq => enc2_inj _ _ hq) (cellKeyed _ KC.out) (.int .i64 (i : Int)) rfl ?_; intro w3 hm3 hg3; have HM3 := a0_ (hm3.ext (placeS l0 i)); have HO3 := a0_ (Kd.R_mapTurn (Kd.R_alloc HO.out _) (MapF.block (HM.out.alloc _)) hg3); have HB3 := a0_ (below_mapTurn (below_alloc HB.out _) hg3 (Nat.le_refl _) (below_size (below_alloc HB.out _))); clear hm3 hg3; obtain ⟨hx5, hf5⟩ := Kd.R_celln 0 HO3.out (i : Int) (by omega) (of_decide_eq_true c1); rw [Int.toNat_natCast] at hx5 hf5; have HP3 := Kd.R_putg HO3.out (i : Int) (-1); rw [Int.toNat_natCast] at HP3) | ((with_reducible refine gate_store (t := 2) (p := 32) rfl ?_); refine store_event (t := 2) (p := 32) (v := ?vo_) (w1 := (w3.setCell ⟨g, i, none⟩ (.int .i64 (-1)))) ?hg ?ho ?hn ?hr ?_; (case ho => rfl); (case hg => rfl); (case hn => rfl); (case hr => first | (go_simp; done) | (go_simp; rfl)); intro w4 hw; have hg4 : w3.grownBy w4 (some g) := (by rw [hw]; exact HP3.2); have HM4 := a0_ (HM3.out.cellTurn (Kd.R_typed HO3.out g rfl |>.elim fun c hc => ⟨c, _, _, hc⟩) hg4); have HO4 := a0_ (by rw [hw]; exact HP3.1 : Kd.R (Kd.int .i64) 2 w4 w.heap.size (fun _ => True) (.slice (some ⟨g, 0, none⟩) l0.length cap) ((List.replicate i (-1) ++ List.replicate (l0.length - i) 0).set i (-1))); have HB4 := a0_ (by rw [hw]; exact below_set HB3.out GB.out : Below w.heap.size w w4); clear hw HP3 hg4))
   go_roundg k1
   case measure => omega
   case rel => exact ⟨i + 1, by rw [wrapS i (by have := HI.out; have := HL.out; omega)], ⟨by have := HI.out; omega⟩, HM4, ⟨by have h := HO4.out; rw [fillS i l0.length (by have := HI.out; omega)] at h; exact h⟩, HB4⟩
  | zero =>
   obtain rfl : i = l0.length := by have := HI.out; omega
   have c1 : decide ((l0.length : Int) < (l0.length : Int)) = false := decide_eq_false (by omega)
   rw [Nat.sub_self, List.replicate_zero, List.append_nil] at HO
   go_wp2
   clear HI c1
   go_loopg [36] k (fun kq v36 w' => ∃ (out : List Int) (i : Int), v36 = .int .i64 i ∧ Aside0 (impl_parts.l1 kq l0 out i = some r) ∧ Aside0 (kq ≤ k) ∧ Aside0 (MapF Tryz.prog 60 enc2 w' w.heap.size l0.length (placeF l0 l0.length)) ∧ Aside0 (Kd.R (Kd.int .i64) 2 w' w.heap.size (fun _ => True) (.slice (some ⟨g, 0, none⟩) l0.length cap) out) ∧ Aside0 (Below w.heap.size w w'))
   case atStart => exact ⟨_, 0, rfl, H', ⟨Nat.le_refl _⟩, HM, HO, HB⟩
   case round =>
    clear H' HM HO HB
    obtain ⟨out, i, rfl, HA, HK1, HM, HO, HB⟩ := hrel
    cases gk with
    | zero => exact absurd HA.out (by simp [impl_parts.l1])
    | succ k1 =>
     have H := HA.out
     clear HA
     simp only [impl_parts.l1] at H
     by_cases c : i < (l0.length : Int)
     ·rw [if_pos c] at H
      have c0 : decide (i < (l0.length : Int)) = true := decide_eq_true c
      by_cases d : 0 ≤ i
      ·rw [if_pos d] at H
       obtain ⟨hx, hf⟩ := Kd.R_celln 0 HO.out i d c
       replace hx : wr.cell? ⟨g, i.toNat, none⟩ = some (.int .i64 (rd out i)) := hx
       by_cases e : rd out i ≥ 0
       ·rw [if_pos e] at H
        have e0 : decide (0 ≤ rd out i) = true := decide_eq_true e
        have H' := Aside0.mk H
        replace c := eq_true c
        replace d := eq_true d
        clear H e
        go_wp2
        go_roundg k1
        case measure => have := HK1.out; omega
        case rel => exact ⟨out, wrap64 (i + 1), rfl, H', ⟨by have := HK1.out; omega⟩, HM, HO, HB⟩
       ·rw [if_neg e] at H
        have e0 : decide (0 ≤ rd out i) = false := decide_eq_false e
        have H' := Aside0.mk H
        have HP3 := Kd.R_putg HO.out i i
        replace c := eq_true c
        replace d := eq_true d
        clear H e
        have HMc := HM
        have HOc := HO
        have HBc := HB
        go_wp2_with (first | ((with_reducible refine gate_store (t := 2) (p := 47) rfl ?_); refine store_event (t := 2) (p := 47) (v := ?vo_47) (w1 := (wr.setCell ⟨g, (i : Int).toNat, none⟩ (.int .i64 i))) ?hg ?ho ?hn ?hr ?_; (case ho => rfl); (case hg => rfl); (case hn => rfl); (case hr => first | (go_simp; done) | (go_simp; rfl)); intro w4 hw; have hg4 : World.grownBy _ w4 (some g) := (by rw [hw]; exact HP3.2); have nM := a0_ (HMc.out.cellTurn (Kd.R_typed HOc.out g rfl |>.elim fun c hc => ⟨c, _, _, hc⟩) hg4); have nO := a0_ (by rw [hw]; exact HP3.1 : Kd.R (Kd.int .i64) 2 w4 w.heap.size (fun _ => True) (.slice (some ⟨g, 0, none⟩) l0.length cap) (out.set i.toNat i)); have nB := a0_ (by rw [hw]; exact below_set HBc.out GB.out : Below w.heap.size w w4); clear hw HP3; clear hg4) | ((with_reducible refine gate_dst (N := 49) rfl ?_); refine Kd.R_lit (Kd.int .i64) _ 3 ?hg (N := 49) ?hd (xs := ([i] : List Int)) (inner := [.int .i64 i]) (ok := fun _ => True) (okp := fun _ => True) ?hr ?hp (fun _ hk => hk) trivial (Below.refl _ _) (Nat.le_refl _) (by simp) ?_; (case hd => rfl); (case hg => rfl); (case hr => first | (go_simp; done) | (go_simp; rfl)); (case hp => exact (Reps.one (show Kd.M (Kd.int .i64) _ _ _ i [.int .i64 i] from rfl) (Reps.none _ _))); intro vl w5 ho5 hb5 hg5 hn5; have HM5 := a0_ (nM.out.below' hb5); have HO5 := a0_ (Kd.R_below nO.out hb5); have HL5 := a0_ (Kd.R_lower ho5 (below_size nB.out)); have HB5 := a0_ (below_step nB.out hb5); clear ho5 hb5 hg5 hn5))
        clear HMc HOc HBc nM nO nB HM HO HB hx hf c0 c d e0
        go_loopg [10, 11] k1 (fun kq v10 v11 w' => ∃ (out list : List Int) (t : Int), v11 = .int .i64 t ∧ Aside0 (impl_parts.l2 kq l0 out i list t = some r) ∧ Aside0 (kq ≤ k1) ∧ Aside0 (MapF Tryz.prog 60 enc2 w' w.heap.size l0.length (placeF l0 l0.length)) ∧ Aside0 (Kd.R (Kd.int .i64) 2 w' w.heap.size (fun _ => True) (.slice (some ⟨g, 0, none⟩) l0.length cap) out) ∧ Aside0 (Kd.R (Kd.int .i64) 3 w' w.heap.size (fun _ => True) v10 list) ∧ Aside0 (Below w.heap.size w w'))
        case atStart => exact ⟨_, _, 0, rfl, H', ⟨Nat.le_refl _⟩, HM5, HO5, HL5, HB5⟩
        case round =>
         clear H' HM5 HO5 HL5 HB5
         obtain ⟨out, list, t, rfl, HA, HK2, HM, HO, HQ, HB⟩ := hrel
         cases gk with
         | zero => exact absurd HA.out (by simp [impl_parts.l2])
         | succ k2 =>
          have H := HA.out
          clear HA
          simp only [impl_parts.l2] at H
          obtain ⟨Al, cl, el⟩ := Kd.R_slice HQ.out
          subst el
          by_cases c : t < (list.length : Int)
          ·rw [if_pos c] at H
           have c0 : decide (t < (list.length : Int)) = true := decide_eq_true c
           by_cases d : (0 ≤ t ∧ 0 ≤ rd list t) ∧ rd list t < (l0.length : Int)
           ·rw [if_pos d] at H
            obtain ⟨⟨d0, d1⟩, d2⟩ := d
            obtain ⟨ds, hA, H⟩ := Option.bind_eq_some_iff.1 H
            have A' := Aside0.mk hA
            have H' := Aside0.mk H
            clear H hA
            obtain ⟨adl, e1, hxl⟩ := Kd.at_int (Kd.R_reads' HQ.out).2.2 t d0 c
            cases e1
            obtain ⟨ad, e2, hx0, hx1⟩ := at_T60 HR0.out (rd list t) d1 d2
            cases e2
            replace hx0 := (HB.out.cell (World.block_lt_of_cell? w _ hx0)).trans hx0
            replace hx1 := (HB.out.cell (World.block_lt_of_cell? w _ hx1)).trans hx1
            replace c := eq_true c
            replace d0 := eq_true d0
            replace d1 := eq_true d1
            replace d2 := eq_true d2
            go_wp2_with (first | (go_at_call 27; refine (impl_around.calls _ _ ds _ A'.out).mono ?_; rintro e w5 ⟨vd, rfl, hod, hb5⟩; obtain ⟨Ad, cd, ed⟩ := Kd.R_slice hod; subst ed; have HD5 := a0_ (Kd.R_lower hod (below_size HB.out)); have HM5 := a0_ (HM.out.below' hb5); have HO5 := a0_ (Kd.R_below HO.out hb5); have HQ5 := a0_ (Kd.R_below HQ.out hb5); have HB5 := a0_ (below_step HB.out hb5); clear hod hb5))
            clear HM HO HQ HB hx0 hx1 hxl c c0 d0 d1 d2
            go_loopg [10, 66] k2 (fun kq v10 v66 w' => ∃ (out list : List Int) (j : Int), v66 = .int .i64 j ∧ Aside0 (impl_parts.l3 kq l0 out i list t ds j = some r) ∧ Aside0 (kq ≤ k2) ∧ Aside0 (MapF Tryz.prog 60 enc2 w' w.heap.size l0.length (placeF l0 l0.length)) ∧ Aside0 (Kd.R (Kd.int .i64) 2 w' w.heap.size (fun _ => True) (.slice (some ⟨g, 0, none⟩) l0.length cap) out) ∧ Aside0 (Kd.R (Kd.int .i64) 3 w' w.heap.size (fun _ => True) v10 list) ∧ Aside0 (Kd.R k60 60 w' w.heap.size (fun _ => True) (.slice Ad ds.length cd) ds) ∧ Aside0 (Below w.heap.size w w'))
            case atStart => exact ⟨_, _, 0, rfl, H', ⟨Nat.le_refl _⟩, HM5, HO5, HQ5, HD5, HB5⟩
            case round =>
             clear H' HM5 HO5 HQ5 HD5 HB5 A'
             obtain ⟨out, list, j, rfl, HA, HK3, HM, HO, HQ, HD, HB⟩ := hrel
             cases gk with
             | zero => exact absurd HA.out (by simp [impl_parts.l3])
             | succ k3 =>
              have H := HA.out
              clear HA
              simp only [impl_parts.l3] at H
              by_cases c : j < (ds.length : Int)
              ·rw [if_pos c] at H
               have c0 : decide (j < (ds.length : Int)) = true := decide_eq_true c
               by_cases d : 0 ≤ j ∧ okc (rd_T60 ds j)
               ·rw [if_pos d] at H
                obtain ⟨d0, d1⟩ := d
                have KC := Aside0.mk d1
                clear d1
                obtain ⟨ad, e2, hx0, hx1⟩ := at_T60 (Kd.R_reads' HD.out).2.2 j d0 c
                cases e2
                replace c := eq_true c
                replace d0 := eq_true d0
                cases hq : atCell l0 l0.length (cellKey (rd_T60 ds j)) with
                | none =>
                 rw [hq] at H
                 have H' := Aside0.mk H
                 clear H
                 go_wp2_with (first | (at_lookup; refine wpList_lookF rfl _ _ 84 rfl 60 3 cellLaid Tryz.underlying84 (mapZ _) enc2 w.heap.size l0.length (placeF l0 l0.length) rfl (HM.out.alloc _) (cellKey (rd_T60 ds j)) rfl (cellKeyed _ KC.out) none (by unfold placeF; rw [hq]; rfl) (.int .i64 0) false rfl rfl ?_))
                 go_roundg k3
                 case measure => have := HK1.out; have := HK2.out; have := HK3.out; omega
                 case rel => exact ⟨out, list, wrap64 (j + 1), rfl, H', ⟨by have := HK3.out; omega⟩, HM.out.alloc _ |> Aside0.mk, ⟨Kd.R_alloc HO.out _⟩, ⟨Kd.R_alloc HQ.out _⟩, ⟨Kd.R_alloc HD.out _⟩, ⟨below_alloc HB.out _⟩⟩
                | some q =>
                 rw [hq] at H
                 simp only at H
                 by_cases e : 0 ≤ q ∧ q < (l0.length : Int)
                 ·rw [if_pos e] at H
                  obtain ⟨e0, e1⟩ := e
                  obtain ⟨hy, hf⟩ := Kd.R_celln 0 (Kd.R_alloc HO.out (.cells #[.int .i64 (rd_T60 ds j).f0, .int .i64 (rd_T60 ds j).f1] 60)) q e0 e1
                  replace hy : World.cell? _ ⟨g, q.toNat, none⟩ = some (.int .i64 (rd out q)) := hy
                  have HP3 := Kd.R_putg (Kd.R_alloc HO.out (.cells #[.int .i64 (rd_T60 ds j).f0, .int .i64 (rd_T60 ds j).f1] 60)) q i
                  have e0b := decide_eq_true e0
                  have e1b := decide_eq_true e1
                  replace e0 := eq_true e0
                  replace e1 := eq_true e1
                  by_cases f : rd out q < 0
                  ·rw [if_pos f] at H
                   have f0 : decide (rd out q < 0) = true := decide_eq_true f
                   by_cases b : list.length < 17592186044416
                   ·rw [if_pos b] at H
                    have H' := Aside0.mk H
                    have LB := Aside0.mk b
                    clear H b
                    have HMc := a0_ (HM.out.alloc (.cells #[.int .i64 (rd_T60 ds j).f0, .int .i64 (rd_T60 ds j).f1] 60))
                    have HOc := a0_ (Kd.R_alloc HO.out (.cells #[.int .i64 (rd_T60 ds j).f0, .int .i64 (rd_T60 ds j).f1] 60))
                    have HBc := a0_ (below_alloc HB.out (.cells #[.int .i64 (rd_T60 ds j).f0, .int .i64 (rd_T60 ds j).f1] 60))
                    have HQc := a0_ (Kd.R_alloc HQ.out (.cells #[.int .i64 (rd_T60 ds j).f0, .int .i64 (rd_T60 ds j).f1] 60))
                    have HDc := a0_ (Kd.R_alloc HD.out (.cells #[.int .i64 (rd_T60 ds j).f0, .int .i64 (rd_T60 ds j).f1] 60))
                    go_wp2_with (first | (at_lookup; refine wpList_lookF rfl _ _ 84 rfl 60 3 cellLaid Tryz.underlying84 (mapZ _) enc2 w.heap.size l0.length (placeF l0 l0.length) rfl (HM.out.alloc _) (cellKey (rd_T60 ds j)) rfl (cellKeyed _ KC.out) (some (.int .i64 q)) (by unfold placeF; rw [hq]; rfl) (.int .i64 q) true rfl rfl ?_) | ((with_reducible refine gate_store (t := 2) (p := 87) rfl ?_); refine store_event (t := 2) (p := 87) (v := ?vo_87) (w1 := ((wr.alloc (.cells #[.int .i64 (rd_T60 ds j).f0, .int .i64 (rd_T60 ds j).f1] 60)).setCell ⟨g, (q : Int).toNat, none⟩ (.int .i64 i))) ?hg ?ho ?hn ?hr ?_; (case ho => rfl); (case hg => rfl); (case hn => rfl); (case hr => first | (go_simp; done) | (go_simp; rfl)); intro w6 hw; have hg4 : World.grownBy _ w6 (some g) := (by rw [hw]; exact HP3.2); have nM := a0_ (HMc.out.cellTurn (Kd.R_typed HOc.out g rfl |>.elim fun c hc => ⟨c, _, _, hc⟩) hg4); have nO := a0_ (by rw [hw]; exact HP3.1 : Kd.R (Kd.int .i64) 2 w6 w.heap.size (fun _ => True) (.slice (some ⟨g, 0, none⟩) l0.length cap) (out.set q.toNat i)); have nB := a0_ (by rw [hw]; exact below_set HBc.out GB.out : Below w.heap.size w w6); have nQ := a0_ (Kd.R_over' (v := (.slice (some ⟨g, 0, none⟩) l0.length cap)) HQc.out (Kd.R_typed HOc.out) (by decide) hg4); have nD := a0_ (Kd.R_over' (v := (.slice (some ⟨g, 0, none⟩) l0.length cap)) HDc.out (Kd.R_typed HOc.out) (by decide) hg4); clear hw HP3; clear hg4) | ((with_reducible refine gate_builtin (b := .append) (xs := #[.tmp 88, .tmp 90]) rfl ?_); at_builtin; refine Kd.R_append (Kd.int .i64) (w0 := w) w.heap.size rfl (.tmp 88) (.tmp 90) 85 3 (.int .i64 0) 8 rfl Tryz.underlying85 info8i rfl (by decide) (by omega) u10 list q [.int .i64 q] (fun _ => True) (fun _ => False) rfl (by first | (go_simp; done) | (go_simp; rfl)) ?aP (fun _ hk => hk.elim) ?aF ?aO ?aB ?aS ?aL ?_; (case aP => exact rfl); (case aB => exact nB.out); (case aF => exact (fun _ _ => trivial)); (case aO => exact nQ.out); (case aS => exact below_size nB.out); (case aL => have := LB.out; omega); intro v7 w7 ho hb hg hat; have HM7 := a0_ (nM.out.rowTurn nQ.out hg); have HO7 := a0_ (Kd.R_over' nO.out (Kd.R_typed nQ.out) (by decide) hg); have HD7 := a0_ (Kd.R_over' nD.out (Kd.R_typed nQ.out) (by decide) hg); have HQ7 := Aside0.mk ho; have HB7 := Aside0.mk hb; clear ho hb hg hat))
                    go_roundg k3
                    case measure => have := HK1.out; have := HK2.out; have := HK3.out; omega
                    case rel => exact ⟨_, _, wrap64 (j + 1), rfl, H', ⟨by have := HK3.out; omega⟩, HM7, HO7, HQ7, HD7, HB7⟩
                   ·rw [if_neg b] at H
                    exact absurd H (by simp)
                  ·rw [if_neg f] at H
                   have f0 : decide (rd out q < 0) = false := decide_eq_false f
                   have H' := Aside0.mk H
                   clear H HP3
                   go_wp2_with (first | (at_lookup; refine wpList_lookF rfl _ _ 84 rfl 60 3 cellLaid Tryz.underlying84 (mapZ _) enc2 w.heap.size l0.length (placeF l0 l0.length) rfl (HM.out.alloc _) (cellKey (rd_T60 ds j)) rfl (cellKeyed _ KC.out) (some (.int .i64 q)) (by unfold placeF; rw [hq]; rfl) (.int .i64 q) true rfl rfl ?_))
                   go_roundg k3
                   case measure => have := HK1.out; have := HK2.out; have := HK3.out; omega
                   case rel => exact ⟨out, list, wrap64 (j + 1), rfl, H', ⟨by have := HK3.out; omega⟩, HM.out.alloc _ |> Aside0.mk, ⟨Kd.R_alloc HO.out _⟩, ⟨Kd.R_alloc HQ.out _⟩, ⟨Kd.R_alloc HD.out _⟩, ⟨below_alloc HB.out _⟩⟩
                 ·rw [if_neg e] at H
                  exact absurd H (by simp)
               ·rw [if_neg d] at H
                exact absurd H (by simp)
              ·rw [if_neg c] at H
               have c0 : decide (j < (ds.length : Int)) = false := decide_eq_false c
               have H' := Aside0.mk H
               clear H c
               go_wp2
               go_roundg k3
               case measure => have := HK1.out; have := HK2.out; have := HK3.out; omega
               case rel => exact ⟨out, list, wrap64 (t + 1), rfl, H', ⟨by have := HK2.out; have := HK3.out; omega⟩, HM, HO, HQ, HB⟩
           ·rw [if_neg d] at H
            exact absurd H (by simp)
          ·rw [if_neg c] at H
           have c0 : decide (t < (list.length : Int)) = false := decide_eq_false c
           have H' := Aside0.mk H
           clear H c
           go_wp2
           go_roundg k2
           case measure => have := HK1.out; have := HK2.out; omega
           case rel => exact ⟨out, wrap64 (i + 1), rfl, H', ⟨by have := HK1.out; have := HK2.out; omega⟩, HM, HO, HB⟩
      ·rw [if_neg d] at H
       exact absurd H (by simp)
     ·rw [if_neg c] at H
      have c0 : decide (i < (l0.length : Int)) = false := decide_eq_false c
      obtain rfl := Option.some.inj H
      clear H c
      go_wp2
      go_ret
      exact ⟨_, rfl, HO.out, HB.out⟩
theorem impl_parts.mono_l : ∀ k, (∀ l out i, LeO (impl_parts.l1 k l out i) (impl_parts.l1 (k + 1) l out i)) ∧ (∀ l out i list t, LeO (impl_parts.l2 k l out i list t) (impl_parts.l2 (k + 1) l out i list t)) ∧ (∀ l out i list t ds j, LeO (impl_parts.l3 k l out i list t ds j) (impl_parts.l3 (k + 1) l out i list t ds j))
 | 0 => ⟨fun _ _ _ r h => by simp [impl_parts.l1] at h, fun _ _ _ _ _ r h => by simp [impl_parts.l2] at h, fun _ _ _ _ _ _ _ r h => by simp [impl_parts.l3] at h⟩
 | k + 1 => by
  obtain ⟨i1, i2, i3⟩ := impl_parts.mono_l k
  refine ⟨fun l out i => ?_, fun l out i list t => ?_, fun l out i list t ds j => ?_⟩
  ·unfold impl_parts.l1
   exact LeO.ite (LeO.ite (LeO.ite (i1 _ _ _) (i2 _ _ _ _ _)) (LeO.none _)) (LeO.refl _)
  ·unfold impl_parts.l2
   exact LeO.ite (LeO.ite (LeO.bind (LeO.refl _) (fun ds => i3 _ _ _ _ _ _ _)) (LeO.none _)) (i1 _ _ _)
  ·unfold impl_parts.l3
   refine LeO.ite (LeO.ite ?_ (LeO.none _)) (i2 _ _ _ _ _)
   cases atCell l l.length (cellKey (rd_T60 ds j)) with
   | none => exact i3 _ _ _ _ _ _ _
   | some q => exact LeO.ite (LeO.ite (LeO.ite (i3 _ _ _ _ _ _ _) (LeO.none _)) (i3 _ _ _ _ _ _ _)) (LeO.none _)


/-! ### impl_connected: function 26 -/
/-! Whether the cells hang together. -/
def impl_connected.f (k : Nat) (l : List S60) : Option Bool := (impl_parts.f k l).bind fun o => (slices_Max_int64_int64.f k o).bind fun m => if m = 0 then some true else some false
theorem impl_connected.mono (l0 : List S60) (k : Nat) : LeO (impl_connected.f k l0) (impl_connected.f (k + 1) l0) := by
 unfold impl_connected.f
 refine LeO.bind ?_ (fun o => LeO.bind (slices_Max_int64_int64.mono o k) (fun m => LeO.refl _))
 unfold impl_parts.f
 exact LeO.ite ((impl_parts.mono_l k).1 _ _ _) (LeO.refl _)
set_option maxHeartbeats 1000000 in
theorem impl_connected.calls (k : Nat) (A0 : Option Addr) (c0 : Nat) (l0 : List S60) (r : Bool) (w : World) (hr0 : Kd.C k60 w A0 l0.length l0) (hc0 : l0.length ≤ c0) (h : impl_connected.f k l0 = some r) :
  Calls Tryz.prog 26 #[.slice A0 l0.length c0, .func (.func 27) #[] #[]] w fun e w' => e = .returned (.bool r) ∧ Below w.heap.size w w' := by
 unfold impl_connected.f at h
 obtain ⟨o, ho, h⟩ := Option.bind_eq_some_iff.1 h
 obtain ⟨m, hm, h⟩ := Option.bind_eq_some_iff.1 h
 have HP := a0_ (impl_parts.calls k A0 c0 l0 o w hr0 hc0 ho)
 have HM := Aside0.mk hm
 clear ho hm hr0 hc0
 have hd : (m == 0) = r := by
  by_cases c : m = 0
  ·rw [if_pos c] at h
   rw [← Option.some.inj h]
   simp [c]
  ·rw [if_neg c] at h
   rw [← Option.some.inj h]
   simp [c]
 clear h
 go_enter Tryz.func26, Tryz.ntmps26
 go_wp2_with (first | (go_at_call 49; refine HP.out.mono ?_; rintro e w1 ⟨v, rfl, ho, hb⟩; obtain ⟨Ao, co, eo⟩ := Kd.R_slice ho; subst eo; have HO := Aside0.mk ho; have HB := Aside0.mk hb; clear ho hb) | (go_at_call 48; refine (slices_Max_int64_int64.calls k _ _ o m _ (Kd.R_reads' HO.out).2.2 (Kd.R_reads' HO.out).2.1 HM.out).mono ?_; rintro e w2 ⟨rfl, hb2⟩; have HB2 := a0_ (below_step HB.out hb2); clear hb2))
 go_ret
 exact ⟨by rw [← hd]; rfl, HB2.out⟩


/-! ### impl_IsPiece: function 12 -/
/-! Whether a piece is valid. -/
def impl_IsPiece.f (k : Nat) (l0 : List S60) (a1 : Int) (_a2 : Bool) : Option Bool := (impl_IsRegion.f k l0).bind fun t => if t = true then (impl_connected.f k l0).bind fun c => if c = true then impl_within.f a1 1 8 else some false else some false
theorem impl_IsPiece.mono : ∀ l0 a1 a2 k, LeO (impl_IsPiece.f k l0 a1 a2) (impl_IsPiece.f (k + 1) l0 a1 a2) := by
 intro l0 a1 a2 k
 unfold impl_IsPiece.f
 exact LeO.bind (impl_IsRegion.mono l0 k) (fun t => LeO.ite (LeO.bind (impl_connected.mono l0 k) (fun c => LeO.refl _)) (LeO.refl _))
set_option maxHeartbeats 4000000 in
theorem impl_IsPiece.calls (k : Nat) (A0 : Option Addr) (c0 : Nat) (l0 : List S60) (a1 : Int) (a2 : Bool) (r : Bool) (w : World) (hr0 : Kd.C k60 w A0 l0.length l0) (hc0 : l0.length ≤ c0) (h : impl_IsPiece.f k l0 a1 a2 = some r) :
  Calls Tryz.prog 12 #[.agg #[.slice A0 l0.length c0, .int .i64 a1, .bool a2]] w fun e w' => e = .returned (.bool r) ∧ Below w.heap.size w w' := by
 obtain ⟨t, ht, h2⟩ := Option.bind_eq_some_iff.mp h
 have hR := fun W (hb : Below w.heap.size w W) => impl_IsRegion.calls k A0 c0 l0 t W (Kd.C_below hr0 hb) hc0 ht
 have HW := a0_ (below_alloc (Below.refl w.heap.size w) (.cells #[.slice A0 l0.length c0, .int .i64 a1, .bool a2] 26))
 have q0 : (w.alloc (.cells #[.slice A0 l0.length c0, .int .i64 a1, .bool a2] 26)).cell? ⟨w.heap.size, 0, none⟩ = some (.slice A0 l0.length c0) := by first | go_simp | simp [World.cell?, World.alloc]
 have q1 : (w.alloc (.cells #[.slice A0 l0.length c0, .int .i64 a1, .bool a2] 26)).cell? ⟨w.heap.size, 1, none⟩ = some (.int .i64 a1) := by first | go_simp | simp [World.cell?, World.alloc]
 have Q0 := Aside0.mk q0
 have Q1 := Aside0.mk q1
 clear q0 q1
 clear h ht
 cases t with
 | false =>
  have e := Option.some.inj (h2.symm.trans (if_neg (by simp)))
  subst e
  clear h2 hr0 hc0
  go_enter Tryz.func12, Tryz.ntmps12
  go_wp2_with (go_at_call 25; refine (hR _ HW.out).mono ?_; rintro e w1 ⟨rfl, hb⟩; have HB := a0_ (below_step HW.out hb); clear hb)
  go_ret
  exact ⟨rfl, HB.out⟩
 | true =>
  replace h2 := (if_pos rfl).symm.trans h2
  obtain ⟨c, hc, h3⟩ := Option.bind_eq_some_iff.mp h2
  have hC := fun W (hb : Below w.heap.size w W) => impl_connected.calls k A0 c0 l0 c W (Kd.C_below hr0 hb) hc0 hc
  clear h2 hc hr0 hc0
  cases c with
  | false =>
   have e := Option.some.inj (h3.symm.trans (if_neg (by simp)))
   subst e
   clear h3
   go_enter Tryz.func12, Tryz.ntmps12
   go_wp2_with (first | (go_at_call 25; refine (hR _ HW.out).mono ?_; rintro e w1 ⟨rfl, hb⟩; have HB := a0_ (below_step HW.out hb); have p0 := pw_cell_below hb Q0.out; have P1 := a0_ (pw_cell_below hb Q1.out); clear hb) | (go_at_call 26; refine (hC _ HB.out).mono ?_; rintro e w2 ⟨rfl, hb⟩; have HB2 := a0_ (below_step HB.out hb); have p1 := pw_cell_below hb P1.out; clear hb p0))
   go_ret
   exact ⟨rfl, HB2.out⟩
  | true =>
   have hw := fun W => impl_within.calls a1 1 8 r W ((if_pos rfl).symm.trans h3)
   clear h3
   go_enter Tryz.func12, Tryz.ntmps12
   go_wp2_with (first | (go_at_call 25; refine (hR _ HW.out).mono ?_; rintro e w1 ⟨rfl, hb⟩; have HB := a0_ (below_step HW.out hb); have p0 := pw_cell_below hb Q0.out; have P1 := a0_ (pw_cell_below hb Q1.out); clear hb) | (go_at_call 26; refine (hC _ HB.out).mono ?_; rintro e w2 ⟨rfl, hb⟩; have HB2 := a0_ (below_step HB.out hb); have p1 := pw_cell_below hb P1.out; clear hb p0) | (go_at_call 28; refine (hw _).mono ?_; rintro e w3 ⟨rfl, ⟨nd, rfl⟩⟩))
   go_ret
   exact ⟨rfl, by (with_reducible first | exact HB2.out | (apply pw_below_drewN; exact HB2.out))⟩


end Go.Proofs.YtaaodakmelihaaaGreat.PFnPieces
