/- Over the kit's printer by a driver of mine (hprint.py), with parts by hand: functions of the program as Lean functions, and that each call comes to exactly these answers. -/
import Derived.Test.YtopceddgiddhlaaDoorPFnRolledx0
import Derived.Test.YtopceddgiddhlaaDoorPFnRolledx2
import Derived.Test.YtopceddgiddhlaaDoorPFnRolledx4
namespace Go.Proofs.YtopceddgiddhlaaDoor.PFnRolled
open Go.RowKit Go.Proofs.YtopceddgiddhlaaDoorW.PrintWords Go.Proofs.YtopceddgiddhlaaDoorW.PrintLast Go.Proofs.YtopceddgiddhlaaDoorW.PrintMore
attribute [local go_sem] max2_int min2_int max_two min_two max_three min_three max_four min_four   -- for this text's walks alone
set_option linter.unusedVariables false
set_option linter.unusedSimpArgs false

attribute [local go_sem high] eqA78
/-! ### spec_l23Word: function 94 -/
def spec_l23Word.l0 : Nat → List (S78) → List Int → Int → Int → Int → Int → Int → Option (ByteArray)
 | 0, _, _, _, _, _, _, _ => none
 | k + 1, x0, x3, x6, x287000, x287001, x288000, x288001 => if 0 ≤ x6 then (if x6 < 4 then (if x3.length < 140737488355328 then ((some (x3 ++ [bt (⟨#[114, 100, 108, 117]⟩ : ByteArray) x6] : List Int)).bind fun y288 => ((some (([(⟨1, 0⟩ : S78), (⟨0, 1⟩ : S78), (⟨(-1), 0⟩ : S78), (⟨0, (-1)⟩ : S78)] : List (S78)) : List (S78))).bind fun y291 => (if x6 < (y291.length : Int) then (if ((wrap64 (x288000 + ((rd_T78 y291 x6).f0))) == x287000 && ((wrap64 (x288001 + ((rd_T78 y291 x6).f1))) == x287001)) = true then (some (strOfNums y288)) else ((some (([(⟨wrap64 (x288000 + ((rd_T78 y291 x6).f0)), wrap64 ((wrap64 (x288001 + ((rd_T78 y291 x6).f1))) - 1)⟩ : S78), (⟨wrap64 (x288000 + ((rd_T78 y291 x6).f0)), wrap64 (x288001 + ((rd_T78 y291 x6).f1))⟩ : S78), (⟨wrap64 ((wrap64 (x288000 + ((rd_T78 y291 x6).f0))) - 1), wrap64 (x288001 + ((rd_T78 y291 x6).f1))⟩ : S78), (⟨wrap64 ((wrap64 (x288000 + ((rd_T78 y291 x6).f0))) - 1), wrap64 ((wrap64 (x288001 + ((rd_T78 y291 x6).f1))) - 1)⟩ : S78)] : List (S78)) : List (S78))).bind fun y296 => (if x6 < (y296.length : Int) then (if 0 ≤ (Int.tmod (wrap64 (x6 + 1)) 4) then (if (Int.tmod (wrap64 (x6 + 1)) 4) < (y296.length : Int) then ((spec_l02Index.f k x0 ((rd_T78 y296 x6).f0) ((rd_T78 y296 x6).f1)).bind fun t303 => (if t303 ≥ 0 then (spec_l23Word.l0 k x0 y288 (Int.tmod (wrap64 (x6 + 3)) 4) x287000 x287001 (wrap64 (x288000 + ((rd_T78 y291 x6).f0))) (wrap64 (x288001 + ((rd_T78 y291 x6).f1)))) else ((spec_l02Index.f k x0 ((rd_T78 y296 (Int.tmod (wrap64 (x6 + 1)) 4)).f0) ((rd_T78 y296 (Int.tmod (wrap64 (x6 + 1)) 4)).f1)).bind fun t304 => (if t304 < 0 then (spec_l23Word.l0 k x0 y288 (Int.tmod (wrap64 (x6 + 1)) 4) x287000 x287001 (wrap64 (x288000 + ((rd_T78 y291 x6).f0))) (wrap64 (x288001 + ((rd_T78 y291 x6).f1)))) else (spec_l23Word.l0 k x0 y288 x6 x287000 x287001 (wrap64 (x288000 + ((rd_T78 y291 x6).f0))) (wrap64 (x288001 + ((rd_T78 y291 x6).f1)))))))) else (none)) else (none)) else (none)))) else (none)))) else (none)) else (none)) else (none)
def spec_l23Word.f (k : Nat) (l0 : List (S78)) : Option (ByteArray) := if 0 < (l0.length : Int) then (spec_l23Word.l0 k l0 (([] : List Int)) 0 ((rd_T78 l0 0).f0) ((rd_T78 l0 0).f1) ((rd_T78 l0 0).f0) ((rd_T78 l0 0).f1)) else (none)
theorem spec_l23Word.mono_l : ∀ k, (∀ y0 y1 y2 y3 y4 y5 y6, LeO (spec_l23Word.l0 k y0 y1 y2 y3 y4 y5 y6) (spec_l23Word.l0 (k + 1) y0 y1 y2 y3 y4 y5 y6))
 | 0 => fun _ _ _ _ _ _ _ r h => by simp [spec_l23Word.l0] at h
 | k + 1 => by
  have ih0 := spec_l23Word.mono_l k
  ·intro y0 y1 y2 y3 y4 y5 y6
   unfold spec_l23Word.l0
   with_reducible (repeat' first | exact ih0 _ _ _ _ _ _ _ | exact spec_l02Index.mono _ _ _ _ | exact LeO.refl _ | exact LeO.none _ | refine LeO.ite ?_ ?_ | refine LeO.bind ?_ (fun _ => ?_))
theorem spec_l23Word.mono : ∀ a0 k, LeO (spec_l23Word.f k a0) (spec_l23Word.f (k + 1) a0) := by
 intro a0 k
 have ih0 := spec_l23Word.mono_l k
 unfold spec_l23Word.f
 with_reducible (repeat' first | exact ih0 _ _ _ _ _ _ _ | exact spec_l02Index.mono _ _ _ _ | exact LeO.refl _ | exact LeO.none _ | refine LeO.ite ?_ ?_ | refine LeO.bind ?_ (fun _ => ?_))
def spec_l23Word.T7 : Bool × List (List Nat × List Nat) := (true, [([], []), ([0], [0]), ([], []), ([], []), ([2, 3], [2, 3]), ([4], [4]), ([5], [5]), ([1, 6], [1, 6]), ([], []), ([8], [8]), ([], []), ([], []), ([10, 11], [10, 11]), ([12], [12]), ([13], [13]), ([9, 14], [9, 14]), ([7, 15], [7, 15]), ([16, 0, 1, 2, 3, 4, 5, 6, 7, 8, 9, 10, 11, 12, 13, 14, 15, 16], [16])])
def spec_l23Word.B7 : List Nat := [0, 1, 0, 0, 12, 28, 60, 127, 0, 256, 0, 0, 3072, 7168, 15360, 32512, 65535, 131071]
theorem spec_l23Word.tab7 : rtab .any (opsOf Tryd.f94 7) = spec_l23Word.T7 := by kernel_rfl
theorem spec_l23Word.bits7 : waitsOk spec_l23Word.T7.2 spec_l23Word.B7 = true := by kernel_rfl
def spec_l23Word.T11 : Bool × List (List Nat × List Nat) := (true, [([], []), ([], []), ([0, 1], [0, 1]), ([2], [2]), ([], []), ([], []), ([5], [5]), ([6], [6]), ([4, 7], [4, 7]), ([8], [8]), ([], []), ([], []), ([10, 3, 0, 1, 2, 3, 10, 11], [3, 10]), ([11, 9, 12, 0, 1, 2, 3, 4, 5, 6, 7, 8, 9, 10, 11, 12], [9, 11])])
def spec_l23Word.B11 : List Nat := [0, 0, 3, 7, 0, 0, 32, 96, 240, 496, 0, 0, 3087, 8191]
theorem spec_l23Word.tab11 : rtab .any (opsOf Tryd.f94 11) = spec_l23Word.T11 := by kernel_rfl
theorem spec_l23Word.bits11 : waitsOk spec_l23Word.T11.2 spec_l23Word.B11 = true := by kernel_rfl
set_option maxHeartbeats 8000000 in
set_option maxRecDepth 100000 in
theorem spec_l23Word.calls (k : Nat) (A0 : Option Addr) (c0 : Nat) (l0 : List (S78)) (r : ByteArray) (w : World) (hr0 : Kd.C k78 w A0 l0.length l0) (hc0 : l0.length ≤ c0) (h : spec_l23Word.f k l0 = some r) :
  Calls Tryd.prog 94 #[.slice A0 l0.length c0] w fun e w' => e = .returned (.string r) ∧ Below w.heap.size w w' := by
 have hu78 := Tryd.underlying78
 have HR0 := Aside0.mk hr0
 have HC0 := Aside0.mk hc0
 clear hr0 hc0
 have HB := a0_ (Below.refl w.heap.size w)
 have H := h
 clear h
 unfold spec_l23Word.f at H
 obtain ⟨y282, hy282⟩ : ∃ y_ : List Int, y_ = (([] : List Int)) := ⟨_, rfl⟩
 replace H : (if 0 < (l0.length : Int) then (spec_l23Word.l0 k l0 y282 0 ((rd_T78 l0 0).f0) ((rd_T78 l0 0).f1) ((rd_T78 l0 0).f0) ((rd_T78 l0 0).f1)) else (none)) = some r := hh_ hy282 H
 have Ny282 := Aside0.mk hy282
 clear hy282
 by_cases c2 : 0 < (l0.length : Int)
 ·rw [if_pos c2] at H
  have c2b0 : decide (0 < (l0.length : Int)) = true := decide_eq_true c2
  have c2b1 : decide (0 < l0.length) = true := decide_eq_true (by omega)
  clear c2
  have H' := Aside0.mk H
  clear H
  go_enter Tryd.func94, Tryd.ntmps94
  go_wp2_with (first | ((with_reducible refine gate_dst (N := 11) rfl ?_); refine Kd.R_lit (Kd.int .u8) _ 5 ?hg (N := 11) ?hd (xs := ([] : List Int)) (inner := []) (ok := fun _ => True) (okp := fun _ => True) ?hr ?hp (fun _ hk => hk) trivial (Below.refl _ _) (Nat.le_refl _) (by simp) ?_; (case hd => rfl); (case hg => rfl); (case hr => first | (go_simp; done) | (go_simp; rfl)); (case hp => exact (Reps.none _ _)); intro v283 w3 ho4 hb hg_ hnew_; clear hg_ hnew_; (first | rw [← Ny282.out] at ho4 | (simp only [Int.reduceToNat] at ho4; rw [← Ny282.out] at ho4)); have HO284 := a0_ (Kd.R_lower ho4 (below_size (bl0_))); replace HB := a0_ (below_step (bl0_) hb); clear hb ho4; have p285 : 0 ≤ (0 : Int) := (by omega); have q285 : 0 < (l0.length : Int) := od_; obtain ⟨ad285, e285, hx285_0, hx285_1⟩ := at_T78 HR0.out 0 p285 q285; cases e285; have qi285 : (0 < l0.length) = True := eq_true (by omega); (try rw [show ((0 : Int)).toNat = 0 from rfl] at hx285_0); (try rw [show 0 * 2 = 0 from rfl] at hx285_0); (try rw [Addr.add_zero'] at hx285_0); (try rw [show ((0 : Int)).toNat = 0 from rfl] at hx285_1); (try rw [show 0 * 2 = 0 from rfl] at hx285_1); (try rw [Addr.add_zero'] at hx285_1); replace hx285_0 := (HB.out.cell (World.block_lt_of_cell? w _ hx285_0)).trans hx285_0; replace hx285_1 := (HB.out.cell (World.block_lt_of_cell? w _ hx285_1)).trans hx285_1; replace p285 := eq_true p285; replace q285 := eq_true q285) | ((with_reducible refine gate_dst (N := 4) rfl ?_); refine bx_ (N := 4) (cs := #[.int .i64 0, .int .i64 0]) (t := 78) ?_; intro gb286 hg w5 hbox hb; replace HO284 := a0_ (Kd.R_below (ra_ HO284.out) hb); have BK286 := a0_ (hbox); have GW286 := a0_ ((sz_ hg (bl0_) : w.heap.size ≤ gb286)); have GE286 := a0_ ((sz_ hg (bl0_) : w.heap.size ≤ gb286)); replace HB := a0_ (below_step (bl0_) hb); clear hb hbox hg; obtain ⟨hcz6_0, hcz6_1, hfz6_0, hfz6_1⟩ := bc2_ BK286.out) | ((with_reducible refine gate_dst (N := 5) rfl ?_); refine bx_ (N := 5) (cs := #[.int .i64 0, .int .i64 0]) (t := 78) ?_; intro gb287 hg w7 hbox hb; replace HO284 := a0_ (Kd.R_below (by (with_reducible repeat (first | apply Kd.R_alloc | apply Kd.R_drewN | apply Kd.R_drew)); exact (Kd.R_mono (Kd.R_far (p := ⟨gb286, 1, none⟩) (Kd.R_far (p := ⟨gb286, 0, none⟩) (Kd.R_types HO284.out BK286.out (by decide)) (fun _ hk => hk.2) (.int .i64 ((rd_T78 l0 0).f0))) (fun _ hk => hk.2) (.int .i64 ((rd_T78 l0 0).f1))) (fun _ h_ => h_.1))) hb); have BK287 := a0_ (hbox); have GW287 := a0_ ((sz_ hg (bl1_ GE286.out) : w.heap.size ≤ gb287)); have GE287 := a0_ ((sz_ hg (bl1_ GE286.out) : w.heap.size ≤ gb287)); replace HB := a0_ (below_step (bl1_ GE286.out) hb); have NB286_287 := a0_ ((by rw [hg]; exact Nat.ne_of_lt (blk_lt (g := gb286) (o := .cells #[.int .i64 ((rd_T78 l0 0).f0), .int .i64 ((rd_T78 l0 0).f1)] 78 (0, 0)) (by (with_reducible repeat (first | refine blk_drewN ?_ _ | refine blk_drew ?_ | refine blk_alloc ?_ _)); refine blk_put (cs := #[.int .i64 ((rd_T78 l0 0).f0), .int .i64 0]) ?_ 1 _ rfl; (with_reducible repeat (first | refine blk_drewN ?_ _ | refine blk_drew ?_ | refine blk_alloc ?_ _)); refine blk_put (cs := #[.int .i64 0, .int .i64 0]) ?_ 0 _ rfl; (with_reducible repeat (first | refine blk_drewN ?_ _ | refine blk_drew ?_ | refine blk_alloc ?_ _)); exact BK286.out)) : gb286 ≠ gb287)); have NB287_286 := a0_ ((by rw [hg]; exact Nat.ne_of_gt (blk_lt (g := gb286) (o := .cells #[.int .i64 ((rd_T78 l0 0).f0), .int .i64 ((rd_T78 l0 0).f1)] 78 (0, 0)) (by (with_reducible repeat (first | refine blk_drewN ?_ _ | refine blk_drew ?_ | refine blk_alloc ?_ _)); refine blk_put (cs := #[.int .i64 ((rd_T78 l0 0).f0), .int .i64 0]) ?_ 1 _ rfl; (with_reducible repeat (first | refine blk_drewN ?_ _ | refine blk_drew ?_ | refine blk_alloc ?_ _)); refine blk_put (cs := #[.int .i64 0, .int .i64 0]) ?_ 0 _ rfl; (with_reducible repeat (first | refine blk_drewN ?_ _ | refine blk_drew ?_ | refine blk_alloc ?_ _)); exact BK286.out)) : gb287 ≠ gb286)); replace BK286 := a0_ (blk_below (g := gb286) (o := .cells #[.int .i64 ((rd_T78 l0 0).f0), .int .i64 ((rd_T78 l0 0).f1)] 78 (0, 0)) (by (with_reducible repeat (first | refine blk_drewN ?_ _ | refine blk_drew ?_ | refine blk_alloc ?_ _)); refine blk_put (cs := #[.int .i64 ((rd_T78 l0 0).f0), .int .i64 0]) ?_ 1 _ rfl; (with_reducible repeat (first | refine blk_drewN ?_ _ | refine blk_drew ?_ | refine blk_alloc ?_ _)); refine blk_put (cs := #[.int .i64 0, .int .i64 0]) ?_ 0 _ rfl; (with_reducible repeat (first | refine blk_drewN ?_ _ | refine blk_drew ?_ | refine blk_alloc ?_ _)); exact BK286.out) hb); clear hb hbox hg; have hnb8 := NB287_286.out; have hnc8 := NB286_287.out; obtain ⟨hcz9_0, hcz9_1, hfz9_0, hfz9_1⟩ := bc2_ BK287.out))
  go_loopg [3, 6] k (fun kq v3 v6 w' => ∃ (x3_1 : List Int) (x6_1 : Int) (x288000_1 : Int) (x288001_1 : Int), v6 = .int .i64 x6_1 ∧ Aside0 (spec_l23Word.l0 kq l0 x3_1 x6_1 ((rd_T78 l0 0).f0) ((rd_T78 l0 0).f1) x288000_1 x288001_1 = some r) ∧ Aside0 (kq ≤ k) ∧ Aside0 (Kd.R (Kd.int .u8) 5 w' w.heap.size (fun _ => True) v3 x3_1) ∧ Aside0 (w'.heap[gb286]? = some (.cells #[.int .i64 ((rd_T78 l0 0).f0), .int .i64 ((rd_T78 l0 0).f1)] 78 (0, 0))) ∧ Aside0 (w'.heap[gb287]? = some (.cells #[.int .i64 x288000_1, .int .i64 x288001_1] 78 (0, 0))) ∧ Aside0 (Below w.heap.size w w'))
  case atStart => exact ⟨(y282), (0), ((rd_T78 l0 0).f0), ((rd_T78 l0 0).f1), rs_, H', ⟨Nat.le_refl _⟩, ⟨by (with_reducible repeat (first | apply Kd.R_alloc | apply Kd.R_drewN | apply Kd.R_drew)); exact Kd.R_mono (Kd.R_far (p := ⟨gb287, 1, none⟩) (Kd.R_far (p := ⟨gb287, 0, none⟩) (Kd.R_types HO284.out BK287.out (by decide)) (fun _ hk => hk.2) (.int .i64 ((rd_T78 l0 0).f0))) (fun _ hk => hk.2) (.int .i64 ((rd_T78 l0 0).f1))) (fun _ hk => trivial)⟩, ⟨bf_ BK286.out NB286_287.out⟩, ⟨by (with_reducible repeat (first | refine blk_drewN ?_ _ | refine blk_drew ?_ | refine blk_alloc ?_ _)); refine blk_put (cs := #[.int .i64 ((rd_T78 l0 0).f0), .int .i64 0]) ?_ 1 _ rfl; (with_reducible repeat (first | refine blk_drewN ?_ _ | refine blk_drew ?_ | refine blk_alloc ?_ _)); refine blk_put (cs := #[.int .i64 0, .int .i64 0]) ?_ 0 _ rfl; (with_reducible repeat (first | refine blk_drewN ?_ _ | refine blk_drew ?_ | refine blk_alloc ?_ _)); exact BK287.out⟩, ⟨bl2_ GE286.out GE287.out⟩⟩
  case round =>
   clear H'
   try clear c2
   try clear c2b0
   try clear c2b1
   try clear p2
   try clear q2
   try clear hx2
   try clear qi2
   try clear c8
   try clear c9
   try clear hcz6_0
   try clear hcz6_1
   try clear hcz9_0
   try clear hcz9_1
   try clear hfz6_0
   try clear hfz6_1
   try clear hfz9_0
   try clear hfz9_1
   try clear hx285_0
   try clear hx285_1
   try clear p285
   try clear q285
   obtain ⟨x3_1, x6_1, x288000_1, x288001_1, rfl, HA, HK1, HO_3, BK286, BK287, HB⟩ := hrel
   cases gk with
   | zero => exact absurd HA.out (by simp [spec_l23Word.l0])
   | succ k1 =>
    have H := HA.out
    clear HA
    simp only [spec_l23Word.l0] at H
    by_cases c10 : 0 ≤ x6_1
    ·rw [if_pos c10] at H
     have c10b0 : decide (0 ≤ x6_1) = true := decide_eq_true c10
     clear c10
     by_cases c11 : x6_1 < 4
     ·rw [if_pos c11] at H
      have c11b0 : decide (x6_1 < 4) = true := decide_eq_true c11
      clear c11
      by_cases c13 : x3_1.length < 140737488355328
      ·rw [if_pos c13] at H
       have LMc13 := Aside0.mk c13
       clear c13
       obtain ⟨y288, hy288⟩ : ∃ y_ : List Int, y_ = (x3_1 ++ [bt (⟨#[114, 100, 108, 117]⟩ : ByteArray) x6_1]) := ⟨_, rfl⟩
       replace H : ((some (([(⟨1, 0⟩ : S78), (⟨0, 1⟩ : S78), (⟨(-1), 0⟩ : S78), (⟨0, (-1)⟩ : S78)] : List (S78)) : List (S78))).bind fun y291 => (if x6_1 < (y291.length : Int) then (if ((wrap64 (x288000_1 + ((rd_T78 y291 x6_1).f0))) == ((rd_T78 l0 0).f0) && ((wrap64 (x288001_1 + ((rd_T78 y291 x6_1).f1))) == ((rd_T78 l0 0).f1))) = true then (some (strOfNums y288)) else ((some (([(⟨wrap64 (x288000_1 + ((rd_T78 y291 x6_1).f0)), wrap64 ((wrap64 (x288001_1 + ((rd_T78 y291 x6_1).f1))) - 1)⟩ : S78), (⟨wrap64 (x288000_1 + ((rd_T78 y291 x6_1).f0)), wrap64 (x288001_1 + ((rd_T78 y291 x6_1).f1))⟩ : S78), (⟨wrap64 ((wrap64 (x288000_1 + ((rd_T78 y291 x6_1).f0))) - 1), wrap64 (x288001_1 + ((rd_T78 y291 x6_1).f1))⟩ : S78), (⟨wrap64 ((wrap64 (x288000_1 + ((rd_T78 y291 x6_1).f0))) - 1), wrap64 ((wrap64 (x288001_1 + ((rd_T78 y291 x6_1).f1))) - 1)⟩ : S78)] : List (S78)) : List (S78))).bind fun y296 => (if x6_1 < (y296.length : Int) then (if 0 ≤ (Int.tmod (wrap64 (x6_1 + 1)) 4) then (if (Int.tmod (wrap64 (x6_1 + 1)) 4) < (y296.length : Int) then ((spec_l02Index.f k1 l0 ((rd_T78 y296 x6_1).f0) ((rd_T78 y296 x6_1).f1)).bind fun t303 => (if t303 ≥ 0 then (spec_l23Word.l0 k1 l0 y288 (Int.tmod (wrap64 (x6_1 + 3)) 4) ((rd_T78 l0 0).f0) ((rd_T78 l0 0).f1) (wrap64 (x288000_1 + ((rd_T78 y291 x6_1).f0))) (wrap64 (x288001_1 + ((rd_T78 y291 x6_1).f1)))) else ((spec_l02Index.f k1 l0 ((rd_T78 y296 (Int.tmod (wrap64 (x6_1 + 1)) 4)).f0) ((rd_T78 y296 (Int.tmod (wrap64 (x6_1 + 1)) 4)).f1)).bind fun t304 => (if t304 < 0 then (spec_l23Word.l0 k1 l0 y288 (Int.tmod (wrap64 (x6_1 + 1)) 4) ((rd_T78 l0 0).f0) ((rd_T78 l0 0).f1) (wrap64 (x288000_1 + ((rd_T78 y291 x6_1).f0))) (wrap64 (x288001_1 + ((rd_T78 y291 x6_1).f1)))) else (spec_l23Word.l0 k1 l0 y288 x6_1 ((rd_T78 l0 0).f0) ((rd_T78 l0 0).f1) (wrap64 (x288000_1 + ((rd_T78 y291 x6_1).f0))) (wrap64 (x288001_1 + ((rd_T78 y291 x6_1).f1)))))))) else (none)) else (none)) else (none)))) else (none))) = some r := hh_ hy288 H
       have Ny288 := Aside0.mk hy288
       clear hy288
       obtain ⟨y291, hy291⟩ : ∃ y_ : List (S78), y_ = (([(⟨1, 0⟩ : S78), (⟨0, 1⟩ : S78), (⟨(-1), 0⟩ : S78), (⟨0, (-1)⟩ : S78)] : List (S78))) := ⟨_, rfl⟩
       replace H : (if x6_1 < (y291.length : Int) then (if ((wrap64 (x288000_1 + ((rd_T78 y291 x6_1).f0))) == ((rd_T78 l0 0).f0) && ((wrap64 (x288001_1 + ((rd_T78 y291 x6_1).f1))) == ((rd_T78 l0 0).f1))) = true then (some (strOfNums y288)) else ((some (([(⟨wrap64 (x288000_1 + ((rd_T78 y291 x6_1).f0)), wrap64 ((wrap64 (x288001_1 + ((rd_T78 y291 x6_1).f1))) - 1)⟩ : S78), (⟨wrap64 (x288000_1 + ((rd_T78 y291 x6_1).f0)), wrap64 (x288001_1 + ((rd_T78 y291 x6_1).f1))⟩ : S78), (⟨wrap64 ((wrap64 (x288000_1 + ((rd_T78 y291 x6_1).f0))) - 1), wrap64 (x288001_1 + ((rd_T78 y291 x6_1).f1))⟩ : S78), (⟨wrap64 ((wrap64 (x288000_1 + ((rd_T78 y291 x6_1).f0))) - 1), wrap64 ((wrap64 (x288001_1 + ((rd_T78 y291 x6_1).f1))) - 1)⟩ : S78)] : List (S78)) : List (S78))).bind fun y296 => (if x6_1 < (y296.length : Int) then (if 0 ≤ (Int.tmod (wrap64 (x6_1 + 1)) 4) then (if (Int.tmod (wrap64 (x6_1 + 1)) 4) < (y296.length : Int) then ((spec_l02Index.f k1 l0 ((rd_T78 y296 x6_1).f0) ((rd_T78 y296 x6_1).f1)).bind fun t303 => (if t303 ≥ 0 then (spec_l23Word.l0 k1 l0 y288 (Int.tmod (wrap64 (x6_1 + 3)) 4) ((rd_T78 l0 0).f0) ((rd_T78 l0 0).f1) (wrap64 (x288000_1 + ((rd_T78 y291 x6_1).f0))) (wrap64 (x288001_1 + ((rd_T78 y291 x6_1).f1)))) else ((spec_l02Index.f k1 l0 ((rd_T78 y296 (Int.tmod (wrap64 (x6_1 + 1)) 4)).f0) ((rd_T78 y296 (Int.tmod (wrap64 (x6_1 + 1)) 4)).f1)).bind fun t304 => (if t304 < 0 then (spec_l23Word.l0 k1 l0 y288 (Int.tmod (wrap64 (x6_1 + 1)) 4) ((rd_T78 l0 0).f0) ((rd_T78 l0 0).f1) (wrap64 (x288000_1 + ((rd_T78 y291 x6_1).f0))) (wrap64 (x288001_1 + ((rd_T78 y291 x6_1).f1)))) else (spec_l23Word.l0 k1 l0 y288 x6_1 ((rd_T78 l0 0).f0) ((rd_T78 l0 0).f1) (wrap64 (x288000_1 + ((rd_T78 y291 x6_1).f0))) (wrap64 (x288001_1 + ((rd_T78 y291 x6_1).f1)))))))) else (none)) else (none)) else (none)))) else (none)) = some r := hh_ hy291 H
       have Ny291 := Aside0.mk hy291
       clear hy291
       by_cases c14 : x6_1 < (y291.length : Int)
       ·rw [if_pos c14] at H
        have c14b0 : decide (x6_1 < (y291.length : Int)) = true := decide_eq_true c14
        clear c14
        by_cases c15 : ((wrap64 (x288000_1 + ((rd_T78 y291 x6_1).f0))) == ((rd_T78 l0 0).f0) && ((wrap64 (x288001_1 + ((rd_T78 y291 x6_1).f1))) == ((rd_T78 l0 0).f1))) = true
        ·rw [if_pos c15] at H
         have c15b0 : ((wrap64 (x288000_1 + ((rd_T78 y291 x6_1).f0))) == ((rd_T78 l0 0).f0) && ((wrap64 (x288001_1 + ((rd_T78 y291 x6_1).f1))) == ((rd_T78 l0 0).f1))) = true := c15
         (try (have c15b1 : decide ((wrap64 (x288000_1 + ((rd_T78 y291 x6_1).f0))) = ((rd_T78 l0 0).f0) && ((wrap64 (x288001_1 + ((rd_T78 y291 x6_1).f1))) == ((rd_T78 l0 0).f1))) = true := by simpa using c15))
         (try (have c15b2 : ((wrap64 (x288000_1 + ((rd_T78 y291 x6_1).f0))) == ((rd_T78 l0 0).f0) && ((wrap64 (x288001_1 + ((rd_T78 y291 x6_1).f1))) == ((rd_T78 l0 0).f1))) = true := by simpa using c15))
         clear c15
         obtain rfl := Option.some.inj H
         have p12 : 0 ≤ (x6_1 : Int) := od_
         have q12 : x6_1 < (4 : Int) := od_
         have hx12 := bt_at (⟨#[114, 100, 108, 117]⟩ : ByteArray) x6_1
         replace p12 := eq_true p12
         replace q12 := eq_true q12
         try go_wp2_with (first | ((with_reducible refine gate_builtin (b := .append) (xs := #[.tmp 16, .tmp 19]) rfl ?_); at_builtin; refine Kd.R_append (Kd.int .u8) (w0 := w) w.heap.size rfl (.tmp 16) (.tmp 19) 22 5 (.int .u8 0) 1 rfl Tryd.underlying22 info5 rfl (by decide) (by omega) u3 x3_1 (bt (⟨#[114, 100, 108, 117]⟩ : ByteArray) x6_1) [.int .u8 (bt (⟨#[114, 100, 108, 117]⟩ : ByteArray) x6_1)] (fun _ => True) (fun _ => False) rfl rfl ?aP (fun _ hk => hk.elim) ?aF ?aO ?aB ?aS ?aL ?_; (case aP => exact rfl); (case aB => exact (bl2_ GE286.out GE287.out)); (case aF => exact (fun _ _ => trivial)); (case aO => exact (ra_ HO_3.out)); (case aS => exact (below_size (bl2_ GE286.out GE287.out))); (case aL => have := LMc13.out; omega); intro v289 w16 ho hb hg hat; rw [← Ny288.out] at ho; replace BK286 := a0_ (blk_grown (g := gb286) (o := .cells #[.int .i64 ((rd_T78 l0 0).f0), .int .i64 ((rd_T78 l0 0).f1)] 78 (0, 0)) (bk_ BK286.out) hg (Kd.R_ne HO_3.out BK286.out (by decide))); replace BK287 := a0_ (blk_grown (g := gb287) (o := .cells #[.int .i64 x288000_1, .int .i64 x288001_1] 78 (0, 0)) (bk_ BK287.out) hg (Kd.R_ne HO_3.out BK287.out (by decide))); replace HB := a0_ (hb); have HO290 := a0_ (ho); clear HO_3; clear ho hb hg hat) | ((with_reducible refine gate_dst (N := 25) rfl ?_); refine Kd.R_lit k78 _ 78 ?hg (N := 25) ?hd (xs := ([(⟨1, 0⟩ : S78), (⟨0, 1⟩ : S78), (⟨(-1), 0⟩ : S78), (⟨0, (-1)⟩ : S78)] : List (S78))) (inner := [.int .i64 1, .int .i64 0, .int .i64 0, .int .i64 1, .int .i64 (-1), .int .i64 0, .int .i64 0, .int .i64 (-1)]) (ok := fun _ => True) (okp := fun _ => True) ?hr ?hp (fun _ hk => hk) trivial (Below.refl _ _) (Nat.le_refl _) (by simp) ?_; (case hd => rfl); (case hg => rfl); (case hr => first | (go_simp; done) | (go_simp; rfl)); (case hp => exact (Reps.c2 (show Kd.M k78 _ _ _ (⟨1, 0⟩ : S78) [.int .i64 1, .int .i64 0] from (k78_mkM _ _ _ (⟨1, 0⟩ : S78) )) (Reps.c2 (show Kd.M k78 _ _ _ (⟨0, 1⟩ : S78) [.int .i64 0, .int .i64 1] from (k78_mkM _ _ _ (⟨0, 1⟩ : S78) )) (Reps.c2 (show Kd.M k78 _ _ _ (⟨(-1), 0⟩ : S78) [.int .i64 (-1), .int .i64 0] from (k78_mkM _ _ _ (⟨(-1), 0⟩ : S78) )) (Reps.c2 (show Kd.M k78 _ _ _ (⟨0, (-1)⟩ : S78) [.int .i64 0, .int .i64 (-1)] from (k78_mkM _ _ _ (⟨0, (-1)⟩ : S78) )) (Reps.none _ _)))))); intro v292 w17 ho18 hb hg_ hnew_; clear hg_ hnew_; (first | rw [← Ny291.out] at ho18 | (simp only [Int.reduceToNat] at ho18; rw [← Ny291.out] at ho18)); replace HO290 := a0_ (Kd.R_below (ra_ HO290.out) hb); have HO293 := a0_ (Kd.R_lower (Kd.R_newB (Kd.R_newB ho18 (g := gb286) (o := .cells #[.int .i64 ((rd_T78 l0 0).f0), .int .i64 ((rd_T78 l0 0).f1)] 78 (0, 0)) (bk_ BK286.out)) (g := gb287) (o := .cells #[.int .i64 x288000_1, .int .i64 x288001_1] 78 (0, 0)) (bk_ BK287.out)) (below_size (bl2_ GE286.out GE287.out))); replace BK286 := a0_ (bb_ BK286.out hb); replace BK287 := a0_ (bb_ BK287.out hb); replace HB := a0_ (below_step (bl2_ GE286.out GE287.out) hb); clear hb ho18))
         replace HO290 := a0_ (Kd.R_drew HO290.out)
         replace HO293 := a0_ (Kd.R_drew HO293.out)
         replace BK286 := a0_ (blk_drew BK286.out)
         replace BK287 := a0_ (blk_drew BK287.out)
         replace HB := a0_ (below_drew1 HB.out)
         obtain ⟨Ao20, co20, eo20⟩ := Kd.R_slice HO293.out
         (first | subst eo20 | (injection eo20 with f1_ f2_ f3_; have f4_ := f1_.symm; have f5_ := f3_.symm; clear f1_ f2_ f3_; subst f4_; subst f5_))
         have p294 : 0 ≤ (x6_1 : Int) := od_
         have q294 : x6_1 < (y291.length : Int) := od_
         obtain ⟨ad294, e294, hx294_0, hx294_1⟩ := at_T78 (Kd.R_reads' HO293.out).2.2 x6_1 p294 q294
         cases e294
         replace p294 := eq_true p294
         replace q294 := eq_true q294
         have p295 : 0 ≤ (x6_1 : Int) := od_
         have q295 : x6_1 < (y291.length : Int) := od_
         obtain ⟨ad295, e295, hx295_0, hx295_1⟩ := at_T78 (Kd.R_reads' HO293.out).2.2 x6_1 p295 q295
         obtain rfl : ad294 = ad295 := (by injection e295)
         replace p295 := eq_true p295
         replace q295 := eq_true q295
         refine start_ (n := 18) (S := fun w' => w'.cell? ⟨gb287, 0, none⟩ = some (.int .i64 x288000_1) ∧ w'.cell? ⟨gb287, 1, none⟩ = some (.int .i64 x288001_1) ∧ w'.cell? (ad294.add ((x6_1).toNat * 2)) = some (.int .i64 ((rd_T78 y291 x6_1).f0)) ∧ w'.cell? ⟨(ad294.add ((x6_1).toNat * 2)).block, (ad294.add ((x6_1).toNat * 2)).off + 1, none⟩ = some (.int .i64 ((rd_T78 y291 x6_1).f1)) ∧ w'.cell? (ad294.add ((x6_1).toNat * 2)) = some (.int .i64 ((rd_T78 y291 x6_1).f0)) ∧ w'.cell? ⟨(ad294.add ((x6_1).toNat * 2)).block, (ad294.add ((x6_1).toNat * 2)).off + 1, none⟩ = some (.int .i64 ((rd_T78 y291 x6_1).f1))) (ds := [17]) (mk_ 0 18) kr_ rfl rfl ⟨(blk_cell BK287.out 0).trans rfl, (blk_cell BK287.out 1).trans rfl, hx294_0, hx294_1, hx295_0, hx295_1⟩ (fun hHeld => ?_); refine with_tabW spec_l23Word.tab7 spec_l23Word.bits7 (fun HT_ HW_ => ?_)
         generalize w17.drew = w19 at HO290 HO293 BK286 BK287 HB hx294_0 hx294_1 hx295_0 hx295_1 hHeld ⊢
         refine pu_ 0 (some 26) (mk_ 1 17) HT_ ?_
         refine pu_ 2 (some 28) #[true, false, true, false, false, false, false, false, false, false, false, false, false, false, false, false, false, false] HT_ ?_
         refine pu_ 3 (some 29) #[true, false, true, true, false, false, false, false, false, false, false, false, false, false, false, false, false, false] HT_ ?_
         refine pu_ 4 (some 30) #[true, false, true, true, true, false, false, false, false, false, false, false, false, false, false, false, false, false] HT_ ?_
         refine pu_ 5 (some 31) #[true, false, true, true, true, true, false, false, false, false, false, false, false, false, false, false, false, false] HT_ ?_
         refine pu_ 8 (some 34) #[true, false, true, true, true, true, false, false, true, false, false, false, false, false, false, false, false, false] HT_ ?_
         refine pu_ 10 (some 36) #[true, false, true, true, true, true, false, false, true, false, true, false, false, false, false, false, false, false] HT_ ?_
         refine pu_ 11 (some 37) #[true, false, true, true, true, true, false, false, true, false, true, true, false, false, false, false, false, false] HT_ ?_
         refine pu_ 12 (some 38) #[true, false, true, true, true, true, false, false, true, false, true, true, true, false, false, false, false, false] HT_ ?_
         refine pu_ 13 (some 39) #[true, false, true, true, true, true, false, false, true, false, true, true, true, true, false, false, false, false] HT_ ?_
         refine tk_ 1 (some 27) #[true, true, true, true, true, true, false, false, true, false, true, true, true, true, false, false, false, false] HT_ HW_ hHeld (hy := .inl ⟨by rfl, by rintro w' ⟨s0, s1, s2, s3, s4, s5⟩; go_simp; with_reducible rfl⟩) ?_
         refine tk_ 6 (some 32) #[true, true, true, true, true, true, true, false, true, false, true, true, true, true, false, false, false, false] HT_ HW_ hHeld (hy := .inl ⟨by rfl, by rintro w' ⟨s0, s1, s2, s3, s4, s5⟩; go_simp; with_reducible rfl⟩) ?_
         refine pu_ 7 (some 33) #[true, true, true, true, true, true, true, true, true, false, true, true, true, true, false, false, false, false] HT_ ?_
         refine tk_ 9 (some 35) (mk_ 14 4) HT_ HW_ hHeld (hy := .inl ⟨by rfl, by rintro w' ⟨s0, s1, s2, s3, s4, s5⟩; go_simp; with_reducible rfl⟩) ?_
         refine tk_ 14 (some 40) (mk_ 15 3) HT_ HW_ hHeld (hy := .inl ⟨by rfl, by rintro w' ⟨s0, s1, s2, s3, s4, s5⟩; go_simp; with_reducible rfl⟩) ?_
         refine pu_ 15 (some 41) (mk_ 16 2) HT_ ?_
         refine pu_ 16 (some 42) (mk_ 17 1) HT_ ?_
         refine last_ (i := 17) (N := none) (mk_ 18 0) rfl rfl (one_of HT_.out kr_) (by decide) (fun K hK => ?_)
         have hs21 : w19.cell? ⟨gb287, 0, none⟩ = some (.int .i64 x288000_1) := (blk_cell BK287.out 0).trans rfl
         have hfs21 := blk_frozen BK287.out 0
         have hns21_0 := NB286_287.out
         have hms21_0 := NB287_286.out
         have hs22 : w19.cell? ⟨gb287, 1, none⟩ = some (.int .i64 x288001_1) := (blk_cell BK287.out 1).trans rfl
         have hfs22 := blk_frozen BK287.out 1
         have hns22_0 := NB286_287.out
         have hms22_0 := NB287_286.out
         refine skip_ (w1 := ?_) (by rfl) rfl ?_ ?_
         rotate_left
         ·go_simp
          rfl
         refine hK.out _ _ ?_
         clear hK K
         refine done_ (done_of HT_.out kr_) ?_
         have hnb23 := NB287_286.out
         have hnc23 := NB286_287.out
         have hcz24_0 : w19.cell? ⟨gb287, 0, none⟩ = some (.int .i64 x288000_1) := (blk_cell BK287.out 0).trans rfl
         have hcz24_1 : w19.cell? ⟨gb287, 1, none⟩ = some (.int .i64 x288001_1) := (blk_cell BK287.out 1).trans rfl
         have hfz24_0 := blk_frozen BK287.out 0
         have hfz24_1 := blk_frozen BK287.out 1
         have hcz25_0 : w19.cell? ⟨gb286, 0, none⟩ = some (.int .i64 ((rd_T78 l0 0).f0)) := (blk_cell BK286.out 0).trans rfl
         have hcz25_1 : w19.cell? ⟨gb286, 1, none⟩ = some (.int .i64 ((rd_T78 l0 0).f1)) := (blk_cell BK286.out 1).trans rfl
         have hfz25_0 := blk_frozen BK286.out 0
         have hfz25_1 := blk_frozen BK286.out 1
         have hcv26 := own_string (P := Tryd.prog) Tryd.underlying22 Tryd.underlying5 Tryd.underlying9 (Kd.own_of_R HO290.out)
         have hcv26b := fun (u1_ u2_ : Value) => own_string (P := Tryd.prog) Tryd.underlying22 Tryd.underlying5 Tryd.underlying9 (Kd.own_of_R (Kd.R_set (Kd.R_set HO290.out BK287.out (by decide) 0 u1_) (blk_put BK287.out 0 u1_ rfl) (by decide) 1 u2_))
         try go_wp2
         go_ret
         exact ⟨er_, bl2_ GE286.out GE287.out⟩
        ·rw [if_neg c15] at H
         have c15b0 : ((wrap64 (x288000_1 + ((rd_T78 y291 x6_1).f0))) == ((rd_T78 l0 0).f0) && ((wrap64 (x288001_1 + ((rd_T78 y291 x6_1).f1))) == ((rd_T78 l0 0).f1))) = false := by simpa using c15
         (try (have c15b1 : decide ((wrap64 (x288000_1 + ((rd_T78 y291 x6_1).f0))) = ((rd_T78 l0 0).f0) && ((wrap64 (x288001_1 + ((rd_T78 y291 x6_1).f1))) == ((rd_T78 l0 0).f1))) = false := by simpa using c15))
         (try (have c15b2 : ((wrap64 (x288000_1 + ((rd_T78 y291 x6_1).f0))) == ((rd_T78 l0 0).f0) && ((wrap64 (x288001_1 + ((rd_T78 y291 x6_1).f1))) == ((rd_T78 l0 0).f1))) = false := by simpa using c15))
         (try (have c15b3 : ¬ ((wrap64 (x288000_1 + ((rd_T78 y291 x6_1).f0))) = ((rd_T78 l0 0).f0) && ((wrap64 (x288001_1 + ((rd_T78 y291 x6_1).f1))) == ((rd_T78 l0 0).f1))) := by simpa using c15))
         clear c15
         obtain ⟨y296, hy296⟩ : ∃ y_ : List (S78), y_ = (([(⟨wrap64 (x288000_1 + ((rd_T78 y291 x6_1).f0)), wrap64 ((wrap64 (x288001_1 + ((rd_T78 y291 x6_1).f1))) - 1)⟩ : S78), (⟨wrap64 (x288000_1 + ((rd_T78 y291 x6_1).f0)), wrap64 (x288001_1 + ((rd_T78 y291 x6_1).f1))⟩ : S78), (⟨wrap64 ((wrap64 (x288000_1 + ((rd_T78 y291 x6_1).f0))) - 1), wrap64 (x288001_1 + ((rd_T78 y291 x6_1).f1))⟩ : S78), (⟨wrap64 ((wrap64 (x288000_1 + ((rd_T78 y291 x6_1).f0))) - 1), wrap64 ((wrap64 (x288001_1 + ((rd_T78 y291 x6_1).f1))) - 1)⟩ : S78)] : List (S78))) := ⟨_, rfl⟩
         replace H : (if x6_1 < (y296.length : Int) then (if 0 ≤ (Int.tmod (wrap64 (x6_1 + 1)) 4) then (if (Int.tmod (wrap64 (x6_1 + 1)) 4) < (y296.length : Int) then ((spec_l02Index.f k1 l0 ((rd_T78 y296 x6_1).f0) ((rd_T78 y296 x6_1).f1)).bind fun t303 => (if t303 ≥ 0 then (spec_l23Word.l0 k1 l0 y288 (Int.tmod (wrap64 (x6_1 + 3)) 4) ((rd_T78 l0 0).f0) ((rd_T78 l0 0).f1) (wrap64 (x288000_1 + ((rd_T78 y291 x6_1).f0))) (wrap64 (x288001_1 + ((rd_T78 y291 x6_1).f1)))) else ((spec_l02Index.f k1 l0 ((rd_T78 y296 (Int.tmod (wrap64 (x6_1 + 1)) 4)).f0) ((rd_T78 y296 (Int.tmod (wrap64 (x6_1 + 1)) 4)).f1)).bind fun t304 => (if t304 < 0 then (spec_l23Word.l0 k1 l0 y288 (Int.tmod (wrap64 (x6_1 + 1)) 4) ((rd_T78 l0 0).f0) ((rd_T78 l0 0).f1) (wrap64 (x288000_1 + ((rd_T78 y291 x6_1).f0))) (wrap64 (x288001_1 + ((rd_T78 y291 x6_1).f1)))) else (spec_l23Word.l0 k1 l0 y288 x6_1 ((rd_T78 l0 0).f0) ((rd_T78 l0 0).f1) (wrap64 (x288000_1 + ((rd_T78 y291 x6_1).f0))) (wrap64 (x288001_1 + ((rd_T78 y291 x6_1).f1)))))))) else (none)) else (none)) else (none)) = some r := hh_ hy296 H
         have Ny296 := Aside0.mk hy296
         clear hy296
         by_cases c27 : x6_1 < (y296.length : Int)
         ·rw [if_pos c27] at H
          have c27b0 : decide (x6_1 < (y296.length : Int)) = true := decide_eq_true c27
          clear c27
          obtain ⟨ji28, hji28⟩ : ∃ j_ : Int, (Int.tmod (wrap64 (x6_1 + 1)) 4) = j_ := ⟨_, rfl⟩
          replace H : (if 0 ≤ (ji28) then (if (ji28) < (y296.length : Int) then ((spec_l02Index.f k1 l0 ((rd_T78 y296 x6_1).f0) ((rd_T78 y296 x6_1).f1)).bind fun t303 => (if t303 ≥ 0 then (spec_l23Word.l0 k1 l0 y288 (Int.tmod (wrap64 (x6_1 + 3)) 4) ((rd_T78 l0 0).f0) ((rd_T78 l0 0).f1) (wrap64 (x288000_1 + ((rd_T78 y291 x6_1).f0))) (wrap64 (x288001_1 + ((rd_T78 y291 x6_1).f1)))) else ((spec_l02Index.f k1 l0 ((rd_T78 y296 (ji28)).f0) ((rd_T78 y296 (ji28)).f1)).bind fun t304 => (if t304 < 0 then (spec_l23Word.l0 k1 l0 y288 ji28 ((rd_T78 l0 0).f0) ((rd_T78 l0 0).f1) (wrap64 (x288000_1 + ((rd_T78 y291 x6_1).f0))) (wrap64 (x288001_1 + ((rd_T78 y291 x6_1).f1)))) else (spec_l23Word.l0 k1 l0 y288 x6_1 ((rd_T78 l0 0).f0) ((rd_T78 l0 0).f1) (wrap64 (x288000_1 + ((rd_T78 y291 x6_1).f0))) (wrap64 (x288001_1 + ((rd_T78 y291 x6_1).f1)))))))) else (none)) else (none)) = some r := by first | (rw [hji28] at H; exact H) | (simp only [hji28] at H ⊢; exact H)
          by_cases c29 : 0 ≤ (ji28)
          ·rw [if_pos c29] at H
           have c29b0 : decide (0 ≤ (ji28)) = true := decide_eq_true c29
           clear c29
           by_cases c30 : (ji28) < (y296.length : Int)
           ·rw [if_pos c30] at H
            have c30b0 : decide ((ji28) < (y296.length : Int)) = true := decide_eq_true c30
            clear c30
            obtain ⟨t303, A31, H⟩ := bs_ H
            by_cases c32 : t303 ≥ 0
            ·rw [if_pos c32] at H
             have c32b0 : decide (0 ≤ t303) = true := decide_eq_true c32
             clear c32
             have H' := Aside0.mk H
             clear H
             have p12 : 0 ≤ (x6_1 : Int) := od_
             have q12 : x6_1 < (4 : Int) := od_
             have hx12 := bt_at (⟨#[114, 100, 108, 117]⟩ : ByteArray) x6_1
             replace p12 := eq_true p12
             replace q12 := eq_true q12
             try go_wp2_with (first | ((with_reducible refine gate_builtin (b := .append) (xs := #[.tmp 16, .tmp 19]) rfl ?_); at_builtin; refine Kd.R_append (Kd.int .u8) (w0 := w) w.heap.size rfl (.tmp 16) (.tmp 19) 22 5 (.int .u8 0) 1 rfl Tryd.underlying22 info5 rfl (by decide) (by omega) u3 x3_1 (bt (⟨#[114, 100, 108, 117]⟩ : ByteArray) x6_1) [.int .u8 (bt (⟨#[114, 100, 108, 117]⟩ : ByteArray) x6_1)] (fun _ => True) (fun _ => False) rfl rfl ?aP (fun _ hk => hk.elim) ?aF ?aO ?aB ?aS ?aL ?_; (case aP => exact rfl); (case aB => exact (bl2_ GE286.out GE287.out)); (case aF => exact (fun _ _ => trivial)); (case aO => exact (ra_ HO_3.out)); (case aS => exact (below_size (bl2_ GE286.out GE287.out))); (case aL => have := LMc13.out; omega); intro v289 w33 ho hb hg hat; rw [← Ny288.out] at ho; replace BK286 := a0_ (blk_grown (g := gb286) (o := .cells #[.int .i64 ((rd_T78 l0 0).f0), .int .i64 ((rd_T78 l0 0).f1)] 78 (0, 0)) (bk_ BK286.out) hg (Kd.R_ne HO_3.out BK286.out (by decide))); replace BK287 := a0_ (blk_grown (g := gb287) (o := .cells #[.int .i64 x288000_1, .int .i64 x288001_1] 78 (0, 0)) (bk_ BK287.out) hg (Kd.R_ne HO_3.out BK287.out (by decide))); replace HB := a0_ (hb); have HO290 := a0_ (ho); clear HO_3; clear ho hb hg hat) | ((with_reducible refine gate_dst (N := 25) rfl ?_); refine Kd.R_lit k78 _ 78 ?hg (N := 25) ?hd (xs := ([(⟨1, 0⟩ : S78), (⟨0, 1⟩ : S78), (⟨(-1), 0⟩ : S78), (⟨0, (-1)⟩ : S78)] : List (S78))) (inner := [.int .i64 1, .int .i64 0, .int .i64 0, .int .i64 1, .int .i64 (-1), .int .i64 0, .int .i64 0, .int .i64 (-1)]) (ok := fun _ => True) (okp := fun _ => True) ?hr ?hp (fun _ hk => hk) trivial (Below.refl _ _) (Nat.le_refl _) (by simp) ?_; (case hd => rfl); (case hg => rfl); (case hr => first | (go_simp; done) | (go_simp; rfl)); (case hp => exact (Reps.c2 (show Kd.M k78 _ _ _ (⟨1, 0⟩ : S78) [.int .i64 1, .int .i64 0] from (k78_mkM _ _ _ (⟨1, 0⟩ : S78) )) (Reps.c2 (show Kd.M k78 _ _ _ (⟨0, 1⟩ : S78) [.int .i64 0, .int .i64 1] from (k78_mkM _ _ _ (⟨0, 1⟩ : S78) )) (Reps.c2 (show Kd.M k78 _ _ _ (⟨(-1), 0⟩ : S78) [.int .i64 (-1), .int .i64 0] from (k78_mkM _ _ _ (⟨(-1), 0⟩ : S78) )) (Reps.c2 (show Kd.M k78 _ _ _ (⟨0, (-1)⟩ : S78) [.int .i64 0, .int .i64 (-1)] from (k78_mkM _ _ _ (⟨0, (-1)⟩ : S78) )) (Reps.none _ _)))))); intro v292 w34 ho35 hb hg_ hnew_; clear hg_ hnew_; (first | rw [← Ny291.out] at ho35 | (simp only [Int.reduceToNat] at ho35; rw [← Ny291.out] at ho35)); replace HO290 := a0_ (Kd.R_below (ra_ HO290.out) hb); have HO293 := a0_ (Kd.R_lower (Kd.R_newB (Kd.R_newB ho35 (g := gb286) (o := .cells #[.int .i64 ((rd_T78 l0 0).f0), .int .i64 ((rd_T78 l0 0).f1)] 78 (0, 0)) (bk_ BK286.out)) (g := gb287) (o := .cells #[.int .i64 x288000_1, .int .i64 x288001_1] 78 (0, 0)) (bk_ BK287.out)) (below_size (bl2_ GE286.out GE287.out))); replace BK286 := a0_ (bb_ BK286.out hb); replace BK287 := a0_ (bb_ BK287.out hb); replace HB := a0_ (below_step (bl2_ GE286.out GE287.out) hb); clear hb ho35))
             replace HO290 := a0_ (Kd.R_drew HO290.out)
             replace HO293 := a0_ (Kd.R_drew HO293.out)
             replace BK286 := a0_ (blk_drew BK286.out)
             replace BK287 := a0_ (blk_drew BK287.out)
             replace HB := a0_ (below_drew1 HB.out)
             obtain ⟨Ao37, co37, eo37⟩ := Kd.R_slice HO293.out
             (first | subst eo37 | (injection eo37 with f1_ f2_ f3_; have f4_ := f1_.symm; have f5_ := f3_.symm; clear f1_ f2_ f3_; subst f4_; subst f5_))
             have p294 : 0 ≤ (x6_1 : Int) := od_
             have q294 : x6_1 < (y291.length : Int) := od_
             obtain ⟨ad294, e294, hx294_0, hx294_1⟩ := at_T78 (Kd.R_reads' HO293.out).2.2 x6_1 p294 q294
             cases e294
             replace p294 := eq_true p294
             replace q294 := eq_true q294
             have p295 : 0 ≤ (x6_1 : Int) := od_
             have q295 : x6_1 < (y291.length : Int) := od_
             obtain ⟨ad295, e295, hx295_0, hx295_1⟩ := at_T78 (Kd.R_reads' HO293.out).2.2 x6_1 p295 q295
             obtain rfl : ad294 = ad295 := (by injection e295)
             replace p295 := eq_true p295
             replace q295 := eq_true q295
             refine start_ (n := 18) (S := fun w' => w'.cell? ⟨gb287, 0, none⟩ = some (.int .i64 x288000_1) ∧ w'.cell? ⟨gb287, 1, none⟩ = some (.int .i64 x288001_1) ∧ w'.cell? (ad294.add ((x6_1).toNat * 2)) = some (.int .i64 ((rd_T78 y291 x6_1).f0)) ∧ w'.cell? ⟨(ad294.add ((x6_1).toNat * 2)).block, (ad294.add ((x6_1).toNat * 2)).off + 1, none⟩ = some (.int .i64 ((rd_T78 y291 x6_1).f1)) ∧ w'.cell? (ad294.add ((x6_1).toNat * 2)) = some (.int .i64 ((rd_T78 y291 x6_1).f0)) ∧ w'.cell? ⟨(ad294.add ((x6_1).toNat * 2)).block, (ad294.add ((x6_1).toNat * 2)).off + 1, none⟩ = some (.int .i64 ((rd_T78 y291 x6_1).f1))) (ds := [17]) (mk_ 0 18) kr_ rfl rfl ⟨(blk_cell BK287.out 0).trans rfl, (blk_cell BK287.out 1).trans rfl, hx294_0, hx294_1, hx295_0, hx295_1⟩ (fun hHeld => ?_); refine with_tabW spec_l23Word.tab7 spec_l23Word.bits7 (fun HT_ HW_ => ?_)
             generalize w34.drew = w36 at HO290 HO293 BK286 BK287 HB hx294_0 hx294_1 hx295_0 hx295_1 hHeld ⊢
             refine pu_ 0 (some 26) (mk_ 1 17) HT_ ?_
             refine pu_ 2 (some 28) #[true, false, true, false, false, false, false, false, false, false, false, false, false, false, false, false, false, false] HT_ ?_
             refine pu_ 3 (some 29) #[true, false, true, true, false, false, false, false, false, false, false, false, false, false, false, false, false, false] HT_ ?_
             refine pu_ 4 (some 30) #[true, false, true, true, true, false, false, false, false, false, false, false, false, false, false, false, false, false] HT_ ?_
             refine pu_ 5 (some 31) #[true, false, true, true, true, true, false, false, false, false, false, false, false, false, false, false, false, false] HT_ ?_
             refine pu_ 8 (some 34) #[true, false, true, true, true, true, false, false, true, false, false, false, false, false, false, false, false, false] HT_ ?_
             refine pu_ 10 (some 36) #[true, false, true, true, true, true, false, false, true, false, true, false, false, false, false, false, false, false] HT_ ?_
             refine pu_ 11 (some 37) #[true, false, true, true, true, true, false, false, true, false, true, true, false, false, false, false, false, false] HT_ ?_
             refine pu_ 12 (some 38) #[true, false, true, true, true, true, false, false, true, false, true, true, true, false, false, false, false, false] HT_ ?_
             refine pu_ 13 (some 39) #[true, false, true, true, true, true, false, false, true, false, true, true, true, true, false, false, false, false] HT_ ?_
             refine tk_ 1 (some 27) #[true, true, true, true, true, true, false, false, true, false, true, true, true, true, false, false, false, false] HT_ HW_ hHeld (hy := .inl ⟨by rfl, by rintro w' ⟨s0, s1, s2, s3, s4, s5⟩; go_simp; with_reducible rfl⟩) ?_
             refine tk_ 6 (some 32) #[true, true, true, true, true, true, true, false, true, false, true, true, true, true, false, false, false, false] HT_ HW_ hHeld (hy := .inl ⟨by rfl, by rintro w' ⟨s0, s1, s2, s3, s4, s5⟩; go_simp; with_reducible rfl⟩) ?_
             refine pu_ 7 (some 33) #[true, true, true, true, true, true, true, true, true, false, true, true, true, true, false, false, false, false] HT_ ?_
             refine tk_ 9 (some 35) (mk_ 14 4) HT_ HW_ hHeld (hy := .inl ⟨by rfl, by rintro w' ⟨s0, s1, s2, s3, s4, s5⟩; go_simp; with_reducible rfl⟩) ?_
             refine tk_ 14 (some 40) (mk_ 15 3) HT_ HW_ hHeld (hy := .inl ⟨by rfl, by rintro w' ⟨s0, s1, s2, s3, s4, s5⟩; go_simp; with_reducible rfl⟩) ?_
             refine pu_ 15 (some 41) (mk_ 16 2) HT_ ?_
             refine pu_ 16 (some 42) (mk_ 17 1) HT_ ?_
             refine last_ (i := 17) (N := none) (mk_ 18 0) rfl rfl (one_of HT_.out kr_) (by decide) (fun K hK => ?_)
             have hs38 : w36.cell? ⟨gb287, 0, none⟩ = some (.int .i64 x288000_1) := (blk_cell BK287.out 0).trans rfl
             have hfs38 := blk_frozen BK287.out 0
             have hns38_0 := NB286_287.out
             have hms38_0 := NB287_286.out
             have hs39 : w36.cell? ⟨gb287, 1, none⟩ = some (.int .i64 x288001_1) := (blk_cell BK287.out 1).trans rfl
             have hfs39 := blk_frozen BK287.out 1
             have hns39_0 := NB286_287.out
             have hms39_0 := NB287_286.out
             refine skip_ (w1 := ?_) (by rfl) rfl ?_ ?_
             rotate_left
             ·go_simp
              rfl
             refine hK.out _ _ ?_
             clear hK K
             refine done_ (done_of HT_.out kr_) ?_
             have hnb40 := NB287_286.out
             have hnc40 := NB286_287.out
             have hcz41_0 : w36.cell? ⟨gb287, 0, none⟩ = some (.int .i64 x288000_1) := (blk_cell BK287.out 0).trans rfl
             have hcz41_1 : w36.cell? ⟨gb287, 1, none⟩ = some (.int .i64 x288001_1) := (blk_cell BK287.out 1).trans rfl
             have hfz41_0 := blk_frozen BK287.out 0
             have hfz41_1 := blk_frozen BK287.out 1
             have hcz42_0 : w36.cell? ⟨gb286, 0, none⟩ = some (.int .i64 ((rd_T78 l0 0).f0)) := (blk_cell BK286.out 0).trans rfl
             have hcz42_1 : w36.cell? ⟨gb286, 1, none⟩ = some (.int .i64 ((rd_T78 l0 0).f1)) := (blk_cell BK286.out 1).trans rfl
             have hfz42_0 := blk_frozen BK286.out 0
             have hfz42_1 := blk_frozen BK286.out 1
             try go_wp2_with (first | ((with_reducible refine gate_dst (N := 68) rfl ?_); refine Kd.R_lit k78 _ 78 ?hg (N := 68) ?hd (xs := ([(⟨wrap64 (x288000_1 + ((rd_T78 y291 x6_1).f0)), wrap64 ((wrap64 (x288001_1 + ((rd_T78 y291 x6_1).f1))) - 1)⟩ : S78), (⟨wrap64 (x288000_1 + ((rd_T78 y291 x6_1).f0)), wrap64 (x288001_1 + ((rd_T78 y291 x6_1).f1))⟩ : S78), (⟨wrap64 ((wrap64 (x288000_1 + ((rd_T78 y291 x6_1).f0))) - 1), wrap64 (x288001_1 + ((rd_T78 y291 x6_1).f1))⟩ : S78), (⟨wrap64 ((wrap64 (x288000_1 + ((rd_T78 y291 x6_1).f0))) - 1), wrap64 ((wrap64 (x288001_1 + ((rd_T78 y291 x6_1).f1))) - 1)⟩ : S78)] : List (S78))) (inner := [.int .i64 (wrap64 (x288000_1 + ((rd_T78 y291 x6_1).f0))), .int .i64 (wrap64 ((wrap64 (x288001_1 + ((rd_T78 y291 x6_1).f1))) - 1)), .int .i64 (wrap64 (x288000_1 + ((rd_T78 y291 x6_1).f0))), .int .i64 (wrap64 (x288001_1 + ((rd_T78 y291 x6_1).f1))), .int .i64 (wrap64 ((wrap64 (x288000_1 + ((rd_T78 y291 x6_1).f0))) - 1)), .int .i64 (wrap64 (x288001_1 + ((rd_T78 y291 x6_1).f1))), .int .i64 (wrap64 ((wrap64 (x288000_1 + ((rd_T78 y291 x6_1).f0))) - 1)), .int .i64 (wrap64 ((wrap64 (x288001_1 + ((rd_T78 y291 x6_1).f1))) - 1))]) (ok := fun _ => True) (okp := fun _ => True) ?hr ?hp (fun _ hk => hk) trivial (Below.refl _ _) (Nat.le_refl _) (by simp) ?_; (case hd => rfl); (case hg => rfl); (case hr => first | (go_simp; done) | (go_simp; rfl)); (case hp => exact (Reps.c2 (show Kd.M k78 _ _ _ (⟨wrap64 (x288000_1 + ((rd_T78 y291 x6_1).f0)), wrap64 ((wrap64 (x288001_1 + ((rd_T78 y291 x6_1).f1))) - 1)⟩ : S78) [.int .i64 (wrap64 (x288000_1 + ((rd_T78 y291 x6_1).f0))), .int .i64 (wrap64 ((wrap64 (x288001_1 + ((rd_T78 y291 x6_1).f1))) - 1))] from (k78_mkM _ _ _ (⟨wrap64 (x288000_1 + ((rd_T78 y291 x6_1).f0)), wrap64 ((wrap64 (x288001_1 + ((rd_T78 y291 x6_1).f1))) - 1)⟩ : S78) )) (Reps.c2 (show Kd.M k78 _ _ _ (⟨wrap64 (x288000_1 + ((rd_T78 y291 x6_1).f0)), wrap64 (x288001_1 + ((rd_T78 y291 x6_1).f1))⟩ : S78) [.int .i64 (wrap64 (x288000_1 + ((rd_T78 y291 x6_1).f0))), .int .i64 (wrap64 (x288001_1 + ((rd_T78 y291 x6_1).f1)))] from (k78_mkM _ _ _ (⟨wrap64 (x288000_1 + ((rd_T78 y291 x6_1).f0)), wrap64 (x288001_1 + ((rd_T78 y291 x6_1).f1))⟩ : S78) )) (Reps.c2 (show Kd.M k78 _ _ _ (⟨wrap64 ((wrap64 (x288000_1 + ((rd_T78 y291 x6_1).f0))) - 1), wrap64 (x288001_1 + ((rd_T78 y291 x6_1).f1))⟩ : S78) [.int .i64 (wrap64 ((wrap64 (x288000_1 + ((rd_T78 y291 x6_1).f0))) - 1)), .int .i64 (wrap64 (x288001_1 + ((rd_T78 y291 x6_1).f1)))] from (k78_mkM _ _ _ (⟨wrap64 ((wrap64 (x288000_1 + ((rd_T78 y291 x6_1).f0))) - 1), wrap64 (x288001_1 + ((rd_T78 y291 x6_1).f1))⟩ : S78) )) (Reps.c2 (show Kd.M k78 _ _ _ (⟨wrap64 ((wrap64 (x288000_1 + ((rd_T78 y291 x6_1).f0))) - 1), wrap64 ((wrap64 (x288001_1 + ((rd_T78 y291 x6_1).f1))) - 1)⟩ : S78) [.int .i64 (wrap64 ((wrap64 (x288000_1 + ((rd_T78 y291 x6_1).f0))) - 1)), .int .i64 (wrap64 ((wrap64 (x288001_1 + ((rd_T78 y291 x6_1).f1))) - 1))] from (k78_mkM _ _ _ (⟨wrap64 ((wrap64 (x288000_1 + ((rd_T78 y291 x6_1).f0))) - 1), wrap64 ((wrap64 (x288001_1 + ((rd_T78 y291 x6_1).f1))) - 1)⟩ : S78) )) (Reps.none _ _)))))); intro v297 w43 ho44 hb hg_ hnew_; clear hg_ hnew_; (first | rw [← Ny296.out] at ho44 | (simp only [Int.reduceToNat] at ho44; rw [← Ny296.out] at ho44)); replace HO290 := a0_ (Kd.R_below (by (with_reducible repeat (first | apply Kd.R_alloc | apply Kd.R_drewN | apply Kd.R_drew)); exact (Kd.R_mono (Kd.R_far (p := ⟨gb287, 1, none⟩) (Kd.R_far (p := ⟨gb287, 0, none⟩) (Kd.R_types HO290.out BK287.out (by decide)) (fun _ hk => hk.2) (.int .i64 (wrap64 (x288000_1 + ((rd_T78 y291 x6_1).f0))))) (fun _ hk => hk.2) (.int .i64 (wrap64 (x288001_1 + ((rd_T78 y291 x6_1).f1))))) (fun _ h_ => h_.1))) hb); have HO298 := a0_ (Kd.R_lower (Kd.R_newB (Kd.R_newB (Kd.R_new' ho44 (Kd.R_lt (by (with_reducible repeat (first | apply Kd.R_alloc | apply Kd.R_drewN | apply Kd.R_drew)); exact (Kd.R_mono (Kd.R_far (p := ⟨gb287, 1, none⟩) (Kd.R_far (p := ⟨gb287, 0, none⟩) (Kd.R_mono HO293.out (fun k_ hk => (⟨hk, hk.2⟩ : _ ∧ k_ ≠ gb287))) (fun _ hk => hk.2) (.int .i64 (wrap64 (x288000_1 + ((rd_T78 y291 x6_1).f0))))) (fun _ hk => hk.2) (.int .i64 (wrap64 (x288001_1 + ((rd_T78 y291 x6_1).f1))))) (fun _ h_ => h_.1))))) (g := gb286) (o := .cells #[.int .i64 ((rd_T78 l0 0).f0), .int .i64 ((rd_T78 l0 0).f1)] 78 (0, 0)) (bf_ BK286.out NB286_287.out)) (g := gb287) (o := .cells #[.int .i64 (wrap64 (x288000_1 + ((rd_T78 y291 x6_1).f0))), .int .i64 (wrap64 (x288001_1 + ((rd_T78 y291 x6_1).f1)))] 78 (0, 0)) (by (with_reducible repeat (first | refine blk_drewN ?_ _ | refine blk_drew ?_ | refine blk_alloc ?_ _)); refine blk_put (cs := #[.int .i64 (wrap64 (x288000_1 + ((rd_T78 y291 x6_1).f0))), .int .i64 x288001_1]) ?_ 1 _ rfl; (with_reducible repeat (first | refine blk_drewN ?_ _ | refine blk_drew ?_ | refine blk_alloc ?_ _)); refine blk_put (cs := #[.int .i64 x288000_1, .int .i64 x288001_1]) ?_ 0 _ rfl; (with_reducible repeat (first | refine blk_drewN ?_ _ | refine blk_drew ?_ | refine blk_alloc ?_ _)); exact BK287.out)) (below_size (bl2_ GE286.out GE287.out))); replace HO293 := a0_ (Kd.R_elder' (by (with_reducible repeat (first | apply Kd.R_alloc | apply Kd.R_drewN | apply Kd.R_drew)); exact (Kd.R_mono (Kd.R_far (p := ⟨gb287, 1, none⟩) (Kd.R_far (p := ⟨gb287, 0, none⟩) (Kd.R_mono HO293.out (fun k_ hk => (⟨hk, hk.2⟩ : _ ∧ k_ ≠ gb287))) (fun _ hk => hk.2) (.int .i64 (wrap64 (x288000_1 + ((rd_T78 y291 x6_1).f0))))) (fun _ hk => hk.2) (.int .i64 (wrap64 (x288001_1 + ((rd_T78 y291 x6_1).f1))))) (fun _ h_ => h_.1))) (Kd.R_base ho44) hb); replace BK286 := a0_ (blk_below (g := gb286) (o := .cells #[.int .i64 ((rd_T78 l0 0).f0), .int .i64 ((rd_T78 l0 0).f1)] 78 (0, 0)) (bf_ BK286.out NB286_287.out) hb); replace BK287 := a0_ (blk_below (g := gb287) (o := .cells #[.int .i64 (wrap64 (x288000_1 + ((rd_T78 y291 x6_1).f0))), .int .i64 (wrap64 (x288001_1 + ((rd_T78 y291 x6_1).f1)))] 78 (0, 0)) (by (with_reducible repeat (first | refine blk_drewN ?_ _ | refine blk_drew ?_ | refine blk_alloc ?_ _)); refine blk_put (cs := #[.int .i64 (wrap64 (x288000_1 + ((rd_T78 y291 x6_1).f0))), .int .i64 x288001_1]) ?_ 1 _ rfl; (with_reducible repeat (first | refine blk_drewN ?_ _ | refine blk_drew ?_ | refine blk_alloc ?_ _)); refine blk_put (cs := #[.int .i64 x288000_1, .int .i64 x288001_1]) ?_ 0 _ rfl; (with_reducible repeat (first | refine blk_drewN ?_ _ | refine blk_drew ?_ | refine blk_alloc ?_ _)); exact BK287.out) hb); replace HB := a0_ (below_step (bl2_ GE286.out GE287.out) hb); clear hb ho44))
             replace HO290 := a0_ (Kd.R_drew HO290.out)
             replace HO293 := a0_ (Kd.R_drew HO293.out)
             replace HO298 := a0_ (Kd.R_drew HO298.out)
             replace BK286 := a0_ (blk_drew BK286.out)
             replace BK287 := a0_ (blk_drew BK287.out)
             replace HB := a0_ (below_drew1 HB.out)
             obtain ⟨Ao46, co46, eo46⟩ := Kd.R_slice HO298.out
             (first | subst eo46 | (injection eo46 with f1_ f2_ f3_; have f4_ := f1_.symm; have f5_ := f3_.symm; clear f1_ f2_ f3_; subst f4_; subst f5_))
             have p299 : 0 ≤ (x6_1 : Int) := od_
             have q299 : x6_1 < (y296.length : Int) := od_
             obtain ⟨ad299, e299, hx299_0, hx299_1⟩ := at_T78 (Kd.R_reads' HO298.out).2.2 x6_1 p299 q299
             cases e299
             replace p299 := eq_true p299
             replace q299 := eq_true q299
             have p300 : 0 ≤ ((ji28) : Int) := od_
             have q300 : (ji28) < (y296.length : Int) := od_
             obtain ⟨ad300, e300, hx300_0, hx300_1⟩ := at_T78 (Kd.R_reads' HO298.out).2.2 (ji28) p300 q300
             obtain rfl : ad299 = ad300 := (by injection e300)
             replace p300 := eq_true p300
             replace q300 := eq_true q300
             refine start_ (n := 14) (S := fun w' => w'.cell? (ad299.add ((x6_1).toNat * 2)) = some (.int .i64 ((rd_T78 y296 x6_1).f0)) ∧ w'.cell? ⟨(ad299.add ((x6_1).toNat * 2)).block, (ad299.add ((x6_1).toNat * 2)).off + 1, none⟩ = some (.int .i64 ((rd_T78 y296 x6_1).f1)) ∧ w'.cell? (ad299.add (((ji28)).toNat * 2)) = some (.int .i64 ((rd_T78 y296 (ji28)).f0)) ∧ w'.cell? ⟨(ad299.add (((ji28)).toNat * 2)).block, (ad299.add (((ji28)).toNat * 2)).off + 1, none⟩ = some (.int .i64 ((rd_T78 y296 (ji28)).f1))) (ds := []) (mk_ 0 14) kr_ rfl rfl ⟨hx299_0, hx299_1, hx300_0, hx300_1⟩ (fun hHeld => ?_); refine with_tabW spec_l23Word.tab11 spec_l23Word.bits11 (fun HT_ HW_ => ?_)
             generalize w43.drew = w45 at HO290 HO293 HO298 BK286 BK287 HB hx299_0 hx299_1 hx300_0 hx300_1 hHeld ⊢
             refine pu_ 0 (some 69) (mk_ 1 13) HT_ ?_
             refine pu_ 1 (some 70) (mk_ 2 12) HT_ ?_
             refine pu_ 2 (some 71) (mk_ 3 11) HT_ ?_
             refine pu_ 4 (some 73) #[true, true, true, false, true, false, false, false, false, false, false, false, false, false] HT_ ?_
             refine pu_ 5 (some 74) #[true, true, true, false, true, true, false, false, false, false, false, false, false, false] HT_ ?_
             refine pu_ 6 (some 75) #[true, true, true, false, true, true, true, false, false, false, false, false, false, false] HT_ ?_
             refine pu_ 7 (some 76) #[true, true, true, false, true, true, true, true, false, false, false, false, false, false] HT_ ?_
             refine pu_ 8 (some 77) #[true, true, true, false, true, true, true, true, true, false, false, false, false, false] HT_ ?_
             refine tk_ 3 (some 72) (mk_ 9 5) HT_ HW_ hHeld (hy := .inl ⟨by rfl, by rintro w' ⟨s0, s1, s2, s3⟩; go_simp; with_reducible rfl⟩) ?_
             refine tk_ 9 (some 78) (mk_ 10 4) HT_ HW_ hHeld (hy := .inl ⟨by rfl, by rintro w' ⟨s0, s1, s2, s3⟩; go_simp; with_reducible rfl⟩) ?_
             refine join_ (σ := Nat × Nat) 2 (mk_ 12 2) (fun s_ => [(9, .pointer (some ⟨s_.1, 0, none⟩)), (10, .pointer (some ⟨s_.2, 0, none⟩))]) (fun s_ w' => (w'.cell? (ad299.add ((x6_1).toNat * 2)) = some (.int .i64 ((rd_T78 y296 x6_1).f0)) ∧ w'.cell? ⟨(ad299.add ((x6_1).toNat * 2)).block, (ad299.add ((x6_1).toNat * 2)).off + 1, none⟩ = some (.int .i64 ((rd_T78 y296 x6_1).f1)) ∧ w'.cell? (ad299.add (((ji28)).toNat * 2)) = some (.int .i64 ((rd_T78 y296 (ji28)).f0)) ∧ w'.cell? ⟨(ad299.add (((ji28)).toNat * 2)).block, (ad299.add (((ji28)).toNat * 2)).off + 1, none⟩ = some (.int .i64 ((rd_T78 y296 (ji28)).f1))) ∧ (Kd.R (Kd.int .u8) 5 w' w.heap.size (fun _ => True) v289 y288) ∧ (Kd.R k78 78 w' w.heap.size (fun k_ => some k_ ≠ (.slice (some ad299) y296.length co46 : Value).ownBlock ∧ k_ ≠ gb286 ∧ k_ ≠ gb287 ∧ k_ ≠ s_.1 ∧ k_ ≠ s_.2) (.slice (some ad294) y291.length co37) y291) ∧ (Kd.R k78 78 w' w.heap.size (fun k_ => some k_ ≠ (.slice (some ad294) y291.length co37 : Value).ownBlock ∧ k_ ≠ gb286 ∧ k_ ≠ gb287 ∧ k_ ≠ s_.1 ∧ k_ ≠ s_.2) (.slice (some ad299) y296.length co46) y296) ∧ (w'.heap[gb286]? = some (.cells #[.int .i64 ((rd_T78 l0 0).f0), .int .i64 ((rd_T78 l0 0).f1)] 78 (0, 0))) ∧ (w'.heap[gb287]? = some (.cells #[.int .i64 (wrap64 (x288000_1 + ((rd_T78 y291 x6_1).f0))), .int .i64 (wrap64 (x288001_1 + ((rd_T78 y291 x6_1).f1)))] 78 (0, 0))) ∧ (w'.heap[s_.1]? = some (.cells #[.int .i64 0, .int .i64 0] 78 (0, 0))) ∧ (w'.heap[s_.2]? = some (.cells #[.int .i64 0, .int .i64 0] 78 (0, 0))) ∧ (w.heap.size ≤ s_.1) ∧ (w.heap.size ≤ s_.1) ∧ (gb286 ≠ s_.1) ∧ (s_.1 ≠ gb286) ∧ (gb287 ≠ s_.1) ∧ (s_.1 ≠ gb287) ∧ (s_.2 ≠ s_.1) ∧ (s_.1 ≠ s_.2) ∧ (w.heap.size ≤ s_.2) ∧ (w.heap.size ≤ s_.2) ∧ (gb286 ≠ s_.2) ∧ (s_.2 ≠ gb286) ∧ (gb287 ≠ s_.2) ∧ (s_.2 ≠ gb287) ∧ (Below w.heap.size w w')) ?_ ?_
             rotate_left
             ·intro hCont
              refine two_ (i := 10) (j := 11) (Ni := some 9) (Nj := some 10) (mk_ 11 3) #[true, true, true, true, true, true, true, true, true, true, false, true, false, false] rfl rfl rfl rfl (two_of HT_.out kr_) (by decide) (by decide) (fun K hK => ?_) (fun K hK => ?_)
              ·skip
               refine box_step ?hg (N := 9) ?hd (cs := #[.int .i64 0, .int .i64 0]) (t := 78) ?hr ?_; (case hd => rfl); (case hg => rfl); (case hr => first | (go_simp; done) | (go_simp; rfl))
               intro gb301 hg w47 hbox hb
               have HS0_ := (hb.cell (World.block_lt_of_cell? _ _ (hHeld.1))).trans (hHeld.1)
               have HS1_ := (hb.cell (World.block_lt_of_cell? _ _ (hHeld.2.1))).trans (hHeld.2.1)
               have HS2_ := (hb.cell (World.block_lt_of_cell? _ _ (hHeld.2.2.1))).trans (hHeld.2.2.1)
               have HS3_ := (hb.cell (World.block_lt_of_cell? _ _ (hHeld.2.2.2))).trans (hHeld.2.2.2)
               replace HO290 := a0_ (Kd.R_below (ra_ HO290.out) hb)
               replace HO293 := a0_ (Kd.R_below (Kd.R_elderB (ra_ HO293.out) gb301 (Nat.le_of_eq hg.symm)) hb)
               replace HO298 := a0_ (Kd.R_below (Kd.R_elderB (ra_ HO298.out) gb301 (Nat.le_of_eq hg.symm)) hb)
               have BK301 := a0_ (hbox)
               have GW301 := a0_ ((sz_ hg (bl2_ GE286.out GE287.out) : w.heap.size ≤ gb301))
               have GE301 := a0_ ((sz_ hg (bl2_ GE286.out GE287.out) : w.heap.size ≤ gb301))
               replace HB := a0_ (below_step (bl2_ GE286.out GE287.out) hb)
               have NB286_301 := a0_ ((nl_ hg BK286.out : gb286 ≠ gb301))
               have NB301_286 := a0_ ((ng_ hg BK286.out : gb301 ≠ gb286))
               replace BK286 := a0_ (bb_ BK286.out hb)
               have NB287_301 := a0_ ((nl_ hg BK287.out : gb287 ≠ gb301))
               have NB301_287 := a0_ ((ng_ hg BK287.out : gb301 ≠ gb287))
               replace BK287 := a0_ (bb_ BK287.out hb)
               clear hb hbox hg
               refine hK.out _ _ ⟨HS0_, HS1_, HS2_, HS3_⟩ (fun hHeld => ?_)
               clear hK K
               refine nm_ ?_
               refine one_ (i := 11) (N := some 10) (mk_ 12 2) rfl rfl (one_of HT_.out kr_) (by decide) (fun K hK => ?_)
               refine box_step ?hg (N := 10) ?hd (cs := #[.int .i64 0, .int .i64 0]) (t := 78) ?hr ?_; (case hd => rfl); (case hg => rfl); (case hr => first | (go_simp; done) | (go_simp; rfl))
               intro gb302 hg w48 hbox hb
               have HS0_ := (hb.cell (World.block_lt_of_cell? _ _ (hHeld.1))).trans (hHeld.1)
               have HS1_ := (hb.cell (World.block_lt_of_cell? _ _ (hHeld.2.1))).trans (hHeld.2.1)
               have HS2_ := (hb.cell (World.block_lt_of_cell? _ _ (hHeld.2.2.1))).trans (hHeld.2.2.1)
               have HS3_ := (hb.cell (World.block_lt_of_cell? _ _ (hHeld.2.2.2))).trans (hHeld.2.2.2)
               replace HO290 := a0_ (Kd.R_below (ra_ HO290.out) hb)
               replace HO293 := a0_ (Kd.R_below (Kd.R_elderB (ra_ HO293.out) gb302 (Nat.le_of_eq hg.symm)) hb)
               replace HO298 := a0_ (Kd.R_below (Kd.R_elderB (ra_ HO298.out) gb302 (Nat.le_of_eq hg.symm)) hb)
               have BK302 := a0_ (hbox)
               have GW302 := a0_ ((sz_ hg (bl3_ GE286.out GE287.out GE301.out) : w.heap.size ≤ gb302))
               have GE302 := a0_ ((sz_ hg (bl3_ GE286.out GE287.out GE301.out) : w.heap.size ≤ gb302))
               replace HB := a0_ (below_step (bl3_ GE286.out GE287.out GE301.out) hb)
               have NB286_302 := a0_ ((nl_ hg BK286.out : gb286 ≠ gb302))
               have NB302_286 := a0_ ((ng_ hg BK286.out : gb302 ≠ gb286))
               replace BK286 := a0_ (bb_ BK286.out hb)
               have NB287_302 := a0_ ((nl_ hg BK287.out : gb287 ≠ gb302))
               have NB302_287 := a0_ ((ng_ hg BK287.out : gb302 ≠ gb287))
               replace BK287 := a0_ (bb_ BK287.out hb)
               have NB301_302 := a0_ ((nl_ hg BK301.out : gb301 ≠ gb302))
               have NB302_301 := a0_ ((ng_ hg BK301.out : gb302 ≠ gb301))
               replace BK301 := a0_ (bb_ BK301.out hb)
               clear hb hbox hg
               refine hK.out _ _ ⟨HS0_, HS1_, HS2_, HS3_⟩ (fun hHeld => ?_)
               clear hK K
               refine nm_ ?_
               exact norm_ (by simp only [putAll, Act.put, List.setIfInBounds_toArray, List.set_cons_zero, List.set_cons_succ]) (hCont (gb301, gb302) _ ⟨hHeld, (ra_ HO290.out), (by (with_reducible repeat (first | apply Kd.R_alloc | apply Kd.R_drewN | apply Kd.R_drew)); exact Kd.R_mono HO293.out (fun _ hk => ⟨hk.1.1.2, ⟨hk.1.1.1.1.2, ⟨hk.1.1.1.2, ⟨hk.1.2, hk.2⟩⟩⟩⟩)), (by (with_reducible repeat (first | apply Kd.R_alloc | apply Kd.R_drewN | apply Kd.R_drew)); exact Kd.R_mono HO298.out (fun _ hk => ⟨hk.1.1.1.1.2, ⟨hk.1.1.1.2, ⟨hk.1.1.2, ⟨hk.1.2, hk.2⟩⟩⟩⟩)), (bk_ BK286.out), (bk_ BK287.out), (bk_ BK301.out), (bk_ BK302.out), GW301.out, GE301.out, NB286_301.out, NB301_286.out, NB287_301.out, NB301_287.out, NB302_301.out, NB301_302.out, GW302.out, GE302.out, NB286_302.out, NB302_286.out, NB287_302.out, NB302_287.out, (by repeat (first | (with_reducible first | exact HB.out | apply below_alloc | apply pw_below_drewN | apply below_drew1 | refine below_set ?_ GE286.out | refine below_set ?_ GE287.out | refine below_set ?_ GE301.out | refine below_set ?_ GE302.out) | exact HB.out))⟩)
              ·skip
               refine box_step ?hg (N := 10) ?hd (cs := #[.int .i64 0, .int .i64 0]) (t := 78) ?hr ?_; (case hd => rfl); (case hg => rfl); (case hr => first | (go_simp; done) | (go_simp; rfl))
               intro gb302 hg w47 hbox hb
               have HS0_ := (hb.cell (World.block_lt_of_cell? _ _ (hHeld.1))).trans (hHeld.1)
               have HS1_ := (hb.cell (World.block_lt_of_cell? _ _ (hHeld.2.1))).trans (hHeld.2.1)
               have HS2_ := (hb.cell (World.block_lt_of_cell? _ _ (hHeld.2.2.1))).trans (hHeld.2.2.1)
               have HS3_ := (hb.cell (World.block_lt_of_cell? _ _ (hHeld.2.2.2))).trans (hHeld.2.2.2)
               replace HO290 := a0_ (Kd.R_below (ra_ HO290.out) hb)
               replace HO293 := a0_ (Kd.R_below (Kd.R_elderB (ra_ HO293.out) gb302 (Nat.le_of_eq hg.symm)) hb)
               replace HO298 := a0_ (Kd.R_below (Kd.R_elderB (ra_ HO298.out) gb302 (Nat.le_of_eq hg.symm)) hb)
               have BK302 := a0_ (hbox)
               have GW302 := a0_ ((sz_ hg (bl2_ GE286.out GE287.out) : w.heap.size ≤ gb302))
               have GE302 := a0_ ((sz_ hg (bl2_ GE286.out GE287.out) : w.heap.size ≤ gb302))
               replace HB := a0_ (below_step (bl2_ GE286.out GE287.out) hb)
               have NB286_302 := a0_ ((nl_ hg BK286.out : gb286 ≠ gb302))
               have NB302_286 := a0_ ((ng_ hg BK286.out : gb302 ≠ gb286))
               replace BK286 := a0_ (bb_ BK286.out hb)
               have NB287_302 := a0_ ((nl_ hg BK287.out : gb287 ≠ gb302))
               have NB302_287 := a0_ ((ng_ hg BK287.out : gb302 ≠ gb287))
               replace BK287 := a0_ (bb_ BK287.out hb)
               clear hb hbox hg
               refine hK.out _ _ ⟨HS0_, HS1_, HS2_, HS3_⟩ (fun hHeld => ?_)
               clear hK K
               refine nm_ ?_
               refine one_ (i := 10) (N := some 9) (mk_ 12 2) rfl rfl (one_of HT_.out kr_) (by decide) (fun K hK => ?_)
               refine box_step ?hg (N := 9) ?hd (cs := #[.int .i64 0, .int .i64 0]) (t := 78) ?hr ?_; (case hd => rfl); (case hg => rfl); (case hr => first | (go_simp; done) | (go_simp; rfl))
               intro gb301 hg w48 hbox hb
               have HS0_ := (hb.cell (World.block_lt_of_cell? _ _ (hHeld.1))).trans (hHeld.1)
               have HS1_ := (hb.cell (World.block_lt_of_cell? _ _ (hHeld.2.1))).trans (hHeld.2.1)
               have HS2_ := (hb.cell (World.block_lt_of_cell? _ _ (hHeld.2.2.1))).trans (hHeld.2.2.1)
               have HS3_ := (hb.cell (World.block_lt_of_cell? _ _ (hHeld.2.2.2))).trans (hHeld.2.2.2)
               replace HO290 := a0_ (Kd.R_below (ra_ HO290.out) hb)
               replace HO293 := a0_ (Kd.R_below (Kd.R_elderB (ra_ HO293.out) gb301 (Nat.le_of_eq hg.symm)) hb)
               replace HO298 := a0_ (Kd.R_below (Kd.R_elderB (ra_ HO298.out) gb301 (Nat.le_of_eq hg.symm)) hb)
               have BK301 := a0_ (hbox)
               have GW301 := a0_ ((sz_ hg (bl3_ GE286.out GE287.out GE302.out) : w.heap.size ≤ gb301))
               have GE301 := a0_ ((sz_ hg (bl3_ GE286.out GE287.out GE302.out) : w.heap.size ≤ gb301))
               replace HB := a0_ (below_step (bl3_ GE286.out GE287.out GE302.out) hb)
               have NB286_301 := a0_ ((nl_ hg BK286.out : gb286 ≠ gb301))
               have NB301_286 := a0_ ((ng_ hg BK286.out : gb301 ≠ gb286))
               replace BK286 := a0_ (bb_ BK286.out hb)
               have NB287_301 := a0_ ((nl_ hg BK287.out : gb287 ≠ gb301))
               have NB301_287 := a0_ ((ng_ hg BK287.out : gb301 ≠ gb287))
               replace BK287 := a0_ (bb_ BK287.out hb)
               have NB302_301 := a0_ ((nl_ hg BK302.out : gb302 ≠ gb301))
               have NB301_302 := a0_ ((ng_ hg BK302.out : gb301 ≠ gb302))
               replace BK302 := a0_ (bb_ BK302.out hb)
               clear hb hbox hg
               refine hK.out _ _ ⟨HS0_, HS1_, HS2_, HS3_⟩ (fun hHeld => ?_)
               clear hK K
               refine nm_ ?_
               exact norm_ (by simp only [putAll, Act.put, List.setIfInBounds_toArray, List.set_cons_zero, List.set_cons_succ]) (hCont (gb301, gb302) _ ⟨hHeld, (ra_ HO290.out), (by (with_reducible repeat (first | apply Kd.R_alloc | apply Kd.R_drewN | apply Kd.R_drew)); exact Kd.R_mono HO293.out (fun _ hk => ⟨hk.1.1.2, ⟨hk.1.1.1.1.2, ⟨hk.1.1.1.2, ⟨hk.2, hk.1.2⟩⟩⟩⟩)), (by (with_reducible repeat (first | apply Kd.R_alloc | apply Kd.R_drewN | apply Kd.R_drew)); exact Kd.R_mono HO298.out (fun _ hk => ⟨hk.1.1.1.1.2, ⟨hk.1.1.1.2, ⟨hk.1.1.2, ⟨hk.2, hk.1.2⟩⟩⟩⟩)), (bk_ BK286.out), (bk_ BK287.out), (bk_ BK301.out), (bk_ BK302.out), GW301.out, GE301.out, NB286_301.out, NB301_286.out, NB287_301.out, NB301_287.out, NB302_301.out, NB301_302.out, GW302.out, GE302.out, NB286_302.out, NB302_286.out, NB287_302.out, NB302_287.out, (by repeat (first | (with_reducible first | exact HB.out | apply below_alloc | apply pw_below_drewN | apply below_drew1 | refine below_set ?_ GE286.out | refine below_set ?_ GE287.out | refine below_set ?_ GE302.out | refine below_set ?_ GE301.out) | exact HB.out))⟩)
             rintro ⟨gb301, gb302⟩ w49 ⟨hS_, h0_, h1_, h2_, h3_, h4_, h5_, h6_, h7_, h8_, h9_, h10_, h11_, h12_, h13_, h14_, h15_, h16_, h17_, h18_, h19_, h20_, h21_⟩
             have n0_ : Aside0 (Kd.R (Kd.int .u8) 5 w49 w.heap.size (fun _ => True) v289 y288) := ⟨h0_⟩
             have n1_ : Aside0 (Kd.R k78 78 w49 w.heap.size (fun k_ => some k_ ≠ (.slice (some ad299) y296.length co46 : Value).ownBlock ∧ k_ ≠ gb286 ∧ k_ ≠ gb287 ∧ k_ ≠ gb301 ∧ k_ ≠ gb302) (.slice (some ad294) y291.length co37) y291) := ⟨h1_⟩
             have n2_ : Aside0 (Kd.R k78 78 w49 w.heap.size (fun k_ => some k_ ≠ (.slice (some ad294) y291.length co37 : Value).ownBlock ∧ k_ ≠ gb286 ∧ k_ ≠ gb287 ∧ k_ ≠ gb301 ∧ k_ ≠ gb302) (.slice (some ad299) y296.length co46) y296) := ⟨h2_⟩
             have n3_ : Aside0 (w49.heap[gb286]? = some (.cells #[.int .i64 ((rd_T78 l0 0).f0), .int .i64 ((rd_T78 l0 0).f1)] 78 (0, 0))) := ⟨h3_⟩
             have n4_ : Aside0 (w49.heap[gb287]? = some (.cells #[.int .i64 (wrap64 (x288000_1 + ((rd_T78 y291 x6_1).f0))), .int .i64 (wrap64 (x288001_1 + ((rd_T78 y291 x6_1).f1)))] 78 (0, 0))) := ⟨h4_⟩
             have n5_ : Aside0 (w49.heap[gb301]? = some (.cells #[.int .i64 0, .int .i64 0] 78 (0, 0))) := ⟨h5_⟩
             have n6_ : Aside0 (w49.heap[gb302]? = some (.cells #[.int .i64 0, .int .i64 0] 78 (0, 0))) := ⟨h6_⟩
             have n7_ : Aside0 (w.heap.size ≤ gb301) := ⟨h7_⟩
             have n8_ : Aside0 (w.heap.size ≤ gb301) := ⟨h8_⟩
             have n9_ : Aside0 (gb286 ≠ gb301) := ⟨h9_⟩
             have n10_ : Aside0 (gb301 ≠ gb286) := ⟨h10_⟩
             have n11_ : Aside0 (gb287 ≠ gb301) := ⟨h11_⟩
             have n12_ : Aside0 (gb301 ≠ gb287) := ⟨h12_⟩
             have n13_ : Aside0 (gb302 ≠ gb301) := ⟨h13_⟩
             have n14_ : Aside0 (gb301 ≠ gb302) := ⟨h14_⟩
             have n15_ : Aside0 (w.heap.size ≤ gb302) := ⟨h15_⟩
             have n16_ : Aside0 (w.heap.size ≤ gb302) := ⟨h16_⟩
             have n17_ : Aside0 (gb286 ≠ gb302) := ⟨h17_⟩
             have n18_ : Aside0 (gb302 ≠ gb286) := ⟨h18_⟩
             have n19_ : Aside0 (gb287 ≠ gb302) := ⟨h19_⟩
             have n20_ : Aside0 (gb302 ≠ gb287) := ⟨h20_⟩
             have n21_ : Aside0 (Below w.heap.size w w49) := ⟨h21_⟩
             clear HO290
             clear HO293
             clear HO298
             clear BK286
             clear BK287
             clear HB
             clear h0_ h1_ h2_ h3_ h4_ h5_ h6_ h7_ h8_ h9_ h10_ h11_ h12_ h13_ h14_ h15_ h16_ h17_ h18_ h19_ h20_ h21_
             have HO290 := n0_
             have HO293 := n1_
             have HO298 := n2_
             have BK286 := n3_
             have BK287 := n4_
             have BK301 := n5_
             have BK302 := n6_
             have GW301 := n7_
             have GE301 := n8_
             have NB286_301 := n9_
             have NB301_286 := n10_
             have NB287_301 := n11_
             have NB301_287 := n12_
             have NB302_301 := n13_
             have NB301_302 := n14_
             have GW302 := n15_
             have GE302 := n16_
             have NB286_302 := n17_
             have NB302_286 := n18_
             have NB287_302 := n19_
             have NB302_287 := n20_
             have HB := n21_
             clear n0_ n1_ n2_ n3_ n4_ n5_ n6_ n7_ n8_ n9_ n10_ n11_ n12_ n13_ n14_ n15_ n16_ n17_ n18_ n19_ n20_ n21_
             have hHeld : w49.cell? (ad299.add ((x6_1).toNat * 2)) = some (.int .i64 ((rd_T78 y296 x6_1).f0)) ∧ w49.cell? ⟨(ad299.add ((x6_1).toNat * 2)).block, (ad299.add ((x6_1).toNat * 2)).off + 1, none⟩ = some (.int .i64 ((rd_T78 y296 x6_1).f1)) ∧ w49.cell? (ad299.add (((ji28)).toNat * 2)) = some (.int .i64 ((rd_T78 y296 (ji28)).f0)) ∧ w49.cell? ⟨(ad299.add (((ji28)).toNat * 2)).block, (ad299.add (((ji28)).toNat * 2)).off + 1, none⟩ = some (.int .i64 ((rd_T78 y296 (ji28)).f1)) := hS_
             refine norm_ (a' := ?_) ?_ ?_
             rotate_left
             ·simp only [putAll, Act.put, List.setIfInBounds_toArray, List.set_cons_zero, List.set_cons_succ]
              rfl
             refine one_ (i := 12) (N := none) (mk_ 13 1) rfl rfl (one_of HT_.out kr_) (by decide) (fun K hK => ?_)
             have hs50 : w49.cell? ⟨gb301, 0, none⟩ = some (.int .i64 0) := (blk_cell BK301.out 0).trans rfl
             have hfs50 := blk_frozen BK301.out 0
             have hns50_0 := NB286_301.out
             have hns50_1 := NB287_301.out
             have hns50_3 := NB302_301.out
             have hms50_0 := NB301_286.out
             have hms50_1 := NB301_287.out
             have hms50_3 := NB301_302.out
             have hs51 : w49.cell? ⟨gb301, 1, none⟩ = some (.int .i64 0) := (blk_cell BK301.out 1).trans rfl
             have hfs51 := blk_frozen BK301.out 1
             have hns51_0 := NB286_301.out
             have hns51_1 := NB287_301.out
             have hns51_3 := NB302_301.out
             have hms51_0 := NB301_286.out
             have hms51_1 := NB301_287.out
             have hms51_3 := NB301_302.out
             refine skip_ (w1 := ?_) (by rfl) rfl ?_ ?_
             rotate_left
             ·go_simp
              rfl
             refine hK.out _ _ ⟨((cell_far (p := ⟨gb301, _, none⟩) (by first | exact Kd.own_blk (Kd.R_away HO298.out (fun _ hk => hk.2.2.2.1)) | (rw [add_block]; exact Kd.own_blk (Kd.R_away HO298.out (fun _ hk => hk.2.2.2.1))) | (show (Addr.add _ _).block ≠ _; rw [add_block]; exact Kd.own_blk (Kd.R_away HO298.out (fun _ hk => hk.2.2.2.1))) | (dsimp only; exact Kd.own_blk (Kd.R_away HO298.out (fun _ hk => hk.2.2.2.1)))) _).trans (((cell_far (p := ⟨gb301, _, none⟩) (by first | exact Kd.own_blk (Kd.R_away HO298.out (fun _ hk => hk.2.2.2.1)) | (rw [add_block]; exact Kd.own_blk (Kd.R_away HO298.out (fun _ hk => hk.2.2.2.1))) | (show (Addr.add _ _).block ≠ _; rw [add_block]; exact Kd.own_blk (Kd.R_away HO298.out (fun _ hk => hk.2.2.2.1))) | (dsimp only; exact Kd.own_blk (Kd.R_away HO298.out (fun _ hk => hk.2.2.2.1)))) _).trans (hHeld.1)))), ((cell_far (p := ⟨gb301, _, none⟩) (by first | exact Kd.own_blk (Kd.R_away HO298.out (fun _ hk => hk.2.2.2.1)) | (rw [add_block]; exact Kd.own_blk (Kd.R_away HO298.out (fun _ hk => hk.2.2.2.1))) | (show (Addr.add _ _).block ≠ _; rw [add_block]; exact Kd.own_blk (Kd.R_away HO298.out (fun _ hk => hk.2.2.2.1))) | (dsimp only; exact Kd.own_blk (Kd.R_away HO298.out (fun _ hk => hk.2.2.2.1)))) _).trans (((cell_far (p := ⟨gb301, _, none⟩) (by first | exact Kd.own_blk (Kd.R_away HO298.out (fun _ hk => hk.2.2.2.1)) | (rw [add_block]; exact Kd.own_blk (Kd.R_away HO298.out (fun _ hk => hk.2.2.2.1))) | (show (Addr.add _ _).block ≠ _; rw [add_block]; exact Kd.own_blk (Kd.R_away HO298.out (fun _ hk => hk.2.2.2.1))) | (dsimp only; exact Kd.own_blk (Kd.R_away HO298.out (fun _ hk => hk.2.2.2.1)))) _).trans (hHeld.2.1)))), ((cell_far (p := ⟨gb301, _, none⟩) (by first | exact Kd.own_blk (Kd.R_away HO298.out (fun _ hk => hk.2.2.2.1)) | (rw [add_block]; exact Kd.own_blk (Kd.R_away HO298.out (fun _ hk => hk.2.2.2.1))) | (show (Addr.add _ _).block ≠ _; rw [add_block]; exact Kd.own_blk (Kd.R_away HO298.out (fun _ hk => hk.2.2.2.1))) | (dsimp only; exact Kd.own_blk (Kd.R_away HO298.out (fun _ hk => hk.2.2.2.1)))) _).trans (((cell_far (p := ⟨gb301, _, none⟩) (by first | exact Kd.own_blk (Kd.R_away HO298.out (fun _ hk => hk.2.2.2.1)) | (rw [add_block]; exact Kd.own_blk (Kd.R_away HO298.out (fun _ hk => hk.2.2.2.1))) | (show (Addr.add _ _).block ≠ _; rw [add_block]; exact Kd.own_blk (Kd.R_away HO298.out (fun _ hk => hk.2.2.2.1))) | (dsimp only; exact Kd.own_blk (Kd.R_away HO298.out (fun _ hk => hk.2.2.2.1)))) _).trans (hHeld.2.2.1)))), ((cell_far (p := ⟨gb301, _, none⟩) (by first | exact Kd.own_blk (Kd.R_away HO298.out (fun _ hk => hk.2.2.2.1)) | (rw [add_block]; exact Kd.own_blk (Kd.R_away HO298.out (fun _ hk => hk.2.2.2.1))) | (show (Addr.add _ _).block ≠ _; rw [add_block]; exact Kd.own_blk (Kd.R_away HO298.out (fun _ hk => hk.2.2.2.1))) | (dsimp only; exact Kd.own_blk (Kd.R_away HO298.out (fun _ hk => hk.2.2.2.1)))) _).trans (((cell_far (p := ⟨gb301, _, none⟩) (by first | exact Kd.own_blk (Kd.R_away HO298.out (fun _ hk => hk.2.2.2.1)) | (rw [add_block]; exact Kd.own_blk (Kd.R_away HO298.out (fun _ hk => hk.2.2.2.1))) | (show (Addr.add _ _).block ≠ _; rw [add_block]; exact Kd.own_blk (Kd.R_away HO298.out (fun _ hk => hk.2.2.2.1))) | (dsimp only; exact Kd.own_blk (Kd.R_away HO298.out (fun _ hk => hk.2.2.2.1)))) _).trans (hHeld.2.2.2))))⟩ (fun hHeld => ?_)
             clear hK K
             refine one_ (i := 13) (N := none) (mk_ 14 0) rfl rfl (one_of HT_.out kr_) (by decide) (fun K hK => ?_)
             have hs52 : w49.cell? ⟨gb302, 0, none⟩ = some (.int .i64 0) := (blk_cell BK302.out 0).trans rfl
             have hfs52 := blk_frozen BK302.out 0
             have hns52_0 := NB286_302.out
             have hns52_1 := NB287_302.out
             have hns52_2 := NB301_302.out
             have hms52_0 := NB302_286.out
             have hms52_1 := NB302_287.out
             have hms52_2 := NB302_301.out
             have hs53 : w49.cell? ⟨gb302, 1, none⟩ = some (.int .i64 0) := (blk_cell BK302.out 1).trans rfl
             have hfs53 := blk_frozen BK302.out 1
             have hns53_0 := NB286_302.out
             have hns53_1 := NB287_302.out
             have hns53_2 := NB301_302.out
             have hms53_0 := NB302_286.out
             have hms53_1 := NB302_287.out
             have hms53_2 := NB302_301.out
             refine skip_ (w1 := ?_) (by rfl) rfl ?_ ?_
             rotate_left
             ·go_simp
              rfl
             refine hK.out _ _ ⟨((cell_far (p := ⟨gb302, _, none⟩) (by first | exact Kd.own_blk (Kd.R_away HO298.out (fun _ hk => hk.2.2.2.2)) | (rw [add_block]; exact Kd.own_blk (Kd.R_away HO298.out (fun _ hk => hk.2.2.2.2))) | (show (Addr.add _ _).block ≠ _; rw [add_block]; exact Kd.own_blk (Kd.R_away HO298.out (fun _ hk => hk.2.2.2.2))) | (dsimp only; exact Kd.own_blk (Kd.R_away HO298.out (fun _ hk => hk.2.2.2.2)))) _).trans (((cell_far (p := ⟨gb302, _, none⟩) (by first | exact Kd.own_blk (Kd.R_away HO298.out (fun _ hk => hk.2.2.2.2)) | (rw [add_block]; exact Kd.own_blk (Kd.R_away HO298.out (fun _ hk => hk.2.2.2.2))) | (show (Addr.add _ _).block ≠ _; rw [add_block]; exact Kd.own_blk (Kd.R_away HO298.out (fun _ hk => hk.2.2.2.2))) | (dsimp only; exact Kd.own_blk (Kd.R_away HO298.out (fun _ hk => hk.2.2.2.2)))) _).trans (hHeld.1)))), ((cell_far (p := ⟨gb302, _, none⟩) (by first | exact Kd.own_blk (Kd.R_away HO298.out (fun _ hk => hk.2.2.2.2)) | (rw [add_block]; exact Kd.own_blk (Kd.R_away HO298.out (fun _ hk => hk.2.2.2.2))) | (show (Addr.add _ _).block ≠ _; rw [add_block]; exact Kd.own_blk (Kd.R_away HO298.out (fun _ hk => hk.2.2.2.2))) | (dsimp only; exact Kd.own_blk (Kd.R_away HO298.out (fun _ hk => hk.2.2.2.2)))) _).trans (((cell_far (p := ⟨gb302, _, none⟩) (by first | exact Kd.own_blk (Kd.R_away HO298.out (fun _ hk => hk.2.2.2.2)) | (rw [add_block]; exact Kd.own_blk (Kd.R_away HO298.out (fun _ hk => hk.2.2.2.2))) | (show (Addr.add _ _).block ≠ _; rw [add_block]; exact Kd.own_blk (Kd.R_away HO298.out (fun _ hk => hk.2.2.2.2))) | (dsimp only; exact Kd.own_blk (Kd.R_away HO298.out (fun _ hk => hk.2.2.2.2)))) _).trans (hHeld.2.1)))), ((cell_far (p := ⟨gb302, _, none⟩) (by first | exact Kd.own_blk (Kd.R_away HO298.out (fun _ hk => hk.2.2.2.2)) | (rw [add_block]; exact Kd.own_blk (Kd.R_away HO298.out (fun _ hk => hk.2.2.2.2))) | (show (Addr.add _ _).block ≠ _; rw [add_block]; exact Kd.own_blk (Kd.R_away HO298.out (fun _ hk => hk.2.2.2.2))) | (dsimp only; exact Kd.own_blk (Kd.R_away HO298.out (fun _ hk => hk.2.2.2.2)))) _).trans (((cell_far (p := ⟨gb302, _, none⟩) (by first | exact Kd.own_blk (Kd.R_away HO298.out (fun _ hk => hk.2.2.2.2)) | (rw [add_block]; exact Kd.own_blk (Kd.R_away HO298.out (fun _ hk => hk.2.2.2.2))) | (show (Addr.add _ _).block ≠ _; rw [add_block]; exact Kd.own_blk (Kd.R_away HO298.out (fun _ hk => hk.2.2.2.2))) | (dsimp only; exact Kd.own_blk (Kd.R_away HO298.out (fun _ hk => hk.2.2.2.2)))) _).trans (hHeld.2.2.1)))), ((cell_far (p := ⟨gb302, _, none⟩) (by first | exact Kd.own_blk (Kd.R_away HO298.out (fun _ hk => hk.2.2.2.2)) | (rw [add_block]; exact Kd.own_blk (Kd.R_away HO298.out (fun _ hk => hk.2.2.2.2))) | (show (Addr.add _ _).block ≠ _; rw [add_block]; exact Kd.own_blk (Kd.R_away HO298.out (fun _ hk => hk.2.2.2.2))) | (dsimp only; exact Kd.own_blk (Kd.R_away HO298.out (fun _ hk => hk.2.2.2.2)))) _).trans (((cell_far (p := ⟨gb302, _, none⟩) (by first | exact Kd.own_blk (Kd.R_away HO298.out (fun _ hk => hk.2.2.2.2)) | (rw [add_block]; exact Kd.own_blk (Kd.R_away HO298.out (fun _ hk => hk.2.2.2.2))) | (show (Addr.add _ _).block ≠ _; rw [add_block]; exact Kd.own_blk (Kd.R_away HO298.out (fun _ hk => hk.2.2.2.2))) | (dsimp only; exact Kd.own_blk (Kd.R_away HO298.out (fun _ hk => hk.2.2.2.2)))) _).trans (hHeld.2.2.2))))⟩ (fun hHeld => ?_)
             clear hK K
             refine done_ (done_of HT_.out kr_) ?_
             have hnb54 := NB301_286.out
             have hnc54 := NB286_301.out
             have hnb55 := NB301_287.out
             have hnc55 := NB287_301.out
             have hnb56 := NB301_302.out
             have hnc56 := NB302_301.out
             have hcz57_0 : w49.cell? ⟨gb301, 0, none⟩ = some (.int .i64 0) := (blk_cell BK301.out 0).trans rfl
             have hcz57_1 : w49.cell? ⟨gb301, 1, none⟩ = some (.int .i64 0) := (blk_cell BK301.out 1).trans rfl
             have hfz57_0 := blk_frozen BK301.out 0
             have hfz57_1 := blk_frozen BK301.out 1
             try go_wp2_with (first | ((with_reducible refine gate_callee (f := 70) rfl ?_); refine goesL_ (some 82) rfl rfl Tryd.func70 kr_ rfl #[.slice (some ad285) l0.length c0, .agg #[.int .i64 ((rd_T78 y296 x6_1).f0), .int .i64 ((rd_T78 y296 x6_1).f1)]] rfl ta_ ?_; (with_reducible refine (spec_l02Index.calls k1 _ _ l0 ((rd_T78 y296 x6_1).f0) ((rd_T78 y296 x6_1).f1) t303 _ ?side1 ?side2 A31.out).mono ?_); (case side1 => exact Kd.C_below HR0.out (by repeat (first | (with_reducible first | exact HB.out | apply below_alloc | apply pw_below_drewN | apply below_drew1 | refine below_set ?_ GE286.out | refine below_set ?_ GE287.out | refine below_set ?_ GE301.out | refine below_set ?_ GE302.out) | exact HB.out))); (case side2 => exact HC0.out); rintro e w58 ⟨rfl, hb⟩; refine ⟨_, rfl, ?_⟩; replace HO290 := a0_ (Kd.R_below (by (with_reducible repeat (first | apply Kd.R_alloc | apply Kd.R_drewN | apply Kd.R_drew)); exact (Kd.R_mono (Kd.R_mono (Kd.R_far (p := ⟨gb302, 1, none⟩) (Kd.R_far (p := ⟨gb302, 0, none⟩) (Kd.R_far (p := ⟨gb301, 1, none⟩) (Kd.R_far (p := ⟨gb301, 0, none⟩) (Kd.R_types (Kd.R_types HO290.out BK301.out (by decide)) BK302.out (by decide)) (fun _ hk => hk.1.2) (.int .i64 ((rd_T78 y296 x6_1).f0))) (fun _ hk => hk.1.2) (.int .i64 ((rd_T78 y296 x6_1).f1))) (fun _ hk => hk.2) (.int .i64 ((rd_T78 y296 (ji28)).f0))) (fun _ hk => hk.2) (.int .i64 ((rd_T78 y296 (ji28)).f1))) (fun _ h_ => h_.1)) (fun _ h_ => h_.1))) hb); replace HO293 := a0_ (Kd.R_below (by (with_reducible repeat (first | apply Kd.R_alloc | apply Kd.R_drewN | apply Kd.R_drew)); exact (Kd.R_mono (Kd.R_mono (Kd.R_far (p := ⟨gb302, 1, none⟩) (Kd.R_far (p := ⟨gb302, 0, none⟩) (Kd.R_far (p := ⟨gb301, 1, none⟩) (Kd.R_far (p := ⟨gb301, 0, none⟩) (Kd.R_mono (Kd.R_mono HO293.out (fun k_ hk => (⟨hk, hk.2.2.2.1⟩ : _ ∧ k_ ≠ gb301))) (fun k_ hk => (⟨hk, hk.1.2.2.2.2⟩ : _ ∧ k_ ≠ gb302))) (fun _ hk => hk.1.2) (.int .i64 ((rd_T78 y296 x6_1).f0))) (fun _ hk => hk.1.2) (.int .i64 ((rd_T78 y296 x6_1).f1))) (fun _ hk => hk.2) (.int .i64 ((rd_T78 y296 (ji28)).f0))) (fun _ hk => hk.2) (.int .i64 ((rd_T78 y296 (ji28)).f1))) (fun _ h_ => h_.1)) (fun _ h_ => h_.1))) hb); replace HO298 := a0_ (Kd.R_below (by (with_reducible repeat (first | apply Kd.R_alloc | apply Kd.R_drewN | apply Kd.R_drew)); exact (Kd.R_mono (Kd.R_mono (Kd.R_far (p := ⟨gb302, 1, none⟩) (Kd.R_far (p := ⟨gb302, 0, none⟩) (Kd.R_far (p := ⟨gb301, 1, none⟩) (Kd.R_far (p := ⟨gb301, 0, none⟩) (Kd.R_mono (Kd.R_mono HO298.out (fun k_ hk => (⟨hk, hk.2.2.2.1⟩ : _ ∧ k_ ≠ gb301))) (fun k_ hk => (⟨hk, hk.1.2.2.2.2⟩ : _ ∧ k_ ≠ gb302))) (fun _ hk => hk.1.2) (.int .i64 ((rd_T78 y296 x6_1).f0))) (fun _ hk => hk.1.2) (.int .i64 ((rd_T78 y296 x6_1).f1))) (fun _ hk => hk.2) (.int .i64 ((rd_T78 y296 (ji28)).f0))) (fun _ hk => hk.2) (.int .i64 ((rd_T78 y296 (ji28)).f1))) (fun _ h_ => h_.1)) (fun _ h_ => h_.1))) hb); replace BK286 := a0_ (blk_below (g := gb286) (o := .cells #[.int .i64 ((rd_T78 l0 0).f0), .int .i64 ((rd_T78 l0 0).f1)] 78 (0, 0)) (by (with_reducible repeat (first | refine blk_drewN ?_ _ | refine blk_drew ?_ | refine blk_alloc ?_ _)); refine blk_far ?_ NB286_302.out _; (with_reducible repeat (first | refine blk_drewN ?_ _ | refine blk_drew ?_ | refine blk_alloc ?_ _)); refine blk_far ?_ NB286_302.out _; (with_reducible repeat (first | refine blk_drewN ?_ _ | refine blk_drew ?_ | refine blk_alloc ?_ _)); refine blk_far ?_ NB286_301.out _; (with_reducible repeat (first | refine blk_drewN ?_ _ | refine blk_drew ?_ | refine blk_alloc ?_ _)); refine blk_far ?_ NB286_301.out _; (with_reducible repeat (first | refine blk_drewN ?_ _ | refine blk_drew ?_ | refine blk_alloc ?_ _)); exact BK286.out) hb); replace BK287 := a0_ (blk_below (g := gb287) (o := .cells #[.int .i64 (wrap64 (x288000_1 + ((rd_T78 y291 x6_1).f0))), .int .i64 (wrap64 (x288001_1 + ((rd_T78 y291 x6_1).f1)))] 78 (0, 0)) (by (with_reducible repeat (first | refine blk_drewN ?_ _ | refine blk_drew ?_ | refine blk_alloc ?_ _)); refine blk_far ?_ NB287_302.out _; (with_reducible repeat (first | refine blk_drewN ?_ _ | refine blk_drew ?_ | refine blk_alloc ?_ _)); refine blk_far ?_ NB287_302.out _; (with_reducible repeat (first | refine blk_drewN ?_ _ | refine blk_drew ?_ | refine blk_alloc ?_ _)); refine blk_far ?_ NB287_301.out _; (with_reducible repeat (first | refine blk_drewN ?_ _ | refine blk_drew ?_ | refine blk_alloc ?_ _)); refine blk_far ?_ NB287_301.out _; (with_reducible repeat (first | refine blk_drewN ?_ _ | refine blk_drew ?_ | refine blk_alloc ?_ _)); exact BK287.out) hb); replace BK301 := a0_ (blk_below (g := gb301) (o := .cells #[.int .i64 ((rd_T78 y296 x6_1).f0), .int .i64 ((rd_T78 y296 x6_1).f1)] 78 (0, 0)) (by (with_reducible repeat (first | refine blk_drewN ?_ _ | refine blk_drew ?_ | refine blk_alloc ?_ _)); refine blk_far ?_ NB301_302.out _; (with_reducible repeat (first | refine blk_drewN ?_ _ | refine blk_drew ?_ | refine blk_alloc ?_ _)); refine blk_far ?_ NB301_302.out _; (with_reducible repeat (first | refine blk_drewN ?_ _ | refine blk_drew ?_ | refine blk_alloc ?_ _)); refine blk_put (cs := #[.int .i64 ((rd_T78 y296 x6_1).f0), .int .i64 0]) ?_ 1 _ rfl; (with_reducible repeat (first | refine blk_drewN ?_ _ | refine blk_drew ?_ | refine blk_alloc ?_ _)); refine blk_put (cs := #[.int .i64 0, .int .i64 0]) ?_ 0 _ rfl; (with_reducible repeat (first | refine blk_drewN ?_ _ | refine blk_drew ?_ | refine blk_alloc ?_ _)); exact BK301.out) hb); replace BK302 := a0_ (blk_below (g := gb302) (o := .cells #[.int .i64 ((rd_T78 y296 (ji28)).f0), .int .i64 ((rd_T78 y296 (ji28)).f1)] 78 (0, 0)) (by (with_reducible repeat (first | refine blk_drewN ?_ _ | refine blk_drew ?_ | refine blk_alloc ?_ _)); refine blk_put (cs := #[.int .i64 ((rd_T78 y296 (ji28)).f0), .int .i64 0]) ?_ 1 _ rfl; (with_reducible repeat (first | refine blk_drewN ?_ _ | refine blk_drew ?_ | refine blk_alloc ?_ _)); refine blk_put (cs := #[.int .i64 0, .int .i64 0]) ?_ 0 _ rfl; (with_reducible repeat (first | refine blk_drewN ?_ _ | refine blk_drew ?_ | refine blk_alloc ?_ _)); refine blk_far ?_ NB302_301.out _; (with_reducible repeat (first | refine blk_drewN ?_ _ | refine blk_drew ?_ | refine blk_alloc ?_ _)); refine blk_far ?_ NB302_301.out _; (with_reducible repeat (first | refine blk_drewN ?_ _ | refine blk_drew ?_ | refine blk_alloc ?_ _)); exact BK302.out) hb); replace HB := a0_ (below_step (by repeat (first | (with_reducible first | exact HB.out | apply below_alloc | apply pw_below_drewN | apply below_drew1 | refine below_set ?_ GE286.out | refine below_set ?_ GE287.out | refine below_set ?_ GE301.out | refine below_set ?_ GE302.out) | exact HB.out)) hb); (try clear hb); (try clear hb2); (try clear hk); (try clear hi)))
             go_roundg k1
             case measure => have := HK1.out; omega
             case rel => exact ⟨(y288), (Int.tmod (wrap64 (x6_1 + 3)) 4), (wrap64 (x288000_1 + ((rd_T78 y291 x6_1).f0))), (wrap64 (x288001_1 + ((rd_T78 y291 x6_1).f1))), rs_, H', ⟨by have := HK1.out; omega⟩, ⟨ra_ HO290.out⟩, ⟨bk_ BK286.out⟩, ⟨bk_ BK287.out⟩, ⟨by repeat (first | (with_reducible first | exact HB.out | apply below_alloc | apply pw_below_drewN | apply below_drew1 | refine below_set ?_ GE286.out | refine below_set ?_ GE287.out | refine below_set ?_ GE301.out | refine below_set ?_ GE302.out) | exact HB.out)⟩⟩
            ·rw [if_neg c32] at H
             have c32b0 : decide (0 ≤ t303) = false := decide_eq_false c32
             clear c32
             obtain ⟨t304, A59, H⟩ := bs_ H
             by_cases c60 : t304 < 0
             ·rw [if_pos c60] at H
              have c60b0 : decide (t304 < 0) = true := decide_eq_true c60
              clear c60
              have H' := Aside0.mk H
              clear H
              have p12 : 0 ≤ (x6_1 : Int) := od_
              have q12 : x6_1 < (4 : Int) := od_
              have hx12 := bt_at (⟨#[114, 100, 108, 117]⟩ : ByteArray) x6_1
              replace p12 := eq_true p12
              replace q12 := eq_true q12
              try go_wp2_with (first | ((with_reducible refine gate_builtin (b := .append) (xs := #[.tmp 16, .tmp 19]) rfl ?_); at_builtin; refine Kd.R_append (Kd.int .u8) (w0 := w) w.heap.size rfl (.tmp 16) (.tmp 19) 22 5 (.int .u8 0) 1 rfl Tryd.underlying22 info5 rfl (by decide) (by omega) u3 x3_1 (bt (⟨#[114, 100, 108, 117]⟩ : ByteArray) x6_1) [.int .u8 (bt (⟨#[114, 100, 108, 117]⟩ : ByteArray) x6_1)] (fun _ => True) (fun _ => False) rfl rfl ?aP (fun _ hk => hk.elim) ?aF ?aO ?aB ?aS ?aL ?_; (case aP => exact rfl); (case aB => exact (bl2_ GE286.out GE287.out)); (case aF => exact (fun _ _ => trivial)); (case aO => exact (ra_ HO_3.out)); (case aS => exact (below_size (bl2_ GE286.out GE287.out))); (case aL => have := LMc13.out; omega); intro v289 w61 ho hb hg hat; rw [← Ny288.out] at ho; replace BK286 := a0_ (blk_grown (g := gb286) (o := .cells #[.int .i64 ((rd_T78 l0 0).f0), .int .i64 ((rd_T78 l0 0).f1)] 78 (0, 0)) (bk_ BK286.out) hg (Kd.R_ne HO_3.out BK286.out (by decide))); replace BK287 := a0_ (blk_grown (g := gb287) (o := .cells #[.int .i64 x288000_1, .int .i64 x288001_1] 78 (0, 0)) (bk_ BK287.out) hg (Kd.R_ne HO_3.out BK287.out (by decide))); replace HB := a0_ (hb); have HO290 := a0_ (ho); clear HO_3; clear ho hb hg hat) | ((with_reducible refine gate_dst (N := 25) rfl ?_); refine Kd.R_lit k78 _ 78 ?hg (N := 25) ?hd (xs := ([(⟨1, 0⟩ : S78), (⟨0, 1⟩ : S78), (⟨(-1), 0⟩ : S78), (⟨0, (-1)⟩ : S78)] : List (S78))) (inner := [.int .i64 1, .int .i64 0, .int .i64 0, .int .i64 1, .int .i64 (-1), .int .i64 0, .int .i64 0, .int .i64 (-1)]) (ok := fun _ => True) (okp := fun _ => True) ?hr ?hp (fun _ hk => hk) trivial (Below.refl _ _) (Nat.le_refl _) (by simp) ?_; (case hd => rfl); (case hg => rfl); (case hr => first | (go_simp; done) | (go_simp; rfl)); (case hp => exact (Reps.c2 (show Kd.M k78 _ _ _ (⟨1, 0⟩ : S78) [.int .i64 1, .int .i64 0] from (k78_mkM _ _ _ (⟨1, 0⟩ : S78) )) (Reps.c2 (show Kd.M k78 _ _ _ (⟨0, 1⟩ : S78) [.int .i64 0, .int .i64 1] from (k78_mkM _ _ _ (⟨0, 1⟩ : S78) )) (Reps.c2 (show Kd.M k78 _ _ _ (⟨(-1), 0⟩ : S78) [.int .i64 (-1), .int .i64 0] from (k78_mkM _ _ _ (⟨(-1), 0⟩ : S78) )) (Reps.c2 (show Kd.M k78 _ _ _ (⟨0, (-1)⟩ : S78) [.int .i64 0, .int .i64 (-1)] from (k78_mkM _ _ _ (⟨0, (-1)⟩ : S78) )) (Reps.none _ _)))))); intro v292 w62 ho63 hb hg_ hnew_; clear hg_ hnew_; (first | rw [← Ny291.out] at ho63 | (simp only [Int.reduceToNat] at ho63; rw [← Ny291.out] at ho63)); replace HO290 := a0_ (Kd.R_below (ra_ HO290.out) hb); have HO293 := a0_ (Kd.R_lower (Kd.R_newB (Kd.R_newB ho63 (g := gb286) (o := .cells #[.int .i64 ((rd_T78 l0 0).f0), .int .i64 ((rd_T78 l0 0).f1)] 78 (0, 0)) (bk_ BK286.out)) (g := gb287) (o := .cells #[.int .i64 x288000_1, .int .i64 x288001_1] 78 (0, 0)) (bk_ BK287.out)) (below_size (bl2_ GE286.out GE287.out))); replace BK286 := a0_ (bb_ BK286.out hb); replace BK287 := a0_ (bb_ BK287.out hb); replace HB := a0_ (below_step (bl2_ GE286.out GE287.out) hb); clear hb ho63))
              replace HO290 := a0_ (Kd.R_drew HO290.out)
              replace HO293 := a0_ (Kd.R_drew HO293.out)
              replace BK286 := a0_ (blk_drew BK286.out)
              replace BK287 := a0_ (blk_drew BK287.out)
              replace HB := a0_ (below_drew1 HB.out)
              obtain ⟨Ao65, co65, eo65⟩ := Kd.R_slice HO293.out
              (first | subst eo65 | (injection eo65 with f1_ f2_ f3_; have f4_ := f1_.symm; have f5_ := f3_.symm; clear f1_ f2_ f3_; subst f4_; subst f5_))
              have p294 : 0 ≤ (x6_1 : Int) := od_
              have q294 : x6_1 < (y291.length : Int) := od_
              obtain ⟨ad294, e294, hx294_0, hx294_1⟩ := at_T78 (Kd.R_reads' HO293.out).2.2 x6_1 p294 q294
              cases e294
              replace p294 := eq_true p294
              replace q294 := eq_true q294
              have p295 : 0 ≤ (x6_1 : Int) := od_
              have q295 : x6_1 < (y291.length : Int) := od_
              obtain ⟨ad295, e295, hx295_0, hx295_1⟩ := at_T78 (Kd.R_reads' HO293.out).2.2 x6_1 p295 q295
              obtain rfl : ad294 = ad295 := (by injection e295)
              replace p295 := eq_true p295
              replace q295 := eq_true q295
              refine start_ (n := 18) (S := fun w' => w'.cell? ⟨gb287, 0, none⟩ = some (.int .i64 x288000_1) ∧ w'.cell? ⟨gb287, 1, none⟩ = some (.int .i64 x288001_1) ∧ w'.cell? (ad294.add ((x6_1).toNat * 2)) = some (.int .i64 ((rd_T78 y291 x6_1).f0)) ∧ w'.cell? ⟨(ad294.add ((x6_1).toNat * 2)).block, (ad294.add ((x6_1).toNat * 2)).off + 1, none⟩ = some (.int .i64 ((rd_T78 y291 x6_1).f1)) ∧ w'.cell? (ad294.add ((x6_1).toNat * 2)) = some (.int .i64 ((rd_T78 y291 x6_1).f0)) ∧ w'.cell? ⟨(ad294.add ((x6_1).toNat * 2)).block, (ad294.add ((x6_1).toNat * 2)).off + 1, none⟩ = some (.int .i64 ((rd_T78 y291 x6_1).f1))) (ds := [17]) (mk_ 0 18) kr_ rfl rfl ⟨(blk_cell BK287.out 0).trans rfl, (blk_cell BK287.out 1).trans rfl, hx294_0, hx294_1, hx295_0, hx295_1⟩ (fun hHeld => ?_); refine with_tabW spec_l23Word.tab7 spec_l23Word.bits7 (fun HT_ HW_ => ?_)
              generalize w62.drew = w64 at HO290 HO293 BK286 BK287 HB hx294_0 hx294_1 hx295_0 hx295_1 hHeld ⊢
              refine pu_ 0 (some 26) (mk_ 1 17) HT_ ?_
              refine pu_ 2 (some 28) #[true, false, true, false, false, false, false, false, false, false, false, false, false, false, false, false, false, false] HT_ ?_
              refine pu_ 3 (some 29) #[true, false, true, true, false, false, false, false, false, false, false, false, false, false, false, false, false, false] HT_ ?_
              refine pu_ 4 (some 30) #[true, false, true, true, true, false, false, false, false, false, false, false, false, false, false, false, false, false] HT_ ?_
              refine pu_ 5 (some 31) #[true, false, true, true, true, true, false, false, false, false, false, false, false, false, false, false, false, false] HT_ ?_
              refine pu_ 8 (some 34) #[true, false, true, true, true, true, false, false, true, false, false, false, false, false, false, false, false, false] HT_ ?_
              refine pu_ 10 (some 36) #[true, false, true, true, true, true, false, false, true, false, true, false, false, false, false, false, false, false] HT_ ?_
              refine pu_ 11 (some 37) #[true, false, true, true, true, true, false, false, true, false, true, true, false, false, false, false, false, false] HT_ ?_
              refine pu_ 12 (some 38) #[true, false, true, true, true, true, false, false, true, false, true, true, true, false, false, false, false, false] HT_ ?_
              refine pu_ 13 (some 39) #[true, false, true, true, true, true, false, false, true, false, true, true, true, true, false, false, false, false] HT_ ?_
              refine tk_ 1 (some 27) #[true, true, true, true, true, true, false, false, true, false, true, true, true, true, false, false, false, false] HT_ HW_ hHeld (hy := .inl ⟨by rfl, by rintro w' ⟨s0, s1, s2, s3, s4, s5⟩; go_simp; with_reducible rfl⟩) ?_
              refine tk_ 6 (some 32) #[true, true, true, true, true, true, true, false, true, false, true, true, true, true, false, false, false, false] HT_ HW_ hHeld (hy := .inl ⟨by rfl, by rintro w' ⟨s0, s1, s2, s3, s4, s5⟩; go_simp; with_reducible rfl⟩) ?_
              refine pu_ 7 (some 33) #[true, true, true, true, true, true, true, true, true, false, true, true, true, true, false, false, false, false] HT_ ?_
              refine tk_ 9 (some 35) (mk_ 14 4) HT_ HW_ hHeld (hy := .inl ⟨by rfl, by rintro w' ⟨s0, s1, s2, s3, s4, s5⟩; go_simp; with_reducible rfl⟩) ?_
              refine tk_ 14 (some 40) (mk_ 15 3) HT_ HW_ hHeld (hy := .inl ⟨by rfl, by rintro w' ⟨s0, s1, s2, s3, s4, s5⟩; go_simp; with_reducible rfl⟩) ?_
              refine pu_ 15 (some 41) (mk_ 16 2) HT_ ?_
              refine pu_ 16 (some 42) (mk_ 17 1) HT_ ?_
              refine last_ (i := 17) (N := none) (mk_ 18 0) rfl rfl (one_of HT_.out kr_) (by decide) (fun K hK => ?_)
              have hs66 : w64.cell? ⟨gb287, 0, none⟩ = some (.int .i64 x288000_1) := (blk_cell BK287.out 0).trans rfl
              have hfs66 := blk_frozen BK287.out 0
              have hns66_0 := NB286_287.out
              have hms66_0 := NB287_286.out
              have hs67 : w64.cell? ⟨gb287, 1, none⟩ = some (.int .i64 x288001_1) := (blk_cell BK287.out 1).trans rfl
              have hfs67 := blk_frozen BK287.out 1
              have hns67_0 := NB286_287.out
              have hms67_0 := NB287_286.out
              refine skip_ (w1 := ?_) (by rfl) rfl ?_ ?_
              rotate_left
              ·go_simp
               rfl
              refine hK.out _ _ ?_
              clear hK K
              refine done_ (done_of HT_.out kr_) ?_
              have hnb68 := NB287_286.out
              have hnc68 := NB286_287.out
              have hcz69_0 : w64.cell? ⟨gb287, 0, none⟩ = some (.int .i64 x288000_1) := (blk_cell BK287.out 0).trans rfl
              have hcz69_1 : w64.cell? ⟨gb287, 1, none⟩ = some (.int .i64 x288001_1) := (blk_cell BK287.out 1).trans rfl
              have hfz69_0 := blk_frozen BK287.out 0
              have hfz69_1 := blk_frozen BK287.out 1
              have hcz70_0 : w64.cell? ⟨gb286, 0, none⟩ = some (.int .i64 ((rd_T78 l0 0).f0)) := (blk_cell BK286.out 0).trans rfl
              have hcz70_1 : w64.cell? ⟨gb286, 1, none⟩ = some (.int .i64 ((rd_T78 l0 0).f1)) := (blk_cell BK286.out 1).trans rfl
              have hfz70_0 := blk_frozen BK286.out 0
              have hfz70_1 := blk_frozen BK286.out 1
              try go_wp2_with (first | ((with_reducible refine gate_dst (N := 68) rfl ?_); refine Kd.R_lit k78 _ 78 ?hg (N := 68) ?hd (xs := ([(⟨wrap64 (x288000_1 + ((rd_T78 y291 x6_1).f0)), wrap64 ((wrap64 (x288001_1 + ((rd_T78 y291 x6_1).f1))) - 1)⟩ : S78), (⟨wrap64 (x288000_1 + ((rd_T78 y291 x6_1).f0)), wrap64 (x288001_1 + ((rd_T78 y291 x6_1).f1))⟩ : S78), (⟨wrap64 ((wrap64 (x288000_1 + ((rd_T78 y291 x6_1).f0))) - 1), wrap64 (x288001_1 + ((rd_T78 y291 x6_1).f1))⟩ : S78), (⟨wrap64 ((wrap64 (x288000_1 + ((rd_T78 y291 x6_1).f0))) - 1), wrap64 ((wrap64 (x288001_1 + ((rd_T78 y291 x6_1).f1))) - 1)⟩ : S78)] : List (S78))) (inner := [.int .i64 (wrap64 (x288000_1 + ((rd_T78 y291 x6_1).f0))), .int .i64 (wrap64 ((wrap64 (x288001_1 + ((rd_T78 y291 x6_1).f1))) - 1)), .int .i64 (wrap64 (x288000_1 + ((rd_T78 y291 x6_1).f0))), .int .i64 (wrap64 (x288001_1 + ((rd_T78 y291 x6_1).f1))), .int .i64 (wrap64 ((wrap64 (x288000_1 + ((rd_T78 y291 x6_1).f0))) - 1)), .int .i64 (wrap64 (x288001_1 + ((rd_T78 y291 x6_1).f1))), .int .i64 (wrap64 ((wrap64 (x288000_1 + ((rd_T78 y291 x6_1).f0))) - 1)), .int .i64 (wrap64 ((wrap64 (x288001_1 + ((rd_T78 y291 x6_1).f1))) - 1))]) (ok := fun _ => True) (okp := fun _ => True) ?hr ?hp (fun _ hk => hk) trivial (Below.refl _ _) (Nat.le_refl _) (by simp) ?_; (case hd => rfl); (case hg => rfl); (case hr => first | (go_simp; done) | (go_simp; rfl)); (case hp => exact (Reps.c2 (show Kd.M k78 _ _ _ (⟨wrap64 (x288000_1 + ((rd_T78 y291 x6_1).f0)), wrap64 ((wrap64 (x288001_1 + ((rd_T78 y291 x6_1).f1))) - 1)⟩ : S78) [.int .i64 (wrap64 (x288000_1 + ((rd_T78 y291 x6_1).f0))), .int .i64 (wrap64 ((wrap64 (x288001_1 + ((rd_T78 y291 x6_1).f1))) - 1))] from (k78_mkM _ _ _ (⟨wrap64 (x288000_1 + ((rd_T78 y291 x6_1).f0)), wrap64 ((wrap64 (x288001_1 + ((rd_T78 y291 x6_1).f1))) - 1)⟩ : S78) )) (Reps.c2 (show Kd.M k78 _ _ _ (⟨wrap64 (x288000_1 + ((rd_T78 y291 x6_1).f0)), wrap64 (x288001_1 + ((rd_T78 y291 x6_1).f1))⟩ : S78) [.int .i64 (wrap64 (x288000_1 + ((rd_T78 y291 x6_1).f0))), .int .i64 (wrap64 (x288001_1 + ((rd_T78 y291 x6_1).f1)))] from (k78_mkM _ _ _ (⟨wrap64 (x288000_1 + ((rd_T78 y291 x6_1).f0)), wrap64 (x288001_1 + ((rd_T78 y291 x6_1).f1))⟩ : S78) )) (Reps.c2 (show Kd.M k78 _ _ _ (⟨wrap64 ((wrap64 (x288000_1 + ((rd_T78 y291 x6_1).f0))) - 1), wrap64 (x288001_1 + ((rd_T78 y291 x6_1).f1))⟩ : S78) [.int .i64 (wrap64 ((wrap64 (x288000_1 + ((rd_T78 y291 x6_1).f0))) - 1)), .int .i64 (wrap64 (x288001_1 + ((rd_T78 y291 x6_1).f1)))] from (k78_mkM _ _ _ (⟨wrap64 ((wrap64 (x288000_1 + ((rd_T78 y291 x6_1).f0))) - 1), wrap64 (x288001_1 + ((rd_T78 y291 x6_1).f1))⟩ : S78) )) (Reps.c2 (show Kd.M k78 _ _ _ (⟨wrap64 ((wrap64 (x288000_1 + ((rd_T78 y291 x6_1).f0))) - 1), wrap64 ((wrap64 (x288001_1 + ((rd_T78 y291 x6_1).f1))) - 1)⟩ : S78) [.int .i64 (wrap64 ((wrap64 (x288000_1 + ((rd_T78 y291 x6_1).f0))) - 1)), .int .i64 (wrap64 ((wrap64 (x288001_1 + ((rd_T78 y291 x6_1).f1))) - 1))] from (k78_mkM _ _ _ (⟨wrap64 ((wrap64 (x288000_1 + ((rd_T78 y291 x6_1).f0))) - 1), wrap64 ((wrap64 (x288001_1 + ((rd_T78 y291 x6_1).f1))) - 1)⟩ : S78) )) (Reps.none _ _)))))); intro v297 w71 ho72 hb hg_ hnew_; clear hg_ hnew_; (first | rw [← Ny296.out] at ho72 | (simp only [Int.reduceToNat] at ho72; rw [← Ny296.out] at ho72)); replace HO290 := a0_ (Kd.R_below (by (with_reducible repeat (first | apply Kd.R_alloc | apply Kd.R_drewN | apply Kd.R_drew)); exact (Kd.R_mono (Kd.R_far (p := ⟨gb287, 1, none⟩) (Kd.R_far (p := ⟨gb287, 0, none⟩) (Kd.R_types HO290.out BK287.out (by decide)) (fun _ hk => hk.2) (.int .i64 (wrap64 (x288000_1 + ((rd_T78 y291 x6_1).f0))))) (fun _ hk => hk.2) (.int .i64 (wrap64 (x288001_1 + ((rd_T78 y291 x6_1).f1))))) (fun _ h_ => h_.1))) hb); have HO298 := a0_ (Kd.R_lower (Kd.R_newB (Kd.R_newB (Kd.R_new' ho72 (Kd.R_lt (by (with_reducible repeat (first | apply Kd.R_alloc | apply Kd.R_drewN | apply Kd.R_drew)); exact (Kd.R_mono (Kd.R_far (p := ⟨gb287, 1, none⟩) (Kd.R_far (p := ⟨gb287, 0, none⟩) (Kd.R_mono HO293.out (fun k_ hk => (⟨hk, hk.2⟩ : _ ∧ k_ ≠ gb287))) (fun _ hk => hk.2) (.int .i64 (wrap64 (x288000_1 + ((rd_T78 y291 x6_1).f0))))) (fun _ hk => hk.2) (.int .i64 (wrap64 (x288001_1 + ((rd_T78 y291 x6_1).f1))))) (fun _ h_ => h_.1))))) (g := gb286) (o := .cells #[.int .i64 ((rd_T78 l0 0).f0), .int .i64 ((rd_T78 l0 0).f1)] 78 (0, 0)) (bf_ BK286.out NB286_287.out)) (g := gb287) (o := .cells #[.int .i64 (wrap64 (x288000_1 + ((rd_T78 y291 x6_1).f0))), .int .i64 (wrap64 (x288001_1 + ((rd_T78 y291 x6_1).f1)))] 78 (0, 0)) (by (with_reducible repeat (first | refine blk_drewN ?_ _ | refine blk_drew ?_ | refine blk_alloc ?_ _)); refine blk_put (cs := #[.int .i64 (wrap64 (x288000_1 + ((rd_T78 y291 x6_1).f0))), .int .i64 x288001_1]) ?_ 1 _ rfl; (with_reducible repeat (first | refine blk_drewN ?_ _ | refine blk_drew ?_ | refine blk_alloc ?_ _)); refine blk_put (cs := #[.int .i64 x288000_1, .int .i64 x288001_1]) ?_ 0 _ rfl; (with_reducible repeat (first | refine blk_drewN ?_ _ | refine blk_drew ?_ | refine blk_alloc ?_ _)); exact BK287.out)) (below_size (bl2_ GE286.out GE287.out))); replace HO293 := a0_ (Kd.R_elder' (by (with_reducible repeat (first | apply Kd.R_alloc | apply Kd.R_drewN | apply Kd.R_drew)); exact (Kd.R_mono (Kd.R_far (p := ⟨gb287, 1, none⟩) (Kd.R_far (p := ⟨gb287, 0, none⟩) (Kd.R_mono HO293.out (fun k_ hk => (⟨hk, hk.2⟩ : _ ∧ k_ ≠ gb287))) (fun _ hk => hk.2) (.int .i64 (wrap64 (x288000_1 + ((rd_T78 y291 x6_1).f0))))) (fun _ hk => hk.2) (.int .i64 (wrap64 (x288001_1 + ((rd_T78 y291 x6_1).f1))))) (fun _ h_ => h_.1))) (Kd.R_base ho72) hb); replace BK286 := a0_ (blk_below (g := gb286) (o := .cells #[.int .i64 ((rd_T78 l0 0).f0), .int .i64 ((rd_T78 l0 0).f1)] 78 (0, 0)) (bf_ BK286.out NB286_287.out) hb); replace BK287 := a0_ (blk_below (g := gb287) (o := .cells #[.int .i64 (wrap64 (x288000_1 + ((rd_T78 y291 x6_1).f0))), .int .i64 (wrap64 (x288001_1 + ((rd_T78 y291 x6_1).f1)))] 78 (0, 0)) (by (with_reducible repeat (first | refine blk_drewN ?_ _ | refine blk_drew ?_ | refine blk_alloc ?_ _)); refine blk_put (cs := #[.int .i64 (wrap64 (x288000_1 + ((rd_T78 y291 x6_1).f0))), .int .i64 x288001_1]) ?_ 1 _ rfl; (with_reducible repeat (first | refine blk_drewN ?_ _ | refine blk_drew ?_ | refine blk_alloc ?_ _)); refine blk_put (cs := #[.int .i64 x288000_1, .int .i64 x288001_1]) ?_ 0 _ rfl; (with_reducible repeat (first | refine blk_drewN ?_ _ | refine blk_drew ?_ | refine blk_alloc ?_ _)); exact BK287.out) hb); replace HB := a0_ (below_step (bl2_ GE286.out GE287.out) hb); clear hb ho72))
              replace HO290 := a0_ (Kd.R_drew HO290.out)
              replace HO293 := a0_ (Kd.R_drew HO293.out)
              replace HO298 := a0_ (Kd.R_drew HO298.out)
              replace BK286 := a0_ (blk_drew BK286.out)
              replace BK287 := a0_ (blk_drew BK287.out)
              replace HB := a0_ (below_drew1 HB.out)
              obtain ⟨Ao74, co74, eo74⟩ := Kd.R_slice HO298.out
              (first | subst eo74 | (injection eo74 with f1_ f2_ f3_; have f4_ := f1_.symm; have f5_ := f3_.symm; clear f1_ f2_ f3_; subst f4_; subst f5_))
              have p299 : 0 ≤ (x6_1 : Int) := od_
              have q299 : x6_1 < (y296.length : Int) := od_
              obtain ⟨ad299, e299, hx299_0, hx299_1⟩ := at_T78 (Kd.R_reads' HO298.out).2.2 x6_1 p299 q299
              cases e299
              replace p299 := eq_true p299
              replace q299 := eq_true q299
              have p300 : 0 ≤ ((ji28) : Int) := od_
              have q300 : (ji28) < (y296.length : Int) := od_
              obtain ⟨ad300, e300, hx300_0, hx300_1⟩ := at_T78 (Kd.R_reads' HO298.out).2.2 (ji28) p300 q300
              obtain rfl : ad299 = ad300 := (by injection e300)
              replace p300 := eq_true p300
              replace q300 := eq_true q300
              refine start_ (n := 14) (S := fun w' => w'.cell? (ad299.add ((x6_1).toNat * 2)) = some (.int .i64 ((rd_T78 y296 x6_1).f0)) ∧ w'.cell? ⟨(ad299.add ((x6_1).toNat * 2)).block, (ad299.add ((x6_1).toNat * 2)).off + 1, none⟩ = some (.int .i64 ((rd_T78 y296 x6_1).f1)) ∧ w'.cell? (ad299.add (((ji28)).toNat * 2)) = some (.int .i64 ((rd_T78 y296 (ji28)).f0)) ∧ w'.cell? ⟨(ad299.add (((ji28)).toNat * 2)).block, (ad299.add (((ji28)).toNat * 2)).off + 1, none⟩ = some (.int .i64 ((rd_T78 y296 (ji28)).f1))) (ds := []) (mk_ 0 14) kr_ rfl rfl ⟨hx299_0, hx299_1, hx300_0, hx300_1⟩ (fun hHeld => ?_); refine with_tabW spec_l23Word.tab11 spec_l23Word.bits11 (fun HT_ HW_ => ?_)
              generalize w71.drew = w73 at HO290 HO293 HO298 BK286 BK287 HB hx299_0 hx299_1 hx300_0 hx300_1 hHeld ⊢
              refine pu_ 0 (some 69) (mk_ 1 13) HT_ ?_
              refine pu_ 1 (some 70) (mk_ 2 12) HT_ ?_
              refine pu_ 2 (some 71) (mk_ 3 11) HT_ ?_
              refine pu_ 4 (some 73) #[true, true, true, false, true, false, false, false, false, false, false, false, false, false] HT_ ?_
              refine pu_ 5 (some 74) #[true, true, true, false, true, true, false, false, false, false, false, false, false, false] HT_ ?_
              refine pu_ 6 (some 75) #[true, true, true, false, true, true, true, false, false, false, false, false, false, false] HT_ ?_
              refine pu_ 7 (some 76) #[true, true, true, false, true, true, true, true, false, false, false, false, false, false] HT_ ?_
              refine pu_ 8 (some 77) #[true, true, true, false, true, true, true, true, true, false, false, false, false, false] HT_ ?_
              refine tk_ 3 (some 72) (mk_ 9 5) HT_ HW_ hHeld (hy := .inl ⟨by rfl, by rintro w' ⟨s0, s1, s2, s3⟩; go_simp; with_reducible rfl⟩) ?_
              refine tk_ 9 (some 78) (mk_ 10 4) HT_ HW_ hHeld (hy := .inl ⟨by rfl, by rintro w' ⟨s0, s1, s2, s3⟩; go_simp; with_reducible rfl⟩) ?_
              refine join_ (σ := Nat × Nat) 2 (mk_ 12 2) (fun s_ => [(9, .pointer (some ⟨s_.1, 0, none⟩)), (10, .pointer (some ⟨s_.2, 0, none⟩))]) (fun s_ w' => (w'.cell? (ad299.add ((x6_1).toNat * 2)) = some (.int .i64 ((rd_T78 y296 x6_1).f0)) ∧ w'.cell? ⟨(ad299.add ((x6_1).toNat * 2)).block, (ad299.add ((x6_1).toNat * 2)).off + 1, none⟩ = some (.int .i64 ((rd_T78 y296 x6_1).f1)) ∧ w'.cell? (ad299.add (((ji28)).toNat * 2)) = some (.int .i64 ((rd_T78 y296 (ji28)).f0)) ∧ w'.cell? ⟨(ad299.add (((ji28)).toNat * 2)).block, (ad299.add (((ji28)).toNat * 2)).off + 1, none⟩ = some (.int .i64 ((rd_T78 y296 (ji28)).f1))) ∧ (Kd.R (Kd.int .u8) 5 w' w.heap.size (fun _ => True) v289 y288) ∧ (Kd.R k78 78 w' w.heap.size (fun k_ => some k_ ≠ (.slice (some ad299) y296.length co74 : Value).ownBlock ∧ k_ ≠ gb286 ∧ k_ ≠ gb287 ∧ k_ ≠ s_.1 ∧ k_ ≠ s_.2) (.slice (some ad294) y291.length co65) y291) ∧ (Kd.R k78 78 w' w.heap.size (fun k_ => some k_ ≠ (.slice (some ad294) y291.length co65 : Value).ownBlock ∧ k_ ≠ gb286 ∧ k_ ≠ gb287 ∧ k_ ≠ s_.1 ∧ k_ ≠ s_.2) (.slice (some ad299) y296.length co74) y296) ∧ (w'.heap[gb286]? = some (.cells #[.int .i64 ((rd_T78 l0 0).f0), .int .i64 ((rd_T78 l0 0).f1)] 78 (0, 0))) ∧ (w'.heap[gb287]? = some (.cells #[.int .i64 (wrap64 (x288000_1 + ((rd_T78 y291 x6_1).f0))), .int .i64 (wrap64 (x288001_1 + ((rd_T78 y291 x6_1).f1)))] 78 (0, 0))) ∧ (w'.heap[s_.1]? = some (.cells #[.int .i64 0, .int .i64 0] 78 (0, 0))) ∧ (w'.heap[s_.2]? = some (.cells #[.int .i64 0, .int .i64 0] 78 (0, 0))) ∧ (w.heap.size ≤ s_.1) ∧ (w.heap.size ≤ s_.1) ∧ (gb286 ≠ s_.1) ∧ (s_.1 ≠ gb286) ∧ (gb287 ≠ s_.1) ∧ (s_.1 ≠ gb287) ∧ (s_.2 ≠ s_.1) ∧ (s_.1 ≠ s_.2) ∧ (w.heap.size ≤ s_.2) ∧ (w.heap.size ≤ s_.2) ∧ (gb286 ≠ s_.2) ∧ (s_.2 ≠ gb286) ∧ (gb287 ≠ s_.2) ∧ (s_.2 ≠ gb287) ∧ (Below w.heap.size w w')) ?_ ?_
              rotate_left
              ·intro hCont
               refine two_ (i := 10) (j := 11) (Ni := some 9) (Nj := some 10) (mk_ 11 3) #[true, true, true, true, true, true, true, true, true, true, false, true, false, false] rfl rfl rfl rfl (two_of HT_.out kr_) (by decide) (by decide) (fun K hK => ?_) (fun K hK => ?_)
               ·skip
                refine box_step ?hg (N := 9) ?hd (cs := #[.int .i64 0, .int .i64 0]) (t := 78) ?hr ?_; (case hd => rfl); (case hg => rfl); (case hr => first | (go_simp; done) | (go_simp; rfl))
                intro gb301 hg w75 hbox hb
                have HS0_ := (hb.cell (World.block_lt_of_cell? _ _ (hHeld.1))).trans (hHeld.1)
                have HS1_ := (hb.cell (World.block_lt_of_cell? _ _ (hHeld.2.1))).trans (hHeld.2.1)
                have HS2_ := (hb.cell (World.block_lt_of_cell? _ _ (hHeld.2.2.1))).trans (hHeld.2.2.1)
                have HS3_ := (hb.cell (World.block_lt_of_cell? _ _ (hHeld.2.2.2))).trans (hHeld.2.2.2)
                replace HO290 := a0_ (Kd.R_below (ra_ HO290.out) hb)
                replace HO293 := a0_ (Kd.R_below (Kd.R_elderB (ra_ HO293.out) gb301 (Nat.le_of_eq hg.symm)) hb)
                replace HO298 := a0_ (Kd.R_below (Kd.R_elderB (ra_ HO298.out) gb301 (Nat.le_of_eq hg.symm)) hb)
                have BK301 := a0_ (hbox)
                have GW301 := a0_ ((sz_ hg (bl2_ GE286.out GE287.out) : w.heap.size ≤ gb301))
                have GE301 := a0_ ((sz_ hg (bl2_ GE286.out GE287.out) : w.heap.size ≤ gb301))
                replace HB := a0_ (below_step (bl2_ GE286.out GE287.out) hb)
                have NB286_301 := a0_ ((nl_ hg BK286.out : gb286 ≠ gb301))
                have NB301_286 := a0_ ((ng_ hg BK286.out : gb301 ≠ gb286))
                replace BK286 := a0_ (bb_ BK286.out hb)
                have NB287_301 := a0_ ((nl_ hg BK287.out : gb287 ≠ gb301))
                have NB301_287 := a0_ ((ng_ hg BK287.out : gb301 ≠ gb287))
                replace BK287 := a0_ (bb_ BK287.out hb)
                clear hb hbox hg
                refine hK.out _ _ ⟨HS0_, HS1_, HS2_, HS3_⟩ (fun hHeld => ?_)
                clear hK K
                refine nm_ ?_
                refine one_ (i := 11) (N := some 10) (mk_ 12 2) rfl rfl (one_of HT_.out kr_) (by decide) (fun K hK => ?_)
                refine box_step ?hg (N := 10) ?hd (cs := #[.int .i64 0, .int .i64 0]) (t := 78) ?hr ?_; (case hd => rfl); (case hg => rfl); (case hr => first | (go_simp; done) | (go_simp; rfl))
                intro gb302 hg w76 hbox hb
                have HS0_ := (hb.cell (World.block_lt_of_cell? _ _ (hHeld.1))).trans (hHeld.1)
                have HS1_ := (hb.cell (World.block_lt_of_cell? _ _ (hHeld.2.1))).trans (hHeld.2.1)
                have HS2_ := (hb.cell (World.block_lt_of_cell? _ _ (hHeld.2.2.1))).trans (hHeld.2.2.1)
                have HS3_ := (hb.cell (World.block_lt_of_cell? _ _ (hHeld.2.2.2))).trans (hHeld.2.2.2)
                replace HO290 := a0_ (Kd.R_below (ra_ HO290.out) hb)
                replace HO293 := a0_ (Kd.R_below (Kd.R_elderB (ra_ HO293.out) gb302 (Nat.le_of_eq hg.symm)) hb)
                replace HO298 := a0_ (Kd.R_below (Kd.R_elderB (ra_ HO298.out) gb302 (Nat.le_of_eq hg.symm)) hb)
                have BK302 := a0_ (hbox)
                have GW302 := a0_ ((sz_ hg (bl3_ GE286.out GE287.out GE301.out) : w.heap.size ≤ gb302))
                have GE302 := a0_ ((sz_ hg (bl3_ GE286.out GE287.out GE301.out) : w.heap.size ≤ gb302))
                replace HB := a0_ (below_step (bl3_ GE286.out GE287.out GE301.out) hb)
                have NB286_302 := a0_ ((nl_ hg BK286.out : gb286 ≠ gb302))
                have NB302_286 := a0_ ((ng_ hg BK286.out : gb302 ≠ gb286))
                replace BK286 := a0_ (bb_ BK286.out hb)
                have NB287_302 := a0_ ((nl_ hg BK287.out : gb287 ≠ gb302))
                have NB302_287 := a0_ ((ng_ hg BK287.out : gb302 ≠ gb287))
                replace BK287 := a0_ (bb_ BK287.out hb)
                have NB301_302 := a0_ ((nl_ hg BK301.out : gb301 ≠ gb302))
                have NB302_301 := a0_ ((ng_ hg BK301.out : gb302 ≠ gb301))
                replace BK301 := a0_ (bb_ BK301.out hb)
                clear hb hbox hg
                refine hK.out _ _ ⟨HS0_, HS1_, HS2_, HS3_⟩ (fun hHeld => ?_)
                clear hK K
                refine nm_ ?_
                exact norm_ (by simp only [putAll, Act.put, List.setIfInBounds_toArray, List.set_cons_zero, List.set_cons_succ]) (hCont (gb301, gb302) _ ⟨hHeld, (ra_ HO290.out), (by (with_reducible repeat (first | apply Kd.R_alloc | apply Kd.R_drewN | apply Kd.R_drew)); exact Kd.R_mono HO293.out (fun _ hk => ⟨hk.1.1.2, ⟨hk.1.1.1.1.2, ⟨hk.1.1.1.2, ⟨hk.1.2, hk.2⟩⟩⟩⟩)), (by (with_reducible repeat (first | apply Kd.R_alloc | apply Kd.R_drewN | apply Kd.R_drew)); exact Kd.R_mono HO298.out (fun _ hk => ⟨hk.1.1.1.1.2, ⟨hk.1.1.1.2, ⟨hk.1.1.2, ⟨hk.1.2, hk.2⟩⟩⟩⟩)), (bk_ BK286.out), (bk_ BK287.out), (bk_ BK301.out), (bk_ BK302.out), GW301.out, GE301.out, NB286_301.out, NB301_286.out, NB287_301.out, NB301_287.out, NB302_301.out, NB301_302.out, GW302.out, GE302.out, NB286_302.out, NB302_286.out, NB287_302.out, NB302_287.out, (by repeat (first | (with_reducible first | exact HB.out | apply below_alloc | apply pw_below_drewN | apply below_drew1 | refine below_set ?_ GE286.out | refine below_set ?_ GE287.out | refine below_set ?_ GE301.out | refine below_set ?_ GE302.out) | exact HB.out))⟩)
               ·skip
                refine box_step ?hg (N := 10) ?hd (cs := #[.int .i64 0, .int .i64 0]) (t := 78) ?hr ?_; (case hd => rfl); (case hg => rfl); (case hr => first | (go_simp; done) | (go_simp; rfl))
                intro gb302 hg w75 hbox hb
                have HS0_ := (hb.cell (World.block_lt_of_cell? _ _ (hHeld.1))).trans (hHeld.1)
                have HS1_ := (hb.cell (World.block_lt_of_cell? _ _ (hHeld.2.1))).trans (hHeld.2.1)
                have HS2_ := (hb.cell (World.block_lt_of_cell? _ _ (hHeld.2.2.1))).trans (hHeld.2.2.1)
                have HS3_ := (hb.cell (World.block_lt_of_cell? _ _ (hHeld.2.2.2))).trans (hHeld.2.2.2)
                replace HO290 := a0_ (Kd.R_below (ra_ HO290.out) hb)
                replace HO293 := a0_ (Kd.R_below (Kd.R_elderB (ra_ HO293.out) gb302 (Nat.le_of_eq hg.symm)) hb)
                replace HO298 := a0_ (Kd.R_below (Kd.R_elderB (ra_ HO298.out) gb302 (Nat.le_of_eq hg.symm)) hb)
                have BK302 := a0_ (hbox)
                have GW302 := a0_ ((sz_ hg (bl2_ GE286.out GE287.out) : w.heap.size ≤ gb302))
                have GE302 := a0_ ((sz_ hg (bl2_ GE286.out GE287.out) : w.heap.size ≤ gb302))
                replace HB := a0_ (below_step (bl2_ GE286.out GE287.out) hb)
                have NB286_302 := a0_ ((nl_ hg BK286.out : gb286 ≠ gb302))
                have NB302_286 := a0_ ((ng_ hg BK286.out : gb302 ≠ gb286))
                replace BK286 := a0_ (bb_ BK286.out hb)
                have NB287_302 := a0_ ((nl_ hg BK287.out : gb287 ≠ gb302))
                have NB302_287 := a0_ ((ng_ hg BK287.out : gb302 ≠ gb287))
                replace BK287 := a0_ (bb_ BK287.out hb)
                clear hb hbox hg
                refine hK.out _ _ ⟨HS0_, HS1_, HS2_, HS3_⟩ (fun hHeld => ?_)
                clear hK K
                refine nm_ ?_
                refine one_ (i := 10) (N := some 9) (mk_ 12 2) rfl rfl (one_of HT_.out kr_) (by decide) (fun K hK => ?_)
                refine box_step ?hg (N := 9) ?hd (cs := #[.int .i64 0, .int .i64 0]) (t := 78) ?hr ?_; (case hd => rfl); (case hg => rfl); (case hr => first | (go_simp; done) | (go_simp; rfl))
                intro gb301 hg w76 hbox hb
                have HS0_ := (hb.cell (World.block_lt_of_cell? _ _ (hHeld.1))).trans (hHeld.1)
                have HS1_ := (hb.cell (World.block_lt_of_cell? _ _ (hHeld.2.1))).trans (hHeld.2.1)
                have HS2_ := (hb.cell (World.block_lt_of_cell? _ _ (hHeld.2.2.1))).trans (hHeld.2.2.1)
                have HS3_ := (hb.cell (World.block_lt_of_cell? _ _ (hHeld.2.2.2))).trans (hHeld.2.2.2)
                replace HO290 := a0_ (Kd.R_below (ra_ HO290.out) hb)
                replace HO293 := a0_ (Kd.R_below (Kd.R_elderB (ra_ HO293.out) gb301 (Nat.le_of_eq hg.symm)) hb)
                replace HO298 := a0_ (Kd.R_below (Kd.R_elderB (ra_ HO298.out) gb301 (Nat.le_of_eq hg.symm)) hb)
                have BK301 := a0_ (hbox)
                have GW301 := a0_ ((sz_ hg (bl3_ GE286.out GE287.out GE302.out) : w.heap.size ≤ gb301))
                have GE301 := a0_ ((sz_ hg (bl3_ GE286.out GE287.out GE302.out) : w.heap.size ≤ gb301))
                replace HB := a0_ (below_step (bl3_ GE286.out GE287.out GE302.out) hb)
                have NB286_301 := a0_ ((nl_ hg BK286.out : gb286 ≠ gb301))
                have NB301_286 := a0_ ((ng_ hg BK286.out : gb301 ≠ gb286))
                replace BK286 := a0_ (bb_ BK286.out hb)
                have NB287_301 := a0_ ((nl_ hg BK287.out : gb287 ≠ gb301))
                have NB301_287 := a0_ ((ng_ hg BK287.out : gb301 ≠ gb287))
                replace BK287 := a0_ (bb_ BK287.out hb)
                have NB302_301 := a0_ ((nl_ hg BK302.out : gb302 ≠ gb301))
                have NB301_302 := a0_ ((ng_ hg BK302.out : gb301 ≠ gb302))
                replace BK302 := a0_ (bb_ BK302.out hb)
                clear hb hbox hg
                refine hK.out _ _ ⟨HS0_, HS1_, HS2_, HS3_⟩ (fun hHeld => ?_)
                clear hK K
                refine nm_ ?_
                exact norm_ (by simp only [putAll, Act.put, List.setIfInBounds_toArray, List.set_cons_zero, List.set_cons_succ]) (hCont (gb301, gb302) _ ⟨hHeld, (ra_ HO290.out), (by (with_reducible repeat (first | apply Kd.R_alloc | apply Kd.R_drewN | apply Kd.R_drew)); exact Kd.R_mono HO293.out (fun _ hk => ⟨hk.1.1.2, ⟨hk.1.1.1.1.2, ⟨hk.1.1.1.2, ⟨hk.2, hk.1.2⟩⟩⟩⟩)), (by (with_reducible repeat (first | apply Kd.R_alloc | apply Kd.R_drewN | apply Kd.R_drew)); exact Kd.R_mono HO298.out (fun _ hk => ⟨hk.1.1.1.1.2, ⟨hk.1.1.1.2, ⟨hk.1.1.2, ⟨hk.2, hk.1.2⟩⟩⟩⟩)), (bk_ BK286.out), (bk_ BK287.out), (bk_ BK301.out), (bk_ BK302.out), GW301.out, GE301.out, NB286_301.out, NB301_286.out, NB287_301.out, NB301_287.out, NB302_301.out, NB301_302.out, GW302.out, GE302.out, NB286_302.out, NB302_286.out, NB287_302.out, NB302_287.out, (by repeat (first | (with_reducible first | exact HB.out | apply below_alloc | apply pw_below_drewN | apply below_drew1 | refine below_set ?_ GE286.out | refine below_set ?_ GE287.out | refine below_set ?_ GE302.out | refine below_set ?_ GE301.out) | exact HB.out))⟩)
              rintro ⟨gb301, gb302⟩ w77 ⟨hS_, h0_, h1_, h2_, h3_, h4_, h5_, h6_, h7_, h8_, h9_, h10_, h11_, h12_, h13_, h14_, h15_, h16_, h17_, h18_, h19_, h20_, h21_⟩
              have n0_ : Aside0 (Kd.R (Kd.int .u8) 5 w77 w.heap.size (fun _ => True) v289 y288) := ⟨h0_⟩
              have n1_ : Aside0 (Kd.R k78 78 w77 w.heap.size (fun k_ => some k_ ≠ (.slice (some ad299) y296.length co74 : Value).ownBlock ∧ k_ ≠ gb286 ∧ k_ ≠ gb287 ∧ k_ ≠ gb301 ∧ k_ ≠ gb302) (.slice (some ad294) y291.length co65) y291) := ⟨h1_⟩
              have n2_ : Aside0 (Kd.R k78 78 w77 w.heap.size (fun k_ => some k_ ≠ (.slice (some ad294) y291.length co65 : Value).ownBlock ∧ k_ ≠ gb286 ∧ k_ ≠ gb287 ∧ k_ ≠ gb301 ∧ k_ ≠ gb302) (.slice (some ad299) y296.length co74) y296) := ⟨h2_⟩
              have n3_ : Aside0 (w77.heap[gb286]? = some (.cells #[.int .i64 ((rd_T78 l0 0).f0), .int .i64 ((rd_T78 l0 0).f1)] 78 (0, 0))) := ⟨h3_⟩
              have n4_ : Aside0 (w77.heap[gb287]? = some (.cells #[.int .i64 (wrap64 (x288000_1 + ((rd_T78 y291 x6_1).f0))), .int .i64 (wrap64 (x288001_1 + ((rd_T78 y291 x6_1).f1)))] 78 (0, 0))) := ⟨h4_⟩
              have n5_ : Aside0 (w77.heap[gb301]? = some (.cells #[.int .i64 0, .int .i64 0] 78 (0, 0))) := ⟨h5_⟩
              have n6_ : Aside0 (w77.heap[gb302]? = some (.cells #[.int .i64 0, .int .i64 0] 78 (0, 0))) := ⟨h6_⟩
              have n7_ : Aside0 (w.heap.size ≤ gb301) := ⟨h7_⟩
              have n8_ : Aside0 (w.heap.size ≤ gb301) := ⟨h8_⟩
              have n9_ : Aside0 (gb286 ≠ gb301) := ⟨h9_⟩
              have n10_ : Aside0 (gb301 ≠ gb286) := ⟨h10_⟩
              have n11_ : Aside0 (gb287 ≠ gb301) := ⟨h11_⟩
              have n12_ : Aside0 (gb301 ≠ gb287) := ⟨h12_⟩
              have n13_ : Aside0 (gb302 ≠ gb301) := ⟨h13_⟩
              have n14_ : Aside0 (gb301 ≠ gb302) := ⟨h14_⟩
              have n15_ : Aside0 (w.heap.size ≤ gb302) := ⟨h15_⟩
              have n16_ : Aside0 (w.heap.size ≤ gb302) := ⟨h16_⟩
              have n17_ : Aside0 (gb286 ≠ gb302) := ⟨h17_⟩
              have n18_ : Aside0 (gb302 ≠ gb286) := ⟨h18_⟩
              have n19_ : Aside0 (gb287 ≠ gb302) := ⟨h19_⟩
              have n20_ : Aside0 (gb302 ≠ gb287) := ⟨h20_⟩
              have n21_ : Aside0 (Below w.heap.size w w77) := ⟨h21_⟩
              clear HO290
              clear HO293
              clear HO298
              clear BK286
              clear BK287
              clear HB
              clear h0_ h1_ h2_ h3_ h4_ h5_ h6_ h7_ h8_ h9_ h10_ h11_ h12_ h13_ h14_ h15_ h16_ h17_ h18_ h19_ h20_ h21_
              have HO290 := n0_
              have HO293 := n1_
              have HO298 := n2_
              have BK286 := n3_
              have BK287 := n4_
              have BK301 := n5_
              have BK302 := n6_
              have GW301 := n7_
              have GE301 := n8_
              have NB286_301 := n9_
              have NB301_286 := n10_
              have NB287_301 := n11_
              have NB301_287 := n12_
              have NB302_301 := n13_
              have NB301_302 := n14_
              have GW302 := n15_
              have GE302 := n16_
              have NB286_302 := n17_
              have NB302_286 := n18_
              have NB287_302 := n19_
              have NB302_287 := n20_
              have HB := n21_
              clear n0_ n1_ n2_ n3_ n4_ n5_ n6_ n7_ n8_ n9_ n10_ n11_ n12_ n13_ n14_ n15_ n16_ n17_ n18_ n19_ n20_ n21_
              have hHeld : w77.cell? (ad299.add ((x6_1).toNat * 2)) = some (.int .i64 ((rd_T78 y296 x6_1).f0)) ∧ w77.cell? ⟨(ad299.add ((x6_1).toNat * 2)).block, (ad299.add ((x6_1).toNat * 2)).off + 1, none⟩ = some (.int .i64 ((rd_T78 y296 x6_1).f1)) ∧ w77.cell? (ad299.add (((ji28)).toNat * 2)) = some (.int .i64 ((rd_T78 y296 (ji28)).f0)) ∧ w77.cell? ⟨(ad299.add (((ji28)).toNat * 2)).block, (ad299.add (((ji28)).toNat * 2)).off + 1, none⟩ = some (.int .i64 ((rd_T78 y296 (ji28)).f1)) := hS_
              refine norm_ (a' := ?_) ?_ ?_
              rotate_left
              ·simp only [putAll, Act.put, List.setIfInBounds_toArray, List.set_cons_zero, List.set_cons_succ]
               rfl
              refine one_ (i := 12) (N := none) (mk_ 13 1) rfl rfl (one_of HT_.out kr_) (by decide) (fun K hK => ?_)
              have hs78 : w77.cell? ⟨gb301, 0, none⟩ = some (.int .i64 0) := (blk_cell BK301.out 0).trans rfl
              have hfs78 := blk_frozen BK301.out 0
              have hns78_0 := NB286_301.out
              have hns78_1 := NB287_301.out
              have hns78_3 := NB302_301.out
              have hms78_0 := NB301_286.out
              have hms78_1 := NB301_287.out
              have hms78_3 := NB301_302.out
              have hs79 : w77.cell? ⟨gb301, 1, none⟩ = some (.int .i64 0) := (blk_cell BK301.out 1).trans rfl
              have hfs79 := blk_frozen BK301.out 1
              have hns79_0 := NB286_301.out
              have hns79_1 := NB287_301.out
              have hns79_3 := NB302_301.out
              have hms79_0 := NB301_286.out
              have hms79_1 := NB301_287.out
              have hms79_3 := NB301_302.out
              refine skip_ (w1 := ?_) (by rfl) rfl ?_ ?_
              rotate_left
              ·go_simp
               rfl
              refine hK.out _ _ ⟨((cell_far (p := ⟨gb301, _, none⟩) (by first | exact Kd.own_blk (Kd.R_away HO298.out (fun _ hk => hk.2.2.2.1)) | (rw [add_block]; exact Kd.own_blk (Kd.R_away HO298.out (fun _ hk => hk.2.2.2.1))) | (show (Addr.add _ _).block ≠ _; rw [add_block]; exact Kd.own_blk (Kd.R_away HO298.out (fun _ hk => hk.2.2.2.1))) | (dsimp only; exact Kd.own_blk (Kd.R_away HO298.out (fun _ hk => hk.2.2.2.1)))) _).trans (((cell_far (p := ⟨gb301, _, none⟩) (by first | exact Kd.own_blk (Kd.R_away HO298.out (fun _ hk => hk.2.2.2.1)) | (rw [add_block]; exact Kd.own_blk (Kd.R_away HO298.out (fun _ hk => hk.2.2.2.1))) | (show (Addr.add _ _).block ≠ _; rw [add_block]; exact Kd.own_blk (Kd.R_away HO298.out (fun _ hk => hk.2.2.2.1))) | (dsimp only; exact Kd.own_blk (Kd.R_away HO298.out (fun _ hk => hk.2.2.2.1)))) _).trans (hHeld.1)))), ((cell_far (p := ⟨gb301, _, none⟩) (by first | exact Kd.own_blk (Kd.R_away HO298.out (fun _ hk => hk.2.2.2.1)) | (rw [add_block]; exact Kd.own_blk (Kd.R_away HO298.out (fun _ hk => hk.2.2.2.1))) | (show (Addr.add _ _).block ≠ _; rw [add_block]; exact Kd.own_blk (Kd.R_away HO298.out (fun _ hk => hk.2.2.2.1))) | (dsimp only; exact Kd.own_blk (Kd.R_away HO298.out (fun _ hk => hk.2.2.2.1)))) _).trans (((cell_far (p := ⟨gb301, _, none⟩) (by first | exact Kd.own_blk (Kd.R_away HO298.out (fun _ hk => hk.2.2.2.1)) | (rw [add_block]; exact Kd.own_blk (Kd.R_away HO298.out (fun _ hk => hk.2.2.2.1))) | (show (Addr.add _ _).block ≠ _; rw [add_block]; exact Kd.own_blk (Kd.R_away HO298.out (fun _ hk => hk.2.2.2.1))) | (dsimp only; exact Kd.own_blk (Kd.R_away HO298.out (fun _ hk => hk.2.2.2.1)))) _).trans (hHeld.2.1)))), ((cell_far (p := ⟨gb301, _, none⟩) (by first | exact Kd.own_blk (Kd.R_away HO298.out (fun _ hk => hk.2.2.2.1)) | (rw [add_block]; exact Kd.own_blk (Kd.R_away HO298.out (fun _ hk => hk.2.2.2.1))) | (show (Addr.add _ _).block ≠ _; rw [add_block]; exact Kd.own_blk (Kd.R_away HO298.out (fun _ hk => hk.2.2.2.1))) | (dsimp only; exact Kd.own_blk (Kd.R_away HO298.out (fun _ hk => hk.2.2.2.1)))) _).trans (((cell_far (p := ⟨gb301, _, none⟩) (by first | exact Kd.own_blk (Kd.R_away HO298.out (fun _ hk => hk.2.2.2.1)) | (rw [add_block]; exact Kd.own_blk (Kd.R_away HO298.out (fun _ hk => hk.2.2.2.1))) | (show (Addr.add _ _).block ≠ _; rw [add_block]; exact Kd.own_blk (Kd.R_away HO298.out (fun _ hk => hk.2.2.2.1))) | (dsimp only; exact Kd.own_blk (Kd.R_away HO298.out (fun _ hk => hk.2.2.2.1)))) _).trans (hHeld.2.2.1)))), ((cell_far (p := ⟨gb301, _, none⟩) (by first | exact Kd.own_blk (Kd.R_away HO298.out (fun _ hk => hk.2.2.2.1)) | (rw [add_block]; exact Kd.own_blk (Kd.R_away HO298.out (fun _ hk => hk.2.2.2.1))) | (show (Addr.add _ _).block ≠ _; rw [add_block]; exact Kd.own_blk (Kd.R_away HO298.out (fun _ hk => hk.2.2.2.1))) | (dsimp only; exact Kd.own_blk (Kd.R_away HO298.out (fun _ hk => hk.2.2.2.1)))) _).trans (((cell_far (p := ⟨gb301, _, none⟩) (by first | exact Kd.own_blk (Kd.R_away HO298.out (fun _ hk => hk.2.2.2.1)) | (rw [add_block]; exact Kd.own_blk (Kd.R_away HO298.out (fun _ hk => hk.2.2.2.1))) | (show (Addr.add _ _).block ≠ _; rw [add_block]; exact Kd.own_blk (Kd.R_away HO298.out (fun _ hk => hk.2.2.2.1))) | (dsimp only; exact Kd.own_blk (Kd.R_away HO298.out (fun _ hk => hk.2.2.2.1)))) _).trans (hHeld.2.2.2))))⟩ (fun hHeld => ?_)
              clear hK K
              refine one_ (i := 13) (N := none) (mk_ 14 0) rfl rfl (one_of HT_.out kr_) (by decide) (fun K hK => ?_)
              have hs80 : w77.cell? ⟨gb302, 0, none⟩ = some (.int .i64 0) := (blk_cell BK302.out 0).trans rfl
              have hfs80 := blk_frozen BK302.out 0
              have hns80_0 := NB286_302.out
              have hns80_1 := NB287_302.out
              have hns80_2 := NB301_302.out
              have hms80_0 := NB302_286.out
              have hms80_1 := NB302_287.out
              have hms80_2 := NB302_301.out
              have hs81 : w77.cell? ⟨gb302, 1, none⟩ = some (.int .i64 0) := (blk_cell BK302.out 1).trans rfl
              have hfs81 := blk_frozen BK302.out 1
              have hns81_0 := NB286_302.out
              have hns81_1 := NB287_302.out
              have hns81_2 := NB301_302.out
              have hms81_0 := NB302_286.out
              have hms81_1 := NB302_287.out
              have hms81_2 := NB302_301.out
              refine skip_ (w1 := ?_) (by rfl) rfl ?_ ?_
              rotate_left
              ·go_simp
               rfl
              refine hK.out _ _ ⟨((cell_far (p := ⟨gb302, _, none⟩) (by first | exact Kd.own_blk (Kd.R_away HO298.out (fun _ hk => hk.2.2.2.2)) | (rw [add_block]; exact Kd.own_blk (Kd.R_away HO298.out (fun _ hk => hk.2.2.2.2))) | (show (Addr.add _ _).block ≠ _; rw [add_block]; exact Kd.own_blk (Kd.R_away HO298.out (fun _ hk => hk.2.2.2.2))) | (dsimp only; exact Kd.own_blk (Kd.R_away HO298.out (fun _ hk => hk.2.2.2.2)))) _).trans (((cell_far (p := ⟨gb302, _, none⟩) (by first | exact Kd.own_blk (Kd.R_away HO298.out (fun _ hk => hk.2.2.2.2)) | (rw [add_block]; exact Kd.own_blk (Kd.R_away HO298.out (fun _ hk => hk.2.2.2.2))) | (show (Addr.add _ _).block ≠ _; rw [add_block]; exact Kd.own_blk (Kd.R_away HO298.out (fun _ hk => hk.2.2.2.2))) | (dsimp only; exact Kd.own_blk (Kd.R_away HO298.out (fun _ hk => hk.2.2.2.2)))) _).trans (hHeld.1)))), ((cell_far (p := ⟨gb302, _, none⟩) (by first | exact Kd.own_blk (Kd.R_away HO298.out (fun _ hk => hk.2.2.2.2)) | (rw [add_block]; exact Kd.own_blk (Kd.R_away HO298.out (fun _ hk => hk.2.2.2.2))) | (show (Addr.add _ _).block ≠ _; rw [add_block]; exact Kd.own_blk (Kd.R_away HO298.out (fun _ hk => hk.2.2.2.2))) | (dsimp only; exact Kd.own_blk (Kd.R_away HO298.out (fun _ hk => hk.2.2.2.2)))) _).trans (((cell_far (p := ⟨gb302, _, none⟩) (by first | exact Kd.own_blk (Kd.R_away HO298.out (fun _ hk => hk.2.2.2.2)) | (rw [add_block]; exact Kd.own_blk (Kd.R_away HO298.out (fun _ hk => hk.2.2.2.2))) | (show (Addr.add _ _).block ≠ _; rw [add_block]; exact Kd.own_blk (Kd.R_away HO298.out (fun _ hk => hk.2.2.2.2))) | (dsimp only; exact Kd.own_blk (Kd.R_away HO298.out (fun _ hk => hk.2.2.2.2)))) _).trans (hHeld.2.1)))), ((cell_far (p := ⟨gb302, _, none⟩) (by first | exact Kd.own_blk (Kd.R_away HO298.out (fun _ hk => hk.2.2.2.2)) | (rw [add_block]; exact Kd.own_blk (Kd.R_away HO298.out (fun _ hk => hk.2.2.2.2))) | (show (Addr.add _ _).block ≠ _; rw [add_block]; exact Kd.own_blk (Kd.R_away HO298.out (fun _ hk => hk.2.2.2.2))) | (dsimp only; exact Kd.own_blk (Kd.R_away HO298.out (fun _ hk => hk.2.2.2.2)))) _).trans (((cell_far (p := ⟨gb302, _, none⟩) (by first | exact Kd.own_blk (Kd.R_away HO298.out (fun _ hk => hk.2.2.2.2)) | (rw [add_block]; exact Kd.own_blk (Kd.R_away HO298.out (fun _ hk => hk.2.2.2.2))) | (show (Addr.add _ _).block ≠ _; rw [add_block]; exact Kd.own_blk (Kd.R_away HO298.out (fun _ hk => hk.2.2.2.2))) | (dsimp only; exact Kd.own_blk (Kd.R_away HO298.out (fun _ hk => hk.2.2.2.2)))) _).trans (hHeld.2.2.1)))), ((cell_far (p := ⟨gb302, _, none⟩) (by first | exact Kd.own_blk (Kd.R_away HO298.out (fun _ hk => hk.2.2.2.2)) | (rw [add_block]; exact Kd.own_blk (Kd.R_away HO298.out (fun _ hk => hk.2.2.2.2))) | (show (Addr.add _ _).block ≠ _; rw [add_block]; exact Kd.own_blk (Kd.R_away HO298.out (fun _ hk => hk.2.2.2.2))) | (dsimp only; exact Kd.own_blk (Kd.R_away HO298.out (fun _ hk => hk.2.2.2.2)))) _).trans (((cell_far (p := ⟨gb302, _, none⟩) (by first | exact Kd.own_blk (Kd.R_away HO298.out (fun _ hk => hk.2.2.2.2)) | (rw [add_block]; exact Kd.own_blk (Kd.R_away HO298.out (fun _ hk => hk.2.2.2.2))) | (show (Addr.add _ _).block ≠ _; rw [add_block]; exact Kd.own_blk (Kd.R_away HO298.out (fun _ hk => hk.2.2.2.2))) | (dsimp only; exact Kd.own_blk (Kd.R_away HO298.out (fun _ hk => hk.2.2.2.2)))) _).trans (hHeld.2.2.2))))⟩ (fun hHeld => ?_)
              clear hK K
              refine done_ (done_of HT_.out kr_) ?_
              have hnb82 := NB301_286.out
              have hnc82 := NB286_301.out
              have hnb83 := NB301_287.out
              have hnc83 := NB287_301.out
              have hnb84 := NB301_302.out
              have hnc84 := NB302_301.out
              have hcz85_0 : w77.cell? ⟨gb301, 0, none⟩ = some (.int .i64 0) := (blk_cell BK301.out 0).trans rfl
              have hcz85_1 : w77.cell? ⟨gb301, 1, none⟩ = some (.int .i64 0) := (blk_cell BK301.out 1).trans rfl
              have hfz85_0 := blk_frozen BK301.out 0
              have hfz85_1 := blk_frozen BK301.out 1
              try go_wp2_with (first | ((with_reducible refine gate_callee (f := 70) rfl ?_); refine goesL_ (some 82) rfl rfl Tryd.func70 kr_ rfl #[.slice (some ad285) l0.length c0, .agg #[.int .i64 ((rd_T78 y296 x6_1).f0), .int .i64 ((rd_T78 y296 x6_1).f1)]] rfl ta_ ?_; (with_reducible refine (spec_l02Index.calls k1 _ _ l0 ((rd_T78 y296 x6_1).f0) ((rd_T78 y296 x6_1).f1) t303 _ ?side1 ?side2 A31.out).mono ?_); (case side1 => exact Kd.C_below HR0.out (by repeat (first | (with_reducible first | exact HB.out | apply below_alloc | apply pw_below_drewN | apply below_drew1 | refine below_set ?_ GE286.out | refine below_set ?_ GE287.out | refine below_set ?_ GE301.out | refine below_set ?_ GE302.out) | exact HB.out))); (case side2 => exact HC0.out); rintro e w86 ⟨rfl, hb⟩; refine ⟨_, rfl, ?_⟩; replace HO290 := a0_ (Kd.R_below (by (with_reducible repeat (first | apply Kd.R_alloc | apply Kd.R_drewN | apply Kd.R_drew)); exact (Kd.R_mono (Kd.R_mono (Kd.R_far (p := ⟨gb302, 1, none⟩) (Kd.R_far (p := ⟨gb302, 0, none⟩) (Kd.R_far (p := ⟨gb301, 1, none⟩) (Kd.R_far (p := ⟨gb301, 0, none⟩) (Kd.R_types (Kd.R_types HO290.out BK301.out (by decide)) BK302.out (by decide)) (fun _ hk => hk.1.2) (.int .i64 ((rd_T78 y296 x6_1).f0))) (fun _ hk => hk.1.2) (.int .i64 ((rd_T78 y296 x6_1).f1))) (fun _ hk => hk.2) (.int .i64 ((rd_T78 y296 (ji28)).f0))) (fun _ hk => hk.2) (.int .i64 ((rd_T78 y296 (ji28)).f1))) (fun _ h_ => h_.1)) (fun _ h_ => h_.1))) hb); replace HO293 := a0_ (Kd.R_below (by (with_reducible repeat (first | apply Kd.R_alloc | apply Kd.R_drewN | apply Kd.R_drew)); exact (Kd.R_mono (Kd.R_mono (Kd.R_far (p := ⟨gb302, 1, none⟩) (Kd.R_far (p := ⟨gb302, 0, none⟩) (Kd.R_far (p := ⟨gb301, 1, none⟩) (Kd.R_far (p := ⟨gb301, 0, none⟩) (Kd.R_mono (Kd.R_mono HO293.out (fun k_ hk => (⟨hk, hk.2.2.2.1⟩ : _ ∧ k_ ≠ gb301))) (fun k_ hk => (⟨hk, hk.1.2.2.2.2⟩ : _ ∧ k_ ≠ gb302))) (fun _ hk => hk.1.2) (.int .i64 ((rd_T78 y296 x6_1).f0))) (fun _ hk => hk.1.2) (.int .i64 ((rd_T78 y296 x6_1).f1))) (fun _ hk => hk.2) (.int .i64 ((rd_T78 y296 (ji28)).f0))) (fun _ hk => hk.2) (.int .i64 ((rd_T78 y296 (ji28)).f1))) (fun _ h_ => h_.1)) (fun _ h_ => h_.1))) hb); replace HO298 := a0_ (Kd.R_below (by (with_reducible repeat (first | apply Kd.R_alloc | apply Kd.R_drewN | apply Kd.R_drew)); exact (Kd.R_mono (Kd.R_mono (Kd.R_far (p := ⟨gb302, 1, none⟩) (Kd.R_far (p := ⟨gb302, 0, none⟩) (Kd.R_far (p := ⟨gb301, 1, none⟩) (Kd.R_far (p := ⟨gb301, 0, none⟩) (Kd.R_mono (Kd.R_mono HO298.out (fun k_ hk => (⟨hk, hk.2.2.2.1⟩ : _ ∧ k_ ≠ gb301))) (fun k_ hk => (⟨hk, hk.1.2.2.2.2⟩ : _ ∧ k_ ≠ gb302))) (fun _ hk => hk.1.2) (.int .i64 ((rd_T78 y296 x6_1).f0))) (fun _ hk => hk.1.2) (.int .i64 ((rd_T78 y296 x6_1).f1))) (fun _ hk => hk.2) (.int .i64 ((rd_T78 y296 (ji28)).f0))) (fun _ hk => hk.2) (.int .i64 ((rd_T78 y296 (ji28)).f1))) (fun _ h_ => h_.1)) (fun _ h_ => h_.1))) hb); replace BK286 := a0_ (blk_below (g := gb286) (o := .cells #[.int .i64 ((rd_T78 l0 0).f0), .int .i64 ((rd_T78 l0 0).f1)] 78 (0, 0)) (by (with_reducible repeat (first | refine blk_drewN ?_ _ | refine blk_drew ?_ | refine blk_alloc ?_ _)); refine blk_far ?_ NB286_302.out _; (with_reducible repeat (first | refine blk_drewN ?_ _ | refine blk_drew ?_ | refine blk_alloc ?_ _)); refine blk_far ?_ NB286_302.out _; (with_reducible repeat (first | refine blk_drewN ?_ _ | refine blk_drew ?_ | refine blk_alloc ?_ _)); refine blk_far ?_ NB286_301.out _; (with_reducible repeat (first | refine blk_drewN ?_ _ | refine blk_drew ?_ | refine blk_alloc ?_ _)); refine blk_far ?_ NB286_301.out _; (with_reducible repeat (first | refine blk_drewN ?_ _ | refine blk_drew ?_ | refine blk_alloc ?_ _)); exact BK286.out) hb); replace BK287 := a0_ (blk_below (g := gb287) (o := .cells #[.int .i64 (wrap64 (x288000_1 + ((rd_T78 y291 x6_1).f0))), .int .i64 (wrap64 (x288001_1 + ((rd_T78 y291 x6_1).f1)))] 78 (0, 0)) (by (with_reducible repeat (first | refine blk_drewN ?_ _ | refine blk_drew ?_ | refine blk_alloc ?_ _)); refine blk_far ?_ NB287_302.out _; (with_reducible repeat (first | refine blk_drewN ?_ _ | refine blk_drew ?_ | refine blk_alloc ?_ _)); refine blk_far ?_ NB287_302.out _; (with_reducible repeat (first | refine blk_drewN ?_ _ | refine blk_drew ?_ | refine blk_alloc ?_ _)); refine blk_far ?_ NB287_301.out _; (with_reducible repeat (first | refine blk_drewN ?_ _ | refine blk_drew ?_ | refine blk_alloc ?_ _)); refine blk_far ?_ NB287_301.out _; (with_reducible repeat (first | refine blk_drewN ?_ _ | refine blk_drew ?_ | refine blk_alloc ?_ _)); exact BK287.out) hb); replace BK301 := a0_ (blk_below (g := gb301) (o := .cells #[.int .i64 ((rd_T78 y296 x6_1).f0), .int .i64 ((rd_T78 y296 x6_1).f1)] 78 (0, 0)) (by (with_reducible repeat (first | refine blk_drewN ?_ _ | refine blk_drew ?_ | refine blk_alloc ?_ _)); refine blk_far ?_ NB301_302.out _; (with_reducible repeat (first | refine blk_drewN ?_ _ | refine blk_drew ?_ | refine blk_alloc ?_ _)); refine blk_far ?_ NB301_302.out _; (with_reducible repeat (first | refine blk_drewN ?_ _ | refine blk_drew ?_ | refine blk_alloc ?_ _)); refine blk_put (cs := #[.int .i64 ((rd_T78 y296 x6_1).f0), .int .i64 0]) ?_ 1 _ rfl; (with_reducible repeat (first | refine blk_drewN ?_ _ | refine blk_drew ?_ | refine blk_alloc ?_ _)); refine blk_put (cs := #[.int .i64 0, .int .i64 0]) ?_ 0 _ rfl; (with_reducible repeat (first | refine blk_drewN ?_ _ | refine blk_drew ?_ | refine blk_alloc ?_ _)); exact BK301.out) hb); replace BK302 := a0_ (blk_below (g := gb302) (o := .cells #[.int .i64 ((rd_T78 y296 (ji28)).f0), .int .i64 ((rd_T78 y296 (ji28)).f1)] 78 (0, 0)) (by (with_reducible repeat (first | refine blk_drewN ?_ _ | refine blk_drew ?_ | refine blk_alloc ?_ _)); refine blk_put (cs := #[.int .i64 ((rd_T78 y296 (ji28)).f0), .int .i64 0]) ?_ 1 _ rfl; (with_reducible repeat (first | refine blk_drewN ?_ _ | refine blk_drew ?_ | refine blk_alloc ?_ _)); refine blk_put (cs := #[.int .i64 0, .int .i64 0]) ?_ 0 _ rfl; (with_reducible repeat (first | refine blk_drewN ?_ _ | refine blk_drew ?_ | refine blk_alloc ?_ _)); refine blk_far ?_ NB302_301.out _; (with_reducible repeat (first | refine blk_drewN ?_ _ | refine blk_drew ?_ | refine blk_alloc ?_ _)); refine blk_far ?_ NB302_301.out _; (with_reducible repeat (first | refine blk_drewN ?_ _ | refine blk_drew ?_ | refine blk_alloc ?_ _)); exact BK302.out) hb); replace HB := a0_ (below_step (by repeat (first | (with_reducible first | exact HB.out | apply below_alloc | apply pw_below_drewN | apply below_drew1 | refine below_set ?_ GE286.out | refine below_set ?_ GE287.out | refine below_set ?_ GE301.out | refine below_set ?_ GE302.out) | exact HB.out)) hb); (try clear hb); (try clear hb2); (try clear hk); (try clear hi); have hnb87 := NB302_286.out; have hnc87 := NB286_302.out; have hnb88 := NB302_287.out; have hnc88 := NB287_302.out; obtain ⟨hcz89_0, hcz89_1, hfz89_0, hfz89_1⟩ := bc2_ BK302.out) | ((with_reducible refine gate_callee (f := 70) rfl ?_); refine goesL_ (some 90) rfl rfl Tryd.func70 kr_ rfl #[.slice (some ad285) l0.length c0, .agg #[.int .i64 ((rd_T78 y296 (ji28)).f0), .int .i64 ((rd_T78 y296 (ji28)).f1)]] rfl (by (try simp only [List.map_toArray, List.map_cons, List.map_nil]); first | done | (simp only [hji28]; rfl) | rfl | (simp only [List.length_drop, List.length_take]; rfl)) ?_; (with_reducible refine (spec_l02Index.calls k1 _ _ l0 ((rd_T78 y296 (ji28)).f0) ((rd_T78 y296 (ji28)).f1) t304 _ ?side1 ?side2 A59.out).mono ?_); (case side1 => exact ca_ (Kd.C_below HR0.out HB.out)); (case side2 => exact HC0.out); rintro e w90 ⟨rfl, hb⟩; refine ⟨_, rfl, ?_⟩; replace HO290 := a0_ (Kd.R_below (ra_ HO290.out) hb); replace HO293 := a0_ (Kd.R_below (ra_ HO293.out) hb); replace HO298 := a0_ (Kd.R_below (ra_ HO298.out) hb); replace BK286 := a0_ (bb_ BK286.out hb); replace BK287 := a0_ (bb_ BK287.out hb); replace BK301 := a0_ (bb_ BK301.out hb); replace BK302 := a0_ (bb_ BK302.out hb); replace HB := a0_ (below_step (by repeat (first | (with_reducible first | exact HB.out | apply below_alloc | apply pw_below_drewN | apply below_drew1 | refine below_set ?_ GE286.out | refine below_set ?_ GE287.out | refine below_set ?_ GE301.out | refine below_set ?_ GE302.out) | exact HB.out)) hb); (try clear hb); (try clear hb2); (try clear hk); (try clear hi)))
              go_roundg k1
              case measure => have := HK1.out; omega
              case rel => exact ⟨(y288), (ji28), (wrap64 (x288000_1 + ((rd_T78 y291 x6_1).f0))), (wrap64 (x288001_1 + ((rd_T78 y291 x6_1).f1))), (by first | rfl | (simp; done) | (simp only [← hji28] <;> (first | rfl | simp)) | (simp [*]; done)), H', ⟨by have := HK1.out; omega⟩, ⟨ra_ HO290.out⟩, ⟨bk_ BK286.out⟩, ⟨bk_ BK287.out⟩, ⟨by repeat (first | (with_reducible first | exact HB.out | apply below_alloc | apply pw_below_drewN | apply below_drew1 | refine below_set ?_ GE286.out | refine below_set ?_ GE287.out | refine below_set ?_ GE301.out | refine below_set ?_ GE302.out) | exact HB.out)⟩⟩
             ·rw [if_neg c60] at H
              have c60b0 : decide (t304 < 0) = false := decide_eq_false c60
              clear c60
              have H' := Aside0.mk H
              clear H
              have p12 : 0 ≤ (x6_1 : Int) := od_
              have q12 : x6_1 < (4 : Int) := od_
              have hx12 := bt_at (⟨#[114, 100, 108, 117]⟩ : ByteArray) x6_1
              replace p12 := eq_true p12
              replace q12 := eq_true q12
              try go_wp2_with (first | ((with_reducible refine gate_builtin (b := .append) (xs := #[.tmp 16, .tmp 19]) rfl ?_); at_builtin; refine Kd.R_append (Kd.int .u8) (w0 := w) w.heap.size rfl (.tmp 16) (.tmp 19) 22 5 (.int .u8 0) 1 rfl Tryd.underlying22 info5 rfl (by decide) (by omega) u3 x3_1 (bt (⟨#[114, 100, 108, 117]⟩ : ByteArray) x6_1) [.int .u8 (bt (⟨#[114, 100, 108, 117]⟩ : ByteArray) x6_1)] (fun _ => True) (fun _ => False) rfl rfl ?aP (fun _ hk => hk.elim) ?aF ?aO ?aB ?aS ?aL ?_; (case aP => exact rfl); (case aB => exact (bl2_ GE286.out GE287.out)); (case aF => exact (fun _ _ => trivial)); (case aO => exact (ra_ HO_3.out)); (case aS => exact (below_size (bl2_ GE286.out GE287.out))); (case aL => have := LMc13.out; omega); intro v289 w91 ho hb hg hat; rw [← Ny288.out] at ho; replace BK286 := a0_ (blk_grown (g := gb286) (o := .cells #[.int .i64 ((rd_T78 l0 0).f0), .int .i64 ((rd_T78 l0 0).f1)] 78 (0, 0)) (bk_ BK286.out) hg (Kd.R_ne HO_3.out BK286.out (by decide))); replace BK287 := a0_ (blk_grown (g := gb287) (o := .cells #[.int .i64 x288000_1, .int .i64 x288001_1] 78 (0, 0)) (bk_ BK287.out) hg (Kd.R_ne HO_3.out BK287.out (by decide))); replace HB := a0_ (hb); have HO290 := a0_ (ho); clear HO_3; clear ho hb hg hat) | ((with_reducible refine gate_dst (N := 25) rfl ?_); refine Kd.R_lit k78 _ 78 ?hg (N := 25) ?hd (xs := ([(⟨1, 0⟩ : S78), (⟨0, 1⟩ : S78), (⟨(-1), 0⟩ : S78), (⟨0, (-1)⟩ : S78)] : List (S78))) (inner := [.int .i64 1, .int .i64 0, .int .i64 0, .int .i64 1, .int .i64 (-1), .int .i64 0, .int .i64 0, .int .i64 (-1)]) (ok := fun _ => True) (okp := fun _ => True) ?hr ?hp (fun _ hk => hk) trivial (Below.refl _ _) (Nat.le_refl _) (by simp) ?_; (case hd => rfl); (case hg => rfl); (case hr => first | (go_simp; done) | (go_simp; rfl)); (case hp => exact (Reps.c2 (show Kd.M k78 _ _ _ (⟨1, 0⟩ : S78) [.int .i64 1, .int .i64 0] from (k78_mkM _ _ _ (⟨1, 0⟩ : S78) )) (Reps.c2 (show Kd.M k78 _ _ _ (⟨0, 1⟩ : S78) [.int .i64 0, .int .i64 1] from (k78_mkM _ _ _ (⟨0, 1⟩ : S78) )) (Reps.c2 (show Kd.M k78 _ _ _ (⟨(-1), 0⟩ : S78) [.int .i64 (-1), .int .i64 0] from (k78_mkM _ _ _ (⟨(-1), 0⟩ : S78) )) (Reps.c2 (show Kd.M k78 _ _ _ (⟨0, (-1)⟩ : S78) [.int .i64 0, .int .i64 (-1)] from (k78_mkM _ _ _ (⟨0, (-1)⟩ : S78) )) (Reps.none _ _)))))); intro v292 w92 ho93 hb hg_ hnew_; clear hg_ hnew_; (first | rw [← Ny291.out] at ho93 | (simp only [Int.reduceToNat] at ho93; rw [← Ny291.out] at ho93)); replace HO290 := a0_ (Kd.R_below (ra_ HO290.out) hb); have HO293 := a0_ (Kd.R_lower (Kd.R_newB (Kd.R_newB ho93 (g := gb286) (o := .cells #[.int .i64 ((rd_T78 l0 0).f0), .int .i64 ((rd_T78 l0 0).f1)] 78 (0, 0)) (bk_ BK286.out)) (g := gb287) (o := .cells #[.int .i64 x288000_1, .int .i64 x288001_1] 78 (0, 0)) (bk_ BK287.out)) (below_size (bl2_ GE286.out GE287.out))); replace BK286 := a0_ (bb_ BK286.out hb); replace BK287 := a0_ (bb_ BK287.out hb); replace HB := a0_ (below_step (bl2_ GE286.out GE287.out) hb); clear hb ho93))
              replace HO290 := a0_ (Kd.R_drew HO290.out)
              replace HO293 := a0_ (Kd.R_drew HO293.out)
              replace BK286 := a0_ (blk_drew BK286.out)
              replace BK287 := a0_ (blk_drew BK287.out)
              replace HB := a0_ (below_drew1 HB.out)
              obtain ⟨Ao95, co95, eo95⟩ := Kd.R_slice HO293.out
              (first | subst eo95 | (injection eo95 with f1_ f2_ f3_; have f4_ := f1_.symm; have f5_ := f3_.symm; clear f1_ f2_ f3_; subst f4_; subst f5_))
              have p294 : 0 ≤ (x6_1 : Int) := od_
              have q294 : x6_1 < (y291.length : Int) := od_
              obtain ⟨ad294, e294, hx294_0, hx294_1⟩ := at_T78 (Kd.R_reads' HO293.out).2.2 x6_1 p294 q294
              cases e294
              replace p294 := eq_true p294
              replace q294 := eq_true q294
              have p295 : 0 ≤ (x6_1 : Int) := od_
              have q295 : x6_1 < (y291.length : Int) := od_
              obtain ⟨ad295, e295, hx295_0, hx295_1⟩ := at_T78 (Kd.R_reads' HO293.out).2.2 x6_1 p295 q295
              obtain rfl : ad294 = ad295 := (by injection e295)
              replace p295 := eq_true p295
              replace q295 := eq_true q295
              refine start_ (n := 18) (S := fun w' => w'.cell? ⟨gb287, 0, none⟩ = some (.int .i64 x288000_1) ∧ w'.cell? ⟨gb287, 1, none⟩ = some (.int .i64 x288001_1) ∧ w'.cell? (ad294.add ((x6_1).toNat * 2)) = some (.int .i64 ((rd_T78 y291 x6_1).f0)) ∧ w'.cell? ⟨(ad294.add ((x6_1).toNat * 2)).block, (ad294.add ((x6_1).toNat * 2)).off + 1, none⟩ = some (.int .i64 ((rd_T78 y291 x6_1).f1)) ∧ w'.cell? (ad294.add ((x6_1).toNat * 2)) = some (.int .i64 ((rd_T78 y291 x6_1).f0)) ∧ w'.cell? ⟨(ad294.add ((x6_1).toNat * 2)).block, (ad294.add ((x6_1).toNat * 2)).off + 1, none⟩ = some (.int .i64 ((rd_T78 y291 x6_1).f1))) (ds := [17]) (mk_ 0 18) kr_ rfl rfl ⟨(blk_cell BK287.out 0).trans rfl, (blk_cell BK287.out 1).trans rfl, hx294_0, hx294_1, hx295_0, hx295_1⟩ (fun hHeld => ?_); refine with_tabW spec_l23Word.tab7 spec_l23Word.bits7 (fun HT_ HW_ => ?_)
              generalize w92.drew = w94 at HO290 HO293 BK286 BK287 HB hx294_0 hx294_1 hx295_0 hx295_1 hHeld ⊢
              refine pu_ 0 (some 26) (mk_ 1 17) HT_ ?_
              refine pu_ 2 (some 28) #[true, false, true, false, false, false, false, false, false, false, false, false, false, false, false, false, false, false] HT_ ?_
              refine pu_ 3 (some 29) #[true, false, true, true, false, false, false, false, false, false, false, false, false, false, false, false, false, false] HT_ ?_
              refine pu_ 4 (some 30) #[true, false, true, true, true, false, false, false, false, false, false, false, false, false, false, false, false, false] HT_ ?_
              refine pu_ 5 (some 31) #[true, false, true, true, true, true, false, false, false, false, false, false, false, false, false, false, false, false] HT_ ?_
              refine pu_ 8 (some 34) #[true, false, true, true, true, true, false, false, true, false, false, false, false, false, false, false, false, false] HT_ ?_
              refine pu_ 10 (some 36) #[true, false, true, true, true, true, false, false, true, false, true, false, false, false, false, false, false, false] HT_ ?_
              refine pu_ 11 (some 37) #[true, false, true, true, true, true, false, false, true, false, true, true, false, false, false, false, false, false] HT_ ?_
              refine pu_ 12 (some 38) #[true, false, true, true, true, true, false, false, true, false, true, true, true, false, false, false, false, false] HT_ ?_
              refine pu_ 13 (some 39) #[true, false, true, true, true, true, false, false, true, false, true, true, true, true, false, false, false, false] HT_ ?_
              refine tk_ 1 (some 27) #[true, true, true, true, true, true, false, false, true, false, true, true, true, true, false, false, false, false] HT_ HW_ hHeld (hy := .inl ⟨by rfl, by rintro w' ⟨s0, s1, s2, s3, s4, s5⟩; go_simp; with_reducible rfl⟩) ?_
              refine tk_ 6 (some 32) #[true, true, true, true, true, true, true, false, true, false, true, true, true, true, false, false, false, false] HT_ HW_ hHeld (hy := .inl ⟨by rfl, by rintro w' ⟨s0, s1, s2, s3, s4, s5⟩; go_simp; with_reducible rfl⟩) ?_
              refine pu_ 7 (some 33) #[true, true, true, true, true, true, true, true, true, false, true, true, true, true, false, false, false, false] HT_ ?_
              refine tk_ 9 (some 35) (mk_ 14 4) HT_ HW_ hHeld (hy := .inl ⟨by rfl, by rintro w' ⟨s0, s1, s2, s3, s4, s5⟩; go_simp; with_reducible rfl⟩) ?_
              refine tk_ 14 (some 40) (mk_ 15 3) HT_ HW_ hHeld (hy := .inl ⟨by rfl, by rintro w' ⟨s0, s1, s2, s3, s4, s5⟩; go_simp; with_reducible rfl⟩) ?_
              refine pu_ 15 (some 41) (mk_ 16 2) HT_ ?_
              refine pu_ 16 (some 42) (mk_ 17 1) HT_ ?_
              refine last_ (i := 17) (N := none) (mk_ 18 0) rfl rfl (one_of HT_.out kr_) (by decide) (fun K hK => ?_)
              have hs96 : w94.cell? ⟨gb287, 0, none⟩ = some (.int .i64 x288000_1) := (blk_cell BK287.out 0).trans rfl
              have hfs96 := blk_frozen BK287.out 0
              have hns96_0 := NB286_287.out
              have hms96_0 := NB287_286.out
              have hs97 : w94.cell? ⟨gb287, 1, none⟩ = some (.int .i64 x288001_1) := (blk_cell BK287.out 1).trans rfl
              have hfs97 := blk_frozen BK287.out 1
              have hns97_0 := NB286_287.out
              have hms97_0 := NB287_286.out
              refine skip_ (w1 := ?_) (by rfl) rfl ?_ ?_
              rotate_left
              ·go_simp
               rfl
              refine hK.out _ _ ?_
              clear hK K
              refine done_ (done_of HT_.out kr_) ?_
              have hnb98 := NB287_286.out
              have hnc98 := NB286_287.out
              have hcz99_0 : w94.cell? ⟨gb287, 0, none⟩ = some (.int .i64 x288000_1) := (blk_cell BK287.out 0).trans rfl
              have hcz99_1 : w94.cell? ⟨gb287, 1, none⟩ = some (.int .i64 x288001_1) := (blk_cell BK287.out 1).trans rfl
              have hfz99_0 := blk_frozen BK287.out 0
              have hfz99_1 := blk_frozen BK287.out 1
              have hcz100_0 : w94.cell? ⟨gb286, 0, none⟩ = some (.int .i64 ((rd_T78 l0 0).f0)) := (blk_cell BK286.out 0).trans rfl
              have hcz100_1 : w94.cell? ⟨gb286, 1, none⟩ = some (.int .i64 ((rd_T78 l0 0).f1)) := (blk_cell BK286.out 1).trans rfl
              have hfz100_0 := blk_frozen BK286.out 0
              have hfz100_1 := blk_frozen BK286.out 1
              try go_wp2_with (first | ((with_reducible refine gate_dst (N := 68) rfl ?_); refine Kd.R_lit k78 _ 78 ?hg (N := 68) ?hd (xs := ([(⟨wrap64 (x288000_1 + ((rd_T78 y291 x6_1).f0)), wrap64 ((wrap64 (x288001_1 + ((rd_T78 y291 x6_1).f1))) - 1)⟩ : S78), (⟨wrap64 (x288000_1 + ((rd_T78 y291 x6_1).f0)), wrap64 (x288001_1 + ((rd_T78 y291 x6_1).f1))⟩ : S78), (⟨wrap64 ((wrap64 (x288000_1 + ((rd_T78 y291 x6_1).f0))) - 1), wrap64 (x288001_1 + ((rd_T78 y291 x6_1).f1))⟩ : S78), (⟨wrap64 ((wrap64 (x288000_1 + ((rd_T78 y291 x6_1).f0))) - 1), wrap64 ((wrap64 (x288001_1 + ((rd_T78 y291 x6_1).f1))) - 1)⟩ : S78)] : List (S78))) (inner := [.int .i64 (wrap64 (x288000_1 + ((rd_T78 y291 x6_1).f0))), .int .i64 (wrap64 ((wrap64 (x288001_1 + ((rd_T78 y291 x6_1).f1))) - 1)), .int .i64 (wrap64 (x288000_1 + ((rd_T78 y291 x6_1).f0))), .int .i64 (wrap64 (x288001_1 + ((rd_T78 y291 x6_1).f1))), .int .i64 (wrap64 ((wrap64 (x288000_1 + ((rd_T78 y291 x6_1).f0))) - 1)), .int .i64 (wrap64 (x288001_1 + ((rd_T78 y291 x6_1).f1))), .int .i64 (wrap64 ((wrap64 (x288000_1 + ((rd_T78 y291 x6_1).f0))) - 1)), .int .i64 (wrap64 ((wrap64 (x288001_1 + ((rd_T78 y291 x6_1).f1))) - 1))]) (ok := fun _ => True) (okp := fun _ => True) ?hr ?hp (fun _ hk => hk) trivial (Below.refl _ _) (Nat.le_refl _) (by simp) ?_; (case hd => rfl); (case hg => rfl); (case hr => first | (go_simp; done) | (go_simp; rfl)); (case hp => exact (Reps.c2 (show Kd.M k78 _ _ _ (⟨wrap64 (x288000_1 + ((rd_T78 y291 x6_1).f0)), wrap64 ((wrap64 (x288001_1 + ((rd_T78 y291 x6_1).f1))) - 1)⟩ : S78) [.int .i64 (wrap64 (x288000_1 + ((rd_T78 y291 x6_1).f0))), .int .i64 (wrap64 ((wrap64 (x288001_1 + ((rd_T78 y291 x6_1).f1))) - 1))] from (k78_mkM _ _ _ (⟨wrap64 (x288000_1 + ((rd_T78 y291 x6_1).f0)), wrap64 ((wrap64 (x288001_1 + ((rd_T78 y291 x6_1).f1))) - 1)⟩ : S78) )) (Reps.c2 (show Kd.M k78 _ _ _ (⟨wrap64 (x288000_1 + ((rd_T78 y291 x6_1).f0)), wrap64 (x288001_1 + ((rd_T78 y291 x6_1).f1))⟩ : S78) [.int .i64 (wrap64 (x288000_1 + ((rd_T78 y291 x6_1).f0))), .int .i64 (wrap64 (x288001_1 + ((rd_T78 y291 x6_1).f1)))] from (k78_mkM _ _ _ (⟨wrap64 (x288000_1 + ((rd_T78 y291 x6_1).f0)), wrap64 (x288001_1 + ((rd_T78 y291 x6_1).f1))⟩ : S78) )) (Reps.c2 (show Kd.M k78 _ _ _ (⟨wrap64 ((wrap64 (x288000_1 + ((rd_T78 y291 x6_1).f0))) - 1), wrap64 (x288001_1 + ((rd_T78 y291 x6_1).f1))⟩ : S78) [.int .i64 (wrap64 ((wrap64 (x288000_1 + ((rd_T78 y291 x6_1).f0))) - 1)), .int .i64 (wrap64 (x288001_1 + ((rd_T78 y291 x6_1).f1)))] from (k78_mkM _ _ _ (⟨wrap64 ((wrap64 (x288000_1 + ((rd_T78 y291 x6_1).f0))) - 1), wrap64 (x288001_1 + ((rd_T78 y291 x6_1).f1))⟩ : S78) )) (Reps.c2 (show Kd.M k78 _ _ _ (⟨wrap64 ((wrap64 (x288000_1 + ((rd_T78 y291 x6_1).f0))) - 1), wrap64 ((wrap64 (x288001_1 + ((rd_T78 y291 x6_1).f1))) - 1)⟩ : S78) [.int .i64 (wrap64 ((wrap64 (x288000_1 + ((rd_T78 y291 x6_1).f0))) - 1)), .int .i64 (wrap64 ((wrap64 (x288001_1 + ((rd_T78 y291 x6_1).f1))) - 1))] from (k78_mkM _ _ _ (⟨wrap64 ((wrap64 (x288000_1 + ((rd_T78 y291 x6_1).f0))) - 1), wrap64 ((wrap64 (x288001_1 + ((rd_T78 y291 x6_1).f1))) - 1)⟩ : S78) )) (Reps.none _ _)))))); intro v297 w101 ho102 hb hg_ hnew_; clear hg_ hnew_; (first | rw [← Ny296.out] at ho102 | (simp only [Int.reduceToNat] at ho102; rw [← Ny296.out] at ho102)); replace HO290 := a0_ (Kd.R_below (by (with_reducible repeat (first | apply Kd.R_alloc | apply Kd.R_drewN | apply Kd.R_drew)); exact (Kd.R_mono (Kd.R_far (p := ⟨gb287, 1, none⟩) (Kd.R_far (p := ⟨gb287, 0, none⟩) (Kd.R_types HO290.out BK287.out (by decide)) (fun _ hk => hk.2) (.int .i64 (wrap64 (x288000_1 + ((rd_T78 y291 x6_1).f0))))) (fun _ hk => hk.2) (.int .i64 (wrap64 (x288001_1 + ((rd_T78 y291 x6_1).f1))))) (fun _ h_ => h_.1))) hb); have HO298 := a0_ (Kd.R_lower (Kd.R_newB (Kd.R_newB (Kd.R_new' ho102 (Kd.R_lt (by (with_reducible repeat (first | apply Kd.R_alloc | apply Kd.R_drewN | apply Kd.R_drew)); exact (Kd.R_mono (Kd.R_far (p := ⟨gb287, 1, none⟩) (Kd.R_far (p := ⟨gb287, 0, none⟩) (Kd.R_mono HO293.out (fun k_ hk => (⟨hk, hk.2⟩ : _ ∧ k_ ≠ gb287))) (fun _ hk => hk.2) (.int .i64 (wrap64 (x288000_1 + ((rd_T78 y291 x6_1).f0))))) (fun _ hk => hk.2) (.int .i64 (wrap64 (x288001_1 + ((rd_T78 y291 x6_1).f1))))) (fun _ h_ => h_.1))))) (g := gb286) (o := .cells #[.int .i64 ((rd_T78 l0 0).f0), .int .i64 ((rd_T78 l0 0).f1)] 78 (0, 0)) (bf_ BK286.out NB286_287.out)) (g := gb287) (o := .cells #[.int .i64 (wrap64 (x288000_1 + ((rd_T78 y291 x6_1).f0))), .int .i64 (wrap64 (x288001_1 + ((rd_T78 y291 x6_1).f1)))] 78 (0, 0)) (by (with_reducible repeat (first | refine blk_drewN ?_ _ | refine blk_drew ?_ | refine blk_alloc ?_ _)); refine blk_put (cs := #[.int .i64 (wrap64 (x288000_1 + ((rd_T78 y291 x6_1).f0))), .int .i64 x288001_1]) ?_ 1 _ rfl; (with_reducible repeat (first | refine blk_drewN ?_ _ | refine blk_drew ?_ | refine blk_alloc ?_ _)); refine blk_put (cs := #[.int .i64 x288000_1, .int .i64 x288001_1]) ?_ 0 _ rfl; (with_reducible repeat (first | refine blk_drewN ?_ _ | refine blk_drew ?_ | refine blk_alloc ?_ _)); exact BK287.out)) (below_size (bl2_ GE286.out GE287.out))); replace HO293 := a0_ (Kd.R_elder' (by (with_reducible repeat (first | apply Kd.R_alloc | apply Kd.R_drewN | apply Kd.R_drew)); exact (Kd.R_mono (Kd.R_far (p := ⟨gb287, 1, none⟩) (Kd.R_far (p := ⟨gb287, 0, none⟩) (Kd.R_mono HO293.out (fun k_ hk => (⟨hk, hk.2⟩ : _ ∧ k_ ≠ gb287))) (fun _ hk => hk.2) (.int .i64 (wrap64 (x288000_1 + ((rd_T78 y291 x6_1).f0))))) (fun _ hk => hk.2) (.int .i64 (wrap64 (x288001_1 + ((rd_T78 y291 x6_1).f1))))) (fun _ h_ => h_.1))) (Kd.R_base ho102) hb); replace BK286 := a0_ (blk_below (g := gb286) (o := .cells #[.int .i64 ((rd_T78 l0 0).f0), .int .i64 ((rd_T78 l0 0).f1)] 78 (0, 0)) (bf_ BK286.out NB286_287.out) hb); replace BK287 := a0_ (blk_below (g := gb287) (o := .cells #[.int .i64 (wrap64 (x288000_1 + ((rd_T78 y291 x6_1).f0))), .int .i64 (wrap64 (x288001_1 + ((rd_T78 y291 x6_1).f1)))] 78 (0, 0)) (by (with_reducible repeat (first | refine blk_drewN ?_ _ | refine blk_drew ?_ | refine blk_alloc ?_ _)); refine blk_put (cs := #[.int .i64 (wrap64 (x288000_1 + ((rd_T78 y291 x6_1).f0))), .int .i64 x288001_1]) ?_ 1 _ rfl; (with_reducible repeat (first | refine blk_drewN ?_ _ | refine blk_drew ?_ | refine blk_alloc ?_ _)); refine blk_put (cs := #[.int .i64 x288000_1, .int .i64 x288001_1]) ?_ 0 _ rfl; (with_reducible repeat (first | refine blk_drewN ?_ _ | refine blk_drew ?_ | refine blk_alloc ?_ _)); exact BK287.out) hb); replace HB := a0_ (below_step (bl2_ GE286.out GE287.out) hb); clear hb ho102))
              replace HO290 := a0_ (Kd.R_drew HO290.out)
              replace HO293 := a0_ (Kd.R_drew HO293.out)
              replace HO298 := a0_ (Kd.R_drew HO298.out)
              replace BK286 := a0_ (blk_drew BK286.out)
              replace BK287 := a0_ (blk_drew BK287.out)
              replace HB := a0_ (below_drew1 HB.out)
              obtain ⟨Ao104, co104, eo104⟩ := Kd.R_slice HO298.out
              (first | subst eo104 | (injection eo104 with f1_ f2_ f3_; have f4_ := f1_.symm; have f5_ := f3_.symm; clear f1_ f2_ f3_; subst f4_; subst f5_))
              have p299 : 0 ≤ (x6_1 : Int) := od_
              have q299 : x6_1 < (y296.length : Int) := od_
              obtain ⟨ad299, e299, hx299_0, hx299_1⟩ := at_T78 (Kd.R_reads' HO298.out).2.2 x6_1 p299 q299
              cases e299
              replace p299 := eq_true p299
              replace q299 := eq_true q299
              have p300 : 0 ≤ ((ji28) : Int) := od_
              have q300 : (ji28) < (y296.length : Int) := od_
              obtain ⟨ad300, e300, hx300_0, hx300_1⟩ := at_T78 (Kd.R_reads' HO298.out).2.2 (ji28) p300 q300
              obtain rfl : ad299 = ad300 := (by injection e300)
              replace p300 := eq_true p300
              replace q300 := eq_true q300
              refine start_ (n := 14) (S := fun w' => w'.cell? (ad299.add ((x6_1).toNat * 2)) = some (.int .i64 ((rd_T78 y296 x6_1).f0)) ∧ w'.cell? ⟨(ad299.add ((x6_1).toNat * 2)).block, (ad299.add ((x6_1).toNat * 2)).off + 1, none⟩ = some (.int .i64 ((rd_T78 y296 x6_1).f1)) ∧ w'.cell? (ad299.add (((ji28)).toNat * 2)) = some (.int .i64 ((rd_T78 y296 (ji28)).f0)) ∧ w'.cell? ⟨(ad299.add (((ji28)).toNat * 2)).block, (ad299.add (((ji28)).toNat * 2)).off + 1, none⟩ = some (.int .i64 ((rd_T78 y296 (ji28)).f1))) (ds := []) (mk_ 0 14) kr_ rfl rfl ⟨hx299_0, hx299_1, hx300_0, hx300_1⟩ (fun hHeld => ?_); refine with_tabW spec_l23Word.tab11 spec_l23Word.bits11 (fun HT_ HW_ => ?_)
              generalize w101.drew = w103 at HO290 HO293 HO298 BK286 BK287 HB hx299_0 hx299_1 hx300_0 hx300_1 hHeld ⊢
              refine pu_ 0 (some 69) (mk_ 1 13) HT_ ?_
              refine pu_ 1 (some 70) (mk_ 2 12) HT_ ?_
              refine pu_ 2 (some 71) (mk_ 3 11) HT_ ?_
              refine pu_ 4 (some 73) #[true, true, true, false, true, false, false, false, false, false, false, false, false, false] HT_ ?_
              refine pu_ 5 (some 74) #[true, true, true, false, true, true, false, false, false, false, false, false, false, false] HT_ ?_
              refine pu_ 6 (some 75) #[true, true, true, false, true, true, true, false, false, false, false, false, false, false] HT_ ?_
              refine pu_ 7 (some 76) #[true, true, true, false, true, true, true, true, false, false, false, false, false, false] HT_ ?_
              refine pu_ 8 (some 77) #[true, true, true, false, true, true, true, true, true, false, false, false, false, false] HT_ ?_
              refine tk_ 3 (some 72) (mk_ 9 5) HT_ HW_ hHeld (hy := .inl ⟨by rfl, by rintro w' ⟨s0, s1, s2, s3⟩; go_simp; with_reducible rfl⟩) ?_
              refine tk_ 9 (some 78) (mk_ 10 4) HT_ HW_ hHeld (hy := .inl ⟨by rfl, by rintro w' ⟨s0, s1, s2, s3⟩; go_simp; with_reducible rfl⟩) ?_
              refine join_ (σ := Nat × Nat) 2 (mk_ 12 2) (fun s_ => [(9, .pointer (some ⟨s_.1, 0, none⟩)), (10, .pointer (some ⟨s_.2, 0, none⟩))]) (fun s_ w' => (w'.cell? (ad299.add ((x6_1).toNat * 2)) = some (.int .i64 ((rd_T78 y296 x6_1).f0)) ∧ w'.cell? ⟨(ad299.add ((x6_1).toNat * 2)).block, (ad299.add ((x6_1).toNat * 2)).off + 1, none⟩ = some (.int .i64 ((rd_T78 y296 x6_1).f1)) ∧ w'.cell? (ad299.add (((ji28)).toNat * 2)) = some (.int .i64 ((rd_T78 y296 (ji28)).f0)) ∧ w'.cell? ⟨(ad299.add (((ji28)).toNat * 2)).block, (ad299.add (((ji28)).toNat * 2)).off + 1, none⟩ = some (.int .i64 ((rd_T78 y296 (ji28)).f1))) ∧ (Kd.R (Kd.int .u8) 5 w' w.heap.size (fun _ => True) v289 y288) ∧ (Kd.R k78 78 w' w.heap.size (fun k_ => some k_ ≠ (.slice (some ad299) y296.length co104 : Value).ownBlock ∧ k_ ≠ gb286 ∧ k_ ≠ gb287 ∧ k_ ≠ s_.1 ∧ k_ ≠ s_.2) (.slice (some ad294) y291.length co95) y291) ∧ (Kd.R k78 78 w' w.heap.size (fun k_ => some k_ ≠ (.slice (some ad294) y291.length co95 : Value).ownBlock ∧ k_ ≠ gb286 ∧ k_ ≠ gb287 ∧ k_ ≠ s_.1 ∧ k_ ≠ s_.2) (.slice (some ad299) y296.length co104) y296) ∧ (w'.heap[gb286]? = some (.cells #[.int .i64 ((rd_T78 l0 0).f0), .int .i64 ((rd_T78 l0 0).f1)] 78 (0, 0))) ∧ (w'.heap[gb287]? = some (.cells #[.int .i64 (wrap64 (x288000_1 + ((rd_T78 y291 x6_1).f0))), .int .i64 (wrap64 (x288001_1 + ((rd_T78 y291 x6_1).f1)))] 78 (0, 0))) ∧ (w'.heap[s_.1]? = some (.cells #[.int .i64 0, .int .i64 0] 78 (0, 0))) ∧ (w'.heap[s_.2]? = some (.cells #[.int .i64 0, .int .i64 0] 78 (0, 0))) ∧ (w.heap.size ≤ s_.1) ∧ (w.heap.size ≤ s_.1) ∧ (gb286 ≠ s_.1) ∧ (s_.1 ≠ gb286) ∧ (gb287 ≠ s_.1) ∧ (s_.1 ≠ gb287) ∧ (s_.2 ≠ s_.1) ∧ (s_.1 ≠ s_.2) ∧ (w.heap.size ≤ s_.2) ∧ (w.heap.size ≤ s_.2) ∧ (gb286 ≠ s_.2) ∧ (s_.2 ≠ gb286) ∧ (gb287 ≠ s_.2) ∧ (s_.2 ≠ gb287) ∧ (Below w.heap.size w w')) ?_ ?_
              rotate_left
              ·intro hCont
               refine two_ (i := 10) (j := 11) (Ni := some 9) (Nj := some 10) (mk_ 11 3) #[true, true, true, true, true, true, true, true, true, true, false, true, false, false] rfl rfl rfl rfl (two_of HT_.out kr_) (by decide) (by decide) (fun K hK => ?_) (fun K hK => ?_)
               ·skip
                refine box_step ?hg (N := 9) ?hd (cs := #[.int .i64 0, .int .i64 0]) (t := 78) ?hr ?_; (case hd => rfl); (case hg => rfl); (case hr => first | (go_simp; done) | (go_simp; rfl))
                intro gb301 hg w105 hbox hb
                have HS0_ := (hb.cell (World.block_lt_of_cell? _ _ (hHeld.1))).trans (hHeld.1)
                have HS1_ := (hb.cell (World.block_lt_of_cell? _ _ (hHeld.2.1))).trans (hHeld.2.1)
                have HS2_ := (hb.cell (World.block_lt_of_cell? _ _ (hHeld.2.2.1))).trans (hHeld.2.2.1)
                have HS3_ := (hb.cell (World.block_lt_of_cell? _ _ (hHeld.2.2.2))).trans (hHeld.2.2.2)
                replace HO290 := a0_ (Kd.R_below (ra_ HO290.out) hb)
                replace HO293 := a0_ (Kd.R_below (Kd.R_elderB (ra_ HO293.out) gb301 (Nat.le_of_eq hg.symm)) hb)
                replace HO298 := a0_ (Kd.R_below (Kd.R_elderB (ra_ HO298.out) gb301 (Nat.le_of_eq hg.symm)) hb)
                have BK301 := a0_ (hbox)
                have GW301 := a0_ ((sz_ hg (bl2_ GE286.out GE287.out) : w.heap.size ≤ gb301))
                have GE301 := a0_ ((sz_ hg (bl2_ GE286.out GE287.out) : w.heap.size ≤ gb301))
                replace HB := a0_ (below_step (bl2_ GE286.out GE287.out) hb)
                have NB286_301 := a0_ ((nl_ hg BK286.out : gb286 ≠ gb301))
                have NB301_286 := a0_ ((ng_ hg BK286.out : gb301 ≠ gb286))
                replace BK286 := a0_ (bb_ BK286.out hb)
                have NB287_301 := a0_ ((nl_ hg BK287.out : gb287 ≠ gb301))
                have NB301_287 := a0_ ((ng_ hg BK287.out : gb301 ≠ gb287))
                replace BK287 := a0_ (bb_ BK287.out hb)
                clear hb hbox hg
                refine hK.out _ _ ⟨HS0_, HS1_, HS2_, HS3_⟩ (fun hHeld => ?_)
                clear hK K
                refine nm_ ?_
                refine one_ (i := 11) (N := some 10) (mk_ 12 2) rfl rfl (one_of HT_.out kr_) (by decide) (fun K hK => ?_)
                refine box_step ?hg (N := 10) ?hd (cs := #[.int .i64 0, .int .i64 0]) (t := 78) ?hr ?_; (case hd => rfl); (case hg => rfl); (case hr => first | (go_simp; done) | (go_simp; rfl))
                intro gb302 hg w106 hbox hb
                have HS0_ := (hb.cell (World.block_lt_of_cell? _ _ (hHeld.1))).trans (hHeld.1)
                have HS1_ := (hb.cell (World.block_lt_of_cell? _ _ (hHeld.2.1))).trans (hHeld.2.1)
                have HS2_ := (hb.cell (World.block_lt_of_cell? _ _ (hHeld.2.2.1))).trans (hHeld.2.2.1)
                have HS3_ := (hb.cell (World.block_lt_of_cell? _ _ (hHeld.2.2.2))).trans (hHeld.2.2.2)
                replace HO290 := a0_ (Kd.R_below (ra_ HO290.out) hb)
                replace HO293 := a0_ (Kd.R_below (Kd.R_elderB (ra_ HO293.out) gb302 (Nat.le_of_eq hg.symm)) hb)
                replace HO298 := a0_ (Kd.R_below (Kd.R_elderB (ra_ HO298.out) gb302 (Nat.le_of_eq hg.symm)) hb)
                have BK302 := a0_ (hbox)
                have GW302 := a0_ ((sz_ hg (bl3_ GE286.out GE287.out GE301.out) : w.heap.size ≤ gb302))
                have GE302 := a0_ ((sz_ hg (bl3_ GE286.out GE287.out GE301.out) : w.heap.size ≤ gb302))
                replace HB := a0_ (below_step (bl3_ GE286.out GE287.out GE301.out) hb)
                have NB286_302 := a0_ ((nl_ hg BK286.out : gb286 ≠ gb302))
                have NB302_286 := a0_ ((ng_ hg BK286.out : gb302 ≠ gb286))
                replace BK286 := a0_ (bb_ BK286.out hb)
                have NB287_302 := a0_ ((nl_ hg BK287.out : gb287 ≠ gb302))
                have NB302_287 := a0_ ((ng_ hg BK287.out : gb302 ≠ gb287))
                replace BK287 := a0_ (bb_ BK287.out hb)
                have NB301_302 := a0_ ((nl_ hg BK301.out : gb301 ≠ gb302))
                have NB302_301 := a0_ ((ng_ hg BK301.out : gb302 ≠ gb301))
                replace BK301 := a0_ (bb_ BK301.out hb)
                clear hb hbox hg
                refine hK.out _ _ ⟨HS0_, HS1_, HS2_, HS3_⟩ (fun hHeld => ?_)
                clear hK K
                refine nm_ ?_
                exact norm_ (by simp only [putAll, Act.put, List.setIfInBounds_toArray, List.set_cons_zero, List.set_cons_succ]) (hCont (gb301, gb302) _ ⟨hHeld, (ra_ HO290.out), (by (with_reducible repeat (first | apply Kd.R_alloc | apply Kd.R_drewN | apply Kd.R_drew)); exact Kd.R_mono HO293.out (fun _ hk => ⟨hk.1.1.2, ⟨hk.1.1.1.1.2, ⟨hk.1.1.1.2, ⟨hk.1.2, hk.2⟩⟩⟩⟩)), (by (with_reducible repeat (first | apply Kd.R_alloc | apply Kd.R_drewN | apply Kd.R_drew)); exact Kd.R_mono HO298.out (fun _ hk => ⟨hk.1.1.1.1.2, ⟨hk.1.1.1.2, ⟨hk.1.1.2, ⟨hk.1.2, hk.2⟩⟩⟩⟩)), (bk_ BK286.out), (bk_ BK287.out), (bk_ BK301.out), (bk_ BK302.out), GW301.out, GE301.out, NB286_301.out, NB301_286.out, NB287_301.out, NB301_287.out, NB302_301.out, NB301_302.out, GW302.out, GE302.out, NB286_302.out, NB302_286.out, NB287_302.out, NB302_287.out, (by repeat (first | (with_reducible first | exact HB.out | apply below_alloc | apply pw_below_drewN | apply below_drew1 | refine below_set ?_ GE286.out | refine below_set ?_ GE287.out | refine below_set ?_ GE301.out | refine below_set ?_ GE302.out) | exact HB.out))⟩)
               ·skip
                refine box_step ?hg (N := 10) ?hd (cs := #[.int .i64 0, .int .i64 0]) (t := 78) ?hr ?_; (case hd => rfl); (case hg => rfl); (case hr => first | (go_simp; done) | (go_simp; rfl))
                intro gb302 hg w105 hbox hb
                have HS0_ := (hb.cell (World.block_lt_of_cell? _ _ (hHeld.1))).trans (hHeld.1)
                have HS1_ := (hb.cell (World.block_lt_of_cell? _ _ (hHeld.2.1))).trans (hHeld.2.1)
                have HS2_ := (hb.cell (World.block_lt_of_cell? _ _ (hHeld.2.2.1))).trans (hHeld.2.2.1)
                have HS3_ := (hb.cell (World.block_lt_of_cell? _ _ (hHeld.2.2.2))).trans (hHeld.2.2.2)
                replace HO290 := a0_ (Kd.R_below (ra_ HO290.out) hb)
                replace HO293 := a0_ (Kd.R_below (Kd.R_elderB (ra_ HO293.out) gb302 (Nat.le_of_eq hg.symm)) hb)
                replace HO298 := a0_ (Kd.R_below (Kd.R_elderB (ra_ HO298.out) gb302 (Nat.le_of_eq hg.symm)) hb)
                have BK302 := a0_ (hbox)
                have GW302 := a0_ ((sz_ hg (bl2_ GE286.out GE287.out) : w.heap.size ≤ gb302))
                have GE302 := a0_ ((sz_ hg (bl2_ GE286.out GE287.out) : w.heap.size ≤ gb302))
                replace HB := a0_ (below_step (bl2_ GE286.out GE287.out) hb)
                have NB286_302 := a0_ ((nl_ hg BK286.out : gb286 ≠ gb302))
                have NB302_286 := a0_ ((ng_ hg BK286.out : gb302 ≠ gb286))
                replace BK286 := a0_ (bb_ BK286.out hb)
                have NB287_302 := a0_ ((nl_ hg BK287.out : gb287 ≠ gb302))
                have NB302_287 := a0_ ((ng_ hg BK287.out : gb302 ≠ gb287))
                replace BK287 := a0_ (bb_ BK287.out hb)
                clear hb hbox hg
                refine hK.out _ _ ⟨HS0_, HS1_, HS2_, HS3_⟩ (fun hHeld => ?_)
                clear hK K
                refine nm_ ?_
                refine one_ (i := 10) (N := some 9) (mk_ 12 2) rfl rfl (one_of HT_.out kr_) (by decide) (fun K hK => ?_)
                refine box_step ?hg (N := 9) ?hd (cs := #[.int .i64 0, .int .i64 0]) (t := 78) ?hr ?_; (case hd => rfl); (case hg => rfl); (case hr => first | (go_simp; done) | (go_simp; rfl))
                intro gb301 hg w106 hbox hb
                have HS0_ := (hb.cell (World.block_lt_of_cell? _ _ (hHeld.1))).trans (hHeld.1)
                have HS1_ := (hb.cell (World.block_lt_of_cell? _ _ (hHeld.2.1))).trans (hHeld.2.1)
                have HS2_ := (hb.cell (World.block_lt_of_cell? _ _ (hHeld.2.2.1))).trans (hHeld.2.2.1)
                have HS3_ := (hb.cell (World.block_lt_of_cell? _ _ (hHeld.2.2.2))).trans (hHeld.2.2.2)
                replace HO290 := a0_ (Kd.R_below (ra_ HO290.out) hb)
                replace HO293 := a0_ (Kd.R_below (Kd.R_elderB (ra_ HO293.out) gb301 (Nat.le_of_eq hg.symm)) hb)
                replace HO298 := a0_ (Kd.R_below (Kd.R_elderB (ra_ HO298.out) gb301 (Nat.le_of_eq hg.symm)) hb)
                have BK301 := a0_ (hbox)
                have GW301 := a0_ ((sz_ hg (bl3_ GE286.out GE287.out GE302.out) : w.heap.size ≤ gb301))
                have GE301 := a0_ ((sz_ hg (bl3_ GE286.out GE287.out GE302.out) : w.heap.size ≤ gb301))
                replace HB := a0_ (below_step (bl3_ GE286.out GE287.out GE302.out) hb)
                have NB286_301 := a0_ ((nl_ hg BK286.out : gb286 ≠ gb301))
                have NB301_286 := a0_ ((ng_ hg BK286.out : gb301 ≠ gb286))
                replace BK286 := a0_ (bb_ BK286.out hb)
                have NB287_301 := a0_ ((nl_ hg BK287.out : gb287 ≠ gb301))
                have NB301_287 := a0_ ((ng_ hg BK287.out : gb301 ≠ gb287))
                replace BK287 := a0_ (bb_ BK287.out hb)
                have NB302_301 := a0_ ((nl_ hg BK302.out : gb302 ≠ gb301))
                have NB301_302 := a0_ ((ng_ hg BK302.out : gb301 ≠ gb302))
                replace BK302 := a0_ (bb_ BK302.out hb)
                clear hb hbox hg
                refine hK.out _ _ ⟨HS0_, HS1_, HS2_, HS3_⟩ (fun hHeld => ?_)
                clear hK K
                refine nm_ ?_
                exact norm_ (by simp only [putAll, Act.put, List.setIfInBounds_toArray, List.set_cons_zero, List.set_cons_succ]) (hCont (gb301, gb302) _ ⟨hHeld, (ra_ HO290.out), (by (with_reducible repeat (first | apply Kd.R_alloc | apply Kd.R_drewN | apply Kd.R_drew)); exact Kd.R_mono HO293.out (fun _ hk => ⟨hk.1.1.2, ⟨hk.1.1.1.1.2, ⟨hk.1.1.1.2, ⟨hk.2, hk.1.2⟩⟩⟩⟩)), (by (with_reducible repeat (first | apply Kd.R_alloc | apply Kd.R_drewN | apply Kd.R_drew)); exact Kd.R_mono HO298.out (fun _ hk => ⟨hk.1.1.1.1.2, ⟨hk.1.1.1.2, ⟨hk.1.1.2, ⟨hk.2, hk.1.2⟩⟩⟩⟩)), (bk_ BK286.out), (bk_ BK287.out), (bk_ BK301.out), (bk_ BK302.out), GW301.out, GE301.out, NB286_301.out, NB301_286.out, NB287_301.out, NB301_287.out, NB302_301.out, NB301_302.out, GW302.out, GE302.out, NB286_302.out, NB302_286.out, NB287_302.out, NB302_287.out, (by repeat (first | (with_reducible first | exact HB.out | apply below_alloc | apply pw_below_drewN | apply below_drew1 | refine below_set ?_ GE286.out | refine below_set ?_ GE287.out | refine below_set ?_ GE302.out | refine below_set ?_ GE301.out) | exact HB.out))⟩)
              rintro ⟨gb301, gb302⟩ w107 ⟨hS_, h0_, h1_, h2_, h3_, h4_, h5_, h6_, h7_, h8_, h9_, h10_, h11_, h12_, h13_, h14_, h15_, h16_, h17_, h18_, h19_, h20_, h21_⟩
              have n0_ : Aside0 (Kd.R (Kd.int .u8) 5 w107 w.heap.size (fun _ => True) v289 y288) := ⟨h0_⟩
              have n1_ : Aside0 (Kd.R k78 78 w107 w.heap.size (fun k_ => some k_ ≠ (.slice (some ad299) y296.length co104 : Value).ownBlock ∧ k_ ≠ gb286 ∧ k_ ≠ gb287 ∧ k_ ≠ gb301 ∧ k_ ≠ gb302) (.slice (some ad294) y291.length co95) y291) := ⟨h1_⟩
              have n2_ : Aside0 (Kd.R k78 78 w107 w.heap.size (fun k_ => some k_ ≠ (.slice (some ad294) y291.length co95 : Value).ownBlock ∧ k_ ≠ gb286 ∧ k_ ≠ gb287 ∧ k_ ≠ gb301 ∧ k_ ≠ gb302) (.slice (some ad299) y296.length co104) y296) := ⟨h2_⟩
              have n3_ : Aside0 (w107.heap[gb286]? = some (.cells #[.int .i64 ((rd_T78 l0 0).f0), .int .i64 ((rd_T78 l0 0).f1)] 78 (0, 0))) := ⟨h3_⟩
              have n4_ : Aside0 (w107.heap[gb287]? = some (.cells #[.int .i64 (wrap64 (x288000_1 + ((rd_T78 y291 x6_1).f0))), .int .i64 (wrap64 (x288001_1 + ((rd_T78 y291 x6_1).f1)))] 78 (0, 0))) := ⟨h4_⟩
              have n5_ : Aside0 (w107.heap[gb301]? = some (.cells #[.int .i64 0, .int .i64 0] 78 (0, 0))) := ⟨h5_⟩
              have n6_ : Aside0 (w107.heap[gb302]? = some (.cells #[.int .i64 0, .int .i64 0] 78 (0, 0))) := ⟨h6_⟩
              have n7_ : Aside0 (w.heap.size ≤ gb301) := ⟨h7_⟩
              have n8_ : Aside0 (w.heap.size ≤ gb301) := ⟨h8_⟩
              have n9_ : Aside0 (gb286 ≠ gb301) := ⟨h9_⟩
              have n10_ : Aside0 (gb301 ≠ gb286) := ⟨h10_⟩
              have n11_ : Aside0 (gb287 ≠ gb301) := ⟨h11_⟩
              have n12_ : Aside0 (gb301 ≠ gb287) := ⟨h12_⟩
              have n13_ : Aside0 (gb302 ≠ gb301) := ⟨h13_⟩
              have n14_ : Aside0 (gb301 ≠ gb302) := ⟨h14_⟩
              have n15_ : Aside0 (w.heap.size ≤ gb302) := ⟨h15_⟩
              have n16_ : Aside0 (w.heap.size ≤ gb302) := ⟨h16_⟩
              have n17_ : Aside0 (gb286 ≠ gb302) := ⟨h17_⟩
              have n18_ : Aside0 (gb302 ≠ gb286) := ⟨h18_⟩
              have n19_ : Aside0 (gb287 ≠ gb302) := ⟨h19_⟩
              have n20_ : Aside0 (gb302 ≠ gb287) := ⟨h20_⟩
              have n21_ : Aside0 (Below w.heap.size w w107) := ⟨h21_⟩
              clear HO290
              clear HO293
              clear HO298
              clear BK286
              clear BK287
              clear HB
              clear h0_ h1_ h2_ h3_ h4_ h5_ h6_ h7_ h8_ h9_ h10_ h11_ h12_ h13_ h14_ h15_ h16_ h17_ h18_ h19_ h20_ h21_
              have HO290 := n0_
              have HO293 := n1_
              have HO298 := n2_
              have BK286 := n3_
              have BK287 := n4_
              have BK301 := n5_
              have BK302 := n6_
              have GW301 := n7_
              have GE301 := n8_
              have NB286_301 := n9_
              have NB301_286 := n10_
              have NB287_301 := n11_
              have NB301_287 := n12_
              have NB302_301 := n13_
              have NB301_302 := n14_
              have GW302 := n15_
              have GE302 := n16_
              have NB286_302 := n17_
              have NB302_286 := n18_
              have NB287_302 := n19_
              have NB302_287 := n20_
              have HB := n21_
              clear n0_ n1_ n2_ n3_ n4_ n5_ n6_ n7_ n8_ n9_ n10_ n11_ n12_ n13_ n14_ n15_ n16_ n17_ n18_ n19_ n20_ n21_
              have hHeld : w107.cell? (ad299.add ((x6_1).toNat * 2)) = some (.int .i64 ((rd_T78 y296 x6_1).f0)) ∧ w107.cell? ⟨(ad299.add ((x6_1).toNat * 2)).block, (ad299.add ((x6_1).toNat * 2)).off + 1, none⟩ = some (.int .i64 ((rd_T78 y296 x6_1).f1)) ∧ w107.cell? (ad299.add (((ji28)).toNat * 2)) = some (.int .i64 ((rd_T78 y296 (ji28)).f0)) ∧ w107.cell? ⟨(ad299.add (((ji28)).toNat * 2)).block, (ad299.add (((ji28)).toNat * 2)).off + 1, none⟩ = some (.int .i64 ((rd_T78 y296 (ji28)).f1)) := hS_
              refine norm_ (a' := ?_) ?_ ?_
              rotate_left
              ·simp only [putAll, Act.put, List.setIfInBounds_toArray, List.set_cons_zero, List.set_cons_succ]
               rfl
              refine one_ (i := 12) (N := none) (mk_ 13 1) rfl rfl (one_of HT_.out kr_) (by decide) (fun K hK => ?_)
              have hs108 : w107.cell? ⟨gb301, 0, none⟩ = some (.int .i64 0) := (blk_cell BK301.out 0).trans rfl
              have hfs108 := blk_frozen BK301.out 0
              have hns108_0 := NB286_301.out
              have hns108_1 := NB287_301.out
              have hns108_3 := NB302_301.out
              have hms108_0 := NB301_286.out
              have hms108_1 := NB301_287.out
              have hms108_3 := NB301_302.out
              have hs109 : w107.cell? ⟨gb301, 1, none⟩ = some (.int .i64 0) := (blk_cell BK301.out 1).trans rfl
              have hfs109 := blk_frozen BK301.out 1
              have hns109_0 := NB286_301.out
              have hns109_1 := NB287_301.out
              have hns109_3 := NB302_301.out
              have hms109_0 := NB301_286.out
              have hms109_1 := NB301_287.out
              have hms109_3 := NB301_302.out
              refine skip_ (w1 := ?_) (by rfl) rfl ?_ ?_
              rotate_left
              ·go_simp
               rfl
              refine hK.out _ _ ⟨((cell_far (p := ⟨gb301, _, none⟩) (by first | exact Kd.own_blk (Kd.R_away HO298.out (fun _ hk => hk.2.2.2.1)) | (rw [add_block]; exact Kd.own_blk (Kd.R_away HO298.out (fun _ hk => hk.2.2.2.1))) | (show (Addr.add _ _).block ≠ _; rw [add_block]; exact Kd.own_blk (Kd.R_away HO298.out (fun _ hk => hk.2.2.2.1))) | (dsimp only; exact Kd.own_blk (Kd.R_away HO298.out (fun _ hk => hk.2.2.2.1)))) _).trans (((cell_far (p := ⟨gb301, _, none⟩) (by first | exact Kd.own_blk (Kd.R_away HO298.out (fun _ hk => hk.2.2.2.1)) | (rw [add_block]; exact Kd.own_blk (Kd.R_away HO298.out (fun _ hk => hk.2.2.2.1))) | (show (Addr.add _ _).block ≠ _; rw [add_block]; exact Kd.own_blk (Kd.R_away HO298.out (fun _ hk => hk.2.2.2.1))) | (dsimp only; exact Kd.own_blk (Kd.R_away HO298.out (fun _ hk => hk.2.2.2.1)))) _).trans (hHeld.1)))), ((cell_far (p := ⟨gb301, _, none⟩) (by first | exact Kd.own_blk (Kd.R_away HO298.out (fun _ hk => hk.2.2.2.1)) | (rw [add_block]; exact Kd.own_blk (Kd.R_away HO298.out (fun _ hk => hk.2.2.2.1))) | (show (Addr.add _ _).block ≠ _; rw [add_block]; exact Kd.own_blk (Kd.R_away HO298.out (fun _ hk => hk.2.2.2.1))) | (dsimp only; exact Kd.own_blk (Kd.R_away HO298.out (fun _ hk => hk.2.2.2.1)))) _).trans (((cell_far (p := ⟨gb301, _, none⟩) (by first | exact Kd.own_blk (Kd.R_away HO298.out (fun _ hk => hk.2.2.2.1)) | (rw [add_block]; exact Kd.own_blk (Kd.R_away HO298.out (fun _ hk => hk.2.2.2.1))) | (show (Addr.add _ _).block ≠ _; rw [add_block]; exact Kd.own_blk (Kd.R_away HO298.out (fun _ hk => hk.2.2.2.1))) | (dsimp only; exact Kd.own_blk (Kd.R_away HO298.out (fun _ hk => hk.2.2.2.1)))) _).trans (hHeld.2.1)))), ((cell_far (p := ⟨gb301, _, none⟩) (by first | exact Kd.own_blk (Kd.R_away HO298.out (fun _ hk => hk.2.2.2.1)) | (rw [add_block]; exact Kd.own_blk (Kd.R_away HO298.out (fun _ hk => hk.2.2.2.1))) | (show (Addr.add _ _).block ≠ _; rw [add_block]; exact Kd.own_blk (Kd.R_away HO298.out (fun _ hk => hk.2.2.2.1))) | (dsimp only; exact Kd.own_blk (Kd.R_away HO298.out (fun _ hk => hk.2.2.2.1)))) _).trans (((cell_far (p := ⟨gb301, _, none⟩) (by first | exact Kd.own_blk (Kd.R_away HO298.out (fun _ hk => hk.2.2.2.1)) | (rw [add_block]; exact Kd.own_blk (Kd.R_away HO298.out (fun _ hk => hk.2.2.2.1))) | (show (Addr.add _ _).block ≠ _; rw [add_block]; exact Kd.own_blk (Kd.R_away HO298.out (fun _ hk => hk.2.2.2.1))) | (dsimp only; exact Kd.own_blk (Kd.R_away HO298.out (fun _ hk => hk.2.2.2.1)))) _).trans (hHeld.2.2.1)))), ((cell_far (p := ⟨gb301, _, none⟩) (by first | exact Kd.own_blk (Kd.R_away HO298.out (fun _ hk => hk.2.2.2.1)) | (rw [add_block]; exact Kd.own_blk (Kd.R_away HO298.out (fun _ hk => hk.2.2.2.1))) | (show (Addr.add _ _).block ≠ _; rw [add_block]; exact Kd.own_blk (Kd.R_away HO298.out (fun _ hk => hk.2.2.2.1))) | (dsimp only; exact Kd.own_blk (Kd.R_away HO298.out (fun _ hk => hk.2.2.2.1)))) _).trans (((cell_far (p := ⟨gb301, _, none⟩) (by first | exact Kd.own_blk (Kd.R_away HO298.out (fun _ hk => hk.2.2.2.1)) | (rw [add_block]; exact Kd.own_blk (Kd.R_away HO298.out (fun _ hk => hk.2.2.2.1))) | (show (Addr.add _ _).block ≠ _; rw [add_block]; exact Kd.own_blk (Kd.R_away HO298.out (fun _ hk => hk.2.2.2.1))) | (dsimp only; exact Kd.own_blk (Kd.R_away HO298.out (fun _ hk => hk.2.2.2.1)))) _).trans (hHeld.2.2.2))))⟩ (fun hHeld => ?_)
              clear hK K
              refine one_ (i := 13) (N := none) (mk_ 14 0) rfl rfl (one_of HT_.out kr_) (by decide) (fun K hK => ?_)
              have hs110 : w107.cell? ⟨gb302, 0, none⟩ = some (.int .i64 0) := (blk_cell BK302.out 0).trans rfl
              have hfs110 := blk_frozen BK302.out 0
              have hns110_0 := NB286_302.out
              have hns110_1 := NB287_302.out
              have hns110_2 := NB301_302.out
              have hms110_0 := NB302_286.out
              have hms110_1 := NB302_287.out
              have hms110_2 := NB302_301.out
              have hs111 : w107.cell? ⟨gb302, 1, none⟩ = some (.int .i64 0) := (blk_cell BK302.out 1).trans rfl
              have hfs111 := blk_frozen BK302.out 1
              have hns111_0 := NB286_302.out
              have hns111_1 := NB287_302.out
              have hns111_2 := NB301_302.out
              have hms111_0 := NB302_286.out
              have hms111_1 := NB302_287.out
              have hms111_2 := NB302_301.out
              refine skip_ (w1 := ?_) (by rfl) rfl ?_ ?_
              rotate_left
              ·go_simp
               rfl
              refine hK.out _ _ ⟨((cell_far (p := ⟨gb302, _, none⟩) (by first | exact Kd.own_blk (Kd.R_away HO298.out (fun _ hk => hk.2.2.2.2)) | (rw [add_block]; exact Kd.own_blk (Kd.R_away HO298.out (fun _ hk => hk.2.2.2.2))) | (show (Addr.add _ _).block ≠ _; rw [add_block]; exact Kd.own_blk (Kd.R_away HO298.out (fun _ hk => hk.2.2.2.2))) | (dsimp only; exact Kd.own_blk (Kd.R_away HO298.out (fun _ hk => hk.2.2.2.2)))) _).trans (((cell_far (p := ⟨gb302, _, none⟩) (by first | exact Kd.own_blk (Kd.R_away HO298.out (fun _ hk => hk.2.2.2.2)) | (rw [add_block]; exact Kd.own_blk (Kd.R_away HO298.out (fun _ hk => hk.2.2.2.2))) | (show (Addr.add _ _).block ≠ _; rw [add_block]; exact Kd.own_blk (Kd.R_away HO298.out (fun _ hk => hk.2.2.2.2))) | (dsimp only; exact Kd.own_blk (Kd.R_away HO298.out (fun _ hk => hk.2.2.2.2)))) _).trans (hHeld.1)))), ((cell_far (p := ⟨gb302, _, none⟩) (by first | exact Kd.own_blk (Kd.R_away HO298.out (fun _ hk => hk.2.2.2.2)) | (rw [add_block]; exact Kd.own_blk (Kd.R_away HO298.out (fun _ hk => hk.2.2.2.2))) | (show (Addr.add _ _).block ≠ _; rw [add_block]; exact Kd.own_blk (Kd.R_away HO298.out (fun _ hk => hk.2.2.2.2))) | (dsimp only; exact Kd.own_blk (Kd.R_away HO298.out (fun _ hk => hk.2.2.2.2)))) _).trans (((cell_far (p := ⟨gb302, _, none⟩) (by first | exact Kd.own_blk (Kd.R_away HO298.out (fun _ hk => hk.2.2.2.2)) | (rw [add_block]; exact Kd.own_blk (Kd.R_away HO298.out (fun _ hk => hk.2.2.2.2))) | (show (Addr.add _ _).block ≠ _; rw [add_block]; exact Kd.own_blk (Kd.R_away HO298.out (fun _ hk => hk.2.2.2.2))) | (dsimp only; exact Kd.own_blk (Kd.R_away HO298.out (fun _ hk => hk.2.2.2.2)))) _).trans (hHeld.2.1)))), ((cell_far (p := ⟨gb302, _, none⟩) (by first | exact Kd.own_blk (Kd.R_away HO298.out (fun _ hk => hk.2.2.2.2)) | (rw [add_block]; exact Kd.own_blk (Kd.R_away HO298.out (fun _ hk => hk.2.2.2.2))) | (show (Addr.add _ _).block ≠ _; rw [add_block]; exact Kd.own_blk (Kd.R_away HO298.out (fun _ hk => hk.2.2.2.2))) | (dsimp only; exact Kd.own_blk (Kd.R_away HO298.out (fun _ hk => hk.2.2.2.2)))) _).trans (((cell_far (p := ⟨gb302, _, none⟩) (by first | exact Kd.own_blk (Kd.R_away HO298.out (fun _ hk => hk.2.2.2.2)) | (rw [add_block]; exact Kd.own_blk (Kd.R_away HO298.out (fun _ hk => hk.2.2.2.2))) | (show (Addr.add _ _).block ≠ _; rw [add_block]; exact Kd.own_blk (Kd.R_away HO298.out (fun _ hk => hk.2.2.2.2))) | (dsimp only; exact Kd.own_blk (Kd.R_away HO298.out (fun _ hk => hk.2.2.2.2)))) _).trans (hHeld.2.2.1)))), ((cell_far (p := ⟨gb302, _, none⟩) (by first | exact Kd.own_blk (Kd.R_away HO298.out (fun _ hk => hk.2.2.2.2)) | (rw [add_block]; exact Kd.own_blk (Kd.R_away HO298.out (fun _ hk => hk.2.2.2.2))) | (show (Addr.add _ _).block ≠ _; rw [add_block]; exact Kd.own_blk (Kd.R_away HO298.out (fun _ hk => hk.2.2.2.2))) | (dsimp only; exact Kd.own_blk (Kd.R_away HO298.out (fun _ hk => hk.2.2.2.2)))) _).trans (((cell_far (p := ⟨gb302, _, none⟩) (by first | exact Kd.own_blk (Kd.R_away HO298.out (fun _ hk => hk.2.2.2.2)) | (rw [add_block]; exact Kd.own_blk (Kd.R_away HO298.out (fun _ hk => hk.2.2.2.2))) | (show (Addr.add _ _).block ≠ _; rw [add_block]; exact Kd.own_blk (Kd.R_away HO298.out (fun _ hk => hk.2.2.2.2))) | (dsimp only; exact Kd.own_blk (Kd.R_away HO298.out (fun _ hk => hk.2.2.2.2)))) _).trans (hHeld.2.2.2))))⟩ (fun hHeld => ?_)
              clear hK K
              refine done_ (done_of HT_.out kr_) ?_
              have hnb112 := NB301_286.out
              have hnc112 := NB286_301.out
              have hnb113 := NB301_287.out
              have hnc113 := NB287_301.out
              have hnb114 := NB301_302.out
              have hnc114 := NB302_301.out
              have hcz115_0 : w107.cell? ⟨gb301, 0, none⟩ = some (.int .i64 0) := (blk_cell BK301.out 0).trans rfl
              have hcz115_1 : w107.cell? ⟨gb301, 1, none⟩ = some (.int .i64 0) := (blk_cell BK301.out 1).trans rfl
              have hfz115_0 := blk_frozen BK301.out 0
              have hfz115_1 := blk_frozen BK301.out 1
              try go_wp2_with (first | ((with_reducible refine gate_callee (f := 70) rfl ?_); refine goesL_ (some 82) rfl rfl Tryd.func70 kr_ rfl #[.slice (some ad285) l0.length c0, .agg #[.int .i64 ((rd_T78 y296 x6_1).f0), .int .i64 ((rd_T78 y296 x6_1).f1)]] rfl ta_ ?_; (with_reducible refine (spec_l02Index.calls k1 _ _ l0 ((rd_T78 y296 x6_1).f0) ((rd_T78 y296 x6_1).f1) t303 _ ?side1 ?side2 A31.out).mono ?_); (case side1 => exact Kd.C_below HR0.out (by repeat (first | (with_reducible first | exact HB.out | apply below_alloc | apply pw_below_drewN | apply below_drew1 | refine below_set ?_ GE286.out | refine below_set ?_ GE287.out | refine below_set ?_ GE301.out | refine below_set ?_ GE302.out) | exact HB.out))); (case side2 => exact HC0.out); rintro e w116 ⟨rfl, hb⟩; refine ⟨_, rfl, ?_⟩; replace HO290 := a0_ (Kd.R_below (by (with_reducible repeat (first | apply Kd.R_alloc | apply Kd.R_drewN | apply Kd.R_drew)); exact (Kd.R_mono (Kd.R_mono (Kd.R_far (p := ⟨gb302, 1, none⟩) (Kd.R_far (p := ⟨gb302, 0, none⟩) (Kd.R_far (p := ⟨gb301, 1, none⟩) (Kd.R_far (p := ⟨gb301, 0, none⟩) (Kd.R_types (Kd.R_types HO290.out BK301.out (by decide)) BK302.out (by decide)) (fun _ hk => hk.1.2) (.int .i64 ((rd_T78 y296 x6_1).f0))) (fun _ hk => hk.1.2) (.int .i64 ((rd_T78 y296 x6_1).f1))) (fun _ hk => hk.2) (.int .i64 ((rd_T78 y296 (ji28)).f0))) (fun _ hk => hk.2) (.int .i64 ((rd_T78 y296 (ji28)).f1))) (fun _ h_ => h_.1)) (fun _ h_ => h_.1))) hb); replace HO293 := a0_ (Kd.R_below (by (with_reducible repeat (first | apply Kd.R_alloc | apply Kd.R_drewN | apply Kd.R_drew)); exact (Kd.R_mono (Kd.R_mono (Kd.R_far (p := ⟨gb302, 1, none⟩) (Kd.R_far (p := ⟨gb302, 0, none⟩) (Kd.R_far (p := ⟨gb301, 1, none⟩) (Kd.R_far (p := ⟨gb301, 0, none⟩) (Kd.R_mono (Kd.R_mono HO293.out (fun k_ hk => (⟨hk, hk.2.2.2.1⟩ : _ ∧ k_ ≠ gb301))) (fun k_ hk => (⟨hk, hk.1.2.2.2.2⟩ : _ ∧ k_ ≠ gb302))) (fun _ hk => hk.1.2) (.int .i64 ((rd_T78 y296 x6_1).f0))) (fun _ hk => hk.1.2) (.int .i64 ((rd_T78 y296 x6_1).f1))) (fun _ hk => hk.2) (.int .i64 ((rd_T78 y296 (ji28)).f0))) (fun _ hk => hk.2) (.int .i64 ((rd_T78 y296 (ji28)).f1))) (fun _ h_ => h_.1)) (fun _ h_ => h_.1))) hb); replace HO298 := a0_ (Kd.R_below (by (with_reducible repeat (first | apply Kd.R_alloc | apply Kd.R_drewN | apply Kd.R_drew)); exact (Kd.R_mono (Kd.R_mono (Kd.R_far (p := ⟨gb302, 1, none⟩) (Kd.R_far (p := ⟨gb302, 0, none⟩) (Kd.R_far (p := ⟨gb301, 1, none⟩) (Kd.R_far (p := ⟨gb301, 0, none⟩) (Kd.R_mono (Kd.R_mono HO298.out (fun k_ hk => (⟨hk, hk.2.2.2.1⟩ : _ ∧ k_ ≠ gb301))) (fun k_ hk => (⟨hk, hk.1.2.2.2.2⟩ : _ ∧ k_ ≠ gb302))) (fun _ hk => hk.1.2) (.int .i64 ((rd_T78 y296 x6_1).f0))) (fun _ hk => hk.1.2) (.int .i64 ((rd_T78 y296 x6_1).f1))) (fun _ hk => hk.2) (.int .i64 ((rd_T78 y296 (ji28)).f0))) (fun _ hk => hk.2) (.int .i64 ((rd_T78 y296 (ji28)).f1))) (fun _ h_ => h_.1)) (fun _ h_ => h_.1))) hb); replace BK286 := a0_ (blk_below (g := gb286) (o := .cells #[.int .i64 ((rd_T78 l0 0).f0), .int .i64 ((rd_T78 l0 0).f1)] 78 (0, 0)) (by (with_reducible repeat (first | refine blk_drewN ?_ _ | refine blk_drew ?_ | refine blk_alloc ?_ _)); refine blk_far ?_ NB286_302.out _; (with_reducible repeat (first | refine blk_drewN ?_ _ | refine blk_drew ?_ | refine blk_alloc ?_ _)); refine blk_far ?_ NB286_302.out _; (with_reducible repeat (first | refine blk_drewN ?_ _ | refine blk_drew ?_ | refine blk_alloc ?_ _)); refine blk_far ?_ NB286_301.out _; (with_reducible repeat (first | refine blk_drewN ?_ _ | refine blk_drew ?_ | refine blk_alloc ?_ _)); refine blk_far ?_ NB286_301.out _; (with_reducible repeat (first | refine blk_drewN ?_ _ | refine blk_drew ?_ | refine blk_alloc ?_ _)); exact BK286.out) hb); replace BK287 := a0_ (blk_below (g := gb287) (o := .cells #[.int .i64 (wrap64 (x288000_1 + ((rd_T78 y291 x6_1).f0))), .int .i64 (wrap64 (x288001_1 + ((rd_T78 y291 x6_1).f1)))] 78 (0, 0)) (by (with_reducible repeat (first | refine blk_drewN ?_ _ | refine blk_drew ?_ | refine blk_alloc ?_ _)); refine blk_far ?_ NB287_302.out _; (with_reducible repeat (first | refine blk_drewN ?_ _ | refine blk_drew ?_ | refine blk_alloc ?_ _)); refine blk_far ?_ NB287_302.out _; (with_reducible repeat (first | refine blk_drewN ?_ _ | refine blk_drew ?_ | refine blk_alloc ?_ _)); refine blk_far ?_ NB287_301.out _; (with_reducible repeat (first | refine blk_drewN ?_ _ | refine blk_drew ?_ | refine blk_alloc ?_ _)); refine blk_far ?_ NB287_301.out _; (with_reducible repeat (first | refine blk_drewN ?_ _ | refine blk_drew ?_ | refine blk_alloc ?_ _)); exact BK287.out) hb); replace BK301 := a0_ (blk_below (g := gb301) (o := .cells #[.int .i64 ((rd_T78 y296 x6_1).f0), .int .i64 ((rd_T78 y296 x6_1).f1)] 78 (0, 0)) (by (with_reducible repeat (first | refine blk_drewN ?_ _ | refine blk_drew ?_ | refine blk_alloc ?_ _)); refine blk_far ?_ NB301_302.out _; (with_reducible repeat (first | refine blk_drewN ?_ _ | refine blk_drew ?_ | refine blk_alloc ?_ _)); refine blk_far ?_ NB301_302.out _; (with_reducible repeat (first | refine blk_drewN ?_ _ | refine blk_drew ?_ | refine blk_alloc ?_ _)); refine blk_put (cs := #[.int .i64 ((rd_T78 y296 x6_1).f0), .int .i64 0]) ?_ 1 _ rfl; (with_reducible repeat (first | refine blk_drewN ?_ _ | refine blk_drew ?_ | refine blk_alloc ?_ _)); refine blk_put (cs := #[.int .i64 0, .int .i64 0]) ?_ 0 _ rfl; (with_reducible repeat (first | refine blk_drewN ?_ _ | refine blk_drew ?_ | refine blk_alloc ?_ _)); exact BK301.out) hb); replace BK302 := a0_ (blk_below (g := gb302) (o := .cells #[.int .i64 ((rd_T78 y296 (ji28)).f0), .int .i64 ((rd_T78 y296 (ji28)).f1)] 78 (0, 0)) (by (with_reducible repeat (first | refine blk_drewN ?_ _ | refine blk_drew ?_ | refine blk_alloc ?_ _)); refine blk_put (cs := #[.int .i64 ((rd_T78 y296 (ji28)).f0), .int .i64 0]) ?_ 1 _ rfl; (with_reducible repeat (first | refine blk_drewN ?_ _ | refine blk_drew ?_ | refine blk_alloc ?_ _)); refine blk_put (cs := #[.int .i64 0, .int .i64 0]) ?_ 0 _ rfl; (with_reducible repeat (first | refine blk_drewN ?_ _ | refine blk_drew ?_ | refine blk_alloc ?_ _)); refine blk_far ?_ NB302_301.out _; (with_reducible repeat (first | refine blk_drewN ?_ _ | refine blk_drew ?_ | refine blk_alloc ?_ _)); refine blk_far ?_ NB302_301.out _; (with_reducible repeat (first | refine blk_drewN ?_ _ | refine blk_drew ?_ | refine blk_alloc ?_ _)); exact BK302.out) hb); replace HB := a0_ (below_step (by repeat (first | (with_reducible first | exact HB.out | apply below_alloc | apply pw_below_drewN | apply below_drew1 | refine below_set ?_ GE286.out | refine below_set ?_ GE287.out | refine below_set ?_ GE301.out | refine below_set ?_ GE302.out) | exact HB.out)) hb); (try clear hb); (try clear hb2); (try clear hk); (try clear hi); have hnb117 := NB302_286.out; have hnc117 := NB286_302.out; have hnb118 := NB302_287.out; have hnc118 := NB287_302.out; obtain ⟨hcz119_0, hcz119_1, hfz119_0, hfz119_1⟩ := bc2_ BK302.out) | ((with_reducible refine gate_callee (f := 70) rfl ?_); refine goesL_ (some 90) rfl rfl Tryd.func70 kr_ rfl #[.slice (some ad285) l0.length c0, .agg #[.int .i64 ((rd_T78 y296 (ji28)).f0), .int .i64 ((rd_T78 y296 (ji28)).f1)]] rfl (by (try simp only [List.map_toArray, List.map_cons, List.map_nil]); first | done | (simp only [hji28]; rfl) | rfl | (simp only [List.length_drop, List.length_take]; rfl)) ?_; (with_reducible refine (spec_l02Index.calls k1 _ _ l0 ((rd_T78 y296 (ji28)).f0) ((rd_T78 y296 (ji28)).f1) t304 _ ?side1 ?side2 A59.out).mono ?_); (case side1 => exact ca_ (Kd.C_below HR0.out HB.out)); (case side2 => exact HC0.out); rintro e w120 ⟨rfl, hb⟩; refine ⟨_, rfl, ?_⟩; replace HO290 := a0_ (Kd.R_below (ra_ HO290.out) hb); replace HO293 := a0_ (Kd.R_below (ra_ HO293.out) hb); replace HO298 := a0_ (Kd.R_below (ra_ HO298.out) hb); replace BK286 := a0_ (bb_ BK286.out hb); replace BK287 := a0_ (bb_ BK287.out hb); replace BK301 := a0_ (bb_ BK301.out hb); replace BK302 := a0_ (bb_ BK302.out hb); replace HB := a0_ (below_step (by repeat (first | (with_reducible first | exact HB.out | apply below_alloc | apply pw_below_drewN | apply below_drew1 | refine below_set ?_ GE286.out | refine below_set ?_ GE287.out | refine below_set ?_ GE301.out | refine below_set ?_ GE302.out) | exact HB.out)) hb); (try clear hb); (try clear hb2); (try clear hk); (try clear hi)))
              go_roundg k1
              case measure => have := HK1.out; omega
              case rel => exact ⟨(y288), (x6_1), (wrap64 (x288000_1 + ((rd_T78 y291 x6_1).f0))), (wrap64 (x288001_1 + ((rd_T78 y291 x6_1).f1))), rs_, H', ⟨by have := HK1.out; omega⟩, ⟨ra_ HO290.out⟩, ⟨bk_ BK286.out⟩, ⟨bk_ BK287.out⟩, ⟨by repeat (first | (with_reducible first | exact HB.out | apply below_alloc | apply pw_below_drewN | apply below_drew1 | refine below_set ?_ GE286.out | refine below_set ?_ GE287.out | refine below_set ?_ GE301.out | refine below_set ?_ GE302.out) | exact HB.out)⟩⟩
           ·rw [if_neg c30] at H
            exact absurd H (by simp)
          ·rw [if_neg c29] at H
           exact absurd H (by simp)
         ·rw [if_neg c27] at H
          exact absurd H (by simp)
       ·rw [if_neg c14] at H
        exact absurd H (by simp)
      ·rw [if_neg c13] at H
       exact absurd H (by simp)
     ·rw [if_neg c11] at H
      exact absurd H (by simp)
    ·rw [if_neg c10] at H
     exact absurd H (by simp)
 ·rw [if_neg c2] at H
  exact absurd H (by simp)

end Go.Proofs.YtopceddgiddhlaaDoor.PFnRolled
