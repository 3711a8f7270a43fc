/- Over the kit's printer by a driver of mine (hprint.py), with parts by hand: functions of the program as Lean functions, and that each call comes to exactly these answers. -/
import Derived.Test.YtaaodakmelihaaaGreatPFnPiecesx0
import Derived.Test.YtaaodakmelihaaaGreatPFnPiecesx2
import Derived.Test.YtaaodakmelihaaaGreatPFnPiecesx6
import Derived.Test.YtaaodakmelihaaaGreatPFnPiecesx9
import Derived.Test.YtaaodakmelihaaaGreatPFnPiecesx10
namespace Go.Proofs.YtaaodakmelihaaaGreat.PFnPieces
open Go.RowKit Go.Proofs.YtaaodakmelihaaaGreatW.PrintWords Go.Proofs.YtaaodakmelihaaaGreatW.PrintLast Go.Proofs.YtaaodakmelihaaaGreatW.PrintMore
attribute [local go_sem] max2_int min2_int max_two min_two max_three min_three max_four min_four   -- for this text's walks alone
set_option linter.unusedVariables false
set_option linter.unusedSimpArgs false

/-! ### spec_DrawAreAlike: function 5 -/
def spec_DrawAreAlike.j0 : Nat → Bool → List Int → Int → Int → List (S60) → Int → Bool → Option ((List (S60)) × Int × Bool × (List (S60)) × Int × Bool)
 | 0, _, _, _, _, _, _, _ => none
 | k + 1, x16, x357000, x357001, x357002, x365000, x365001, x365002 => if x16 = true then ((spec_l01Next.f x357000 x357001 x357002 8).bind fun bt369 => ((spec_l03Form.f k x365000 bt369.1).bind fun t372 => ((spec_l01Next.f x357000 bt369.2.1 bt369.2.2 2).bind fun bt375 => (some (x365000, x365001, x365002, t372, 1, (bt375.1 == 0)))))) else ((spec_l11DrawPiece.f k x357000 x357001 x357002).bind fun bt378 => (some (x365000, x365001, x365002, bt378.1, bt378.2.1, bt378.2.2.1)))
def spec_DrawAreAlike.f (k : Nat) (l0 : List Int) : Option ((List (S60)) × Int × Bool × (List (S60)) × Int × Bool) := (spec_l01From.f k l0).bind fun bt353 => ((spec_l11DrawPiece.f k bt353.1 bt353.2.1 bt353.2.2).bind fun bt357 => ((spec_IsPiece.f k bt357.1 bt357.2.1 bt357.2.2.1).bind fun t365 => (if t365 = true then ((spec_l01Next.f bt353.1 bt357.2.2.2.1 bt357.2.2.2.2 2).bind fun bt366 => (spec_DrawAreAlike.j0 k (bt366.1 == 0) bt353.1 bt366.2.1 bt366.2.2 bt357.1 bt357.2.1 bt357.2.2.1)) else (spec_DrawAreAlike.j0 k false bt353.1 bt357.2.2.2.1 bt357.2.2.2.2 bt357.1 bt357.2.1 bt357.2.2.1))))
theorem spec_DrawAreAlike.mono_l : ∀ k, (∀ y0 y1 y2 y3 y4 y5 y6, LeO (spec_DrawAreAlike.j0 k y0 y1 y2 y3 y4 y5 y6) (spec_DrawAreAlike.j0 (k + 1) y0 y1 y2 y3 y4 y5 y6))
 | 0 => fun _ _ _ _ _ _ _ r h => by simp [spec_DrawAreAlike.j0] at h
 | k + 1 => by
  have ih0 := spec_DrawAreAlike.mono_l k
  ·intro y0 y1 y2 y3 y4 y5 y6
   unfold spec_DrawAreAlike.j0
   with_reducible (repeat' first | exact ih0 _ _ _ _ _ _ _ | exact spec_IsPiece.mono _ _ _ _ | exact spec_l01From.mono _ _ | exact spec_l03Form.mono _ _ _ | exact spec_l11DrawPiece.mono _ _ _ _ | exact LeO.refl _ | exact LeO.none _ | refine LeO.ite ?_ ?_ | refine LeO.bind ?_ (fun _ => ?_))
theorem spec_DrawAreAlike.mono : ∀ a0 k, LeO (spec_DrawAreAlike.f k a0) (spec_DrawAreAlike.f (k + 1) a0) := by
 intro a0 k
 have ih0 := spec_DrawAreAlike.mono_l k
 unfold spec_DrawAreAlike.f
 with_reducible (repeat' first | exact ih0 _ _ _ _ _ _ _ | exact spec_IsPiece.mono _ _ _ _ | exact spec_l01From.mono _ _ | exact spec_l03Form.mono _ _ _ | exact spec_l11DrawPiece.mono _ _ _ _ | exact LeO.refl _ | exact LeO.none _ | refine LeO.ite ?_ ?_ | refine LeO.bind ?_ (fun _ => ?_))
def spec_DrawAreAlike.T4 : Bool × List (List Nat × List Nat) := (true, [([], []), ([], []), ([1], [1]), ([], []), ([3], [3]), ([2, 4, 4], [2, 4]), ([], []), ([6, 5], [6]), ([7], [7]), ([5, 8], [5, 8]), ([0, 7, 0], [0]), ([9, 10, 0, 1, 2, 3, 4, 5, 6, 7, 8, 9, 10], [9])])
def spec_DrawAreAlike.B4 : List Nat := [0, 0, 2, 0, 8, 30, 0, 126, 254, 510, 255, 2047]
theorem spec_DrawAreAlike.tab4 : rtab .any (opsOf Tryz.f5 4) = spec_DrawAreAlike.T4 := by kernel_rfl
theorem spec_DrawAreAlike.bits4 : waitsOk spec_DrawAreAlike.T4.2 spec_DrawAreAlike.B4 = true := by kernel_rfl
set_option maxHeartbeats 8000000 in
set_option maxRecDepth 100000 in
theorem spec_DrawAreAlike.calls (k : Nat) (A0 : Option Addr) (c0 : Nat) (l0 : List Int) (r1 : List (S60)) (r2 : Int) (r3 : Bool) (r4 : List (S60)) (r5 : Int) (r6 : Bool) (w : World) (hr0 : Kd.C (Kd.int .u8) w A0 l0.length l0) (hc0 : l0.length ≤ c0) (h : spec_DrawAreAlike.f k l0 = some (r1, r2, r3, r4, r5, r6)) :
  Calls Tryz.prog 5 #[.slice A0 l0.length c0] w fun e w' => ∃ v0_ v3_ : Value, e = .returned (.tuple #[.agg #[v0_, .int .i64 r2, .bool r3], .agg #[v3_, .int .i64 r5, .bool r6]]) ∧ Kd.R k60 60 w' w.heap.size (fun k_ => some k_ ≠ (v3_ : Value).ownBlock) v0_ r1 ∧ Kd.R k60 60 w' w.heap.size (fun k_ => some k_ ≠ (v0_ : Value).ownBlock) v3_ r4 ∧ Below w.heap.size w w' := by
 have hu26 := Tryz.underlying26
 have HR0 := Aside0.mk hr0
 have HC0 := Aside0.mk hc0
 clear hr0 hc0
 have HB := a0_ (Below.refl w.heap.size w)
 have H := h
 clear h
 unfold spec_DrawAreAlike.f at H
 obtain ⟨⟨t353, t354, t355⟩, A2, H⟩ := bs_ H
 dsimp only at H
 obtain ⟨⟨t357, t360, t361, t362, t363⟩, A3, H⟩ := bs_ H
 dsimp only at H
 have HC4 := Aside0.mk H
 clear H
 go_enter Tryz.func5, Tryz.ntmps5
 go_upto_region 3 with (first | ((with_reducible refine gate_dst (N := 2) rfl ?_); refine bx_ (N := 2) (cs := #[.slice none 0 0, .int .i64 0, .bool false]) (t := 26) ?_; intro gb351 hg w5 hbox hb; have BK351 := a0_ (hbox); have GW351 := a0_ ((sz_ hg (bl0_) : w.heap.size ≤ gb351)); have GE351 := a0_ ((sz_ hg (bl0_) : w.heap.size ≤ gb351)); replace HB := a0_ (below_step (bl0_) hb); clear hb hbox hg) | ((with_reducible refine gate_dst (N := 3) rfl ?_); refine bx_ (N := 3) (cs := #[.slice none 0 0, .int .i64 0, .bool false]) (t := 26) ?_; intro gb352 hg w6 hbox hb; have BK352 := a0_ (hbox); have GW352 := a0_ ((sz_ hg (bl1_ GE351.out) : w.heap.size ≤ gb352)); have GE352 := a0_ ((sz_ hg (bl1_ GE351.out) : w.heap.size ≤ gb352)); replace HB := a0_ (below_step (bl1_ GE351.out) hb); have NB351_352 := a0_ ((nl_ hg BK351.out : gb351 ≠ gb352)); have NB352_351 := a0_ ((ng_ hg BK351.out : gb352 ≠ gb351)); replace BK351 := a0_ (bb_ BK351.out hb); clear hb hbox hg) | ((with_reducible refine gate_callee (f := 15) rfl ?_); refine goesL_ (some 7) rfl rfl Tryz.func15 kr_ rfl #[.slice A0 l0.length c0] rfl ta_ ?_; (with_reducible refine (spec_l01From.calls k _ _ l0 t353 t354 t355 w _ ?side1 ?side2 ?side3 A2.out).mono ?_); (case side1 => exact bl2_ GE351.out GE352.out); (case side2 => exact HR0.out); (case side3 => exact HC0.out); rintro e w7 ⟨g356, rfl, hi, hb, hb2⟩; refine ⟨_, rfl, ?_⟩; replace HB := a0_ (hb); have HI356 := a0_ (hi); have NB356_351 := a0_ (IsS55.ne_blk hi (bb_ BK351.out hb2) (by decide)); have NB351_356 := a0_ (Ne.symm (IsS55.ne_blk hi (bb_ BK351.out hb2) (by decide))); replace BK351 := a0_ (bb_ BK351.out hb2); have NB356_352 := a0_ (IsS55.ne_blk hi (bb_ BK352.out hb2) (by decide)); have NB352_356 := a0_ (Ne.symm (IsS55.ne_blk hi (bb_ BK352.out hb2) (by decide))); replace BK352 := a0_ (bb_ BK352.out hb2); (try clear hb); (try clear hb2); (try clear hk); (try clear hi)) | ((with_reducible refine gate_callee (f := 16) rfl ?_); refine goesL_ (some 9) rfl rfl Tryz.func16 kr_ rfl #[.pointer (some ⟨g356, 0, none⟩)] rfl ta_ ?_; (with_reducible refine (spec_l11DrawPiece.calls k g356 t353 t354 t355 t357 t360 t361 t362 t363 w _ ?side1 ?side2 A3.out).mono ?_); (case side1 => repeat (first | (with_reducible first | exact HI356.out | apply IsS55.alloc | apply IsS55.drewN | apply IsS55.drew | apply IsS55.set_1 | apply IsS55.set_2 | refine IsS55.far ?_ NB356_351.out _ | refine IsS55.far ?_ NB356_352.out _) | exact HI356.out)); (case side2 => exact bl3_ (IsS55.ge HI356.out) GE351.out GE352.out); rintro e w8 ⟨v358, rfl, ho0, hi, hb, hk⟩; refine ⟨_, rfl, ?_⟩; replace BK351 := a0_ (KeepBut.blk hk (g' := gb351) (o := .cells #[.slice none 0 0, .int .i64 0, .bool false] 26 (0, 0)) (bk_ BK351.out) NB351_356.out (by simp)); replace BK352 := a0_ (KeepBut.blk hk (g' := gb352) (o := .cells #[.slice none 0 0, .int .i64 0, .bool false] 26 (0, 0)) (bk_ BK352.out) NB352_356.out (by simp)); have HO359 := a0_ (Kd.R_lower ho0 (below_size (bl3_ (IsS55.ge HI356.out) GE351.out GE352.out))); replace HB := a0_ (hb); replace HI356 := a0_ (hi); (try clear hb); (try clear hb2); (try clear hk); (try clear hi); (try clear ho0)) | ((with_reducible refine gate_dst (N := 5) rfl ?_); refine bx_ (N := 5) (cs := #[.slice none 0 0, .int .i64 0, .bool false]) (t := 26) ?_; intro gb364 hg w9 hbox hb; replace HO359 := a0_ (Kd.R_below (ra_ HO359.out) hb); have BK364 := a0_ (hbox); have GW364 := a0_ ((by rw [hg]; exact (below_size (bl3_ (IsS55.ge HI356.out) GE351.out GE352.out)) : w.heap.size ≤ gb364)); have GE364 := a0_ ((by rw [hg]; exact (below_size (bl3_ (IsS55.ge HI356.out) GE351.out GE352.out)) : w.heap.size ≤ gb364)); replace HB := a0_ (below_step (bl3_ (IsS55.ge HI356.out) GE351.out GE352.out) hb); have NB351_364 := a0_ ((nl_ hg BK351.out : gb351 ≠ gb364)); have NB364_351 := a0_ ((ng_ hg BK351.out : gb364 ≠ gb351)); replace BK351 := a0_ (bb_ BK351.out hb); have NB352_364 := a0_ ((nl_ hg BK352.out : gb352 ≠ gb364)); have NB364_352 := a0_ ((ng_ hg BK352.out : gb364 ≠ gb352)); replace BK352 := a0_ (bb_ BK352.out hb); have NB356_364 := a0_ ((by rw [hg]; exact Nat.ne_of_lt (IsS55.lt (show IsS55 w _ g356 t353 t362 t363 from by repeat (first | (with_reducible first | exact HI356.out | apply IsS55.alloc | apply IsS55.drewN | apply IsS55.drew | apply IsS55.set_1 | apply IsS55.set_2 | refine IsS55.far ?_ NB356_351.out _ | refine IsS55.far ?_ NB356_352.out _) | exact HI356.out))) : g356 ≠ gb364)); have NB364_356 := a0_ ((by rw [hg]; exact Nat.ne_of_gt (IsS55.lt (show IsS55 w _ g356 t353 t362 t363 from by repeat (first | (with_reducible first | exact HI356.out | apply IsS55.alloc | apply IsS55.drewN | apply IsS55.drew | apply IsS55.set_1 | apply IsS55.set_2 | refine IsS55.far ?_ NB356_351.out _ | refine IsS55.far ?_ NB356_352.out _) | exact HI356.out))) : gb364 ≠ g356)); replace HI356 := a0_ (IsS55.below (by repeat (first | (with_reducible first | exact HI356.out | apply IsS55.alloc | apply IsS55.drewN | apply IsS55.drew | apply IsS55.set_1 | apply IsS55.set_2 | refine IsS55.far ?_ NB356_351.out _ | refine IsS55.far ?_ NB356_352.out _) | exact HI356.out)) hb); clear hb hbox hg; obtain ⟨Ao10, co10, eo10⟩ := Kd.R_slice HO359.out; subst eo10; have hnb11 := NB364_351.out; have hnc11 := NB351_364.out; have hnb12 := NB364_352.out; have hnc12 := NB352_364.out; have hnb13 := NB364_356.out; have hnc13 := NB356_364.out; obtain ⟨hcz14_0, hcz14_1, hcz14_2, hfz14_0, hfz14_1, hfz14_2⟩ := bc3_ BK364.out))
 (try simp only [Act.put, List.setIfInBounds_toArray, List.set_cons_zero, List.set_cons_succ])
 go_cut [16] (fun v16 wc => ∃ (kq : Nat) (x16_3 : Bool) (x357001_3 : Int) (x357002_3 : Int), v16 = .bool x16_3 ∧ Aside0 (spec_DrawAreAlike.j0 kq x16_3 t353 x357001_3 x357002_3 t357 t360 t361 = some (r1, r2, r3, r4, r5, r6)) ∧ Aside0 (kq ≤ k) ∧ Aside0 (Kd.R k60 60 wc w.heap.size (fun _ => True) (.slice Ao10 t357.length co10) t357) ∧ Aside0 (wc.heap[gb351]? = some (.cells #[(.slice none 0 0), .int .i64 0, .bool false] 26 (0, 0))) ∧ Aside0 (wc.heap[gb352]? = some (.cells #[(.slice none 0 0), .int .i64 0, .bool false] 26 (0, 0))) ∧ Aside0 (wc.heap[gb364]? = some (.cells #[(.slice Ao10 t357.length co10), .int .i64 t360, .bool t361] 26 (0, 0))) ∧ Aside0 (IsS55 w wc g356 t353 x357001_3 x357002_3) ∧ Aside0 (Below w.heap.size w wc))
 case first =>
  have H := HC4.out
  clear HC4
  obtain ⟨t365, A15, H⟩ := bs_ H
  by_cases c16 : t365 = true
  ·subst c16
   rw [if_pos rfl] at H
   obtain ⟨⟨t366, t367, t368⟩, A17, H⟩ := bs_ H
   dsimp only at H
   have H' := Aside0.mk H
   clear H
   have hnb18 := NB364_351.out
   have hnc18 := NB351_364.out
   have hnb19 := NB364_352.out
   have hnc19 := NB352_364.out
   have hnb20 := NB364_356.out
   have hnc20 := NB356_364.out
   have hcz21_0 : w9.cell? ⟨gb364, 0, none⟩ = some (.slice none 0 0) := (blk_cell BK364.out 0).trans rfl
   have hcz21_1 : w9.cell? ⟨gb364, 1, none⟩ = some (.int .i64 0) := (blk_cell BK364.out 1).trans rfl
   have hcz21_2 : w9.cell? ⟨gb364, 2, none⟩ = some (.bool false) := (blk_cell BK364.out 2).trans rfl
   have hfz21_0 := blk_frozen BK364.out 0
   have hfz21_1 := blk_frozen BK364.out 1
   have hfz21_2 := blk_frozen BK364.out 2
   go_wp2_with (first | ((with_reducible refine gate_callee (f := 17) rfl ?_); refine goesL_ (some 11) rfl rfl Tryz.func17 kr_ rfl #[.agg #[.slice Ao10 t357.length co10, .int .i64 t360, .bool t361]] rfl ta_ ?_; (with_reducible refine (spec_IsPiece.calls k _ _ t357 t360 t361 true _ ?side1 ?side2 A15.out).mono ?_); (case side1 => refine (Kd.R_reads' (e := 60) (base := w.heap.size) (ok := fun k_ => True) (n := t357.length) (c := co10) ?_).2.2; exact (by (with_reducible repeat (first | apply Kd.R_alloc | apply Kd.R_drewN | apply Kd.R_drew)); exact (Kd.R_mono (Kd.R_far (p := ⟨gb364, 2, none⟩) (Kd.R_far (p := ⟨gb364, 1, none⟩) (Kd.R_far (p := ⟨gb364, 0, none⟩) (Kd.R_types HO359.out BK364.out (by decide)) (fun _ hk => hk.2) (.slice Ao10 t357.length co10)) (fun _ hk => hk.2) (.int .i64 t360)) (fun _ hk => hk.2) (.bool t361)) (fun _ h_ => h_.1)))); (case side2 => exact (Kd.R_reads' HO359.out).2.1); rintro e w22 ⟨rfl, hb⟩; refine ⟨_, rfl, ?_⟩; replace HO359 := a0_ (Kd.R_below (by (with_reducible repeat (first | apply Kd.R_alloc | apply Kd.R_drewN | apply Kd.R_drew)); exact (Kd.R_mono (Kd.R_far (p := ⟨gb364, 2, none⟩) (Kd.R_far (p := ⟨gb364, 1, none⟩) (Kd.R_far (p := ⟨gb364, 0, none⟩) (Kd.R_types HO359.out BK364.out (by decide)) (fun _ hk => hk.2) (.slice Ao10 t357.length co10)) (fun _ hk => hk.2) (.int .i64 t360)) (fun _ hk => hk.2) (.bool t361)) (fun _ h_ => h_.1))) hb); replace BK351 := a0_ (blk_below (g := gb351) (o := .cells #[.slice none 0 0, .int .i64 0, .bool false] 26 (0, 0)) (bf_ BK351.out NB351_364.out) hb); replace BK352 := a0_ (blk_below (g := gb352) (o := .cells #[.slice none 0 0, .int .i64 0, .bool false] 26 (0, 0)) (bf_ BK352.out NB352_364.out) hb); replace BK364 := a0_ (blk_below (g := gb364) (o := .cells #[.slice Ao10 t357.length co10, .int .i64 t360, .bool t361] 26 (0, 0)) (by (with_reducible repeat (first | refine blk_drewN ?_ _ | refine blk_drew ?_ | refine blk_alloc ?_ _)); refine blk_put (cs := #[.slice Ao10 t357.length co10, .int .i64 t360, .bool false]) ?_ 2 _ rfl; (with_reducible repeat (first | refine blk_drewN ?_ _ | refine blk_drew ?_ | refine blk_alloc ?_ _)); refine blk_put (cs := #[.slice Ao10 t357.length co10, .int .i64 0, .bool false]) ?_ 1 _ rfl; (with_reducible repeat (first | refine blk_drewN ?_ _ | refine blk_drew ?_ | refine blk_alloc ?_ _)); refine blk_put (cs := #[.slice none 0 0, .int .i64 0, .bool false]) ?_ 0 _ rfl; (with_reducible repeat (first | refine blk_drewN ?_ _ | refine blk_drew ?_ | refine blk_alloc ?_ _)); exact BK364.out) hb); replace HB := a0_ (below_step (by repeat (first | (with_reducible first | exact HB.out | apply below_alloc | apply pw_below_drewN | apply below_drew1 | refine below_set ?_ (IsS55.ge HI356.out) | refine below_set ?_ GE351.out | refine below_set ?_ GE352.out | refine below_set ?_ GE364.out) | exact HB.out)) hb); replace HI356 := a0_ (IsS55.below (show IsS55 w (((w9.setCell ⟨gb364, 0, none⟩ (.slice Ao10 t357.length co10)).setCell ⟨gb364, 1, none⟩ (.int .i64 t360)).setCell ⟨gb364, 2, none⟩ (.bool t361)) g356 t353 t362 t363 from by repeat (first | (with_reducible first | exact HI356.out | apply IsS55.alloc | apply IsS55.drewN | apply IsS55.drew | apply IsS55.set_1 | apply IsS55.set_2 | refine IsS55.far ?_ NB356_351.out _ | refine IsS55.far ?_ NB356_352.out _ | refine IsS55.far ?_ NB356_364.out _) | exact HI356.out)) hb); (try clear hb); (try clear hb2); (try clear hk); (try clear hi)) | (go_at_call 18; (with_reducible refine (spec_l01Next.calls g356 t353 t362 t363 2 t366 t367 t368 w _ ?side1 ?side2 A17.out).mono ?_); (case side1 => repeat (first | (with_reducible first | exact HI356.out | apply IsS55.alloc | apply IsS55.drewN | apply IsS55.drew | apply IsS55.set_1 | apply IsS55.set_2 | refine IsS55.far ?_ NB356_351.out _ | refine IsS55.far ?_ NB356_352.out _ | refine IsS55.far ?_ NB356_364.out _) | exact HI356.out)); (case side2 => repeat (first | (with_reducible first | exact HB.out | apply below_alloc | apply pw_below_drewN | apply below_drew1 | refine below_set ?_ (IsS55.ge HI356.out) | refine below_set ?_ GE351.out | refine below_set ?_ GE352.out | refine below_set ?_ GE364.out) | exact HB.out)); rintro e w23 ⟨rfl, hi, hb, hk⟩; replace BK351 := a0_ (KeepBut.blk hk (g' := gb351) (o := .cells #[.slice none 0 0, .int .i64 0, .bool false] 26 (0, 0)) (bk_ BK351.out) NB351_356.out (by simp)); replace BK352 := a0_ (KeepBut.blk hk (g' := gb352) (o := .cells #[.slice none 0 0, .int .i64 0, .bool false] 26 (0, 0)) (bk_ BK352.out) NB352_356.out (by simp)); replace HO359 := a0_ (Kd.R_mono (Kd.R_keep (IsS55.apart (show IsS55 w _ g356 t353 t362 t363 from by repeat (first | (with_reducible first | exact HI356.out | apply IsS55.alloc | apply IsS55.drewN | apply IsS55.drew | apply IsS55.set_1 | apply IsS55.set_2 | refine IsS55.far ?_ NB356_351.out _ | refine IsS55.far ?_ NB356_352.out _ | refine IsS55.far ?_ NB356_364.out _) | exact HI356.out)) (ra_ HO359.out) (by decide)) hk (fun _ h => h.2)) (fun _ h => h.1)); replace BK364 := a0_ (KeepBut.blk hk (g' := gb364) (o := .cells #[.slice Ao10 t357.length co10, .int .i64 t360, .bool t361] 26 (0, 0)) (bk_ BK364.out) NB364_356.out (by simp)); replace HB := a0_ (hb); replace HI356 := a0_ (hi); (try clear hb); (try clear hb2); (try clear hk); (try clear hi)))
   go_meet
   case rel => exact ⟨_, ((t366 == 0)), (t367), (t368), rs_, H', ⟨by first | omega | exact Nat.le_refl _⟩, ⟨ra_ HO359.out⟩, ⟨bk_ BK351.out⟩, ⟨bk_ BK352.out⟩, ⟨bk_ BK364.out⟩, ⟨by repeat (first | (with_reducible first | exact HI356.out | apply IsS55.alloc | apply IsS55.drewN | apply IsS55.drew | apply IsS55.set_1 | apply IsS55.set_2 | refine IsS55.far ?_ NB356_351.out _ | refine IsS55.far ?_ NB356_352.out _ | refine IsS55.far ?_ NB356_364.out _) | exact HI356.out)⟩, ⟨by repeat (first | (with_reducible first | exact HB.out | apply below_alloc | apply pw_below_drewN | apply below_drew1 | refine below_set ?_ (IsS55.ge HI356.out) | refine below_set ?_ GE351.out | refine below_set ?_ GE352.out | refine below_set ?_ GE364.out) | exact HB.out)⟩⟩
  ·replace c16 := Bool.eq_false_iff.mpr c16
   subst c16
   rw [if_neg (show ¬ (false = true) by decide)] at H
   have H' := Aside0.mk H
   clear H
   have hnb24 := NB364_351.out
   have hnc24 := NB351_364.out
   have hnb25 := NB364_352.out
   have hnc25 := NB352_364.out
   have hnb26 := NB364_356.out
   have hnc26 := NB356_364.out
   have hcz27_0 : w9.cell? ⟨gb364, 0, none⟩ = some (.slice none 0 0) := (blk_cell BK364.out 0).trans rfl
   have hcz27_1 : w9.cell? ⟨gb364, 1, none⟩ = some (.int .i64 0) := (blk_cell BK364.out 1).trans rfl
   have hcz27_2 : w9.cell? ⟨gb364, 2, none⟩ = some (.bool false) := (blk_cell BK364.out 2).trans rfl
   have hfz27_0 := blk_frozen BK364.out 0
   have hfz27_1 := blk_frozen BK364.out 1
   have hfz27_2 := blk_frozen BK364.out 2
   go_wp2_with (first | ((with_reducible refine gate_callee (f := 17) rfl ?_); refine goesL_ (some 11) rfl rfl Tryz.func17 kr_ rfl #[.agg #[.slice Ao10 t357.length co10, .int .i64 t360, .bool t361]] rfl ta_ ?_; (with_reducible refine (spec_IsPiece.calls k _ _ t357 t360 t361 false _ ?side1 ?side2 A15.out).mono ?_); (case side1 => refine (Kd.R_reads' (e := 60) (base := w.heap.size) (ok := fun k_ => True) (n := t357.length) (c := co10) ?_).2.2; exact (by (with_reducible repeat (first | apply Kd.R_alloc | apply Kd.R_drewN | apply Kd.R_drew)); exact (Kd.R_mono (Kd.R_far (p := ⟨gb364, 2, none⟩) (Kd.R_far (p := ⟨gb364, 1, none⟩) (Kd.R_far (p := ⟨gb364, 0, none⟩) (Kd.R_types HO359.out BK364.out (by decide)) (fun _ hk => hk.2) (.slice Ao10 t357.length co10)) (fun _ hk => hk.2) (.int .i64 t360)) (fun _ hk => hk.2) (.bool t361)) (fun _ h_ => h_.1)))); (case side2 => exact (Kd.R_reads' HO359.out).2.1); rintro e w28 ⟨rfl, hb⟩; refine ⟨_, rfl, ?_⟩; replace HO359 := a0_ (Kd.R_below (by (with_reducible repeat (first | apply Kd.R_alloc | apply Kd.R_drewN | apply Kd.R_drew)); exact (Kd.R_mono (Kd.R_far (p := ⟨gb364, 2, none⟩) (Kd.R_far (p := ⟨gb364, 1, none⟩) (Kd.R_far (p := ⟨gb364, 0, none⟩) (Kd.R_types HO359.out BK364.out (by decide)) (fun _ hk => hk.2) (.slice Ao10 t357.length co10)) (fun _ hk => hk.2) (.int .i64 t360)) (fun _ hk => hk.2) (.bool t361)) (fun _ h_ => h_.1))) hb); replace BK351 := a0_ (blk_below (g := gb351) (o := .cells #[.slice none 0 0, .int .i64 0, .bool false] 26 (0, 0)) (bf_ BK351.out NB351_364.out) hb); replace BK352 := a0_ (blk_below (g := gb352) (o := .cells #[.slice none 0 0, .int .i64 0, .bool false] 26 (0, 0)) (bf_ BK352.out NB352_364.out) hb); replace BK364 := a0_ (blk_below (g := gb364) (o := .cells #[.slice Ao10 t357.length co10, .int .i64 t360, .bool t361] 26 (0, 0)) (by (with_reducible repeat (first | refine blk_drewN ?_ _ | refine blk_drew ?_ | refine blk_alloc ?_ _)); refine blk_put (cs := #[.slice Ao10 t357.length co10, .int .i64 t360, .bool false]) ?_ 2 _ rfl; (with_reducible repeat (first | refine blk_drewN ?_ _ | refine blk_drew ?_ | refine blk_alloc ?_ _)); refine blk_put (cs := #[.slice Ao10 t357.length co10, .int .i64 0, .bool false]) ?_ 1 _ rfl; (with_reducible repeat (first | refine blk_drewN ?_ _ | refine blk_drew ?_ | refine blk_alloc ?_ _)); refine blk_put (cs := #[.slice none 0 0, .int .i64 0, .bool false]) ?_ 0 _ rfl; (with_reducible repeat (first | refine blk_drewN ?_ _ | refine blk_drew ?_ | refine blk_alloc ?_ _)); exact BK364.out) hb); replace HB := a0_ (below_step (by repeat (first | (with_reducible first | exact HB.out | apply below_alloc | apply pw_below_drewN | apply below_drew1 | refine below_set ?_ (IsS55.ge HI356.out) | refine below_set ?_ GE351.out | refine below_set ?_ GE352.out | refine below_set ?_ GE364.out) | exact HB.out)) hb); replace HI356 := a0_ (IsS55.below (show IsS55 w (((w9.setCell ⟨gb364, 0, none⟩ (.slice Ao10 t357.length co10)).setCell ⟨gb364, 1, none⟩ (.int .i64 t360)).setCell ⟨gb364, 2, none⟩ (.bool t361)) g356 t353 t362 t363 from by repeat (first | (with_reducible first | exact HI356.out | apply IsS55.alloc | apply IsS55.drewN | apply IsS55.drew | apply IsS55.set_1 | apply IsS55.set_2 | refine IsS55.far ?_ NB356_351.out _ | refine IsS55.far ?_ NB356_352.out _ | refine IsS55.far ?_ NB356_364.out _) | exact HI356.out)) hb); (try clear hb); (try clear hb2); (try clear hk); (try clear hi)))
   go_meet
   case rel => exact ⟨_, (false), (t362), (t363), rs_, H', ⟨by first | omega | exact Nat.le_refl _⟩, ⟨ra_ HO359.out⟩, ⟨bk_ BK351.out⟩, ⟨bk_ BK352.out⟩, ⟨bk_ BK364.out⟩, ⟨by repeat (first | (with_reducible first | exact HI356.out | apply IsS55.alloc | apply IsS55.drewN | apply IsS55.drew | apply IsS55.set_1 | apply IsS55.set_2 | refine IsS55.far ?_ NB356_351.out _ | refine IsS55.far ?_ NB356_352.out _ | refine IsS55.far ?_ NB356_364.out _) | exact HI356.out)⟩, ⟨by repeat (first | (with_reducible first | exact HB.out | apply below_alloc | apply pw_below_drewN | apply below_drew1 | refine below_set ?_ (IsS55.ge HI356.out) | refine below_set ?_ GE351.out | refine below_set ?_ GE352.out | refine below_set ?_ GE364.out) | exact HB.out)⟩⟩
 case rest =>
  clear HC4
  try clear c1
  try clear c2
  try clear p2
  try clear c5
  try clear c11
  try clear c12
  try clear c13
  try clear c15
  try clear c16
  try clear c17
  try clear c18
  try clear c19
  try clear c20
  try clear c24
  try clear c25
  try clear c26
  try clear hcz14_0
  try clear hcz14_1
  try clear hcz14_2
  try clear hcz21_0
  try clear hcz21_1
  try clear hcz21_2
  try clear hcz27_0
  try clear hcz27_1
  try clear hcz27_2
  try clear hfz14_0
  try clear hfz14_1
  try clear hfz14_2
  try clear hfz21_0
  try clear hfz21_1
  try clear hfz21_2
  try clear hfz27_0
  try clear hfz27_1
  try clear hfz27_2
  obtain ⟨kq, x16_3, x357001_3, x357002_3, rfl, HA, HJ3, HO_365000, BK351, BK352, BK364, HI356, HB⟩ := hcut
  cases kq with
  | zero => exact absurd HA.out (by simp [spec_DrawAreAlike.j0])
  | succ kj3 =>
   have H := HA.out
   clear HA
   simp only [spec_DrawAreAlike.j0] at H
   by_cases c29 : x16_3 = true
   ·subst c29
    rw [if_pos rfl] at H
    obtain ⟨⟨t369, t370, t371⟩, A30, H⟩ := bs_ H
    dsimp only at H
    obtain ⟨t372, A31, H⟩ := bs_ H
    obtain ⟨⟨t375, t376, t377⟩, A32, H⟩ := bs_ H
    dsimp only at H
    simp only [Option.some.injEq, Prod.mk.injEq] at H
    obtain ⟨rfl, rfl, rfl, rfl, rfl, rfl⟩ := H
    try go_wp2
    replace HO_365000 := a0_ (Kd.R_drew HO_365000.out)
    replace BK351 := a0_ (blk_drew BK351.out)
    replace BK352 := a0_ (blk_drew BK352.out)
    replace BK364 := a0_ (blk_drew BK364.out)
    replace HI356 := a0_ (IsS55.drew HI356.out)
    replace HB := a0_ (below_drew1 HB.out)
    refine start_ (n := 12) (S := fun w' => w'.cell? ⟨gb364, 0, none⟩ = some (.slice Ao10 t357.length co10) ∧ w'.cell? ⟨gb364, 1, none⟩ = some (.int .i64 t360) ∧ w'.cell? ⟨gb364, 2, none⟩ = some (.bool t361)) (ds := []) (mk_ 0 12) kr_ rfl rfl ⟨(blk_cell BK364.out 0).trans rfl, (blk_cell BK364.out 1).trans rfl, (blk_cell BK364.out 2).trans rfl⟩ (fun hHeld => ?_); refine with_tabW spec_DrawAreAlike.tab4 spec_DrawAreAlike.bits4 (fun HT_ HW_ => ?_)
    generalize wc.drew = w33 at HO_365000 BK351 BK352 BK364 HI356 HB hHeld ⊢
    refine pu_ 1 (some 18) #[false, true, false, false, false, false, false, false, false, false, false, false] HT_ ?_
    refine pu_ 3 (some 20) #[false, true, false, true, false, false, false, false, false, false, false, false] HT_ ?_
    refine pu_ 6 (some 23) #[false, true, false, true, false, false, true, false, false, false, false, false] HT_ ?_
    refine tk_ 0 (some 17) #[true, true, false, true, false, false, true, false, false, false, false, false] HT_ HW_ hHeld (hy := .inl ⟨by rfl, by rintro w' ⟨s0, s1, s2⟩; go_simp; with_reducible rfl⟩) ?_
    refine tk_ 2 (some 19) #[true, true, true, true, false, false, true, false, false, false, false, false] HT_ HW_ hHeld (hy := .inl ⟨by rfl, by rintro w' ⟨s0, s1, s2⟩; go_simp; with_reducible rfl⟩) ?_
    refine one_ (i := 4) (N := some 21) #[true, true, true, true, true, false, true, false, false, false, false, false] rfl rfl (one_of HT_.out kr_) (by decide) (fun K hK => ?_)
    refine goes_ Tryz.func18 kr_ rfl #[.pointer (some ⟨g356, 0, none⟩), .int .i64 8] (by rfl) rfl rfl ta_ ?_
    with_reducible refine (spec_l01Next.calls g356 t353 x357001_3 x357002_3 8 t369 t370 t371 w _ ?side1 ?side2 A30.out).mono ?_
    (case side1 => repeat (first | (with_reducible first | exact HI356.out | apply IsS55.alloc | apply IsS55.drewN | apply IsS55.drew | apply IsS55.set_1 | apply IsS55.set_2 | refine IsS55.far ?_ NB356_351.out _ | refine IsS55.far ?_ NB356_352.out _ | refine IsS55.far ?_ NB356_364.out _) | exact HI356.out))
    (case side2 => repeat (first | (with_reducible first | exact HB.out | apply below_alloc | apply pw_below_drewN | apply below_drew1 | refine below_set ?_ (IsS55.ge HI356.out) | refine below_set ?_ GE351.out | refine below_set ?_ GE352.out | refine below_set ?_ GE364.out) | exact HB.out))
    rintro e w34 ⟨rfl, hi, hb, hk⟩
    refine ⟨_, rfl, ?_⟩
    replace HO_365000 := a0_ (Kd.R_mono (Kd.R_keep (IsS55.apart (show IsS55 w _ g356 t353 x357001_3 x357002_3 from by repeat (first | (with_reducible first | exact HI356.out | apply IsS55.alloc | apply IsS55.drewN | apply IsS55.drew | apply IsS55.set_1 | apply IsS55.set_2 | refine IsS55.far ?_ NB356_351.out _ | refine IsS55.far ?_ NB356_352.out _ | refine IsS55.far ?_ NB356_364.out _) | exact HI356.out)) (ra_ HO_365000.out) (by decide)) hk (fun _ h => h.2)) (fun _ h => h.1))
    replace BK351 := a0_ (KeepBut.blk hk (g' := gb351) (o := .cells #[.slice none 0 0, .int .i64 0, .bool false] 26 (0, 0)) (bk_ BK351.out) NB351_356.out (by simp))
    replace BK352 := a0_ (KeepBut.blk hk (g' := gb352) (o := .cells #[.slice none 0 0, .int .i64 0, .bool false] 26 (0, 0)) (bk_ BK352.out) NB352_356.out (by simp))
    replace BK364 := a0_ (KeepBut.blk hk (g' := gb364) (o := .cells #[.slice Ao10 t357.length co10, .int .i64 t360, .bool t361] 26 (0, 0)) (bk_ BK364.out) NB364_356.out (by simp))
    replace HB := a0_ (hb)
    replace HI356 := a0_ (hi)
    (try clear hb)
    (try clear hb2)
    (try clear hk)
    (try clear hi)
    refine hK.out _ _ ⟨(blk_cell BK364.out 0).trans rfl, (blk_cell BK364.out 1).trans rfl, (blk_cell BK364.out 2).trans rfl⟩ (fun hHeld => ?_)
    clear hK K
    refine nm_ ?_
    refine one_ (i := 5) (N := some 22) (mk_ 7 5) rfl rfl (one_of HT_.out kr_) (by decide) (fun K hK => ?_)
    refine goes_ Tryz.func19 kr_ rfl #[.slice Ao10 t357.length co10, .int .i64 t369] (by rfl) rfl rfl ta_ ?_
    with_reducible refine (spec_l03Form.calls kj3 _ _ t357 t369 t372 _ ?side1 ?side2 A31.out).mono ?_
    (case side1 => exact ca_ (Kd.R_reads' HO_365000.out).2.2)
    (case side2 => exact (Kd.R_reads' HO_365000.out).2.1)
    rintro e w35 ⟨v373, rfl, ho0, hb⟩
    refine ⟨_, rfl, ?_⟩
    have HO374 := a0_ (Kd.R_lower (Kd.R_new' ho0 (Kd.R_lt (ra_ HO_365000.out))) (below_size (by repeat (first | (with_reducible first | exact HB.out | apply below_alloc | apply pw_below_drewN | apply below_drew1 | refine below_set ?_ (IsS55.ge HI356.out) | refine below_set ?_ GE351.out | refine below_set ?_ GE352.out | refine below_set ?_ GE364.out) | exact HB.out))))
    replace HO_365000 := a0_ (Kd.R_elder' (ra_ HO_365000.out) (Kd.R_base ho0) hb)
    replace BK351 := a0_ (bb_ BK351.out hb)
    replace BK352 := a0_ (bb_ BK352.out hb)
    replace BK364 := a0_ (bb_ BK364.out hb)
    replace HB := a0_ (below_step (by repeat (first | (with_reducible first | exact HB.out | apply below_alloc | apply pw_below_drewN | apply below_drew1 | refine below_set ?_ (IsS55.ge HI356.out) | refine below_set ?_ GE351.out | refine below_set ?_ GE352.out | refine below_set ?_ GE364.out) | exact HB.out)) hb)
    replace HI356 := a0_ (IsS55.below (by repeat (first | (with_reducible first | exact HI356.out | apply IsS55.alloc | apply IsS55.drewN | apply IsS55.drew | apply IsS55.set_1 | apply IsS55.set_2 | refine IsS55.far ?_ NB356_351.out _ | refine IsS55.far ?_ NB356_352.out _ | refine IsS55.far ?_ NB356_364.out _) | exact HI356.out)) hb)
    (try clear hb)
    (try clear hb2)
    (try clear hk)
    (try clear hi)
    (try clear ho0)
    refine hK.out _ _ ⟨(blk_cell BK364.out 0).trans rfl, (blk_cell BK364.out 1).trans rfl, (blk_cell BK364.out 2).trans rfl⟩ (fun hHeld => ?_)
    clear hK K
    refine nm_ ?_
    refine one_ (i := 7) (N := some 24) (mk_ 8 4) rfl rfl (one_of HT_.out kr_) (by decide) (fun K hK => ?_)
    refine goes_ Tryz.func18 kr_ rfl #[.pointer (some ⟨g356, 0, none⟩), .int .i64 2] (by rfl) rfl rfl ta_ ?_
    with_reducible refine (spec_l01Next.calls g356 t353 t370 t371 2 t375 t376 t377 w _ ?side1 ?side2 A32.out).mono ?_
    (case side1 => repeat (first | (with_reducible first | exact HI356.out | apply IsS55.alloc | apply IsS55.drewN | apply IsS55.drew | apply IsS55.set_1 | apply IsS55.set_2 | refine IsS55.far ?_ NB356_351.out _ | refine IsS55.far ?_ NB356_352.out _ | refine IsS55.far ?_ NB356_364.out _) | exact HI356.out))
    (case side2 => repeat (first | (with_reducible first | exact HB.out | apply below_alloc | apply pw_below_drewN | apply below_drew1 | refine below_set ?_ (IsS55.ge HI356.out) | refine below_set ?_ GE351.out | refine below_set ?_ GE352.out | refine below_set ?_ GE364.out) | exact HB.out))
    rintro e w36 ⟨rfl, hi, hb, hk⟩
    refine ⟨_, rfl, ?_⟩
    replace HO_365000 := a0_ (Kd.R_mono (Kd.R_keep (IsS55.apart (show IsS55 w _ g356 t353 t370 t371 from by repeat (first | (with_reducible first | exact HI356.out | apply IsS55.alloc | apply IsS55.drewN | apply IsS55.drew | apply IsS55.set_1 | apply IsS55.set_2 | refine IsS55.far ?_ NB356_351.out _ | refine IsS55.far ?_ NB356_352.out _ | refine IsS55.far ?_ NB356_364.out _) | exact HI356.out)) (ra_ HO_365000.out) (by decide)) hk (fun _ h => h.2)) (fun _ h => h.1))
    replace BK351 := a0_ (KeepBut.blk hk (g' := gb351) (o := .cells #[.slice none 0 0, .int .i64 0, .bool false] 26 (0, 0)) (bk_ BK351.out) NB351_356.out (by simp))
    replace BK352 := a0_ (KeepBut.blk hk (g' := gb352) (o := .cells #[.slice none 0 0, .int .i64 0, .bool false] 26 (0, 0)) (bk_ BK352.out) NB352_356.out (by simp))
    replace BK364 := a0_ (KeepBut.blk hk (g' := gb364) (o := .cells #[.slice Ao10 t357.length co10, .int .i64 t360, .bool t361] 26 (0, 0)) (bk_ BK364.out) NB364_356.out (by simp))
    replace HO374 := a0_ (Kd.R_mono (Kd.R_keep (IsS55.apart (show IsS55 w _ g356 t353 t370 t371 from by repeat (first | (with_reducible first | exact HI356.out | apply IsS55.alloc | apply IsS55.drewN | apply IsS55.drew | apply IsS55.set_1 | apply IsS55.set_2 | refine IsS55.far ?_ NB356_351.out _ | refine IsS55.far ?_ NB356_352.out _ | refine IsS55.far ?_ NB356_364.out _) | exact HI356.out)) (ra_ HO374.out) (by decide)) hk (fun _ h => h.2)) (fun _ h => h.1))
    replace HB := a0_ (hb)
    replace HI356 := a0_ (hi)
    (try clear hb)
    (try clear hb2)
    (try clear hk)
    (try clear hi)
    obtain ⟨Ao37, co37, eo37⟩ := Kd.R_slice HO374.out
    (first | subst eo37 | (injection eo37 with f1_ f2_ f3_; have f4_ := f1_.symm; have f5_ := f3_.symm; clear f1_ f2_ f3_; subst f4_; subst f5_))
    refine hK.out _ _ ⟨(blk_cell BK364.out 0).trans rfl, (blk_cell BK364.out 1).trans rfl, (blk_cell BK364.out 2).trans rfl⟩ (fun hHeld => ?_)
    clear hK K
    refine nm_ ?_
    refine pu_ 8 (some 25) (mk_ 9 3) HT_ ?_
    refine pu_ 9 (some 26) (mk_ 10 2) HT_ ?_
    refine one_ (i := 10) (N := none) (mk_ 11 1) rfl rfl (one_of HT_.out kr_) (by decide) (fun K hK => ?_)
    have hs38 : w36.cell? ⟨gb351, 0, none⟩ = some (.slice none 0 0) := (blk_cell BK351.out 0).trans rfl
    have hfs38 := blk_frozen BK351.out 0
    have hns38_1 := NB352_351.out
    have hns38_2 := NB364_351.out
    have hms38_1 := NB351_352.out
    have hms38_2 := NB351_364.out
    have hs39 : w36.cell? ⟨gb351, 1, none⟩ = some (.int .i64 0) := (blk_cell BK351.out 1).trans rfl
    have hfs39 := blk_frozen BK351.out 1
    have hns39_1 := NB352_351.out
    have hns39_2 := NB364_351.out
    have hms39_1 := NB351_352.out
    have hms39_2 := NB351_364.out
    have hs40 : w36.cell? ⟨gb351, 2, none⟩ = some (.bool false) := (blk_cell BK351.out 2).trans rfl
    have hfs40 := blk_frozen BK351.out 2
    have hns40_1 := NB352_351.out
    have hns40_2 := NB364_351.out
    have hms40_1 := NB351_352.out
    have hms40_2 := NB351_364.out
    refine skip_ (w1 := ?_) (by rfl) rfl ?_ ?_
    rotate_left
    ·go_simp
     rfl
    refine hK.out _ _ ⟨((cell_far (p := ⟨gb351, _, none⟩) NB364_351.out _).trans (((cell_far (p := ⟨gb351, _, none⟩) NB364_351.out _).trans (((cell_far (p := ⟨gb351, _, none⟩) NB364_351.out _).trans (hHeld.1)))))), ((cell_far (p := ⟨gb351, _, none⟩) NB364_351.out _).trans (((cell_far (p := ⟨gb351, _, none⟩) NB364_351.out _).trans (((cell_far (p := ⟨gb351, _, none⟩) NB364_351.out _).trans (hHeld.2.1)))))), ((cell_far (p := ⟨gb351, _, none⟩) NB364_351.out _).trans (((cell_far (p := ⟨gb351, _, none⟩) NB364_351.out _).trans (((cell_far (p := ⟨gb351, _, none⟩) NB364_351.out _).trans (hHeld.2.2))))))⟩ (fun hHeld => ?_)
    clear hK K
    refine one_ (i := 11) (N := none) (mk_ 12 0) rfl rfl (one_of HT_.out kr_) (by decide) (fun K hK => ?_)
    have hs41 : w36.cell? ⟨gb352, 0, none⟩ = some (.slice none 0 0) := (blk_cell BK352.out 0).trans rfl
    have hfs41 := blk_frozen BK352.out 0
    have hns41_0 := NB351_352.out
    have hns41_2 := NB364_352.out
    have hms41_0 := NB352_351.out
    have hms41_2 := NB352_364.out
    have hs42 : w36.cell? ⟨gb352, 1, none⟩ = some (.int .i64 0) := (blk_cell BK352.out 1).trans rfl
    have hfs42 := blk_frozen BK352.out 1
    have hns42_0 := NB351_352.out
    have hns42_2 := NB364_352.out
    have hms42_0 := NB352_351.out
    have hms42_2 := NB352_364.out
    have hs43 : w36.cell? ⟨gb352, 2, none⟩ = some (.bool false) := (blk_cell BK352.out 2).trans rfl
    have hfs43 := blk_frozen BK352.out 2
    have hns43_0 := NB351_352.out
    have hns43_2 := NB364_352.out
    have hms43_0 := NB352_351.out
    have hms43_2 := NB352_364.out
    refine skip_ (w1 := ?_) (by rfl) rfl ?_ ?_
    rotate_left
    ·go_simp
     rfl
    refine hK.out _ _ ⟨((cell_far (p := ⟨gb352, _, none⟩) NB364_352.out _).trans (((cell_far (p := ⟨gb352, _, none⟩) NB364_352.out _).trans (((cell_far (p := ⟨gb352, _, none⟩) NB364_352.out _).trans (hHeld.1)))))), ((cell_far (p := ⟨gb352, _, none⟩) NB364_352.out _).trans (((cell_far (p := ⟨gb352, _, none⟩) NB364_352.out _).trans (((cell_far (p := ⟨gb352, _, none⟩) NB364_352.out _).trans (hHeld.2.1)))))), ((cell_far (p := ⟨gb352, _, none⟩) NB364_352.out _).trans (((cell_far (p := ⟨gb352, _, none⟩) NB364_352.out _).trans (((cell_far (p := ⟨gb352, _, none⟩) NB364_352.out _).trans (hHeld.2.2))))))⟩ (fun hHeld => ?_)
    clear hK K
    refine done_ (done_of HT_.out kr_) ?_
    try go_wp2
    refine bodyPost_ret (results_cc rfl _ _ gb351 gb352 26 26 #[.slice Ao10 t357.length co10, .int .i64 t360, .bool t361] #[.slice Ao37 t372.length co37, .int .i64 1, .bool (t375 == 0)] (0, 0) (0, 0) _ _ rfl (by (with_reducible repeat (first | refine blk_drewN ?_ _ | refine blk_drew ?_ | refine blk_alloc ?_ _)); refine blk_far ?_ NB351_352.out _; (with_reducible repeat (first | refine blk_drewN ?_ _ | refine blk_drew ?_ | refine blk_alloc ?_ _)); refine blk_far ?_ NB351_352.out _; (with_reducible repeat (first | refine blk_drewN ?_ _ | refine blk_drew ?_ | refine blk_alloc ?_ _)); refine blk_far ?_ NB351_352.out _; (with_reducible repeat (first | refine blk_drewN ?_ _ | refine blk_drew ?_ | refine blk_alloc ?_ _)); refine blk_put (cs := #[.slice Ao10 t357.length co10, .int .i64 t360, .bool false]) ?_ 2 _ rfl; (with_reducible repeat (first | refine blk_drewN ?_ _ | refine blk_drew ?_ | refine blk_alloc ?_ _)); refine blk_put (cs := #[.slice Ao10 t357.length co10, .int .i64 0, .bool false]) ?_ 1 _ rfl; (with_reducible repeat (first | refine blk_drewN ?_ _ | refine blk_drew ?_ | refine blk_alloc ?_ _)); refine blk_put (cs := #[.slice none 0 0, .int .i64 0, .bool false]) ?_ 0 _ rfl; (with_reducible repeat (first | refine blk_drewN ?_ _ | refine blk_drew ?_ | refine blk_alloc ?_ _)); exact BK351.out) Tryz.underlying26 rfl kr_ rfl (by (with_reducible repeat (first | refine blk_drewN ?_ _ | refine blk_drew ?_ | refine blk_alloc ?_ _)); refine blk_put (cs := #[.slice Ao37 t372.length co37, .int .i64 1, .bool false]) ?_ 2 _ rfl; (with_reducible repeat (first | refine blk_drewN ?_ _ | refine blk_drew ?_ | refine blk_alloc ?_ _)); refine blk_put (cs := #[.slice Ao37 t372.length co37, .int .i64 0, .bool false]) ?_ 1 _ rfl; (with_reducible repeat (first | refine blk_drewN ?_ _ | refine blk_drew ?_ | refine blk_alloc ?_ _)); refine blk_put (cs := #[.slice none 0 0, .int .i64 0, .bool false]) ?_ 0 _ rfl; (with_reducible repeat (first | refine blk_drewN ?_ _ | refine blk_drew ?_ | refine blk_alloc ?_ _)); refine blk_far ?_ NB352_351.out _; (with_reducible repeat (first | refine blk_drewN ?_ _ | refine blk_drew ?_ | refine blk_alloc ?_ _)); refine blk_far ?_ NB352_351.out _; (with_reducible repeat (first | refine blk_drewN ?_ _ | refine blk_drew ?_ | refine blk_alloc ?_ _)); refine blk_far ?_ NB352_351.out _; (with_reducible repeat (first | refine blk_drewN ?_ _ | refine blk_drew ?_ | refine blk_alloc ?_ _)); exact BK352.out) Tryz.underlying26 rfl kr_) rfl ?_
    exact ⟨_, _, er_, by (with_reducible repeat (first | apply Kd.R_alloc | apply Kd.R_drewN | apply Kd.R_drew)); exact Kd.R_mono (Kd.R_far (p := ⟨gb352, 2, none⟩) (Kd.R_far (p := ⟨gb352, 1, none⟩) (Kd.R_far (p := ⟨gb352, 0, none⟩) (Kd.R_far (p := ⟨gb351, 2, none⟩) (Kd.R_far (p := ⟨gb351, 1, none⟩) (Kd.R_far (p := ⟨gb351, 0, none⟩) (Kd.R_types (Kd.R_types HO_365000.out BK351.out (by decide)) BK352.out (by decide)) (fun _ hk => hk.1.2) (.slice Ao10 t357.length co10)) (fun _ hk => hk.1.2) (.int .i64 t360)) (fun _ hk => hk.1.2) (.bool t361)) (fun _ hk => hk.2) (.slice Ao37 t372.length co37)) (fun _ hk => hk.2) (.int .i64 1)) (fun _ hk => hk.2) (.bool (t375 == 0))) (fun _ hk => hk.1.1.2), by (with_reducible repeat (first | apply Kd.R_alloc | apply Kd.R_drewN | apply Kd.R_drew)); exact Kd.R_mono (Kd.R_far (p := ⟨gb352, 2, none⟩) (Kd.R_far (p := ⟨gb352, 1, none⟩) (Kd.R_far (p := ⟨gb352, 0, none⟩) (Kd.R_far (p := ⟨gb351, 2, none⟩) (Kd.R_far (p := ⟨gb351, 1, none⟩) (Kd.R_far (p := ⟨gb351, 0, none⟩) (Kd.R_types (Kd.R_types HO374.out BK351.out (by decide)) BK352.out (by decide)) (fun _ hk => hk.1.2) (.slice Ao10 t357.length co10)) (fun _ hk => hk.1.2) (.int .i64 t360)) (fun _ hk => hk.1.2) (.bool t361)) (fun _ hk => hk.2) (.slice Ao37 t372.length co37)) (fun _ hk => hk.2) (.int .i64 1)) (fun _ hk => hk.2) (.bool (t375 == 0))) (fun _ hk => hk.1.1.2), by repeat (first | (with_reducible first | exact HB.out | apply below_alloc | apply pw_below_drewN | apply below_drew1 | refine below_set ?_ (IsS55.ge HI356.out) | refine below_set ?_ GE351.out | refine below_set ?_ GE352.out | refine below_set ?_ GE364.out) | exact HB.out)⟩
   ·replace c29 := Bool.eq_false_iff.mpr c29
    subst c29
    rw [if_neg (show ¬ (false = true) by decide)] at H
    obtain ⟨⟨t378, t381, t382, t383, t384⟩, A44, H⟩ := bs_ H
    dsimp only at H
    simp only [Option.some.injEq, Prod.mk.injEq] at H
    obtain ⟨rfl, rfl, rfl, rfl, rfl, rfl⟩ := H
    try go_wp2
    replace HO_365000 := a0_ (Kd.R_drew HO_365000.out)
    replace BK351 := a0_ (blk_drew BK351.out)
    replace BK352 := a0_ (blk_drew BK352.out)
    replace BK364 := a0_ (blk_drew BK364.out)
    replace HI356 := a0_ (IsS55.drew HI356.out)
    replace HB := a0_ (below_drew1 HB.out)
    refine start_ (n := 5) (S := fun w' => w'.cell? ⟨gb364, 0, none⟩ = some (.slice Ao10 t357.length co10) ∧ w'.cell? ⟨gb364, 1, none⟩ = some (.int .i64 t360) ∧ w'.cell? ⟨gb364, 2, none⟩ = some (.bool t361)) (ds := []) (mk_ 0 5) kr_ rfl rfl ⟨(blk_cell BK364.out 0).trans rfl, (blk_cell BK364.out 1).trans rfl, (blk_cell BK364.out 2).trans rfl⟩ (fun hHeld => ?_)
    generalize wc.drew = w45 at HO_365000 BK351 BK352 BK364 HI356 HB hHeld ⊢
    refine pure_ (i := 1) (N := some 28) (v := ?_) (a' := ?_) #[false, true, false, false, false] rfl rfl kr_ (fun _ _ _ h => h) (Or.inl ⟨by rfl, ?_⟩) ?_ ?_
    rotate_left
    ·intro w'
     go_simp
     with_reducible rfl
    rotate_left
    ·simp only [sp_]
     rfl
    refine take_ (i := 0) (N := some 27) (v := ?_) (a' := ?_) (mk_ 2 3) rfl rfl kr_ (fun _ _ _ h => h) (Or.inl ⟨by rfl, ?_⟩) hHeld ?_ ?_
    rotate_left
    ·rintro w' ⟨s0, s1, s2⟩
     go_simp
     with_reducible rfl
    rotate_left
    ·simp only [sp_]
     rfl
    refine one_ (i := 2) (N := some 29) (mk_ 3 2) rfl rfl kr_ (by decide) (fun K hK => ?_)
    refine goes_ Tryz.func16 kr_ rfl #[.pointer (some ⟨g356, 0, none⟩)] (by rfl) rfl rfl ta_ ?_
    with_reducible refine (spec_l11DrawPiece.calls kj3 g356 t353 x357001_3 x357002_3 t378 t381 t382 t383 t384 w _ ?side1 ?side2 A44.out).mono ?_
    (case side1 => repeat (first | (with_reducible first | exact HI356.out | apply IsS55.alloc | apply IsS55.drewN | apply IsS55.drew | apply IsS55.set_1 | apply IsS55.set_2 | refine IsS55.far ?_ NB356_351.out _ | refine IsS55.far ?_ NB356_352.out _ | refine IsS55.far ?_ NB356_364.out _) | exact HI356.out))
    (case side2 => repeat (first | (with_reducible first | exact HB.out | apply below_alloc | apply pw_below_drewN | apply below_drew1 | refine below_set ?_ (IsS55.ge HI356.out) | refine below_set ?_ GE351.out | refine below_set ?_ GE352.out | refine below_set ?_ GE364.out) | exact HB.out))
    rintro e w46 ⟨v379, rfl, ho0, hi, hb, hk⟩
    refine ⟨_, rfl, ?_⟩
    replace BK351 := a0_ (KeepBut.blk hk (g' := gb351) (o := .cells #[.slice none 0 0, .int .i64 0, .bool false] 26 (0, 0)) (bk_ BK351.out) NB351_356.out (by simp))
    replace BK352 := a0_ (KeepBut.blk hk (g' := gb352) (o := .cells #[.slice none 0 0, .int .i64 0, .bool false] 26 (0, 0)) (bk_ BK352.out) NB352_356.out (by simp))
    replace BK364 := a0_ (KeepBut.blk hk (g' := gb364) (o := .cells #[.slice Ao10 t357.length co10, .int .i64 t360, .bool t361] 26 (0, 0)) (bk_ BK364.out) NB364_356.out (by simp))
    have HO380 := a0_ (Kd.R_lower (Kd.R_new' ho0 (Kd.R_lt (ra_ HO_365000.out))) (below_size (by repeat (first | (with_reducible first | exact HB.out | apply below_alloc | apply pw_below_drewN | apply below_drew1 | refine below_set ?_ (IsS55.ge HI356.out) | refine below_set ?_ GE351.out | refine below_set ?_ GE352.out | refine below_set ?_ GE364.out) | exact HB.out))))
    replace HO_365000 := a0_ (Kd.R_mono (Kd.R_told (Kd.R_oldK (IsS55.apart (show IsS55 w _ g356 t353 x357001_3 x357002_3 from by repeat (first | (with_reducible first | exact HI356.out | apply IsS55.alloc | apply IsS55.drewN | apply IsS55.drew | apply IsS55.set_1 | apply IsS55.set_2 | refine IsS55.far ?_ NB356_351.out _ | refine IsS55.far ?_ NB356_352.out _ | refine IsS55.far ?_ NB356_364.out _) | exact HI356.out)) (ra_ HO_365000.out) (by decide)) hk) (Kd.R_base ho0)) (fun _ h_ => h_.1))
    replace HB := a0_ (hb)
    replace HI356 := a0_ (hi)
    (try clear hb)
    (try clear hb2)
    (try clear hk)
    (try clear hi)
    (try clear ho0)
    obtain ⟨Ao50, co50, eo50⟩ := Kd.R_slice HO380.out
    (first | subst eo50 | (injection eo50 with f1_ f2_ f3_; have f4_ := f1_.symm; have f5_ := f3_.symm; clear f1_ f2_ f3_; subst f4_; subst f5_))
    refine hK.out _ _ ⟨(blk_cell BK364.out 0).trans rfl, (blk_cell BK364.out 1).trans rfl, (blk_cell BK364.out 2).trans rfl⟩ (fun hHeld => ?_)
    clear hK K
    refine nm_ ?_
    refine one_ (i := 3) (N := none) (mk_ 4 1) rfl rfl kr_ (by decide) (fun K hK => ?_)
    have hs47 : w46.cell? ⟨gb351, 0, none⟩ = some (.slice none 0 0) := (blk_cell BK351.out 0).trans rfl
    have hfs47 := blk_frozen BK351.out 0
    have hns47_1 := NB352_351.out
    have hns47_2 := NB364_351.out
    have hms47_1 := NB351_352.out
    have hms47_2 := NB351_364.out
    have hs48 : w46.cell? ⟨gb351, 1, none⟩ = some (.int .i64 0) := (blk_cell BK351.out 1).trans rfl
    have hfs48 := blk_frozen BK351.out 1
    have hns48_1 := NB352_351.out
    have hns48_2 := NB364_351.out
    have hms48_1 := NB351_352.out
    have hms48_2 := NB351_364.out
    have hs49 : w46.cell? ⟨gb351, 2, none⟩ = some (.bool false) := (blk_cell BK351.out 2).trans rfl
    have hfs49 := blk_frozen BK351.out 2
    have hns49_1 := NB352_351.out
    have hns49_2 := NB364_351.out
    have hms49_1 := NB351_352.out
    have hms49_2 := NB351_364.out
    refine skip_ (w1 := ?_) (by rfl) rfl ?_ ?_
    rotate_left
    ·go_simp
     rfl
    refine hK.out _ _ ⟨((cell_far (p := ⟨gb351, _, none⟩) NB364_351.out _).trans (((cell_far (p := ⟨gb351, _, none⟩) NB364_351.out _).trans (((cell_far (p := ⟨gb351, _, none⟩) NB364_351.out _).trans (hHeld.1)))))), ((cell_far (p := ⟨gb351, _, none⟩) NB364_351.out _).trans (((cell_far (p := ⟨gb351, _, none⟩) NB364_351.out _).trans (((cell_far (p := ⟨gb351, _, none⟩) NB364_351.out _).trans (hHeld.2.1)))))), ((cell_far (p := ⟨gb351, _, none⟩) NB364_351.out _).trans (((cell_far (p := ⟨gb351, _, none⟩) NB364_351.out _).trans (((cell_far (p := ⟨gb351, _, none⟩) NB364_351.out _).trans (hHeld.2.2))))))⟩ (fun hHeld => ?_)
    clear hK K
    refine one_ (i := 4) (N := none) (mk_ 5 0) rfl rfl kr_ (by decide) (fun K hK => ?_)
    have hs51 : w46.cell? ⟨gb352, 0, none⟩ = some (.slice none 0 0) := (blk_cell BK352.out 0).trans rfl
    have hfs51 := blk_frozen BK352.out 0
    have hns51_0 := NB351_352.out
    have hns51_2 := NB364_352.out
    have hms51_0 := NB352_351.out
    have hms51_2 := NB352_364.out
    have hs52 : w46.cell? ⟨gb352, 1, none⟩ = some (.int .i64 0) := (blk_cell BK352.out 1).trans rfl
    have hfs52 := blk_frozen BK352.out 1
    have hns52_0 := NB351_352.out
    have hns52_2 := NB364_352.out
    have hms52_0 := NB352_351.out
    have hms52_2 := NB352_364.out
    have hs53 : w46.cell? ⟨gb352, 2, none⟩ = some (.bool false) := (blk_cell BK352.out 2).trans rfl
    have hfs53 := blk_frozen BK352.out 2
    have hns53_0 := NB351_352.out
    have hns53_2 := NB364_352.out
    have hms53_0 := NB352_351.out
    have hms53_2 := NB352_364.out
    refine skip_ (w1 := ?_) (by rfl) rfl ?_ ?_
    rotate_left
    ·go_simp
     rfl
    refine hK.out _ _ ⟨((cell_far (p := ⟨gb352, _, none⟩) NB364_352.out _).trans (((cell_far (p := ⟨gb352, _, none⟩) NB364_352.out _).trans (((cell_far (p := ⟨gb352, _, none⟩) NB364_352.out _).trans (hHeld.1)))))), ((cell_far (p := ⟨gb352, _, none⟩) NB364_352.out _).trans (((cell_far (p := ⟨gb352, _, none⟩) NB364_352.out _).trans (((cell_far (p := ⟨gb352, _, none⟩) NB364_352.out _).trans (hHeld.2.1)))))), ((cell_far (p := ⟨gb352, _, none⟩) NB364_352.out _).trans (((cell_far (p := ⟨gb352, _, none⟩) NB364_352.out _).trans (((cell_far (p := ⟨gb352, _, none⟩) NB364_352.out _).trans (hHeld.2.2))))))⟩ (fun hHeld => ?_)
    clear hK K
    refine done_ kr_ ?_
    try go_wp2
    refine bodyPost_ret (results_cc rfl _ _ gb351 gb352 26 26 #[.slice Ao10 t357.length co10, .int .i64 t360, .bool t361] #[.slice Ao50 t378.length co50, .int .i64 t381, .bool t382] (0, 0) (0, 0) _ _ rfl (by (with_reducible repeat (first | refine blk_drewN ?_ _ | refine blk_drew ?_ | refine blk_alloc ?_ _)); refine blk_far ?_ NB351_352.out _; (with_reducible repeat (first | refine blk_drewN ?_ _ | refine blk_drew ?_ | refine blk_alloc ?_ _)); refine blk_far ?_ NB351_352.out _; (with_reducible repeat (first | refine blk_drewN ?_ _ | refine blk_drew ?_ | refine blk_alloc ?_ _)); refine blk_far ?_ NB351_352.out _; (with_reducible repeat (first | refine blk_drewN ?_ _ | refine blk_drew ?_ | refine blk_alloc ?_ _)); refine blk_put (cs := #[.slice Ao10 t357.length co10, .int .i64 t360, .bool false]) ?_ 2 _ rfl; (with_reducible repeat (first | refine blk_drewN ?_ _ | refine blk_drew ?_ | refine blk_alloc ?_ _)); refine blk_put (cs := #[.slice Ao10 t357.length co10, .int .i64 0, .bool false]) ?_ 1 _ rfl; (with_reducible repeat (first | refine blk_drewN ?_ _ | refine blk_drew ?_ | refine blk_alloc ?_ _)); refine blk_put (cs := #[.slice none 0 0, .int .i64 0, .bool false]) ?_ 0 _ rfl; (with_reducible repeat (first | refine blk_drewN ?_ _ | refine blk_drew ?_ | refine blk_alloc ?_ _)); exact BK351.out) Tryz.underlying26 rfl kr_ rfl (by (with_reducible repeat (first | refine blk_drewN ?_ _ | refine blk_drew ?_ | refine blk_alloc ?_ _)); refine blk_put (cs := #[.slice Ao50 t378.length co50, .int .i64 t381, .bool false]) ?_ 2 _ rfl; (with_reducible repeat (first | refine blk_drewN ?_ _ | refine blk_drew ?_ | refine blk_alloc ?_ _)); refine blk_put (cs := #[.slice Ao50 t378.length co50, .int .i64 0, .bool false]) ?_ 1 _ rfl; (with_reducible repeat (first | refine blk_drewN ?_ _ | refine blk_drew ?_ | refine blk_alloc ?_ _)); refine blk_put (cs := #[.slice none 0 0, .int .i64 0, .bool false]) ?_ 0 _ rfl; (with_reducible repeat (first | refine blk_drewN ?_ _ | refine blk_drew ?_ | refine blk_alloc ?_ _)); refine blk_far ?_ NB352_351.out _; (with_reducible repeat (first | refine blk_drewN ?_ _ | refine blk_drew ?_ | refine blk_alloc ?_ _)); refine blk_far ?_ NB352_351.out _; (with_reducible repeat (first | refine blk_drewN ?_ _ | refine blk_drew ?_ | refine blk_alloc ?_ _)); refine blk_far ?_ NB352_351.out _; (with_reducible repeat (first | refine blk_drewN ?_ _ | refine blk_drew ?_ | refine blk_alloc ?_ _)); exact BK352.out) Tryz.underlying26 rfl kr_) rfl ?_
    exact ⟨_, _, er_, by (with_reducible repeat (first | apply Kd.R_alloc | apply Kd.R_drewN | apply Kd.R_drew)); exact Kd.R_mono (Kd.R_far (p := ⟨gb352, 2, none⟩) (Kd.R_far (p := ⟨gb352, 1, none⟩) (Kd.R_far (p := ⟨gb352, 0, none⟩) (Kd.R_far (p := ⟨gb351, 2, none⟩) (Kd.R_far (p := ⟨gb351, 1, none⟩) (Kd.R_far (p := ⟨gb351, 0, none⟩) (Kd.R_types (Kd.R_types HO_365000.out BK351.out (by decide)) BK352.out (by decide)) (fun _ hk => hk.1.2) (.slice Ao10 t357.length co10)) (fun _ hk => hk.1.2) (.int .i64 t360)) (fun _ hk => hk.1.2) (.bool t361)) (fun _ hk => hk.2) (.slice Ao50 t378.length co50)) (fun _ hk => hk.2) (.int .i64 t381)) (fun _ hk => hk.2) (.bool t382)) (fun _ hk => hk.1.1.2), by (with_reducible repeat (first | apply Kd.R_alloc | apply Kd.R_drewN | apply Kd.R_drew)); exact Kd.R_mono (Kd.R_far (p := ⟨gb352, 2, none⟩) (Kd.R_far (p := ⟨gb352, 1, none⟩) (Kd.R_far (p := ⟨gb352, 0, none⟩) (Kd.R_far (p := ⟨gb351, 2, none⟩) (Kd.R_far (p := ⟨gb351, 1, none⟩) (Kd.R_far (p := ⟨gb351, 0, none⟩) (Kd.R_types (Kd.R_types HO380.out BK351.out (by decide)) BK352.out (by decide)) (fun _ hk => hk.1.2) (.slice Ao10 t357.length co10)) (fun _ hk => hk.1.2) (.int .i64 t360)) (fun _ hk => hk.1.2) (.bool t361)) (fun _ hk => hk.2) (.slice Ao50 t378.length co50)) (fun _ hk => hk.2) (.int .i64 t381)) (fun _ hk => hk.2) (.bool t382)) (fun _ hk => hk.1.1.2), by repeat (first | (with_reducible first | exact HB.out | apply below_alloc | apply pw_below_drewN | apply below_drew1 | refine below_set ?_ (IsS55.ge HI356.out) | refine below_set ?_ GE351.out | refine below_set ?_ GE352.out | refine below_set ?_ GE364.out) | exact HB.out)⟩

/-! ### impl_within: function 28 -/
def impl_within.f (a0 : Int) (a1 : Int) (a2 : Int) : Option (Bool) := if a0 ≥ a1 then (some (decide (a0 ≤ a2))) else (some false)
set_option maxHeartbeats 8000000 in
set_option maxRecDepth 100000 in
theorem impl_within.calls (a0 : Int) (a1 : Int) (a2 : Int) (r : Bool) (w : World) (h : impl_within.f a0 a1 a2 = some r) :
  Calls Tryz.prog 28 #[.int .i64 a0, .int .i64 a1, .int .i64 a2] w fun e w' => e = .returned (.bool r) ∧ Drawn0 w w' := by
 have H : (if a0 ≥ a1 then (some (decide (a0 ≤ a2))) else (some false)) = some r := h
 clear h
 by_cases c4 : a0 ≥ a1
 ·rw [if_pos c4] at H
  have c4b0 : decide (a1 ≤ a0) = true := decide_eq_true c4
  clear c4
  obtain rfl := Option.some.inj H
  go_enter Tryz.func28, Tryz.ntmps28
  go_wp2
  go_ret
  exact ⟨by first | rfl | (simp; done) | (simp [*]; done), by repeat (first | exact Drawn0.refl _ | apply Drawn0.step)⟩
 ·rw [if_neg c4] at H
  have c4b0 : decide (a1 ≤ a0) = false := decide_eq_false c4
  clear c4
  obtain rfl := Option.some.inj H
  go_enter Tryz.func28, Tryz.ntmps28
  go_wp2
  go_ret
  exact ⟨by first | rfl | (simp; done) | (simp [*]; done), by repeat (first | exact Drawn0.refl _ | apply Drawn0.step)⟩

/-! ### impl_isCoordinate: function 66 -/
def impl_isCoordinate.f (a0 : Int) : Option (Bool) := (impl_within.f a0 (-100) 100).bind fun t385 => (some t385)
set_option maxHeartbeats 8000000 in
set_option maxRecDepth 100000 in
theorem impl_isCoordinate.calls (a0 : Int) (r : Bool) (w : World) (h : impl_isCoordinate.f a0 = some r) :
  Calls Tryz.prog 66 #[.int .i64 a0] w fun e w' => e = .returned (.bool r) ∧ Drawn0 w w' := by
 have H : ((impl_within.f a0 (-100) 100).bind fun t385 => (some t385)) = some r := h
 clear h
 obtain ⟨t385, A2, H⟩ := bs_ H
 obtain rfl := Option.some.inj H
 go_enter Tryz.func66, Tryz.ntmps66
 go_wp2_with (first | ((with_reducible refine gate_callee (f := 28) rfl ?_); refine goesL_ (some 4) rfl rfl Tryz.func28 kr_ rfl #[.int .i64 a0, .int .i64 (-100), .int .i64 100] rfl ta_ ?_; (with_reducible refine (impl_within.calls a0 (-100) 100 t385 _ A2.out).mono ?_); rintro e w' ⟨rfl, ⟨nd, rfl⟩⟩; refine ⟨_, rfl, ?_⟩))
 go_ret
 exact ⟨by first | rfl | (simp; done) | (simp [*]; done), by repeat (first | exact Drawn0.refl _ | apply Drawn0.step)⟩

/-! ### cmp_isNaN_int64: function 91 -/
def cmp_isNaN_int64.f (a0 : Int) : Option (Bool) := some (a0 != a0)
set_option maxHeartbeats 8000000 in
set_option maxRecDepth 100000 in
theorem cmp_isNaN_int64.calls (a0 : Int) (r : Bool) (w : World) (h : cmp_isNaN_int64.f a0 = some r) :
  Calls Tryz.prog 91 #[.int .i64 a0] w fun e w' => e = .returned (.bool r) ∧ Drawn0 w w' := by
 have H : (some (a0 != a0)) = some r := h
 clear h
 obtain rfl := Option.some.inj H
 go_enter Tryz.func91, Tryz.ntmps91
 go_wp2
 go_ret
 exact ⟨by first | rfl | (simp; done) | (simp [*]; done), by repeat (first | exact Drawn0.refl _ | apply Drawn0.step)⟩

/-! ### cmp_Compare_int64: function 77 -/
def cmp_Compare_int64.f (a0 : Int) (a1 : Int) : Option (Int) := (cmp_isNaN_int64.f a0).bind fun t386 => ((cmp_isNaN_int64.f a1).bind fun t387 => (if t386 = true then (if t387 = true then (some 0) else (some (-1))) else (if t387 = true then (some 1) else (if a0 < a1 then (some (-1)) else (if a0 > a1 then (some 1) else (some 0))))))
set_option maxHeartbeats 8000000 in
set_option maxRecDepth 100000 in
theorem cmp_Compare_int64.calls (a0 : Int) (a1 : Int) (r : Int) (w : World) (h : cmp_Compare_int64.f a0 a1 = some r) :
  Calls Tryz.prog 77 #[.int .i64 a0, .int .i64 a1] w fun e w' => e = .returned (.int .i64 r) ∧ Drawn0 w w' := by
 have H := h
 clear h
 unfold cmp_Compare_int64.f at H
 obtain ⟨t386, A3, H⟩ := bs_ H
 obtain ⟨t387, A4, H⟩ := bs_ H
 by_cases c5 : t386 = true
 ·subst c5
  rw [if_pos rfl] at H
  by_cases c6 : t387 = true
  ·subst c6
   rw [if_pos rfl] at H
   obtain rfl := Option.some.inj H
   go_enter Tryz.func77, Tryz.ntmps77
   go_wp2_with (first | ((with_reducible refine gate_callee (f := 91) rfl ?_); refine goesL_ (some 8) rfl rfl Tryz.func91 kr_ rfl #[.int .i64 a0] rfl ta_ ?_; (with_reducible refine (cmp_isNaN_int64.calls a0 true _ A3.out).mono ?_); rintro e w' ⟨rfl, ⟨nd, rfl⟩⟩; refine ⟨_, rfl, ?_⟩) | ((with_reducible refine gate_callee (f := 91) rfl ?_); refine goesL_ (some 10) rfl rfl Tryz.func91 kr_ rfl #[.int .i64 a1] rfl ta_ ?_; (with_reducible refine (cmp_isNaN_int64.calls a1 true _ A4.out).mono ?_); rintro e w' ⟨rfl, ⟨nd, rfl⟩⟩; refine ⟨_, rfl, ?_⟩))
   go_ret
   exact ⟨by first | rfl | (simp; done) | (simp [*]; done), by repeat (first | exact Drawn0.refl _ | apply Drawn0.step)⟩
  ·replace c6 := Bool.eq_false_iff.mpr c6
   subst c6
   rw [if_neg (show ¬ (false = true) by decide)] at H
   obtain rfl := Option.some.inj H
   go_enter Tryz.func77, Tryz.ntmps77
   go_wp2_with (first | ((with_reducible refine gate_callee (f := 91) rfl ?_); refine goesL_ (some 8) rfl rfl Tryz.func91 kr_ rfl #[.int .i64 a0] rfl ta_ ?_; (with_reducible refine (cmp_isNaN_int64.calls a0 true _ A3.out).mono ?_); rintro e w' ⟨rfl, ⟨nd, rfl⟩⟩; refine ⟨_, rfl, ?_⟩) | ((with_reducible refine gate_callee (f := 91) rfl ?_); refine goesL_ (some 10) rfl rfl Tryz.func91 kr_ rfl #[.int .i64 a1] rfl ta_ ?_; (with_reducible refine (cmp_isNaN_int64.calls a1 false _ A4.out).mono ?_); rintro e w' ⟨rfl, ⟨nd, rfl⟩⟩; refine ⟨_, rfl, ?_⟩))
   go_ret
   exact ⟨by first | rfl | (simp; done) | (simp [*]; done), by repeat (first | exact Drawn0.refl _ | apply Drawn0.step)⟩
 ·replace c5 := Bool.eq_false_iff.mpr c5
  subst c5
  rw [if_neg (show ¬ (false = true) by decide)] at H
  by_cases c7 : t387 = true
  ·subst c7
   rw [if_pos rfl] at H
   obtain rfl := Option.some.inj H
   go_enter Tryz.func77, Tryz.ntmps77
   go_wp2_with (first | ((with_reducible refine gate_callee (f := 91) rfl ?_); refine goesL_ (some 8) rfl rfl Tryz.func91 kr_ rfl #[.int .i64 a0] rfl ta_ ?_; (with_reducible refine (cmp_isNaN_int64.calls a0 false _ A3.out).mono ?_); rintro e w' ⟨rfl, ⟨nd, rfl⟩⟩; refine ⟨_, rfl, ?_⟩) | ((with_reducible refine gate_callee (f := 91) rfl ?_); refine goesL_ (some 10) rfl rfl Tryz.func91 kr_ rfl #[.int .i64 a1] rfl ta_ ?_; (with_reducible refine (cmp_isNaN_int64.calls a1 true _ A4.out).mono ?_); rintro e w' ⟨rfl, ⟨nd, rfl⟩⟩; refine ⟨_, rfl, ?_⟩))
   go_ret
   exact ⟨by first | rfl | (simp; done) | (simp [*]; done), by repeat (first | exact Drawn0.refl _ | apply Drawn0.step)⟩
  ·replace c7 := Bool.eq_false_iff.mpr c7
   subst c7
   rw [if_neg (show ¬ (false = true) by decide)] at H
   by_cases c8 : a0 < a1
   ·rw [if_pos c8] at H
    have c8b0 : decide (a0 < a1) = true := decide_eq_true c8
    clear c8
    obtain rfl := Option.some.inj H
    go_enter Tryz.func77, Tryz.ntmps77
    go_wp2_with (first | ((with_reducible refine gate_callee (f := 91) rfl ?_); refine goesL_ (some 8) rfl rfl Tryz.func91 kr_ rfl #[.int .i64 a0] rfl ta_ ?_; (with_reducible refine (cmp_isNaN_int64.calls a0 false _ A3.out).mono ?_); rintro e w' ⟨rfl, ⟨nd, rfl⟩⟩; refine ⟨_, rfl, ?_⟩) | ((with_reducible refine gate_callee (f := 91) rfl ?_); refine goesL_ (some 10) rfl rfl Tryz.func91 kr_ rfl #[.int .i64 a1] rfl ta_ ?_; (with_reducible refine (cmp_isNaN_int64.calls a1 false _ A4.out).mono ?_); rintro e w' ⟨rfl, ⟨nd, rfl⟩⟩; refine ⟨_, rfl, ?_⟩))
    go_ret
    exact ⟨by first | rfl | (simp; done) | (simp [*]; done), by repeat (first | exact Drawn0.refl _ | apply Drawn0.step)⟩
   ·rw [if_neg c8] at H
    have c8b0 : decide (a0 < a1) = false := decide_eq_false c8
    clear c8
    by_cases c9 : a0 > a1
    ·rw [if_pos c9] at H
     have c9b0 : decide (a1 < a0) = true := decide_eq_true c9
     clear c9
     obtain rfl := Option.some.inj H
     go_enter Tryz.func77, Tryz.ntmps77
     go_wp2_with (first | ((with_reducible refine gate_callee (f := 91) rfl ?_); refine goesL_ (some 8) rfl rfl Tryz.func91 kr_ rfl #[.int .i64 a0] rfl ta_ ?_; (with_reducible refine (cmp_isNaN_int64.calls a0 false _ A3.out).mono ?_); rintro e w' ⟨rfl, ⟨nd, rfl⟩⟩; refine ⟨_, rfl, ?_⟩) | ((with_reducible refine gate_callee (f := 91) rfl ?_); refine goesL_ (some 10) rfl rfl Tryz.func91 kr_ rfl #[.int .i64 a1] rfl ta_ ?_; (with_reducible refine (cmp_isNaN_int64.calls a1 false _ A4.out).mono ?_); rintro e w' ⟨rfl, ⟨nd, rfl⟩⟩; refine ⟨_, rfl, ?_⟩))
     go_ret
     exact ⟨by first | rfl | (simp; done) | (simp [*]; done), by repeat (first | exact Drawn0.refl _ | apply Drawn0.step)⟩
    ·rw [if_neg c9] at H
     have c9b0 : decide (a1 < a0) = false := decide_eq_false c9
     clear c9
     obtain rfl := Option.some.inj H
     go_enter Tryz.func77, Tryz.ntmps77
     go_wp2_with (first | ((with_reducible refine gate_callee (f := 91) rfl ?_); refine goesL_ (some 8) rfl rfl Tryz.func91 kr_ rfl #[.int .i64 a0] rfl ta_ ?_; (with_reducible refine (cmp_isNaN_int64.calls a0 false _ A3.out).mono ?_); rintro e w' ⟨rfl, ⟨nd, rfl⟩⟩; refine ⟨_, rfl, ?_⟩) | ((with_reducible refine gate_callee (f := 91) rfl ?_); refine goesL_ (some 10) rfl rfl Tryz.func91 kr_ rfl #[.int .i64 a1] rfl ta_ ?_; (with_reducible refine (cmp_isNaN_int64.calls a1 false _ A4.out).mono ?_); rintro e w' ⟨rfl, ⟨nd, rfl⟩⟩; refine ⟨_, rfl, ?_⟩))
     go_ret
     exact ⟨by first | rfl | (simp; done) | (simp [*]; done), by repeat (first | exact Drawn0.refl _ | apply Drawn0.step)⟩

/-! ### impl_compareCells: function 67 -/
def impl_compareCells.f (a0_0 : Int) (a0_1 : Int) (a1_0 : Int) (a1_1 : Int) : Option (Int) := (cmp_Compare_int64.f a0_1 a1_1).bind fun t390 => (if t390 = 0 then ((cmp_Compare_int64.f a0_0 a1_0).bind fun t391 => (some t391)) else (some t390))
set_option maxHeartbeats 8000000 in
set_option maxRecDepth 100000 in
theorem impl_compareCells.calls (a0_0 : Int) (a0_1 : Int) (a1_0 : Int) (a1_1 : Int) (r : Int) (w : World) (h : impl_compareCells.f a0_0 a0_1 a1_0 a1_1 = some r) :
  Calls Tryz.prog 67 #[.agg #[.int .i64 a0_0, .int .i64 a0_1], .agg #[.int .i64 a1_0, .int .i64 a1_1]] w fun e w' => e = .returned (.int .i64 r) ∧ Below w.heap.size w w' := by
 have hu60 := Tryz.underlying60
 have HB := a0_ (Below.refl w.heap.size w)
 have H := h
 clear h
 unfold impl_compareCells.f at H
 obtain ⟨t390, A3, H⟩ := bs_ H
 by_cases c4 : t390 = 0
 ·rw [if_pos c4] at H
  have c4b0 : (t390 == 0) = true := beq_iff_eq.mpr c4
  have c4b1 : (t390 != 0) = false := bne_eq_false_iff_eq.mpr c4
  clear c4
  obtain ⟨t391, A5, H⟩ := bs_ H
  obtain rfl := Option.some.inj H
  go_enter Tryz.func67, Tryz.ntmps67
  go_wp2_with (first | ((with_reducible refine gate_dst (N := 2) rfl ?_); refine bx_ (N := 2) (cs := #[.int .i64 a0_0, .int .i64 a0_1]) (t := 60) ?_; intro gb388 hg w6 hbox hb; have BK388 := a0_ (hbox); have GW388 := a0_ ((sz_ hg (bl0_) : w.heap.size ≤ gb388)); have GE388 := a0_ ((sz_ hg (bl0_) : w.heap.size ≤ gb388)); replace HB := a0_ (below_step (bl0_) hb); clear hb hbox hg) | ((with_reducible refine gate_dst (N := 3) rfl ?_); refine bx_ (N := 3) (cs := #[.int .i64 a1_0, .int .i64 a1_1]) (t := 60) ?_; intro gb389 hg w7 hbox hb; have BK389 := a0_ (hbox); have GW389 := a0_ ((sz_ hg (bl1_ GE388.out) : w.heap.size ≤ gb389)); have GE389 := a0_ ((sz_ hg (bl1_ GE388.out) : w.heap.size ≤ gb389)); replace HB := a0_ (below_step (bl1_ GE388.out) hb); have NB388_389 := a0_ ((nl_ hg BK388.out : gb388 ≠ gb389)); have NB389_388 := a0_ ((ng_ hg BK388.out : gb389 ≠ gb388)); replace BK388 := a0_ (bb_ BK388.out hb); clear hb hbox hg; have hnb8 := NB388_389.out; have hnc8 := NB389_388.out; obtain ⟨hcz9_0, hcz9_1, hfz9_0, hfz9_1⟩ := bc2_ BK388.out; obtain ⟨hcz10_0, hcz10_1, hfz10_0, hfz10_1⟩ := bc2_ BK389.out) | ((with_reducible refine gate_callee (f := 77) rfl ?_); refine goesL_ (some 10) rfl rfl Tryz.func77 kr_ rfl #[.int .i64 a0_1, .int .i64 a1_1] rfl ta_ ?_; (with_reducible refine (cmp_Compare_int64.calls a0_1 a1_1 t390 _ A3.out).mono ?_); rintro e w' ⟨rfl, ⟨nd, rfl⟩⟩; refine ⟨_, rfl, ?_⟩) | ((with_reducible refine gate_callee (f := 77) rfl ?_); refine goesL_ (some 18) rfl rfl Tryz.func77 kr_ rfl #[.int .i64 a0_0, .int .i64 a1_0] rfl ta_ ?_; (with_reducible refine (cmp_Compare_int64.calls a0_0 a1_0 t391 _ A5.out).mono ?_); rintro e w' ⟨rfl, ⟨nd, rfl⟩⟩; refine ⟨_, rfl, ?_⟩))
  go_ret
  exact ⟨er_, bl2_ GE388.out GE389.out⟩
 ·rw [if_neg c4] at H
  have c4b0 : (t390 == 0) = false := beq_eq_false_iff_ne.mpr c4
  have c4b1 : (t390 != 0) = true := bne_iff_ne.mpr c4
  obtain rfl := Option.some.inj H
  go_enter Tryz.func67, Tryz.ntmps67
  go_wp2_with (first | ((with_reducible refine gate_dst (N := 2) rfl ?_); refine bx_ (N := 2) (cs := #[.int .i64 a0_0, .int .i64 a0_1]) (t := 60) ?_; intro gb388 hg w11 hbox hb; have BK388 := a0_ (hbox); have GW388 := a0_ ((sz_ hg (bl0_) : w.heap.size ≤ gb388)); have GE388 := a0_ ((sz_ hg (bl0_) : w.heap.size ≤ gb388)); replace HB := a0_ (below_step (bl0_) hb); clear hb hbox hg) | ((with_reducible refine gate_dst (N := 3) rfl ?_); refine bx_ (N := 3) (cs := #[.int .i64 a1_0, .int .i64 a1_1]) (t := 60) ?_; intro gb389 hg w12 hbox hb; have BK389 := a0_ (hbox); have GW389 := a0_ ((sz_ hg (bl1_ GE388.out) : w.heap.size ≤ gb389)); have GE389 := a0_ ((sz_ hg (bl1_ GE388.out) : w.heap.size ≤ gb389)); replace HB := a0_ (below_step (bl1_ GE388.out) hb); have NB388_389 := a0_ ((nl_ hg BK388.out : gb388 ≠ gb389)); have NB389_388 := a0_ ((ng_ hg BK388.out : gb389 ≠ gb388)); replace BK388 := a0_ (bb_ BK388.out hb); clear hb hbox hg; have hnb13 := NB388_389.out; have hnc13 := NB389_388.out; obtain ⟨hcz14_0, hcz14_1, hfz14_0, hfz14_1⟩ := bc2_ BK388.out; obtain ⟨hcz15_0, hcz15_1, hfz15_0, hfz15_1⟩ := bc2_ BK389.out) | ((with_reducible refine gate_callee (f := 77) rfl ?_); refine goesL_ (some 10) rfl rfl Tryz.func77 kr_ rfl #[.int .i64 a0_1, .int .i64 a1_1] rfl ta_ ?_; (with_reducible refine (cmp_Compare_int64.calls a0_1 a1_1 t390 _ A3.out).mono ?_); rintro e w' ⟨rfl, ⟨nd, rfl⟩⟩; refine ⟨_, rfl, ?_⟩))
  go_ret
  exact ⟨er_, bl2_ GE388.out GE389.out⟩

end Go.Proofs.YtaaodakmelihaaaGreat.PFnPieces
