/- Over the kit's printer by a driver of mine (hprint.py), with parts by hand: functions of the program as Lean functions, and that each call comes to exactly these answers. -/
import Derived.Test.YtopceddgiddhlaaDoorPFnRolledx0
import Derived.Test.YtopceddgiddhlaaDoorPFnRolledx4
namespace Go.Proofs.YtopceddgiddhlaaDoor.PFnRolled
open Go.RowKit Go.Proofs.YtopceddgiddhlaaDoorW.PrintWords Go.Proofs.YtopceddgiddhlaaDoorW.PrintLast Go.Proofs.YtopceddgiddhlaaDoorW.PrintMore
attribute [local go_sem] max2_int min2_int max_two min_two max_three min_three max_four min_four   -- for this text's walks alone
set_option linter.unusedVariables false
set_option linter.unusedSimpArgs false

/-! ### spec_l23Touch: function 118 -/
mutual
def spec_l23Touch.l0 : Nat → List (S78) → Int → Option (Bool)
 | 0, _, _ => none
 | k + 1, x0, x3 => if x3 < (x0.length : Int) then (if 0 ≤ x3 then ((spec_l02Index.f k x0 (wrap64 (((rd_T78 x0 x3).f0) + 1)) ((rd_T78 x0 x3).f1)).bind fun t238 => ((spec_l02Index.f k x0 (wrap64 (((rd_T78 x0 x3).f0) - 1)) ((rd_T78 x0 x3).f1)).bind fun t239 => ((spec_l02Index.f k x0 ((rd_T78 x0 x3).f0) (wrap64 (((rd_T78 x0 x3).f1) + 1))).bind fun t240 => (if t238 ≥ 0 then (spec_l23Touch.j1 k x0 x3 (decide (t239 ≥ 0)) (decide (t240 ≥ 0)) false ((rd_T78 x0 x3).f0) ((rd_T78 x0 x3).f1)) else (if t240 ≥ 0 then (spec_l23Touch.j1 k x0 x3 (decide (t239 ≥ 0)) (decide (t240 ≥ 0)) false ((rd_T78 x0 x3).f0) ((rd_T78 x0 x3).f1)) else ((spec_l02Index.f k x0 (wrap64 (((rd_T78 x0 x3).f0) + 1)) (wrap64 (((rd_T78 x0 x3).f1) + 1))).bind fun t241 => (spec_l23Touch.j1 k x0 x3 (decide (t239 ≥ 0)) (decide (t240 ≥ 0)) (decide (t241 ≥ 0)) ((rd_T78 x0 x3).f0) ((rd_T78 x0 x3).f1)))))))) else (none)) else (some false)
def spec_l23Touch.j1 : Nat → List (S78) → Int → Bool → Bool → Bool → Int → Int → Option (Bool)
 | 0, _, _, _, _, _, _, _ => none
 | k + 1, x0, x3, x6, x7, x62, x238000, x238001 => if x62 = true then (some true) else (if x6 = true then (spec_l23Touch.l0 k x0 (wrap64 (x3 + 1))) else (if x7 = true then (spec_l23Touch.l0 k x0 (wrap64 (x3 + 1))) else ((spec_l02Index.f k x0 (wrap64 (x238000 - 1)) (wrap64 (x238001 + 1))).bind fun t242 => (if t242 ≥ 0 then (some true) else (spec_l23Touch.l0 k x0 (wrap64 (x3 + 1)))))))
end
def spec_l23Touch.f (k : Nat) (l0 : List (S78)) : Option (Bool) := spec_l23Touch.l0 k l0 0
theorem spec_l23Touch.mono_l : ∀ k, (∀ y0 y1, LeO (spec_l23Touch.l0 k y0 y1) (spec_l23Touch.l0 (k + 1) y0 y1)) ∧ (∀ y0 y1 y2 y3 y4 y5 y6, LeO (spec_l23Touch.j1 k y0 y1 y2 y3 y4 y5 y6) (spec_l23Touch.j1 (k + 1) y0 y1 y2 y3 y4 y5 y6))
 | 0 => ⟨fun _ _ r h => by simp [spec_l23Touch.l0] at h, fun _ _ _ _ _ _ _ r h => by simp [spec_l23Touch.j1] at h⟩
 | k + 1 => by
  obtain ⟨ih0, ih1⟩ := spec_l23Touch.mono_l k
  refine ⟨?_, ?_⟩
  ·intro y0 y1
   unfold spec_l23Touch.l0
   with_reducible (repeat' first | exact ih0 _ _ | exact ih1 _ _ _ _ _ _ _ | exact spec_l02Index.mono _ _ _ _ | exact LeO.refl _ | exact LeO.none _ | refine LeO.ite ?_ ?_ | refine LeO.bind ?_ (fun _ => ?_))
  ·intro y0 y1 y2 y3 y4 y5 y6
   unfold spec_l23Touch.j1
   with_reducible (repeat' first | exact ih0 _ _ | exact ih1 _ _ _ _ _ _ _ | exact spec_l02Index.mono _ _ _ _ | exact LeO.refl _ | exact LeO.none _ | refine LeO.ite ?_ ?_ | refine LeO.bind ?_ (fun _ => ?_))
theorem spec_l23Touch.mono : ∀ a0 k, LeO (spec_l23Touch.f k a0) (spec_l23Touch.f (k + 1) a0) := by
 intro a0 k
 obtain ⟨ih0, ih1⟩ := spec_l23Touch.mono_l k
 unfold spec_l23Touch.f
 with_reducible (repeat' first | exact ih0 _ _ | exact ih1 _ _ _ _ _ _ _ | exact spec_l02Index.mono _ _ _ _ | exact LeO.refl _ | exact LeO.none _ | refine LeO.ite ?_ ?_ | refine LeO.bind ?_ (fun _ => ?_))
set_option maxHeartbeats 8000000 in
set_option maxRecDepth 100000 in
theorem spec_l23Touch.calls (k : Nat) (A0 : Option Addr) (c0 : Nat) (l0 : List (S78)) (r : Bool) (w : World) (hr0 : Kd.C k78 w A0 l0.length l0) (hc0 : l0.length ≤ c0) (h : spec_l23Touch.f k l0 = some r) :
  Calls Tryd.prog 118 #[.slice A0 l0.length c0] w fun e w' => e = .returned (.bool r) ∧ Below w.heap.size w w' := by
 have hu78 := Tryd.underlying78
 have HR0 := Aside0.mk hr0
 have HC0 := Aside0.mk hc0
 clear hr0 hc0
 have HB := a0_ (Below.refl w.heap.size w)
 have H : (spec_l23Touch.l0 k l0 0) = some r := h
 clear h
 have H' := Aside0.mk H
 clear H
 go_enter Tryd.func118, Tryd.ntmps118
 go_wp2
 go_loopg [3] k (fun kq v3 w' => ∃ (x3_1 : Int), v3 = .int .i64 x3_1 ∧ Aside0 (spec_l23Touch.l0 kq l0 x3_1 = some r) ∧ Aside0 (kq ≤ k) ∧ Aside0 (Below w.heap.size w w'))
 case atStart => exact ⟨(0), rs_, H', ⟨Nat.le_refl _⟩, ⟨bl0_⟩⟩
 case round =>
  clear H'
  try clear c1
  obtain ⟨x3_1, rfl, HA, HK1, HB⟩ := hrel
  cases gk with
  | zero => exact absurd HA.out (by simp [spec_l23Touch.l0])
  | succ k1 =>
   have H := HA.out
   clear HA
   simp only [spec_l23Touch.l0] at H
   by_cases c2 : x3_1 < (l0.length : Int)
   ·rw [if_pos c2] at H
    have c2b0 : decide (x3_1 < (l0.length : Int)) = true := decide_eq_true c2
    clear c2
    by_cases c3 : 0 ≤ x3_1
    ·rw [if_pos c3] at H
     have c3b0 : decide (0 ≤ x3_1) = true := decide_eq_true c3
     clear c3
     obtain ⟨t238, A4, H⟩ := bs_ H
     obtain ⟨t239, A5, H⟩ := bs_ H
     obtain ⟨t240, A6, H⟩ := bs_ H
     have HC7 := Aside0.mk H
     clear H
     have p236 : 0 ≤ (x3_1 : Int) := od_
     have q236 : x3_1 < (l0.length : Int) := od_
     obtain ⟨ad236, e236, hx236_0, hx236_1⟩ := at_T78 HR0.out x3_1 p236 q236
     cases e236
     replace hx236_0 := (HB.out.cell (World.block_lt_of_cell? w _ hx236_0)).trans hx236_0
     replace hx236_1 := (HB.out.cell (World.block_lt_of_cell? w _ hx236_1)).trans hx236_1
     replace p236 := eq_true p236
     replace q236 := eq_true q236
     go_upto_region 8 with (first | ((with_reducible refine gate_dst (N := 4) rfl ?_); refine bx_ (N := 4) (cs := #[.int .i64 0, .int .i64 0]) (t := 78) ?_; intro gb237 hg w8 hbox hb; have BK237 := a0_ (hbox); have GW237 := a0_ ((sz_ hg (bl0_) : w.heap.size ≤ gb237)); have GE237 := a0_ ((sz_ hg (bl0_) : w.heap.size ≤ gb237)); replace HB := a0_ (below_step (bl0_) hb); clear hb hbox hg; obtain ⟨hcz9_0, hcz9_1, hfz9_0, hfz9_1⟩ := bc2_ BK237.out) | ((with_reducible refine gate_callee (f := 70) rfl ?_); refine goesL_ (some 25) rfl rfl Tryd.func70 kr_ rfl #[.slice (some ad236) l0.length c0, .agg #[.int .i64 (wrap64 (((rd_T78 l0 x3_1).f0) + 1)), .int .i64 ((rd_T78 l0 x3_1).f1)]] rfl ta_ ?_; (with_reducible refine (spec_l02Index.calls k1 _ _ l0 (wrap64 (((rd_T78 l0 x3_1).f0) + 1)) ((rd_T78 l0 x3_1).f1) t238 _ ?side1 ?side2 A4.out).mono ?_); (case side1 => exact Kd.C_below HR0.out (bl1_ GE237.out)); (case side2 => exact HC0.out); rintro e w10 ⟨rfl, hb⟩; refine ⟨_, rfl, ?_⟩; replace BK237 := a0_ (blk_below (g := gb237) (o := .cells #[.int .i64 ((rd_T78 l0 x3_1).f0), .int .i64 ((rd_T78 l0 x3_1).f1)] 78 (0, 0)) (by (with_reducible repeat (first | refine blk_drewN ?_ _ | refine blk_drew ?_ | refine blk_alloc ?_ _)); refine blk_put (cs := #[.int .i64 ((rd_T78 l0 x3_1).f0), .int .i64 0]) ?_ 1 _ rfl; (with_reducible repeat (first | refine blk_drewN ?_ _ | refine blk_drew ?_ | refine blk_alloc ?_ _)); refine blk_put (cs := #[.int .i64 0, .int .i64 0]) ?_ 0 _ rfl; (with_reducible repeat (first | refine blk_drewN ?_ _ | refine blk_drew ?_ | refine blk_alloc ?_ _)); exact BK237.out) hb); replace HB := a0_ (below_step (bl1_ GE237.out) hb); (try clear hb); (try clear hb2); (try clear hk); (try clear hi); obtain ⟨hcz11_0, hcz11_1, hfz11_0, hfz11_1⟩ := bc2_ BK237.out) | ((with_reducible refine gate_callee (f := 70) rfl ?_); refine goesL_ (some 34) rfl rfl Tryd.func70 kr_ rfl #[.slice (some ad236) l0.length c0, .agg #[.int .i64 (wrap64 (((rd_T78 l0 x3_1).f0) - 1)), .int .i64 ((rd_T78 l0 x3_1).f1)]] rfl ta_ ?_; (with_reducible refine (spec_l02Index.calls k1 _ _ l0 (wrap64 (((rd_T78 l0 x3_1).f0) - 1)) ((rd_T78 l0 x3_1).f1) t239 _ ?side1 ?side2 A5.out).mono ?_); (case side1 => exact ca_ (Kd.C_below HR0.out HB.out)); (case side2 => exact HC0.out); rintro e w12 ⟨rfl, hb⟩; refine ⟨_, rfl, ?_⟩; replace BK237 := a0_ (bb_ BK237.out hb); replace HB := a0_ (below_step (bl1_ GE237.out) hb); (try clear hb); (try clear hb2); (try clear hk); (try clear hi); obtain ⟨hcz13_0, hcz13_1, hfz13_0, hfz13_1⟩ := bc2_ BK237.out) | ((with_reducible refine gate_callee (f := 70) rfl ?_); refine goesL_ (some 43) rfl rfl Tryd.func70 kr_ rfl #[.slice (some ad236) l0.length c0, .agg #[.int .i64 ((rd_T78 l0 x3_1).f0), .int .i64 (wrap64 (((rd_T78 l0 x3_1).f1) + 1))]] rfl ta_ ?_; (with_reducible refine (spec_l02Index.calls k1 _ _ l0 ((rd_T78 l0 x3_1).f0) (wrap64 (((rd_T78 l0 x3_1).f1) + 1)) t240 _ ?side1 ?side2 A6.out).mono ?_); (case side1 => exact ca_ (Kd.C_below HR0.out HB.out)); (case side2 => exact HC0.out); rintro e w14 ⟨rfl, hb⟩; refine ⟨_, rfl, ?_⟩; replace BK237 := a0_ (bb_ BK237.out hb); replace HB := a0_ (below_step (bl1_ GE237.out) hb); (try clear hb); (try clear hb2); (try clear hk); (try clear hi)))
     (try simp only [Act.put, List.setIfInBounds_toArray, List.set_cons_zero, List.set_cons_succ])
     go_cut [5, 6, 7, 62] (fun v5 v6 v7 v62 wc => ∃ (kq : Nat) (x62_6 : Bool), v5 = .bool (decide (0 ≤ t238)) ∧ v6 = .bool (decide (0 ≤ t239)) ∧ v7 = .bool (decide (0 ≤ t240)) ∧ v62 = .bool x62_6 ∧ Aside0 (spec_l23Touch.j1 kq l0 x3_1 (decide (t239 ≥ 0)) (decide (t240 ≥ 0)) x62_6 ((rd_T78 l0 x3_1).f0) ((rd_T78 l0 x3_1).f1) = some r) ∧ Aside0 (kq ≤ k1) ∧ Aside0 (wc.heap[gb237]? = some (.cells #[.int .i64 ((rd_T78 l0 x3_1).f0), .int .i64 ((rd_T78 l0 x3_1).f1)] 78 (0, 0))) ∧ Aside0 (Below w.heap.size w wc))
     case first =>
      have H := HC7.out
      clear HC7
      by_cases c15 : t238 ≥ 0
      ·rw [if_pos c15] at H
       have c15b0 : decide (0 ≤ t238) = true := decide_eq_true c15
       clear c15
       (first | rw [c15b0] | (simp only [i64_w, i32_w]; rw [c15b0]) | skip)
       have H' := Aside0.mk H
       clear H
       go_wp2
       go_meet
       case rel => exact ⟨_, (false), rs_, rs_, rs_, rs_, H', ⟨by have := HK1.out; first | omega | exact Nat.le_refl _⟩, ⟨bk_ BK237.out⟩, ⟨bl1_ GE237.out⟩⟩
      ·rw [if_neg c15] at H
       have c15b0 : decide (0 ≤ t238) = false := decide_eq_false c15
       clear c15
       (first | rw [c15b0] | (simp only [i64_w, i32_w]; rw [c15b0]) | skip)
       by_cases c16 : t240 ≥ 0
       ·rw [if_pos c16] at H
        have c16b0 : decide (0 ≤ t240) = true := decide_eq_true c16
        clear c16
        have H' := Aside0.mk H
        clear H
        go_wp2
        go_meet
        case rel => exact ⟨_, (false), rs_, rs_, rs_, rs_, H', ⟨by have := HK1.out; first | omega | exact Nat.le_refl _⟩, ⟨bk_ BK237.out⟩, ⟨bl1_ GE237.out⟩⟩
       ·rw [if_neg c16] at H
        have c16b0 : decide (0 ≤ t240) = false := decide_eq_false c16
        clear c16
        obtain ⟨t241, A17, H⟩ := bs_ H
        have H' := Aside0.mk H
        clear H
        have hcz18_0 : w14.cell? ⟨gb237, 0, none⟩ = some (.int .i64 ((rd_T78 l0 x3_1).f0)) := (blk_cell BK237.out 0).trans rfl
        have hcz18_1 : w14.cell? ⟨gb237, 1, none⟩ = some (.int .i64 ((rd_T78 l0 x3_1).f1)) := (blk_cell BK237.out 1).trans rfl
        have hfz18_0 := blk_frozen BK237.out 0
        have hfz18_1 := blk_frozen BK237.out 1
        go_wp2_with (first | (go_at_call 70; (with_reducible refine (spec_l02Index.calls k1 _ _ l0 (wrap64 (((rd_T78 l0 x3_1).f0) + 1)) (wrap64 (((rd_T78 l0 x3_1).f1) + 1)) t241 _ ?side1 ?side2 A17.out).mono ?_); (case side1 => exact ca_ (Kd.C_below HR0.out HB.out)); (case side2 => exact HC0.out); rintro e w19 ⟨rfl, hb⟩; replace BK237 := a0_ (bb_ BK237.out hb); replace HB := a0_ (below_step (bl1_ GE237.out) hb); (try clear hb); (try clear hb2); (try clear hk); (try clear hi)))
        go_meet
        case rel => exact ⟨_, (decide (t241 ≥ 0)), rs_, rs_, rs_, rs_, H', ⟨by have := HK1.out; first | omega | exact Nat.le_refl _⟩, ⟨bk_ BK237.out⟩, ⟨bl1_ GE237.out⟩⟩
     case rest =>
      clear HC7
      try clear c1
      try clear c2
      try clear c2b0
      try clear p2
      try clear q2
      try clear hx2
      try clear c3
      try clear c3b0
      try clear p6
      try clear c7
      try clear c11
      try clear c15
      try clear c15b0
      try clear c16
      try clear c16b0
      try clear hcz11_0
      try clear hcz11_1
      try clear hcz13_0
      try clear hcz13_1
      try clear hcz18_0
      try clear hcz18_1
      try clear hcz9_0
      try clear hcz9_1
      try clear hfz11_0
      try clear hfz11_1
      try clear hfz13_0
      try clear hfz13_1
      try clear hfz18_0
      try clear hfz18_1
      try clear hfz9_0
      try clear hfz9_1
      try clear hx236_0
      try clear hx236_1
      try clear p236
      try clear q236
      obtain ⟨kq, x62_6, rfl, rfl, rfl, rfl, HA, HJ6, BK237, HB⟩ := hcut
      cases kq with
      | zero => exact absurd HA.out (by simp [spec_l23Touch.j1])
      | succ kj6 =>
       have H := HA.out
       clear HA
       simp only [spec_l23Touch.j1] at H
       by_cases c20 : x62_6 = true
       ·subst c20
        rw [if_pos rfl] at H
        obtain rfl := Option.some.inj H
        go_wp2
        go_ret
        exact ⟨er_, bl1_ GE237.out⟩
       ·replace c20 := Bool.eq_false_iff.mpr c20
        subst c20
        rw [if_neg (show ¬ (false = true) by decide)] at H
        by_cases c21 : (decide (t239 ≥ 0)) = true
        ·rw [if_pos c21] at H
         have c21b0 : (decide (t239 ≥ 0)) = true := c21
         clear c21
         have H' := Aside0.mk H
         clear H
         go_wp2
         go_roundg kj6
         case measure => have := HK1.out; have := HJ6.out; omega
         case rel => exact ⟨(wrap64 (x3_1 + 1)), rs_, H', ⟨by have := HK1.out; have := HJ6.out; omega⟩, ⟨bl1_ GE237.out⟩⟩
        ·rw [if_neg c21] at H
         have c21b0 : (decide (t239 ≥ 0)) = false := by simpa using c21
         clear c21
         by_cases c22 : (decide (t240 ≥ 0)) = true
         ·rw [if_pos c22] at H
          have c22b0 : (decide (t240 ≥ 0)) = true := c22
          clear c22
          have H' := Aside0.mk H
          clear H
          go_wp2
          go_roundg kj6
          case measure => have := HK1.out; have := HJ6.out; omega
          case rel => exact ⟨(wrap64 (x3_1 + 1)), rs_, H', ⟨by have := HK1.out; have := HJ6.out; omega⟩, ⟨bl1_ GE237.out⟩⟩
         ·rw [if_neg c22] at H
          have c22b0 : (decide (t240 ≥ 0)) = false := by simpa using c22
          clear c22
          obtain ⟨t242, A23, H⟩ := bs_ H
          by_cases c24 : t242 ≥ 0
          ·rw [if_pos c24] at H
           have c24b0 : decide (0 ≤ t242) = true := decide_eq_true c24
           clear c24
           obtain rfl := Option.some.inj H
           have hcz25_0 : wc.cell? ⟨gb237, 0, none⟩ = some (.int .i64 ((rd_T78 l0 x3_1).f0)) := (blk_cell BK237.out 0).trans rfl
           have hcz25_1 : wc.cell? ⟨gb237, 1, none⟩ = some (.int .i64 ((rd_T78 l0 x3_1).f1)) := (blk_cell BK237.out 1).trans rfl
           have hfz25_0 := blk_frozen BK237.out 0
           have hfz25_1 := blk_frozen BK237.out 1
           go_wp2_with (first | (go_at_call 70; (with_reducible refine (spec_l02Index.calls kj6 _ _ l0 (wrap64 (((rd_T78 l0 x3_1).f0) - 1)) (wrap64 (((rd_T78 l0 x3_1).f1) + 1)) t242 _ ?side1 ?side2 A23.out).mono ?_); (case side1 => exact ca_ (Kd.C_below HR0.out HB.out)); (case side2 => exact HC0.out); rintro e w26 ⟨rfl, hb⟩; replace BK237 := a0_ (bb_ BK237.out hb); replace HB := a0_ (below_step (bl1_ GE237.out) hb); (try clear hb); (try clear hb2); (try clear hk); (try clear hi)))
           go_ret
           exact ⟨er_, bl1_ GE237.out⟩
          ·rw [if_neg c24] at H
           have c24b0 : decide (0 ≤ t242) = false := decide_eq_false c24
           clear c24
           have H' := Aside0.mk H
           clear H
           have hcz27_0 : wc.cell? ⟨gb237, 0, none⟩ = some (.int .i64 ((rd_T78 l0 x3_1).f0)) := (blk_cell BK237.out 0).trans rfl
           have hcz27_1 : wc.cell? ⟨gb237, 1, none⟩ = some (.int .i64 ((rd_T78 l0 x3_1).f1)) := (blk_cell BK237.out 1).trans rfl
           have hfz27_0 := blk_frozen BK237.out 0
           have hfz27_1 := blk_frozen BK237.out 1
           go_wp2_with (first | (go_at_call 70; (with_reducible refine (spec_l02Index.calls kj6 _ _ l0 (wrap64 (((rd_T78 l0 x3_1).f0) - 1)) (wrap64 (((rd_T78 l0 x3_1).f1) + 1)) t242 _ ?side1 ?side2 A23.out).mono ?_); (case side1 => exact ca_ (Kd.C_below HR0.out HB.out)); (case side2 => exact HC0.out); rintro e w28 ⟨rfl, hb⟩; replace BK237 := a0_ (bb_ BK237.out hb); replace HB := a0_ (below_step (bl1_ GE237.out) hb); (try clear hb); (try clear hb2); (try clear hk); (try clear hi)))
           go_roundg kj6
           case measure => have := HK1.out; have := HJ6.out; omega
           case rel => exact ⟨(wrap64 (x3_1 + 1)), rs_, H', ⟨by have := HK1.out; have := HJ6.out; omega⟩, ⟨bl1_ GE237.out⟩⟩
    ·rw [if_neg c3] at H
     exact absurd H (by simp)
   ·rw [if_neg c2] at H
    have c2b0 : decide (x3_1 < (l0.length : Int)) = false := decide_eq_false c2
    clear c2
    obtain rfl := Option.some.inj H
    go_wp2
    go_ret
    exact ⟨er_, bl0_⟩

/-! ### spec_l04Size: function 69 -/
def spec_l04Size.l0 : Nat → List (S78) → Int → Int → Int → Int → Int → Option (Int × Int)
 | 0, _, _, _, _, _, _ => none
 | k + 1, x0, x4, x5, x6, x7, x8 => if x8 < (x0.length : Int) then (if 0 ≤ x8 then (spec_l04Size.l0 k x0 x4 x5 (mx x6 (wrap64 ((wrap64 (((rd_T78 x0 x8).f0) - x4)) + 1))) (mx x7 (wrap64 ((wrap64 (((rd_T78 x0 x8).f1) - x5)) + 1))) (wrap64 (x8 + 1))) else (none)) else (some (x6, x7))
def spec_l04Size.f (k : Nat) (l0 : List (S78)) : Option (Int × Int) := (spec_l02Least.f k l0).bind fun bt243 => (spec_l04Size.l0 k l0 bt243.1 bt243.2 0 0 0)
theorem spec_l04Size.mono_l : ∀ k, (∀ y0 y1 y2 y3 y4 y5, LeO (spec_l04Size.l0 k y0 y1 y2 y3 y4 y5) (spec_l04Size.l0 (k + 1) y0 y1 y2 y3 y4 y5))
 | 0 => fun _ _ _ _ _ _ r h => by simp [spec_l04Size.l0] at h
 | k + 1 => by
  have ih0 := spec_l04Size.mono_l k
  ·intro y0 y1 y2 y3 y4 y5
   unfold spec_l04Size.l0
   with_reducible (repeat' first | exact ih0 _ _ _ _ _ _ | exact spec_l02Least.mono _ _ | exact LeO.refl _ | exact LeO.none _ | refine LeO.ite ?_ ?_ | refine LeO.bind ?_ (fun _ => ?_))
theorem spec_l04Size.mono : ∀ a0 k, LeO (spec_l04Size.f k a0) (spec_l04Size.f (k + 1) a0) := by
 intro a0 k
 have ih0 := spec_l04Size.mono_l k
 unfold spec_l04Size.f
 with_reducible (repeat' first | exact ih0 _ _ _ _ _ _ | exact spec_l02Least.mono _ _ | exact LeO.refl _ | exact LeO.none _ | refine LeO.ite ?_ ?_ | refine LeO.bind ?_ (fun _ => ?_))
set_option maxHeartbeats 8000000 in
set_option maxRecDepth 100000 in
theorem spec_l04Size.calls (k : Nat) (A0 : Option Addr) (c0 : Nat) (l0 : List (S78)) (r1 : Int) (r2 : Int) (w : World) (hr0 : Kd.C k78 w A0 l0.length l0) (hc0 : l0.length ≤ c0) (h : spec_l04Size.f k l0 = some (r1, r2)) :
  Calls Tryd.prog 69 #[.slice A0 l0.length c0] w fun e w' => e = .returned (.tuple #[.int .i64 r1, .int .i64 r2]) ∧ Below w.heap.size w w' := by
 have HR0 := Aside0.mk hr0
 have HC0 := Aside0.mk hc0
 clear hr0 hc0
 have HB := a0_ (Below.refl w.heap.size w)
 have H := h
 clear h
 unfold spec_l04Size.f at H
 obtain ⟨⟨t243, t244⟩, A2, H⟩ := bs_ H
 dsimp only at H
 have H' := Aside0.mk H
 clear H
 go_enter Tryd.func69, Tryd.ntmps69
 go_wp2_with (first | ((with_reducible refine gate_callee (f := 104) rfl ?_); refine goesL_ (some 11) rfl rfl Tryd.func104 kr_ rfl #[.slice A0 l0.length c0] rfl ta_ ?_; (with_reducible refine (spec_l02Least.calls k _ _ l0 t243 t244 _ ?side1 ?side2 A2.out).mono ?_); (case side1 => exact ca_ HR0.out); (case side2 => exact HC0.out); rintro e w3 ⟨rfl, hb⟩; refine ⟨_, rfl, ?_⟩; replace HB := a0_ (below_step (bl0_) hb); (try clear hb); (try clear hb2); (try clear hk); (try clear hi)))
 go_loopg [6, 7, 8] k (fun kq v6 v7 v8 w' => ∃ (x6_1 : Int) (x7_1 : Int) (x8_1 : Int), v6 = .int .i64 x6_1 ∧ v7 = .int .i64 x7_1 ∧ v8 = .int .i64 x8_1 ∧ Aside0 (spec_l04Size.l0 kq l0 t243 t244 x6_1 x7_1 x8_1 = some (r1, r2)) ∧ Aside0 (kq ≤ k) ∧ Aside0 (Below w.heap.size w w'))
 case atStart => exact ⟨(0), (0), (0), rs_, rs_, rs_, H', ⟨Nat.le_refl _⟩, ⟨bl0_⟩⟩
 case round =>
  clear H'
  try clear c1
  try clear p2
  obtain ⟨x6_1, x7_1, x8_1, rfl, rfl, rfl, HA, HK1, HB⟩ := hrel
  cases gk with
  | zero => exact absurd HA.out (by simp [spec_l04Size.l0])
  | succ k1 =>
   have H := HA.out
   clear HA
   simp only [spec_l04Size.l0] at H
   by_cases c4 : x8_1 < (l0.length : Int)
   ·rw [if_pos c4] at H
    have c4b0 : decide (x8_1 < (l0.length : Int)) = true := decide_eq_true c4
    clear c4
    by_cases c5 : 0 ≤ x8_1
    ·rw [if_pos c5] at H
     have c5b0 : decide (0 ≤ x8_1) = true := decide_eq_true c5
     clear c5
     obtain ⟨ji6, hji6⟩ : ∃ j_ : Int, (mx x6_1 (wrap64 ((wrap64 (((rd_T78 l0 x8_1).f0) - t243)) + 1))) = j_ := ⟨_, rfl⟩
     replace H : (spec_l04Size.l0 k1 l0 t243 t244 ji6 (mx x7_1 (wrap64 ((wrap64 (((rd_T78 l0 x8_1).f1) - t244)) + 1))) (wrap64 (x8_1 + 1))) = some (r1, r2) := by first | (rw [hji6] at H; exact H) | (simp only [hji6] at H ⊢; exact H)
     have hji6_ : (if x6_1 < (wrap64 ((wrap64 (((rd_T78 l0 x8_1).f0) - t243)) + 1)) then (wrap64 ((wrap64 (((rd_T78 l0 x8_1).f0) - t243)) + 1)) else x6_1) = ji6 := hji6
     obtain ⟨ji7, hji7⟩ : ∃ j_ : Int, (mx x7_1 (wrap64 ((wrap64 (((rd_T78 l0 x8_1).f1) - t244)) + 1))) = j_ := ⟨_, rfl⟩
     replace H : (spec_l04Size.l0 k1 l0 t243 t244 ji6 ji7 (wrap64 (x8_1 + 1))) = some (r1, r2) := by first | (rw [hji7] at H; exact H) | (simp only [hji7] at H ⊢; exact H)
     have hji7_ : (if x7_1 < (wrap64 ((wrap64 (((rd_T78 l0 x8_1).f1) - t244)) + 1)) then (wrap64 ((wrap64 (((rd_T78 l0 x8_1).f1) - t244)) + 1)) else x7_1) = ji7 := hji7
     have H' := Aside0.mk H
     clear H
     have p245 : 0 ≤ (x8_1 : Int) := od_
     have q245 : x8_1 < (l0.length : Int) := od_
     obtain ⟨ad245, e245, hx245_0, hx245_1⟩ := at_T78 HR0.out x8_1 p245 q245
     cases e245
     replace hx245_0 := (HB.out.cell (World.block_lt_of_cell? w _ hx245_0)).trans hx245_0
     replace hx245_1 := (HB.out.cell (World.block_lt_of_cell? w _ hx245_1)).trans hx245_1
     replace p245 := eq_true p245
     replace q245 := eq_true q245
     have p246 : 0 ≤ (x8_1 : Int) := od_
     have q246 : x8_1 < (l0.length : Int) := od_
     obtain ⟨ad246, e246, hx246_0, hx246_1⟩ := at_T78 HR0.out x8_1 p246 q246
     obtain rfl : ad245 = ad246 := (by injection e246)
     replace hx246_0 := (HB.out.cell (World.block_lt_of_cell? w _ hx246_0)).trans hx246_0
     replace hx246_1 := (HB.out.cell (World.block_lt_of_cell? w _ hx246_1)).trans hx246_1
     replace p246 := eq_true p246
     replace q246 := eq_true q246
     go_wp2
     go_roundg k1
     case measure => have := HK1.out; omega
     case rel => exact ⟨(ji6), (ji7), (wrap64 (x8_1 + 1)), (by first | rfl | (simp; done) | (simp only [← hji6] <;> (first | rfl | simp)) | (simp [*]; done)), (by first | rfl | (simp; done) | (simp only [← hji7] <;> (first | rfl | simp)) | (simp [*]; done)), rs_, H', ⟨by have := HK1.out; omega⟩, ⟨bl0_⟩⟩
    ·rw [if_neg c5] at H
     exact absurd H (by simp)
   ·rw [if_neg c4] at H
    have c4b0 : decide (x8_1 < (l0.length : Int)) = false := decide_eq_false c4
    clear c4
    simp only [Option.some.injEq, Prod.mk.injEq] at H
    obtain ⟨rfl, rfl⟩ := H
    go_wp2
    go_ret2
    exact ⟨er_, bl0_⟩

end Go.Proofs.YtopceddgiddhlaaDoor.PFnRolled
