/- Over the kit's printer by a driver of mine (hprint.py), with parts by hand: functions of the program as Lean functions, and that each call comes to exactly these answers. -/
import Derived.Test.YtaaodakmelihaaaGreatPFnPiecesx0
import Derived.Test.YtaaodakmelihaaaGreatPFnPiecesx2
namespace Go.Proofs.YtaaodakmelihaaaGreat.PFnPieces
open Go.RowKit Go.Proofs.YtaaodakmelihaaaGreatW.PrintWords Go.Proofs.YtaaodakmelihaaaGreatW.PrintLast Go.Proofs.YtaaodakmelihaaaGreatW.PrintMore
attribute [local go_sem] max2_int min2_int max_two min_two max_three min_three max_four min_four   -- for this text's walks alone
set_option linter.unusedVariables false
set_option linter.unusedSimpArgs false

/-! ### spec_l02Least: function 55 -/
def spec_l02Least.l0 : Nat → List (S60) → Int → Int → Int → Option (Int × Int)
 | 0, _, _, _, _ => none
 | k + 1, x0, x4, x5, x6 => if x6 < (x0.length : Int) then (if 0 ≤ x6 then (spec_l02Least.l0 k x0 (mn x4 ((rd_T60 x0 x6).f0)) (mn x5 ((rd_T60 x0 x6).f1)) (wrap64 (x6 + 1))) else (none)) else (some (x4, x5))
def spec_l02Least.f (k : Nat) (l0 : List (S60)) : Option (Int × Int) := if 0 < (l0.length : Int) then (spec_l02Least.l0 k l0 ((rd_T60 l0 0).f0) ((rd_T60 l0 0).f1) 1) else (none)
theorem spec_l02Least.mono_l : ∀ k, (∀ y0 y1 y2 y3, LeO (spec_l02Least.l0 k y0 y1 y2 y3) (spec_l02Least.l0 (k + 1) y0 y1 y2 y3))
 | 0 => fun _ _ _ _ r h => by simp [spec_l02Least.l0] at h
 | k + 1 => by
  have ih0 := spec_l02Least.mono_l k
  ·intro y0 y1 y2 y3
   unfold spec_l02Least.l0
   with_reducible (repeat' first | exact ih0 _ _ _ _ | exact LeO.refl _ | exact LeO.none _ | refine LeO.ite ?_ ?_ | refine LeO.bind ?_ (fun _ => ?_))
theorem spec_l02Least.mono : ∀ a0 k, LeO (spec_l02Least.f k a0) (spec_l02Least.f (k + 1) a0) := by
 intro a0 k
 have ih0 := spec_l02Least.mono_l k
 unfold spec_l02Least.f
 with_reducible (repeat' first | exact ih0 _ _ _ _ | exact LeO.refl _ | exact LeO.none _ | refine LeO.ite ?_ ?_ | refine LeO.bind ?_ (fun _ => ?_))
set_option maxHeartbeats 8000000 in
set_option maxRecDepth 100000 in
theorem spec_l02Least.calls (k : Nat) (A0 : Option Addr) (c0 : Nat) (l0 : List (S60)) (r1 : Int) (r2 : Int) (w : World) (hr0 : Kd.C k60 w A0 l0.length l0) (hc0 : l0.length ≤ c0) (h : spec_l02Least.f k l0 = some (r1, r2)) :
  Calls Tryz.prog 55 #[.slice A0 l0.length c0] w fun e w' => e = .returned (.tuple #[.int .i64 r1, .int .i64 r2]) ∧ Below w.heap.size w w' := by
 have HR0 := Aside0.mk hr0
 have HC0 := Aside0.mk hc0
 clear hr0 hc0
 have HB := a0_ (Below.refl w.heap.size w)
 have H := h
 clear h
 unfold spec_l02Least.f at H
 by_cases c2 : 0 < (l0.length : Int)
 ·rw [if_pos c2] at H
  have c2b0 : decide (0 < (l0.length : Int)) = true := decide_eq_true c2
  have c2b1 : decide (0 < l0.length) = true := decide_eq_true (by omega)
  clear c2
  have H' := Aside0.mk H
  clear H
  have p113 : 0 ≤ (0 : Int) := (by omega)
  have q113 : 0 < (l0.length : Int) := od_
  obtain ⟨ad113, e113, hx113_0, hx113_1⟩ := at_T60 HR0.out 0 p113 q113
  cases e113
  have qi113 : (0 < l0.length) = True := eq_true (by omega)
  (try rw [show ((0 : Int)).toNat = 0 from rfl] at hx113_0)
  (try rw [show 0 * 2 = 0 from rfl] at hx113_0)
  (try rw [Addr.add_zero'] at hx113_0)
  (try rw [show ((0 : Int)).toNat = 0 from rfl] at hx113_1)
  (try rw [show 0 * 2 = 0 from rfl] at hx113_1)
  (try rw [Addr.add_zero'] at hx113_1)
  replace p113 := eq_true p113
  replace q113 := eq_true q113
  have p114 : 0 ≤ (0 : Int) := (by omega)
  have q114 : 0 < (l0.length : Int) := od_
  obtain ⟨ad114, e114, hx114_0, hx114_1⟩ := at_T60 HR0.out 0 p114 q114
  obtain rfl : ad113 = ad114 := (by injection e114)
  have qi114 : (0 < l0.length) = True := eq_true (by omega)
  (try rw [show ((0 : Int)).toNat = 0 from rfl] at hx114_0)
  (try rw [show 0 * 2 = 0 from rfl] at hx114_0)
  (try rw [Addr.add_zero'] at hx114_0)
  (try rw [show ((0 : Int)).toNat = 0 from rfl] at hx114_1)
  (try rw [show 0 * 2 = 0 from rfl] at hx114_1)
  (try rw [Addr.add_zero'] at hx114_1)
  replace p114 := eq_true p114
  replace q114 := eq_true q114
  go_enter Tryz.func55, Tryz.ntmps55
  go_wp2
  repeat (go_quiet (fail); try go_wp2)
  go_loopg [4, 5, 6] k (fun kq v4 v5 v6 w' => ∃ (x4_1 : Int) (x5_1 : Int) (x6_1 : Int), v4 = .int .i64 x4_1 ∧ v5 = .int .i64 x5_1 ∧ v6 = .int .i64 x6_1 ∧ Aside0 (spec_l02Least.l0 kq l0 x4_1 x5_1 x6_1 = some (r1, r2)) ∧ Aside0 (kq ≤ k) ∧ Aside0 (Below w.heap.size w w'))
  case atStart => exact ⟨((rd_T60 l0 0).f0), ((rd_T60 l0 0).f1), (1), rs_, rs_, rs_, H', ⟨Nat.le_refl _⟩, ⟨bl0_⟩⟩
  case round =>
   clear H'
   try clear p1
   try clear q1
   try clear hx1
   try clear qi1
   try clear c2
   try clear c2b0
   try clear c2b1
   try clear p2
   try clear hx113_0
   try clear hx113_1
   try clear hx114_0
   try clear hx114_1
   try clear p113
   try clear p114
   try clear q113
   try clear q114
   obtain ⟨x4_1, x5_1, x6_1, rfl, rfl, rfl, HA, HK1, HB⟩ := hrel
   cases gk with
   | zero => exact absurd HA.out (by simp [spec_l02Least.l0])
   | succ k1 =>
    have H := HA.out
    clear HA
    simp only [spec_l02Least.l0] at H
    by_cases c3 : x6_1 < (l0.length : Int)
    ·rw [if_pos c3] at H
     have c3b0 : decide (x6_1 < (l0.length : Int)) = true := decide_eq_true c3
     clear c3
     by_cases c4 : 0 ≤ x6_1
     ·rw [if_pos c4] at H
      have c4b0 : decide (0 ≤ x6_1) = true := decide_eq_true c4
      clear c4
      obtain ⟨ji5, hji5⟩ : ∃ j_ : Int, (mn x4_1 ((rd_T60 l0 x6_1).f0)) = j_ := ⟨_, rfl⟩
      replace H : (spec_l02Least.l0 k1 l0 ji5 (mn x5_1 ((rd_T60 l0 x6_1).f1)) (wrap64 (x6_1 + 1))) = some (r1, r2) := by first | (rw [hji5] at H; exact H) | (simp only [hji5] at H ⊢; exact H)
      have hji5_ : (if ((rd_T60 l0 x6_1).f0) < x4_1 then ((rd_T60 l0 x6_1).f0) else x4_1) = ji5 := hji5
      obtain ⟨ji6, hji6⟩ : ∃ j_ : Int, (mn x5_1 ((rd_T60 l0 x6_1).f1)) = j_ := ⟨_, rfl⟩
      replace H : (spec_l02Least.l0 k1 l0 ji5 ji6 (wrap64 (x6_1 + 1))) = some (r1, r2) := by first | (rw [hji6] at H; exact H) | (simp only [hji6] at H ⊢; exact H)
      have hji6_ : (if ((rd_T60 l0 x6_1).f1) < x5_1 then ((rd_T60 l0 x6_1).f1) else x5_1) = ji6 := hji6
      have H' := Aside0.mk H
      clear H
      have p115 : 0 ≤ (x6_1 : Int) := od_
      have q115 : x6_1 < (l0.length : Int) := od_
      obtain ⟨ad115, e115, hx115_0, hx115_1⟩ := at_T60 HR0.out x6_1 p115 q115
      obtain rfl : ad113 = ad115 := (by injection e115)
      replace hx115_0 := (HB.out.cell (World.block_lt_of_cell? w _ hx115_0)).trans hx115_0
      replace hx115_1 := (HB.out.cell (World.block_lt_of_cell? w _ hx115_1)).trans hx115_1
      replace p115 := eq_true p115
      replace q115 := eq_true q115
      have p116 : 0 ≤ (x6_1 : Int) := od_
      have q116 : x6_1 < (l0.length : Int) := od_
      obtain ⟨ad116, e116, hx116_0, hx116_1⟩ := at_T60 HR0.out x6_1 p116 q116
      obtain rfl : ad113 = ad116 := (by injection e116)
      replace hx116_0 := (HB.out.cell (World.block_lt_of_cell? w _ hx116_0)).trans hx116_0
      replace hx116_1 := (HB.out.cell (World.block_lt_of_cell? w _ hx116_1)).trans hx116_1
      replace p116 := eq_true p116
      replace q116 := eq_true q116
      go_wp2
      repeat (go_quiet (fail); try go_wp2)
      go_roundg k1
      case measure => have := HK1.out; omega
      case rel => exact ⟨(ji5), (ji6), (wrap64 (x6_1 + 1)), (by first | rfl | (simp; done) | (simp only [← hji5] <;> (first | rfl | simp)) | (simp [*]; done)), (by first | rfl | (simp; done) | (simp only [← hji6] <;> (first | rfl | simp)) | (simp [*]; done)), rs_, H', ⟨by have := HK1.out; omega⟩, ⟨bl0_⟩⟩
     ·rw [if_neg c4] at H
      exact absurd H (by simp)
    ·rw [if_neg c3] at H
     have c3b0 : decide (x6_1 < (l0.length : Int)) = false := decide_eq_false c3
     clear c3
     simp only [Option.some.injEq, Prod.mk.injEq] at H
     obtain ⟨rfl, rfl⟩ := H
     go_wp2
     repeat (go_quiet (fail); try go_wp2)
     go_ret2
     exact ⟨er_, bl0_⟩
 ·rw [if_neg c2] at H
  exact absurd H (by simp)

/-! ### spec_l02Normal: function 35 -/
def spec_l02Normal.f (k : Nat) (l0 : List (S60)) : Option ((List (S60))) := (spec_l02Least.f k l0).bind fun bt117 => ((spec_l02Move.f k l0 (wrap64 (-bt117.1)) (wrap64 (-bt117.2))).bind fun t119 => (some t119))
theorem spec_l02Normal.mono : ∀ a0 k, LeO (spec_l02Normal.f k a0) (spec_l02Normal.f (k + 1) a0) := by
 intro a0 k
 unfold spec_l02Normal.f
 with_reducible (repeat' first | exact spec_l02Least.mono _ _ | exact spec_l02Move.mono _ _ _ _ | exact LeO.refl _ | exact LeO.none _ | refine LeO.ite ?_ ?_ | refine LeO.bind ?_ (fun _ => ?_))
set_option maxHeartbeats 8000000 in
set_option maxRecDepth 100000 in
theorem spec_l02Normal.calls (k : Nat) (A0 : Option Addr) (c0 : Nat) (l0 : List (S60)) (r : List (S60)) (w : World) (hr0 : Kd.C k60 w A0 l0.length l0) (hc0 : l0.length ≤ c0) (h : spec_l02Normal.f k l0 = some r) :
  Calls Tryz.prog 35 #[.slice A0 l0.length c0] w fun e w' => ∃ v0_ : Value, e = .returned (v0_) ∧ Kd.R k60 60 w' w.heap.size (fun _ => True) v0_ r ∧ Below w.heap.size w w' := by
 have HR0 := Aside0.mk hr0
 have HC0 := Aside0.mk hc0
 clear hr0 hc0
 have HB := a0_ (Below.refl w.heap.size w)
 have H := h
 clear h
 unfold spec_l02Normal.f at H
 obtain ⟨⟨t117, t118⟩, A2, H⟩ := bs_ H
 dsimp only at H
 obtain ⟨t119, A3, H⟩ := bs_ H
 obtain rfl := Option.some.inj H
 go_enter Tryz.func35, Tryz.ntmps35
 go_wp2_with (first | ((with_reducible refine gate_callee (f := 55) rfl ?_); refine goesL_ (some 7) rfl rfl Tryz.func55 kr_ rfl #[.slice A0 l0.length c0] rfl ta_ ?_; (with_reducible refine (spec_l02Least.calls k _ _ l0 t117 t118 _ ?side1 ?side2 A2.out).mono ?_); (case side1 => exact ca_ HR0.out); (case side2 => exact HC0.out); rintro e w4 ⟨rfl, hb⟩; refine ⟨_, rfl, ?_⟩; replace HB := a0_ (below_step (bl0_) hb); (try clear hb); (try clear hb2); (try clear hk); (try clear hi)) | ((with_reducible refine gate_callee (f := 52) rfl ?_); refine goesL_ (some 15) rfl rfl Tryz.func52 kr_ rfl #[.slice A0 l0.length c0, .int .i64 (wrap64 (-t117)), .int .i64 (wrap64 (-t118))] rfl ta_ ?_; (with_reducible refine (spec_l02Move.calls k _ _ l0 (wrap64 (-t117)) (wrap64 (-t118)) t119 _ ?side1 ?side2 A3.out).mono ?_); (case side1 => exact ca_ (Kd.C_below HR0.out HB.out)); (case side2 => exact HC0.out); rintro e w5 ⟨v120, rfl, ho0, hb⟩; refine ⟨_, rfl, ?_⟩; have HO121 := a0_ (Kd.R_lower ho0 (below_size (bl0_))); replace HB := a0_ (below_step (bl0_) hb); (try clear hb); (try clear hb2); (try clear hk); (try clear hi); (try clear ho0)))
 go_ret
 exact ⟨_, er_, ra_ HO121.out, bl0_⟩

/-! ### spec_l02Less: function 65 -/
def spec_l02Less.f (a0_0 : Int) (a0_1 : Int) (a1_0 : Int) (a1_1 : Int) : Option (Bool) := if a0_1 < a1_1 then (some true) else (if a0_1 = a1_1 then (some (decide (a0_0 < a1_0))) else (some false))
set_option maxHeartbeats 8000000 in
set_option maxRecDepth 100000 in
theorem spec_l02Less.calls (a0_0 : Int) (a0_1 : Int) (a1_0 : Int) (a1_1 : Int) (r : Bool) (w : World) (h : spec_l02Less.f a0_0 a0_1 a1_0 a1_1 = some r) :
  Calls Tryz.prog 65 #[.agg #[.int .i64 a0_0, .int .i64 a0_1], .agg #[.int .i64 a1_0, .int .i64 a1_1]] w fun e w' => e = .returned (.bool r) ∧ Below w.heap.size w w' := by
 have hu60 := Tryz.underlying60
 have HB := a0_ (Below.refl w.heap.size w)
 have H := h
 clear h
 unfold spec_l02Less.f at H
 by_cases c3 : a0_1 < a1_1
 ·rw [if_pos c3] at H
  have c3b0 : decide (a0_1 < a1_1) = true := decide_eq_true c3
  clear c3
  obtain rfl := Option.some.inj H
  go_enter Tryz.func65, Tryz.ntmps65
  go_wp2_with (first | ((with_reducible refine gate_dst (N := 2) rfl ?_); refine bx_ (N := 2) (cs := #[.int .i64 a0_0, .int .i64 a0_1]) (t := 60) ?_; intro gb122 hg w4 hbox hb; have BK122 := a0_ (hbox); have GW122 := a0_ ((sz_ hg (bl0_) : w.heap.size ≤ gb122)); have GE122 := a0_ ((sz_ hg (bl0_) : w.heap.size ≤ gb122)); replace HB := a0_ (below_step (bl0_) hb); clear hb hbox hg) | ((with_reducible refine gate_dst (N := 3) rfl ?_); refine bx_ (N := 3) (cs := #[.int .i64 a1_0, .int .i64 a1_1]) (t := 60) ?_; intro gb123 hg w5 hbox hb; have BK123 := a0_ (hbox); have GW123 := a0_ ((sz_ hg (bl1_ GE122.out) : w.heap.size ≤ gb123)); have GE123 := a0_ ((sz_ hg (bl1_ GE122.out) : w.heap.size ≤ gb123)); replace HB := a0_ (below_step (bl1_ GE122.out) hb); have NB122_123 := a0_ ((nl_ hg BK122.out : gb122 ≠ gb123)); have NB123_122 := a0_ ((ng_ hg BK122.out : gb123 ≠ gb122)); replace BK122 := a0_ (bb_ BK122.out hb); clear hb hbox hg; have hnb6 := NB122_123.out; have hnc6 := NB123_122.out; obtain ⟨hcz7_0, hcz7_1, hfz7_0, hfz7_1⟩ := bc2_ BK122.out; obtain ⟨hcz8_0, hcz8_1, hfz8_0, hfz8_1⟩ := bc2_ BK123.out))
  go_ret
  exact ⟨er_, bl2_ GE122.out GE123.out⟩
 ·rw [if_neg c3] at H
  have c3b0 : decide (a0_1 < a1_1) = false := decide_eq_false c3
  clear c3
  by_cases c9 : a0_1 = a1_1
  ·rw [if_pos c9] at H
   have c9b0 : (a0_1 == a1_1) = true := beq_iff_eq.mpr c9
   have c9b1 : (a0_1 != a1_1) = false := bne_eq_false_iff_eq.mpr c9
   clear c9
   obtain rfl := Option.some.inj H
   go_enter Tryz.func65, Tryz.ntmps65
   go_wp2_with (first | ((with_reducible refine gate_dst (N := 2) rfl ?_); refine bx_ (N := 2) (cs := #[.int .i64 a0_0, .int .i64 a0_1]) (t := 60) ?_; intro gb122 hg w10 hbox hb; have BK122 := a0_ (hbox); have GW122 := a0_ ((sz_ hg (bl0_) : w.heap.size ≤ gb122)); have GE122 := a0_ ((sz_ hg (bl0_) : w.heap.size ≤ gb122)); replace HB := a0_ (below_step (bl0_) hb); clear hb hbox hg) | ((with_reducible refine gate_dst (N := 3) rfl ?_); refine bx_ (N := 3) (cs := #[.int .i64 a1_0, .int .i64 a1_1]) (t := 60) ?_; intro gb123 hg w11 hbox hb; have BK123 := a0_ (hbox); have GW123 := a0_ ((sz_ hg (bl1_ GE122.out) : w.heap.size ≤ gb123)); have GE123 := a0_ ((sz_ hg (bl1_ GE122.out) : w.heap.size ≤ gb123)); replace HB := a0_ (below_step (bl1_ GE122.out) hb); have NB122_123 := a0_ ((nl_ hg BK122.out : gb122 ≠ gb123)); have NB123_122 := a0_ ((ng_ hg BK122.out : gb123 ≠ gb122)); replace BK122 := a0_ (bb_ BK122.out hb); clear hb hbox hg; have hnb12 := NB122_123.out; have hnc12 := NB123_122.out; obtain ⟨hcz13_0, hcz13_1, hfz13_0, hfz13_1⟩ := bc2_ BK122.out; obtain ⟨hcz14_0, hcz14_1, hfz14_0, hfz14_1⟩ := bc2_ BK123.out))
   go_ret
   exact ⟨er_, bl2_ GE122.out GE123.out⟩
  ·rw [if_neg c9] at H
   have c9b0 : (a0_1 == a1_1) = false := beq_eq_false_iff_ne.mpr c9
   have c9b1 : (a0_1 != a1_1) = true := bne_iff_ne.mpr c9
   obtain rfl := Option.some.inj H
   go_enter Tryz.func65, Tryz.ntmps65
   go_wp2_with (first | ((with_reducible refine gate_dst (N := 2) rfl ?_); refine bx_ (N := 2) (cs := #[.int .i64 a0_0, .int .i64 a0_1]) (t := 60) ?_; intro gb122 hg w15 hbox hb; have BK122 := a0_ (hbox); have GW122 := a0_ ((sz_ hg (bl0_) : w.heap.size ≤ gb122)); have GE122 := a0_ ((sz_ hg (bl0_) : w.heap.size ≤ gb122)); replace HB := a0_ (below_step (bl0_) hb); clear hb hbox hg) | ((with_reducible refine gate_dst (N := 3) rfl ?_); refine bx_ (N := 3) (cs := #[.int .i64 a1_0, .int .i64 a1_1]) (t := 60) ?_; intro gb123 hg w16 hbox hb; have BK123 := a0_ (hbox); have GW123 := a0_ ((sz_ hg (bl1_ GE122.out) : w.heap.size ≤ gb123)); have GE123 := a0_ ((sz_ hg (bl1_ GE122.out) : w.heap.size ≤ gb123)); replace HB := a0_ (below_step (bl1_ GE122.out) hb); have NB122_123 := a0_ ((nl_ hg BK122.out : gb122 ≠ gb123)); have NB123_122 := a0_ ((ng_ hg BK122.out : gb123 ≠ gb122)); replace BK122 := a0_ (bb_ BK122.out hb); clear hb hbox hg; have hnb17 := NB122_123.out; have hnc17 := NB123_122.out; obtain ⟨hcz18_0, hcz18_1, hfz18_0, hfz18_1⟩ := bc2_ BK122.out; obtain ⟨hcz19_0, hcz19_1, hfz19_0, hfz19_1⟩ := bc2_ BK123.out))
   go_ret
   exact ⟨er_, bl2_ GE122.out GE123.out⟩

/-! ### spec_l02Insert: function 51 -/
def spec_l02Insert.l0 : Nat → List (S60) → List (S60) → Bool → Int → Int → Int → Option ((List (S60)))
 | 0, _, _, _, _, _, _ => none
 | k + 1, x0, x5, x6, x7, x125000, x125001 => if x7 < (x0.length : Int) then (if x6 = true then (if 0 ≤ x7 then (if x5.length < 8796093022208 then (spec_l02Insert.l0 k x0 (x5 ++ [(⟨(rd_T60 x0 x7).f0, (rd_T60 x0 x7).f1⟩ : S60)]) x6 (wrap64 (x7 + 1)) x125000 x125001) else (none)) else (none)) else (if 0 ≤ x7 then ((spec_l02Less.f x125000 x125001 ((rd_T60 x0 x7).f0) ((rd_T60 x0 x7).f1)).bind fun t133 => (if t133 = true then (if x5.length < 8796093022208 then ((some (x5 ++ [(⟨x125000, x125001⟩ : S60)] : List (S60))).bind fun y134 => (if y134.length < 8796093022208 then (spec_l02Insert.l0 k x0 (y134 ++ [(⟨(rd_T60 x0 x7).f0, (rd_T60 x0 x7).f1⟩ : S60)]) true (wrap64 (x7 + 1)) x125000 x125001) else (none))) else (none)) else (if x5.length < 8796093022208 then (spec_l02Insert.l0 k x0 (x5 ++ [(⟨(rd_T60 x0 x7).f0, (rd_T60 x0 x7).f1⟩ : S60)]) x6 (wrap64 (x7 + 1)) x125000 x125001) else (none)))) else (none))) else (if x6 = true then (some x5) else (if x5.length < 8796093022208 then (some (x5 ++ [(⟨x125000, x125001⟩ : S60)])) else (none)))
def spec_l02Insert.f (k : Nat) (l0 : List (S60)) (a1_0 : Int) (a1_1 : Int) : Option ((List (S60))) := spec_l02Insert.l0 k l0 (([] : List (S60))) false 0 a1_0 a1_1
theorem spec_l02Insert.mono_l : ∀ k, (∀ y0 y1 y2 y3 y4 y5, LeO (spec_l02Insert.l0 k y0 y1 y2 y3 y4 y5) (spec_l02Insert.l0 (k + 1) y0 y1 y2 y3 y4 y5))
 | 0 => fun _ _ _ _ _ _ r h => by simp [spec_l02Insert.l0] at h
 | k + 1 => by
  have ih0 := spec_l02Insert.mono_l k
  ·intro y0 y1 y2 y3 y4 y5
   unfold spec_l02Insert.l0
   with_reducible (repeat' first | exact ih0 _ _ _ _ _ _ | exact LeO.refl _ | exact LeO.none _ | refine LeO.ite ?_ ?_ | refine LeO.bind ?_ (fun _ => ?_))
theorem spec_l02Insert.mono : ∀ a0 a1 a2 k, LeO (spec_l02Insert.f k a0 a1 a2) (spec_l02Insert.f (k + 1) a0 a1 a2) := by
 intro a0 a1 a2 k
 have ih0 := spec_l02Insert.mono_l k
 unfold spec_l02Insert.f
 with_reducible (repeat' first | exact ih0 _ _ _ _ _ _ | exact LeO.refl _ | exact LeO.none _ | refine LeO.ite ?_ ?_ | refine LeO.bind ?_ (fun _ => ?_))
def spec_l02Insert.T6 : Bool × List (List Nat × List Nat) := (true, [([], []), ([0], [0]), ([1], [1]), ([2], [2]), ([2], [2]), ([2], [2]), ([4, 5, 2], [2, 4, 5]), ([6, 2], [2, 6]), ([3, 7, 2, 2], [2, 3, 7]), ([2, 8], [2, 8])])
def spec_l02Insert.B6 : List Nat := [0, 1, 3, 7, 7, 7, 55, 119, 255, 511]
theorem spec_l02Insert.tab6 : rtab .any (opsOf Tryz.f51 6) = spec_l02Insert.T6 := by kernel_rfl
theorem spec_l02Insert.bits6 : waitsOk spec_l02Insert.T6.2 spec_l02Insert.B6 = true := by kernel_rfl
set_option maxHeartbeats 8000000 in
set_option maxRecDepth 100000 in
theorem spec_l02Insert.calls (k : Nat) (A0 : Option Addr) (c0 : Nat) (l0 : List (S60)) (a1_0 : Int) (a1_1 : Int) (r : List (S60)) (w : World) (hr0 : Kd.C k60 w A0 l0.length l0) (hc0 : l0.length ≤ c0) (h : spec_l02Insert.f k l0 a1_0 a1_1 = some r) :
  Calls Tryz.prog 51 #[.slice A0 l0.length c0, .agg #[.int .i64 a1_0, .int .i64 a1_1]] w fun e w' => ∃ v0_ : Value, e = .returned (v0_) ∧ Kd.R k60 60 w' w.heap.size (fun _ => True) v0_ r ∧ Below w.heap.size w w' := by
 have hu60 := Tryz.underlying60
 have HR0 := Aside0.mk hr0
 have HC0 := Aside0.mk hc0
 clear hr0 hc0
 have HB := a0_ (Below.refl w.heap.size w)
 have H : (spec_l02Insert.l0 k l0 (([] : List (S60))) false 0 a1_0 a1_1) = some r := h
 clear h
 obtain ⟨y125, hy125⟩ : ∃ y_ : List (S60), y_ = (([] : List (S60))) := ⟨_, rfl⟩
 replace H : (spec_l02Insert.l0 k l0 y125 false 0 a1_0 a1_1) = some r := hh_ hy125 H
 have Ny125 := Aside0.mk hy125
 clear hy125
 have H' := Aside0.mk H
 clear H
 go_enter Tryz.func51, Tryz.ntmps51
 go_wp2_with (first | ((with_reducible refine gate_dst (N := 3) rfl ?_); refine bx_ (N := 3) (cs := #[.int .i64 a1_0, .int .i64 a1_1]) (t := 60) ?_; intro gb124 hg w3 hbox hb; have BK124 := a0_ (hbox); have GW124 := a0_ ((sz_ hg (bl0_) : w.heap.size ≤ gb124)); have GE124 := a0_ ((sz_ hg (bl0_) : w.heap.size ≤ gb124)); replace HB := a0_ (below_step (bl0_) hb); clear hb hbox hg) | ((with_reducible refine gate_dst (N := 8) rfl ?_); refine Kd.R_lit k60 _ 60 ?hg (N := 8) ?hd (xs := ([] : List (S60))) (inner := []) (ok := fun _ => True) (okp := fun _ => True) ?hr ?hp (fun _ hk => hk) trivial (Below.refl _ _) (Nat.le_refl _) (by simp) ?_; (case hd => rfl); (case hg => rfl); (case hr => first | (go_simp; done) | (go_simp; rfl)); (case hp => exact (Reps.none _ _)); intro v126 w4 ho5 hb hg_ hnew_; clear hg_ hnew_; (first | rw [← Ny125.out] at ho5 | (simp only [Int.reduceToNat] at ho5; rw [← Ny125.out] at ho5)); have HO127 := a0_ (Kd.R_lower (Kd.R_newB ho5 (g := gb124) (o := .cells #[.int .i64 a1_0, .int .i64 a1_1] 60 (0, 0)) (bk_ BK124.out)) (below_size (bl1_ GE124.out))); replace BK124 := a0_ (bb_ BK124.out hb); replace HB := a0_ (below_step (bl1_ GE124.out) hb); clear hb ho5))
 go_loopg [5, 6, 7] k (fun kq v5 v6 v7 w' => ∃ (x5_1 : List (S60)) (x6_1 : Bool) (x7_1 : Int), v6 = .bool x6_1 ∧ v7 = .int .i64 x7_1 ∧ Aside0 (spec_l02Insert.l0 kq l0 x5_1 x6_1 x7_1 a1_0 a1_1 = some r) ∧ Aside0 (kq ≤ k) ∧ Aside0 (Kd.R k60 60 w' w.heap.size (fun k_ => k_ ≠ gb124) v5 x5_1) ∧ Aside0 (w'.heap[gb124]? = some (.cells #[.int .i64 a1_0, .int .i64 a1_1] 60 (0, 0))) ∧ Aside0 (Below w.heap.size w w'))
 case atStart => exact ⟨(y125), (false), (0), rs_, rs_, H', ⟨Nat.le_refl _⟩, ⟨by (with_reducible repeat (first | apply Kd.R_alloc | apply Kd.R_drewN | apply Kd.R_drew)); exact Kd.R_mono HO127.out (fun _ hk => hk.2)⟩, ⟨bk_ BK124.out⟩, ⟨bl1_ GE124.out⟩⟩
 case round =>
  clear H'
  try clear p2
  try clear c5
  obtain ⟨x5_1, x6_1, x7_1, rfl, rfl, HA, HK1, HO_5, BK124, HB⟩ := hrel
  cases gk with
  | zero => exact absurd HA.out (by simp [spec_l02Insert.l0])
  | succ k1 =>
   have H := HA.out
   clear HA
   simp only [spec_l02Insert.l0] at H
   by_cases c6 : x7_1 < (l0.length : Int)
   ·rw [if_pos c6] at H
    have c6b0 : decide (x7_1 < (l0.length : Int)) = true := decide_eq_true c6
    clear c6
    by_cases c7 : x6_1 = true
    ·subst c7
     rw [if_pos rfl] at H
     by_cases c8 : 0 ≤ x7_1
     ·rw [if_pos c8] at H
      have c8b0 : decide (0 ≤ x7_1) = true := decide_eq_true c8
      clear c8
      by_cases c9 : x5_1.length < 8796093022208
      ·rw [if_pos c9] at H
       have LMc9 := Aside0.mk c9
       clear c9
       obtain ⟨y129, hy129⟩ : ∃ y_ : List (S60), y_ = (x5_1 ++ [(⟨(rd_T60 l0 x7_1).f0, (rd_T60 l0 x7_1).f1⟩ : S60)]) := ⟨_, rfl⟩
       replace H : (spec_l02Insert.l0 k1 l0 y129 true (wrap64 (x7_1 + 1)) a1_0 a1_1) = some r := hh_ hy129 H
       have Ny129 := Aside0.mk hy129
       clear hy129
       have H' := Aside0.mk H
       clear H
       try go_wp2
       replace HO_5 := a0_ (Kd.R_drew HO_5.out)
       replace BK124 := a0_ (blk_drew BK124.out)
       replace HB := a0_ (below_drew1 HB.out)
       refine start_ (n := 10) (S := fun w' => True) (ds := []) (mk_ 0 10) kr_ rfl rfl trivial (fun hHeld => ?_); refine with_tabW spec_l02Insert.tab6 spec_l02Insert.bits6 (fun HT_ HW_ => ?_)
       generalize wr.drew = w10 at HO_5 BK124 HB hHeld ⊢
       refine pu_ 0 (some 15) (mk_ 1 9) HT_ ?_
       refine pu_ 1 (some 16) (mk_ 2 8) HT_ ?_
       refine pu_ 2 (some 17) (mk_ 3 7) HT_ ?_
       refine pn_ 3 (some 18) (mk_ 4 6) HT_ ?_
       refine pn_ 4 (some 19) (mk_ 5 5) HT_ ?_
       refine pn_ 5 (some 20) (mk_ 6 4) HT_ ?_
       refine pn_ 6 (some 21) (mk_ 7 3) HT_ ?_
       refine pn_ 7 (some 22) (mk_ 8 2) HT_ ?_
       refine pn_ 8 (some 23) (mk_ 9 1) HT_ ?_
       refine pu_ 9 (some 24) (mk_ 10 0) HT_ ?_
       refine done_ (done_of HT_.out kr_) ?_
       have p128 : 0 ≤ (x7_1 : Int) := od_
       have q128 : x7_1 < (l0.length : Int) := od_
       obtain ⟨ad128, e128, hx128_0, hx128_1⟩ := at_T60 HR0.out x7_1 p128 q128
       cases e128
       replace hx128_0 := (HB.out.cell (World.block_lt_of_cell? w _ hx128_0)).trans hx128_0
       replace hx128_1 := (HB.out.cell (World.block_lt_of_cell? w _ hx128_1)).trans hx128_1
       replace p128 := eq_true p128
       replace q128 := eq_true q128
       try go_wp2_with (first | ((with_reducible refine gate_builtin (b := .append) (xs := #[.tmp 29, .tmp 34]) rfl ?_); at_builtin; refine Kd.R_append k60 (w0 := w) w.heap.size rfl (.tmp 29) (.tmp 34) 24 60 (.agg #[(.int .i64 0), (.int .i64 0)]) 16 rfl Tryz.underlying24 info60 rfl (by decide) (by omega) u5 x5_1 (⟨(rd_T60 l0 x7_1).f0, (rd_T60 l0 x7_1).f1⟩ : S60) [.int .i64 ((rd_T60 l0 x7_1).f0), .int .i64 ((rd_T60 l0 x7_1).f1)] (fun k_ => k_ ≠ gb124) (fun _ => False) rfl rfl ?aP (fun _ hk => hk.elim) ?aF ?aO ?aB ?aS ?aL ?_; (case aP => exact k60_mkM _ _ _ (⟨(rd_T60 l0 x7_1).f0, (rd_T60 l0 x7_1).f1⟩ : S60)); (case aB => exact (bl1_ GE124.out)); (case aF => exact (fun k_ hk => Kd.freshB (g := gb124) (o := .cells #[.int .i64 a1_0, .int .i64 a1_1] 60 (0, 0)) (bk_ BK124.out) k_ hk)); (case aO => exact (ra_ HO_5.out)); (case aS => exact (below_size (bl1_ GE124.out))); (case aL => have := LMc9.out; omega); intro v130 w11 ho hb hg hat; rw [← Ny129.out] at ho; replace BK124 := a0_ (blk_grown (g := gb124) (o := .cells #[.int .i64 a1_0, .int .i64 a1_1] 60 (0, 0)) (bk_ BK124.out) hg (Kd.R_away HO_5.out (fun _ hk => hk))); replace HB := a0_ (hb); have HO131 := a0_ (ho); clear HO_5; clear ho hb hg hat))
       go_roundg k1
       case measure => have := HK1.out; omega
       case rel => exact ⟨(y129), (true), (wrap64 (x7_1 + 1)), rs_, rs_, H', ⟨by have := HK1.out; omega⟩, ⟨ra_ HO131.out⟩, ⟨bk_ BK124.out⟩, ⟨bl1_ GE124.out⟩⟩
      ·rw [if_neg c9] at H
       exact absurd H (by simp)
     ·rw [if_neg c8] at H
      exact absurd H (by simp)
    ·replace c7 := Bool.eq_false_iff.mpr c7
     subst c7
     rw [if_neg (show ¬ (false = true) by decide)] at H
     by_cases c12 : 0 ≤ x7_1
     ·rw [if_pos c12] at H
      have c12b0 : decide (0 ≤ x7_1) = true := decide_eq_true c12
      clear c12
      obtain ⟨t133, A13, H⟩ := bs_ H
      by_cases c14 : t133 = true
      ·subst c14
       rw [if_pos rfl] at H
       by_cases c15 : x5_1.length < 8796093022208
       ·rw [if_pos c15] at H
        have LMc15 := Aside0.mk c15
        clear c15
        obtain ⟨y134, hy134⟩ : ∃ y_ : List (S60), y_ = (x5_1 ++ [(⟨a1_0, a1_1⟩ : S60)]) := ⟨_, rfl⟩
        replace H : (if y134.length < 8796093022208 then (spec_l02Insert.l0 k1 l0 (y134 ++ [(⟨(rd_T60 l0 x7_1).f0, (rd_T60 l0 x7_1).f1⟩ : S60)]) true (wrap64 (x7_1 + 1)) a1_0 a1_1) else (none)) = some r := hh_ hy134 H
        have Ny134 := Aside0.mk hy134
        clear hy134
        by_cases c16 : y134.length < 8796093022208
        ·rw [if_pos c16] at H
         have LMc16 := Aside0.mk c16
         clear c16
         obtain ⟨y138, hy138⟩ : ∃ y_ : List (S60), y_ = (y134 ++ [(⟨(rd_T60 l0 x7_1).f0, (rd_T60 l0 x7_1).f1⟩ : S60)]) := ⟨_, rfl⟩
         replace H : (spec_l02Insert.l0 k1 l0 y138 true (wrap64 (x7_1 + 1)) a1_0 a1_1) = some r := hh_ hy138 H
         have Ny138 := Aside0.mk hy138
         clear hy138
         have H' := Aside0.mk H
         clear H
         try go_wp2
         replace HO_5 := a0_ (Kd.R_drew HO_5.out)
         replace BK124 := a0_ (blk_drew BK124.out)
         replace HB := a0_ (below_drew1 HB.out)
         have p132 : 0 ≤ (x7_1 : Int) := od_
         have q132 : x7_1 < (l0.length : Int) := od_
         obtain ⟨ad132, e132, hx132_0, hx132_1⟩ := at_T60 HR0.out x7_1 p132 q132
         have hw132_1 := hx132_1
         have hw132_0 := hx132_0
         cases e132
         replace hx132_0 := (HB.out.cell (World.block_lt_of_cell? w _ hx132_0)).trans hx132_0
         replace hx132_1 := (HB.out.cell (World.block_lt_of_cell? w _ hx132_1)).trans hx132_1
         replace p132 := eq_true p132
         replace q132 := eq_true q132
         refine start_ (n := 10) (S := fun w' => w'.cell? ⟨gb124, 0, none⟩ = some (.int .i64 a1_0) ∧ w'.cell? ⟨gb124, 1, none⟩ = some (.int .i64 a1_1) ∧ w'.cell? (ad132.add ((x7_1).toNat * 2)) = some (.int .i64 ((rd_T60 l0 x7_1).f0)) ∧ w'.cell? ⟨(ad132.add ((x7_1).toNat * 2)).block, (ad132.add ((x7_1).toNat * 2)).off + 1, none⟩ = some (.int .i64 ((rd_T60 l0 x7_1).f1))) (ds := []) (mk_ 0 10) kr_ rfl rfl ⟨(blk_cell BK124.out 0).trans rfl, (blk_cell BK124.out 1).trans rfl, ((HB.out.cell (World.block_lt_of_cell? w _ hw132_0)).trans hw132_0), ((HB.out.cell (World.block_lt_of_cell? w _ hw132_1)).trans hw132_1)⟩ (fun hHeld => ?_); refine with_tabW spec_l02Insert.tab6 spec_l02Insert.bits6 (fun HT_ HW_ => ?_)
         generalize wr.drew = w17 at HO_5 BK124 HB hx132_0 hx132_1 hHeld ⊢
         refine pu_ 0 (some 15) (mk_ 1 9) HT_ ?_
         refine pu_ 1 (some 16) (mk_ 2 8) HT_ ?_
         refine pu_ 2 (some 17) (mk_ 3 7) HT_ ?_
         refine pu_ 4 (some 19) #[true, true, true, false, true, false, false, false, false, false] HT_ ?_
         refine pu_ 5 (some 20) #[true, true, true, false, true, true, false, false, false, false] HT_ ?_
         refine pu_ 6 (some 21) #[true, true, true, false, true, true, true, false, false, false] HT_ ?_
         refine tk_ 3 (some 18) (mk_ 7 3) HT_ HW_ hHeld (hy := .inl ⟨by rfl, by rintro w' ⟨s0, s1, s2, s3⟩; go_simp; with_reducible rfl⟩) ?_
         refine tk_ 7 (some 22) (mk_ 8 2) HT_ HW_ hHeld (hy := .inl ⟨by rfl, by rintro w' ⟨s0, s1, s2, s3⟩; go_simp; with_reducible rfl⟩) ?_
         refine one_ (i := 8) (N := some 23) (mk_ 9 1) rfl rfl (one_of HT_.out kr_) (by decide) (fun K hK => ?_)
         refine goes_ Tryz.func65 kr_ rfl #[.agg #[.int .i64 a1_0, .int .i64 a1_1], .agg #[.int .i64 ((rd_T60 l0 x7_1).f0), .int .i64 ((rd_T60 l0 x7_1).f1)]] (by rfl) rfl rfl ta_ ?_
         with_reducible refine (spec_l02Less.calls a1_0 a1_1 ((rd_T60 l0 x7_1).f0) ((rd_T60 l0 x7_1).f1) true _ A13.out).mono ?_
         rintro e w18 ⟨rfl, hb⟩
         refine ⟨_, rfl, ?_⟩
         replace HO_5 := a0_ (Kd.R_below (ra_ HO_5.out) hb)
         replace BK124 := a0_ (bb_ BK124.out hb)
         replace HB := a0_ (below_step (bl1_ GE124.out) hb)
         (try clear hb)
         (try clear hb2)
         (try clear hk)
         (try clear hi)
         refine hK.out _ _ ⟨(blk_cell BK124.out 0).trans rfl, (blk_cell BK124.out 1).trans rfl, ((HB.out.cell (World.block_lt_of_cell? w _ hw132_0)).trans hw132_0), ((HB.out.cell (World.block_lt_of_cell? w _ hw132_1)).trans hw132_1)⟩ (fun hHeld => ?_)
         clear hK K
         refine nm_ ?_
         refine pu_ 9 (some 24) (mk_ 10 0) HT_ ?_
         refine done_ (done_of HT_.out kr_) ?_
         have hcz19_0 : w18.cell? ⟨gb124, 0, none⟩ = some (.int .i64 a1_0) := (blk_cell BK124.out 0).trans rfl
         have hcz19_1 : w18.cell? ⟨gb124, 1, none⟩ = some (.int .i64 a1_1) := (blk_cell BK124.out 1).trans rfl
         have hfz19_0 := blk_frozen BK124.out 0
         have hfz19_1 := blk_frozen BK124.out 1
         try go_wp2_with (first | ((with_reducible refine gate_builtin (b := .append) (xs := #[.tmp 25, .tmp 27]) rfl ?_); at_builtin; refine Kd.R_append k60 (w0 := w) w.heap.size rfl (.tmp 25) (.tmp 27) 24 60 (.agg #[(.int .i64 0), (.int .i64 0)]) 16 rfl Tryz.underlying24 info60 rfl (by decide) (by omega) u5 x5_1 (⟨a1_0, a1_1⟩ : S60) [.int .i64 a1_0, .int .i64 a1_1] (fun k_ => k_ ≠ gb124) (fun _ => False) rfl rfl ?aP (fun _ hk => hk.elim) ?aF ?aO ?aB ?aS ?aL ?_; (case aP => exact k60_mkM _ _ _ (⟨a1_0, a1_1⟩ : S60)); (case aB => exact (bl1_ GE124.out)); (case aF => exact (fun k_ hk => Kd.freshB (g := gb124) (o := .cells #[.int .i64 a1_0, .int .i64 a1_1] 60 (0, 0)) (bk_ BK124.out) k_ hk)); (case aO => exact (ra_ HO_5.out)); (case aS => exact (below_size (bl1_ GE124.out))); (case aL => have := LMc15.out; omega); intro v135 w20 ho hb hg hat; rw [← Ny134.out] at ho; replace BK124 := a0_ (blk_grown (g := gb124) (o := .cells #[.int .i64 a1_0, .int .i64 a1_1] 60 (0, 0)) (bk_ BK124.out) hg (Kd.R_away HO_5.out (fun _ hk => hk))); replace HB := a0_ (hb); have HO136 := a0_ (ho); clear HO_5; clear ho hb hg hat; have p137 : 0 ≤ (x7_1 : Int) := od_; have q137 : x7_1 < (l0.length : Int) := od_; obtain ⟨ad137, e137, hx137_0, hx137_1⟩ := at_T60 HR0.out x7_1 p137 q137; obtain rfl : ad132 = ad137 := (by injection e137); replace hx137_0 := (HB.out.cell (World.block_lt_of_cell? w _ hx137_0)).trans hx137_0; replace hx137_1 := (HB.out.cell (World.block_lt_of_cell? w _ hx137_1)).trans hx137_1; replace p137 := eq_true p137; replace q137 := eq_true q137) | ((with_reducible refine gate_builtin (b := .append) (xs := #[.tmp 29, .tmp 34]) rfl ?_); at_builtin; refine Kd.R_append k60 (w0 := w) w.heap.size rfl (.tmp 29) (.tmp 34) 24 60 (.agg #[(.int .i64 0), (.int .i64 0)]) 16 rfl Tryz.underlying24 info60 rfl (by decide) (by omega) v135 y134 (⟨(rd_T60 l0 x7_1).f0, (rd_T60 l0 x7_1).f1⟩ : S60) [.int .i64 ((rd_T60 l0 x7_1).f0), .int .i64 ((rd_T60 l0 x7_1).f1)] (fun k_ => k_ ≠ gb124) (fun _ => False) rfl rfl ?aP (fun _ hk => hk.elim) ?aF ?aO ?aB ?aS ?aL ?_; (case aP => exact k60_mkM _ _ _ (⟨(rd_T60 l0 x7_1).f0, (rd_T60 l0 x7_1).f1⟩ : S60)); (case aB => exact (bl1_ GE124.out)); (case aF => exact (fun k_ hk => Kd.freshB (g := gb124) (o := .cells #[.int .i64 a1_0, .int .i64 a1_1] 60 (0, 0)) (bk_ BK124.out) k_ hk)); (case aO => exact (ra_ HO136.out)); (case aS => exact (below_size (bl1_ GE124.out))); (case aL => have := LMc16.out; omega); intro v139 w21 ho hb hg hat; rw [← Ny138.out] at ho; replace BK124 := a0_ (blk_grown (g := gb124) (o := .cells #[.int .i64 a1_0, .int .i64 a1_1] 60 (0, 0)) (bk_ BK124.out) hg (Kd.R_away HO136.out (fun _ hk => hk))); replace HB := a0_ (hb); have HO140 := a0_ (ho); clear HO136; clear ho hb hg hat))
         go_roundg k1
         case measure => have := HK1.out; omega
         case rel => exact ⟨(y138), (true), (wrap64 (x7_1 + 1)), rs_, rs_, H', ⟨by have := HK1.out; omega⟩, ⟨ra_ HO140.out⟩, ⟨bk_ BK124.out⟩, ⟨bl1_ GE124.out⟩⟩
        ·rw [if_neg c16] at H
         exact absurd H (by simp)
       ·rw [if_neg c15] at H
        exact absurd H (by simp)
      ·replace c14 := Bool.eq_false_iff.mpr c14
       subst c14
       rw [if_neg (show ¬ (false = true) by decide)] at H
       by_cases c22 : x5_1.length < 8796093022208
       ·rw [if_pos c22] at H
        have LMc22 := Aside0.mk c22
        clear c22
        obtain ⟨y142, hy142⟩ : ∃ y_ : List (S60), y_ = (x5_1 ++ [(⟨(rd_T60 l0 x7_1).f0, (rd_T60 l0 x7_1).f1⟩ : S60)]) := ⟨_, rfl⟩
        replace H : (spec_l02Insert.l0 k1 l0 y142 false (wrap64 (x7_1 + 1)) a1_0 a1_1) = some r := hh_ hy142 H
        have Ny142 := Aside0.mk hy142
        clear hy142
        have H' := Aside0.mk H
        clear H
        try go_wp2
        replace HO_5 := a0_ (Kd.R_drew HO_5.out)
        replace BK124 := a0_ (blk_drew BK124.out)
        replace HB := a0_ (below_drew1 HB.out)
        have p132 : 0 ≤ (x7_1 : Int) := od_
        have q132 : x7_1 < (l0.length : Int) := od_
        obtain ⟨ad132, e132, hx132_0, hx132_1⟩ := at_T60 HR0.out x7_1 p132 q132
        have hw132_1 := hx132_1
        have hw132_0 := hx132_0
        cases e132
        replace hx132_0 := (HB.out.cell (World.block_lt_of_cell? w _ hx132_0)).trans hx132_0
        replace hx132_1 := (HB.out.cell (World.block_lt_of_cell? w _ hx132_1)).trans hx132_1
        replace p132 := eq_true p132
        replace q132 := eq_true q132
        refine start_ (n := 10) (S := fun w' => w'.cell? ⟨gb124, 0, none⟩ = some (.int .i64 a1_0) ∧ w'.cell? ⟨gb124, 1, none⟩ = some (.int .i64 a1_1) ∧ w'.cell? (ad132.add ((x7_1).toNat * 2)) = some (.int .i64 ((rd_T60 l0 x7_1).f0)) ∧ w'.cell? ⟨(ad132.add ((x7_1).toNat * 2)).block, (ad132.add ((x7_1).toNat * 2)).off + 1, none⟩ = some (.int .i64 ((rd_T60 l0 x7_1).f1))) (ds := []) (mk_ 0 10) kr_ rfl rfl ⟨(blk_cell BK124.out 0).trans rfl, (blk_cell BK124.out 1).trans rfl, ((HB.out.cell (World.block_lt_of_cell? w _ hw132_0)).trans hw132_0), ((HB.out.cell (World.block_lt_of_cell? w _ hw132_1)).trans hw132_1)⟩ (fun hHeld => ?_); refine with_tabW spec_l02Insert.tab6 spec_l02Insert.bits6 (fun HT_ HW_ => ?_)
        generalize wr.drew = w23 at HO_5 BK124 HB hx132_0 hx132_1 hHeld ⊢
        refine pu_ 0 (some 15) (mk_ 1 9) HT_ ?_
        refine pu_ 1 (some 16) (mk_ 2 8) HT_ ?_
        refine pu_ 2 (some 17) (mk_ 3 7) HT_ ?_
        refine pu_ 4 (some 19) #[true, true, true, false, true, false, false, false, false, false] HT_ ?_
        refine pu_ 5 (some 20) #[true, true, true, false, true, true, false, false, false, false] HT_ ?_
        refine pu_ 6 (some 21) #[true, true, true, false, true, true, true, false, false, false] HT_ ?_
        refine tk_ 3 (some 18) (mk_ 7 3) HT_ HW_ hHeld (hy := .inl ⟨by rfl, by rintro w' ⟨s0, s1, s2, s3⟩; go_simp; with_reducible rfl⟩) ?_
        refine tk_ 7 (some 22) (mk_ 8 2) HT_ HW_ hHeld (hy := .inl ⟨by rfl, by rintro w' ⟨s0, s1, s2, s3⟩; go_simp; with_reducible rfl⟩) ?_
        refine one_ (i := 8) (N := some 23) (mk_ 9 1) rfl rfl (one_of HT_.out kr_) (by decide) (fun K hK => ?_)
        refine goes_ Tryz.func65 kr_ rfl #[.agg #[.int .i64 a1_0, .int .i64 a1_1], .agg #[.int .i64 ((rd_T60 l0 x7_1).f0), .int .i64 ((rd_T60 l0 x7_1).f1)]] (by rfl) rfl rfl ta_ ?_
        with_reducible refine (spec_l02Less.calls a1_0 a1_1 ((rd_T60 l0 x7_1).f0) ((rd_T60 l0 x7_1).f1) false _ A13.out).mono ?_
        rintro e w24 ⟨rfl, hb⟩
        refine ⟨_, rfl, ?_⟩
        replace HO_5 := a0_ (Kd.R_below (ra_ HO_5.out) hb)
        replace BK124 := a0_ (bb_ BK124.out hb)
        replace HB := a0_ (below_step (bl1_ GE124.out) hb)
        (try clear hb)
        (try clear hb2)
        (try clear hk)
        (try clear hi)
        refine hK.out _ _ ⟨(blk_cell BK124.out 0).trans rfl, (blk_cell BK124.out 1).trans rfl, ((HB.out.cell (World.block_lt_of_cell? w _ hw132_0)).trans hw132_0), ((HB.out.cell (World.block_lt_of_cell? w _ hw132_1)).trans hw132_1)⟩ (fun hHeld => ?_)
        clear hK K
        refine nm_ ?_
        refine pu_ 9 (some 24) (mk_ 10 0) HT_ ?_
        refine done_ (done_of HT_.out kr_) ?_
        have p141 : 0 ≤ (x7_1 : Int) := od_
        have q141 : x7_1 < (l0.length : Int) := od_
        obtain ⟨ad141, e141, hx141_0, hx141_1⟩ := at_T60 HR0.out x7_1 p141 q141
        obtain rfl : ad132 = ad141 := (by injection e141)
        replace hx141_0 := (HB.out.cell (World.block_lt_of_cell? w _ hx141_0)).trans hx141_0
        replace hx141_1 := (HB.out.cell (World.block_lt_of_cell? w _ hx141_1)).trans hx141_1
        replace p141 := eq_true p141
        replace q141 := eq_true q141
        try go_wp2_with (first | ((with_reducible refine gate_builtin (b := .append) (xs := #[.tmp 29, .tmp 34]) rfl ?_); at_builtin; refine Kd.R_append k60 (w0 := w) w.heap.size rfl (.tmp 29) (.tmp 34) 24 60 (.agg #[(.int .i64 0), (.int .i64 0)]) 16 rfl Tryz.underlying24 info60 rfl (by decide) (by omega) u5 x5_1 (⟨(rd_T60 l0 x7_1).f0, (rd_T60 l0 x7_1).f1⟩ : S60) [.int .i64 ((rd_T60 l0 x7_1).f0), .int .i64 ((rd_T60 l0 x7_1).f1)] (fun k_ => k_ ≠ gb124) (fun _ => False) rfl rfl ?aP (fun _ hk => hk.elim) ?aF ?aO ?aB ?aS ?aL ?_; (case aP => exact k60_mkM _ _ _ (⟨(rd_T60 l0 x7_1).f0, (rd_T60 l0 x7_1).f1⟩ : S60)); (case aB => exact (bl1_ GE124.out)); (case aF => exact (fun k_ hk => Kd.freshB (g := gb124) (o := .cells #[.int .i64 a1_0, .int .i64 a1_1] 60 (0, 0)) (bk_ BK124.out) k_ hk)); (case aO => exact (ra_ HO_5.out)); (case aS => exact (below_size (bl1_ GE124.out))); (case aL => have := LMc22.out; omega); intro v143 w25 ho hb hg hat; rw [← Ny142.out] at ho; replace BK124 := a0_ (blk_grown (g := gb124) (o := .cells #[.int .i64 a1_0, .int .i64 a1_1] 60 (0, 0)) (bk_ BK124.out) hg (Kd.R_away HO_5.out (fun _ hk => hk))); replace HB := a0_ (hb); have HO144 := a0_ (ho); clear HO_5; clear ho hb hg hat))
        go_roundg k1
        case measure => have := HK1.out; omega
        case rel => exact ⟨(y142), (false), (wrap64 (x7_1 + 1)), rs_, rs_, H', ⟨by have := HK1.out; omega⟩, ⟨ra_ HO144.out⟩, ⟨bk_ BK124.out⟩, ⟨bl1_ GE124.out⟩⟩
       ·rw [if_neg c22] at H
        exact absurd H (by simp)
     ·rw [if_neg c12] at H
      exact absurd H (by simp)
   ·rw [if_neg c6] at H
    have c6b0 : decide (x7_1 < (l0.length : Int)) = false := decide_eq_false c6
    clear c6
    by_cases c26 : x6_1 = true
    ·subst c26
     rw [if_pos rfl] at H
     obtain rfl := Option.some.inj H
     go_wp2
     go_ret
     exact ⟨_, er_, by (with_reducible repeat (first | apply Kd.R_alloc | apply Kd.R_drewN | apply Kd.R_drew)); exact Kd.R_mono HO_5.out (fun _ hk => trivial), bl1_ GE124.out⟩
    ·replace c26 := Bool.eq_false_iff.mpr c26
     subst c26
     rw [if_neg (show ¬ (false = true) by decide)] at H
     by_cases c27 : x5_1.length < 8796093022208
     ·rw [if_pos c27] at H
      have LMc27 := Aside0.mk c27
      clear c27
      obtain ⟨y145, hy145⟩ : ∃ y_ : List (S60), y_ = (x5_1 ++ [(⟨a1_0, a1_1⟩ : S60)]) := ⟨_, rfl⟩
      replace H : (some y145) = some r := hh_ hy145 H
      have Ny145 := Aside0.mk hy145
      clear hy145
      obtain rfl := Option.some.inj H
      have hcz28_0 : wr.cell? ⟨gb124, 0, none⟩ = some (.int .i64 a1_0) := (blk_cell BK124.out 0).trans rfl
      have hcz28_1 : wr.cell? ⟨gb124, 1, none⟩ = some (.int .i64 a1_1) := (blk_cell BK124.out 1).trans rfl
      have hfz28_0 := blk_frozen BK124.out 0
      have hfz28_1 := blk_frozen BK124.out 1
      go_wp2_with (first | ((with_reducible refine gate_builtin (b := .append) (xs := #[.tmp 38, .tmp 40]) rfl ?_); at_builtin; refine Kd.R_append k60 (w0 := w) w.heap.size rfl (.tmp 38) (.tmp 40) 24 60 (.agg #[(.int .i64 0), (.int .i64 0)]) 16 rfl Tryz.underlying24 info60 rfl (by decide) (by omega) u5 x5_1 (⟨a1_0, a1_1⟩ : S60) [.int .i64 a1_0, .int .i64 a1_1] (fun k_ => k_ ≠ gb124) (fun _ => False) rfl rfl ?aP (fun _ hk => hk.elim) ?aF ?aO ?aB ?aS ?aL ?_; (case aP => exact k60_mkM _ _ _ (⟨a1_0, a1_1⟩ : S60)); (case aB => exact (bl1_ GE124.out)); (case aF => exact (fun k_ hk => Kd.freshB (g := gb124) (o := .cells #[.int .i64 a1_0, .int .i64 a1_1] 60 (0, 0)) (bk_ BK124.out) k_ hk)); (case aO => exact (ra_ HO_5.out)); (case aS => exact (below_size (bl1_ GE124.out))); (case aL => have := LMc27.out; omega); intro v146 w29 ho hb hg hat; rw [← Ny145.out] at ho; replace BK124 := a0_ (blk_grown (g := gb124) (o := .cells #[.int .i64 a1_0, .int .i64 a1_1] 60 (0, 0)) (bk_ BK124.out) hg (Kd.R_away HO_5.out (fun _ hk => hk))); replace HB := a0_ (hb); have HO147 := a0_ (ho); clear HO_5; clear ho hb hg hat))
      go_ret
      exact ⟨_, er_, by (with_reducible repeat (first | apply Kd.R_alloc | apply Kd.R_drewN | apply Kd.R_drew)); exact Kd.R_mono HO147.out (fun _ hk => trivial), bl1_ GE124.out⟩
     ·rw [if_neg c27] at H
      exact absurd H (by simp)

/-! ### spec_l02Around: function 68 -/
def spec_l02Around.f (a0_0 : Int) (a0_1 : Int) : Option ((List (S60))) := some (([(⟨a0_0, wrap64 (a0_1 - 1)⟩ : S60), (⟨wrap64 (a0_0 - 1), a0_1⟩ : S60), (⟨wrap64 (a0_0 + 1), a0_1⟩ : S60), (⟨a0_0, wrap64 (a0_1 + 1)⟩ : S60)] : List (S60)))
set_option maxHeartbeats 8000000 in
set_option maxRecDepth 100000 in
theorem spec_l02Around.calls (a0_0 : Int) (a0_1 : Int) (r : List (S60)) (w : World) (h : spec_l02Around.f a0_0 a0_1 = some r) :
  Calls Tryz.prog 68 #[.agg #[.int .i64 a0_0, .int .i64 a0_1]] w fun e w' => ∃ v0_ : Value, e = .returned (v0_) ∧ Kd.R k60 60 w' w.heap.size (fun _ => True) v0_ r ∧ Below w.heap.size w w' := by
 have hu60 := Tryz.underlying60
 have HB := a0_ (Below.refl w.heap.size w)
 have H := h
 clear h
 unfold spec_l02Around.f at H
 obtain ⟨y149, hy149⟩ : ∃ y_ : List (S60), y_ = (([(⟨a0_0, wrap64 (a0_1 - 1)⟩ : S60), (⟨wrap64 (a0_0 - 1), a0_1⟩ : S60), (⟨wrap64 (a0_0 + 1), a0_1⟩ : S60), (⟨a0_0, wrap64 (a0_1 + 1)⟩ : S60)] : List (S60))) := ⟨_, rfl⟩
 replace H : (some y149) = some r := hh_ hy149 H
 have Ny149 := Aside0.mk hy149
 clear hy149
 obtain rfl := Option.some.inj H
 go_enter Tryz.func68, Tryz.ntmps68
 go_wp2_with (first | ((with_reducible refine gate_dst (N := 1) rfl ?_); refine bx_ (N := 1) (cs := #[.int .i64 a0_0, .int .i64 a0_1]) (t := 60) ?_; intro gb148 hg w2 hbox hb; have BK148 := a0_ (hbox); have GW148 := a0_ ((sz_ hg (bl0_) : w.heap.size ≤ gb148)); have GE148 := a0_ ((sz_ hg (bl0_) : w.heap.size ≤ gb148)); replace HB := a0_ (below_step (bl0_) hb); clear hb hbox hg; obtain ⟨hcz3_0, hcz3_1, hfz3_0, hfz3_1⟩ := bc2_ BK148.out) | ((with_reducible refine gate_dst (N := 27) rfl ?_); refine Kd.R_lit k60 _ 60 ?hg (N := 27) ?hd (xs := ([(⟨a0_0, wrap64 (a0_1 - 1)⟩ : S60), (⟨wrap64 (a0_0 - 1), a0_1⟩ : S60), (⟨wrap64 (a0_0 + 1), a0_1⟩ : S60), (⟨a0_0, wrap64 (a0_1 + 1)⟩ : S60)] : List (S60))) (inner := [.int .i64 a0_0, .int .i64 (wrap64 (a0_1 - 1)), .int .i64 (wrap64 (a0_0 - 1)), .int .i64 a0_1, .int .i64 (wrap64 (a0_0 + 1)), .int .i64 a0_1, .int .i64 a0_0, .int .i64 (wrap64 (a0_1 + 1))]) (ok := fun _ => True) (okp := fun _ => True) ?hr ?hp (fun _ hk => hk) trivial (Below.refl _ _) (Nat.le_refl _) (by simp) ?_; (case hd => rfl); (case hg => rfl); (case hr => first | (go_simp; done) | (go_simp; rfl)); (case hp => exact (Reps.c2 (show Kd.M k60 _ _ _ (⟨a0_0, wrap64 (a0_1 - 1)⟩ : S60) [.int .i64 a0_0, .int .i64 (wrap64 (a0_1 - 1))] from (k60_mkM _ _ _ (⟨a0_0, wrap64 (a0_1 - 1)⟩ : S60) )) (Reps.c2 (show Kd.M k60 _ _ _ (⟨wrap64 (a0_0 - 1), a0_1⟩ : S60) [.int .i64 (wrap64 (a0_0 - 1)), .int .i64 a0_1] from (k60_mkM _ _ _ (⟨wrap64 (a0_0 - 1), a0_1⟩ : S60) )) (Reps.c2 (show Kd.M k60 _ _ _ (⟨wrap64 (a0_0 + 1), a0_1⟩ : S60) [.int .i64 (wrap64 (a0_0 + 1)), .int .i64 a0_1] from (k60_mkM _ _ _ (⟨wrap64 (a0_0 + 1), a0_1⟩ : S60) )) (Reps.c2 (show Kd.M k60 _ _ _ (⟨a0_0, wrap64 (a0_1 + 1)⟩ : S60) [.int .i64 a0_0, .int .i64 (wrap64 (a0_1 + 1))] from (k60_mkM _ _ _ (⟨a0_0, wrap64 (a0_1 + 1)⟩ : S60) )) (Reps.none _ _)))))); intro v150 w4 ho5 hb hg_ hnew_; clear hg_ hnew_; (first | rw [← Ny149.out] at ho5 | (simp only [Int.reduceToNat] at ho5; rw [← Ny149.out] at ho5)); have HO151 := a0_ (Kd.R_lower (Kd.R_newB ho5 (g := gb148) (o := .cells #[.int .i64 a0_0, .int .i64 a0_1] 60 (0, 0)) (bk_ BK148.out)) (below_size (bl1_ GE148.out))); replace BK148 := a0_ (bb_ BK148.out hb); replace HB := a0_ (below_step (bl1_ GE148.out) hb); clear hb ho5))
 go_ret
 exact ⟨_, er_, by (with_reducible repeat (first | apply Kd.R_alloc | apply Kd.R_drewN | apply Kd.R_drew)); exact Kd.R_mono HO151.out (fun _ hk => trivial), bl1_ GE148.out⟩

end Go.Proofs.YtaaodakmelihaaaGreat.PFnPieces
