/- Over the kit's printer by a driver of mine (hprint.py), with parts by hand: functions of the program as Lean functions, and that each call comes to exactly these answers. -/
import Derived.Test.YtmdjkmfocgelnaaGreatDoorPFnAllNetsx0
import Derived.Test.YtmdjkmfocgelnaaGreatDoorPFnAllNetsx1
namespace Go.Proofs.YtmdjkmfocgelnaaGreatDoor.PFnAllNets
open Go.RowKit Go.Proofs.YtmdjkmfocgelnaaGreatDoorW.PrintWords Go.Proofs.YtmdjkmfocgelnaaGreatDoorW.PrintLast Go.Proofs.YtmdjkmfocgelnaaGreatDoorW.PrintMore
attribute [local go_sem] max2_int min2_int max_two min_two max_three min_three max_four min_four   
set_option linter.unusedVariables false
set_option linter.unusedSimpArgs false
attribute [local go_sem high] eqA56
def spec_l02One.l0 : Nat → List Int → Int → Option (Bool)
 | 0, _, _ => none
 | k + 1, x0, x3 => if x3 < (x0.length : Int) then (if 0 ≤ x3 then (if (rd x0 x3) = 0 then (spec_l02One.l0 k x0 (wrap64 (x3 + 1))) else (some false)) else (none)) else (some true)
def spec_l02One.f (k : Nat) (l0 : List Int) : Option (Bool) := spec_l02One.l0 k l0 0
set_option maxHeartbeats 8000000 in
set_option maxRecDepth 100000 in
theorem spec_l02One.calls (k : Nat) (A0 : Option Addr) (c0 : Nat) (l0 : List Int) (r : Bool) (w : World) (hr0 : Kd.C (Kd.int .i64) w A0 l0.length l0) (hc0 : l0.length ≤ c0) (h : spec_l02One.f k l0 = some r) :
  Calls Tryz.prog 60 #[.slice A0 l0.length c0] w fun e w' => e = .returned (.bool r) ∧ Drawn0 w w' := by
 have HR0 := Aside0.mk hr0
 have HC0 := Aside0.mk hc0
 clear hr0 hc0
 have H : (spec_l02One.l0 k l0 0) = some r := h
 clear h
 have H' := Aside0.mk H
 clear H
 go_enter Tryz.func60, Tryz.ntmps60
 go_wp2
 go_loopg [3] k (fun kq v3 w' => ∃ (x3_1 : Int), v3 = .int .i64 x3_1 ∧ Aside0 (spec_l02One.l0 kq l0 x3_1 = some r) ∧ Aside0 (kq ≤ k) ∧ Drawn0 w w')
 case atStart => exact ⟨(0), rs_, H', ⟨Nat.le_refl _⟩, by repeat (first | exact Drawn0.refl _ | apply Drawn0.step)⟩
 case round =>
  clear H'
  obtain ⟨x3_1, rfl, HA, HK1, ⟨m1, rfl⟩⟩ := hrel
  cases gk with
  | zero => exact absurd HA.out (by simp [spec_l02One.l0])
  | succ k1 =>
   have H := HA.out
   clear HA
   simp only [spec_l02One.l0] at H
   by_cases c2 : x3_1 < (l0.length : Int)
   ·rw [if_pos c2] at H
    have c2b0 : decide (x3_1 < (l0.length : Int)) = true := decide_eq_true c2
    clear c2
    by_cases c3 : 0 ≤ x3_1
    ·rw [if_pos c3] at H
     have c3b0 : decide (0 ≤ x3_1) = true := decide_eq_true c3
     clear c3
     by_cases c4 : (rd l0 x3_1) = 0
     ·rw [if_pos c4] at H
      have c4b0 : ((rd l0 x3_1) == 0) = true := beq_iff_eq.mpr c4
      have c4b1 : ((rd l0 x3_1) != 0) = false := bne_eq_false_iff_eq.mpr c4
      clear c4
      have H' := Aside0.mk H
      clear H
      have p112 : 0 ≤ (x3_1 : Int) := od_
      have q112 : x3_1 < (l0.length : Int) := od_
      obtain ⟨ad112, e112, hx112_0⟩ := Kd.at_int HR0.out x3_1 p112 q112
      cases e112
      replace p112 := eq_true p112
      replace q112 := eq_true q112
      go_wp2
      go_roundg k1
      case measure => have := HK1.out; omega
      case rel => exact ⟨(wrap64 (x3_1 + 1)), rs_, H', ⟨by have := HK1.out; omega⟩, by repeat (first | exact Drawn0.refl _ | apply Drawn0.step)⟩
     ·rw [if_neg c4] at H
      have c4b0 : ((rd l0 x3_1) == 0) = false := beq_eq_false_iff_ne.mpr c4
      have c4b1 : ((rd l0 x3_1) != 0) = true := bne_iff_ne.mpr c4
      obtain rfl := Option.some.inj H
      have p112 : 0 ≤ (x3_1 : Int) := od_
      have q112 : x3_1 < (l0.length : Int) := od_
      obtain ⟨ad112, e112, hx112_0⟩ := Kd.at_int HR0.out x3_1 p112 q112
      cases e112
      replace p112 := eq_true p112
      replace q112 := eq_true q112
      go_wp2
      go_ret
      exact ⟨by first | rfl | (simp; done) | (simp [*]; done), by repeat (first | exact Drawn0.refl _ | apply Drawn0.step)⟩
    ·rw [if_neg c3] at H
     exact absurd H (by simp)
   ·rw [if_neg c2] at H
    have c2b0 : decide (x3_1 < (l0.length : Int)) = false := decide_eq_false c2
    clear c2
    obtain rfl := Option.some.inj H
    go_wp2
    go_ret
    exact ⟨by first | rfl | (simp; done) | (simp [*]; done), by repeat (first | exact Drawn0.refl _ | apply Drawn0.step)⟩
def spec_l02Index.l0 : Nat → List (S56) → Int → Int → Int → Option (Int)
 | 0, _, _, _, _ => none
 | k + 1, x0, x5, x114000, x114001 => if x5 < (x0.length : Int) then (if 0 ≤ x5 then (if (((rd_T56 x0 x5).f0) == x114000 && (((rd_T56 x0 x5).f1) == x114001)) = true then (some x5) else (spec_l02Index.l0 k x0 (wrap64 (x5 + 1)) x114000 x114001)) else (none)) else (some (-1))
def spec_l02Index.f (k : Nat) (l0 : List (S56)) (a1_0 : Int) (a1_1 : Int) : Option (Int) := spec_l02Index.l0 k l0 0 a1_0 a1_1
set_option maxHeartbeats 8000000 in
set_option maxRecDepth 100000 in
theorem spec_l02Index.calls (k : Nat) (A0 : Option Addr) (c0 : Nat) (l0 : List (S56)) (a1_0 : Int) (a1_1 : Int) (r : Int) (w : World) (hr0 : Kd.C k56 w A0 l0.length l0) (hc0 : l0.length ≤ c0) (h : spec_l02Index.f k l0 a1_0 a1_1 = some r) :
  Calls Tryz.prog 64 #[.slice A0 l0.length c0, .agg #[.int .i64 a1_0, .int .i64 a1_1]] w fun e w' => e = .returned (.int .i64 r) ∧ Below w.heap.size w w' := by
 have hu56 := Tryz.underlying56
 have HR0 := Aside0.mk hr0
 have HC0 := Aside0.mk hc0
 clear hr0 hc0
 have HB := a0_ (Below.refl w.heap.size w)
 have H : (spec_l02Index.l0 k l0 0 a1_0 a1_1) = some r := h
 clear h
 have H' := Aside0.mk H
 clear H
 go_enter Tryz.func64, Tryz.ntmps64
 go_wp2_with (first | ((with_reducible refine gate_dst (N := 3) rfl ?_); refine bx_ (N := 3) (cs := #[.int .i64 a1_0, .int .i64 a1_1]) (t := 56) ?_; intro gb113 hg w3 hbox hb; have BK113 := a0_ (hbox); have GW113 := a0_ ((sz_ hg (bl0_) : w.heap.size ≤ gb113)); have GE113 := a0_ ((sz_ hg (bl0_) : w.heap.size ≤ gb113)); replace HB := a0_ (below_step (bl0_) hb); clear hb hbox hg))
 repeat (go_quiet (first | ((with_reducible refine gate_dst (N := 3) rfl ?_); refine bx_ (N := 3) (cs := #[.int .i64 a1_0, .int .i64 a1_1]) (t := 56) ?_; intro gb113 hg w3 hbox hb; have BK113 := a0_ (hbox); have GW113 := a0_ ((sz_ hg (bl0_) : w.heap.size ≤ gb113)); have GE113 := a0_ ((sz_ hg (bl0_) : w.heap.size ≤ gb113)); replace HB := a0_ (below_step (bl0_) hb); clear hb hbox hg)); try go_wp2_with (first | ((with_reducible refine gate_dst (N := 3) rfl ?_); refine bx_ (N := 3) (cs := #[.int .i64 a1_0, .int .i64 a1_1]) (t := 56) ?_; intro gb113 hg w3 hbox hb; have BK113 := a0_ (hbox); have GW113 := a0_ ((sz_ hg (bl0_) : w.heap.size ≤ gb113)); have GE113 := a0_ ((sz_ hg (bl0_) : w.heap.size ≤ gb113)); replace HB := a0_ (below_step (bl0_) hb); clear hb hbox hg)))
 go_loopg [5] k (fun kq v5 w' => ∃ (x5_1 : Int), v5 = .int .i64 x5_1 ∧ Aside0 (spec_l02Index.l0 kq l0 x5_1 a1_0 a1_1 = some r) ∧ Aside0 (kq ≤ k) ∧ Aside0 (w'.heap[gb113]? = some (.cells #[.int .i64 a1_0, .int .i64 a1_1] 56 (0, 0))) ∧ Aside0 (Below w.heap.size w w'))
 case atStart => exact ⟨(0), rs_, H', ⟨Nat.le_refl _⟩, ⟨bk_ BK113.out⟩, ⟨bl1_ GE113.out⟩⟩
 case round =>
  clear H'
  obtain ⟨x5_1, rfl, HA, HK1, BK113, HB⟩ := hrel
  cases gk with
  | zero => exact absurd HA.out (by simp [spec_l02Index.l0])
  | succ k1 =>
   have H := HA.out
   clear HA
   simp only [spec_l02Index.l0] at H
   by_cases c4 : x5_1 < (l0.length : Int)
   ·rw [if_pos c4] at H
    have c4b0 : decide (x5_1 < (l0.length : Int)) = true := decide_eq_true c4
    clear c4
    by_cases c5 : 0 ≤ x5_1
    ·rw [if_pos c5] at H
     have c5b0 : decide (0 ≤ x5_1) = true := decide_eq_true c5
     clear c5
     by_cases c6 : (((rd_T56 l0 x5_1).f0) == a1_0 && (((rd_T56 l0 x5_1).f1) == a1_1)) = true
     ·rw [if_pos c6] at H
      have c6b0 : (((rd_T56 l0 x5_1).f0) == a1_0 && (((rd_T56 l0 x5_1).f1) == a1_1)) = true := c6
      (try (have c6b1 : decide (((rd_T56 l0 x5_1).f0) = a1_0 && (((rd_T56 l0 x5_1).f1) == a1_1)) = true := by simpa using c6))
      (try (have c6b2 : (((rd_T56 l0 x5_1).f0) == a1_0 && (((rd_T56 l0 x5_1).f1) == a1_1)) = true := by simpa using c6))
      clear c6
      obtain rfl := Option.some.inj H
      have p114 : 0 ≤ (x5_1 : Int) := od_
      have q114 : x5_1 < (l0.length : Int) := od_
      obtain ⟨ad114, e114, hx114_0, hx114_1⟩ := at_T56 HR0.out x5_1 p114 q114
      cases e114
      replace hx114_0 := hc_ hx114_0
      replace hx114_1 := hc_ hx114_1
      replace p114 := eq_true p114
      replace q114 := eq_true q114
      have hcz7_0 : wr.cell? ⟨gb113, 0, none⟩ = some (.int .i64 a1_0) := (blk_cell BK113.out 0).trans rfl
      have hcz7_1 : wr.cell? ⟨gb113, 1, none⟩ = some (.int .i64 a1_1) := (blk_cell BK113.out 1).trans rfl
      have hfz7_0 := blk_frozen BK113.out 0
      have hfz7_1 := blk_frozen BK113.out 1
      go_wp2
      repeat (go_quiet (fail); try go_wp2)
      go_ret
      exact ⟨er_, bl1_ GE113.out⟩
     ·rw [if_neg c6] at H
      have c6b0 : (((rd_T56 l0 x5_1).f0) == a1_0 && (((rd_T56 l0 x5_1).f1) == a1_1)) = false := by simpa using c6
      (try (have c6b1 : decide (((rd_T56 l0 x5_1).f0) = a1_0 && (((rd_T56 l0 x5_1).f1) == a1_1)) = false := by simpa using c6))
      (try (have c6b2 : (((rd_T56 l0 x5_1).f0) == a1_0 && (((rd_T56 l0 x5_1).f1) == a1_1)) = false := by simpa using c6))
      (try (have c6b3 : ¬ (((rd_T56 l0 x5_1).f0) = a1_0 && (((rd_T56 l0 x5_1).f1) == a1_1)) := by simpa using c6))
      clear c6
      have H' := Aside0.mk H
      clear H
      have p114 : 0 ≤ (x5_1 : Int) := od_
      have q114 : x5_1 < (l0.length : Int) := od_
      obtain ⟨ad114, e114, hx114_0, hx114_1⟩ := at_T56 HR0.out x5_1 p114 q114
      cases e114
      replace hx114_0 := hc_ hx114_0
      replace hx114_1 := hc_ hx114_1
      replace p114 := eq_true p114
      replace q114 := eq_true q114
      have hcz8_0 : wr.cell? ⟨gb113, 0, none⟩ = some (.int .i64 a1_0) := (blk_cell BK113.out 0).trans rfl
      have hcz8_1 : wr.cell? ⟨gb113, 1, none⟩ = some (.int .i64 a1_1) := (blk_cell BK113.out 1).trans rfl
      have hfz8_0 := blk_frozen BK113.out 0
      have hfz8_1 := blk_frozen BK113.out 1
      go_wp2
      repeat (go_quiet (fail); try go_wp2)
      go_roundg k1
      case measure => have := HK1.out; omega
      case rel => exact ⟨(wrap64 (x5_1 + 1)), rs_, H', ⟨by have := HK1.out; omega⟩, ⟨bk_ BK113.out⟩, ⟨bl1_ GE113.out⟩⟩
    ·rw [if_neg c5] at H
     exact absurd H (by simp)
   ·rw [if_neg c4] at H
    have c4b0 : decide (x5_1 < (l0.length : Int)) = false := decide_eq_false c4
    clear c4
    obtain rfl := Option.some.inj H
    go_wp2
    repeat (go_quiet (fail); try go_wp2)
    go_ret
    exact ⟨er_, bl1_ GE113.out⟩
def spec_l02Around.f (a0_0 : Int) (a0_1 : Int) : Option ((List (S56))) := some (([(⟨a0_0, wrap64 (a0_1 - 1)⟩ : S56), (⟨wrap64 (a0_0 - 1), a0_1⟩ : S56), (⟨wrap64 (a0_0 + 1), a0_1⟩ : S56), (⟨a0_0, wrap64 (a0_1 + 1)⟩ : S56)] : List (S56)))
set_option maxHeartbeats 8000000 in
set_option maxRecDepth 100000 in
theorem spec_l02Around.calls (a0_0 : Int) (a0_1 : Int) (r : List (S56)) (w : World) (h : spec_l02Around.f a0_0 a0_1 = some r) :
  Calls Tryz.prog 78 #[.agg #[.int .i64 a0_0, .int .i64 a0_1]] w fun e w' => ∃ v0_ : Value, e = .returned (v0_) ∧ Kd.R k56 56 w' w.heap.size (fun _ => True) v0_ r ∧ Below w.heap.size w w' := by
 have hu56 := Tryz.underlying56
 have HB := a0_ (Below.refl w.heap.size w)
 have H := h
 clear h
 unfold spec_l02Around.f at H
 obtain ⟨y116, hy116⟩ : ∃ y_ : List (S56), y_ = (([(⟨a0_0, wrap64 (a0_1 - 1)⟩ : S56), (⟨wrap64 (a0_0 - 1), a0_1⟩ : S56), (⟨wrap64 (a0_0 + 1), a0_1⟩ : S56), (⟨a0_0, wrap64 (a0_1 + 1)⟩ : S56)] : List (S56))) := ⟨_, rfl⟩
 replace H : (some y116) = some r := hh_ hy116 H
 have Ny116 := Aside0.mk hy116
 clear hy116
 obtain rfl := Option.some.inj H
 go_enter Tryz.func78, Tryz.ntmps78
 go_wp2_with (first | ((with_reducible refine gate_dst (N := 1) rfl ?_); refine bx_ (N := 1) (cs := #[.int .i64 a0_0, .int .i64 a0_1]) (t := 56) ?_; intro gb115 hg w2 hbox hb; have BK115 := a0_ (hbox); have GW115 := a0_ ((sz_ hg (bl0_) : w.heap.size ≤ gb115)); have GE115 := a0_ ((sz_ hg (bl0_) : w.heap.size ≤ gb115)); replace HB := a0_ (below_step (bl0_) hb); clear hb hbox hg; obtain ⟨hcz3_0, hcz3_1, hfz3_0, hfz3_1⟩ := bc2_ BK115.out) | ((with_reducible refine gate_dst (N := 27) rfl ?_); refine Kd.R_lit k56 _ 56 ?hg (N := 27) ?hd (xs := ([(⟨a0_0, wrap64 (a0_1 - 1)⟩ : S56), (⟨wrap64 (a0_0 - 1), a0_1⟩ : S56), (⟨wrap64 (a0_0 + 1), a0_1⟩ : S56), (⟨a0_0, wrap64 (a0_1 + 1)⟩ : S56)] : List (S56))) (inner := [.int .i64 a0_0, .int .i64 (wrap64 (a0_1 - 1)), .int .i64 (wrap64 (a0_0 - 1)), .int .i64 a0_1, .int .i64 (wrap64 (a0_0 + 1)), .int .i64 a0_1, .int .i64 a0_0, .int .i64 (wrap64 (a0_1 + 1))]) (ok := fun _ => True) (okp := fun _ => True) ?hr ?hp (fun _ hk => hk) trivial (Below.refl _ _) (Nat.le_refl _) (by simp) ?_; (case hd => rfl); (case hg => rfl); (case hr => first | (go_simp; done) | (go_simp; rfl)); (case hp => exact (Reps.c2 (show Kd.M k56 _ _ _ (⟨a0_0, wrap64 (a0_1 - 1)⟩ : S56) [.int .i64 a0_0, .int .i64 (wrap64 (a0_1 - 1))] from (k56_mkM _ _ _ (⟨a0_0, wrap64 (a0_1 - 1)⟩ : S56) )) (Reps.c2 (show Kd.M k56 _ _ _ (⟨wrap64 (a0_0 - 1), a0_1⟩ : S56) [.int .i64 (wrap64 (a0_0 - 1)), .int .i64 a0_1] from (k56_mkM _ _ _ (⟨wrap64 (a0_0 - 1), a0_1⟩ : S56) )) (Reps.c2 (show Kd.M k56 _ _ _ (⟨wrap64 (a0_0 + 1), a0_1⟩ : S56) [.int .i64 (wrap64 (a0_0 + 1)), .int .i64 a0_1] from (k56_mkM _ _ _ (⟨wrap64 (a0_0 + 1), a0_1⟩ : S56) )) (Reps.c2 (show Kd.M k56 _ _ _ (⟨a0_0, wrap64 (a0_1 + 1)⟩ : S56) [.int .i64 a0_0, .int .i64 (wrap64 (a0_1 + 1))] from (k56_mkM _ _ _ (⟨a0_0, wrap64 (a0_1 + 1)⟩ : S56) )) (Reps.none _ _)))))); intro v117 w4 ho5 hb hg_ hnew_; clear hg_ hnew_; (first | rw [← Ny116.out] at ho5 | (simp only [Int.reduceToNat] at ho5; rw [← Ny116.out] at ho5)); have HO118 := a0_ (Kd.R_lower (Kd.R_newB ho5 (g := gb115) (o := .cells #[.int .i64 a0_0, .int .i64 a0_1] 56 (0, 0)) (bk_ BK115.out)) (below_size (bl1_ GE115.out))); replace BK115 := a0_ (bb_ BK115.out hb); replace HB := a0_ (below_step (bl1_ GE115.out) hb); clear hb ho5))
 go_ret
 exact ⟨_, er_, by (with_reducible repeat (first | apply Kd.R_alloc | apply Kd.R_drewN | apply Kd.R_drew)); exact Kd.R_mono HO118.out (fun _ hk => trivial), bl1_ GE115.out⟩
mutual
def spec_l02Parts.l0 : Nat → List (S56) → List Int → Int → Option (List Int)
 | 0, _, _, _ => none
 | k + 1, x0, x3, x4 => if x4 < (x0.length : Int) then (if x3.length < 17592186044416 then (spec_l02Parts.l0 k x0 (x3 ++ [(-1)]) (wrap64 (x4 + 1))) else (none)) else (spec_l02Parts.l1 k x0 x3 0)
def spec_l02Parts.l1 : Nat → List (S56) → List Int → Int → Option (List Int)
 | 0, _, _, _ => none
 | k + 1, x0, x3, x5 => if x5 < (x0.length : Int) then (if 0 ≤ x5 then (if x5 < (x3.length : Int) then (if (rd x3 x5) ≥ 0 then (spec_l02Parts.l1 k x0 x3 (wrap64 (x5 + 1))) else (spec_l02Parts.l2 k x0 (x3.set (x5 : Int).toNat x5) x5 (([x5] : List Int)))) else (none)) else (none)) else (some x3)
def spec_l02Parts.l2 : Nat → List (S56) → List Int → Int → List Int → Option (List Int)
 | 0, _, _, _, _ => none
 | k + 1, x0, x3, x5, x6 => if (x6.length : Int) > 0 then (if 0 < (x6.length : Int) then (if 0 ≤ (rd x6 0) then (if (rd x6 0) < (x0.length : Int) then ((spec_l02Around.f ((rd_T56 x0 (rd x6 0)).f0) ((rd_T56 x0 (rd x6 0)).f1)).bind fun t132 => (if 1 ≤ (x6.length : Int) then (spec_l02Parts.l3 k x0 x3 x5 (x6.drop (1 : Int).toNat) t132 0) else (none))) else (none)) else (none)) else (none)) else (spec_l02Parts.l1 k x0 x3 (wrap64 (x5 + 1)))
def spec_l02Parts.l3 : Nat → List (S56) → List Int → Int → List Int → List (S56) → Int → Option (List Int)
 | 0, _, _, _, _, _, _ => none
 | k + 1, x0, x3, x5, x6, x7, x8 => if x8 < 4 then (if 0 ≤ x8 then (if x8 < (x7.length : Int) then ((spec_l02Index.f k x0 ((rd_T56 x7 x8).f0) ((rd_T56 x7 x8).f1)).bind fun t139 => (if t139 ≥ 0 then (if 0 ≤ t139 then (if t139 < (x3.length : Int) then (if (rd x3 t139) < 0 then (if x6.length < 17592186044416 then (spec_l02Parts.l3 k x0 (x3.set (t139 : Int).toNat x5) x5 (x6 ++ [t139]) x7 (wrap64 (x8 + 1))) else (none)) else (spec_l02Parts.l3 k x0 x3 x5 x6 x7 (wrap64 (x8 + 1)))) else (none)) else (none)) else (spec_l02Parts.l3 k x0 x3 x5 x6 x7 (wrap64 (x8 + 1))))) else (none)) else (none)) else (spec_l02Parts.l2 k x0 x3 x5 x6)
end
def spec_l02Parts.f (k : Nat) (l0 : List (S56)) : Option (List Int) := spec_l02Parts.l0 k l0 (([] : List Int)) 0
set_option maxHeartbeats 8000000 in
set_option maxRecDepth 100000 in
theorem spec_l02Parts.calls (k : Nat) (A0 : Option Addr) (c0 : Nat) (l0 : List (S56)) (r : List Int) (w : World) (hr0 : Kd.C k56 w A0 l0.length l0) (hc0 : l0.length ≤ c0) (h : spec_l02Parts.f k l0 = some r) :
  Calls Tryz.prog 61 #[.slice A0 l0.length c0] w fun e w' => ∃ v0_ : Value, e = .returned (v0_) ∧ Kd.R (Kd.int .i64) 2 w' w.heap.size (fun _ => True) v0_ r ∧ Below w.heap.size w w' := by
 have hu56 := Tryz.underlying56
 have HR0 := Aside0.mk hr0
 have HC0 := Aside0.mk hc0
 clear hr0 hc0
 have HB := a0_ (Below.refl w.heap.size w)
 have H : (spec_l02Parts.l0 k l0 (([] : List Int)) 0) = some r := h
 clear h
 obtain ⟨y119, hy119⟩ : ∃ y_ : List Int, y_ = (([] : List Int)) := ⟨_, rfl⟩
 replace H : (spec_l02Parts.l0 k l0 y119 0) = some r := hh_ hy119 H
 have Ny119 := Aside0.mk hy119
 clear hy119
 have H' := Aside0.mk H
 clear H
 go_enter Tryz.func61, Tryz.ntmps61
 go_wp2_with (first | ((with_reducible refine gate_dst (N := 10) rfl ?_); refine Kd.R_lit (Kd.int .i64) _ 2 ?hg (N := 10) ?hd (xs := ([] : List Int)) (inner := []) (ok := fun _ => True) (okp := fun _ => True) ?hr ?hp (fun _ hk => hk) trivial (Below.refl _ _) (Nat.le_refl _) (by simp) ?_; (case hd => rfl); (case hg => rfl); (case hr => first | (go_simp; done) | (go_simp; rfl)); (case hp => exact (Reps.none _ _)); intro v120 w2 ho3 hb hg_ hnew_; clear hg_ hnew_; (first | rw [← Ny119.out] at ho3 | (simp only [Int.reduceToNat] at ho3; rw [← Ny119.out] at ho3)); have HO121 := a0_ (Kd.R_lower ho3 (below_size (bl0_))); replace HB := a0_ (below_step (bl0_) hb); clear hb ho3))
 go_loopg [3, 4] k (fun kq v3 v4 w' => ∃ (x3_1 : List Int) (x4_1 : Int), v4 = .int .i64 x4_1 ∧ Aside0 (spec_l02Parts.l0 kq l0 x3_1 x4_1 = some r) ∧ Aside0 (kq ≤ k) ∧ Aside0 (Kd.R (Kd.int .i64) 2 w' w.heap.size (fun _ => True) v3 x3_1) ∧ Aside0 (Below w.heap.size w w'))
 case atStart => exact ⟨(y119), (0), rs_, H', ⟨Nat.le_refl _⟩, ⟨ra_ HO121.out⟩, ⟨bl0_⟩⟩
 case round =>
  clear H'
  obtain ⟨x3_1, x4_1, rfl, HA, HK1, HO_3, HB⟩ := hrel
  cases gk with
  | zero => exact absurd HA.out (by simp [spec_l02Parts.l0])
  | succ k1 =>
   have H := HA.out
   clear HA
   simp only [spec_l02Parts.l0] at H
   by_cases c4 : x4_1 < (l0.length : Int)
   ·rw [if_pos c4] at H
    have c4b0 : decide (x4_1 < (l0.length : Int)) = true := decide_eq_true c4
    clear c4
    by_cases c5 : x3_1.length < 17592186044416
    ·rw [if_pos c5] at H
     have LMc5 := Aside0.mk c5
     clear c5
     obtain ⟨y122, hy122⟩ : ∃ y_ : List Int, y_ = (x3_1 ++ [(-1)]) := ⟨_, rfl⟩
     replace H : (spec_l02Parts.l0 k1 l0 y122 (wrap64 (x4_1 + 1))) = some r := hh_ hy122 H
     have Ny122 := Aside0.mk hy122
     clear hy122
     have H' := Aside0.mk H
     clear H
     go_wp2_with (first | ((with_reducible refine gate_builtin (b := .append) (xs := #[.tmp 17, .tmp 18]) rfl ?_); at_builtin; refine Kd.R_append (Kd.int .i64) (w0 := w) w.heap.size rfl (.tmp 17) (.tmp 18) 48 2 (.int .i64 0) 8 rfl Tryz.underlying48 info2 rfl (by decide) (by omega) u3 x3_1 (-1) [.int .i64 (-1)] (fun _ => True) (fun _ => False) rfl rfl ?aP (fun _ hk => hk.elim) ?aF ?aO ?aB ?aS ?aL ?_; (case aP => exact rfl); (case aB => exact (bl0_)); (case aF => exact (fun _ _ => trivial)); (case aO => exact (ra_ HO_3.out)); (case aS => exact (below_size (bl0_))); (case aL => have := LMc5.out; omega); intro v123 w6 ho hb hg hat; rw [← Ny122.out] at ho; replace HB := a0_ (hb); have HO124 := a0_ (ho); clear HO_3; clear ho hb hg hat))
     go_roundg k1
     case measure => have := HK1.out; omega
     case rel => exact ⟨(y122), (wrap64 (x4_1 + 1)), rs_, H', ⟨by have := HK1.out; omega⟩, ⟨ra_ HO124.out⟩, ⟨bl0_⟩⟩
    ·rw [if_neg c5] at H
     exact absurd H (by simp)
   ·rw [if_neg c4] at H
    have c4b0 : decide (x4_1 < (l0.length : Int)) = false := decide_eq_false c4
    clear c4
    have H' := Aside0.mk H
    clear H
    go_wp2
    go_loopg [5] k1 (fun kq v5 w' => ∃ (x3_2 : List Int) (x5_2 : Int), v5 = .int .i64 x5_2 ∧ Aside0 (spec_l02Parts.l1 kq l0 x3_2 x5_2 = some r) ∧ Aside0 (kq ≤ k1) ∧ Aside0 (Kd.R (Kd.int .i64) 2 w' w.heap.size (fun _ => True) u3 x3_2) ∧ Aside0 (Below w.heap.size w w'))
    case atStart => exact ⟨(x3_1), (0), rs_, H', ⟨Nat.le_refl _⟩, ⟨ra_ HO_3.out⟩, ⟨bl0_⟩⟩
    case round =>
     clear H'
     try clear c4b0
     obtain ⟨x3_2, x5_2, rfl, HA, HK2, HO_3, HB⟩ := hrel
     cases gk with
     | zero => exact absurd HA.out (by simp [spec_l02Parts.l1])
     | succ k2 =>
      have H := HA.out
      clear HA
      simp only [spec_l02Parts.l1] at H
      by_cases c7 : x5_2 < (l0.length : Int)
      ·rw [if_pos c7] at H
       have c7b0 : decide (x5_2 < (l0.length : Int)) = true := decide_eq_true c7
       clear c7
       by_cases c8 : 0 ≤ x5_2
       ·rw [if_pos c8] at H
        have c8b0 : decide (0 ≤ x5_2) = true := decide_eq_true c8
        clear c8
        by_cases c9 : x5_2 < (x3_2.length : Int)
        ·rw [if_pos c9] at H
         have c9b0 : decide (x5_2 < (x3_2.length : Int)) = true := decide_eq_true c9
         clear c9
         by_cases c10 : (rd x3_2 x5_2) ≥ 0
         ·rw [if_pos c10] at H
          have c10b0 : decide (0 ≤ (rd x3_2 x5_2)) = true := decide_eq_true c10
          clear c10
          have H' := Aside0.mk H
          clear H
          obtain ⟨Ao11, co11, eo11⟩ := Kd.R_slice HO_3.out
          subst eo11
          have p125 : 0 ≤ (x5_2 : Int) := od_
          have q125 : x5_2 < (x3_2.length : Int) := od_
          obtain ⟨ad125, e125, hx125_0⟩ := Kd.at_int (Kd.R_reads' HO_3.out).2.2 x5_2 p125 q125
          cases e125
          replace p125 := eq_true p125
          replace q125 := eq_true q125
          go_wp2
          go_roundg k2
          case measure => have := HK1.out; have := HK2.out; omega
          case rel => exact ⟨(x3_2), (wrap64 (x5_2 + 1)), rs_, H', ⟨by have := HK1.out; have := HK2.out; omega⟩, ⟨ra_ HO_3.out⟩, ⟨bl0_⟩⟩
         ·rw [if_neg c10] at H
          have c10b0 : decide (0 ≤ (rd x3_2 x5_2)) = false := decide_eq_false c10
          clear c10
          obtain ⟨y126, hy126⟩ : ∃ y_ : List Int, y_ = (x3_2.set (x5_2 : Int).toNat x5_2) := ⟨_, rfl⟩
          replace H : (spec_l02Parts.l2 k2 l0 y126 x5_2 (([x5_2] : List Int))) = some r := hh_ hy126 H
          have Ny126 := Aside0.mk hy126
          clear hy126
          obtain ⟨y127, hy127⟩ : ∃ y_ : List Int, y_ = (([x5_2] : List Int)) := ⟨_, rfl⟩
          replace H : (spec_l02Parts.l2 k2 l0 y126 x5_2 y127) = some r := hh_ hy127 H
          have Ny127 := Aside0.mk hy127
          clear hy127
          have H' := Aside0.mk H
          clear H
          obtain ⟨Ao13, co13, eo13⟩ := Kd.R_slice HO_3.out
          subst eo13
          have p125 : 0 ≤ (x5_2 : Int) := od_
          have q125 : x5_2 < (x3_2.length : Int) := od_
          obtain ⟨ad125, e125, hx125_0⟩ := Kd.at_int (Kd.R_reads' HO_3.out).2.2 x5_2 p125 q125
          cases e125
          replace p125 := eq_true p125
          replace q125 := eq_true q125
          have p12 : 0 ≤ (x5_2 : Int) := od_
          have q12 : (x5_2 : Int) < ((x3_2.length : Int) : Int) := od_
          obtain ⟨go12, co12, eo12, gb12, gl12, cl12, HG12⟩ := Kd.R_form HO_3.out (by omega)
          (first | cases eo12 | (injection eo12 with ea_ en_ ec_; (first | subst ea_ | (injection ea_ with ea_; subst ea_)); subst ec_; clear en_))
          have GB12 := Aside0.mk gb12
          have GG12 := Aside0.mk HG12
          clear gb12 gl12 HG12
          (first | simp only [add_plain] at hx125_0 | skip)
          obtain ⟨hx12_0, hf12_0⟩ := Kd.R_celln 0 HO_3.out (x5_2 : Int) p12 q12
          replace p12 := eq_true p12
          replace q12 := eq_true q12
          have HP14 := Kd.R_putg HO_3.out (x5_2 : Int) x5_2
          go_wp2_with (first | ((with_reducible refine gate_store (t := 2) (p := 34) rfl ?_); refine store_event (t := 2) (p := 34) (v := ?vo_w15) (w1 := (wr.setCell ⟨go12, (x5_2 : Int).toNat, none⟩ (.int .i64 x5_2))) ?hg ?ho ?hn ?hr ?_; (case ho => rfl); (case hg => rfl); (case hn => rfl); (case hr => first | (go_simp; done) | (go_simp; rfl)); intro w15 hw; have hg : wr.grownBy w15 (some go12) := (by rw [hw]; exact HP14.2); have hp_ : Kd.R (Kd.int .i64) 2 w15 w.heap.size (fun _ => True) (.slice (some ⟨go12, 0, none⟩) x3_2.length co13) y126 := (by rw [hw, Ny126.out]; exact HP14.1); clear HP14; replace HO_3 := a0_ (hp_); replace HB := a0_ ((by rw [hw]; exact below_set (HB.out) GB12.out : Below w.heap.size w w15)); clear hg hw hp_) | ((with_reducible refine gate_dst (N := 36) rfl ?_); refine Kd.R_lit (Kd.int .i64) _ 2 ?hg (N := 36) ?hd (xs := ([x5_2] : List Int)) (inner := [.int .i64 x5_2]) (ok := fun _ => True) (okp := fun _ => True) ?hr ?hp (fun _ hk => hk) trivial (Below.refl _ _) (Nat.le_refl _) (by simp) ?_; (case hd => rfl); (case hg => rfl); (case hr => first | (go_simp; done) | (go_simp; rfl)); (case hp => exact (Reps.one (show Kd.M (Kd.int .i64) _ _ _ x5_2 [.int .i64 x5_2] from rfl) (Reps.none _ _))); intro v128 w16 ho17 hb hg_ hnew_; clear hg_ hnew_; (first | rw [← Ny127.out] at ho17 | (simp only [Int.reduceToNat] at ho17; rw [← Ny127.out] at ho17)); have HO129 := a0_ (Kd.R_lower (Kd.R_new' ho17 (Kd.R_lt (ra_ HO_3.out))) (below_size (bl0_))); replace HO_3 := a0_ (Kd.R_elder' (ra_ HO_3.out) (Kd.R_base ho17) hb); replace HB := a0_ (below_step (bl0_) hb); clear hb ho17))
          go_loopg [6] k2 (fun kq v6 w' => ∃ (x3_3 : List Int) (x6_3 : List Int), Aside0 (spec_l02Parts.l2 kq l0 x3_3 x5_2 x6_3 = some r) ∧ Aside0 (kq ≤ k2) ∧ Aside0 (Kd.R (Kd.int .i64) 2 w' w.heap.size (fun k_ => some k_ ≠ (v6 : Value).ownBlock) (.slice (some ⟨go12, 0, none⟩) x3_2.length co13) x3_3) ∧ Aside0 (Kd.Q (Kd.int .i64) 2 w' w.heap.size (fun k_ => some k_ ≠ ((.slice (some ⟨go12, 0, none⟩) x3_2.length co13) : Value).ownBlock) v6 x6_3) ∧ Aside0 (Below w.heap.size w w'))
          case atStart => exact ⟨(y126), (y127), H', ⟨Nat.le_refl _⟩, ⟨by (with_reducible repeat (first | apply Kd.R_alloc | apply Kd.R_drewN | apply Kd.R_drew)); exact Kd.R_mono HO_3.out (fun _ hk => hk.2)⟩, ⟨Kd.Q_of_R (by (with_reducible repeat (first | apply Kd.R_alloc | apply Kd.R_drewN | apply Kd.R_drew)); exact Kd.R_mono HO129.out (fun _ hk => hk.2))⟩, ⟨bl0_⟩⟩
          case round =>
           clear H'
           try clear c7b0
           try clear c8b0
           try clear c9b0
           try clear c10b0
           try clear p12
           try clear q12
           try clear hx125_0
           try clear hx12_0
           try clear p125
           try clear q125
           obtain ⟨x3_3, x6_3, HA, HK3, HO_3, HO_6, HB⟩ := hrel
           have hl3_3 := (Kd.R_reads' HO_3.out).1
           rw [hl3_3] at HO_3
           (try simp only [hl3_3])
           (try simp only [hl3_3] at HO_6)
           cases gk with
           | zero => exact absurd HA.out (by simp [spec_l02Parts.l2])
           | succ k3 =>
            have H := HA.out
            clear HA
            simp only [spec_l02Parts.l2] at H
            by_cases c18 : (x6_3.length : Int) > 0
            ·rw [if_pos c18] at H
             have c18b0 : decide (0 < (x6_3.length : Int)) = true := decide_eq_true c18
             have c18b1 : decide (0 < x6_3.length) = true := decide_eq_true (by omega)
             clear c18
             by_cases c19 : 0 < (x6_3.length : Int)
             ·rw [if_pos c19] at H
              have c19b0 : decide (0 < (x6_3.length : Int)) = true := decide_eq_true c19
              have c19b1 : decide (0 < x6_3.length) = true := decide_eq_true (by omega)
              clear c19
              by_cases c20 : 0 ≤ (rd x6_3 0)
              ·rw [if_pos c20] at H
               have c20b0 : decide (0 ≤ (rd x6_3 0)) = true := decide_eq_true c20
               clear c20
               by_cases c21 : (rd x6_3 0) < (l0.length : Int)
               ·rw [if_pos c21] at H
                have c21b0 : decide ((rd x6_3 0) < (l0.length : Int)) = true := decide_eq_true c21
                clear c21
                obtain ⟨t132, A22, H⟩ := bs_ H
                by_cases c23 : 1 ≤ (x6_3.length : Int)
                ·rw [if_pos c23] at H
                 have c23b0 := eq_true c23
                 have c23b1 : decide (1 ≤ (x6_3.length : Int)) = true := decide_eq_true c23
                 clear c23
                 obtain ⟨y135, hy135⟩ : ∃ y_ : List Int, y_ = (x6_3.drop (1 : Int).toNat) := ⟨_, rfl⟩
                 replace H : (spec_l02Parts.l3 k3 l0 x3_3 x5_2 y135 t132 0) = some r := hh_ hy135 H
                 have Ny135 := Aside0.mk hy135
                 clear hy135
                 have H' := Aside0.mk H
                 clear H
                 obtain ⟨Ao24, co24, eo24, _⟩ := Kd.Q_slice HO_6.out
                 subst eo24
                 have p130 : 0 ≤ (0 : Int) := (by omega)
                 have q130 : 0 < (x6_3.length : Int) := od_
                 obtain ⟨ad130, e130, hx130_0⟩ := Kd.at_int (Kd.Q_reads' HO_6.out).2.2 0 p130 q130
                 cases e130
                 have qi130 : (0 < x6_3.length) = True := eq_true (by omega)
                 (try rw [show ((0 : Int)).toNat = 0 from rfl] at hx130_0)
                 (try rw [Addr.add_zero'] at hx130_0)
                 replace p130 := eq_true p130
                 replace q130 := eq_true q130
                 have p131 : 0 ≤ ((rd x6_3 0) : Int) := od_
                 have q131 : (rd x6_3 0) < (l0.length : Int) := od_
                 obtain ⟨ad131, e131, hx131_0, hx131_1⟩ := at_T56 HR0.out (rd x6_3 0) p131 q131
                 cases e131
                 replace hx131_0 := hc_ hx131_0
                 replace hx131_1 := hc_ hx131_1
                 replace p131 := eq_true p131
                 replace q131 := eq_true q131
                 go_wp2_with (first | ((with_reducible refine gate_callee (f := 78) rfl ?_); refine goesL_ (some 46) rfl rfl Tryz.func78 kr_ rfl #[.agg #[.int .i64 ((rd_T56 l0 (rd x6_3 0)).f0), .int .i64 ((rd_T56 l0 (rd x6_3 0)).f1)]] rfl ta_ ?_; (with_reducible refine (spec_l02Around.calls ((rd_T56 l0 (rd x6_3 0)).f0) ((rd_T56 l0 (rd x6_3 0)).f1) t132 _ A22.out).mono ?_); rintro e w25 ⟨v133, rfl, ho0, hb⟩; refine ⟨_, rfl, ?_⟩; replace HO_3 := a0_ (Kd.R_below (ra_ HO_3.out) hb); replace HO_6 := a0_ (Kd.Q_below (by (with_reducible repeat (first | apply Kd.Q_alloc | apply Kd.Q_drewN | apply Kd.Q_drew)); exact HO_6.out) hb); have HO134 := a0_ (Kd.R_lower ho0 (below_size (bl0_))); replace HB := a0_ (below_step (bl0_) hb); (try clear hb); (try clear ho0); have q26 : (1 : Int) ≤ ((x6_3.length : Int) : Int) := od_; obtain ⟨i026, hi026, _, hsz26, _⟩ := info_parts info2; have hcut26 := cut_from (P := Tryz.prog) 48 2 .i64 Tryz.underlying48 hi026 1 hsz26 (some ad130) x6_3.length co24 1 (by omega) q26; have hr26 := Kd.Q_drop (k := (1 : Int).toNat) HO_6.out (by omega); obtain ⟨A26, hA26⟩ : ∃ A1, A1 = (if co24 = (1 : Int).toNat then (some ad130) else ((some ad130) : Option Addr).map (·.add ((1 : Int).toNat * 1))) := ⟨_, rfl⟩; obtain ⟨c26, hc26⟩ : ∃ c1, c1 = co24 - (1 : Int).toNat := ⟨_, rfl⟩; have hy26 : y135.length = x6_3.length - (1 : Int).toNat := (by rw [Ny135.out, List.length_drop]); rw [← Ny135.out] at hr26; rw [← hy26, ← hA26, ← hc26] at hcut26; replace hr26 : Kd.Q (Kd.int .i64) 2 w25 w.heap.size (fun k_ => some k_ ≠ (.slice (some ⟨go12, 0, none⟩) x3_3.length co13 : Value).ownBlock) (.slice A26 y135.length c26) y135 := (by rw [hA26, hc26, hy26]; exact hr26); have HE26 : Aside0 ((Value.slice A26 y135.length c26).ownBlock = (.slice (some ad130) x6_3.length co24 : Value).ownBlock) := ⟨by rw [hA26]; split <;> (cases ((some ad130) : Option Addr) <;> rfl)⟩; clear hy26 hi026 hsz26 HO_6 hA26 hc26; have HO137 := Aside0.mk hr26; clear hr26; replace q26 := eq_true q26; have n_ := a0_ (Kd.R_mono (ok' := fun k_ => some k_ ≠ (.slice A26 y135.length c26 : Value).ownBlock) HO_3.out (fun k_ hk => (by rw [HE26.out]; exact hk))); clear HO_3; have HO_3 := n_; clear n_))
                 go_loopg [6, 8] k3 (fun kq v6 v8 w' => ∃ (x3_4 : List Int) (x6_4 : List Int) (x8_4 : Int), v8 = .int .i64 x8_4 ∧ Aside0 (spec_l02Parts.l3 kq l0 x3_4 x5_2 x6_4 t132 x8_4 = some r) ∧ Aside0 (kq ≤ k3) ∧ Aside0 (Kd.R (Kd.int .i64) 2 w' w.heap.size (fun k_ => some k_ ≠ (v6 : Value).ownBlock) (.slice (some ⟨go12, 0, none⟩) x3_3.length co13) x3_4) ∧ Aside0 (Kd.Q (Kd.int .i64) 2 w' w.heap.size (fun k_ => some k_ ≠ ((.slice (some ⟨go12, 0, none⟩) x3_3.length co13) : Value).ownBlock) v6 x6_4) ∧ Aside0 (Kd.R k56 56 w' w.heap.size (fun _ => True) v133 t132) ∧ Aside0 (Below w.heap.size w w'))
                 case atStart => exact ⟨(x3_3), (y135), (0), rs_, H', ⟨Nat.le_refl _⟩, ⟨by (try simp only [hl3_3]); (with_reducible repeat (first | apply Kd.R_alloc | apply Kd.R_drewN | apply Kd.R_drew)); exact HO_3.out⟩, ⟨by (try simp only [hl3_3]); (with_reducible repeat (first | apply Kd.Q_alloc | apply Kd.Q_drewN | apply Kd.Q_drew)); exact HO137.out⟩, ⟨by (try simp only [hl3_3]); (with_reducible repeat (first | apply Kd.R_alloc | apply Kd.R_drewN | apply Kd.R_drew)); exact HO134.out⟩, ⟨bl0_⟩⟩
                 case round =>
                  clear H'
                  try clear c1
                  try clear c18b0
                  try clear c18b1
                  try clear c19b0
                  try clear c19b1
                  try clear c20b0
                  try clear c21b0
                  try clear c23b0
                  try clear c23b1
                  try clear c26
                  try clear q26
                  try clear hx130_0
                  try clear hx131_0
                  try clear hx131_1
                  try clear p130
                  try clear p131
                  try clear q130
                  try clear q131
                  obtain ⟨x3_4, x6_4, x8_4, rfl, HA, HK4, HO_3, HO_6, HO_7, HB⟩ := hrel
                  have hl3_4 := (Kd.R_reads' HO_3.out).1
                  rw [hl3_4] at HO_3
                  (try simp only [hl3_4])
                  (try simp only [hl3_4] at HO_6)
                  (try simp only [hl3_4] at HO_7)
                  cases gk with
                  | zero => exact absurd HA.out (by simp [spec_l02Parts.l3])
                  | succ k4 =>
                   have H := HA.out
                   clear HA
                   simp only [spec_l02Parts.l3] at H
                   by_cases c27 : x8_4 < 4
                   ·rw [if_pos c27] at H
                    have c27b0 : decide (x8_4 < 4) = true := decide_eq_true c27
                    clear c27
                    by_cases c28 : 0 ≤ x8_4
                    ·rw [if_pos c28] at H
                     have c28b0 : decide (0 ≤ x8_4) = true := decide_eq_true c28
                     clear c28
                     by_cases c29 : x8_4 < (t132.length : Int)
                     ·rw [if_pos c29] at H
                      have c29b0 : decide (x8_4 < (t132.length : Int)) = true := decide_eq_true c29
                      clear c29
                      obtain ⟨t139, A30, H⟩ := bs_ H
                      by_cases c31 : t139 ≥ 0
                      ·rw [if_pos c31] at H
                       have c31b0 : decide (0 ≤ t139) = true := decide_eq_true c31
                       clear c31
                       by_cases c32 : 0 ≤ t139
                       ·rw [if_pos c32] at H
                        have c32b0 : decide (0 ≤ t139) = true := decide_eq_true c32
                        clear c32
                        by_cases c33 : t139 < (x3_4.length : Int)
                        ·rw [if_pos c33] at H
                         have c33b0 : decide (t139 < (x3_4.length : Int)) = true := decide_eq_true c33
                         clear c33
                         by_cases c34 : (rd x3_4 t139) < 0
                         ·rw [if_pos c34] at H
                          have c34b0 : decide ((rd x3_4 t139) < 0) = true := decide_eq_true c34
                          clear c34
                          obtain ⟨y141, hy141⟩ : ∃ y_ : List Int, y_ = (x3_4.set (t139 : Int).toNat x5_2) := ⟨_, rfl⟩
                          replace H : (if x6_4.length < 17592186044416 then (spec_l02Parts.l3 k4 l0 y141 x5_2 (x6_4 ++ [t139]) t132 (wrap64 (x8_4 + 1))) else (none)) = some r := hh_ hy141 H
                          have Ny141 := Aside0.mk hy141
                          clear hy141
                          by_cases c36 : x6_4.length < 17592186044416
                          ·rw [if_pos c36] at H
                           have LMc36 := Aside0.mk c36
                           clear c36
                           obtain ⟨y142, hy142⟩ : ∃ y_ : List Int, y_ = (x6_4 ++ [t139]) := ⟨_, rfl⟩
                           replace H : (spec_l02Parts.l3 k4 l0 y141 x5_2 y142 t132 (wrap64 (x8_4 + 1))) = some r := hh_ hy142 H
                           have Ny142 := Aside0.mk hy142
                           clear hy142
                           have H' := Aside0.mk H
                           clear H
                           obtain ⟨Ao37, co37, eo37⟩ := Kd.R_slice HO_7.out
                           subst eo37
                           have p138 : 0 ≤ (x8_4 : Int) := od_
                           have q138 : x8_4 < (t132.length : Int) := od_
                           obtain ⟨ad138, e138, hx138_0, hx138_1⟩ := at_T56 (Kd.R_reads' HO_7.out).2.2 x8_4 p138 q138
                           cases e138
                           replace p138 := eq_true p138
                           replace q138 := eq_true q138
                           go_wp2_with (first | ((with_reducible refine gate_callee (f := 64) rfl ?_); refine goesL_ (some 58) rfl rfl Tryz.func64 kr_ rfl #[.slice (some ad131) l0.length c0, .agg #[.int .i64 ((rd_T56 t132 x8_4).f0), .int .i64 ((rd_T56 t132 x8_4).f1)]] rfl ta_ ?_; (with_reducible refine (spec_l02Index.calls k4 _ _ l0 ((rd_T56 t132 x8_4).f0) ((rd_T56 t132 x8_4).f1) t139 _ ?side1 ?side2 A30.out).mono ?_); (case side1 => exact ca_ (Kd.C_below HR0.out HB.out)); (case side2 => exact HC0.out); rintro e w38 ⟨rfl, hb⟩; refine ⟨_, rfl, ?_⟩; replace HO_3 := a0_ (Kd.R_below (ra_ HO_3.out) hb); replace HO_6 := a0_ (Kd.Q_below (by (with_reducible repeat (first | apply Kd.Q_alloc | apply Kd.Q_drewN | apply Kd.Q_drew)); exact HO_6.out) hb); replace HO_7 := a0_ (Kd.R_below (ra_ HO_7.out) hb); replace HB := a0_ (below_step (bl0_) hb); (try clear hb); have p140 : 0 ≤ (t139 : Int) := od_; have q140 : t139 < (x3_4.length : Int) := od_; obtain ⟨ad140, e140, hx140_0⟩ := Kd.at_int (Kd.R_reads' HO_3.out).2.2 t139 p140 q140; obtain rfl : (⟨go12, 0, none⟩ : Addr) = ad140 := (by injection e140); (first | simp only [add_plain] at hx140_0 | simp only [add_at] at hx140_0 | simp only [Addr.add, Nat.zero_add] at hx140_0 | skip); replace p140 := eq_true p140; replace q140 := eq_true q140; have p35 : 0 ≤ (t139 : Int) := od_; have q35 : (t139 : Int) < ((x3_4.length : Int) : Int) := od_; obtain ⟨hx35_0, hf35_0⟩ := Kd.R_celln 0 HO_3.out (t139 : Int) p35 q35; replace p35 := eq_true p35; replace q35 := eq_true q35; obtain ⟨hy39_, hz39_⟩ := Kd.R_celln 0 HO_3.out (t139 : Int) (od_) (od_); have HP39 := Kd.R_putg HO_3.out (t139 : Int) x5_2) | ((with_reducible refine gate_store (t := 2) (p := 71) rfl ?_); refine store_event (t := 2) (p := 71) (v := ?vo_w40) (w1 := (w38.setCell ⟨go12, (t139 : Int).toNat, none⟩ (.int .i64 x5_2))) ?hg ?ho ?hn ?hr ?_; (case ho => rfl); (case hg => rfl); (case hn => rfl); (case hr => first | (go_simp; done) | (go_simp; rfl)); intro w40 hw; have hg : w38.grownBy w40 (some go12) := (by rw [hw]; exact HP39.2); have hp_ : Kd.R (Kd.int .i64) 2 w40 w.heap.size (fun k_ => some k_ ≠ (u6 : Value).ownBlock) (.slice (some ⟨go12, 0, none⟩) x3_4.length co13) y141 := (by rw [hw, Ny141.out]; exact HP39.1); clear HP39; replace HO_6 := a0_ (Kd.Q_after (v := (.slice (some ⟨go12, 0, none⟩) x3_4.length co13)) (v1 := (.slice (some ⟨go12, 0, none⟩) x3_4.length co13)) (ok := (fun _ => True)) (by (with_reducible repeat (first | apply Kd.Q_alloc | apply Kd.Q_drewN | apply Kd.Q_drew)); exact Kd.Q_mono HO_6.out (fun _ hk => ⟨trivial, hk⟩)) hg (.inl rfl)); replace HO_7 := a0_ (Kd.R_over' (v := (.slice (some ⟨go12, 0, none⟩) x3_4.length co13)) (ra_ HO_7.out) (Kd.R_typed HO_3.out) (by decide) hg); replace HO_3 := a0_ (hp_); replace HB := a0_ ((by rw [hw]; exact below_set (HB.out) GB12.out : Below w.heap.size w w40)); clear hg hw hp_) | ((with_reducible refine gate_builtin (b := .append) (xs := #[.tmp 72, .tmp 74]) rfl ?_); at_builtin; refine Kd.Q_append (Kd.int .i64) (w0 := w) w.heap.size rfl (.tmp 72) (.tmp 74) 48 2 (.int .i64 0) 8 rfl Tryz.underlying48 info2 rfl (by decide) (by omega) u6 x6_4 t139 [.int .i64 t139] (fun k_ => some k_ ≠ (.slice (some ⟨go12, 0, none⟩) x3_4.length co13 : Value).ownBlock) (fun _ => False) rfl rfl ?aP (fun _ hk => hk.elim) ?aF ?aO ?aB ?aS ?aL ?_; (case aP => exact rfl); (case aB => exact (bl0_)); (case aF => exact (fun k_ hk => Kd.fresh' (Kd.R_lt (ra_ HO_3.out)) k_ hk)); (case aO => exact (by (with_reducible repeat (first | apply Kd.Q_alloc | apply Kd.Q_drewN | apply Kd.Q_drew)); exact Kd.Q_mono HO_6.out (fun _ hk => hk.2))); (case aS => exact (below_size (bl0_))); (case aL => have := LMc36.out; omega); intro v143 w41 ho hb hg hat; rw [← Ny142.out] at ho; replace HO_3 := a0_ (Kd.R_after (ok := (fun _ => True)) (by (with_reducible repeat (first | apply Kd.R_alloc | apply Kd.R_drewN | apply Kd.R_drew)); exact Kd.R_mono HO_3.out (fun _ hk => ⟨trivial, hk⟩)) hg hat); replace HO_7 := a0_ (Kd.R_over' (ra_ HO_7.out) (Kd.Q_typed (by (with_reducible repeat (first | apply Kd.Q_alloc | apply Kd.Q_drewN | apply Kd.Q_drew)); exact HO_6.out)) (by decide) hg); replace HB := a0_ (hb); have HO144 := a0_ (ho); clear HO_6; clear ho hb hg hat))
                           (try simp only [← hl3_4])
                           go_roundg k4
                           case measure => have := HK1.out; have := HK2.out; have := HK3.out; have := HK4.out; omega
                           case rel => exact ⟨(y141), (y142), (wrap64 (x8_4 + 1)), rs_, H', ⟨by have := HK1.out; have := HK2.out; have := HK3.out; have := HK4.out; omega⟩, ⟨by (try simp only [hl3_3]); (try simp only [hl3_4]); (with_reducible repeat (first | apply Kd.R_alloc | apply Kd.R_drewN | apply Kd.R_drew)); exact Kd.R_mono HO_3.out (fun _ hk => hk.2)⟩, ⟨by (try simp only [hl3_3]); (try simp only [hl3_4]); (with_reducible repeat (first | apply Kd.Q_alloc | apply Kd.Q_drewN | apply Kd.Q_drew)); exact HO144.out⟩, ⟨by (try simp only [hl3_3]); (try simp only [hl3_4]); (with_reducible repeat (first | apply Kd.R_alloc | apply Kd.R_drewN | apply Kd.R_drew)); exact HO_7.out⟩, ⟨bl0_⟩⟩
                          ·rw [if_neg c36] at H
                           exact absurd H (by simp)
                         ·rw [if_neg c34] at H
                          have c34b0 : decide ((rd x3_4 t139) < 0) = false := decide_eq_false c34
                          clear c34
                          have H' := Aside0.mk H
                          clear H
                          obtain ⟨Ao42, co42, eo42⟩ := Kd.R_slice HO_7.out
                          subst eo42
                          have p138 : 0 ≤ (x8_4 : Int) := od_
                          have q138 : x8_4 < (t132.length : Int) := od_
                          obtain ⟨ad138, e138, hx138_0, hx138_1⟩ := at_T56 (Kd.R_reads' HO_7.out).2.2 x8_4 p138 q138
                          cases e138
                          replace p138 := eq_true p138
                          replace q138 := eq_true q138
                          go_wp2_with (first | ((with_reducible refine gate_callee (f := 64) rfl ?_); refine goesL_ (some 58) rfl rfl Tryz.func64 kr_ rfl #[.slice (some ad131) l0.length c0, .agg #[.int .i64 ((rd_T56 t132 x8_4).f0), .int .i64 ((rd_T56 t132 x8_4).f1)]] rfl ta_ ?_; (with_reducible refine (spec_l02Index.calls k4 _ _ l0 ((rd_T56 t132 x8_4).f0) ((rd_T56 t132 x8_4).f1) t139 _ ?side1 ?side2 A30.out).mono ?_); (case side1 => exact ca_ (Kd.C_below HR0.out HB.out)); (case side2 => exact HC0.out); rintro e w43 ⟨rfl, hb⟩; refine ⟨_, rfl, ?_⟩; replace HO_3 := a0_ (Kd.R_below (ra_ HO_3.out) hb); replace HO_6 := a0_ (Kd.Q_below (by (with_reducible repeat (first | apply Kd.Q_alloc | apply Kd.Q_drewN | apply Kd.Q_drew)); exact HO_6.out) hb); replace HO_7 := a0_ (Kd.R_below (ra_ HO_7.out) hb); replace HB := a0_ (below_step (bl0_) hb); (try clear hb); have p140 : 0 ≤ (t139 : Int) := od_; have q140 : t139 < (x3_4.length : Int) := od_; obtain ⟨ad140, e140, hx140_0⟩ := Kd.at_int (Kd.R_reads' HO_3.out).2.2 t139 p140 q140; obtain rfl : (⟨go12, 0, none⟩ : Addr) = ad140 := (by injection e140); (first | simp only [add_plain] at hx140_0 | simp only [add_at] at hx140_0 | simp only [Addr.add, Nat.zero_add] at hx140_0 | skip); replace p140 := eq_true p140; replace q140 := eq_true q140))
                          (try simp only [← hl3_4])
                          go_roundg k4
                          case measure => have := HK1.out; have := HK2.out; have := HK3.out; have := HK4.out; omega
                          case rel => exact ⟨(x3_4), (x6_4), (wrap64 (x8_4 + 1)), rs_, H', ⟨by have := HK1.out; have := HK2.out; have := HK3.out; have := HK4.out; omega⟩, ⟨by (try simp only [hl3_3]); (try simp only [hl3_4]); (with_reducible repeat (first | apply Kd.R_alloc | apply Kd.R_drewN | apply Kd.R_drew)); exact HO_3.out⟩, ⟨by (try simp only [hl3_3]); (try simp only [hl3_4]); (with_reducible repeat (first | apply Kd.Q_alloc | apply Kd.Q_drewN | apply Kd.Q_drew)); exact HO_6.out⟩, ⟨by (try simp only [hl3_3]); (try simp only [hl3_4]); (with_reducible repeat (first | apply Kd.R_alloc | apply Kd.R_drewN | apply Kd.R_drew)); exact HO_7.out⟩, ⟨bl0_⟩⟩
                        ·rw [if_neg c33] at H
                         exact absurd H (by simp)
                       ·rw [if_neg c32] at H
                        exact absurd H (by simp)
                      ·rw [if_neg c31] at H
                       have c31b0 : decide (0 ≤ t139) = false := decide_eq_false c31
                       clear c31
                       have H' := Aside0.mk H
                       clear H
                       obtain ⟨Ao44, co44, eo44⟩ := Kd.R_slice HO_7.out
                       subst eo44
                       have p138 : 0 ≤ (x8_4 : Int) := od_
                       have q138 : x8_4 < (t132.length : Int) := od_
                       obtain ⟨ad138, e138, hx138_0, hx138_1⟩ := at_T56 (Kd.R_reads' HO_7.out).2.2 x8_4 p138 q138
                       cases e138
                       replace p138 := eq_true p138
                       replace q138 := eq_true q138
                       go_wp2_with (first | ((with_reducible refine gate_callee (f := 64) rfl ?_); refine goesL_ (some 58) rfl rfl Tryz.func64 kr_ rfl #[.slice (some ad131) l0.length c0, .agg #[.int .i64 ((rd_T56 t132 x8_4).f0), .int .i64 ((rd_T56 t132 x8_4).f1)]] rfl ta_ ?_; (with_reducible refine (spec_l02Index.calls k4 _ _ l0 ((rd_T56 t132 x8_4).f0) ((rd_T56 t132 x8_4).f1) t139 _ ?side1 ?side2 A30.out).mono ?_); (case side1 => exact ca_ (Kd.C_below HR0.out HB.out)); (case side2 => exact HC0.out); rintro e w45 ⟨rfl, hb⟩; refine ⟨_, rfl, ?_⟩; replace HO_3 := a0_ (Kd.R_below (ra_ HO_3.out) hb); replace HO_6 := a0_ (Kd.Q_below (by (with_reducible repeat (first | apply Kd.Q_alloc | apply Kd.Q_drewN | apply Kd.Q_drew)); exact HO_6.out) hb); replace HO_7 := a0_ (Kd.R_below (ra_ HO_7.out) hb); replace HB := a0_ (below_step (bl0_) hb); (try clear hb)))
                       (try simp only [← hl3_4])
                       go_roundg k4
                       case measure => have := HK1.out; have := HK2.out; have := HK3.out; have := HK4.out; omega
                       case rel => exact ⟨(x3_4), (x6_4), (wrap64 (x8_4 + 1)), rs_, H', ⟨by have := HK1.out; have := HK2.out; have := HK3.out; have := HK4.out; omega⟩, ⟨by (try simp only [hl3_3]); (try simp only [hl3_4]); (with_reducible repeat (first | apply Kd.R_alloc | apply Kd.R_drewN | apply Kd.R_drew)); exact HO_3.out⟩, ⟨by (try simp only [hl3_3]); (try simp only [hl3_4]); (with_reducible repeat (first | apply Kd.Q_alloc | apply Kd.Q_drewN | apply Kd.Q_drew)); exact HO_6.out⟩, ⟨by (try simp only [hl3_3]); (try simp only [hl3_4]); (with_reducible repeat (first | apply Kd.R_alloc | apply Kd.R_drewN | apply Kd.R_drew)); exact HO_7.out⟩, ⟨bl0_⟩⟩
                     ·rw [if_neg c29] at H
                      exact absurd H (by simp)
                    ·rw [if_neg c28] at H
                     exact absurd H (by simp)
                   ·rw [if_neg c27] at H
                    have c27b0 : decide (x8_4 < 4) = false := decide_eq_false c27
                    clear c27
                    have H' := Aside0.mk H
                    clear H
                    go_wp2
                    (try simp only [← hl3_3, ← hl3_4])
                    go_roundg k4
                    case measure => have := HK1.out; have := HK2.out; have := HK3.out; have := HK4.out; omega
                    case rel => exact ⟨(x3_4), (x6_4), H', ⟨by have := HK1.out; have := HK2.out; have := HK3.out; have := HK4.out; omega⟩, ⟨by (try simp only [hl3_3]); (try simp only [hl3_4]); (with_reducible repeat (first | apply Kd.R_alloc | apply Kd.R_drewN | apply Kd.R_drew)); exact HO_3.out⟩, ⟨by (try simp only [hl3_3]); (try simp only [hl3_4]); (with_reducible repeat (first | apply Kd.Q_alloc | apply Kd.Q_drewN | apply Kd.Q_drew)); exact HO_6.out⟩, ⟨bl0_⟩⟩
                ·rw [if_neg c23] at H
                 exact absurd H (by simp)
               ·rw [if_neg c21] at H
                exact absurd H (by simp)
              ·rw [if_neg c20] at H
               exact absurd H (by simp)
             ·rw [if_neg c19] at H
              exact absurd H (by simp)
            ·rw [if_neg c18] at H
             have c18b0 : decide (0 < (x6_3.length : Int)) = false := decide_eq_false c18
             have c18b1 : decide (0 < x6_3.length) = false := decide_eq_false (by omega)
             clear c18
             have H' := Aside0.mk H
             clear H
             obtain ⟨Ao46, co46, eo46, _⟩ := Kd.Q_slice HO_6.out
             subst eo46
             go_wp2
             (try simp only [← hl3_3])
             go_roundg k3
             case measure => have := HK1.out; have := HK2.out; have := HK3.out; omega
             case rel => exact ⟨(x3_3), (wrap64 (x5_2 + 1)), rs_, H', ⟨by have := HK1.out; have := HK2.out; have := HK3.out; omega⟩, ⟨by (try simp only [hl3_3]); (with_reducible repeat (first | apply Kd.R_alloc | apply Kd.R_drewN | apply Kd.R_drew)); exact Kd.R_mono HO_3.out (fun _ hk => trivial)⟩, ⟨bl0_⟩⟩
        ·rw [if_neg c9] at H
         exact absurd H (by simp)
       ·rw [if_neg c8] at H
        exact absurd H (by simp)
      ·rw [if_neg c7] at H
       have c7b0 : decide (x5_2 < (l0.length : Int)) = false := decide_eq_false c7
       clear c7
       obtain rfl := Option.some.inj H
       go_wp2
       go_ret
       exact ⟨_, er_, ra_ HO_3.out, bl0_⟩
end Go.Proofs.YtmdjkmfocgelnaaGreatDoor.PFnAllNets
