/- Over the kit's printer by a driver of mine (hprint.py), with parts by hand: functions of the program as Lean functions, and that each call comes to exactly these answers. -/
import Derived.Test.YtaaodakmelihaaaGreatPFnPiecesx0
import Derived.Test.YtaaodakmelihaaaGreatPFnPiecesx9
import Derived.Test.YtaaodakmelihaaaGreatPFnPiecesx17
import Derived.Test.YtaaodakmelihaaaGreatPFnPiecesx18
namespace Go.Proofs.YtaaodakmelihaaaGreat.PFnPieces
open Go.RowKit Go.Proofs.YtaaodakmelihaaaGreatW.PrintWords Go.Proofs.YtaaodakmelihaaaGreatW.PrintLast Go.Proofs.YtaaodakmelihaaaGreatW.PrintMore
attribute [local go_sem] max2_int min2_int max_two min_two max_three min_three max_four min_four   -- for this text's walks alone
set_option linter.unusedVariables false
set_option linter.unusedSimpArgs false

/-! ### spec_l11Alike: function 23 -/
mutual
def spec_l11Alike.l0 : Nat → List (List (S60)) → List (List (S60)) → Int → Option (Bool)
 | 0, _, _, _ => none
 | k + 1, x5, x6, x7 => if x7 < (x5.length : Int) then (spec_l11Alike.l1 k x5 x6 x7 0) else (some false)
def spec_l11Alike.l1 : Nat → List (List (S60)) → List (List (S60)) → Int → Int → Option (Bool)
 | 0, _, _, _, _ => none
 | k + 1, x5, x6, x7, x8 => if x8 < (x6.length : Int) then (if 0 ≤ x7 then (if x7 < (x5.length : Int) then (if 0 ≤ x8 then ((spec_CompareShapes.f k (rd_L3 x5 x7) (rd_L3 x6 x8)).bind fun t546 => (if t546 = 0 then (some true) else (spec_l11Alike.l1 k x5 x6 x7 (wrap64 (x8 + 1))))) else (none)) else (none)) else (none)) else (spec_l11Alike.l0 k x5 x6 (wrap64 (x7 + 1)))
end
def spec_l11Alike.f (k : Nat) (l0_0 : List (S60)) (a0_1 : Int) (a0_2 : Bool) (l1_0 : List (S60)) (a1_1 : Int) (a1_2 : Bool) : Option (Bool) := (spec_l11Forms.f k l0_0 a0_1 a0_2).bind fun t538 => ((spec_l11Forms.f k l1_0 a1_1 a1_2).bind fun t541 => (spec_l11Alike.l0 k t538 t541 0))
theorem spec_l11Alike.mono_l : ∀ k, (∀ y0 y1 y2, LeO (spec_l11Alike.l0 k y0 y1 y2) (spec_l11Alike.l0 (k + 1) y0 y1 y2)) ∧ (∀ y0 y1 y2 y3, LeO (spec_l11Alike.l1 k y0 y1 y2 y3) (spec_l11Alike.l1 (k + 1) y0 y1 y2 y3))
 | 0 => ⟨fun _ _ _ r h => by simp [spec_l11Alike.l0] at h, fun _ _ _ _ r h => by simp [spec_l11Alike.l1] at h⟩
 | k + 1 => by
  obtain ⟨ih0, ih1⟩ := spec_l11Alike.mono_l k
  refine ⟨?_, ?_⟩
  ·intro y0 y1 y2
   unfold spec_l11Alike.l0
   with_reducible (repeat' first | exact ih0 _ _ _ | exact ih1 _ _ _ _ | exact spec_CompareShapes.mono _ _ _ | exact spec_l11Forms.mono _ _ _ _ | exact LeO.refl _ | exact LeO.none _ | refine LeO.ite ?_ ?_ | refine LeO.bind ?_ (fun _ => ?_))
  ·intro y0 y1 y2 y3
   unfold spec_l11Alike.l1
   with_reducible (repeat' first | exact ih0 _ _ _ | exact ih1 _ _ _ _ | exact spec_CompareShapes.mono _ _ _ | exact spec_l11Forms.mono _ _ _ _ | exact LeO.refl _ | exact LeO.none _ | refine LeO.ite ?_ ?_ | refine LeO.bind ?_ (fun _ => ?_))
theorem spec_l11Alike.mono : ∀ a0 a1 a2 a3 a4 a5 k, LeO (spec_l11Alike.f k a0 a1 a2 a3 a4 a5) (spec_l11Alike.f (k + 1) a0 a1 a2 a3 a4 a5) := by
 intro a0 a1 a2 a3 a4 a5 k
 obtain ⟨ih0, ih1⟩ := spec_l11Alike.mono_l k
 unfold spec_l11Alike.f
 with_reducible (repeat' first | exact ih0 _ _ _ | exact ih1 _ _ _ _ | exact spec_CompareShapes.mono _ _ _ | exact spec_l11Forms.mono _ _ _ _ | exact LeO.refl _ | exact LeO.none _ | refine LeO.ite ?_ ?_ | refine LeO.bind ?_ (fun _ => ?_))
def spec_l11Alike.T8 : Bool × List (List Nat × List Nat) := (true, [([], []), ([], []), ([0, 1], [0, 1]), ([2], [2]), ([], []), ([], []), ([4, 5], [4, 5]), ([6], [6]), ([3, 7], [3, 7]), ([8], [8])])
def spec_l11Alike.B8 : List Nat := [0, 0, 3, 7, 0, 0, 48, 112, 255, 511]
theorem spec_l11Alike.tab8 : rtab .any (opsOf Tryz.f23 8) = spec_l11Alike.T8 := by kernel_rfl
theorem spec_l11Alike.bits8 : waitsOk spec_l11Alike.T8.2 spec_l11Alike.B8 = true := by kernel_rfl
set_option maxHeartbeats 8000000 in
set_option maxRecDepth 100000 in
theorem spec_l11Alike.calls (k : Nat) (A0_0 : Option Addr) (c0_0 : Nat) (l0_0 : List (S60)) (a0_1 : Int) (a0_2 : Bool) (A1_0 : Option Addr) (c1_0 : Nat) (l1_0 : List (S60)) (a1_1 : Int) (a1_2 : Bool) (r : Bool) (w : World) (hr0_0 : Kd.C k60 w A0_0 l0_0.length l0_0) (hc0_0 : l0_0.length ≤ c0_0) (hr1_0 : Kd.C k60 w A1_0 l1_0.length l1_0) (hc1_0 : l1_0.length ≤ c1_0) (h : spec_l11Alike.f k l0_0 a0_1 a0_2 l1_0 a1_1 a1_2 = some r) :
  Calls Tryz.prog 23 #[.agg #[.slice A0_0 l0_0.length c0_0, .int .i64 a0_1, .bool a0_2], .agg #[.slice A1_0 l1_0.length c1_0, .int .i64 a1_1, .bool a1_2]] w fun e w' => e = .returned (.bool r) ∧ Below w.heap.size w w' := by
 have hu26 := Tryz.underlying26
 have HR0_0 := Aside0.mk hr0_0
 have HC0_0 := Aside0.mk hc0_0
 clear hr0_0 hc0_0
 have HR1_0 := Aside0.mk hr1_0
 have HC1_0 := Aside0.mk hc1_0
 clear hr1_0 hc1_0
 have HB := a0_ (Below.refl w.heap.size w)
 have H := h
 clear h
 unfold spec_l11Alike.f at H
 obtain ⟨t538, A3, H⟩ := bs_ H
 obtain ⟨t541, A4, H⟩ := bs_ H
 have H' := Aside0.mk H
 clear H
 go_enter Tryz.func23, Tryz.ntmps23
 try go_wp2_with (first | ((with_reducible refine gate_dst (N := 2) rfl ?_); refine bx_ (N := 2) (cs := #[.slice A0_0 l0_0.length c0_0, .int .i64 a0_1, .bool a0_2]) (t := 26) ?_; intro gb536 hg w5 hbox hb; have BK536 := a0_ (hbox); have GW536 := a0_ ((sz_ hg (bl0_) : w.heap.size ≤ gb536)); have GE536 := a0_ ((sz_ hg (bl0_) : w.heap.size ≤ gb536)); replace HB := a0_ (below_step (bl0_) hb); clear hb hbox hg) | ((with_reducible refine gate_dst (N := 3) rfl ?_); refine bx_ (N := 3) (cs := #[.slice A1_0 l1_0.length c1_0, .int .i64 a1_1, .bool a1_2]) (t := 26) ?_; intro gb537 hg w6 hbox hb; have BK537 := a0_ (hbox); have GW537 := a0_ ((sz_ hg (bl1_ GE536.out) : w.heap.size ≤ gb537)); have GE537 := a0_ ((sz_ hg (bl1_ GE536.out) : w.heap.size ≤ gb537)); replace HB := a0_ (below_step (bl1_ GE536.out) hb); have NB536_537 := a0_ ((nl_ hg BK536.out : gb536 ≠ gb537)); have NB537_536 := a0_ ((ng_ hg BK536.out : gb537 ≠ gb536)); replace BK536 := a0_ (bb_ BK536.out hb); clear hb hbox hg))
 replace BK536 := a0_ (blk_drew BK536.out)
 replace BK537 := a0_ (blk_drew BK537.out)
 replace HB := a0_ (below_drew1 HB.out)
 refine start_ (n := 6) (S := fun w' => w'.cell? ⟨gb536, 0, none⟩ = some (.slice A0_0 l0_0.length c0_0) ∧ w'.cell? ⟨gb536, 1, none⟩ = some (.int .i64 a0_1) ∧ w'.cell? ⟨gb536, 2, none⟩ = some (.bool a0_2) ∧ w'.cell? ⟨gb537, 0, none⟩ = some (.slice A1_0 l1_0.length c1_0) ∧ w'.cell? ⟨gb537, 1, none⟩ = some (.int .i64 a1_1) ∧ w'.cell? ⟨gb537, 2, none⟩ = some (.bool a1_2)) (ds := []) (mk_ 0 6) kr_ rfl rfl ⟨(blk_cell BK536.out 0).trans rfl, (blk_cell BK536.out 1).trans rfl, (blk_cell BK536.out 2).trans rfl, (blk_cell BK537.out 0).trans rfl, (blk_cell BK537.out 1).trans rfl, (blk_cell BK537.out 2).trans rfl⟩ (fun hHeld => ?_)
 generalize w6.drew = w7 at BK536 BK537 HB hHeld ⊢
 refine take_ (i := 0) (N := some 9) (v := ?_) (a' := ?_) (mk_ 1 5) rfl rfl kr_ (fun _ _ _ h => h) (Or.inl ⟨by rfl, ?_⟩) hHeld ?_ ?_
 rotate_left
 ·rintro w' ⟨s0, s1, s2, s3, s4, s5⟩
  go_simp
  with_reducible rfl
 rotate_left
 ·simp only [sp_]
  rfl
 refine take_ (i := 2) (N := some 11) (v := ?_) (a' := ?_) #[true, false, true, false, false, false] rfl rfl kr_ (fun _ _ _ h => h) (Or.inl ⟨by rfl, ?_⟩) hHeld ?_ ?_
 rotate_left
 ·rintro w' ⟨s0, s1, s2, s3, s4, s5⟩
  go_simp
  with_reducible rfl
 rotate_left
 ·simp only [sp_]
  rfl
 refine one_ (i := 1) (N := some 10) (mk_ 3 3) rfl rfl kr_ (by decide) (fun K hK => ?_)
 refine goes_ Tryz.func22 kr_ rfl #[.agg #[.slice A0_0 l0_0.length c0_0, .int .i64 a0_1, .bool a0_2]] (by rfl) rfl rfl ta_ ?_
 with_reducible refine (spec_l11Forms.calls k _ _ l0_0 a0_1 a0_2 t538 _ ?side1 ?side2 A3.out).mono ?_
 (case side1 => exact ca_ (Kd.C_below HR0_0.out HB.out))
 (case side2 => exact HC0_0.out)
 rintro e w8 ⟨v539, rfl, ho0, hb⟩
 refine ⟨_, rfl, ?_⟩
 have HO540 := a0_ (Kd.V_lower (Kd.V_mono (ok' := fun k_ => k_ ≠ gb536 ∧ k_ ≠ gb537) ho0 (fun k_ hk_ => ⟨(Kd.freshB (g := gb536) (o := .cells #[.slice A0_0 l0_0.length c0_0, .int .i64 a0_1, .bool a0_2] 26 (0, 0)) (bk_ BK536.out) k_ hk_), (Kd.freshB (g := gb537) (o := .cells #[.slice A1_0 l1_0.length c1_0, .int .i64 a1_1, .bool a1_2] 26 (0, 0)) (bk_ BK537.out) k_ hk_)⟩)) (below_size (bl2_ GE536.out GE537.out)))
 replace BK536 := a0_ (bb_ BK536.out hb)
 replace BK537 := a0_ (bb_ BK537.out hb)
 replace HB := a0_ (below_step (bl2_ GE536.out GE537.out) hb)
 (try clear hb)
 (try clear hb2)
 (try clear hk)
 (try clear hi)
 (try clear ho0)
 refine hK.out _ _ ⟨(blk_cell BK536.out 0).trans rfl, (blk_cell BK536.out 1).trans rfl, (blk_cell BK536.out 2).trans rfl, (blk_cell BK537.out 0).trans rfl, (blk_cell BK537.out 1).trans rfl, (blk_cell BK537.out 2).trans rfl⟩ (fun hHeld => ?_)
 clear hK K
 refine nm_ ?_
 refine one_ (i := 3) (N := some 12) (mk_ 4 2) rfl rfl kr_ (by decide) (fun K hK => ?_)
 refine goes_ Tryz.func22 kr_ rfl #[.agg #[.slice A1_0 l1_0.length c1_0, .int .i64 a1_1, .bool a1_2]] (by rfl) rfl rfl ta_ ?_
 with_reducible refine (spec_l11Forms.calls k _ _ l1_0 a1_1 a1_2 t541 _ ?side1 ?side2 A4.out).mono ?_
 (case side1 => exact ca_ (Kd.C_below HR1_0.out HB.out))
 (case side2 => exact HC1_0.out)
 rintro e w9 ⟨v542, rfl, ho0, hb⟩
 refine ⟨_, rfl, ?_⟩
 replace HO540 := a0_ (Kd.V_below (va_ HO540.out) hb)
 have HO543 := a0_ (Kd.V_lower (Kd.V_mono (ok' := fun k_ => k_ ≠ gb536 ∧ k_ ≠ gb537) ho0 (fun k_ hk_ => ⟨(Kd.freshB (g := gb536) (o := .cells #[.slice A0_0 l0_0.length c0_0, .int .i64 a0_1, .bool a0_2] 26 (0, 0)) (bk_ BK536.out) k_ hk_), (Kd.freshB (g := gb537) (o := .cells #[.slice A1_0 l1_0.length c1_0, .int .i64 a1_1, .bool a1_2] 26 (0, 0)) (bk_ BK537.out) k_ hk_)⟩)) (below_size (bl2_ GE536.out GE537.out)))
 replace BK536 := a0_ (bb_ BK536.out hb)
 replace BK537 := a0_ (bb_ BK537.out hb)
 replace HB := a0_ (below_step (bl2_ GE536.out GE537.out) hb)
 (try clear hb)
 (try clear hb2)
 (try clear hk)
 (try clear hi)
 (try clear ho0)
 refine hK.out _ _ ⟨(blk_cell BK536.out 0).trans rfl, (blk_cell BK536.out 1).trans rfl, (blk_cell BK536.out 2).trans rfl, (blk_cell BK537.out 0).trans rfl, (blk_cell BK537.out 1).trans rfl, (blk_cell BK537.out 2).trans rfl⟩ (fun hHeld => ?_)
 clear hK K
 refine nm_ ?_
 refine pure_ (i := 4) (N := some 5) (v := ?_) (a' := ?_) (mk_ 5 1) rfl rfl kr_ (fun _ _ _ h => h) (Or.inl ⟨by rfl, ?_⟩) ?_ ?_
 rotate_left
 ·intro w'
  go_simp
  with_reducible rfl
 rotate_left
 ·simp only [sp_]
  rfl
 refine pure_ (i := 5) (N := some 6) (v := ?_) (a' := ?_) (mk_ 6 0) rfl rfl kr_ (fun _ _ _ h => h) (Or.inl ⟨by rfl, ?_⟩) ?_ ?_
 rotate_left
 ·intro w'
  go_simp
  with_reducible rfl
 rotate_left
 ·simp only [sp_]
  rfl
 refine done_ kr_ ?_
 try go_wp2
 go_loopg [7] k (fun kq v7 w' => ∃ (x7_1 : Int), v7 = .int .i64 x7_1 ∧ Aside0 (spec_l11Alike.l0 kq t538 t541 x7_1 = some r) ∧ Aside0 (kq ≤ k) ∧ Aside0 (Kd.V (Kd.slice 60 k60) 24 w' w.heap.size (fun k_ => k_ ≠ gb536 ∧ k_ ≠ gb537) v539 t538) ∧ Aside0 (Kd.V (Kd.slice 60 k60) 24 w' w.heap.size (fun k_ => k_ ≠ gb536 ∧ k_ ≠ gb537) v542 t541) ∧ Aside0 (w'.heap[gb536]? = some (.cells #[(.slice A0_0 l0_0.length c0_0), .int .i64 a0_1, .bool a0_2] 26 (0, 0))) ∧ Aside0 (w'.heap[gb537]? = some (.cells #[(.slice A1_0 l1_0.length c1_0), .int .i64 a1_1, .bool a1_2] 26 (0, 0))) ∧ Aside0 (Below w.heap.size w w'))
 case atStart => exact ⟨(0), rs_, H', ⟨Nat.le_refl _⟩, ⟨va_ HO540.out⟩, ⟨va_ HO543.out⟩, ⟨bk_ BK536.out⟩, ⟨bk_ BK537.out⟩, ⟨bl2_ GE536.out GE537.out⟩⟩
 case round =>
  clear H'
  try clear c1
  try clear c2
  try clear p2
  obtain ⟨x7_1, rfl, HA, HK1, HO_5, HO_6, BK536, BK537, HB⟩ := hrel
  cases gk with
  | zero => exact absurd HA.out (by simp [spec_l11Alike.l0])
  | succ k1 =>
   have H := HA.out
   clear HA
   simp only [spec_l11Alike.l0] at H
   by_cases c10 : x7_1 < (t538.length : Int)
   ·rw [if_pos c10] at H
    have c10b0 : decide (x7_1 < (t538.length : Int)) = true := decide_eq_true c10
    clear c10
    have H' := Aside0.mk H
    clear H
    obtain ⟨Ao11, co11, eo11⟩ := Kd.V_slice HO_5.out
    subst eo11
    go_wp2
    go_loopg [8] k1 (fun kq v8 w' => ∃ (x8_2 : Int), v8 = .int .i64 x8_2 ∧ Aside0 (spec_l11Alike.l1 kq t538 t541 x7_1 x8_2 = some r) ∧ Aside0 (kq ≤ k1) ∧ Aside0 (Kd.V (Kd.slice 60 k60) 24 w' w.heap.size (fun k_ => k_ ≠ gb536 ∧ k_ ≠ gb537) (.slice Ao11 t538.length co11) t538) ∧ Aside0 (Kd.V (Kd.slice 60 k60) 24 w' w.heap.size (fun k_ => k_ ≠ gb536 ∧ k_ ≠ gb537) v542 t541) ∧ Aside0 (w'.heap[gb536]? = some (.cells #[(.slice A0_0 l0_0.length c0_0), .int .i64 a0_1, .bool a0_2] 26 (0, 0))) ∧ Aside0 (w'.heap[gb537]? = some (.cells #[(.slice A1_0 l1_0.length c1_0), .int .i64 a1_1, .bool a1_2] 26 (0, 0))) ∧ Aside0 (Below w.heap.size w w'))
    case atStart => exact ⟨(0), rs_, H', ⟨Nat.le_refl _⟩, ⟨va_ HO_5.out⟩, ⟨va_ HO_6.out⟩, ⟨bk_ BK536.out⟩, ⟨bk_ BK537.out⟩, ⟨bl2_ GE536.out GE537.out⟩⟩
    case round =>
     clear H'
     try clear c1
     try clear c2
     try clear p2
     try clear c10
     try clear c10b0
     try clear p2
     obtain ⟨x8_2, rfl, HA, HK2, HO_5, HO_6, BK536, BK537, HB⟩ := hrel
     cases gk with
     | zero => exact absurd HA.out (by simp [spec_l11Alike.l1])
     | succ k2 =>
      have H := HA.out
      clear HA
      simp only [spec_l11Alike.l1] at H
      by_cases c12 : x8_2 < (t541.length : Int)
      ·rw [if_pos c12] at H
       have c12b0 : decide (x8_2 < (t541.length : Int)) = true := decide_eq_true c12
       clear c12
       by_cases c13 : 0 ≤ x7_1
       ·rw [if_pos c13] at H
        have c13b0 : decide (0 ≤ x7_1) = true := decide_eq_true c13
        clear c13
        by_cases c14 : x7_1 < (t538.length : Int)
        ·rw [if_pos c14] at H
         have c14b0 : decide (x7_1 < (t538.length : Int)) = true := decide_eq_true c14
         clear c14
         by_cases c15 : 0 ≤ x8_2
         ·rw [if_pos c15] at H
          have c15b0 : decide (0 ≤ x8_2) = true := decide_eq_true c15
          clear c15
          obtain ⟨t546, A16, H⟩ := bs_ H
          by_cases c17 : t546 = 0
          ·rw [if_pos c17] at H
           have c17b0 : (t546 == 0) = true := beq_iff_eq.mpr c17
           have c17b1 : (t546 != 0) = false := bne_eq_false_iff_eq.mpr c17
           clear c17
           obtain rfl := Option.some.inj H
           obtain ⟨Ao18, co18, eo18⟩ := Kd.V_slice HO_6.out
           subst eo18
           try go_wp2
           replace HO_5 := a0_ (Kd.V_drew HO_5.out)
           replace HO_6 := a0_ (Kd.V_drew HO_6.out)
           replace BK536 := a0_ (blk_drew BK536.out)
           replace BK537 := a0_ (blk_drew BK537.out)
           replace HB := a0_ (below_drew1 HB.out)
           have p544 : 0 ≤ (x7_1 : Int) := od_
           have q544 : x7_1 < (t538.length : Int) := od_
           obtain ⟨ad544, A544_0, c544_0, e544, hx544_0, hl544_0, hi544_0⟩ := at_L3 (Kd.V_reads' HO_5.out).2.2 x7_1 p544 q544
           cases e544
           obtain ⟨ce544, hce544, hMe544, hcc544⟩ := Kd.V_get HO_5.out [] x7_1 p544 (by first | exact q544 | exact od_ | (have e_ := (Kd.V_reads' HO_5.out).1; omega))
           obtain ⟨ua544_0, uc544_0, rfl, ul544_0, ge544_0⟩ := Kd.FK_slice_open hMe544
           have hv544_0 := hcc544 0 _ rfl
           rw [Nat.add_zero, show ((Kd.slice 60 k60)).sz = 1 from rfl, Nat.mul_one] at hv544_0
           replace hv544_0 := Option.some.inj (hv544_0.symm.trans hx544_0)
           injection hv544_0 with hva_ hvn_ hvc_
           rw [hva_] at ge544_0
           rw [hvc_] at ul544_0
           have HL544_0 := a0_ (show Kd.V k60 60 _ w.heap.size _ _ (rd_L3 t538 x7_1) from Kd.V_mk ul544_0 ge544_0)
           clear hva_ hvn_ hvc_ ge544_0 ul544_0
           clear hcc544 hce544
           have HR544_0 := Aside0.mk hi544_0
           have HC544_0 := Aside0.mk hl544_0
           clear hi544_0 hl544_0
           replace p544 := eq_true p544
           replace q544 := eq_true q544
           have p545 : 0 ≤ (x8_2 : Int) := od_
           have q545 : x8_2 < (t541.length : Int) := od_
           obtain ⟨ad545, A545_0, c545_0, e545, hx545_0, hl545_0, hi545_0⟩ := at_L3 (Kd.V_reads' HO_6.out).2.2 x8_2 p545 q545
           cases e545
           obtain ⟨ce545, hce545, hMe545, hcc545⟩ := Kd.V_get HO_6.out [] x8_2 p545 (by first | exact q545 | exact od_ | (have e_ := (Kd.V_reads' HO_6.out).1; omega))
           obtain ⟨ua545_0, uc545_0, rfl, ul545_0, ge545_0⟩ := Kd.FK_slice_open hMe545
           have hv545_0 := hcc545 0 _ rfl
           rw [Nat.add_zero, show ((Kd.slice 60 k60)).sz = 1 from rfl, Nat.mul_one] at hv545_0
           replace hv545_0 := Option.some.inj (hv545_0.symm.trans hx545_0)
           injection hv545_0 with hva_ hvn_ hvc_
           rw [hva_] at ge545_0
           rw [hvc_] at ul545_0
           have HL545_0 := a0_ (show Kd.V k60 60 _ w.heap.size _ _ (rd_L3 t541 x8_2) from Kd.V_mk ul545_0 ge545_0)
           clear hva_ hvn_ hvc_ ge545_0 ul545_0
           clear hcc545 hce545
           have HR545_0 := Aside0.mk hi545_0
           have HC545_0 := Aside0.mk hl545_0
           clear hi545_0 hl545_0
           replace p545 := eq_true p545
           replace q545 := eq_true q545
           refine start_ (n := 10) (S := fun w' => w'.cell? (ad544.add (x7_1).toNat) = some (.slice A544_0 (rd_L3 t538 x7_1).length c544_0) ∧ w'.cell? (ad545.add (x8_2).toNat) = some (.slice A545_0 (rd_L3 t541 x8_2).length c545_0)) (ds := []) (mk_ 0 10) kr_ rfl rfl ⟨hx544_0, hx545_0⟩ (fun hHeld => ?_); refine with_tabW spec_l11Alike.tab8 spec_l11Alike.bits8 (fun HT_ HW_ => ?_)
           generalize wr.drew = w19 at HO_5 HO_6 BK536 BK537 HB HL544_0 HL545_0 HR544_0 HR545_0 hx544_0 hx545_0 hHeld ⊢
           refine pu_ 0 (some 25) (mk_ 1 9) HT_ ?_
           refine pu_ 1 (some 26) (mk_ 2 8) HT_ ?_
           refine pu_ 2 (some 27) (mk_ 3 7) HT_ ?_
           refine pu_ 4 (some 29) #[true, true, true, false, true, false, false, false, false, false] HT_ ?_
           refine pu_ 5 (some 30) #[true, true, true, false, true, true, false, false, false, false] HT_ ?_
           refine pu_ 6 (some 31) #[true, true, true, false, true, true, true, false, false, false] HT_ ?_
           refine tk_ 3 (some 28) (mk_ 7 3) HT_ HW_ hHeld (hy := .inl ⟨by rfl, by rintro w' ⟨s0, s1⟩; go_simp; with_reducible rfl⟩) ?_
           refine tk_ 7 (some 32) (mk_ 8 2) HT_ HW_ hHeld (hy := .inl ⟨by rfl, by rintro w' ⟨s0, s1⟩; go_simp; with_reducible rfl⟩) ?_
           refine one_ (i := 8) (N := some 33) (mk_ 9 1) rfl rfl (one_of HT_.out kr_) (by decide) (fun K hK => ?_)
           refine goes_ Tryz.func44 kr_ rfl #[.slice A544_0 (rd_L3 t538 x7_1).length c544_0, .slice A545_0 (rd_L3 t541 x8_2).length c545_0] (by rfl) rfl rfl ta_ ?_
           with_reducible refine (spec_CompareShapes.calls k2 _ _ (rd_L3 t538 x7_1) _ _ (rd_L3 t541 x8_2) t546 _ ?side1 ?side2 ?side3 ?side4 A16.out).mono ?_
           (case side1 => repeat (first | exact (by repeat (first | (with_reducible exact HR544_0.out) | (with_reducible refine Kd.C_alloc ?_ _) | (with_reducible refine Kd.C_drewN ?_ _) | (with_reducible refine Kd.C_drew ?_) | exact HR544_0.out)) | (with_reducible refine Kd.C_alloc ?_ _) | (with_reducible refine Kd.C_drewN ?_ _) | (with_reducible refine Kd.C_drew ?_)))
           (case side2 => exact HC544_0.out)
           (case side3 => repeat (first | exact (by repeat (first | (with_reducible exact HR545_0.out) | (with_reducible refine Kd.C_alloc ?_ _) | (with_reducible refine Kd.C_drewN ?_ _) | (with_reducible refine Kd.C_drew ?_) | exact HR545_0.out)) | (with_reducible refine Kd.C_alloc ?_ _) | (with_reducible refine Kd.C_drewN ?_ _) | (with_reducible refine Kd.C_drew ?_)))
           (case side4 => exact HC545_0.out)
           rintro e w20 ⟨rfl, hb⟩
           have HS0_ := (hb.cell (World.block_lt_of_cell? _ _ (hHeld.1))).trans (hHeld.1)
           have HS1_ := (hb.cell (World.block_lt_of_cell? _ _ (hHeld.2))).trans (hHeld.2)
           refine ⟨_, rfl, ?_⟩
           replace HO_5 := a0_ (Kd.V_below (va_ HO_5.out) hb)
           replace HO_6 := a0_ (Kd.V_below (va_ HO_6.out) hb)
           replace HL544_0 := a0_ (Kd.V_below (va_ HL544_0.out) hb)
           replace HL545_0 := a0_ (Kd.V_below (va_ HL545_0.out) hb)
           replace BK536 := a0_ (bb_ BK536.out hb)
           replace BK537 := a0_ (bb_ BK537.out hb)
           replace HR544_0 := a0_ (Kd.C_below (by repeat (first | (with_reducible exact HR544_0.out) | (with_reducible refine Kd.C_alloc ?_ _) | (with_reducible refine Kd.C_drewN ?_ _) | (with_reducible refine Kd.C_drew ?_) | exact HR544_0.out)) hb)
           replace HR545_0 := a0_ (Kd.C_below (by repeat (first | (with_reducible exact HR545_0.out) | (with_reducible refine Kd.C_alloc ?_ _) | (with_reducible refine Kd.C_drewN ?_ _) | (with_reducible refine Kd.C_drew ?_) | exact HR545_0.out)) hb)
           replace HB := a0_ (below_step (bl2_ GE536.out GE537.out) hb)
           (try clear hb)
           (try clear hb2)
           (try clear hk)
           (try clear hi)
           refine hK.out _ _ ⟨HS0_, HS1_⟩ (fun hHeld => ?_)
           clear hK K
           refine nm_ ?_
           refine pu_ 9 (some 34) (mk_ 10 0) HT_ ?_
           refine done_ (done_of HT_.out kr_) ?_
           try go_wp2
           go_ret
           exact ⟨er_, bl2_ GE536.out GE537.out⟩
          ·rw [if_neg c17] at H
           have c17b0 : (t546 == 0) = false := beq_eq_false_iff_ne.mpr c17
           have c17b1 : (t546 != 0) = true := bne_iff_ne.mpr c17
           have H' := Aside0.mk H
           clear H
           obtain ⟨Ao21, co21, eo21⟩ := Kd.V_slice HO_6.out
           subst eo21
           try go_wp2
           replace HO_5 := a0_ (Kd.V_drew HO_5.out)
           replace HO_6 := a0_ (Kd.V_drew HO_6.out)
           replace BK536 := a0_ (blk_drew BK536.out)
           replace BK537 := a0_ (blk_drew BK537.out)
           replace HB := a0_ (below_drew1 HB.out)
           have p544 : 0 ≤ (x7_1 : Int) := od_
           have q544 : x7_1 < (t538.length : Int) := od_
           obtain ⟨ad544, A544_0, c544_0, e544, hx544_0, hl544_0, hi544_0⟩ := at_L3 (Kd.V_reads' HO_5.out).2.2 x7_1 p544 q544
           cases e544
           obtain ⟨ce544, hce544, hMe544, hcc544⟩ := Kd.V_get HO_5.out [] x7_1 p544 (by first | exact q544 | exact od_ | (have e_ := (Kd.V_reads' HO_5.out).1; omega))
           obtain ⟨ua544_0, uc544_0, rfl, ul544_0, ge544_0⟩ := Kd.FK_slice_open hMe544
           have hv544_0 := hcc544 0 _ rfl
           rw [Nat.add_zero, show ((Kd.slice 60 k60)).sz = 1 from rfl, Nat.mul_one] at hv544_0
           replace hv544_0 := Option.some.inj (hv544_0.symm.trans hx544_0)
           injection hv544_0 with hva_ hvn_ hvc_
           rw [hva_] at ge544_0
           rw [hvc_] at ul544_0
           have HL544_0 := a0_ (show Kd.V k60 60 _ w.heap.size _ _ (rd_L3 t538 x7_1) from Kd.V_mk ul544_0 ge544_0)
           clear hva_ hvn_ hvc_ ge544_0 ul544_0
           clear hcc544 hce544
           have HR544_0 := Aside0.mk hi544_0
           have HC544_0 := Aside0.mk hl544_0
           clear hi544_0 hl544_0
           replace p544 := eq_true p544
           replace q544 := eq_true q544
           have p545 : 0 ≤ (x8_2 : Int) := od_
           have q545 : x8_2 < (t541.length : Int) := od_
           obtain ⟨ad545, A545_0, c545_0, e545, hx545_0, hl545_0, hi545_0⟩ := at_L3 (Kd.V_reads' HO_6.out).2.2 x8_2 p545 q545
           cases e545
           obtain ⟨ce545, hce545, hMe545, hcc545⟩ := Kd.V_get HO_6.out [] x8_2 p545 (by first | exact q545 | exact od_ | (have e_ := (Kd.V_reads' HO_6.out).1; omega))
           obtain ⟨ua545_0, uc545_0, rfl, ul545_0, ge545_0⟩ := Kd.FK_slice_open hMe545
           have hv545_0 := hcc545 0 _ rfl
           rw [Nat.add_zero, show ((Kd.slice 60 k60)).sz = 1 from rfl, Nat.mul_one] at hv545_0
           replace hv545_0 := Option.some.inj (hv545_0.symm.trans hx545_0)
           injection hv545_0 with hva_ hvn_ hvc_
           rw [hva_] at ge545_0
           rw [hvc_] at ul545_0
           have HL545_0 := a0_ (show Kd.V k60 60 _ w.heap.size _ _ (rd_L3 t541 x8_2) from Kd.V_mk ul545_0 ge545_0)
           clear hva_ hvn_ hvc_ ge545_0 ul545_0
           clear hcc545 hce545
           have HR545_0 := Aside0.mk hi545_0
           have HC545_0 := Aside0.mk hl545_0
           clear hi545_0 hl545_0
           replace p545 := eq_true p545
           replace q545 := eq_true q545
           refine start_ (n := 10) (S := fun w' => w'.cell? (ad544.add (x7_1).toNat) = some (.slice A544_0 (rd_L3 t538 x7_1).length c544_0) ∧ w'.cell? (ad545.add (x8_2).toNat) = some (.slice A545_0 (rd_L3 t541 x8_2).length c545_0)) (ds := []) (mk_ 0 10) kr_ rfl rfl ⟨hx544_0, hx545_0⟩ (fun hHeld => ?_); refine with_tabW spec_l11Alike.tab8 spec_l11Alike.bits8 (fun HT_ HW_ => ?_)
           generalize wr.drew = w22 at HO_5 HO_6 BK536 BK537 HB HL544_0 HL545_0 HR544_0 HR545_0 hx544_0 hx545_0 hHeld ⊢
           refine pu_ 0 (some 25) (mk_ 1 9) HT_ ?_
           refine pu_ 1 (some 26) (mk_ 2 8) HT_ ?_
           refine pu_ 2 (some 27) (mk_ 3 7) HT_ ?_
           refine pu_ 4 (some 29) #[true, true, true, false, true, false, false, false, false, false] HT_ ?_
           refine pu_ 5 (some 30) #[true, true, true, false, true, true, false, false, false, false] HT_ ?_
           refine pu_ 6 (some 31) #[true, true, true, false, true, true, true, false, false, false] HT_ ?_
           refine tk_ 3 (some 28) (mk_ 7 3) HT_ HW_ hHeld (hy := .inl ⟨by rfl, by rintro w' ⟨s0, s1⟩; go_simp; with_reducible rfl⟩) ?_
           refine tk_ 7 (some 32) (mk_ 8 2) HT_ HW_ hHeld (hy := .inl ⟨by rfl, by rintro w' ⟨s0, s1⟩; go_simp; with_reducible rfl⟩) ?_
           refine one_ (i := 8) (N := some 33) (mk_ 9 1) rfl rfl (one_of HT_.out kr_) (by decide) (fun K hK => ?_)
           refine goes_ Tryz.func44 kr_ rfl #[.slice A544_0 (rd_L3 t538 x7_1).length c544_0, .slice A545_0 (rd_L3 t541 x8_2).length c545_0] (by rfl) rfl rfl ta_ ?_
           with_reducible refine (spec_CompareShapes.calls k2 _ _ (rd_L3 t538 x7_1) _ _ (rd_L3 t541 x8_2) t546 _ ?side1 ?side2 ?side3 ?side4 A16.out).mono ?_
           (case side1 => repeat (first | exact (by repeat (first | (with_reducible exact HR544_0.out) | (with_reducible refine Kd.C_alloc ?_ _) | (with_reducible refine Kd.C_drewN ?_ _) | (with_reducible refine Kd.C_drew ?_) | exact HR544_0.out)) | (with_reducible refine Kd.C_alloc ?_ _) | (with_reducible refine Kd.C_drewN ?_ _) | (with_reducible refine Kd.C_drew ?_)))
           (case side2 => exact HC544_0.out)
           (case side3 => repeat (first | exact (by repeat (first | (with_reducible exact HR545_0.out) | (with_reducible refine Kd.C_alloc ?_ _) | (with_reducible refine Kd.C_drewN ?_ _) | (with_reducible refine Kd.C_drew ?_) | exact HR545_0.out)) | (with_reducible refine Kd.C_alloc ?_ _) | (with_reducible refine Kd.C_drewN ?_ _) | (with_reducible refine Kd.C_drew ?_)))
           (case side4 => exact HC545_0.out)
           rintro e w23 ⟨rfl, hb⟩
           have HS0_ := (hb.cell (World.block_lt_of_cell? _ _ (hHeld.1))).trans (hHeld.1)
           have HS1_ := (hb.cell (World.block_lt_of_cell? _ _ (hHeld.2))).trans (hHeld.2)
           refine ⟨_, rfl, ?_⟩
           replace HO_5 := a0_ (Kd.V_below (va_ HO_5.out) hb)
           replace HO_6 := a0_ (Kd.V_below (va_ HO_6.out) hb)
           replace HL544_0 := a0_ (Kd.V_below (va_ HL544_0.out) hb)
           replace HL545_0 := a0_ (Kd.V_below (va_ HL545_0.out) hb)
           replace BK536 := a0_ (bb_ BK536.out hb)
           replace BK537 := a0_ (bb_ BK537.out hb)
           replace HR544_0 := a0_ (Kd.C_below (by repeat (first | (with_reducible exact HR544_0.out) | (with_reducible refine Kd.C_alloc ?_ _) | (with_reducible refine Kd.C_drewN ?_ _) | (with_reducible refine Kd.C_drew ?_) | exact HR544_0.out)) hb)
           replace HR545_0 := a0_ (Kd.C_below (by repeat (first | (with_reducible exact HR545_0.out) | (with_reducible refine Kd.C_alloc ?_ _) | (with_reducible refine Kd.C_drewN ?_ _) | (with_reducible refine Kd.C_drew ?_) | exact HR545_0.out)) hb)
           replace HB := a0_ (below_step (bl2_ GE536.out GE537.out) hb)
           (try clear hb)
           (try clear hb2)
           (try clear hk)
           (try clear hi)
           refine hK.out _ _ ⟨HS0_, HS1_⟩ (fun hHeld => ?_)
           clear hK K
           refine nm_ ?_
           refine pu_ 9 (some 34) (mk_ 10 0) HT_ ?_
           refine done_ (done_of HT_.out kr_) ?_
           try go_wp2
           go_roundg k2
           case measure => have := HK1.out; have := HK2.out; omega
           case rel => exact ⟨(wrap64 (x8_2 + 1)), rs_, H', ⟨by have := HK1.out; have := HK2.out; omega⟩, ⟨va_ HO_5.out⟩, ⟨va_ HO_6.out⟩, ⟨bk_ BK536.out⟩, ⟨bk_ BK537.out⟩, ⟨bl2_ GE536.out GE537.out⟩⟩
         ·rw [if_neg c15] at H
          exact absurd H (by simp)
        ·rw [if_neg c14] at H
         exact absurd H (by simp)
       ·rw [if_neg c13] at H
        exact absurd H (by simp)
      ·rw [if_neg c12] at H
       have c12b0 : decide (x8_2 < (t541.length : Int)) = false := decide_eq_false c12
       clear c12
       have H' := Aside0.mk H
       clear H
       obtain ⟨Ao24, co24, eo24⟩ := Kd.V_slice HO_6.out
       subst eo24
       go_wp2
       go_roundg k2
       case measure => have := HK1.out; have := HK2.out; omega
       case rel => exact ⟨(wrap64 (x7_1 + 1)), rs_, H', ⟨by have := HK1.out; have := HK2.out; omega⟩, ⟨va_ HO_5.out⟩, ⟨va_ HO_6.out⟩, ⟨bk_ BK536.out⟩, ⟨bk_ BK537.out⟩, ⟨bl2_ GE536.out GE537.out⟩⟩
   ·rw [if_neg c10] at H
    have c10b0 : decide (x7_1 < (t538.length : Int)) = false := decide_eq_false c10
    clear c10
    obtain rfl := Option.some.inj H
    obtain ⟨Ao25, co25, eo25⟩ := Kd.V_slice HO_5.out
    subst eo25
    go_wp2
    go_ret
    exact ⟨er_, bl2_ GE536.out GE537.out⟩

/-! ### spec_AreAlike: function 10 -/
def spec_AreAlike.f (k : Nat) (l0_0 : List (S60)) (a0_1 : Int) (a0_2 : Bool) (l1_0 : List (S60)) (a1_1 : Int) (a1_2 : Bool) : Option (Bool) := (spec_IsPiece.f k l0_0 a0_1 a0_2).bind fun t549 => (if t549 = true then ((spec_IsPiece.f k l1_0 a1_1 a1_2).bind fun t550 => (if t550 = true then ((spec_l11Alike.f k l0_0 a0_1 a0_2 l1_0 a1_1 a1_2).bind fun t551 => (some t551)) else (some false))) else (some false))
theorem spec_AreAlike.mono : ∀ a0 a1 a2 a3 a4 a5 k, LeO (spec_AreAlike.f k a0 a1 a2 a3 a4 a5) (spec_AreAlike.f (k + 1) a0 a1 a2 a3 a4 a5) := by
 intro a0 a1 a2 a3 a4 a5 k
 unfold spec_AreAlike.f
 with_reducible (repeat' first | exact spec_IsPiece.mono _ _ _ _ | exact spec_l11Alike.mono _ _ _ _ _ _ _ | exact LeO.refl _ | exact LeO.none _ | refine LeO.ite ?_ ?_ | refine LeO.bind ?_ (fun _ => ?_))
set_option maxHeartbeats 8000000 in
set_option maxRecDepth 100000 in
theorem spec_AreAlike.calls (k : Nat) (A0_0 : Option Addr) (c0_0 : Nat) (l0_0 : List (S60)) (a0_1 : Int) (a0_2 : Bool) (A1_0 : Option Addr) (c1_0 : Nat) (l1_0 : List (S60)) (a1_1 : Int) (a1_2 : Bool) (r : Bool) (w : World) (hr0_0 : Kd.C k60 w A0_0 l0_0.length l0_0) (hc0_0 : l0_0.length ≤ c0_0) (hr1_0 : Kd.C k60 w A1_0 l1_0.length l1_0) (hc1_0 : l1_0.length ≤ c1_0) (h : spec_AreAlike.f k l0_0 a0_1 a0_2 l1_0 a1_1 a1_2 = some r) :
  Calls Tryz.prog 10 #[.agg #[.slice A0_0 l0_0.length c0_0, .int .i64 a0_1, .bool a0_2], .agg #[.slice A1_0 l1_0.length c1_0, .int .i64 a1_1, .bool a1_2]] w fun e w' => e = .returned (.bool r) ∧ Below w.heap.size w w' := by
 have hu26 := Tryz.underlying26
 have HR0_0 := Aside0.mk hr0_0
 have HC0_0 := Aside0.mk hc0_0
 clear hr0_0 hc0_0
 have HR1_0 := Aside0.mk hr1_0
 have HC1_0 := Aside0.mk hc1_0
 clear hr1_0 hc1_0
 have HB := a0_ (Below.refl w.heap.size w)
 have H := h
 clear h
 unfold spec_AreAlike.f at H
 obtain ⟨t549, A3, H⟩ := bs_ H
 by_cases c4 : t549 = true
 ·subst c4
  rw [if_pos rfl] at H
  obtain ⟨t550, A5, H⟩ := bs_ H
  by_cases c6 : t550 = true
  ·subst c6
   rw [if_pos rfl] at H
   obtain ⟨t551, A7, H⟩ := bs_ H
   obtain rfl := Option.some.inj H
   go_enter Tryz.func10, Tryz.ntmps10
   go_wp2_with (first | ((with_reducible refine gate_dst (N := 2) rfl ?_); refine bx_ (N := 2) (cs := #[.slice A0_0 l0_0.length c0_0, .int .i64 a0_1, .bool a0_2]) (t := 26) ?_; intro gb547 hg w8 hbox hb; have BK547 := a0_ (hbox); have GW547 := a0_ ((sz_ hg (bl0_) : w.heap.size ≤ gb547)); have GE547 := a0_ ((sz_ hg (bl0_) : w.heap.size ≤ gb547)); replace HB := a0_ (below_step (bl0_) hb); clear hb hbox hg) | ((with_reducible refine gate_dst (N := 3) rfl ?_); refine bx_ (N := 3) (cs := #[.slice A1_0 l1_0.length c1_0, .int .i64 a1_1, .bool a1_2]) (t := 26) ?_; intro gb548 hg w9 hbox hb; have BK548 := a0_ (hbox); have GW548 := a0_ ((sz_ hg (bl1_ GE547.out) : w.heap.size ≤ gb548)); have GE548 := a0_ ((sz_ hg (bl1_ GE547.out) : w.heap.size ≤ gb548)); replace HB := a0_ (below_step (bl1_ GE547.out) hb); have NB547_548 := a0_ ((nl_ hg BK547.out : gb547 ≠ gb548)); have NB548_547 := a0_ ((ng_ hg BK547.out : gb548 ≠ gb547)); replace BK547 := a0_ (bb_ BK547.out hb); clear hb hbox hg; have hnb10 := NB547_548.out; have hnc10 := NB548_547.out; obtain ⟨hcz11_0, hcz11_1, hcz11_2, hfz11_0, hfz11_1, hfz11_2⟩ := bc3_ BK547.out) | ((with_reducible refine gate_callee (f := 17) rfl ?_); refine goesL_ (some 6) rfl rfl Tryz.func17 kr_ rfl #[.agg #[.slice A0_0 l0_0.length c0_0, .int .i64 a0_1, .bool a0_2]] rfl ta_ ?_; (with_reducible refine (spec_IsPiece.calls k _ _ l0_0 a0_1 a0_2 true _ ?side1 ?side2 A3.out).mono ?_); (case side1 => exact ca_ (Kd.C_below HR0_0.out HB.out)); (case side2 => exact HC0_0.out); rintro e w12 ⟨rfl, hb⟩; refine ⟨_, rfl, ?_⟩; replace BK547 := a0_ (bb_ BK547.out hb); replace BK548 := a0_ (bb_ BK548.out hb); replace HB := a0_ (below_step (bl2_ GE547.out GE548.out) hb); (try clear hb); (try clear hb2); (try clear hk); (try clear hi); obtain ⟨hcz13_0, hcz13_1, hcz13_2, hfz13_0, hfz13_1, hfz13_2⟩ := bc3_ BK548.out) | (go_at_call 17; (with_reducible refine (spec_IsPiece.calls k _ _ l1_0 a1_1 a1_2 true _ ?side1 ?side2 A5.out).mono ?_); (case side1 => exact ca_ (Kd.C_below HR1_0.out HB.out)); (case side2 => exact HC1_0.out); rintro e w14 ⟨rfl, hb⟩; replace BK547 := a0_ (bb_ BK547.out hb); replace BK548 := a0_ (bb_ BK548.out hb); replace HB := a0_ (below_step (bl2_ GE547.out GE548.out) hb); (try clear hb); (try clear hb2); (try clear hk); (try clear hi); obtain ⟨hcz15_0, hcz15_1, hcz15_2, hfz15_0, hfz15_1, hfz15_2⟩ := bc3_ BK547.out; obtain ⟨hcz16_0, hcz16_1, hcz16_2, hfz16_0, hfz16_1, hfz16_2⟩ := bc3_ BK548.out) | (go_at_call 23; (with_reducible refine (spec_l11Alike.calls k _ _ l0_0 a0_1 a0_2 _ _ l1_0 a1_1 a1_2 t551 _ ?side1 ?side2 ?side3 ?side4 A7.out).mono ?_); (case side1 => exact ca_ (Kd.C_below HR0_0.out HB.out)); (case side2 => exact HC0_0.out); (case side3 => exact ca_ (Kd.C_below HR1_0.out HB.out)); (case side4 => exact HC1_0.out); rintro e w17 ⟨rfl, hb⟩; replace BK547 := a0_ (bb_ BK547.out hb); replace BK548 := a0_ (bb_ BK548.out hb); replace HB := a0_ (below_step (bl2_ GE547.out GE548.out) hb); (try clear hb); (try clear hb2); (try clear hk); (try clear hi)))
   go_ret
   exact ⟨er_, bl2_ GE547.out GE548.out⟩
  ·replace c6 := Bool.eq_false_iff.mpr c6
   subst c6
   rw [if_neg (show ¬ (false = true) by decide)] at H
   obtain rfl := Option.some.inj H
   go_enter Tryz.func10, Tryz.ntmps10
   go_wp2_with (first | ((with_reducible refine gate_dst (N := 2) rfl ?_); refine bx_ (N := 2) (cs := #[.slice A0_0 l0_0.length c0_0, .int .i64 a0_1, .bool a0_2]) (t := 26) ?_; intro gb547 hg w18 hbox hb; have BK547 := a0_ (hbox); have GW547 := a0_ ((sz_ hg (bl0_) : w.heap.size ≤ gb547)); have GE547 := a0_ ((sz_ hg (bl0_) : w.heap.size ≤ gb547)); replace HB := a0_ (below_step (bl0_) hb); clear hb hbox hg) | ((with_reducible refine gate_dst (N := 3) rfl ?_); refine bx_ (N := 3) (cs := #[.slice A1_0 l1_0.length c1_0, .int .i64 a1_1, .bool a1_2]) (t := 26) ?_; intro gb548 hg w19 hbox hb; have BK548 := a0_ (hbox); have GW548 := a0_ ((sz_ hg (bl1_ GE547.out) : w.heap.size ≤ gb548)); have GE548 := a0_ ((sz_ hg (bl1_ GE547.out) : w.heap.size ≤ gb548)); replace HB := a0_ (below_step (bl1_ GE547.out) hb); have NB547_548 := a0_ ((nl_ hg BK547.out : gb547 ≠ gb548)); have NB548_547 := a0_ ((ng_ hg BK547.out : gb548 ≠ gb547)); replace BK547 := a0_ (bb_ BK547.out hb); clear hb hbox hg; have hnb20 := NB547_548.out; have hnc20 := NB548_547.out; obtain ⟨hcz21_0, hcz21_1, hcz21_2, hfz21_0, hfz21_1, hfz21_2⟩ := bc3_ BK547.out) | ((with_reducible refine gate_callee (f := 17) rfl ?_); refine goesL_ (some 6) rfl rfl Tryz.func17 kr_ rfl #[.agg #[.slice A0_0 l0_0.length c0_0, .int .i64 a0_1, .bool a0_2]] rfl ta_ ?_; (with_reducible refine (spec_IsPiece.calls k _ _ l0_0 a0_1 a0_2 true _ ?side1 ?side2 A3.out).mono ?_); (case side1 => exact ca_ (Kd.C_below HR0_0.out HB.out)); (case side2 => exact HC0_0.out); rintro e w22 ⟨rfl, hb⟩; refine ⟨_, rfl, ?_⟩; replace BK547 := a0_ (bb_ BK547.out hb); replace BK548 := a0_ (bb_ BK548.out hb); replace HB := a0_ (below_step (bl2_ GE547.out GE548.out) hb); (try clear hb); (try clear hb2); (try clear hk); (try clear hi); obtain ⟨hcz23_0, hcz23_1, hcz23_2, hfz23_0, hfz23_1, hfz23_2⟩ := bc3_ BK548.out) | (go_at_call 17; (with_reducible refine (spec_IsPiece.calls k _ _ l1_0 a1_1 a1_2 false _ ?side1 ?side2 A5.out).mono ?_); (case side1 => exact ca_ (Kd.C_below HR1_0.out HB.out)); (case side2 => exact HC1_0.out); rintro e w24 ⟨rfl, hb⟩; replace BK547 := a0_ (bb_ BK547.out hb); replace BK548 := a0_ (bb_ BK548.out hb); replace HB := a0_ (below_step (bl2_ GE547.out GE548.out) hb); (try clear hb); (try clear hb2); (try clear hk); (try clear hi)))
   go_ret
   exact ⟨er_, bl2_ GE547.out GE548.out⟩
 ·replace c4 := Bool.eq_false_iff.mpr c4
  subst c4
  rw [if_neg (show ¬ (false = true) by decide)] at H
  obtain rfl := Option.some.inj H
  go_enter Tryz.func10, Tryz.ntmps10
  go_wp2_with (first | ((with_reducible refine gate_dst (N := 2) rfl ?_); refine bx_ (N := 2) (cs := #[.slice A0_0 l0_0.length c0_0, .int .i64 a0_1, .bool a0_2]) (t := 26) ?_; intro gb547 hg w25 hbox hb; have BK547 := a0_ (hbox); have GW547 := a0_ ((sz_ hg (bl0_) : w.heap.size ≤ gb547)); have GE547 := a0_ ((sz_ hg (bl0_) : w.heap.size ≤ gb547)); replace HB := a0_ (below_step (bl0_) hb); clear hb hbox hg) | ((with_reducible refine gate_dst (N := 3) rfl ?_); refine bx_ (N := 3) (cs := #[.slice A1_0 l1_0.length c1_0, .int .i64 a1_1, .bool a1_2]) (t := 26) ?_; intro gb548 hg w26 hbox hb; have BK548 := a0_ (hbox); have GW548 := a0_ ((sz_ hg (bl1_ GE547.out) : w.heap.size ≤ gb548)); have GE548 := a0_ ((sz_ hg (bl1_ GE547.out) : w.heap.size ≤ gb548)); replace HB := a0_ (below_step (bl1_ GE547.out) hb); have NB547_548 := a0_ ((nl_ hg BK547.out : gb547 ≠ gb548)); have NB548_547 := a0_ ((ng_ hg BK547.out : gb548 ≠ gb547)); replace BK547 := a0_ (bb_ BK547.out hb); clear hb hbox hg; have hnb27 := NB547_548.out; have hnc27 := NB548_547.out; obtain ⟨hcz28_0, hcz28_1, hcz28_2, hfz28_0, hfz28_1, hfz28_2⟩ := bc3_ BK547.out) | ((with_reducible refine gate_callee (f := 17) rfl ?_); refine goesL_ (some 6) rfl rfl Tryz.func17 kr_ rfl #[.agg #[.slice A0_0 l0_0.length c0_0, .int .i64 a0_1, .bool a0_2]] rfl ta_ ?_; (with_reducible refine (spec_IsPiece.calls k _ _ l0_0 a0_1 a0_2 false _ ?side1 ?side2 A3.out).mono ?_); (case side1 => exact ca_ (Kd.C_below HR0_0.out HB.out)); (case side2 => exact HC0_0.out); rintro e w29 ⟨rfl, hb⟩; refine ⟨_, rfl, ?_⟩; replace BK547 := a0_ (bb_ BK547.out hb); replace BK548 := a0_ (bb_ BK548.out hb); replace HB := a0_ (below_step (bl2_ GE547.out GE548.out) hb); (try clear hb); (try clear hb2); (try clear hk); (try clear hi)))
  go_ret
  exact ⟨er_, bl2_ GE547.out GE548.out⟩

end Go.Proofs.YtaaodakmelihaaaGreat.PFnPieces
