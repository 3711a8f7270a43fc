/- Over the kit's printer by a driver of mine (hprint.py), with parts by hand: functions of the program as Lean functions, and that each call comes to exactly these answers. -/
import Derived.Test.YtmdjkmfocgelnaaGreatPFnTriangleShapesx0
import Derived.Test.YtmdjkmfocgelnaaGreatPFnTriangleShapesx1
import Derived.Test.YtmdjkmfocgelnaaGreatPFnTriangleShapesx10
import Derived.Test.YtmdjkmfocgelnaaGreatPFnTriangleShapesx11
import Derived.Test.YtmdjkmfocgelnaaGreatPFnTriangleShapesx15
namespace Go.Proofs.YtmdjkmfocgelnaaGreat.PFnTriangleShapes
open Go.RowKit Go.Proofs.YtmdjkmfocgelnaaGreatW.PrintWords Go.Proofs.YtmdjkmfocgelnaaGreatW.PrintLast Go.Proofs.YtmdjkmfocgelnaaGreatW.PrintMore
attribute [local go_sem] max2_int min2_int max_two min_two max_three min_three max_four min_four   -- for this text's walks alone
set_option linter.unusedVariables false
set_option linter.unusedSimpArgs false

attribute [local go_sem high] eqA46
/-! ### spec_l07Free: function 44 -/
def spec_l07Free.l0 : Nat → Int → List (List (S46)) → List (List (S46)) → Int → Option ((List (List (S46))))
 | 0, _, _, _, _ => none
 | k + 1, x0, x1, x5, x6 => if x6 < (x1.length : Int) then (if 0 ≤ x6 then ((spec_l07Forms.f k x0 (rd_L3 x1 x6)).bind fun bt296 => ((spec_l07Least.f k bt296.1).bind fun t300 => ((spec_CompareShapes.f k t300 (rd_L3 x1 x6)).bind fun t304 => (if t304 = 0 then (if x5.length < 5864062014805 then (spec_l07Free.l0 k x0 x1 (x5 ++ [rd_L3 x1 x6]) (wrap64 (x6 + 1))) else (none)) else (spec_l07Free.l0 k x0 x1 x5 (wrap64 (x6 + 1))))))) else (none)) else (some x5)
def spec_l07Free.f (k : Nat) (a0 : Int) (l1 : List (List (S46))) : Option ((List (List (S46)))) := spec_l07Free.l0 k a0 l1 (([] : List (List (S46)))) 0
theorem spec_l07Free.mono_l : ∀ k, (∀ y0 y1 y2 y3, LeO (spec_l07Free.l0 k y0 y1 y2 y3) (spec_l07Free.l0 (k + 1) y0 y1 y2 y3))
 | 0 => fun _ _ _ _ r h => by simp [spec_l07Free.l0] at h
 | k + 1 => by
  have ih0 := spec_l07Free.mono_l k
  ·intro y0 y1 y2 y3
   unfold spec_l07Free.l0
   with_reducible (repeat' first | exact ih0 _ _ _ _ | exact spec_CompareShapes.mono _ _ _ | exact spec_l07Forms.mono _ _ _ | exact spec_l07Least.mono _ _ | exact LeO.refl _ | exact LeO.none _ | refine LeO.ite ?_ ?_ | refine LeO.bind ?_ (fun _ => ?_))
theorem spec_l07Free.mono : ∀ a0 a1 k, LeO (spec_l07Free.f k a0 a1) (spec_l07Free.f (k + 1) a0 a1) := by
 intro a0 a1 k
 have ih0 := spec_l07Free.mono_l k
 unfold spec_l07Free.f
 with_reducible (repeat' first | exact ih0 _ _ _ _ | exact spec_CompareShapes.mono _ _ _ | exact spec_l07Forms.mono _ _ _ | exact spec_l07Least.mono _ _ | exact LeO.refl _ | exact LeO.none _ | refine LeO.ite ?_ ?_ | refine LeO.bind ?_ (fun _ => ?_))
def spec_l07Free.T6 : Bool × List (List Nat × List Nat) := (true, [([], []), ([0], [0]), ([], []), ([], []), ([2, 3], [2, 3]), ([4], [4]), ([1, 5, 1], [1, 5]), ([6], [6])])
def spec_l07Free.B6 : List Nat := [0, 1, 0, 0, 12, 28, 63, 127]
theorem spec_l07Free.tab6 : rtab .any (opsOf Tryz.f44 6) = spec_l07Free.T6 := by kernel_rfl
theorem spec_l07Free.bits6 : waitsOk spec_l07Free.T6.2 spec_l07Free.B6 = true := by kernel_rfl
set_option maxHeartbeats 8000000 in
set_option maxRecDepth 100000 in
theorem spec_l07Free.calls (k : Nat) (a0 : Int) (P1_ : Nat → Prop) (A1 : Option Addr) (c1 : Nat) (l1 : List (List (S46))) (r : List (List (S46))) (w : World) (hs1 : Kd.V (Kd.slice 46 k46) 35 w w.heap.size (fun k_ => P1_ k_) (.slice A1 l1.length c1) l1) (h : spec_l07Free.f k a0 l1 = some r) :
  Calls Tryz.prog 44 #[.int .i64 a0, .slice A1 l1.length c1] w fun e w' => ∃ v0_ : Value, e = .returned (v0_) ∧ Kd.N (Kd.slice 46 k46) 35 w' w.heap.size (fun k_ => (P1_ k_ ∨ w.heap.size ≤ k_)) v0_ r ∧ Below w.heap.size w w' := by
 have HO1 := a0_ (show Kd.V (Kd.slice 46 k46) 35 w w.heap.size (fun k_ => (P1_ k_ ∨ w.heap.size ≤ k_)) (.slice A1 l1.length c1) l1 from Kd.V_mono hs1 (fun k_ hk => .inl hk))
 have HB := a0_ (Below.refl w.heap.size w)
 have H : (spec_l07Free.l0 k a0 l1 (([] : List (List (S46)))) 0) = some r := h
 clear h
 obtain ⟨y292, hy292⟩ : ∃ y_ : List (List (S46)), y_ = (([] : List (List (S46)))) := ⟨_, rfl⟩
 replace H : (spec_l07Free.l0 k a0 l1 y292 0) = some r := hh_ hy292 H
 have Ny292 := Aside0.mk hy292
 clear hy292
 have H' := Aside0.mk H
 clear H
 go_enter Tryz.func44, Tryz.ntmps44
 go_wp2_with (first | ((with_reducible refine gate_dst (N := 9) rfl ?_); refine Kd.N_lit (Kd.slice 46 k46) _ 35 ?hg (N' := 9) ?hd (xs := ([] : List (List (S46)))) (inner := []) (ok := (fun k_ => (P1_ k_ ∨ w.heap.size ≤ k_))) (okp := (fun k_ => (P1_ k_ ∨ w.heap.size ≤ k_))) ?hr ?hp (fun _ hk => hk) ((show ∀ k_, w.heap.size ≤ k_ → (fun k_ => (P1_ k_ ∨ w.heap.size ≤ k_)) k_ from fun k_ hk => (.inr (Nat.le_trans (below_size (bl0_)) hk))) _ (Nat.le_refl _)) (Below.refl _ _) (Nat.le_refl _) (by simp) ?_; (case hd => rfl); (case hg => rfl); (case hr => first | (go_simp; done) | (go_simp; rfl)); (case hp => exact (Reps.none _ _)); intro v293 w3 ho4 hb hg_ hnew_; clear hg_ hnew_; (first | rw [← Ny292.out] at ho4 | (simp only [Int.reduceToNat] at ho4; rw [← Ny292.out] at ho4)); replace HO1 := a0_ (Kd.V_elder' (va_ HO1.out) (Kd.N_base ho4) hb); have HO294 := a0_ (Kd.N_lower ho4 (below_size (bl0_))); replace HB := a0_ (below_step (bl0_) hb); clear hb ho4))
 go_loopg [5, 6] k (fun kq v5 v6 w' => ∃ (x5_1 : List (List (S46))) (x6_1 : Int), v6 = .int .i64 x6_1 ∧ Aside0 (spec_l07Free.l0 kq a0 l1 x5_1 x6_1 = some r) ∧ Aside0 (kq ≤ k) ∧ Aside0 (Kd.V (Kd.slice 46 k46) 35 w' w.heap.size (fun k_ => (P1_ k_ ∨ w.heap.size ≤ k_) ∧ some k_ ≠ (v5 : Value).ownBlock) (.slice A1 l1.length c1) l1) ∧ Aside0 (Kd.N (Kd.slice 46 k46) 35 w' w.heap.size (fun k_ => (P1_ k_ ∨ w.heap.size ≤ k_)) v5 x5_1) ∧ Aside0 (Below w.heap.size w w'))
 case atStart => exact ⟨(y292), (0), rs_, H', ⟨Nat.le_refl _⟩, ⟨va_ HO1.out⟩, ⟨by (with_reducible repeat (first | apply Kd.N_alloc | apply Kd.N_drewN | apply Kd.N_drew)); exact HO294.out⟩, ⟨bl0_⟩⟩
 case round =>
  clear H'
  try clear c1
  try clear p2
  try clear c4
  obtain ⟨x5_1, x6_1, rfl, HA, HK1, HO_1, HO_5, HB⟩ := hrel
  cases gk with
  | zero => exact absurd HA.out (by simp [spec_l07Free.l0])
  | succ k1 =>
   have H := HA.out
   clear HA
   simp only [spec_l07Free.l0] at H
   by_cases c5 : x6_1 < (l1.length : Int)
   ·rw [if_pos c5] at H
    have c5b0 : decide (x6_1 < (l1.length : Int)) = true := decide_eq_true c5
    clear c5
    by_cases c6 : 0 ≤ x6_1
    ·rw [if_pos c6] at H
     have c6b0 : decide (0 ≤ x6_1) = true := decide_eq_true c6
     clear c6
     obtain ⟨⟨t296, t297⟩, A7, H⟩ := bs_ H
     dsimp only at H
     obtain ⟨t300, A8, H⟩ := bs_ H
     obtain ⟨t304, A9, H⟩ := bs_ H
     by_cases c10 : t304 = 0
     ·rw [if_pos c10] at H
      have c10b0 : (t304 == 0) = true := beq_iff_eq.mpr c10
      have c10b1 : (t304 != 0) = false := bne_eq_false_iff_eq.mpr c10
      clear c10
      by_cases c11 : x5_1.length < 5864062014805
      ·rw [if_pos c11] at H
       have LMc11 := Aside0.mk c11
       clear c11
       obtain ⟨y306, hy306⟩ : ∃ y_ : List (List (S46)), y_ = (x5_1 ++ [rd_L3 l1 x6_1]) := ⟨_, rfl⟩
       replace H : (spec_l07Free.l0 k1 a0 l1 y306 (wrap64 (x6_1 + 1))) = some r := hh_ hy306 H
       have Ny306 := Aside0.mk hy306
       clear hy306
       have H' := Aside0.mk H
       clear H
       have p295 : 0 ≤ (x6_1 : Int) := od_
       have q295 : x6_1 < (l1.length : Int) := od_
       obtain ⟨ad295, A295_0, c295_0, e295, hx295_0, hl295_0, hi295_0⟩ := at_L3 (Kd.V_reads' HO_1.out).2.2 x6_1 p295 q295
       cases e295
       obtain ⟨ce295, hce295, hMe295, hcc295⟩ := Kd.V_get HO_1.out [] x6_1 p295 (by first | exact q295 | exact od_ | (have e_ := (Kd.V_reads' HO_1.out).1; omega))
       obtain ⟨ua295_0, uc295_0, rfl, ul295_0, ge295_0⟩ := Kd.FK_slice_open hMe295
       have hv295_0 := hcc295 0 _ rfl
       rw [Nat.add_zero, show ((Kd.slice 46 k46)).sz = 1 from rfl, Nat.mul_one] at hv295_0
       replace hv295_0 := Option.some.inj (hv295_0.symm.trans hx295_0)
       injection hv295_0 with hva_ hvn_ hvc_
       rw [hva_] at ge295_0
       rw [hvc_] at ul295_0
       have HL295_0 := a0_ (show Kd.V k46 46 _ w.heap.size _ _ (rd_L3 l1 x6_1) from Kd.V_mk ul295_0 ge295_0)
       clear hva_ hvn_ hvc_ ge295_0 ul295_0
       clear hcc295 hce295
       have HR295_0 := Aside0.mk hi295_0
       have HC295_0 := Aside0.mk hl295_0
       clear hi295_0 hl295_0
       replace p295 := eq_true p295
       replace q295 := eq_true q295
       try go_wp2_with (first | ((with_reducible refine gate_callee (f := 81) rfl ?_); refine goesL_ (some 22) rfl rfl Tryz.func81 kr_ rfl #[.int .i64 a0, .slice A295_0 (rd_L3 l1 x6_1).length c295_0] rfl ta_ ?_; (with_reducible refine (spec_l07Forms.calls k1 a0 _ _ (rd_L3 l1 x6_1) t296 t297 _ ?side1 ?side2 A7.out).mono ?_); (case side1 => repeat (first | exact (by repeat (first | (with_reducible exact HR295_0.out) | (with_reducible refine Kd.C_alloc ?_ _) | (with_reducible refine Kd.C_drewN ?_ _) | (with_reducible refine Kd.C_drew ?_) | exact HR295_0.out)) | (with_reducible refine Kd.C_alloc ?_ _) | (with_reducible refine Kd.C_drewN ?_ _) | (with_reducible refine Kd.C_drew ?_))); (case side2 => exact HC295_0.out); rintro e w12 ⟨v298, rfl, ho0, hb⟩; refine ⟨_, rfl, ?_⟩; replace HO_1 := a0_ (Kd.V_elder' (va_ HO_1.out) (Kd.S_base ho0) hb); replace HL295_0 := a0_ (Kd.V_elder' (va_ HL295_0.out) (Kd.S_base ho0) hb); have HO299 := a0_ (Kd.N_lower (Kd.N_mono (ok' := fun k_ => (P1_ k_ ∨ w.heap.size ≤ k_) ∧ some k_ ≠ (u5 : Value).ownBlock) (Kd.S_N (Kd.S_bound ho0)) (fun k_ hk_ => ⟨(.inr (Nat.le_trans (below_size (bl0_)) hk_.2.1)), (Kd.fresh' (Kd.N_lt (by (with_reducible repeat (first | apply Kd.N_alloc | apply Kd.N_drewN | apply Kd.N_drew)); exact HO_5.out)) k_ hk_.2.1)⟩)) (below_size (bl0_))); replace HO_5 := a0_ (Kd.N_elder' (by (with_reducible repeat (first | apply Kd.N_alloc | apply Kd.N_drewN | apply Kd.N_drew)); exact HO_5.out) (Kd.S_base ho0) hb); replace HR295_0 := a0_ (Kd.C_below (by repeat (first | (with_reducible exact HR295_0.out) | (with_reducible refine Kd.C_alloc ?_ _) | (with_reducible refine Kd.C_drewN ?_ _) | (with_reducible refine Kd.C_drew ?_) | exact HR295_0.out)) hb); replace HB := a0_ (below_step (bl0_) hb); (try clear hb); (try clear hb2); (try clear hk); (try clear hi); (try clear ho0)))
       replace HO_1 := a0_ (Kd.V_drew HO_1.out)
       replace HO_5 := a0_ (Kd.N_drew HO_5.out)
       replace HL295_0 := a0_ (Kd.V_drew HL295_0.out)
       replace HO299 := a0_ (Kd.N_drew HO299.out)
       replace HR295_0 := a0_ (Kd.C_drew HR295_0.out)
       replace HB := a0_ (below_drew1 HB.out)
       have p303 : 0 ≤ (x6_1 : Int) := od_
       have q303 : x6_1 < (l1.length : Int) := od_
       obtain ⟨ad303, A303_0, c303_0, e303, hx303_0, hl303_0, hi303_0⟩ := at_L3 (Kd.V_reads' HO_1.out).2.2 x6_1 p303 q303
       obtain rfl : ad295 = ad303 := (by injection e303)
       (try (have eH_ := hx303_0.symm.trans hHeld; injection eH_ with eH_; injection eH_ with fA_ fN_ fC_; subst fA_; subst fC_))
       obtain ⟨ce303, hce303, hMe303, hcc303⟩ := Kd.V_get HO_1.out [] x6_1 p303 (by first | exact q303 | exact od_ | (have e_ := (Kd.V_reads' HO_1.out).1; omega))
       obtain ⟨ua303_0, uc303_0, rfl, ul303_0, ge303_0⟩ := Kd.FK_slice_open hMe303
       have hv303_0 := hcc303 0 _ rfl
       rw [Nat.add_zero, show ((Kd.slice 46 k46)).sz = 1 from rfl, Nat.mul_one] at hv303_0
       replace hv303_0 := Option.some.inj (hv303_0.symm.trans hx303_0)
       injection hv303_0 with hva_ hvn_ hvc_
       rw [hva_] at ge303_0
       rw [hvc_] at ul303_0
       have HL303_0 := a0_ (show Kd.V k46 46 _ w.heap.size _ _ (rd_L3 l1 x6_1) from Kd.V_mk ul303_0 ge303_0)
       clear hva_ hvn_ hvc_ ge303_0 ul303_0
       clear hcc303 hce303
       have HR303_0 := Aside0.mk hi303_0
       have HC303_0 := Aside0.mk hl303_0
       clear hi303_0 hl303_0
       replace p303 := eq_true p303
       replace q303 := eq_true q303
       obtain ⟨Ao14, co14, eo14⟩ := Kd.N_slice HO299.out
       (first | subst eo14 | (injection eo14 with f1_ f2_ f3_; have f4_ := f1_.symm; have f5_ := f3_.symm; clear f1_ f2_ f3_; subst f4_; subst f5_))
       refine start_ (n := 8) (S := fun w' => w'.cell? (ad295.add (x6_1).toNat) = some (.slice A303_0 (rd_L3 l1 x6_1).length c303_0)) (ds := []) (mk_ 0 8) kr_ rfl rfl (hx303_0) (fun hHeld => ?_); refine with_tabW spec_l07Free.tab6 spec_l07Free.bits6 (fun HT_ HW_ => ?_)
       generalize w12.drew = w13 at HO_1 HO_5 HL295_0 HO299 HR295_0 HB HL303_0 HR303_0 hx303_0 hHeld ⊢
       refine pu_ 0 (some 25) (mk_ 1 7) HT_ ?_
       refine pu_ 2 (some 27) #[true, false, true, false, false, false, false, false] HT_ ?_
       refine pu_ 3 (some 28) #[true, false, true, true, false, false, false, false] HT_ ?_
       refine pu_ 4 (some 29) #[true, false, true, true, true, false, false, false] HT_ ?_
       refine take_ (i := 5) (N := some 30) (v := ?_) (a' := ?_) #[true, false, true, true, true, true, false, false] rfl rfl (take_ofW HT_.out HW_.out kr_) (fun _ _ _ h => h) (Or.inl ⟨by rfl, ?_⟩) hHeld ?_ ?_
       rotate_left
       ·intro w' s0
        go_simp
        with_reducible rfl
       rotate_left
       ·simp only [sp_]
        rfl
       refine one_ (i := 1) (N := some 26) (mk_ 6 2) rfl rfl (one_of HT_.out kr_) (by decide) (fun K hK => ?_)
       refine goes_ Tryz.func82 kr_ rfl #[.slice Ao14 t296.length co14] (by rfl) rfl rfl ta_ ?_
       with_reducible refine (spec_l07Least.calls k1 (fun k_ => ((P1_ k_ ∨ w.heap.size ≤ k_) ∧ some k_ ≠ (u5 : Value).ownBlock)) _ _ t296 t300 _ ?side1 A8.out).mono ?_
       (case side1 => exact Kd.N_V (HO299.out))
       rintro e w15 ⟨v301, rfl, ho0, hb⟩
       have HS0_ := (hb.cell (World.block_lt_of_cell? _ _ (hHeld))).trans (hHeld)
       refine ⟨_, rfl, ?_⟩
       replace HO_1 := a0_ (Kd.V_below (va_ HO_1.out) hb)
       replace HL295_0 := a0_ (Kd.V_below (va_ HL295_0.out) hb)
       replace HO299 := a0_ (Kd.N_below (by (with_reducible repeat (first | apply Kd.N_alloc | apply Kd.N_drewN | apply Kd.N_drew)); exact HO299.out) hb)
       replace HL303_0 := a0_ (Kd.V_below (va_ HL303_0.out) hb)
       have HO302 := a0_ (Kd.V_lower (Kd.V_mono (ok' := fun k_ => (P1_ k_ ∨ w.heap.size ≤ k_) ∧ some k_ ≠ (u5 : Value).ownBlock) ho0 (fun k_ hk_ => ⟨Or.elim hk_ (fun hs_ => hs_.1) (fun hn_ => (.inr (Nat.le_trans (below_size (bl0_)) hn_))), Or.elim hk_ (fun hs_ => hs_.2) (fun hn_ => (Kd.fresh' (Kd.N_lt (by (with_reducible repeat (first | apply Kd.N_alloc | apply Kd.N_drewN | apply Kd.N_drew)); exact HO_5.out)) k_ hn_))⟩)) (below_size (bl0_)))
       replace HO_5 := a0_ (Kd.N_below (by (with_reducible repeat (first | apply Kd.N_alloc | apply Kd.N_drewN | apply Kd.N_drew)); exact HO_5.out) hb)
       replace HR295_0 := a0_ (Kd.C_below (by repeat (first | (with_reducible exact HR295_0.out) | (with_reducible refine Kd.C_alloc ?_ _) | (with_reducible refine Kd.C_drewN ?_ _) | (with_reducible refine Kd.C_drew ?_) | exact HR295_0.out)) hb)
       replace HR303_0 := a0_ (Kd.C_below (by repeat (first | (with_reducible exact HR303_0.out) | (with_reducible refine Kd.C_alloc ?_ _) | (with_reducible refine Kd.C_drewN ?_ _) | (with_reducible refine Kd.C_drew ?_) | exact HR303_0.out)) hb)
       replace HB := a0_ (below_step (bl0_) hb)
       (try clear hb)
       (try clear hb2)
       (try clear hk)
       (try clear hi)
       (try clear ho0)
       obtain ⟨Ao16, co16, eo16⟩ := Kd.V_slice HO302.out
       (first | subst eo16 | (injection eo16 with f1_ f2_ f3_; have f4_ := f1_.symm; have f5_ := f3_.symm; clear f1_ f2_ f3_; subst f4_; subst f5_))
       refine hK.out _ _ (HS0_) (fun hHeld => ?_)
       clear hK K
       refine nm_ ?_
       refine one_ (i := 6) (N := some 31) (mk_ 7 1) rfl rfl (one_of HT_.out kr_) (by decide) (fun K hK => ?_)
       refine goes_ Tryz.func63 kr_ rfl #[.slice Ao16 t300.length co16, .slice A303_0 (rd_L3 l1 x6_1).length c303_0] (by rfl) rfl rfl ta_ ?_
       with_reducible refine (spec_CompareShapes.calls k1 _ _ t300 _ _ (rd_L3 l1 x6_1) t304 _ ?side1 ?side2 ?side3 ?side4 A9.out).mono ?_
       (case side1 => exact ca_ (Kd.V_reads' HO302.out).2.2)
       (case side2 => exact (Kd.V_reads' HO302.out).2.1)
       (case side3 => repeat (first | exact (by repeat (first | (with_reducible exact HR303_0.out) | (with_reducible refine Kd.C_alloc ?_ _) | (with_reducible refine Kd.C_drewN ?_ _) | (with_reducible refine Kd.C_drew ?_) | exact HR303_0.out)) | (with_reducible refine Kd.C_alloc ?_ _) | (with_reducible refine Kd.C_drewN ?_ _) | (with_reducible refine Kd.C_drew ?_)))
       (case side4 => exact HC303_0.out)
       rintro e w17 ⟨rfl, hb⟩
       have HS0_ := (hb.cell (World.block_lt_of_cell? _ _ (hHeld))).trans (hHeld)
       refine ⟨_, rfl, ?_⟩
       replace HO_1 := a0_ (Kd.V_below (va_ HO_1.out) hb)
       replace HO_5 := a0_ (Kd.N_below (by (with_reducible repeat (first | apply Kd.N_alloc | apply Kd.N_drewN | apply Kd.N_drew)); exact HO_5.out) hb)
       replace HL295_0 := a0_ (Kd.V_below (va_ HL295_0.out) hb)
       replace HO299 := a0_ (Kd.N_below (by (with_reducible repeat (first | apply Kd.N_alloc | apply Kd.N_drewN | apply Kd.N_drew)); exact HO299.out) hb)
       replace HL303_0 := a0_ (Kd.V_below (va_ HL303_0.out) hb)
       replace HO302 := a0_ (Kd.V_below (va_ HO302.out) hb)
       replace HR295_0 := a0_ (Kd.C_below (by repeat (first | (with_reducible exact HR295_0.out) | (with_reducible refine Kd.C_alloc ?_ _) | (with_reducible refine Kd.C_drewN ?_ _) | (with_reducible refine Kd.C_drew ?_) | exact HR295_0.out)) hb)
       replace HR303_0 := a0_ (Kd.C_below (by repeat (first | (with_reducible exact HR303_0.out) | (with_reducible refine Kd.C_alloc ?_ _) | (with_reducible refine Kd.C_drewN ?_ _) | (with_reducible refine Kd.C_drew ?_) | exact HR303_0.out)) hb)
       replace HB := a0_ (below_step (bl0_) hb)
       (try clear hb)
       (try clear hb2)
       (try clear hk)
       (try clear hi)
       refine hK.out _ _ (HS0_) (fun hHeld => ?_)
       clear hK K
       refine nm_ ?_
       refine pu_ 7 (some 32) (mk_ 8 0) HT_ ?_
       refine done_ (done_of HT_.out kr_) ?_
       have p305 : 0 ≤ (x6_1 : Int) := od_
       have q305 : x6_1 < (l1.length : Int) := od_
       obtain ⟨ad305, A305_0, c305_0, e305, hx305_0, hl305_0, hi305_0⟩ := at_L3 (Kd.V_reads' HO_1.out).2.2 x6_1 p305 q305
       obtain rfl : ad295 = ad305 := (by injection e305)
       (try (have eH_ := hx305_0.symm.trans hHeld; injection eH_ with eH_; injection eH_ with fA_ fN_ fC_; subst fA_; subst fC_))
       obtain ⟨ce305, hce305, hMe305, hcc305⟩ := Kd.V_get HO_1.out [] x6_1 p305 (by first | exact q305 | exact od_ | (have e_ := (Kd.V_reads' HO_1.out).1; omega))
       obtain ⟨ua305_0, uc305_0, rfl, ul305_0, ge305_0⟩ := Kd.FK_slice_open hMe305
       have hv305_0 := hcc305 0 _ rfl
       rw [Nat.add_zero, show ((Kd.slice 46 k46)).sz = 1 from rfl, Nat.mul_one] at hv305_0
       replace hv305_0 := Option.some.inj (hv305_0.symm.trans hx305_0)
       injection hv305_0 with hva_ hvn_ hvc_
       rw [hva_] at ge305_0
       rw [hvc_] at ul305_0
       have HL305_0 := a0_ (show Kd.V k46 46 _ w.heap.size _ _ (rd_L3 l1 x6_1) from Kd.V_mk ul305_0 ge305_0)
       clear hva_ hvn_ hvc_ ge305_0 ul305_0
       clear hcc305 hce305
       have HR305_0 := Aside0.mk hi305_0
       have HC305_0 := Aside0.mk hl305_0
       clear hi305_0 hl305_0
       replace p305 := eq_true p305
       replace q305 := eq_true q305
       try go_wp2_with (first | ((with_reducible refine gate_builtin (b := .append) (xs := #[.tmp 33, .tmp 38]) rfl ?_); at_builtin; refine Kd.N_append (Kd.slice 46 k46) (w0 := w) w.heap.size rfl (.tmp 33) (.tmp 38) 25 35 (.slice none 0 0) 24 rfl Tryz.underlying25 info35 rfl (by decide) (by omega) u5 x5_1 (rd_L3 l1 x6_1) [.slice A305_0 (rd_L3 l1 x6_1).length c305_0] (fun k_ => (P1_ k_ ∨ w.heap.size ≤ k_) ∧ some k_ ≠ (.slice Ao14 t296.length co14 : Value).ownBlock) (fun k_ => ((fun k_ => (P1_ k_ ∨ w.heap.size ≤ k_) ∧ some k_ ≠ (.slice Ao14 t296.length co14 : Value).ownBlock)) k_ ∧ some k_ ≠ (u5 : Value).ownBlock) rfl rfl ?aP (fun _ hk => hk) ?aF ?aO ?aB ?aS ?aL ?_; (case aP => exact (Kd.FK_slice_mk (Kd.V_reads' (Kd.V_mono (ok' := (fun k_ => ((fun k_ => (P1_ k_ ∨ w.heap.size ≤ k_) ∧ some k_ ≠ (.slice Ao14 t296.length co14 : Value).ownBlock)) k_ ∧ some k_ ≠ (u5 : Value).ownBlock)) (HL305_0.out) (fun k_ hk => ⟨⟨hk.1.1, hk.2⟩, hk.1.2⟩))).2.1 (Kd.V_F (Kd.V_mono (ok' := (fun k_ => ((fun k_ => (P1_ k_ ∨ w.heap.size ≤ k_) ∧ some k_ ≠ (.slice Ao14 t296.length co14 : Value).ownBlock)) k_ ∧ some k_ ≠ (u5 : Value).ownBlock)) (HL305_0.out) (fun k_ hk => ⟨⟨hk.1.1, hk.2⟩, hk.1.2⟩))))); (case aB => exact (bl0_)); (case aF => exact (fun k_ hk => ⟨(.inr (Nat.le_trans (below_size (bl0_)) hk)), Kd.fresh' (Kd.N_lt (by (with_reducible repeat (first | apply Kd.N_alloc | apply Kd.N_drewN | apply Kd.N_drew)); exact HO299.out)) k_ hk⟩)); (case aO => exact (by (with_reducible repeat (first | apply Kd.N_alloc | apply Kd.N_drewN | apply Kd.N_drew)); exact HO_5.out)); (case aS => exact (below_size (bl0_))); (case aL => have := LMc11.out; omega); intro v307 w18 ho hb hg hat; rw [← Ny306.out] at ho; replace HO_1 := a0_ (Kd.V_afterv (ok := (fun k_ => (P1_ k_ ∨ w.heap.size ≤ k_) ∧ some k_ ≠ (.slice Ao14 t296.length co14 : Value).ownBlock)) (by (with_reducible repeat (first | apply Kd.V_alloc | apply Kd.V_drewN | apply Kd.V_drew)); exact Kd.V_mono HO_1.out (fun _ hk => ⟨⟨hk.1.1, hk.2⟩, hk.1.2⟩)) hg hat); replace HL295_0 := a0_ (Kd.V_afterv (ok := (fun k_ => (P1_ k_ ∨ w.heap.size ≤ k_) ∧ some k_ ≠ (.slice Ao14 t296.length co14 : Value).ownBlock)) (by (with_reducible repeat (first | apply Kd.V_alloc | apply Kd.V_drewN | apply Kd.V_drew)); exact Kd.V_mono HL295_0.out (fun _ hk => ⟨⟨hk.1.1, hk.2⟩, hk.1.2⟩)) hg hat); replace HO299 := a0_ (Kd.N_afterv (ok := (fun k_ => (P1_ k_ ∨ w.heap.size ≤ k_))) (by (with_reducible repeat (first | apply Kd.N_alloc | apply Kd.N_drewN | apply Kd.N_drew)); exact HO299.out) hg hat); replace HL303_0 := a0_ (Kd.V_afterv (ok := (fun k_ => (P1_ k_ ∨ w.heap.size ≤ k_) ∧ some k_ ≠ (.slice Ao14 t296.length co14 : Value).ownBlock)) (by (with_reducible repeat (first | apply Kd.V_alloc | apply Kd.V_drewN | apply Kd.V_drew)); exact Kd.V_mono HL303_0.out (fun _ hk => ⟨⟨hk.1.1, hk.2⟩, hk.1.2⟩)) hg hat); replace HO302 := a0_ (Kd.V_afterv (ok := (fun k_ => (P1_ k_ ∨ w.heap.size ≤ k_))) (va_ HO302.out) hg hat); replace HL305_0 := a0_ (Kd.V_afterv (ok := (fun k_ => (P1_ k_ ∨ w.heap.size ≤ k_) ∧ some k_ ≠ (.slice Ao14 t296.length co14 : Value).ownBlock)) (by (with_reducible repeat (first | apply Kd.V_alloc | apply Kd.V_drewN | apply Kd.V_drew)); exact Kd.V_mono HL305_0.out (fun _ hk => ⟨⟨hk.1.1, hk.2⟩, hk.1.2⟩)) hg hat); replace HB := a0_ (hb); have HO308 := a0_ (ho); clear HO_5; clear ho hb hg hat))
       go_roundg k1
       case measure => have := HK1.out; omega
       case rel => exact ⟨(y306), (wrap64 (x6_1 + 1)), rs_, H', ⟨by have := HK1.out; omega⟩, ⟨by (with_reducible repeat (first | apply Kd.V_alloc | apply Kd.V_drewN | apply Kd.V_drew)); exact Kd.V_mono HO_1.out (fun _ hk => ⟨hk.1.1, hk.2⟩)⟩, ⟨by (with_reducible repeat (first | apply Kd.N_alloc | apply Kd.N_drewN | apply Kd.N_drew)); exact Kd.N_mono HO308.out (fun _ hk => hk.1)⟩, ⟨bl0_⟩⟩
      ·rw [if_neg c11] at H
       exact absurd H (by simp)
     ·rw [if_neg c10] at H
      have c10b0 : (t304 == 0) = false := beq_eq_false_iff_ne.mpr c10
      have c10b1 : (t304 != 0) = true := bne_iff_ne.mpr c10
      have H' := Aside0.mk H
      clear H
      have p295 : 0 ≤ (x6_1 : Int) := od_
      have q295 : x6_1 < (l1.length : Int) := od_
      obtain ⟨ad295, A295_0, c295_0, e295, hx295_0, hl295_0, hi295_0⟩ := at_L3 (Kd.V_reads' HO_1.out).2.2 x6_1 p295 q295
      cases e295
      obtain ⟨ce295, hce295, hMe295, hcc295⟩ := Kd.V_get HO_1.out [] x6_1 p295 (by first | exact q295 | exact od_ | (have e_ := (Kd.V_reads' HO_1.out).1; omega))
      obtain ⟨ua295_0, uc295_0, rfl, ul295_0, ge295_0⟩ := Kd.FK_slice_open hMe295
      have hv295_0 := hcc295 0 _ rfl
      rw [Nat.add_zero, show ((Kd.slice 46 k46)).sz = 1 from rfl, Nat.mul_one] at hv295_0
      replace hv295_0 := Option.some.inj (hv295_0.symm.trans hx295_0)
      injection hv295_0 with hva_ hvn_ hvc_
      rw [hva_] at ge295_0
      rw [hvc_] at ul295_0
      have HL295_0 := a0_ (show Kd.V k46 46 _ w.heap.size _ _ (rd_L3 l1 x6_1) from Kd.V_mk ul295_0 ge295_0)
      clear hva_ hvn_ hvc_ ge295_0 ul295_0
      clear hcc295 hce295
      have HR295_0 := Aside0.mk hi295_0
      have HC295_0 := Aside0.mk hl295_0
      clear hi295_0 hl295_0
      replace p295 := eq_true p295
      replace q295 := eq_true q295
      try go_wp2_with (first | ((with_reducible refine gate_callee (f := 81) rfl ?_); refine goesL_ (some 22) rfl rfl Tryz.func81 kr_ rfl #[.int .i64 a0, .slice A295_0 (rd_L3 l1 x6_1).length c295_0] rfl ta_ ?_; (with_reducible refine (spec_l07Forms.calls k1 a0 _ _ (rd_L3 l1 x6_1) t296 t297 _ ?side1 ?side2 A7.out).mono ?_); (case side1 => repeat (first | exact (by repeat (first | (with_reducible exact HR295_0.out) | (with_reducible refine Kd.C_alloc ?_ _) | (with_reducible refine Kd.C_drewN ?_ _) | (with_reducible refine Kd.C_drew ?_) | exact HR295_0.out)) | (with_reducible refine Kd.C_alloc ?_ _) | (with_reducible refine Kd.C_drewN ?_ _) | (with_reducible refine Kd.C_drew ?_))); (case side2 => exact HC295_0.out); rintro e w19 ⟨v298, rfl, ho0, hb⟩; refine ⟨_, rfl, ?_⟩; replace HO_1 := a0_ (Kd.V_elder' (va_ HO_1.out) (Kd.S_base ho0) hb); replace HL295_0 := a0_ (Kd.V_elder' (va_ HL295_0.out) (Kd.S_base ho0) hb); have HO299 := a0_ (Kd.N_lower (Kd.N_mono (ok' := fun k_ => (P1_ k_ ∨ w.heap.size ≤ k_) ∧ some k_ ≠ (u5 : Value).ownBlock) (Kd.S_N (Kd.S_bound ho0)) (fun k_ hk_ => ⟨(.inr (Nat.le_trans (below_size (bl0_)) hk_.2.1)), (Kd.fresh' (Kd.N_lt (by (with_reducible repeat (first | apply Kd.N_alloc | apply Kd.N_drewN | apply Kd.N_drew)); exact HO_5.out)) k_ hk_.2.1)⟩)) (below_size (bl0_))); replace HO_5 := a0_ (Kd.N_elder' (by (with_reducible repeat (first | apply Kd.N_alloc | apply Kd.N_drewN | apply Kd.N_drew)); exact HO_5.out) (Kd.S_base ho0) hb); replace HR295_0 := a0_ (Kd.C_below (by repeat (first | (with_reducible exact HR295_0.out) | (with_reducible refine Kd.C_alloc ?_ _) | (with_reducible refine Kd.C_drewN ?_ _) | (with_reducible refine Kd.C_drew ?_) | exact HR295_0.out)) hb); replace HB := a0_ (below_step (bl0_) hb); (try clear hb); (try clear hb2); (try clear hk); (try clear hi); (try clear ho0)))
      replace HO_1 := a0_ (Kd.V_drew HO_1.out)
      replace HO_5 := a0_ (Kd.N_drew HO_5.out)
      replace HL295_0 := a0_ (Kd.V_drew HL295_0.out)
      replace HO299 := a0_ (Kd.N_drew HO299.out)
      replace HR295_0 := a0_ (Kd.C_drew HR295_0.out)
      replace HB := a0_ (below_drew1 HB.out)
      have p303 : 0 ≤ (x6_1 : Int) := od_
      have q303 : x6_1 < (l1.length : Int) := od_
      obtain ⟨ad303, A303_0, c303_0, e303, hx303_0, hl303_0, hi303_0⟩ := at_L3 (Kd.V_reads' HO_1.out).2.2 x6_1 p303 q303
      obtain rfl : ad295 = ad303 := (by injection e303)
      (try (have eH_ := hx303_0.symm.trans hHeld; injection eH_ with eH_; injection eH_ with fA_ fN_ fC_; subst fA_; subst fC_))
      obtain ⟨ce303, hce303, hMe303, hcc303⟩ := Kd.V_get HO_1.out [] x6_1 p303 (by first | exact q303 | exact od_ | (have e_ := (Kd.V_reads' HO_1.out).1; omega))
      obtain ⟨ua303_0, uc303_0, rfl, ul303_0, ge303_0⟩ := Kd.FK_slice_open hMe303
      have hv303_0 := hcc303 0 _ rfl
      rw [Nat.add_zero, show ((Kd.slice 46 k46)).sz = 1 from rfl, Nat.mul_one] at hv303_0
      replace hv303_0 := Option.some.inj (hv303_0.symm.trans hx303_0)
      injection hv303_0 with hva_ hvn_ hvc_
      rw [hva_] at ge303_0
      rw [hvc_] at ul303_0
      have HL303_0 := a0_ (show Kd.V k46 46 _ w.heap.size _ _ (rd_L3 l1 x6_1) from Kd.V_mk ul303_0 ge303_0)
      clear hva_ hvn_ hvc_ ge303_0 ul303_0
      clear hcc303 hce303
      have HR303_0 := Aside0.mk hi303_0
      have HC303_0 := Aside0.mk hl303_0
      clear hi303_0 hl303_0
      replace p303 := eq_true p303
      replace q303 := eq_true q303
      obtain ⟨Ao21, co21, eo21⟩ := Kd.N_slice HO299.out
      (first | subst eo21 | (injection eo21 with f1_ f2_ f3_; have f4_ := f1_.symm; have f5_ := f3_.symm; clear f1_ f2_ f3_; subst f4_; subst f5_))
      refine start_ (n := 8) (S := fun w' => w'.cell? (ad295.add (x6_1).toNat) = some (.slice A303_0 (rd_L3 l1 x6_1).length c303_0)) (ds := []) (mk_ 0 8) kr_ rfl rfl (hx303_0) (fun hHeld => ?_); refine with_tabW spec_l07Free.tab6 spec_l07Free.bits6 (fun HT_ HW_ => ?_)
      generalize w19.drew = w20 at HO_1 HO_5 HL295_0 HO299 HR295_0 HB HL303_0 HR303_0 hx303_0 hHeld ⊢
      refine pu_ 0 (some 25) (mk_ 1 7) HT_ ?_
      refine pu_ 2 (some 27) #[true, false, true, false, false, false, false, false] HT_ ?_
      refine pu_ 3 (some 28) #[true, false, true, true, false, false, false, false] HT_ ?_
      refine pu_ 4 (some 29) #[true, false, true, true, true, false, false, false] HT_ ?_
      refine take_ (i := 5) (N := some 30) (v := ?_) (a' := ?_) #[true, false, true, true, true, true, false, false] rfl rfl (take_ofW HT_.out HW_.out kr_) (fun _ _ _ h => h) (Or.inl ⟨by rfl, ?_⟩) hHeld ?_ ?_
      rotate_left
      ·intro w' s0
       go_simp
       with_reducible rfl
      rotate_left
      ·simp only [sp_]
       rfl
      refine one_ (i := 1) (N := some 26) (mk_ 6 2) rfl rfl (one_of HT_.out kr_) (by decide) (fun K hK => ?_)
      refine goes_ Tryz.func82 kr_ rfl #[.slice Ao21 t296.length co21] (by rfl) rfl rfl ta_ ?_
      with_reducible refine (spec_l07Least.calls k1 (fun k_ => ((P1_ k_ ∨ w.heap.size ≤ k_) ∧ some k_ ≠ (u5 : Value).ownBlock)) _ _ t296 t300 _ ?side1 A8.out).mono ?_
      (case side1 => exact Kd.N_V (HO299.out))
      rintro e w22 ⟨v301, rfl, ho0, hb⟩
      have HS0_ := (hb.cell (World.block_lt_of_cell? _ _ (hHeld))).trans (hHeld)
      refine ⟨_, rfl, ?_⟩
      replace HO_1 := a0_ (Kd.V_below (va_ HO_1.out) hb)
      replace HL295_0 := a0_ (Kd.V_below (va_ HL295_0.out) hb)
      replace HO299 := a0_ (Kd.N_below (by (with_reducible repeat (first | apply Kd.N_alloc | apply Kd.N_drewN | apply Kd.N_drew)); exact HO299.out) hb)
      replace HL303_0 := a0_ (Kd.V_below (va_ HL303_0.out) hb)
      have HO302 := a0_ (Kd.V_lower (Kd.V_mono (ok' := fun k_ => (P1_ k_ ∨ w.heap.size ≤ k_) ∧ some k_ ≠ (u5 : Value).ownBlock) ho0 (fun k_ hk_ => ⟨Or.elim hk_ (fun hs_ => hs_.1) (fun hn_ => (.inr (Nat.le_trans (below_size (bl0_)) hn_))), Or.elim hk_ (fun hs_ => hs_.2) (fun hn_ => (Kd.fresh' (Kd.N_lt (by (with_reducible repeat (first | apply Kd.N_alloc | apply Kd.N_drewN | apply Kd.N_drew)); exact HO_5.out)) k_ hn_))⟩)) (below_size (bl0_)))
      replace HO_5 := a0_ (Kd.N_below (by (with_reducible repeat (first | apply Kd.N_alloc | apply Kd.N_drewN | apply Kd.N_drew)); exact HO_5.out) hb)
      replace HR295_0 := a0_ (Kd.C_below (by repeat (first | (with_reducible exact HR295_0.out) | (with_reducible refine Kd.C_alloc ?_ _) | (with_reducible refine Kd.C_drewN ?_ _) | (with_reducible refine Kd.C_drew ?_) | exact HR295_0.out)) hb)
      replace HR303_0 := a0_ (Kd.C_below (by repeat (first | (with_reducible exact HR303_0.out) | (with_reducible refine Kd.C_alloc ?_ _) | (with_reducible refine Kd.C_drewN ?_ _) | (with_reducible refine Kd.C_drew ?_) | exact HR303_0.out)) hb)
      replace HB := a0_ (below_step (bl0_) hb)
      (try clear hb)
      (try clear hb2)
      (try clear hk)
      (try clear hi)
      (try clear ho0)
      obtain ⟨Ao23, co23, eo23⟩ := Kd.V_slice HO302.out
      (first | subst eo23 | (injection eo23 with f1_ f2_ f3_; have f4_ := f1_.symm; have f5_ := f3_.symm; clear f1_ f2_ f3_; subst f4_; subst f5_))
      refine hK.out _ _ (HS0_) (fun hHeld => ?_)
      clear hK K
      refine nm_ ?_
      refine one_ (i := 6) (N := some 31) (mk_ 7 1) rfl rfl (one_of HT_.out kr_) (by decide) (fun K hK => ?_)
      refine goes_ Tryz.func63 kr_ rfl #[.slice Ao23 t300.length co23, .slice A303_0 (rd_L3 l1 x6_1).length c303_0] (by rfl) rfl rfl ta_ ?_
      with_reducible refine (spec_CompareShapes.calls k1 _ _ t300 _ _ (rd_L3 l1 x6_1) t304 _ ?side1 ?side2 ?side3 ?side4 A9.out).mono ?_
      (case side1 => exact ca_ (Kd.V_reads' HO302.out).2.2)
      (case side2 => exact (Kd.V_reads' HO302.out).2.1)
      (case side3 => repeat (first | exact (by repeat (first | (with_reducible exact HR303_0.out) | (with_reducible refine Kd.C_alloc ?_ _) | (with_reducible refine Kd.C_drewN ?_ _) | (with_reducible refine Kd.C_drew ?_) | exact HR303_0.out)) | (with_reducible refine Kd.C_alloc ?_ _) | (with_reducible refine Kd.C_drewN ?_ _) | (with_reducible refine Kd.C_drew ?_)))
      (case side4 => exact HC303_0.out)
      rintro e w24 ⟨rfl, hb⟩
      have HS0_ := (hb.cell (World.block_lt_of_cell? _ _ (hHeld))).trans (hHeld)
      refine ⟨_, rfl, ?_⟩
      replace HO_1 := a0_ (Kd.V_below (va_ HO_1.out) hb)
      replace HO_5 := a0_ (Kd.N_below (by (with_reducible repeat (first | apply Kd.N_alloc | apply Kd.N_drewN | apply Kd.N_drew)); exact HO_5.out) hb)
      replace HL295_0 := a0_ (Kd.V_below (va_ HL295_0.out) hb)
      replace HO299 := a0_ (Kd.N_below (by (with_reducible repeat (first | apply Kd.N_alloc | apply Kd.N_drewN | apply Kd.N_drew)); exact HO299.out) hb)
      replace HL303_0 := a0_ (Kd.V_below (va_ HL303_0.out) hb)
      replace HO302 := a0_ (Kd.V_below (va_ HO302.out) hb)
      replace HR295_0 := a0_ (Kd.C_below (by repeat (first | (with_reducible exact HR295_0.out) | (with_reducible refine Kd.C_alloc ?_ _) | (with_reducible refine Kd.C_drewN ?_ _) | (with_reducible refine Kd.C_drew ?_) | exact HR295_0.out)) hb)
      replace HR303_0 := a0_ (Kd.C_below (by repeat (first | (with_reducible exact HR303_0.out) | (with_reducible refine Kd.C_alloc ?_ _) | (with_reducible refine Kd.C_drewN ?_ _) | (with_reducible refine Kd.C_drew ?_) | exact HR303_0.out)) hb)
      replace HB := a0_ (below_step (bl0_) hb)
      (try clear hb)
      (try clear hb2)
      (try clear hk)
      (try clear hi)
      refine hK.out _ _ (HS0_) (fun hHeld => ?_)
      clear hK K
      refine nm_ ?_
      refine pu_ 7 (some 32) (mk_ 8 0) HT_ ?_
      refine done_ (done_of HT_.out kr_) ?_
      try go_wp2
      go_roundg k1
      case measure => have := HK1.out; omega
      case rel => exact ⟨(x5_1), (wrap64 (x6_1 + 1)), rs_, H', ⟨by have := HK1.out; omega⟩, ⟨by (with_reducible repeat (first | apply Kd.V_alloc | apply Kd.V_drewN | apply Kd.V_drew)); exact Kd.V_mono HO_1.out (fun _ hk => ⟨hk.1.1, hk.1.2⟩)⟩, ⟨by (with_reducible repeat (first | apply Kd.N_alloc | apply Kd.N_drewN | apply Kd.N_drew)); exact Kd.N_mono HO_5.out (fun _ hk => hk.1)⟩, ⟨bl0_⟩⟩
    ·rw [if_neg c6] at H
     exact absurd H (by simp)
   ·rw [if_neg c5] at H
    have c5b0 : decide (x6_1 < (l1.length : Int)) = false := decide_eq_false c5
    clear c5
    obtain rfl := Option.some.inj H
    go_wp2
    go_ret
    exact ⟨_, er_, by (with_reducible repeat (first | apply Kd.N_alloc | apply Kd.N_drewN | apply Kd.N_drew)); exact HO_5.out, bl0_⟩

/-! ### spec_l07Around: function 72 -/
def spec_l07Around.f (a0 : Int) (a1_0 : Int) (a1_1 : Int) : Option ((List (S46))) := if a0 = 1 then (some (([(⟨a1_0, wrap64 (a1_1 - 1)⟩ : S46), (⟨wrap64 (a1_0 + 1), wrap64 (a1_1 - 1)⟩ : S46), (⟨wrap64 (a1_0 - 1), a1_1⟩ : S46), (⟨wrap64 (a1_0 + 1), a1_1⟩ : S46), (⟨wrap64 (a1_0 - 1), wrap64 (a1_1 + 1)⟩ : S46), (⟨a1_0, wrap64 (a1_1 + 1)⟩ : S46)] : List (S46)))) else ((spec_l01Mod.f a1_0 3).bind fun t313 => (if t313 = 1 then (some (([(⟨wrap64 (a1_0 + 1), wrap64 (a1_1 - 2)⟩ : S46), (⟨wrap64 (a1_0 - 2), wrap64 (a1_1 + 1)⟩ : S46), (⟨wrap64 (a1_0 + 1), wrap64 (a1_1 + 1)⟩ : S46)] : List (S46)))) else (some (([(⟨wrap64 (a1_0 - 1), wrap64 (a1_1 - 1)⟩ : S46), (⟨wrap64 (a1_0 + 2), wrap64 (a1_1 - 1)⟩ : S46), (⟨wrap64 (a1_0 - 1), wrap64 (a1_1 + 2)⟩ : S46)] : List (S46))))))
set_option maxHeartbeats 8000000 in
set_option maxRecDepth 100000 in
theorem spec_l07Around.calls (a0 : Int) (a1_0 : Int) (a1_1 : Int) (r : List (S46)) (w : World) (h : spec_l07Around.f a0 a1_0 a1_1 = some r) :
  Calls Tryz.prog 72 #[.int .i64 a0, .agg #[.int .i64 a1_0, .int .i64 a1_1]] w fun e w' => ∃ v0_ : Value, e = .returned (v0_) ∧ Kd.R k46 46 w' w.heap.size (fun _ => True) v0_ r ∧ Below w.heap.size w w' := by
 have hu46 := Tryz.underlying46
 have HB := a0_ (Below.refl w.heap.size w)
 have H := h
 clear h
 unfold spec_l07Around.f at H
 by_cases c3 : a0 = 1
 ·rw [if_pos c3] at H
  have c3b0 : (a0 == 1) = true := beq_iff_eq.mpr c3
  have c3b1 : (a0 != 1) = false := bne_eq_false_iff_eq.mpr c3
  clear c3
  obtain ⟨y310, hy310⟩ : ∃ y_ : List (S46), y_ = (([(⟨a1_0, wrap64 (a1_1 - 1)⟩ : S46), (⟨wrap64 (a1_0 + 1), wrap64 (a1_1 - 1)⟩ : S46), (⟨wrap64 (a1_0 - 1), a1_1⟩ : S46), (⟨wrap64 (a1_0 + 1), a1_1⟩ : S46), (⟨wrap64 (a1_0 - 1), wrap64 (a1_1 + 1)⟩ : S46), (⟨a1_0, wrap64 (a1_1 + 1)⟩ : S46)] : List (S46))) := ⟨_, rfl⟩
  replace H : (some y310) = some r := hh_ hy310 H
  have Ny310 := Aside0.mk hy310
  clear hy310
  obtain rfl := Option.some.inj H
  go_enter Tryz.func72, Tryz.ntmps72
  go_wp2_with (first | ((with_reducible refine gate_dst (N := 3) rfl ?_); refine bx_ (N := 3) (cs := #[.int .i64 a1_0, .int .i64 a1_1]) (t := 46) ?_; intro gb309 hg w4 hbox hb; have BK309 := a0_ (hbox); have GW309 := a0_ ((sz_ hg (bl0_) : w.heap.size ≤ gb309)); have GE309 := a0_ ((sz_ hg (bl0_) : w.heap.size ≤ gb309)); replace HB := a0_ (below_step (bl0_) hb); clear hb hbox hg; obtain ⟨hcz5_0, hcz5_1, hfz5_0, hfz5_1⟩ := bc2_ BK309.out) | ((with_reducible refine gate_dst (N := 45) rfl ?_); refine Kd.R_lit k46 _ 46 ?hg (N := 45) ?hd (xs := ([(⟨a1_0, wrap64 (a1_1 - 1)⟩ : S46), (⟨wrap64 (a1_0 + 1), wrap64 (a1_1 - 1)⟩ : S46), (⟨wrap64 (a1_0 - 1), a1_1⟩ : S46), (⟨wrap64 (a1_0 + 1), a1_1⟩ : S46), (⟨wrap64 (a1_0 - 1), wrap64 (a1_1 + 1)⟩ : S46), (⟨a1_0, wrap64 (a1_1 + 1)⟩ : S46)] : List (S46))) (inner := [.int .i64 a1_0, .int .i64 (wrap64 (a1_1 - 1)), .int .i64 (wrap64 (a1_0 + 1)), .int .i64 (wrap64 (a1_1 - 1)), .int .i64 (wrap64 (a1_0 - 1)), .int .i64 a1_1, .int .i64 (wrap64 (a1_0 + 1)), .int .i64 a1_1, .int .i64 (wrap64 (a1_0 - 1)), .int .i64 (wrap64 (a1_1 + 1)), .int .i64 a1_0, .int .i64 (wrap64 (a1_1 + 1))]) (ok := fun _ => True) (okp := fun _ => True) ?hr ?hp (fun _ hk => hk) trivial (Below.refl _ _) (Nat.le_refl _) (by simp) ?_; (case hd => rfl); (case hg => rfl); (case hr => first | (go_simp; done) | (go_simp; rfl)); (case hp => exact (Reps.c2 (show Kd.M k46 _ _ _ (⟨a1_0, wrap64 (a1_1 - 1)⟩ : S46) [.int .i64 a1_0, .int .i64 (wrap64 (a1_1 - 1))] from (k46_mkM _ _ _ (⟨a1_0, wrap64 (a1_1 - 1)⟩ : S46) )) (Reps.c2 (show Kd.M k46 _ _ _ (⟨wrap64 (a1_0 + 1), wrap64 (a1_1 - 1)⟩ : S46) [.int .i64 (wrap64 (a1_0 + 1)), .int .i64 (wrap64 (a1_1 - 1))] from (k46_mkM _ _ _ (⟨wrap64 (a1_0 + 1), wrap64 (a1_1 - 1)⟩ : S46) )) (Reps.c2 (show Kd.M k46 _ _ _ (⟨wrap64 (a1_0 - 1), a1_1⟩ : S46) [.int .i64 (wrap64 (a1_0 - 1)), .int .i64 a1_1] from (k46_mkM _ _ _ (⟨wrap64 (a1_0 - 1), a1_1⟩ : S46) )) (Reps.c2 (show Kd.M k46 _ _ _ (⟨wrap64 (a1_0 + 1), a1_1⟩ : S46) [.int .i64 (wrap64 (a1_0 + 1)), .int .i64 a1_1] from (k46_mkM _ _ _ (⟨wrap64 (a1_0 + 1), a1_1⟩ : S46) )) (Reps.c2 (show Kd.M k46 _ _ _ (⟨wrap64 (a1_0 - 1), wrap64 (a1_1 + 1)⟩ : S46) [.int .i64 (wrap64 (a1_0 - 1)), .int .i64 (wrap64 (a1_1 + 1))] from (k46_mkM _ _ _ (⟨wrap64 (a1_0 - 1), wrap64 (a1_1 + 1)⟩ : S46) )) (Reps.c2 (show Kd.M k46 _ _ _ (⟨a1_0, wrap64 (a1_1 + 1)⟩ : S46) [.int .i64 a1_0, .int .i64 (wrap64 (a1_1 + 1))] from (k46_mkM _ _ _ (⟨a1_0, wrap64 (a1_1 + 1)⟩ : S46) )) (Reps.none _ _)))))))); intro v311 w6 ho7 hb hg_ hnew_; clear hg_ hnew_; (first | rw [← Ny310.out] at ho7 | (simp only [Int.reduceToNat] at ho7; rw [← Ny310.out] at ho7)); have HO312 := a0_ (Kd.R_lower (Kd.R_newB ho7 (g := gb309) (o := .cells #[.int .i64 a1_0, .int .i64 a1_1] 46 (0, 0)) (bk_ BK309.out)) (below_size (bl1_ GE309.out))); replace BK309 := a0_ (bb_ BK309.out hb); replace HB := a0_ (below_step (bl1_ GE309.out) hb); clear hb ho7))
  go_ret
  exact ⟨_, er_, by (with_reducible repeat (first | apply Kd.R_alloc | apply Kd.R_drewN | apply Kd.R_drew)); exact Kd.R_mono HO312.out (fun _ hk => trivial), bl1_ GE309.out⟩
 ·rw [if_neg c3] at H
  have c3b0 : (a0 == 1) = false := beq_eq_false_iff_ne.mpr c3
  have c3b1 : (a0 != 1) = true := bne_iff_ne.mpr c3
  obtain ⟨t313, A8, H⟩ := bs_ H
  by_cases c9 : t313 = 1
  ·rw [if_pos c9] at H
   have c9b0 : (t313 == 1) = true := beq_iff_eq.mpr c9
   have c9b1 : (t313 != 1) = false := bne_eq_false_iff_eq.mpr c9
   clear c9
   obtain ⟨y314, hy314⟩ : ∃ y_ : List (S46), y_ = (([(⟨wrap64 (a1_0 + 1), wrap64 (a1_1 - 2)⟩ : S46), (⟨wrap64 (a1_0 - 2), wrap64 (a1_1 + 1)⟩ : S46), (⟨wrap64 (a1_0 + 1), wrap64 (a1_1 + 1)⟩ : S46)] : List (S46))) := ⟨_, rfl⟩
   replace H : (some y314) = some r := hh_ hy314 H
   have Ny314 := Aside0.mk hy314
   clear hy314
   obtain rfl := Option.some.inj H
   go_enter Tryz.func72, Tryz.ntmps72
   go_wp2_with (first | ((with_reducible refine gate_dst (N := 3) rfl ?_); refine bx_ (N := 3) (cs := #[.int .i64 a1_0, .int .i64 a1_1]) (t := 46) ?_; intro gb309 hg w10 hbox hb; have BK309 := a0_ (hbox); have GW309 := a0_ ((sz_ hg (bl0_) : w.heap.size ≤ gb309)); have GE309 := a0_ ((sz_ hg (bl0_) : w.heap.size ≤ gb309)); replace HB := a0_ (below_step (bl0_) hb); clear hb hbox hg; obtain ⟨hcz11_0, hcz11_1, hfz11_0, hfz11_1⟩ := bc2_ BK309.out) | ((with_reducible refine gate_callee (f := 107) rfl ?_); refine goesL_ (some 48) rfl rfl Tryz.func107 kr_ rfl #[.int .i64 a1_0, .int .i64 3] rfl ta_ ?_; (with_reducible refine (spec_l01Mod.calls a1_0 3 t313 _ A8.out).mono ?_); rintro e w' ⟨rfl, ⟨nd, rfl⟩⟩; refine ⟨_, rfl, ?_⟩) | ((with_reducible refine gate_dst (N := 71) rfl ?_); refine Kd.R_lit k46 _ 46 ?hg (N := 71) ?hd (xs := ([(⟨wrap64 (a1_0 + 1), wrap64 (a1_1 - 2)⟩ : S46), (⟨wrap64 (a1_0 - 2), wrap64 (a1_1 + 1)⟩ : S46), (⟨wrap64 (a1_0 + 1), wrap64 (a1_1 + 1)⟩ : S46)] : List (S46))) (inner := [.int .i64 (wrap64 (a1_0 + 1)), .int .i64 (wrap64 (a1_1 - 2)), .int .i64 (wrap64 (a1_0 - 2)), .int .i64 (wrap64 (a1_1 + 1)), .int .i64 (wrap64 (a1_0 + 1)), .int .i64 (wrap64 (a1_1 + 1))]) (ok := fun _ => True) (okp := fun _ => True) ?hr ?hp (fun _ hk => hk) trivial (Below.refl _ _) (Nat.le_refl _) (by simp) ?_; (case hd => rfl); (case hg => rfl); (case hr => first | (go_simp; done) | (go_simp; rfl)); (case hp => exact (Reps.c2 (show Kd.M k46 _ _ _ (⟨wrap64 (a1_0 + 1), wrap64 (a1_1 - 2)⟩ : S46) [.int .i64 (wrap64 (a1_0 + 1)), .int .i64 (wrap64 (a1_1 - 2))] from (k46_mkM _ _ _ (⟨wrap64 (a1_0 + 1), wrap64 (a1_1 - 2)⟩ : S46) )) (Reps.c2 (show Kd.M k46 _ _ _ (⟨wrap64 (a1_0 - 2), wrap64 (a1_1 + 1)⟩ : S46) [.int .i64 (wrap64 (a1_0 - 2)), .int .i64 (wrap64 (a1_1 + 1))] from (k46_mkM _ _ _ (⟨wrap64 (a1_0 - 2), wrap64 (a1_1 + 1)⟩ : S46) )) (Reps.c2 (show Kd.M k46 _ _ _ (⟨wrap64 (a1_0 + 1), wrap64 (a1_1 + 1)⟩ : S46) [.int .i64 (wrap64 (a1_0 + 1)), .int .i64 (wrap64 (a1_1 + 1))] from (k46_mkM _ _ _ (⟨wrap64 (a1_0 + 1), wrap64 (a1_1 + 1)⟩ : S46) )) (Reps.none _ _))))); intro v315 w12 ho13 hb hg_ hnew_; clear hg_ hnew_; (first | rw [← Ny314.out] at ho13 | (simp only [Int.reduceToNat] at ho13; rw [← Ny314.out] at ho13)); have HO316 := a0_ (Kd.R_lower (Kd.R_newB ho13 (g := gb309) (o := .cells #[.int .i64 a1_0, .int .i64 a1_1] 46 (0, 0)) (bk_ BK309.out)) (below_size (bl1_ GE309.out))); replace BK309 := a0_ (bb_ BK309.out hb); replace HB := a0_ (below_step (bl1_ GE309.out) hb); clear hb ho13))
   go_ret
   exact ⟨_, er_, by (with_reducible repeat (first | apply Kd.R_alloc | apply Kd.R_drewN | apply Kd.R_drew)); exact Kd.R_mono HO316.out (fun _ hk => trivial), bl1_ GE309.out⟩
  ·rw [if_neg c9] at H
   have c9b0 : (t313 == 1) = false := beq_eq_false_iff_ne.mpr c9
   have c9b1 : (t313 != 1) = true := bne_iff_ne.mpr c9
   obtain ⟨y317, hy317⟩ : ∃ y_ : List (S46), y_ = (([(⟨wrap64 (a1_0 - 1), wrap64 (a1_1 - 1)⟩ : S46), (⟨wrap64 (a1_0 + 2), wrap64 (a1_1 - 1)⟩ : S46), (⟨wrap64 (a1_0 - 1), wrap64 (a1_1 + 2)⟩ : S46)] : List (S46))) := ⟨_, rfl⟩
   replace H : (some y317) = some r := hh_ hy317 H
   have Ny317 := Aside0.mk hy317
   clear hy317
   obtain rfl := Option.some.inj H
   go_enter Tryz.func72, Tryz.ntmps72
   go_wp2_with (first | ((with_reducible refine gate_dst (N := 3) rfl ?_); refine bx_ (N := 3) (cs := #[.int .i64 a1_0, .int .i64 a1_1]) (t := 46) ?_; intro gb309 hg w14 hbox hb; have BK309 := a0_ (hbox); have GW309 := a0_ ((sz_ hg (bl0_) : w.heap.size ≤ gb309)); have GE309 := a0_ ((sz_ hg (bl0_) : w.heap.size ≤ gb309)); replace HB := a0_ (below_step (bl0_) hb); clear hb hbox hg; obtain ⟨hcz15_0, hcz15_1, hfz15_0, hfz15_1⟩ := bc2_ BK309.out) | ((with_reducible refine gate_callee (f := 107) rfl ?_); refine goesL_ (some 48) rfl rfl Tryz.func107 kr_ rfl #[.int .i64 a1_0, .int .i64 3] rfl ta_ ?_; (with_reducible refine (spec_l01Mod.calls a1_0 3 t313 _ A8.out).mono ?_); rintro e w' ⟨rfl, ⟨nd, rfl⟩⟩; refine ⟨_, rfl, ?_⟩) | ((with_reducible refine gate_dst (N := 93) rfl ?_); refine Kd.R_lit k46 _ 46 ?hg (N := 93) ?hd (xs := ([(⟨wrap64 (a1_0 - 1), wrap64 (a1_1 - 1)⟩ : S46), (⟨wrap64 (a1_0 + 2), wrap64 (a1_1 - 1)⟩ : S46), (⟨wrap64 (a1_0 - 1), wrap64 (a1_1 + 2)⟩ : S46)] : List (S46))) (inner := [.int .i64 (wrap64 (a1_0 - 1)), .int .i64 (wrap64 (a1_1 - 1)), .int .i64 (wrap64 (a1_0 + 2)), .int .i64 (wrap64 (a1_1 - 1)), .int .i64 (wrap64 (a1_0 - 1)), .int .i64 (wrap64 (a1_1 + 2))]) (ok := fun _ => True) (okp := fun _ => True) ?hr ?hp (fun _ hk => hk) trivial (Below.refl _ _) (Nat.le_refl _) (by simp) ?_; (case hd => rfl); (case hg => rfl); (case hr => first | (go_simp; done) | (go_simp; rfl)); (case hp => exact (Reps.c2 (show Kd.M k46 _ _ _ (⟨wrap64 (a1_0 - 1), wrap64 (a1_1 - 1)⟩ : S46) [.int .i64 (wrap64 (a1_0 - 1)), .int .i64 (wrap64 (a1_1 - 1))] from (k46_mkM _ _ _ (⟨wrap64 (a1_0 - 1), wrap64 (a1_1 - 1)⟩ : S46) )) (Reps.c2 (show Kd.M k46 _ _ _ (⟨wrap64 (a1_0 + 2), wrap64 (a1_1 - 1)⟩ : S46) [.int .i64 (wrap64 (a1_0 + 2)), .int .i64 (wrap64 (a1_1 - 1))] from (k46_mkM _ _ _ (⟨wrap64 (a1_0 + 2), wrap64 (a1_1 - 1)⟩ : S46) )) (Reps.c2 (show Kd.M k46 _ _ _ (⟨wrap64 (a1_0 - 1), wrap64 (a1_1 + 2)⟩ : S46) [.int .i64 (wrap64 (a1_0 - 1)), .int .i64 (wrap64 (a1_1 + 2))] from (k46_mkM _ _ _ (⟨wrap64 (a1_0 - 1), wrap64 (a1_1 + 2)⟩ : S46) )) (Reps.none _ _))))); intro v318 w16 ho17 hb hg_ hnew_; clear hg_ hnew_; (first | rw [← Ny317.out] at ho17 | (simp only [Int.reduceToNat] at ho17; rw [← Ny317.out] at ho17)); have HO319 := a0_ (Kd.R_lower (Kd.R_newB ho17 (g := gb309) (o := .cells #[.int .i64 a1_0, .int .i64 a1_1] 46 (0, 0)) (bk_ BK309.out)) (below_size (bl1_ GE309.out))); replace BK309 := a0_ (bb_ BK309.out hb); replace HB := a0_ (below_step (bl1_ GE309.out) hb); clear hb ho17))
   go_ret
   exact ⟨_, er_, by (with_reducible repeat (first | apply Kd.R_alloc | apply Kd.R_drewN | apply Kd.R_drew)); exact Kd.R_mono HO319.out (fun _ hk => trivial), bl1_ GE309.out⟩

/-! ### spec_l02Index: function 83 -/
def spec_l02Index.l0 : Nat → List (S46) → Int → Int → Int → Option (Int)
 | 0, _, _, _, _ => none
 | k + 1, x0, x5, x321000, x321001 => if x5 < (x0.length : Int) then (if 0 ≤ x5 then (if (((rd_T46 x0 x5).f0) == x321000 && (((rd_T46 x0 x5).f1) == x321001)) = true then (some x5) else (spec_l02Index.l0 k x0 (wrap64 (x5 + 1)) x321000 x321001)) else (none)) else (some (-1))
def spec_l02Index.f (k : Nat) (l0 : List (S46)) (a1_0 : Int) (a1_1 : Int) : Option (Int) := spec_l02Index.l0 k l0 0 a1_0 a1_1
theorem spec_l02Index.mono_l : ∀ k, (∀ y0 y1 y2 y3, LeO (spec_l02Index.l0 k y0 y1 y2 y3) (spec_l02Index.l0 (k + 1) y0 y1 y2 y3))
 | 0 => fun _ _ _ _ r h => by simp [spec_l02Index.l0] at h
 | k + 1 => by
  have ih0 := spec_l02Index.mono_l k
  ·intro y0 y1 y2 y3
   unfold spec_l02Index.l0
   with_reducible (repeat' first | exact ih0 _ _ _ _ | exact LeO.refl _ | exact LeO.none _ | refine LeO.ite ?_ ?_ | refine LeO.bind ?_ (fun _ => ?_))
theorem spec_l02Index.mono : ∀ a0 a1 a2 k, LeO (spec_l02Index.f k a0 a1 a2) (spec_l02Index.f (k + 1) a0 a1 a2) := by
 intro a0 a1 a2 k
 have ih0 := spec_l02Index.mono_l k
 unfold spec_l02Index.f
 with_reducible (repeat' first | exact ih0 _ _ _ _ | exact LeO.refl _ | exact LeO.none _ | refine LeO.ite ?_ ?_ | refine LeO.bind ?_ (fun _ => ?_))
set_option maxHeartbeats 8000000 in
set_option maxRecDepth 100000 in
theorem spec_l02Index.calls (k : Nat) (A0 : Option Addr) (c0 : Nat) (l0 : List (S46)) (a1_0 : Int) (a1_1 : Int) (r : Int) (w : World) (hr0 : Kd.C k46 w A0 l0.length l0) (hc0 : l0.length ≤ c0) (h : spec_l02Index.f k l0 a1_0 a1_1 = some r) :
  Calls Tryz.prog 83 #[.slice A0 l0.length c0, .agg #[.int .i64 a1_0, .int .i64 a1_1]] w fun e w' => e = .returned (.int .i64 r) ∧ Below w.heap.size w w' := by
 have hu46 := Tryz.underlying46
 have HR0 := Aside0.mk hr0
 have HC0 := Aside0.mk hc0
 clear hr0 hc0
 have HB := a0_ (Below.refl w.heap.size w)
 have H : (spec_l02Index.l0 k l0 0 a1_0 a1_1) = some r := h
 clear h
 have H' := Aside0.mk H
 clear H
 go_enter Tryz.func83, Tryz.ntmps83
 go_wp2_with (first | ((with_reducible refine gate_dst (N := 3) rfl ?_); refine bx_ (N := 3) (cs := #[.int .i64 a1_0, .int .i64 a1_1]) (t := 46) ?_; intro gb320 hg w3 hbox hb; have BK320 := a0_ (hbox); have GW320 := a0_ ((sz_ hg (bl0_) : w.heap.size ≤ gb320)); have GE320 := a0_ ((sz_ hg (bl0_) : w.heap.size ≤ gb320)); replace HB := a0_ (below_step (bl0_) hb); clear hb hbox hg))
 repeat (go_quiet (first | ((with_reducible refine gate_dst (N := 3) rfl ?_); refine bx_ (N := 3) (cs := #[.int .i64 a1_0, .int .i64 a1_1]) (t := 46) ?_; intro gb320 hg w3 hbox hb; have BK320 := a0_ (hbox); have GW320 := a0_ ((sz_ hg (bl0_) : w.heap.size ≤ gb320)); have GE320 := a0_ ((sz_ hg (bl0_) : w.heap.size ≤ gb320)); replace HB := a0_ (below_step (bl0_) hb); clear hb hbox hg)); try go_wp2_with (first | ((with_reducible refine gate_dst (N := 3) rfl ?_); refine bx_ (N := 3) (cs := #[.int .i64 a1_0, .int .i64 a1_1]) (t := 46) ?_; intro gb320 hg w3 hbox hb; have BK320 := a0_ (hbox); have GW320 := a0_ ((sz_ hg (bl0_) : w.heap.size ≤ gb320)); have GE320 := a0_ ((sz_ hg (bl0_) : w.heap.size ≤ gb320)); replace HB := a0_ (below_step (bl0_) hb); clear hb hbox hg)))
 go_loopg [5] k (fun kq v5 w' => ∃ (x5_1 : Int), v5 = .int .i64 x5_1 ∧ Aside0 (spec_l02Index.l0 kq l0 x5_1 a1_0 a1_1 = some r) ∧ Aside0 (kq ≤ k) ∧ Aside0 (w'.heap[gb320]? = some (.cells #[.int .i64 a1_0, .int .i64 a1_1] 46 (0, 0))) ∧ Aside0 (Below w.heap.size w w'))
 case atStart => exact ⟨(0), rs_, H', ⟨Nat.le_refl _⟩, ⟨bk_ BK320.out⟩, ⟨bl1_ GE320.out⟩⟩
 case round =>
  clear H'
  try clear p2
  obtain ⟨x5_1, rfl, HA, HK1, BK320, HB⟩ := hrel
  cases gk with
  | zero => exact absurd HA.out (by simp [spec_l02Index.l0])
  | succ k1 =>
   have H := HA.out
   clear HA
   simp only [spec_l02Index.l0] at H
   by_cases c4 : x5_1 < (l0.length : Int)
   ·rw [if_pos c4] at H
    have c4b0 : decide (x5_1 < (l0.length : Int)) = true := decide_eq_true c4
    clear c4
    by_cases c5 : 0 ≤ x5_1
    ·rw [if_pos c5] at H
     have c5b0 : decide (0 ≤ x5_1) = true := decide_eq_true c5
     clear c5
     by_cases c6 : (((rd_T46 l0 x5_1).f0) == a1_0 && (((rd_T46 l0 x5_1).f1) == a1_1)) = true
     ·rw [if_pos c6] at H
      have c6b0 : (((rd_T46 l0 x5_1).f0) == a1_0 && (((rd_T46 l0 x5_1).f1) == a1_1)) = true := c6
      (try (have c6b1 : decide (((rd_T46 l0 x5_1).f0) = a1_0 && (((rd_T46 l0 x5_1).f1) == a1_1)) = true := by simpa using c6))
      (try (have c6b2 : (((rd_T46 l0 x5_1).f0) == a1_0 && (((rd_T46 l0 x5_1).f1) == a1_1)) = true := by simpa using c6))
      clear c6
      obtain rfl := Option.some.inj H
      have p321 : 0 ≤ (x5_1 : Int) := od_
      have q321 : x5_1 < (l0.length : Int) := od_
      obtain ⟨ad321, e321, hx321_0, hx321_1⟩ := at_T46 HR0.out x5_1 p321 q321
      cases e321
      replace hx321_0 := (HB.out.cell (World.block_lt_of_cell? w _ hx321_0)).trans hx321_0
      replace hx321_1 := (HB.out.cell (World.block_lt_of_cell? w _ hx321_1)).trans hx321_1
      replace p321 := eq_true p321
      replace q321 := eq_true q321
      have hcz7_0 : wr.cell? ⟨gb320, 0, none⟩ = some (.int .i64 a1_0) := (blk_cell BK320.out 0).trans rfl
      have hcz7_1 : wr.cell? ⟨gb320, 1, none⟩ = some (.int .i64 a1_1) := (blk_cell BK320.out 1).trans rfl
      have hfz7_0 := blk_frozen BK320.out 0
      have hfz7_1 := blk_frozen BK320.out 1
      go_wp2
      repeat (go_quiet (fail); try go_wp2)
      go_ret
      exact ⟨er_, bl1_ GE320.out⟩
     ·rw [if_neg c6] at H
      have c6b0 : (((rd_T46 l0 x5_1).f0) == a1_0 && (((rd_T46 l0 x5_1).f1) == a1_1)) = false := by simpa using c6
      (try (have c6b1 : decide (((rd_T46 l0 x5_1).f0) = a1_0 && (((rd_T46 l0 x5_1).f1) == a1_1)) = false := by simpa using c6))
      (try (have c6b2 : (((rd_T46 l0 x5_1).f0) == a1_0 && (((rd_T46 l0 x5_1).f1) == a1_1)) = false := by simpa using c6))
      (try (have c6b3 : ¬ (((rd_T46 l0 x5_1).f0) = a1_0 && (((rd_T46 l0 x5_1).f1) == a1_1)) := by simpa using c6))
      clear c6
      have H' := Aside0.mk H
      clear H
      have p321 : 0 ≤ (x5_1 : Int) := od_
      have q321 : x5_1 < (l0.length : Int) := od_
      obtain ⟨ad321, e321, hx321_0, hx321_1⟩ := at_T46 HR0.out x5_1 p321 q321
      cases e321
      replace hx321_0 := (HB.out.cell (World.block_lt_of_cell? w _ hx321_0)).trans hx321_0
      replace hx321_1 := (HB.out.cell (World.block_lt_of_cell? w _ hx321_1)).trans hx321_1
      replace p321 := eq_true p321
      replace q321 := eq_true q321
      have hcz8_0 : wr.cell? ⟨gb320, 0, none⟩ = some (.int .i64 a1_0) := (blk_cell BK320.out 0).trans rfl
      have hcz8_1 : wr.cell? ⟨gb320, 1, none⟩ = some (.int .i64 a1_1) := (blk_cell BK320.out 1).trans rfl
      have hfz8_0 := blk_frozen BK320.out 0
      have hfz8_1 := blk_frozen BK320.out 1
      go_wp2
      repeat (go_quiet (fail); try go_wp2)
      go_roundg k1
      case measure => have := HK1.out; omega
      case rel => exact ⟨(wrap64 (x5_1 + 1)), rs_, H', ⟨by have := HK1.out; omega⟩, ⟨bk_ BK320.out⟩, ⟨bl1_ GE320.out⟩⟩
    ·rw [if_neg c5] at H
     exact absurd H (by simp)
   ·rw [if_neg c4] at H
    have c4b0 : decide (x5_1 < (l0.length : Int)) = false := decide_eq_false c4
    clear c4
    obtain rfl := Option.some.inj H
    go_wp2
    repeat (go_quiet (fail); try go_wp2)
    go_ret
    exact ⟨er_, bl1_ GE320.out⟩

end Go.Proofs.YtmdjkmfocgelnaaGreat.PFnTriangleShapes
