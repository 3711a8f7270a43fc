/- Over the kit's printer by a driver of mine (hprint.py), with parts by hand: functions of the program as Lean functions, and that each call comes to exactly these answers. -/
import Derived.Test.YtmdjkmfocgelnaaGreatPFnListedx0
import Derived.Test.YtmdjkmfocgelnaaGreatPFnListedx8
import Derived.Test.YtmdjkmfocgelnaaGreatPFnListedx9
import Derived.Test.YtmdjkmfocgelnaaGreatPFnListedx11
import Derived.Test.YtmdjkmfocgelnaaGreatPFnListedx18
namespace Go.Proofs.YtmdjkmfocgelnaaGreat.PFnListed
open Go.RowKit Go.Proofs.YtmdjkmfocgelnaaGreatW.PrintWords Go.Proofs.YtmdjkmfocgelnaaGreatW.PrintLast Go.Proofs.YtmdjkmfocgelnaaGreatW.PrintMore
attribute [local go_sem] max2_int min2_int max_two min_two max_three min_three max_four min_four   -- for this text's walks alone
set_option linter.unusedVariables false
set_option linter.unusedSimpArgs false

/-! ### spec_l05Code: function 62 -/
def spec_l05Code.f (k : Nat) (l0 : List (S46)) : Option (Int) := (spec_IsConnected.f k l0).bind fun t460 => (if t460 = true then ((spec_l03Code.f k l0).bind fun t461 => (some t461)) else (some 1))
theorem spec_l05Code.mono : ∀ a0 k, LeO (spec_l05Code.f k a0) (spec_l05Code.f (k + 1) a0) := by
 intro a0 k
 unfold spec_l05Code.f
 with_reducible (repeat' first | exact spec_IsConnected.mono _ _ | exact spec_l03Code.mono _ _ | exact LeO.refl _ | exact LeO.none _ | refine LeO.ite ?_ ?_ | refine LeO.bind ?_ (fun _ => ?_))
set_option maxHeartbeats 8000000 in
set_option maxRecDepth 100000 in
theorem spec_l05Code.calls (k : Nat) (A0 : Option Addr) (c0 : Nat) (l0 : List (S46)) (r : Int) (w : World) (hr0 : Kd.C k46 w A0 l0.length l0) (hc0 : l0.length ≤ c0) (h : spec_l05Code.f k l0 = some r) :
  Calls Tryz.prog 62 #[.slice A0 l0.length c0] w fun e w' => e = .returned (.int .i64 r) ∧ Below w.heap.size w w' := by
 have HR0 := Aside0.mk hr0
 have HC0 := Aside0.mk hc0
 clear hr0 hc0
 have HB := a0_ (Below.refl w.heap.size w)
 have H := h
 clear h
 unfold spec_l05Code.f at H
 obtain ⟨t460, A2, H⟩ := bs_ H
 by_cases c3 : t460 = true
 ·subst c3
  rw [if_pos rfl] at H
  obtain ⟨t461, A4, H⟩ := bs_ H
  obtain rfl := Option.some.inj H
  go_enter Tryz.func62, Tryz.ntmps62
  go_wp2_with (first | ((with_reducible refine gate_callee (f := 103) rfl ?_); refine goesL_ (some 4) rfl rfl Tryz.func103 kr_ rfl #[.slice A0 l0.length c0] rfl ta_ ?_; (with_reducible refine (spec_IsConnected.calls k _ _ l0 true _ ?side1 ?side2 A2.out).mono ?_); (case side1 => exact ca_ HR0.out); (case side2 => exact HC0.out); rintro e w5 ⟨rfl, hb⟩; refine ⟨_, rfl, ?_⟩; replace HB := a0_ (below_step (bl0_) hb); (try clear hb); (try clear hb2); (try clear hk); (try clear hi)) | ((with_reducible refine gate_callee (f := 104) rfl ?_); refine goesL_ (some 7) rfl rfl Tryz.func104 kr_ rfl #[.slice A0 l0.length c0] rfl ta_ ?_; (with_reducible refine (spec_l03Code.calls k _ _ l0 t461 _ ?side1 ?side2 A4.out).mono ?_); (case side1 => exact ca_ (Kd.C_below HR0.out HB.out)); (case side2 => exact HC0.out); rintro e w6 ⟨rfl, hb⟩; refine ⟨_, rfl, ?_⟩; replace HB := a0_ (below_step (bl0_) hb); (try clear hb); (try clear hb2); (try clear hk); (try clear hi)))
  go_ret
  exact ⟨er_, bl0_⟩
 ·replace c3 := Bool.eq_false_iff.mpr c3
  subst c3
  rw [if_neg (show ¬ (false = true) by decide)] at H
  obtain rfl := Option.some.inj H
  go_enter Tryz.func62, Tryz.ntmps62
  go_wp2_with (first | ((with_reducible refine gate_callee (f := 103) rfl ?_); refine goesL_ (some 4) rfl rfl Tryz.func103 kr_ rfl #[.slice A0 l0.length c0] rfl ta_ ?_; (with_reducible refine (spec_IsConnected.calls k _ _ l0 false _ ?side1 ?side2 A2.out).mono ?_); (case side1 => exact ca_ HR0.out); (case side2 => exact HC0.out); rintro e w7 ⟨rfl, hb⟩; refine ⟨_, rfl, ?_⟩; replace HB := a0_ (below_step (bl0_) hb); (try clear hb); (try clear hb2); (try clear hk); (try clear hi)))
  go_ret
  exact ⟨er_, bl0_⟩

/-! ### spec_RankOf: function 22 -/
mutual
def spec_RankOf.j0 : Nat → List (S46) → Int → Bool → Option (Int × Int)
 | 0, _, _, _ => none
 | k + 1, x0, x4, x15 => if x15 = true then (spec_RankOf.j1 k x0 2) else (spec_RankOf.j1 k x0 x4)
def spec_RankOf.j1 : Nat → List (S46) → Int → Option (Int × Int)
 | 0, _, _ => none
 | k + 1, x0, x4 => if x4 = 0 then ((spec_l05Fixed.f k (x0.length : Int)).bind fun t463 => (spec_RankOf.l0 k x0 t463 0)) else (some (0, x4))
def spec_RankOf.l0 : Nat → List (S46) → List (List (S46)) → Int → Option (Int × Int)
 | 0, _, _, _ => none
 | k + 1, x0, x5, x6 => if 0 ≤ x6 then (if x6 < (x5.length : Int) then ((spec_l02Normal.f k x0).bind fun t467 => ((spec_CompareShapes.f k (rd_L3 x5 x6) t467).bind fun t470 => (if t470 = 0 then (some (x6, 0)) else (spec_RankOf.l0 k x0 x5 (wrap64 (x6 + 1)))))) else (none)) else (none)
end
def spec_RankOf.f (k : Nat) (l0 : List (S46)) : Option (Int × Int) := (spec_l05Code.f k l0).bind fun t462 => (if t462 = 0 then (spec_RankOf.j0 k l0 t462 (decide ((l0.length : Int) > 6))) else (spec_RankOf.j0 k l0 t462 false))
theorem spec_RankOf.mono_l : ∀ k, (∀ y0 y1 y2, LeO (spec_RankOf.j0 k y0 y1 y2) (spec_RankOf.j0 (k + 1) y0 y1 y2)) ∧ (∀ y0 y1, LeO (spec_RankOf.j1 k y0 y1) (spec_RankOf.j1 (k + 1) y0 y1)) ∧ (∀ y0 y1 y2, LeO (spec_RankOf.l0 k y0 y1 y2) (spec_RankOf.l0 (k + 1) y0 y1 y2))
 | 0 => ⟨fun _ _ _ r h => by simp [spec_RankOf.j0] at h, fun _ _ r h => by simp [spec_RankOf.j1] at h, fun _ _ _ r h => by simp [spec_RankOf.l0] at h⟩
 | k + 1 => by
  obtain ⟨ih0, ih1, ih2⟩ := spec_RankOf.mono_l k
  refine ⟨?_, ?_, ?_⟩
  ·intro y0 y1 y2
   unfold spec_RankOf.j0
   with_reducible (repeat' first | exact ih0 _ _ _ | exact ih1 _ _ | exact ih2 _ _ _ | exact spec_CompareShapes.mono _ _ _ | exact spec_l02Normal.mono _ _ | exact spec_l05Code.mono _ _ | exact spec_l05Fixed.mono _ _ | exact LeO.refl _ | exact LeO.none _ | refine LeO.ite ?_ ?_ | refine LeO.bind ?_ (fun _ => ?_))
  ·intro y0 y1
   unfold spec_RankOf.j1
   with_reducible (repeat' first | exact ih0 _ _ _ | exact ih1 _ _ | exact ih2 _ _ _ | exact spec_CompareShapes.mono _ _ _ | exact spec_l02Normal.mono _ _ | exact spec_l05Code.mono _ _ | exact spec_l05Fixed.mono _ _ | exact LeO.refl _ | exact LeO.none _ | refine LeO.ite ?_ ?_ | refine LeO.bind ?_ (fun _ => ?_))
  ·intro y0 y1 y2
   unfold spec_RankOf.l0
   with_reducible (repeat' first | exact ih0 _ _ _ | exact ih1 _ _ | exact ih2 _ _ _ | exact spec_CompareShapes.mono _ _ _ | exact spec_l02Normal.mono _ _ | exact spec_l05Code.mono _ _ | exact spec_l05Fixed.mono _ _ | exact LeO.refl _ | exact LeO.none _ | refine LeO.ite ?_ ?_ | refine LeO.bind ?_ (fun _ => ?_))
theorem spec_RankOf.mono : ∀ a0 k, LeO (spec_RankOf.f k a0) (spec_RankOf.f (k + 1) a0) := by
 intro a0 k
 obtain ⟨ih0, ih1, ih2⟩ := spec_RankOf.mono_l k
 unfold spec_RankOf.f
 with_reducible (repeat' first | exact ih0 _ _ _ | exact ih1 _ _ | exact ih2 _ _ _ | exact spec_CompareShapes.mono _ _ _ | exact spec_l02Normal.mono _ _ | exact spec_l05Code.mono _ _ | exact spec_l05Fixed.mono _ _ | exact LeO.refl _ | exact LeO.none _ | refine LeO.ite ?_ ?_ | refine LeO.bind ?_ (fun _ => ?_))
def spec_RankOf.T8 : Bool × List (List Nat × List Nat) := (true, [([], []), ([], []), ([0, 1], [0, 1]), ([2], [2]), ([], []), ([4], [4]), ([3, 5, 5], [3, 5]), ([6], [6])])
def spec_RankOf.B8 : List Nat := [0, 0, 3, 7, 0, 16, 63, 127]
theorem spec_RankOf.tab8 : rtab .any (opsOf Tryz.f22 8) = spec_RankOf.T8 := by kernel_rfl
theorem spec_RankOf.bits8 : waitsOk spec_RankOf.T8.2 spec_RankOf.B8 = true := by kernel_rfl
set_option maxHeartbeats 8000000 in
set_option maxRecDepth 100000 in
theorem spec_RankOf.calls (k : Nat) (A0 : Option Addr) (c0 : Nat) (l0 : List (S46)) (r1 : Int) (r2 : Int) (w : World) (hr0 : Kd.C k46 w A0 l0.length l0) (hc0 : l0.length ≤ c0) (h : spec_RankOf.f k l0 = some (r1, r2)) :
  Calls Tryz.prog 22 #[.slice A0 l0.length c0] w fun e w' => e = .returned (.tuple #[.int .i64 r1, .int .i64 r2]) ∧ Below w.heap.size w w' := by
 have HR0 := Aside0.mk hr0
 have HC0 := Aside0.mk hc0
 clear hr0 hc0
 have HB := a0_ (Below.refl w.heap.size w)
 have H := h
 clear h
 unfold spec_RankOf.f at H
 obtain ⟨t462, A2, H⟩ := bs_ H
 have HC3 := Aside0.mk H
 clear H
 go_enter Tryz.func22, Tryz.ntmps22
 go_upto_region 2 with (first | ((with_reducible refine gate_callee (f := 62) rfl ?_); refine goesL_ (some 8) rfl rfl Tryz.func62 kr_ rfl #[.slice A0 l0.length c0] rfl ta_ ?_; (with_reducible refine (spec_l05Code.calls k _ _ l0 t462 _ ?side1 ?side2 A2.out).mono ?_); (case side1 => exact ca_ HR0.out); (case side2 => exact HC0.out); rintro e w4 ⟨rfl, hb⟩; refine ⟨_, rfl, ?_⟩; replace HB := a0_ (below_step (bl0_) hb); (try clear hb); (try clear hb2); (try clear hk); (try clear hi)))
 (try simp only [Act.put, List.setIfInBounds_toArray, List.set_cons_zero, List.set_cons_succ])
 go_cut [15] (fun v15 wc => ∃ (kq : Nat) (x15_2 : Bool), v15 = .bool x15_2 ∧ Aside0 (spec_RankOf.j0 kq l0 t462 x15_2 = some (r1, r2)) ∧ Aside0 (kq ≤ k) ∧ Aside0 (Below w.heap.size w wc))
 case first =>
  have H := HC3.out
  clear HC3
  by_cases c5 : t462 = 0
  ·rw [if_pos c5] at H
   have c5b0 : (t462 == 0) = true := beq_iff_eq.mpr c5
   have c5b1 : (t462 != 0) = false := bne_eq_false_iff_eq.mpr c5
   clear c5
   (first | rw [c5b0] | (simp only [i64_w, i32_w]; rw [c5b0]) | skip)
   have H' := Aside0.mk H
   clear H
   go_wp2
   go_meet
   case rel => exact ⟨_, (decide ((l0.length : Int) > 6)), rs_, H', ⟨by first | omega | exact Nat.le_refl _⟩, ⟨bl0_⟩⟩
  ·rw [if_neg c5] at H
   have c5b0 : (t462 == 0) = false := beq_eq_false_iff_ne.mpr c5
   have c5b1 : (t462 != 0) = true := bne_iff_ne.mpr c5
   (first | rw [c5b0] | (simp only [i64_w, i32_w]; rw [c5b0]) | skip)
   have H' := Aside0.mk H
   clear H
   go_wp2
   go_meet
   case rel => exact ⟨_, (false), rs_, H', ⟨by first | omega | exact Nat.le_refl _⟩, ⟨bl0_⟩⟩
 case rest =>
  clear HC3
  try clear c2
  try clear p2
  try clear c5
  try clear c5b0
  try clear c5b1
  obtain ⟨kq, x15_2, rfl, HA, HJ2, HB⟩ := hcut
  cases kq with
  | zero => exact absurd HA.out (by simp [spec_RankOf.j0])
  | succ kj2 =>
   have H := HA.out
   clear HA
   simp only [spec_RankOf.j0] at H
   have HC6 := Aside0.mk H
   clear H
   go_upto_if 15 with (fail)
   go_cut [4] (fun v4 wc => ∃ (kq : Nat) (x4_5 : Int), v4 = .int .i64 x4_5 ∧ Aside0 (spec_RankOf.j1 kq l0 x4_5 = some (r1, r2)) ∧ Aside0 (kq ≤ kj2) ∧ Aside0 (Below w.heap.size w wc))
   case first =>
    have H := HC6.out
    clear HC6
    by_cases c7 : x15_2 = true
    ·subst c7
     rw [if_pos rfl] at H
     have H' := Aside0.mk H
     clear H
     go_wp2
     go_meet
     case rel => exact ⟨_, (2), rs_, H', ⟨by have := HJ2.out; first | omega | exact Nat.le_refl _⟩, ⟨bl0_⟩⟩
    ·replace c7 := Bool.eq_false_iff.mpr c7
     subst c7
     rw [if_neg (show ¬ (false = true) by decide)] at H
     have H' := Aside0.mk H
     clear H
     go_wp2
     go_meet
     case rel => exact ⟨_, (t462), rs_, H', ⟨by have := HJ2.out; first | omega | exact Nat.le_refl _⟩, ⟨bl0_⟩⟩
   case rest =>
    clear HC6
    try clear c2
    try clear p2
    try clear c5
    try clear c5b0
    try clear c5b1
    try clear c6
    try clear c7
    try clear p2
    obtain ⟨kq, x4_5, rfl, HA, HJ5, HB⟩ := hcut
    cases kq with
    | zero => exact absurd HA.out (by simp [spec_RankOf.j1])
    | succ kj5 =>
     have H := HA.out
     clear HA
     simp only [spec_RankOf.j1] at H
     by_cases c8 : x4_5 = 0
     ·rw [if_pos c8] at H
      have c8b0 : (x4_5 == 0) = true := beq_iff_eq.mpr c8
      have c8b1 : (x4_5 != 0) = false := bne_eq_false_iff_eq.mpr c8
      clear c8
      obtain ⟨t463, A9, H⟩ := bs_ H
      have H' := Aside0.mk H
      clear H
      go_wp2_with (first | ((with_reducible refine gate_callee (f := 54) rfl ?_); refine goesL_ (some 21) rfl rfl Tryz.func54 kr_ rfl #[.int .i64 (l0.length : Int)] rfl ta_ ?_; (with_reducible refine (spec_l05Fixed.calls kj5 (l0.length : Int) t463 _ A9.out).mono ?_); rintro e w10 ⟨v464, rfl, ho0, hb⟩; refine ⟨_, rfl, ?_⟩; have HO465 := a0_ (Kd.V_lower (Kd.V_mono (ok' := fun k_ => True) ho0 (fun k_ hk_ => trivial)) (below_size (bl0_))); replace HB := a0_ (below_step (bl0_) hb); (try clear hb); (try clear hb2); (try clear hk); (try clear hi); (try clear ho0)))
      go_loopg [6] kj5 (fun kq v6 w' => ∃ (x6_3 : Int), v6 = .int .i64 x6_3 ∧ Aside0 (spec_RankOf.l0 kq l0 t463 x6_3 = some (r1, r2)) ∧ Aside0 (kq ≤ kj5) ∧ Aside0 (Kd.V (Kd.slice 46 k46) 35 w' w.heap.size (fun _ => True) v464 t463) ∧ Aside0 (Below w.heap.size w w'))
      case atStart => exact ⟨(0), rs_, H', ⟨Nat.le_refl _⟩, ⟨va_ HO465.out⟩, ⟨bl0_⟩⟩
      case round =>
       clear H'
       try clear c2
       try clear p2
       try clear c5
       try clear c5b0
       try clear c5b1
       try clear c6
       try clear c7
       try clear c8
       try clear c8b0
       try clear c8b1
       try clear p2
       obtain ⟨x6_3, rfl, HA, HK3, HO_5, HB⟩ := hrel
       cases gk with
       | zero => exact absurd HA.out (by simp [spec_RankOf.l0])
       | succ k3 =>
        have H := HA.out
        clear HA
        simp only [spec_RankOf.l0] at H
        by_cases c11 : 0 ≤ x6_3
        ·rw [if_pos c11] at H
         have c11b0 : decide (0 ≤ x6_3) = true := decide_eq_true c11
         clear c11
         by_cases c12 : x6_3 < (t463.length : Int)
         ·rw [if_pos c12] at H
          have c12b0 : decide (x6_3 < (t463.length : Int)) = true := decide_eq_true c12
          clear c12
          obtain ⟨t467, A13, H⟩ := bs_ H
          obtain ⟨t470, A14, H⟩ := bs_ H
          by_cases c15 : t470 = 0
          ·rw [if_pos c15] at H
           have c15b0 : (t470 == 0) = true := beq_iff_eq.mpr c15
           have c15b1 : (t470 != 0) = false := bne_eq_false_iff_eq.mpr c15
           clear c15
           simp only [Option.some.injEq, Prod.mk.injEq] at H
           obtain ⟨rfl, rfl⟩ := H
           try go_wp2
           replace HO_5 := a0_ (Kd.V_drew HO_5.out)
           replace HB := a0_ (below_drew1 HB.out)
           obtain ⟨Ao17, co17, eo17⟩ := Kd.V_slice HO_5.out
           (first | subst eo17 | (injection eo17 with f1_ f2_ f3_; have f4_ := f1_.symm; have f5_ := f3_.symm; clear f1_ f2_ f3_; subst f4_; subst f5_))
           have p466 : 0 ≤ (x6_3 : Int) := od_
           have q466 : x6_3 < (t463.length : Int) := od_
           obtain ⟨ad466, A466_0, c466_0, e466, hx466_0, hl466_0, hi466_0⟩ := at_L3 (Kd.V_reads' HO_5.out).2.2 x6_3 p466 q466
           cases e466
           obtain ⟨ce466, hce466, hMe466, hcc466⟩ := Kd.V_get HO_5.out [] x6_3 p466 (by first | exact q466 | exact od_ | (have e_ := (Kd.V_reads' HO_5.out).1; omega))
           obtain ⟨ua466_0, uc466_0, rfl, ul466_0, ge466_0⟩ := Kd.FK_slice_open hMe466
           have hv466_0 := hcc466 0 _ rfl
           rw [Nat.add_zero, show ((Kd.slice 46 k46)).sz = 1 from rfl, Nat.mul_one] at hv466_0
           replace hv466_0 := Option.some.inj (hv466_0.symm.trans hx466_0)
           injection hv466_0 with hva_ hvn_ hvc_
           rw [hva_] at ge466_0
           rw [hvc_] at ul466_0
           have HL466_0 := a0_ (show Kd.V k46 46 _ w.heap.size _ _ (rd_L3 t463 x6_3) from Kd.V_mk ul466_0 ge466_0)
           clear hva_ hvn_ hvc_ ge466_0 ul466_0
           clear hcc466 hce466
           have HR466_0 := Aside0.mk hi466_0
           have HC466_0 := Aside0.mk hl466_0
           clear hi466_0 hl466_0
           replace p466 := eq_true p466
           replace q466 := eq_true q466
           refine start_ (n := 8) (S := fun w' => w'.cell? (ad466.add (x6_3).toNat) = some (.slice A466_0 (rd_L3 t463 x6_3).length c466_0)) (ds := []) (mk_ 0 8) kr_ rfl rfl (hx466_0) (fun hHeld => ?_); refine with_tabW spec_RankOf.tab8 spec_RankOf.bits8 (fun HT_ HW_ => ?_)
           generalize wr.drew = w16 at HO_5 HB HL466_0 HR466_0 hx466_0 hHeld ⊢
           refine pu_ 0 (some 22) (mk_ 1 7) HT_ ?_
           refine pu_ 1 (some 23) (mk_ 2 6) HT_ ?_
           refine pu_ 2 (some 24) (mk_ 3 5) HT_ ?_
           refine pu_ 4 (some 26) #[true, true, true, false, true, false, false, false] HT_ ?_
           refine take_ (i := 3) (N := some 25) (v := ?_) (a' := ?_) (mk_ 5 3) rfl rfl (take_ofW HT_.out HW_.out kr_) (fun _ _ _ h => h) (Or.inl ⟨by rfl, ?_⟩) hHeld ?_ ?_
           rotate_left
           ·intro w' s0
            go_simp
            with_reducible rfl
           rotate_left
           ·simp only [sp_]
            rfl
           refine one_ (i := 5) (N := some 27) (mk_ 6 2) rfl rfl (one_of HT_.out kr_) (by decide) (fun K hK => ?_)
           refine goes_ Tryz.func64 kr_ rfl #[.slice A0 l0.length c0] (by rfl) rfl rfl ta_ ?_
           with_reducible refine (spec_l02Normal.calls k3 _ _ l0 t467 _ ?side1 ?side2 A13.out).mono ?_
           (case side1 => exact ca_ (Kd.C_below HR0.out HB.out))
           (case side2 => exact HC0.out)
           rintro e w18 ⟨v468, rfl, ho0, hb⟩
           have HS0_ := (hb.cell (World.block_lt_of_cell? _ _ (hHeld))).trans (hHeld)
           refine ⟨_, rfl, ?_⟩
           replace HO_5 := a0_ (Kd.V_elder' (va_ HO_5.out) (Kd.R_base ho0) hb)
           replace HL466_0 := a0_ (Kd.V_elder' (va_ HL466_0.out) (Kd.R_base ho0) hb)
           have HO469 := a0_ (Kd.R_lower ho0 (below_size (bl0_)))
           replace HR466_0 := a0_ (Kd.C_below (by repeat (first | (with_reducible exact HR466_0.out) | (with_reducible refine Kd.C_alloc ?_ _) | (with_reducible refine Kd.C_drewN ?_ _) | (with_reducible refine Kd.C_drew ?_) | exact HR466_0.out)) hb)
           replace HB := a0_ (below_step (bl0_) hb)
           (try clear hb)
           (try clear hb2)
           (try clear hk)
           (try clear hi)
           (try clear ho0)
           obtain ⟨Ao19, co19, eo19⟩ := Kd.R_slice HO469.out
           (first | subst eo19 | (injection eo19 with f1_ f2_ f3_; have f4_ := f1_.symm; have f5_ := f3_.symm; clear f1_ f2_ f3_; subst f4_; subst f5_))
           refine hK.out _ _ (HS0_) (fun hHeld => ?_)
           clear hK K
           refine nm_ ?_
           refine one_ (i := 6) (N := some 28) (mk_ 7 1) rfl rfl (one_of HT_.out kr_) (by decide) (fun K hK => ?_)
           refine goes_ Tryz.func63 kr_ rfl #[.slice A466_0 (rd_L3 t463 x6_3).length c466_0, .slice Ao19 t467.length co19] (by rfl) rfl rfl ta_ ?_
           with_reducible refine (spec_CompareShapes.calls k3 _ _ (rd_L3 t463 x6_3) _ _ t467 t470 _ ?side1 ?side2 ?side3 ?side4 A14.out).mono ?_
           (case side1 => repeat (first | exact (by repeat (first | (with_reducible exact HR466_0.out) | (with_reducible refine Kd.C_alloc ?_ _) | (with_reducible refine Kd.C_drewN ?_ _) | (with_reducible refine Kd.C_drew ?_) | exact HR466_0.out)) | (with_reducible refine Kd.C_alloc ?_ _) | (with_reducible refine Kd.C_drewN ?_ _) | (with_reducible refine Kd.C_drew ?_)))
           (case side2 => exact HC466_0.out)
           (case side3 => exact ca_ (Kd.R_reads' HO469.out).2.2)
           (case side4 => exact (Kd.R_reads' HO469.out).2.1)
           rintro e w20 ⟨rfl, hb⟩
           have HS0_ := (hb.cell (World.block_lt_of_cell? _ _ (hHeld))).trans (hHeld)
           refine ⟨_, rfl, ?_⟩
           replace HO_5 := a0_ (Kd.V_below (va_ HO_5.out) hb)
           replace HL466_0 := a0_ (Kd.V_below (va_ HL466_0.out) hb)
           replace HO469 := a0_ (Kd.R_below (ra_ HO469.out) hb)
           replace HR466_0 := a0_ (Kd.C_below (by repeat (first | (with_reducible exact HR466_0.out) | (with_reducible refine Kd.C_alloc ?_ _) | (with_reducible refine Kd.C_drewN ?_ _) | (with_reducible refine Kd.C_drew ?_) | exact HR466_0.out)) hb)
           replace HB := a0_ (below_step (bl0_) hb)
           (try clear hb)
           (try clear hb2)
           (try clear hk)
           (try clear hi)
           refine hK.out _ _ (HS0_) (fun hHeld => ?_)
           clear hK K
           refine nm_ ?_
           refine pu_ 7 (some 29) (mk_ 8 0) HT_ ?_
           refine done_ (done_of HT_.out kr_) ?_
           try go_wp2
           go_ret2
           exact ⟨er_, bl0_⟩
          ·rw [if_neg c15] at H
           have c15b0 : (t470 == 0) = false := beq_eq_false_iff_ne.mpr c15
           have c15b1 : (t470 != 0) = true := bne_iff_ne.mpr c15
           have H' := Aside0.mk H
           clear H
           try go_wp2
           replace HO_5 := a0_ (Kd.V_drew HO_5.out)
           replace HB := a0_ (below_drew1 HB.out)
           obtain ⟨Ao22, co22, eo22⟩ := Kd.V_slice HO_5.out
           (first | subst eo22 | (injection eo22 with f1_ f2_ f3_; have f4_ := f1_.symm; have f5_ := f3_.symm; clear f1_ f2_ f3_; subst f4_; subst f5_))
           have p466 : 0 ≤ (x6_3 : Int) := od_
           have q466 : x6_3 < (t463.length : Int) := od_
           obtain ⟨ad466, A466_0, c466_0, e466, hx466_0, hl466_0, hi466_0⟩ := at_L3 (Kd.V_reads' HO_5.out).2.2 x6_3 p466 q466
           cases e466
           obtain ⟨ce466, hce466, hMe466, hcc466⟩ := Kd.V_get HO_5.out [] x6_3 p466 (by first | exact q466 | exact od_ | (have e_ := (Kd.V_reads' HO_5.out).1; omega))
           obtain ⟨ua466_0, uc466_0, rfl, ul466_0, ge466_0⟩ := Kd.FK_slice_open hMe466
           have hv466_0 := hcc466 0 _ rfl
           rw [Nat.add_zero, show ((Kd.slice 46 k46)).sz = 1 from rfl, Nat.mul_one] at hv466_0
           replace hv466_0 := Option.some.inj (hv466_0.symm.trans hx466_0)
           injection hv466_0 with hva_ hvn_ hvc_
           rw [hva_] at ge466_0
           rw [hvc_] at ul466_0
           have HL466_0 := a0_ (show Kd.V k46 46 _ w.heap.size _ _ (rd_L3 t463 x6_3) from Kd.V_mk ul466_0 ge466_0)
           clear hva_ hvn_ hvc_ ge466_0 ul466_0
           clear hcc466 hce466
           have HR466_0 := Aside0.mk hi466_0
           have HC466_0 := Aside0.mk hl466_0
           clear hi466_0 hl466_0
           replace p466 := eq_true p466
           replace q466 := eq_true q466
           refine start_ (n := 8) (S := fun w' => w'.cell? (ad466.add (x6_3).toNat) = some (.slice A466_0 (rd_L3 t463 x6_3).length c466_0)) (ds := []) (mk_ 0 8) kr_ rfl rfl (hx466_0) (fun hHeld => ?_); refine with_tabW spec_RankOf.tab8 spec_RankOf.bits8 (fun HT_ HW_ => ?_)
           generalize wr.drew = w21 at HO_5 HB HL466_0 HR466_0 hx466_0 hHeld ⊢
           refine pu_ 0 (some 22) (mk_ 1 7) HT_ ?_
           refine pu_ 1 (some 23) (mk_ 2 6) HT_ ?_
           refine pu_ 2 (some 24) (mk_ 3 5) HT_ ?_
           refine pu_ 4 (some 26) #[true, true, true, false, true, false, false, false] HT_ ?_
           refine take_ (i := 3) (N := some 25) (v := ?_) (a' := ?_) (mk_ 5 3) rfl rfl (take_ofW HT_.out HW_.out kr_) (fun _ _ _ h => h) (Or.inl ⟨by rfl, ?_⟩) hHeld ?_ ?_
           rotate_left
           ·intro w' s0
            go_simp
            with_reducible rfl
           rotate_left
           ·simp only [sp_]
            rfl
           refine one_ (i := 5) (N := some 27) (mk_ 6 2) rfl rfl (one_of HT_.out kr_) (by decide) (fun K hK => ?_)
           refine goes_ Tryz.func64 kr_ rfl #[.slice A0 l0.length c0] (by rfl) rfl rfl ta_ ?_
           with_reducible refine (spec_l02Normal.calls k3 _ _ l0 t467 _ ?side1 ?side2 A13.out).mono ?_
           (case side1 => exact ca_ (Kd.C_below HR0.out HB.out))
           (case side2 => exact HC0.out)
           rintro e w23 ⟨v468, rfl, ho0, hb⟩
           have HS0_ := (hb.cell (World.block_lt_of_cell? _ _ (hHeld))).trans (hHeld)
           refine ⟨_, rfl, ?_⟩
           replace HO_5 := a0_ (Kd.V_elder' (va_ HO_5.out) (Kd.R_base ho0) hb)
           replace HL466_0 := a0_ (Kd.V_elder' (va_ HL466_0.out) (Kd.R_base ho0) hb)
           have HO469 := a0_ (Kd.R_lower ho0 (below_size (bl0_)))
           replace HR466_0 := a0_ (Kd.C_below (by repeat (first | (with_reducible exact HR466_0.out) | (with_reducible refine Kd.C_alloc ?_ _) | (with_reducible refine Kd.C_drewN ?_ _) | (with_reducible refine Kd.C_drew ?_) | exact HR466_0.out)) hb)
           replace HB := a0_ (below_step (bl0_) hb)
           (try clear hb)
           (try clear hb2)
           (try clear hk)
           (try clear hi)
           (try clear ho0)
           obtain ⟨Ao24, co24, eo24⟩ := Kd.R_slice HO469.out
           (first | subst eo24 | (injection eo24 with f1_ f2_ f3_; have f4_ := f1_.symm; have f5_ := f3_.symm; clear f1_ f2_ f3_; subst f4_; subst f5_))
           refine hK.out _ _ (HS0_) (fun hHeld => ?_)
           clear hK K
           refine nm_ ?_
           refine one_ (i := 6) (N := some 28) (mk_ 7 1) rfl rfl (one_of HT_.out kr_) (by decide) (fun K hK => ?_)
           refine goes_ Tryz.func63 kr_ rfl #[.slice A466_0 (rd_L3 t463 x6_3).length c466_0, .slice Ao24 t467.length co24] (by rfl) rfl rfl ta_ ?_
           with_reducible refine (spec_CompareShapes.calls k3 _ _ (rd_L3 t463 x6_3) _ _ t467 t470 _ ?side1 ?side2 ?side3 ?side4 A14.out).mono ?_
           (case side1 => repeat (first | exact (by repeat (first | (with_reducible exact HR466_0.out) | (with_reducible refine Kd.C_alloc ?_ _) | (with_reducible refine Kd.C_drewN ?_ _) | (with_reducible refine Kd.C_drew ?_) | exact HR466_0.out)) | (with_reducible refine Kd.C_alloc ?_ _) | (with_reducible refine Kd.C_drewN ?_ _) | (with_reducible refine Kd.C_drew ?_)))
           (case side2 => exact HC466_0.out)
           (case side3 => exact ca_ (Kd.R_reads' HO469.out).2.2)
           (case side4 => exact (Kd.R_reads' HO469.out).2.1)
           rintro e w25 ⟨rfl, hb⟩
           have HS0_ := (hb.cell (World.block_lt_of_cell? _ _ (hHeld))).trans (hHeld)
           refine ⟨_, rfl, ?_⟩
           replace HO_5 := a0_ (Kd.V_below (va_ HO_5.out) hb)
           replace HL466_0 := a0_ (Kd.V_below (va_ HL466_0.out) hb)
           replace HO469 := a0_ (Kd.R_below (ra_ HO469.out) hb)
           replace HR466_0 := a0_ (Kd.C_below (by repeat (first | (with_reducible exact HR466_0.out) | (with_reducible refine Kd.C_alloc ?_ _) | (with_reducible refine Kd.C_drewN ?_ _) | (with_reducible refine Kd.C_drew ?_) | exact HR466_0.out)) hb)
           replace HB := a0_ (below_step (bl0_) hb)
           (try clear hb)
           (try clear hb2)
           (try clear hk)
           (try clear hi)
           refine hK.out _ _ (HS0_) (fun hHeld => ?_)
           clear hK K
           refine nm_ ?_
           refine pu_ 7 (some 29) (mk_ 8 0) HT_ ?_
           refine done_ (done_of HT_.out kr_) ?_
           try go_wp2
           go_roundg k3
           case measure => have := HJ2.out; have := HJ5.out; have := HK3.out; omega
           case rel => exact ⟨(wrap64 (x6_3 + 1)), rs_, H', ⟨by have := HJ2.out; have := HJ5.out; have := HK3.out; omega⟩, ⟨by (with_reducible repeat (first | apply Kd.V_alloc | apply Kd.V_drewN | apply Kd.V_drew)); exact Kd.V_mono HO_5.out (fun _ hk => trivial)⟩, ⟨bl0_⟩⟩
         ·rw [if_neg c12] at H
          exact absurd H (by simp)
        ·rw [if_neg c11] at H
         exact absurd H (by simp)
     ·rw [if_neg c8] at H
      have c8b0 : (x4_5 == 0) = false := beq_eq_false_iff_ne.mpr c8
      have c8b1 : (x4_5 != 0) = true := bne_iff_ne.mpr c8
      simp only [Option.some.injEq, Prod.mk.injEq] at H
      obtain ⟨rfl, rfl⟩ := H
      go_wp2
      go_ret2
      exact ⟨er_, bl0_⟩

end Go.Proofs.YtmdjkmfocgelnaaGreat.PFnListed
