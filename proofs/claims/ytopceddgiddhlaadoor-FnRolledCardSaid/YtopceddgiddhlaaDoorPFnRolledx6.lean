/- Over the kit's printer by a driver of mine (hprint.py), with parts by hand: functions of the program as Lean functions, and that each call comes to exactly these answers. -/
import Derived.Test.YtopceddgiddhlaaDoorPFnRolledx0
import Derived.Test.YtopceddgiddhlaaDoorPFnRolledx3
import Derived.Test.YtopceddgiddhlaaDoorPFnRolledx4
import Derived.Test.YtopceddgiddhlaaDoorPFnRolledx5
namespace Go.Proofs.YtopceddgiddhlaaDoor.PFnRolled
open Go.RowKit Go.Proofs.YtopceddgiddhlaaDoorW.PrintWords Go.Proofs.YtopceddgiddhlaaDoorW.PrintLast Go.Proofs.YtopceddgiddhlaaDoorW.PrintMore
attribute [local go_sem] max2_int min2_int max_two min_two max_three min_three max_four min_four   -- for this text's walks alone
set_option linter.unusedVariables false
set_option linter.unusedSimpArgs false

/-! ### spec_l02DrawPoly: function 62 -/
def spec_l02DrawPoly.l0 : Nat → List (S78) → Int → List Int → Int → Int → Option ((List (S78)) × Int × Int)
 | 0, _, _, _, _, _ => none
 | k + 1, x5, x6, x1000, x1001, x1002 => if x6 > 0 then ((spec_l02Neighbours.f k x5).bind fun t177 => ((spec_l01Next.f x1000 x1001 x1002 (t177.length : Int)).bind fun bt180 => (if 0 ≤ bt180.1 then (if bt180.1 < (t177.length : Int) then ((spec_l02Insert.f k x5 ((rd_T78 t177 bt180.1).f0) ((rd_T78 t177 bt180.1).f1)).bind fun t184 => (spec_l02DrawPoly.l0 k t184 (wrap64 (x6 - 1)) x1000 bt180.2.1 bt180.2.2)) else (none)) else (none)))) else ((spec_l02Normal.f k x5).bind fun t187 => (some (t187, x1001, x1002)))
def spec_l02DrawPoly.f (k : Nat) (s0_0 : List Int) (s0_1 : Int) (s0_2 : Int) (a1 : Int) : Option ((List (S78)) × Int × Int) := (spec_l01Next.f s0_0 s0_1 s0_2 a1).bind fun bt174 => (spec_l02DrawPoly.l0 k (([(⟨0, 0⟩ : S78)] : List (S78))) bt174.1 s0_0 bt174.2.1 bt174.2.2)
theorem spec_l02DrawPoly.mono_l : ∀ k, (∀ y0 y1 y2 y3 y4, LeO (spec_l02DrawPoly.l0 k y0 y1 y2 y3 y4) (spec_l02DrawPoly.l0 (k + 1) y0 y1 y2 y3 y4))
 | 0 => fun _ _ _ _ _ r h => by simp [spec_l02DrawPoly.l0] at h
 | k + 1 => by
  have ih0 := spec_l02DrawPoly.mono_l k
  ·intro y0 y1 y2 y3 y4
   unfold spec_l02DrawPoly.l0
   with_reducible (repeat' first | exact ih0 _ _ _ _ _ | exact spec_l02Insert.mono _ _ _ _ | exact spec_l02Neighbours.mono _ _ | exact spec_l02Normal.mono _ _ | exact LeO.refl _ | exact LeO.none _ | refine LeO.ite ?_ ?_ | refine LeO.bind ?_ (fun _ => ?_))
theorem spec_l02DrawPoly.mono : ∀ a0 a1 a2 a3 k, LeO (spec_l02DrawPoly.f k a0 a1 a2 a3) (spec_l02DrawPoly.f (k + 1) a0 a1 a2 a3) := by
 intro a0 a1 a2 a3 k
 have ih0 := spec_l02DrawPoly.mono_l k
 unfold spec_l02DrawPoly.f
 with_reducible (repeat' first | exact ih0 _ _ _ _ _ | exact spec_l02Insert.mono _ _ _ _ | exact spec_l02Neighbours.mono _ _ | exact spec_l02Normal.mono _ _ | exact LeO.refl _ | exact LeO.none _ | refine LeO.ite ?_ ?_ | refine LeO.bind ?_ (fun _ => ?_))
set_option maxHeartbeats 8000000 in
set_option maxRecDepth 100000 in
theorem spec_l02DrawPoly.calls (k : Nat) (g : Nat) (s0_0 : List Int) (s0_1 : Int) (s0_2 : Int) (a1 : Int) (r1 : List (S78)) (r2 : Int) (r3 : Int) (w0 w : World) (hI : IsS81 w0 w g s0_0 s0_1 s0_2) (hB : Below w0.heap.size w0 w) (h : spec_l02DrawPoly.f k s0_0 s0_1 s0_2 a1 = some (r1, r2, r3)) :
  Calls Tryd.prog 62 #[.pointer (some ⟨g, 0, none⟩), .int .i64 a1] w fun e w' => ∃ v0_ : Value, e = .returned (v0_) ∧ Kd.R k78 78 w' w.heap.size (fun _ => True) v0_ r1 ∧ IsS81 w0 w' g s0_0 r2 r3 ∧ Below w0.heap.size w0 w' ∧ KeepBut w w' g none := by
 have hu78 := Tryd.underlying78
 have HI0 := Aside0.mk hI
 have HK := a0_ (KeepBut.refl w g none)
 have HL := Aside0.mk hB.size
 clear hI
 have HW0 := Aside0.mk hB.size
 have HB := Aside0.mk hB
 clear hB
 have H := h
 clear h
 unfold spec_l02DrawPoly.f at H
 obtain ⟨y171, hy171⟩ : ∃ y_ : List (S78), y_ = (([(⟨0, 0⟩ : S78)] : List (S78))) := ⟨_, rfl⟩
 replace H : ((spec_l01Next.f s0_0 s0_1 s0_2 a1).bind fun bt174 => (spec_l02DrawPoly.l0 k y171 bt174.1 s0_0 bt174.2.1 bt174.2.2)) = some (r1, r2, r3) := hh_ hy171 H
 have Ny171 := Aside0.mk hy171
 clear hy171
 obtain ⟨⟨t174, t175, t176⟩, A3, H⟩ := bs_ H
 dsimp only at H
 have H' := Aside0.mk H
 clear H
 go_enter Tryd.func62, Tryd.ntmps62
 go_wp2_with (first | ((with_reducible refine gate_dst (N := 9) rfl ?_); refine Kd.R_lit k78 _ 78 ?hg (N := 9) ?hd (xs := ([(⟨0, 0⟩ : S78)] : List (S78))) (inner := [.int .i64 0, .int .i64 0]) (ok := fun _ => True) (okp := fun _ => True) ?hr ?hp (fun _ hk => hk) trivial (Below.refl _ _) (Nat.le_refl _) (by simp) ?_; (case hd => rfl); (case hg => rfl); (case hr => first | (go_simp; done) | (go_simp; rfl)); (case hp => exact (Reps.c2 (show Kd.M k78 _ _ _ (⟨0, 0⟩ : S78) [.int .i64 0, .int .i64 0] from (k78_mkM _ _ _ (⟨0, 0⟩ : S78) )) (Reps.none _ _))); intro v172 w4 ho5 hb hg_ hnew_; clear hg_ hnew_; (first | rw [← Ny171.out] at ho5 | (simp only [Int.reduceToNat] at ho5; rw [← Ny171.out] at ho5)); have HO173 := a0_ (Kd.R_lower ho5 (keep_size (w := w) (g := g) (row := none) (kb0_))); replace HK := a0_ (KeepBut.trans (kb0_) (KeepBut.of_below hb g none) (.inl rfl)); replace HB := a0_ (below_step (bl1_ (IsS81.ge HI0.out)) hb); replace HI0 := a0_ (IsS81.below (is81_ HI0.out) hb); clear hb ho5) | ((with_reducible refine gate_callee (f := 58) rfl ?_); refine goesL_ (some 12) rfl rfl Tryd.func58 kr_ rfl #[.pointer (some ⟨g, 0, none⟩), .int .i64 a1] rfl ta_ ?_; (with_reducible refine (spec_l01Next.calls g s0_0 s0_1 s0_2 a1 t174 t175 t176 w0 _ ?side1 ?side2 A3.out).mono ?_); (case side1 => exact is81_ HI0.out); (case side2 => exact bl1_ (IsS81.ge HI0.out)); rintro e w6 ⟨rfl, hi, hb, hk⟩; refine ⟨_, rfl, ?_⟩; replace HO173 := a0_ (Kd.R_mono (Kd.R_keep (IsS81.apart (show IsS81 w0 _ g s0_0 s0_1 s0_2 from is81_ HI0.out) (ra_ HO173.out) (by decide)) hk (fun _ h => h.2)) (fun _ h => h.1)); replace HK := a0_ (KeepBut.trans (kb0_) hk (.inl rfl)); replace HB := a0_ (hb); replace HI0 := a0_ (hi); (try clear hb); (try clear hb2); (try clear hk); (try clear hi)))
 go_loopg [5, 6] k (fun kq v5 v6 w' => ∃ (x5_1 : List (S78)) (x6_1 : Int) (x1001_1 : Int) (x1002_1 : Int), v6 = .int .i64 x6_1 ∧ Aside0 (spec_l02DrawPoly.l0 kq x5_1 x6_1 s0_0 x1001_1 x1002_1 = some (r1, r2, r3)) ∧ Aside0 (kq ≤ k) ∧ Aside0 (Kd.R k78 78 w' w.heap.size (fun _ => True) v5 x5_1) ∧ Aside0 (IsS81 w0 w' g s0_0 x1001_1 x1002_1) ∧ Aside0 (KeepBut w w' g none) ∧ Aside0 (Below w0.heap.size w0 w'))
 case atStart => exact ⟨(y171), (t174), (t175), (t176), rs_, H', ⟨Nat.le_refl _⟩, ⟨ra_ HO173.out⟩, ⟨is81_ HI0.out⟩, ⟨kb0_⟩, ⟨bl1_ (IsS81.ge HI0.out)⟩⟩
 case round =>
  clear H'
  try clear c2
  try clear p2
  try clear c5
  try clear c6
  obtain ⟨x5_1, x6_1, x1001_1, x1002_1, rfl, HA, HK1, HO_5, HI0, HK, HB⟩ := hrel
  cases gk with
  | zero => exact absurd HA.out (by simp [spec_l02DrawPoly.l0])
  | succ k1 =>
   have H := HA.out
   clear HA
   simp only [spec_l02DrawPoly.l0] at H
   by_cases c7 : x6_1 > 0
   ·rw [if_pos c7] at H
    have c7b0 : decide (0 < x6_1) = true := decide_eq_true c7
    clear c7
    obtain ⟨t177, A8, H⟩ := bs_ H
    obtain ⟨⟨t180, t181, t182⟩, A9, H⟩ := bs_ H
    dsimp only at H
    by_cases c10 : 0 ≤ t180
    ·rw [if_pos c10] at H
     have c10b0 : decide (0 ≤ t180) = true := decide_eq_true c10
     clear c10
     by_cases c11 : t180 < (t177.length : Int)
     ·rw [if_pos c11] at H
      have c11b0 : decide (t180 < (t177.length : Int)) = true := decide_eq_true c11
      clear c11
      obtain ⟨t184, A12, H⟩ := bs_ H
      have H' := Aside0.mk H
      clear H
      obtain ⟨Ao13, co13, eo13⟩ := Kd.R_slice HO_5.out
      subst eo13
      go_wp2_with (first | ((with_reducible refine gate_callee (f := 80) rfl ?_); refine goesL_ (some 18) rfl rfl Tryd.func80 kr_ rfl #[.slice Ao13 x5_1.length co13] rfl ta_ ?_; (with_reducible refine (spec_l02Neighbours.calls k1 _ _ x5_1 t177 _ ?side1 ?side2 A8.out).mono ?_); (case side1 => exact ca_ (Kd.R_reads' HO_5.out).2.2); (case side2 => exact (Kd.R_reads' HO_5.out).2.1); rintro e w14 ⟨v178, rfl, ho0, hb⟩; refine ⟨_, rfl, ?_⟩; have HO179 := a0_ (Kd.R_lower (Kd.R_new' ho0 (Kd.R_lt (ra_ HO_5.out))) (keep_size (w := w) (g := g) (row := none) (kb0_))); replace HO_5 := a0_ (Kd.R_elder' (ra_ HO_5.out) (Kd.R_base ho0) hb); replace HK := a0_ (KeepBut.trans (kb0_) (KeepBut.of_below hb g none) (.inl rfl)); replace HB := a0_ (below_step (bl1_ (IsS81.ge HI0.out)) hb); replace HI0 := a0_ (IsS81.below (is81_ HI0.out) hb); (try clear hb); (try clear hb2); (try clear hk); (try clear hi); (try clear ho0); obtain ⟨Ao15, co15, eo15⟩ := Kd.R_slice HO179.out; subst eo15) | ((with_reducible refine gate_callee (f := 58) rfl ?_); refine goesL_ (some 24) rfl rfl Tryd.func58 kr_ rfl #[.pointer (some ⟨g, 0, none⟩), .int .i64 (t177.length : Int)] rfl ta_ ?_; (with_reducible refine (spec_l01Next.calls g s0_0 x1001_1 x1002_1 (t177.length : Int) t180 t181 t182 w0 _ ?side1 ?side2 A9.out).mono ?_); (case side1 => exact is81_ HI0.out); (case side2 => exact bl1_ (IsS81.ge HI0.out)); rintro e w16 ⟨rfl, hi, hb, hk⟩; refine ⟨_, rfl, ?_⟩; replace HO_5 := a0_ (Kd.R_mono (Kd.R_keep (IsS81.apart (show IsS81 w0 _ g s0_0 x1001_1 x1002_1 from is81_ HI0.out) (ra_ HO_5.out) (by decide)) hk (fun _ h => h.2)) (fun _ h => h.1)); replace HO179 := a0_ (Kd.R_mono (Kd.R_keep (IsS81.apart (show IsS81 w0 _ g s0_0 x1001_1 x1002_1 from is81_ HI0.out) (ra_ HO179.out) (by decide)) hk (fun _ h => h.2)) (fun _ h => h.1)); replace HK := a0_ (KeepBut.trans (kb0_) hk (.inl rfl)); replace HB := a0_ (hb); replace HI0 := a0_ (hi); (try clear hb); (try clear hb2); (try clear hk); (try clear hi); have p183 : 0 ≤ (t180 : Int) := od_; have q183 : t180 < (t177.length : Int) := od_; obtain ⟨ad183, e183, hx183_0, hx183_1⟩ := at_T78 (Kd.R_reads' HO179.out).2.2 t180 p183 q183; cases e183; replace p183 := eq_true p183; replace q183 := eq_true q183) | ((with_reducible refine gate_callee (f := 81) rfl ?_); refine goesL_ (some 27) rfl rfl Tryd.func81 kr_ rfl #[.slice Ao13 x5_1.length co13, .agg #[.int .i64 ((rd_T78 t177 t180).f0), .int .i64 ((rd_T78 t177 t180).f1)]] rfl ta_ ?_; (with_reducible refine (spec_l02Insert.calls k1 _ _ x5_1 ((rd_T78 t177 t180).f0) ((rd_T78 t177 t180).f1) t184 _ ?side1 ?side2 A12.out).mono ?_); (case side1 => exact ca_ (Kd.R_reads' HO_5.out).2.2); (case side2 => exact (Kd.R_reads' HO_5.out).2.1); rintro e w17 ⟨v185, rfl, ho0, hb⟩; refine ⟨_, rfl, ?_⟩; have HO186 := a0_ (Kd.R_lower (Kd.R_new' (Kd.R_new' ho0 (Kd.R_lt (ra_ HO_5.out))) (Kd.R_lt (ra_ HO179.out))) (keep_size (w := w) (g := g) (row := none) (kb0_))); replace HO_5 := a0_ (Kd.R_elder' (ra_ HO_5.out) (Kd.R_base ho0) hb); replace HO179 := a0_ (Kd.R_elder' (ra_ HO179.out) (Kd.R_base ho0) hb); replace HK := a0_ (KeepBut.trans (kb0_) (KeepBut.of_below hb g none) (.inl rfl)); replace HB := a0_ (below_step (bl1_ (IsS81.ge HI0.out)) hb); replace HI0 := a0_ (IsS81.below (is81_ HI0.out) hb); (try clear hb); (try clear hb2); (try clear hk); (try clear hi); (try clear ho0)))
      go_roundg k1
      case measure => have := HK1.out; omega
      case rel => exact ⟨(t184), (wrap64 (x6_1 - 1)), (t181), (t182), rs_, H', ⟨by have := HK1.out; omega⟩, ⟨by (with_reducible repeat (first | apply Kd.R_alloc | apply Kd.R_drewN | apply Kd.R_drew)); exact Kd.R_mono HO186.out (fun _ hk => trivial)⟩, ⟨is81_ HI0.out⟩, ⟨kb0_⟩, ⟨bl1_ (IsS81.ge HI0.out)⟩⟩
     ·rw [if_neg c11] at H
      exact absurd H (by simp)
    ·rw [if_neg c10] at H
     exact absurd H (by simp)
   ·rw [if_neg c7] at H
    have c7b0 : decide (0 < x6_1) = false := decide_eq_false c7
    clear c7
    obtain ⟨t187, A18, H⟩ := bs_ H
    simp only [Option.some.injEq, Prod.mk.injEq] at H
    obtain ⟨rfl, rfl, rfl⟩ := H
    obtain ⟨Ao19, co19, eo19⟩ := Kd.R_slice HO_5.out
    subst eo19
    go_wp2_with (first | ((with_reducible refine gate_callee (f := 68) rfl ?_); refine goesL_ (some 29) rfl rfl Tryd.func68 kr_ rfl #[.slice Ao19 x5_1.length co19] rfl ta_ ?_; (with_reducible refine (spec_l02Normal.calls k1 _ _ x5_1 t187 _ ?side1 ?side2 A18.out).mono ?_); (case side1 => exact ca_ (Kd.R_reads' HO_5.out).2.2); (case side2 => exact (Kd.R_reads' HO_5.out).2.1); rintro e w20 ⟨v188, rfl, ho0, hb⟩; refine ⟨_, rfl, ?_⟩; have HO189 := a0_ (Kd.R_lower (Kd.R_new' ho0 (Kd.R_lt (ra_ HO_5.out))) (keep_size (w := w) (g := g) (row := none) (kb0_))); replace HO_5 := a0_ (Kd.R_elder' (ra_ HO_5.out) (Kd.R_base ho0) hb); replace HK := a0_ (KeepBut.trans (kb0_) (KeepBut.of_below hb g none) (.inl rfl)); replace HB := a0_ (below_step (bl1_ (IsS81.ge HI0.out)) hb); replace HI0 := a0_ (IsS81.below (is81_ HI0.out) hb); (try clear hb); (try clear hb2); (try clear hk); (try clear hi); (try clear ho0)))
    go_ret
    exact ⟨_, er_, by (with_reducible repeat (first | apply Kd.R_alloc | apply Kd.R_drewN | apply Kd.R_drew)); exact Kd.R_mono HO189.out (fun _ hk => trivial), is81_ HI0.out, bl1_ (IsS81.ge HI0.out), kb0_⟩

/-! ### spec_l01In: function 59 -/
def spec_l01In.f (a0 : Int) (a1 : Int) (a2 : Int) : Option (Bool) := if a0 ≥ a1 then (some (decide (a0 ≤ a2))) else (some false)
set_option maxHeartbeats 8000000 in
set_option maxRecDepth 100000 in
theorem spec_l01In.calls (a0 : Int) (a1 : Int) (a2 : Int) (r : Bool) (w : World) (h : spec_l01In.f a0 a1 a2 = some r) :
  Calls Tryd.prog 59 #[.int .i64 a0, .int .i64 a1, .int .i64 a2] w fun e w' => e = .returned (.bool r) ∧ Drawn0 w w' := by
 have H : (if a0 ≥ a1 then (some (decide (a0 ≤ a2))) else (some false)) = some r := h
 clear h
 by_cases c4 : a0 ≥ a1
 ·rw [if_pos c4] at H
  have c4b0 : decide (a1 ≤ a0) = true := decide_eq_true c4
  clear c4
  obtain rfl := Option.some.inj H
  go_enter Tryd.func59, Tryd.ntmps59
  go_wp2
  go_ret
  exact ⟨by first | rfl | (simp; done) | (simp [*]; done), by repeat (first | exact Drawn0.refl _ | apply Drawn0.step)⟩
 ·rw [if_neg c4] at H
  have c4b0 : decide (a1 ≤ a0) = false := decide_eq_false c4
  clear c4
  obtain rfl := Option.some.inj H
  go_enter Tryd.func59, Tryd.ntmps59
  go_wp2
  go_ret
  exact ⟨by first | rfl | (simp; done) | (simp [*]; done), by repeat (first | exact Drawn0.refl _ | apply Drawn0.step)⟩

/-! ### spec_l02Cell: function 102 -/
def spec_l02Cell.f (a0_0 : Int) (a0_1 : Int) : Option (Bool) := (spec_l01In.f a0_0 (-100) 100).bind fun t191 => (if t191 = true then ((spec_l01In.f a0_1 (-100) 100).bind fun t192 => (some t192)) else (some false))
set_option maxHeartbeats 8000000 in
set_option maxRecDepth 100000 in
theorem spec_l02Cell.calls (a0_0 : Int) (a0_1 : Int) (r : Bool) (w : World) (h : spec_l02Cell.f a0_0 a0_1 = some r) :
  Calls Tryd.prog 102 #[.agg #[.int .i64 a0_0, .int .i64 a0_1]] w fun e w' => e = .returned (.bool r) ∧ Below w.heap.size w w' := by
 have hu78 := Tryd.underlying78
 have HB := a0_ (Below.refl w.heap.size w)
 have H := h
 clear h
 unfold spec_l02Cell.f at H
 obtain ⟨t191, A2, H⟩ := bs_ H
 by_cases c3 : t191 = true
 ·subst c3
  rw [if_pos rfl] at H
  obtain ⟨t192, A4, H⟩ := bs_ H
  obtain rfl := Option.some.inj H
  go_enter Tryd.func102, Tryd.ntmps102
  go_wp2_with (first | ((with_reducible refine gate_dst (N := 1) rfl ?_); refine bx_ (N := 1) (cs := #[.int .i64 a0_0, .int .i64 a0_1]) (t := 78) ?_; intro gb190 hg w5 hbox hb; have BK190 := a0_ (hbox); have GW190 := a0_ ((sz_ hg (bl0_) : w.heap.size ≤ gb190)); have GE190 := a0_ ((sz_ hg (bl0_) : w.heap.size ≤ gb190)); replace HB := a0_ (below_step (bl0_) hb); clear hb hbox hg; obtain ⟨hcz6_0, hcz6_1, hfz6_0, hfz6_1⟩ := bc2_ BK190.out) | ((with_reducible refine gate_callee (f := 59) rfl ?_); refine goesL_ (some 5) rfl rfl Tryd.func59 kr_ rfl #[.int .i64 a0_0, .int .i64 (-100), .int .i64 100] rfl ta_ ?_; (with_reducible refine (spec_l01In.calls a0_0 (-100) 100 true _ A2.out).mono ?_); rintro e w' ⟨rfl, ⟨nd, rfl⟩⟩; refine ⟨_, rfl, ?_⟩) | (go_at_call 59; (with_reducible refine (spec_l01In.calls a0_1 (-100) 100 t192 _ A4.out).mono ?_); rintro e w' ⟨rfl, ⟨nd, rfl⟩⟩))
  go_ret
  exact ⟨er_, bl1_ GE190.out⟩
 ·replace c3 := Bool.eq_false_iff.mpr c3
  subst c3
  rw [if_neg (show ¬ (false = true) by decide)] at H
  obtain rfl := Option.some.inj H
  go_enter Tryd.func102, Tryd.ntmps102
  go_wp2_with (first | ((with_reducible refine gate_dst (N := 1) rfl ?_); refine bx_ (N := 1) (cs := #[.int .i64 a0_0, .int .i64 a0_1]) (t := 78) ?_; intro gb190 hg w7 hbox hb; have BK190 := a0_ (hbox); have GW190 := a0_ ((sz_ hg (bl0_) : w.heap.size ≤ gb190)); have GE190 := a0_ ((sz_ hg (bl0_) : w.heap.size ≤ gb190)); replace HB := a0_ (below_step (bl0_) hb); clear hb hbox hg; obtain ⟨hcz8_0, hcz8_1, hfz8_0, hfz8_1⟩ := bc2_ BK190.out) | ((with_reducible refine gate_callee (f := 59) rfl ?_); refine goesL_ (some 5) rfl rfl Tryd.func59 kr_ rfl #[.int .i64 a0_0, .int .i64 (-100), .int .i64 100] rfl ta_ ?_; (with_reducible refine (spec_l01In.calls a0_0 (-100) 100 false _ A2.out).mono ?_); rintro e w' ⟨rfl, ⟨nd, rfl⟩⟩; refine ⟨_, rfl, ?_⟩))
  go_ret
  exact ⟨er_, bl1_ GE190.out⟩

end Go.Proofs.YtopceddgiddhlaaDoor.PFnRolled
