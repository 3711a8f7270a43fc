/- Over the kit's printer by a driver of mine (hprint.py), with parts by hand: functions of the program as Lean functions, and that each call comes to exactly these answers. -/
import Derived.Test.YtaaodakmelihaaaPFnNamesx0
import Derived.Test.YtaaodakmelihaaaPFnNamesx1
import Derived.Test.YtaaodakmelihaaaPFnNamesx2
import Derived.Test.YtaaodakmelihaaaPFnNamesx3
import Derived.Test.YtaaodakmelihaaaPFnNamesx4
namespace Go.Proofs.Ytaaodakmelihaaa.PFnNames
open Go.RowKit Go.Proofs.YtaaodakmelihaaaW.PrintWords Go.Proofs.YtaaodakmelihaaaW.PrintLast Go.Proofs.YtaaodakmelihaaaW.PrintMore
attribute [local go_sem] max2_int min2_int max_two min_two max_three min_three max_four min_four   -- for this text's walks alone
set_option linter.unusedVariables false
set_option linter.unusedSimpArgs false

attribute [local go_sem high] eqA49
/-! ### impl_forms: function 25 -/
def impl_forms.l0 : Nat → List (S49) → List (List (S49)) → Int → Int → Option ((List (List (S49))))
 | 0, _, _, _, _ => none
 | k + 1, x0, x5, x8, x9 => if x9 < x8 then ((impl_form.f k x0 x9).bind fun t159 => (if x5.length < 5864062014805 then (impl_forms.l0 k x0 (x5 ++ [t159]) x8 (wrap64 (x9 + 1))) else (none))) else (some x5)
def impl_forms.f (k : Nat) (l0 : List (S49)) (a1 : Int) : Option ((List (List (S49)))) := impl_forms.l0 k l0 (([] : List (List (S49)))) a1 0
theorem impl_forms.mono_l : ∀ k, (∀ y0 y1 y2 y3, LeO (impl_forms.l0 k y0 y1 y2 y3) (impl_forms.l0 (k + 1) y0 y1 y2 y3))
 | 0 => fun _ _ _ _ r h => by simp [impl_forms.l0] at h
 | k + 1 => by
  have ih0 := impl_forms.mono_l k
  ·intro y0 y1 y2 y3
   unfold impl_forms.l0
   repeat' first
   | (with_reducible exact ih0 _ _ _ _)
   | (with_reducible exact impl_form.mono _ _ _)
   | (with_reducible exact LeO.refl _)
   | (with_reducible exact LeO.none _)
   | (with_reducible refine LeO.ite ?_ ?_)
   | (with_reducible refine LeO.bind ?_ (fun _ => ?_))
   | exact ih0 _ _ _ _
   | exact impl_form.mono _ _ _
   | exact LeO.none _
   | refine LeO.ite ?_ ?_
   | refine LeO.bind ?_ (fun _ => ?_)
theorem impl_forms.mono : ∀ a0 a1 k, LeO (impl_forms.f k a0 a1) (impl_forms.f (k + 1) a0 a1) := by
 intro a0 a1 k
 have ih0 := impl_forms.mono_l k
 unfold impl_forms.f
 repeat' first
   | (with_reducible exact ih0 _ _ _ _)
   | (with_reducible exact impl_form.mono _ _ _)
   | (with_reducible exact LeO.refl _)
   | (with_reducible exact LeO.none _)
   | (with_reducible refine LeO.ite ?_ ?_)
   | (with_reducible refine LeO.bind ?_ (fun _ => ?_))
   | exact ih0 _ _ _ _
   | exact impl_form.mono _ _ _
   | exact LeO.none _
   | refine LeO.ite ?_ ?_
   | refine LeO.bind ?_ (fun _ => ?_)
set_option maxHeartbeats 8000000 in
set_option maxRecDepth 100000 in
theorem impl_forms.calls (k : Nat) (A0 : Option Addr) (c0 : Nat) (l0 : List (S49)) (a1 : Int) (r : List (List (S49))) (w : World) (hr0 : Kd.C k49 w A0 l0.length l0) (hc0 : l0.length ≤ c0) (h : impl_forms.f k l0 a1 = some r) :
  Calls Try.prog 25 #[.slice A0 l0.length c0, .int .i64 a1] w fun e w' => ∃ v0_ : Value, e = .returned (v0_) ∧ Kd.S (Kd.slice 49 k49) 24 w' w.heap.size (fun _ => True) v0_ r ∧ Below w.heap.size w w' := by
 have HR0 := Aside0.mk hr0
 have HC0 := Aside0.mk hc0
 clear hr0 hc0
 have HB := Aside0.mk (Below.refl w.heap.size w)
 have H : (impl_forms.l0 k l0 (([] : List (List (S49)))) a1 0) = some r := h
 clear h
 obtain ⟨y156, hy156⟩ : ∃ y_ : List (List (S49)), y_ = (([] : List (List (S49)))) := ⟨_, rfl⟩
 replace H : (impl_forms.l0 k l0 y156 a1 0) = some r := by first | (rw [hy156]; with_reducible exact H) | (have H2_ := (Option.bind_some _ _).symm.trans H; rw [hy156]; with_reducible exact H2_) | (have H2_ := (Option.bind_some _ _).symm.trans H; with_reducible exact H2_) | with_reducible exact H | (rw [hy156]; exact H) | exact H
 have Ny156 := Aside0.mk hy156
 clear hy156
 have H' := Aside0.mk H
 clear H
 go_enter Try.func25, Try.ntmps25
 go_wp2_with (first | ((with_reducible refine gate_dst (N := 7) rfl ?_); refine Kd.S_lit (Kd.slice 49 k49) _ 24 ?hg (N := 7) ?hd (xs := ([] : List (List (S49)))) (inner := []) (ok := fun _ => True) (okp := fun _ => True) ?hr ?hp (fun _ hk => hk) trivial (Below.refl _ _) (Nat.le_refl _) (by simp) ?_; (case hd => rfl); (case hg => rfl); (case hr => first | (go_simp; done) | (go_simp; rfl)); (case hp => exact (Reps.none _ _)); intro v157 w3 ho4 hb hg_ hnew_; clear hg_ hnew_; (first | rw [← Ny156.out] at ho4 | (simp only [Int.reduceToNat] at ho4; rw [← Ny156.out] at ho4)); have n0_ := Aside0.mk (Kd.S_lower ho4 (below_size (bl0_))); have n1_ := Aside0.mk (below_step (bl0_) hb); clear HB; have HO158 := n0_; have HB := n1_; clear n0_ n1_; clear hb ho4))
 go_loopg [5, 9] k (fun kq v5 v9 w' => ∃ (x5_1 : List (List (S49))) (x9_1 : Int), v9 = .int .i64 x9_1 ∧ Aside0 (impl_forms.l0 kq l0 x5_1 a1 x9_1 = some r) ∧ Aside0 (kq ≤ k) ∧ Aside0 (Kd.S (Kd.slice 49 k49) 24 w' w.heap.size (fun _ => True) v5 x5_1) ∧ Aside0 (Below w.heap.size w w'))
 case atStart => exact ⟨(y156), (0), rs_, H', ⟨Nat.le_refl _⟩, ⟨by (with_reducible repeat (first | apply Kd.S_alloc | apply Kd.S_drewN | apply Kd.S_drew)); exact HO158.out⟩, ⟨bl0_⟩⟩
 case round =>
  clear H'
  try clear c2
  try clear p2
  obtain ⟨x5_1, x9_1, rfl, HA, HK1, HO_5, HB⟩ := hrel
  cases gk with
  | zero => exact absurd HA.out (by simp [impl_forms.l0])
  | succ k1 =>
   have H := HA.out
   clear HA
   simp only [impl_forms.l0] at H
   by_cases c5 : x9_1 < a1
   ·rw [if_pos c5] at H
    have c5b0 : decide (x9_1 < a1) = true := decide_eq_true c5
    clear c5
    replace H := Option.bind_eq_some_iff.mp H
    obtain ⟨t159, A60, H⟩ := H
    replace H : (if x5_1.length < 5864062014805 then (impl_forms.l0 k1 l0 (x5_1 ++ [t159]) a1 (wrap64 (x9_1 + 1))) else (none)) = some r := H
    have A6 := Aside0.mk A60
    clear A60
    by_cases c7 : x5_1.length < 5864062014805
    ·rw [if_pos c7] at H
     have LMc7 := Aside0.mk c7
     clear c7
     obtain ⟨y162, hy162⟩ : ∃ y_ : List (List (S49)), y_ = (x5_1 ++ [t159]) := ⟨_, rfl⟩
     replace H : (impl_forms.l0 k1 l0 y162 a1 (wrap64 (x9_1 + 1))) = some r := by first | (rw [hy162]; with_reducible exact H) | (have H2_ := (Option.bind_some _ _).symm.trans H; rw [hy162]; with_reducible exact H2_) | (have H2_ := (Option.bind_some _ _).symm.trans H; with_reducible exact H2_) | with_reducible exact H | (rw [hy162]; exact H) | exact H
     have Ny162 := Aside0.mk hy162
     clear hy162
     have H' := Aside0.mk H
     clear H
     go_wp2_with (first | ((with_reducible refine gate_callee (f := 36) rfl ?_); refine goesL_ (some 15) rfl rfl Try.func36 kr_ rfl #[.slice A0 l0.length c0, .int .i64 x9_1] rfl ta_ ?_; (with_reducible refine (impl_form.calls k1 _ _ l0 x9_1 t159 _ ?side1 ?side2 A6.out).mono ?_); (case side1 => exact ca_ (Kd.C_below HR0.out HB.out)); (case side2 => exact HC0.out); rintro e w8 ⟨v160, rfl, ho0, hb⟩; refine ⟨_, rfl, ?_⟩; have n0_ := Aside0.mk (Kd.S_elder' (by (with_reducible repeat (first | apply Kd.S_alloc | apply Kd.S_drewN | apply Kd.S_drew)); exact HO_5.out) (Kd.R_base ho0) hb); have n1_ := Aside0.mk (Kd.R_lower ho0 (below_size (bl0_))); have n2_ := Aside0.mk (below_step (bl0_) hb); clear HO_5; clear HB; have HO_5 := n0_; have HO161 := n1_; have HB := n2_; clear n0_ n1_ n2_; (try clear hb); (try clear hb2); (try clear hk); (try clear hi); (try clear ho0); obtain ⟨Ao10, co10, eo10⟩ := Kd.R_slice HO161.out; subst eo10) | ((with_reducible refine gate_builtin (b := .append) (xs := #[.tmp 12, .tmp 16]) rfl ?_); at_builtin; refine Kd.S_append (Kd.slice 49 k49) (w0 := w) w.heap.size rfl (.tmp 12) (.tmp 16) 41 24 (.slice none 0 0) 24 rfl Try.underlying41 info24 rfl (by decide) (by omega) u5 x5_1 t159 [.slice Ao10 t159.length co10] (fun _ => True) (fun k_ => some k_ = (.slice Ao10 t159.length co10 : Value).ownBlock) rfl rfl ?aP (fun k_ hk_ => ((Kd.R_mono (ok' := fun k_ => ((fun _ => True)) k_ ∧ some k_ ≠ (u5 : Value).ownBlock) (Kd.R_apart' (HO161.out) (Kd.S_typed HO_5.out) (by decide)) (fun k_ hk => ⟨trivial, hk.2⟩))).1 k_ hk_.symm) ?aF ?aO ?aB ?aS ?aL ?_; (case aP => exact Kd.M_row (Kd.R_mono (Kd.R_tight rfl (Kd.R_mono (ok' := fun k_ => ((fun _ => True)) k_ ∧ some k_ ≠ (u5 : Value).ownBlock) (Kd.R_apart' (HO161.out) (Kd.S_typed HO_5.out) (by decide)) (fun k_ hk => ⟨trivial, hk.2⟩))) (fun _ h_ => h_))); (case aB => exact (bl0_)); (case aF => exact (fun _ _ => trivial)); (case aO => exact (by (with_reducible repeat (first | apply Kd.S_alloc | apply Kd.S_drewN | apply Kd.S_drew)); exact Kd.S_mono HO_5.out (fun k_ hk => ⟨trivial, fun e_ => hk.2 e_⟩))); (case aS => exact (below_size (bl0_))); (case aL => have := LMc7.out; omega); intro v163 w9 ho hb hg hat; rw [← Ny162.out] at ho; have n0_ := Aside0.mk (hb); have n1_ := Aside0.mk (ho); clear HB; clear HO_5; clear HO161; have HB := n0_; have HO164 := n1_; clear n0_ n1_; clear ho hb hg hat))
     go_roundg k1
     case measure => have := HK1.out; omega
     case rel => exact ⟨(y162), (wrap64 (x9_1 + 1)), rs_, H', ⟨by have := HK1.out; omega⟩, ⟨by (with_reducible repeat (first | apply Kd.S_alloc | apply Kd.S_drewN | apply Kd.S_drew)); exact HO164.out⟩, ⟨bl0_⟩⟩
    ·rw [if_neg c7] at H
     exact absurd H (by simp)
   ·rw [if_neg c5] at H
    have c5b0 : decide (x9_1 < a1) = false := decide_eq_false c5
    clear c5
    obtain rfl := Option.some.inj H
    go_wp2
    go_ret
    exact ⟨_, er_, by (with_reducible repeat (first | apply Kd.S_alloc | apply Kd.S_drewN | apply Kd.S_drew)); exact HO_5.out, bl0_⟩

/-! ### impl_compareShapes: function 32 -/
/-! Shapes compared: by length, then cell by cell. -/
def cmpGo : List S49 → List S49 → Int
 | x :: a, y :: b => if cfC x y = 0 then cmpGo a b else cfC x y
 | _, _ => 0
set_option maxHeartbeats 4000000 in
set_option maxRecDepth 100000 in
theorem compareFunc_calls (A0 A1 : Option Addr) (c0 c1 : Nat) (l0 l1 : List S49) (w : World) (hr0 : Kd.C k49 w A0 l0.length l0) (hr1 : Kd.C k49 w A1 l1.length l1) (hl : l0.length = l1.length) :
  Calls Try.prog 48 #[.slice A0 l0.length c0, .slice A1 l1.length c1, .func (.func 49) #[] #[]] w fun e w' => e = .returned (.int .i64 (cmpGo l0 l1)) ∧ Below w.heap.size w w' := by
 have hu := Try.underlying49
 have hmax : l0.length ≤ 9223372036854775807 := hr0.2.1
 have HR0 := Aside0.mk hr0
 have HR1 := Aside0.mk hr1
 have HL := Aside0.mk (And.intro hl hmax)
 clear hr0 hr1 hl hmax
 go_enter Try.func48, Try.ntmps48
 go_wp2
 go_loopg [13] l0.length (fun kq v13 w' => ∃ j : Nat, v13 = .int .i64 j ∧ Aside0 (kq + j = l0.length ∧ cmpGo l0 l1 = cmpGo (l0.drop j) (l1.drop j)) ∧ Aside0 (Below w.heap.size w w'))
 case atStart => exact ⟨0, rfl, ⟨by omega, rfl⟩, ⟨Below.refl _ _⟩⟩
 case round =>
  obtain ⟨j, rfl, HJ, HB⟩ := hrel
  by_cases hj : j < l0.length
  ·have hj1 : j < l1.length := by have := HL.out.1; omega
   have d0 : decide ((j : Int) < (l0.length : Int)) = true := decide_eq_true (by omega)
   have d1 : decide ((j : Int) ≥ (l1.length : Int)) = false := decide_eq_false (by omega)
   have d2 : decide ((l1.length : Int) ≤ (j : Int)) = false := decide_eq_false (by omega)
   have d3 : decide (l1.length ≤ j) = false := decide_eq_false (by omega)
   have d4 : decide (j < l0.length) = true := decide_eq_true hj
   obtain ⟨ad0, e0, hx0, hx1⟩ := at_T49 HR0.out (j : Int) (by omega) (by omega)
   obtain ⟨ad1, e1, hy0, hy1⟩ := at_T49 HR1.out (j : Int) (by omega) (by omega)
   cases e0
   cases e1
   simp only [Int.toNat_natCast] at hx0 hx1 hy0 hy1
   replace hx0 := (HB.out.cell (World.block_lt_of_cell? w _ hx0)).trans hx0
   replace hx1 := (HB.out.cell (World.block_lt_of_cell? w _ hx1)).trans hx1
   have p0 : (0 ≤ (j : Int)) = True := eq_true (by omega)
   have q0 : ((j : Int) < (l0.length : Int)) = True := eq_true (by omega)
   have q1 : ((j : Int) < (l1.length : Int)) = True := eq_true (by omega)
   have q2 : (j < l0.length) = True := eq_true hj
   have q3 : (j < l1.length) = True := eq_true hj1
   have hy0a : ∀ o : Obj, (wr.alloc o).cell? (ad1.add (j * 2)) = some (Value.int IntKind.i64 (rd_T49 l1 (j : Int)).f0) := fun o => ((below_alloc HB.out o).cell (World.block_lt_of_cell? w _ hy0)).trans hy0
   have hy1a : ∀ o : Obj, (wr.alloc o).cell? ⟨(ad1.add (j * 2)).block, (ad1.add (j * 2)).off + 1, none⟩ = some (Value.int IntKind.i64 (rd_T49 l1 (j : Int)).f1) := fun o => ((below_alloc HB.out o).cell (World.block_lt_of_cell? w _ hy1)).trans hy1
   have hc := fun W => impl_compareCells.calls (rd_T49 l0 (j : Int)).f0 (rd_T49 l0 (j : Int)).f1 (rd_T49 l1 (j : Int)).f0 (rd_T49 l1 (j : Int)).f1 _ W (cfC_some (rd_T49 l0 (j : Int)) (rd_T49 l1 (j : Int)))
   have hstep : cmpGo (l0.drop j) (l1.drop j) = if cfC (rd_T49 l0 (j : Int)) (rd_T49 l1 (j : Int)) = 0 then cmpGo (l0.drop (j + 1)) (l1.drop (j + 1)) else cfC (rd_T49 l0 (j : Int)) (rd_T49 l1 (j : Int)) := by
    have e0 : rd_T49 l0 (j : Int) = l0[j] := by show l0.getD j _ = _; rw [List.getD_eq_getElem?_getD, List.getElem?_eq_getElem hj, Option.getD_some]
    have e1 : rd_T49 l1 (j : Int) = l1[j] := by show l1.getD j _ = _; rw [List.getD_eq_getElem?_getD, List.getElem?_eq_getElem hj1, Option.getD_some]
    rw [e0, e1, List.drop_eq_getElem_cons hj, List.drop_eq_getElem_cons hj1, cmpGo]
   have hw : wrap64 ((j : Int) + 1) = ((j + 1 : Nat) : Int) := by have := HL.out.2; unfold wrap64; omega
   have HW := Aside0.mk hw
   clear hw
   generalize cfC (rd_T49 l0 (j : Int)) (rd_T49 l1 (j : Int)) = z at hc hstep
   have HS := Aside0.mk hstep
   clear hstep hy0 hy1
   by_cases hz : z = 0
   ·have HZ := Aside0.mk hz
    have z0 : (z == 0) = true := beq_iff_eq.mpr hz
    have z1 : (z != 0) = false := bne_eq_false_iff_eq.mpr hz
    clear hz
    go_wp2_with (go_at_call 49; ((with_reducible refine (hc _).mono ?_); rintro e w1 ⟨rfl, hb⟩; have HB1 := Aside0.mk (below_step (below_alloc (below_alloc HB.out _) _) hb); clear hb))
    go_roundg (l0.length - (j + 1))
    case measure => (have := HJ.out.1; omega)
    case rel => exact ⟨j + 1, by first | rfl | exact congrArg (Value.int .i64) HW.out, ⟨by omega, by rw [HJ.out.2, HS.out, if_pos HZ.out]⟩, HB1⟩
   ·have HZ := Aside0.mk hz
    have z0 : (z == 0) = false := beq_eq_false_iff_ne.mpr hz
    have z1 : (z != 0) = true := bne_iff_ne.mpr hz
    clear hz
    go_wp2_with (go_at_call 49; ((with_reducible refine (hc _).mono ?_); rintro e w1 ⟨rfl, hb⟩; have HB1 := Aside0.mk (below_step (below_alloc (below_alloc HB.out _) _) hb); clear hb))
    go_ret
    exact ⟨by rw [HJ.out.2, HS.out, if_neg HZ.out]; rfl, HB1.out⟩
  ·have d0 : decide ((j : Int) < (l0.length : Int)) = false := decide_eq_false (by omega)
   have d4 : decide (j < l0.length) = false := decide_eq_false hj
   have d5 : decide ((l0.length : Int) < (l1.length : Int)) = false := decide_eq_false (by have := HL.out.1; omega)
   have d6 : decide (l0.length < l1.length) = false := decide_eq_false (by have := HL.out.1; omega)
   have HE : Aside0 (cmpGo l0 l1 = 0) := ⟨by rw [HJ.out.2, List.drop_of_length_le (by omega)]; rfl⟩
   clear hj
   go_wp2
   go_ret
   exact ⟨by rw [HE.out]; rfl, HB.out⟩
def cmpS (a b : List S49) : Int := if a.length = b.length then cmpGo a b else if a.length < b.length then -1 else 1
def impl_compareShapes.f (l0 : List S49) (l1 : List S49) : Option Int := some (cmpS l0 l1)
set_option maxHeartbeats 4000000 in
set_option maxRecDepth 100000 in
theorem impl_compareShapes.calls (A0 : Option Addr) (c0 : Nat) (l0 : List S49) (A1 : Option Addr) (c1 : Nat) (l1 : List S49) (r : Int) (w : World) (hr0 : Kd.C k49 w A0 l0.length l0) (hc0 : l0.length ≤ c0) (hr1 : Kd.C k49 w A1 l1.length l1) (hc1 : l1.length ≤ c1) (h : impl_compareShapes.f l0 l1 = some r) :
  Calls Try.prog 32 #[.slice A0 l0.length c0, .slice A1 l1.length c1] w fun e w' => e = .returned (.int .i64 r) ∧ Below w.heap.size w w' := by
 obtain rfl := Option.some.inj h
 clear h
 by_cases hl : l0.length = l1.length
 ·have hc := compareFunc_calls A0 A1 c0 c1 l0 l1 w hr0 hr1 hl
  have hr : cmpS l0 l1 = cmpGo l0 l1 := if_pos hl
  rw [hr]
  have d0 : ((l0.length : Int) == (l1.length : Int)) = true := beq_iff_eq.mpr (by omega)
  have d1 : ((l0.length : Int) != (l1.length : Int)) = false := bne_eq_false_iff_eq.mpr (by omega)
  have d2 : (l0.length == l1.length) = true := beq_iff_eq.mpr hl
  have d3 : (l0.length != l1.length) = false := bne_eq_false_iff_eq.mpr hl
  generalize cmpGo l0 l1 = z at hc
  clear hr0 hr1 hc0 hc1 hr hl
  go_enter Try.func32, Try.ntmps32
  go_wp2_with (go_at_call 48; ((with_reducible refine hc.mono ?_); rintro e w1 ⟨rfl, hb⟩; have HB1 := Aside0.mk hb; clear hb))
  go_ret
  exact ⟨rfl, HB1.out⟩
 ·have d0 : ((l0.length : Int) == (l1.length : Int)) = false := beq_eq_false_iff_ne.mpr (by omega)
  have d1 : ((l0.length : Int) != (l1.length : Int)) = true := bne_iff_ne.mpr (by omega)
  have d2 : (l0.length == l1.length) = false := beq_eq_false_iff_ne.mpr hl
  have d3 : (l0.length != l1.length) = true := bne_iff_ne.mpr hl
  by_cases hlt : l0.length < l1.length
  ·have hr : cmpS l0 l1 = -1 := by unfold cmpS; rw [if_neg hl, if_pos hlt]
   rw [hr]
   have e0 : decide ((l0.length : Int) < (l1.length : Int)) = true := decide_eq_true (by omega)
   have e1 : decide (l0.length < l1.length) = true := decide_eq_true hlt
   clear hr0 hr1 hc0 hc1 hr hl hlt
   go_enter Try.func32, Try.ntmps32
   go_wp2
   go_ret
   exact ⟨rfl, Below.refl _ _⟩
  ·have hr : cmpS l0 l1 = 1 := by unfold cmpS; rw [if_neg hl, if_neg hlt]
   rw [hr]
   have e0 : decide ((l0.length : Int) < (l1.length : Int)) = false := decide_eq_false (by omega)
   have e1 : decide (l0.length < l1.length) = false := decide_eq_false hlt
   clear hr0 hr1 hc0 hc1 hr hl hlt
   go_enter Try.func32, Try.ntmps32
   go_wp2
   go_ret
   exact ⟨rfl, Below.refl _ _⟩


/-! ### impl_freeForm: function 28 -/
/-! The least of shapes: slices.MinFunc over a row of rows of the call's own. -/
def elL (L : List (List S49)) (j : Nat) : List S49 := L.getD j []
def lessL (m y : List S49) : List S49 := if cmpS y m < 0 then y else m
def leastL : List (List S49) → List S49
 | [] => []
 | x :: r => r.foldl lessL x
set_option maxHeartbeats 4000000 in
set_option maxRecDepth 100000 in
theorem minFunc_calls (w : World) (base : Nat) (ok : Nat → Prop) (v : Value) (L : List (List S49)) (hR : (Kd.slice 49 k49).R 24 w base ok v L) (h1 : 1 ≤ L.length) :
  Calls Try.prog 40 #[v, .func (.func 32) #[] #[]] w fun e w' => ∃ u, e = .returned u ∧ Kd.R k49 49 w' base ok u (leastL L) ∧ Below w.heap.size w w' := by
 obtain ⟨A, c, vals, rfl, hc, hmax, hvl, hcell0, helem⟩ := R_elems hR
 have hval : ∀ j : Nat, j < L.length → ∃ (u : Value), vals[j]? = some u ∧ Kd.R k49 49 w base ok u (elL L j) := fun j hj => by
  have e1 : vals[j]? = some (vals[j]'(by omega)) := List.getElem?_eq_getElem _
  have e2 : L[j]? = some (elL L j) := by unfold elL; rw [List.getD_eq_getElem?_getD, List.getElem?_eq_getElem hj, Option.getD_some]
  exact ⟨_, e1, helem j _ _ e1 e2⟩
 obtain ⟨u0, hu0, hR0⟩ := hval 0 (by omega)
 obtain ⟨ad, rfl, hcell00⟩ := hcell0 0 u0 hu0
 have hcell : ∀ (j : Nat) (u : Value), vals[j]? = some u → w.cell? (ad.add j) = some u := fun j u hj => by
  obtain ⟨ad', e, h⟩ := hcell0 j u hj
  cases e
  exact h
 have HV := Aside0.mk hval
 have HC := Aside0.mk hcell
 have HM := Aside0.mk (And.intro h1 hmax)
 have HU := Aside0.mk hR0
 obtain ⟨A0, n0, rfl, hn0, _⟩ := Kd.R_reads hR0
 have x0 : w.cell? ad = some (.slice A0 (elL L 0).length n0) := by
  rwa [show ad.add 0 = ad by simp [Addr.add]] at hcell00
 have d0 : decide ((L.length : Int) < 1) = false := decide_eq_false (by omega)
 have d1 : decide (L.length < 1) = false := decide_eq_false (by omega)
 have p1 : decide (0 < L.length) = true := decide_eq_true (by omega)
 have p2 : (0 < L.length) = True := eq_true (by omega)
 have p3 : ((0 : Int) < (L.length : Int)) = True := eq_true (by omega)
 have hd0 : (L.drop 1).foldl lessL (elL L 0) = leastL L := by
  cases L with
  | nil => simp at h1
  | cons x r => rfl
 have HD := Aside0.mk hd0
 have HU0 := Aside0.mk hu0
 clear hval hcell hcell0 hcell00 helem hvl hc h1 hmax hR hR0 hu0 hd0 hn0
 go_enter Try.func40, Try.ntmps40
 go_wp2
 go_loopg [5, 6] L.length (fun kq v5 v6 w' => ∃ (i m : Nat), v6 = .int .i64 i ∧ Aside0 (kq + i = L.length + 1 ∧ 1 ≤ i ∧ i ≤ L.length ∧ m < L.length) ∧ Aside0 (vals[m]? = some v5) ∧ Aside0 ((L.drop i).foldl lessL (elL L m) = leastL L) ∧ Aside0 (Below w.heap.size w w'))
 case atStart => exact ⟨1, 0, rfl, ⟨by have := HM.out; omega⟩, HU0, HD, ⟨Below.refl _ _⟩⟩
 case round =>
  clear HD HU0 x0 HU
  obtain ⟨i, m, rfl, HI, HE, HF, HB⟩ := hrel
  obtain ⟨um, hum, hRm⟩ := HV.out m HI.out.2.2.2
  obtain rfl : u5 = um := Option.some.inj (HE.out.symm.trans hum)
  by_cases hi : i < L.length
  ·obtain ⟨ui, hui, hRi⟩ := HV.out i hi
   have hxi := (HB.out.cell (World.block_lt_of_cell? w _ (HC.out i ui hui))).trans (HC.out i ui hui)
   obtain ⟨Ai, ni, rfl, hni, hCi⟩ := Kd.R_reads hRi
   obtain ⟨Am, nm, rfl, hnm, hCm⟩ := Kd.R_reads hRm
   have d0 : decide ((i : Int) < (L.length : Int)) = true := decide_eq_true (by omega)
   have d4 : decide (i < L.length) = true := decide_eq_true hi
   have q0 : (0 ≤ (i : Int)) = True := eq_true (by omega)
   have q1 : ((i : Int) < (L.length : Int)) = True := eq_true (by omega)
   have q2 : (i < L.length) = True := eq_true hi
   have hc := impl_compareShapes.calls Ai ni (elL L i) Am nm (elL L m) (cmpS (elL L i) (elL L m)) _ (Kd.C_below hCi HB.out) hni (Kd.C_below hCm HB.out) hnm rfl
   have hw : wrap64 ((i : Int) + 1) = ((i + 1 : Nat) : Int) := by have := HM.out.2; unfold wrap64; omega
   have HW := Aside0.mk hw
   have hstep : (L.drop i).foldl lessL (elL L m) = (L.drop (i + 1)).foldl lessL (lessL (elL L m) (elL L i)) := by
    rw [List.drop_eq_getElem_cons hi, List.foldl_cons, show elL L i = L[i] by unfold elL; rw [List.getD_eq_getElem?_getD, List.getElem?_eq_getElem hi, Option.getD_some]]
   have HS := Aside0.mk (hstep.symm.trans HF.out)
   have HUI := Aside0.mk hui
   have HLT := Aside0.mk hi
   have hxb : ∀ w1 : World, Below wr.heap.size wr w1 → w1.cell? (ad.add i) = some (.slice Ai (elL L i).length ni) := fun w1 hb => (hb.cell (World.block_lt_of_cell? wr _ hxi)).trans hxi
   have HX := Aside0.mk hxb
   by_cases hz : cmpS (elL L i) (elL L m) < 0
   ·have hl : lessL (elL L m) (elL L i) = elL L i := if_pos hz
    rw [hl] at HS
    have z0 : decide (cmpS (elL L i) (elL L m) < 0) = true := decide_eq_true hz
    generalize cmpS (elL L i) (elL L m) = z at hc z0
    clear hz hl hstep hw hi hui hni hnm hCi hCm hum hRi hRm HF HE
    go_wp2_with (go_at_call 32; ((with_reducible refine hc.mono ?_); rintro e w1 ⟨rfl, hb⟩; have HB1 := Aside0.mk (below_step HB.out hb); have hxi1 := HX.out w1 hb; clear hb))
    go_roundg (L.length - i)
    case measure => (have := HI.out; omega)
    case rel => exact ⟨i + 1, i, by first | rfl | exact congrArg (Value.int .i64) HW.out, ⟨by have := HI.out; have := HLT.out; omega⟩, HUI, HS, HB1⟩
   ·have hl : lessL (elL L m) (elL L i) = elL L m := if_neg hz
    rw [hl] at HS
    have z0 : decide (cmpS (elL L i) (elL L m) < 0) = false := decide_eq_false hz
    generalize cmpS (elL L i) (elL L m) = z at hc z0
    have HUM := Aside0.mk hum
    clear hz hl hstep hw hi hui hni hnm hCi hCm hum hRi hRm HF HE
    go_wp2_with (go_at_call 32; ((with_reducible refine hc.mono ?_); rintro e w1 ⟨rfl, hb⟩; have HB1 := Aside0.mk (below_step HB.out hb); clear hb))
    go_roundg (L.length - i)
    case measure => (have := HI.out; omega)
    case rel => exact ⟨i + 1, m, by first | rfl | exact congrArg (Value.int .i64) HW.out, ⟨by have := HI.out; have := HLT.out; omega⟩, HUM, HS, HB1⟩
  ·have d0 : decide ((i : Int) < (L.length : Int)) = false := decide_eq_false (by omega)
   have d4 : decide (i < L.length) = false := decide_eq_false hi
   have HRM := Aside0.mk (Kd.R_below hRm HB.out)
   have hfin : elL L m = leastL L := by
    have := HF.out
    rw [List.drop_of_length_le (by omega)] at this
    exact this
   rw [hfin] at HRM
   clear hi hum hRm hfin HF HE
   go_wp2
   go_ret
   exact ⟨_, rfl, HRM.out, HB.out⟩
set_option maxHeartbeats 4000000 in
theorem leastOf_calls (w : World) (base : Nat) (ok : Nat → Prop) (v : Value) (L : List (List S49)) (hR : (Kd.slice 49 k49).R 24 w base ok v L) (h1 : 1 ≤ L.length) :
  Calls Try.prog 24 #[v] w fun e w' => ∃ u, e = .returned u ∧ Kd.R k49 49 w' base ok u (leastL L) ∧ Below w.heap.size w w' := by
 have hc := minFunc_calls w base ok v L hR h1
 clear hR h1
 go_enter Try.func24, Try.ntmps24
 go_wp2_with (go_at_call 40; ((with_reducible refine hc.mono ?_); rintro e w1 ⟨u, rfl, hR, hb⟩; have HR := Aside0.mk hR; have HB := Aside0.mk hb; clear hR hb))
 go_ret
 exact ⟨_, rfl, HR.out, HB.out⟩
def impl_freeForm.f (k : Nat) (l0 : List S49) : Option (List S49) := (impl_forms.f k l0 8).bind fun L => if 1 ≤ L.length then some (leastL L) else none
theorem impl_freeForm.mono : ∀ l0 k, LeO (impl_freeForm.f k l0) (impl_freeForm.f (k + 1) l0) := by
 intro l0 k
 unfold impl_freeForm.f
 exact LeO.bind (impl_forms.mono l0 8 k) (fun _ => LeO.refl _)
set_option maxHeartbeats 4000000 in
theorem impl_freeForm.calls (k : Nat) (A0 : Option Addr) (c0 : Nat) (l0 : List S49) (r : List S49) (w : World) (hr0 : Kd.C k49 w A0 l0.length l0) (hc0 : l0.length ≤ c0) (h : impl_freeForm.f k l0 = some r) :
  Calls Try.prog 28 #[.slice A0 l0.length c0] w fun e w' => ∃ v0_ : Value, e = .returned (v0_) ∧ Kd.R k49 49 w' w.heap.size (fun _ => True) v0_ r ∧ Below w.heap.size w w' := by
 obtain ⟨L, hL, h2⟩ := Option.bind_eq_some_iff.mp h
 split at h2
 ·rename_i h1
  obtain rfl := Option.some.inj h2
  have hf := impl_forms.calls k A0 c0 l0 8 L w hr0 hc0 hL
  have H1 := Aside0.mk h1
  clear h h1 h2 hL hr0 hc0
  go_enter Try.func28, Try.ntmps28
  go_wp2_with (first | (go_at_call 25; ((with_reducible refine hf.mono ?_); rintro e w1 ⟨v, rfl, hS, hb⟩; have HS := Aside0.mk (Kd.S_R hS); have HB := Aside0.mk hb; clear hS hb)) | (go_at_call 24; (refine (leastOf_calls _ _ _ _ L HS.out H1.out).mono ?_; rintro e w2 ⟨u, rfl, hR, hb⟩; have HR := Aside0.mk hR; have HB2 := Aside0.mk (below_step HB.out hb); clear hR hb)))
  go_ret
  exact ⟨_, rfl, HR.out, HB2.out⟩
 ·cases h2


/-! ### impl_FreeForm: function 9 -/
def impl_FreeForm.f (k : Nat) (l0 : List (S49)) : Option ((List (S49)) × Int) := (impl_shapeCode.f k l0).bind fun t165 => (if t165 = 0 then ((impl_freeForm.f k l0).bind fun t166 => (some (t166, 0))) else (some (([] : List (S49)), t165)))
theorem impl_FreeForm.mono : ∀ a0 k, LeO (impl_FreeForm.f k a0) (impl_FreeForm.f (k + 1) a0) := by
 intro a0 k
 unfold impl_FreeForm.f
 repeat' first
   | (with_reducible exact impl_freeForm.mono _ _)
   | (with_reducible exact impl_shapeCode.mono _ _)
   | (with_reducible exact LeO.refl _)
   | (with_reducible exact LeO.none _)
   | (with_reducible refine LeO.ite ?_ ?_)
   | (with_reducible refine LeO.bind ?_ (fun _ => ?_))
   | exact impl_freeForm.mono _ _
   | exact impl_shapeCode.mono _ _
   | exact LeO.none _
   | refine LeO.ite ?_ ?_
   | refine LeO.bind ?_ (fun _ => ?_)
set_option maxHeartbeats 8000000 in
set_option maxRecDepth 100000 in
theorem impl_FreeForm.calls (k : Nat) (A0 : Option Addr) (c0 : Nat) (l0 : List (S49)) (r1 : List (S49)) (r2 : Int) (w : World) (hr0 : Kd.C k49 w A0 l0.length l0) (hc0 : l0.length ≤ c0) (h : impl_FreeForm.f k l0 = some (r1, r2)) :
  Calls Try.prog 9 #[.slice A0 l0.length c0] w fun e w' => ∃ v0_ : Value, e = .returned (.tuple #[v0_, .int .i64 r2]) ∧ Kd.R k49 49 w' w.heap.size (fun _ => True) v0_ r1 ∧ Below w.heap.size w w' := by
 have HR0 := Aside0.mk hr0
 have HC0 := Aside0.mk hc0
 clear hr0 hc0
 have HB := Aside0.mk (Below.refl w.heap.size w)
 have H : ((impl_shapeCode.f k l0).bind fun t165 => (if t165 = 0 then ((impl_freeForm.f k l0).bind fun t166 => (some (t166, 0))) else (some (([] : List (S49)), t165)))) = some (r1, r2) := h
 clear h
 replace H := Option.bind_eq_some_iff.mp H
 obtain ⟨t165, A20, H⟩ := H
 replace H : (if t165 = 0 then ((impl_freeForm.f k l0).bind fun t166 => (some (t166, 0))) else (some (([] : List (S49)), t165))) = some (r1, r2) := H
 have A2 := Aside0.mk A20
 clear A20
 by_cases c3 : t165 = 0
 ·rw [if_pos c3] at H
  have c3b0 : (t165 == 0) = true := beq_iff_eq.mpr c3
  have c3b1 : (t165 != 0) = false := bne_eq_false_iff_eq.mpr c3
  clear c3
  replace H := Option.bind_eq_some_iff.mp H
  obtain ⟨t166, A40, H⟩ := H
  replace H : (some (t166, 0)) = some (r1, r2) := H
  have A4 := Aside0.mk A40
  clear A40
  simp only [Option.some.injEq, Prod.mk.injEq] at H
  obtain ⟨rfl, rfl⟩ := H
  go_enter Try.func9, Try.ntmps9
  go_wp2_with (first | ((with_reducible refine gate_callee (f := 23) rfl ?_); refine goesL_ (some 6) rfl rfl Try.func23 kr_ rfl #[.slice A0 l0.length c0] rfl ta_ ?_; (with_reducible refine (impl_shapeCode.calls k _ _ l0 t165 _ ?side1 ?side2 A2.out).mono ?_); (case side1 => exact ca_ HR0.out); (case side2 => exact HC0.out); rintro e w5 ⟨rfl, hb⟩; refine ⟨_, rfl, ?_⟩; have n0_ := Aside0.mk (below_step (bl0_) hb); clear HB; have HB := n0_; clear n0_; (try clear hb); (try clear hb2); (try clear hk); (try clear hi)) | ((with_reducible refine gate_callee (f := 28) rfl ?_); refine goesL_ (some 11) rfl rfl Try.func28 kr_ rfl #[.slice A0 l0.length c0] rfl ta_ ?_; (with_reducible refine (impl_freeForm.calls k _ _ l0 t166 _ ?side1 ?side2 A4.out).mono ?_); (case side1 => exact ca_ (Kd.C_below HR0.out HB.out)); (case side2 => exact HC0.out); rintro e w6 ⟨v167, rfl, ho0, hb⟩; refine ⟨_, rfl, ?_⟩; have n0_ := Aside0.mk (Kd.R_lower ho0 (below_size (bl0_))); have n1_ := Aside0.mk (below_step (bl0_) hb); clear HB; have HO168 := n0_; have HB := n1_; clear n0_ n1_; (try clear hb); (try clear hb2); (try clear hk); (try clear hi); (try clear ho0)))
  go_ret2
  exact ⟨_, er_, ra_ HO168.out, bl0_⟩
 ·rw [if_neg c3] at H
  have c3b0 : (t165 == 0) = false := beq_eq_false_iff_ne.mpr c3
  have c3b1 : (t165 != 0) = true := bne_iff_ne.mpr c3
  simp only [Option.some.injEq, Prod.mk.injEq] at H
  obtain ⟨rfl, rfl⟩ := H
  go_enter Try.func9, Try.ntmps9
  go_wp2_with (first | ((with_reducible refine gate_callee (f := 23) rfl ?_); refine goesL_ (some 6) rfl rfl Try.func23 kr_ rfl #[.slice A0 l0.length c0] rfl ta_ ?_; (with_reducible refine (impl_shapeCode.calls k _ _ l0 t165 _ ?side1 ?side2 A2.out).mono ?_); (case side1 => exact ca_ HR0.out); (case side2 => exact HC0.out); rintro e w7 ⟨rfl, hb⟩; refine ⟨_, rfl, ?_⟩; have n0_ := Aside0.mk (below_step (bl0_) hb); clear HB; have HB := n0_; clear n0_; (try clear hb); (try clear hb2); (try clear hk); (try clear hi)))
  go_ret2
  exact ⟨_, er_, by first | exact Kd.R_nil _ _ _ _ _ | exact Kd.N_nil _ _ _ _ _ | exact Kd.V_nil _ _ _ _ _ | exact Kd.Q_nil _ _ _ _ _ | exact Kd.S_nil _ _ _ _ _, bl0_⟩

/-! ### laws_likeCells: function 12 -/
def laws_likeCells.l0 : Nat → List (S49) → List (S49) → Int → Option (Bool)
 | 0, _, _, _ => none
 | k + 1, x0, x1, x5 => if x5 < (x0.length : Int) then (if 0 ≤ x5 then (if x5 < (x1.length : Int) then (if (!(((rd_T49 x0 x5).f0) == ((rd_T49 x1 x5).f0)) || (!(((rd_T49 x0 x5).f1) == ((rd_T49 x1 x5).f1)))) = true then (some false) else (laws_likeCells.l0 k x0 x1 (wrap64 (x5 + 1)))) else (none)) else (none)) else (some true)
def laws_likeCells.f (k : Nat) (l0 : List (S49)) (l1 : List (S49)) : Option (Bool) := if (l0.length : Int) = (l1.length : Int) then (laws_likeCells.l0 k l0 l1 0) else (some false)
theorem laws_likeCells.mono_l : ∀ k, (∀ y0 y1 y2, LeO (laws_likeCells.l0 k y0 y1 y2) (laws_likeCells.l0 (k + 1) y0 y1 y2))
 | 0 => fun _ _ _ r h => by simp [laws_likeCells.l0] at h
 | k + 1 => by
  have ih0 := laws_likeCells.mono_l k
  ·intro y0 y1 y2
   unfold laws_likeCells.l0
   repeat' first
   | (with_reducible exact ih0 _ _ _)
   | (with_reducible exact LeO.refl _)
   | (with_reducible exact LeO.none _)
   | (with_reducible refine LeO.ite ?_ ?_)
   | (with_reducible refine LeO.bind ?_ (fun _ => ?_))
   | exact ih0 _ _ _
   | exact LeO.none _
   | refine LeO.ite ?_ ?_
   | refine LeO.bind ?_ (fun _ => ?_)
theorem laws_likeCells.mono : ∀ a0 a1 k, LeO (laws_likeCells.f k a0 a1) (laws_likeCells.f (k + 1) a0 a1) := by
 intro a0 a1 k
 have ih0 := laws_likeCells.mono_l k
 unfold laws_likeCells.f
 repeat' first
   | (with_reducible exact ih0 _ _ _)
   | (with_reducible exact LeO.refl _)
   | (with_reducible exact LeO.none _)
   | (with_reducible refine LeO.ite ?_ ?_)
   | (with_reducible refine LeO.bind ?_ (fun _ => ?_))
   | exact ih0 _ _ _
   | exact LeO.none _
   | refine LeO.ite ?_ ?_
   | refine LeO.bind ?_ (fun _ => ?_)
set_option maxHeartbeats 8000000 in
set_option maxRecDepth 100000 in
theorem laws_likeCells.calls (k : Nat) (A0 : Option Addr) (c0 : Nat) (l0 : List (S49)) (A1 : Option Addr) (c1 : Nat) (l1 : List (S49)) (r : Bool) (w : World) (hr0 : Kd.C k49 w A0 l0.length l0) (hc0 : l0.length ≤ c0) (hr1 : Kd.C k49 w A1 l1.length l1) (hc1 : l1.length ≤ c1) (h : laws_likeCells.f k l0 l1 = some r) :
  Calls Try.prog 12 #[.slice A0 l0.length c0, .slice A1 l1.length c1] w fun e w' => e = .returned (.bool r) ∧ Drawn0 w w' := by
 have hu49 := Try.underlying49
 have HR0 := Aside0.mk hr0
 have HC0 := Aside0.mk hc0
 clear hr0 hc0
 have HR1 := Aside0.mk hr1
 have HC1 := Aside0.mk hc1
 clear hr1 hc1
 have H : (if (l0.length : Int) = (l1.length : Int) then (laws_likeCells.l0 k l0 l1 0) else (some false)) = some r := h
 clear h
 by_cases c3 : (l0.length : Int) = (l1.length : Int)
 ·rw [if_pos c3] at H
  have c3b0 : ((l0.length : Int) == (l1.length : Int)) = true := beq_iff_eq.mpr c3
  have c3b1 : ((l0.length : Int) != (l1.length : Int)) = false := bne_eq_false_iff_eq.mpr c3
  have c3b2 : (l0.length == l1.length) = true := by first | simpa using c3 | (simp at c3 ⊢; omega)
  clear c3
  have H' := Aside0.mk H
  clear H
  go_enter Try.func12, Try.ntmps12
  go_wp2
  repeat (go_quiet (fail); try go_wp2)
  go_loopg [5] k (fun kq v5 w' => ∃ (x5_1 : Int), v5 = .int .i64 x5_1 ∧ Aside0 (laws_likeCells.l0 kq l0 l1 x5_1 = some r) ∧ Aside0 (kq ≤ k) ∧ Drawn0 w w')
  case atStart => exact ⟨(0), rs_, H', ⟨Nat.le_refl _⟩, by repeat (first | exact Drawn0.refl _ | apply Drawn0.step)⟩
  case round =>
   clear H'
   try clear c1
   try clear p2
   try clear c3
   try clear c3b0
   try clear c3b1
   try clear c3b2
   obtain ⟨x5_1, rfl, HA, HK1, ⟨m1, rfl⟩⟩ := hrel
   cases gk with
   | zero => exact absurd HA.out (by simp [laws_likeCells.l0])
   | succ k1 =>
    have H := HA.out
    clear HA
    simp only [laws_likeCells.l0] at H
    by_cases c4 : x5_1 < (l0.length : Int)
    ·rw [if_pos c4] at H
     have c4b0 : decide (x5_1 < (l0.length : Int)) = true := decide_eq_true c4
     clear c4
     by_cases c5 : 0 ≤ x5_1
     ·rw [if_pos c5] at H
      have c5b0 : decide (0 ≤ x5_1) = true := decide_eq_true c5
      clear c5
      by_cases c6 : x5_1 < (l1.length : Int)
      ·rw [if_pos c6] at H
       have c6b0 : decide (x5_1 < (l1.length : Int)) = true := decide_eq_true c6
       clear c6
       by_cases c7 : (!(((rd_T49 l0 x5_1).f0) == ((rd_T49 l1 x5_1).f0)) || (!(((rd_T49 l0 x5_1).f1) == ((rd_T49 l1 x5_1).f1)))) = true
       ·rw [if_pos c7] at H
        have c7b0 : (!(((rd_T49 l0 x5_1).f0) == ((rd_T49 l1 x5_1).f0)) || (!(((rd_T49 l0 x5_1).f1) == ((rd_T49 l1 x5_1).f1)))) = true := c7
        clear c7
        obtain rfl := Option.some.inj H
        have p169 : 0 ≤ (x5_1 : Int) := od_
        have q169 : x5_1 < (l0.length : Int) := od_
        obtain ⟨ad169, e169, hx169_0, hx169_1⟩ := at_T49 HR0.out x5_1 p169 q169
        cases e169
        replace p169 := eq_true p169
        replace q169 := eq_true q169
        have p170 : 0 ≤ (x5_1 : Int) := od_
        have q170 : x5_1 < (l1.length : Int) := od_
        obtain ⟨ad170, e170, hx170_0, hx170_1⟩ := at_T49 HR1.out x5_1 p170 q170
        cases e170
        replace p170 := eq_true p170
        replace q170 := eq_true q170
        go_wp2
        repeat (go_quiet (fail); try go_wp2)
        go_ret
        exact ⟨by first | rfl | (simp; done) | (simp [*]; done), by repeat (first | exact Drawn0.refl _ | apply Drawn0.step)⟩
       ·rw [if_neg c7] at H
        have c7b0 : (!(((rd_T49 l0 x5_1).f0) == ((rd_T49 l1 x5_1).f0)) || (!(((rd_T49 l0 x5_1).f1) == ((rd_T49 l1 x5_1).f1)))) = false := by simpa using c7
        clear c7
        have H' := Aside0.mk H
        clear H
        have p169 : 0 ≤ (x5_1 : Int) := od_
        have q169 : x5_1 < (l0.length : Int) := od_
        obtain ⟨ad169, e169, hx169_0, hx169_1⟩ := at_T49 HR0.out x5_1 p169 q169
        cases e169
        replace p169 := eq_true p169
        replace q169 := eq_true q169
        have p170 : 0 ≤ (x5_1 : Int) := od_
        have q170 : x5_1 < (l1.length : Int) := od_
        obtain ⟨ad170, e170, hx170_0, hx170_1⟩ := at_T49 HR1.out x5_1 p170 q170
        cases e170
        replace p170 := eq_true p170
        replace q170 := eq_true q170
        go_wp2
        repeat (go_quiet (fail); try go_wp2)
        go_roundg k1
        case measure => have := HK1.out; omega
        case rel => exact ⟨(wrap64 (x5_1 + 1)), rs_, H', ⟨by have := HK1.out; omega⟩, by repeat (first | exact Drawn0.refl _ | apply Drawn0.step)⟩
      ·rw [if_neg c6] at H
       exact absurd H (by simp)
     ·rw [if_neg c5] at H
      exact absurd H (by simp)
    ·rw [if_neg c4] at H
     have c4b0 : decide (x5_1 < (l0.length : Int)) = false := decide_eq_false c4
     clear c4
     obtain rfl := Option.some.inj H
     go_wp2
     repeat (go_quiet (fail); try go_wp2)
     go_ret
     exact ⟨by first | rfl | (simp; done) | (simp [*]; done), by repeat (first | exact Drawn0.refl _ | apply Drawn0.step)⟩
 ·rw [if_neg c3] at H
  have c3b0 : ((l0.length : Int) == (l1.length : Int)) = false := beq_eq_false_iff_ne.mpr c3
  have c3b1 : ((l0.length : Int) != (l1.length : Int)) = true := bne_iff_ne.mpr c3
  have c3b2 : (l0.length == l1.length) = false := by first | simpa using c3 | (simp at c3 ⊢; omega)
  obtain rfl := Option.some.inj H
  go_enter Try.func12, Try.ntmps12
  go_wp2
  repeat (go_quiet (fail); try go_wp2)
  go_ret
  exact ⟨by first | rfl | (simp; done) | (simp [*]; done), by repeat (first | exact Drawn0.refl _ | apply Drawn0.step)⟩

/-! ### impl_isTurn: function 35 -/
def impl_isTurn.f (a0 : Int) : Option (Bool) := (impl_within.f a0 0 7).bind fun t171 => (some t171)
set_option maxHeartbeats 8000000 in
set_option maxRecDepth 100000 in
theorem impl_isTurn.calls (a0 : Int) (r : Bool) (w : World) (h : impl_isTurn.f a0 = some r) :
  Calls Try.prog 35 #[.int .i64 a0] w fun e w' => e = .returned (.bool r) ∧ Drawn0 w w' := by
 have H : ((impl_within.f a0 0 7).bind fun t171 => (some t171)) = some r := h
 clear h
 replace H := Option.bind_eq_some_iff.mp H
 obtain ⟨t171, A20, H⟩ := H
 replace H : (some t171) = some r := H
 have A2 := Aside0.mk A20
 clear A20
 obtain rfl := Option.some.inj H
 go_enter Try.func35, Try.ntmps35
 go_wp2_with (first | ((with_reducible refine gate_callee (f := 51) rfl ?_); refine goesL_ (some 4) rfl rfl Try.func51 kr_ rfl #[.int .i64 a0, .int .i64 0, .int .i64 7] rfl ta_ ?_; (with_reducible refine (impl_within.calls a0 0 7 t171 _ A2.out).mono ?_); rintro e w' ⟨rfl, ⟨nd, rfl⟩⟩; refine ⟨_, rfl, ?_⟩))
 go_ret
 exact ⟨by first | rfl | (simp; done) | (simp [*]; done), by repeat (first | exact Drawn0.refl _ | apply Drawn0.step)⟩

/-! ### impl_TurnShape: function 15 -/
def impl_TurnShape.f (k : Nat) (l0 : List (S49)) (a1 : Int) : Option ((List (S49)) × Int) := (impl_IsShape.f k l0).bind fun t172 => (if t172 = true then ((impl_isTurn.f a1).bind fun t173 => (if t173 = true then ((impl_shapeCode.f k l0).bind fun t174 => (if t174 = 0 then ((impl_form.f k l0 a1).bind fun t175 => (some (t175, 0))) else (some (([] : List (S49)), t174)))) else (some (([] : List (S49)), 2)))) else (some (([] : List (S49)), 1)))
theorem impl_TurnShape.mono : ∀ a0 a1 k, LeO (impl_TurnShape.f k a0 a1) (impl_TurnShape.f (k + 1) a0 a1) := by
 intro a0 a1 k
 unfold impl_TurnShape.f
 repeat' first
   | (with_reducible exact impl_IsShape.mono _ _)
   | (with_reducible exact impl_form.mono _ _ _)
   | (with_reducible exact impl_shapeCode.mono _ _)
   | (with_reducible exact LeO.refl _)
   | (with_reducible exact LeO.none _)
   | (with_reducible refine LeO.ite ?_ ?_)
   | (with_reducible refine LeO.bind ?_ (fun _ => ?_))
   | exact impl_IsShape.mono _ _
   | exact impl_form.mono _ _ _
   | exact impl_shapeCode.mono _ _
   | exact LeO.none _
   | refine LeO.ite ?_ ?_
   | refine LeO.bind ?_ (fun _ => ?_)
set_option maxHeartbeats 8000000 in
set_option maxRecDepth 100000 in
theorem impl_TurnShape.calls (k : Nat) (A0 : Option Addr) (c0 : Nat) (l0 : List (S49)) (a1 : Int) (r1 : List (S49)) (r2 : Int) (w : World) (hr0 : Kd.C k49 w A0 l0.length l0) (hc0 : l0.length ≤ c0) (h : impl_TurnShape.f k l0 a1 = some (r1, r2)) :
  Calls Try.prog 15 #[.slice A0 l0.length c0, .int .i64 a1] w fun e w' => ∃ v0_ : Value, e = .returned (.tuple #[v0_, .int .i64 r2]) ∧ Kd.R k49 49 w' w.heap.size (fun _ => True) v0_ r1 ∧ Below w.heap.size w w' := by
 have HR0 := Aside0.mk hr0
 have HC0 := Aside0.mk hc0
 clear hr0 hc0
 have HB := Aside0.mk (Below.refl w.heap.size w)
 have H : ((impl_IsShape.f k l0).bind fun t172 => (if t172 = true then ((impl_isTurn.f a1).bind fun t173 => (if t173 = true then ((impl_shapeCode.f k l0).bind fun t174 => (if t174 = 0 then ((impl_form.f k l0 a1).bind fun t175 => (some (t175, 0))) else (some (([] : List (S49)), t174)))) else (some (([] : List (S49)), 2)))) else (some (([] : List (S49)), 1)))) = some (r1, r2) := h
 clear h
 replace H := Option.bind_eq_some_iff.mp H
 obtain ⟨t172, A30, H⟩ := H
 replace H : (if t172 = true then ((impl_isTurn.f a1).bind fun t173 => (if t173 = true then ((impl_shapeCode.f k l0).bind fun t174 => (if t174 = 0 then ((impl_form.f k l0 a1).bind fun t175 => (some (t175, 0))) else (some (([] : List (S49)), t174)))) else (some (([] : List (S49)), 2)))) else (some (([] : List (S49)), 1))) = some (r1, r2) := H
 have A3 := Aside0.mk A30
 clear A30
 by_cases c4 : t172 = true
 ·subst c4
  have H1 : ((impl_isTurn.f a1).bind fun t173 => (if t173 = true then ((impl_shapeCode.f k l0).bind fun t174 => (if t174 = 0 then ((impl_form.f k l0 a1).bind fun t175 => (some (t175, 0))) else (some (([] : List (S49)), t174)))) else (some (([] : List (S49)), 2)))) = some (r1, r2) := by rw [if_pos rfl] at H; exact H
  clear H
  have H := H1
  clear H1
  replace H := Option.bind_eq_some_iff.mp H
  obtain ⟨t173, A50, H⟩ := H
  replace H : (if t173 = true then ((impl_shapeCode.f k l0).bind fun t174 => (if t174 = 0 then ((impl_form.f k l0 a1).bind fun t175 => (some (t175, 0))) else (some (([] : List (S49)), t174)))) else (some (([] : List (S49)), 2))) = some (r1, r2) := H
  have A5 := Aside0.mk A50
  clear A50
  by_cases c6 : t173 = true
  ·subst c6
   have H1 : ((impl_shapeCode.f k l0).bind fun t174 => (if t174 = 0 then ((impl_form.f k l0 a1).bind fun t175 => (some (t175, 0))) else (some (([] : List (S49)), t174)))) = some (r1, r2) := by rw [if_pos rfl] at H; exact H
   clear H
   have H := H1
   clear H1
   replace H := Option.bind_eq_some_iff.mp H
   obtain ⟨t174, A70, H⟩ := H
   replace H : (if t174 = 0 then ((impl_form.f k l0 a1).bind fun t175 => (some (t175, 0))) else (some (([] : List (S49)), t174))) = some (r1, r2) := H
   have A7 := Aside0.mk A70
   clear A70
   by_cases c8 : t174 = 0
   ·rw [if_pos c8] at H
    have c8b0 : (t174 == 0) = true := beq_iff_eq.mpr c8
    have c8b1 : (t174 != 0) = false := bne_eq_false_iff_eq.mpr c8
    clear c8
    replace H := Option.bind_eq_some_iff.mp H
    obtain ⟨t175, A90, H⟩ := H
    replace H : (some (t175, 0)) = some (r1, r2) := H
    have A9 := Aside0.mk A90
    clear A90
    simp only [Option.some.injEq, Prod.mk.injEq] at H
    obtain ⟨rfl, rfl⟩ := H
    go_enter Try.func15, Try.ntmps15
    go_wp2_with (first | ((with_reducible refine gate_callee (f := 34) rfl ?_); refine goesL_ (some 8) rfl rfl Try.func34 kr_ rfl #[.slice A0 l0.length c0] rfl ta_ ?_; (with_reducible refine (impl_IsShape.calls k _ _ l0 true _ ?side1 ?side2 A3.out).mono ?_); (case side1 => exact ca_ HR0.out); (case side2 => exact HC0.out); rintro e w10 ⟨rfl, hb⟩; refine ⟨_, rfl, ?_⟩; have n0_ := Aside0.mk (below_step (bl0_) hb); clear HB; have HB := n0_; clear n0_; (try clear hb); (try clear hb2); (try clear hk); (try clear hi)) | ((with_reducible refine gate_callee (f := 35) rfl ?_); refine goesL_ (some 11) rfl rfl Try.func35 kr_ rfl #[.int .i64 a1] rfl ta_ ?_; (with_reducible refine (impl_isTurn.calls a1 true _ A5.out).mono ?_); rintro e w' ⟨rfl, ⟨nd, rfl⟩⟩; refine ⟨_, rfl, ?_⟩) | ((with_reducible refine gate_callee (f := 23) rfl ?_); refine goesL_ (some 14) rfl rfl Try.func23 kr_ rfl #[.slice A0 l0.length c0] rfl ta_ ?_; (with_reducible refine (impl_shapeCode.calls k _ _ l0 t174 _ ?side1 ?side2 A7.out).mono ?_); (case side1 => repeat (first | exact (Kd.C_below HR0.out (bl0_)) | (with_reducible refine Kd.C_alloc ?_ _) | (with_reducible refine Kd.C_drewN ?_ _) | (with_reducible refine Kd.C_drew ?_))); (case side2 => exact HC0.out); rintro e w11 ⟨rfl, hb⟩; refine ⟨_, rfl, ?_⟩; have n0_ := Aside0.mk (below_step (bl0_) hb); clear HB; have HB := n0_; clear n0_; (try clear hb); (try clear hb2); (try clear hk); (try clear hi)) | ((with_reducible refine gate_callee (f := 36) rfl ?_); refine goesL_ (some 20) rfl rfl Try.func36 kr_ rfl #[.slice A0 l0.length c0, .int .i64 a1] rfl ta_ ?_; (with_reducible refine (impl_form.calls k _ _ l0 a1 t175 _ ?side1 ?side2 A9.out).mono ?_); (case side1 => exact ca_ (Kd.C_below HR0.out HB.out)); (case side2 => exact HC0.out); rintro e w12 ⟨v176, rfl, ho0, hb⟩; refine ⟨_, rfl, ?_⟩; have n0_ := Aside0.mk (Kd.R_lower ho0 (below_size (bl0_))); have n1_ := Aside0.mk (below_step (bl0_) hb); clear HB; have HO177 := n0_; have HB := n1_; clear n0_ n1_; (try clear hb); (try clear hb2); (try clear hk); (try clear hi); (try clear ho0)))
    go_ret2
    exact ⟨_, er_, ra_ HO177.out, bl0_⟩
   ·rw [if_neg c8] at H
    have c8b0 : (t174 == 0) = false := beq_eq_false_iff_ne.mpr c8
    have c8b1 : (t174 != 0) = true := bne_iff_ne.mpr c8
    simp only [Option.some.injEq, Prod.mk.injEq] at H
    obtain ⟨rfl, rfl⟩ := H
    go_enter Try.func15, Try.ntmps15
    go_wp2_with (first | ((with_reducible refine gate_callee (f := 34) rfl ?_); refine goesL_ (some 8) rfl rfl Try.func34 kr_ rfl #[.slice A0 l0.length c0] rfl ta_ ?_; (with_reducible refine (impl_IsShape.calls k _ _ l0 true _ ?side1 ?side2 A3.out).mono ?_); (case side1 => exact ca_ HR0.out); (case side2 => exact HC0.out); rintro e w13 ⟨rfl, hb⟩; refine ⟨_, rfl, ?_⟩; have n0_ := Aside0.mk (below_step (bl0_) hb); clear HB; have HB := n0_; clear n0_; (try clear hb); (try clear hb2); (try clear hk); (try clear hi)) | ((with_reducible refine gate_callee (f := 35) rfl ?_); refine goesL_ (some 11) rfl rfl Try.func35 kr_ rfl #[.int .i64 a1] rfl ta_ ?_; (with_reducible refine (impl_isTurn.calls a1 true _ A5.out).mono ?_); rintro e w' ⟨rfl, ⟨nd, rfl⟩⟩; refine ⟨_, rfl, ?_⟩) | ((with_reducible refine gate_callee (f := 23) rfl ?_); refine goesL_ (some 14) rfl rfl Try.func23 kr_ rfl #[.slice A0 l0.length c0] rfl ta_ ?_; (with_reducible refine (impl_shapeCode.calls k _ _ l0 t174 _ ?side1 ?side2 A7.out).mono ?_); (case side1 => repeat (first | exact (Kd.C_below HR0.out (bl0_)) | (with_reducible refine Kd.C_alloc ?_ _) | (with_reducible refine Kd.C_drewN ?_ _) | (with_reducible refine Kd.C_drew ?_))); (case side2 => exact HC0.out); rintro e w14 ⟨rfl, hb⟩; refine ⟨_, rfl, ?_⟩; have n0_ := Aside0.mk (below_step (bl0_) hb); clear HB; have HB := n0_; clear n0_; (try clear hb); (try clear hb2); (try clear hk); (try clear hi)))
    go_ret2
    exact ⟨_, er_, by first | exact Kd.R_nil _ _ _ _ _ | exact Kd.N_nil _ _ _ _ _ | exact Kd.V_nil _ _ _ _ _ | exact Kd.Q_nil _ _ _ _ _ | exact Kd.S_nil _ _ _ _ _, bl0_⟩
  ·replace c6 := Bool.eq_false_iff.mpr c6
   subst c6
   have H1 : (some (([] : List (S49)), 2)) = some (r1, r2) := by rw [if_neg (show ¬ (false = true) by decide)] at H; exact H
   clear H
   have H := H1
   clear H1
   simp only [Option.some.injEq, Prod.mk.injEq] at H
   obtain ⟨rfl, rfl⟩ := H
   go_enter Try.func15, Try.ntmps15
   go_wp2_with (first | ((with_reducible refine gate_callee (f := 34) rfl ?_); refine goesL_ (some 8) rfl rfl Try.func34 kr_ rfl #[.slice A0 l0.length c0] rfl ta_ ?_; (with_reducible refine (impl_IsShape.calls k _ _ l0 true _ ?side1 ?side2 A3.out).mono ?_); (case side1 => exact ca_ HR0.out); (case side2 => exact HC0.out); rintro e w15 ⟨rfl, hb⟩; refine ⟨_, rfl, ?_⟩; have n0_ := Aside0.mk (below_step (bl0_) hb); clear HB; have HB := n0_; clear n0_; (try clear hb); (try clear hb2); (try clear hk); (try clear hi)) | ((with_reducible refine gate_callee (f := 35) rfl ?_); refine goesL_ (some 11) rfl rfl Try.func35 kr_ rfl #[.int .i64 a1] rfl ta_ ?_; (with_reducible refine (impl_isTurn.calls a1 false _ A5.out).mono ?_); rintro e w' ⟨rfl, ⟨nd, rfl⟩⟩; refine ⟨_, rfl, ?_⟩))
   go_ret2
   exact ⟨_, er_, by first | exact Kd.R_nil _ _ _ _ _ | exact Kd.N_nil _ _ _ _ _ | exact Kd.V_nil _ _ _ _ _ | exact Kd.Q_nil _ _ _ _ _ | exact Kd.S_nil _ _ _ _ _, bl0_⟩
 ·replace c4 := Bool.eq_false_iff.mpr c4
  subst c4
  have H1 : (some (([] : List (S49)), 1)) = some (r1, r2) := by rw [if_neg (show ¬ (false = true) by decide)] at H; exact H
  clear H
  have H := H1
  clear H1
  simp only [Option.some.injEq, Prod.mk.injEq] at H
  obtain ⟨rfl, rfl⟩ := H
  go_enter Try.func15, Try.ntmps15
  go_wp2_with (first | ((with_reducible refine gate_callee (f := 34) rfl ?_); refine goesL_ (some 8) rfl rfl Try.func34 kr_ rfl #[.slice A0 l0.length c0] rfl ta_ ?_; (with_reducible refine (impl_IsShape.calls k _ _ l0 false _ ?side1 ?side2 A3.out).mono ?_); (case side1 => exact ca_ HR0.out); (case side2 => exact HC0.out); rintro e w16 ⟨rfl, hb⟩; refine ⟨_, rfl, ?_⟩; have n0_ := Aside0.mk (below_step (bl0_) hb); clear HB; have HB := n0_; clear n0_; (try clear hb); (try clear hb2); (try clear hk); (try clear hi)))
  go_ret2
  exact ⟨_, er_, by first | exact Kd.R_nil _ _ _ _ _ | exact Kd.N_nil _ _ _ _ _ | exact Kd.V_nil _ _ _ _ _ | exact Kd.Q_nil _ _ _ _ _ | exact Kd.S_nil _ _ _ _ _, bl0_⟩

end Go.Proofs.Ytaaodakmelihaaa.PFnNames
