/- Over the kit's printer by a driver of mine (hprint.py), with parts by hand: functions of the program as Lean functions, and that each call comes to exactly these answers. -/
import Derived.Test.YtmdjkmfocgelnaaGreatPFnTriangleShapesx0
import Derived.Test.YtmdjkmfocgelnaaGreatPFnTriangleShapesx3
import Derived.Test.YtmdjkmfocgelnaaGreatPFnTriangleShapesx4
import Derived.Test.YtmdjkmfocgelnaaGreatPFnTriangleShapesx5
import Derived.Test.YtmdjkmfocgelnaaGreatPFnTriangleShapesx8
import Derived.Test.YtmdjkmfocgelnaaGreatPFnTriangleShapesx9
import Derived.Test.YtmdjkmfocgelnaaGreatPFnTriangleShapesx19
namespace Go.Proofs.YtmdjkmfocgelnaaGreat.PFnTriangleShapes
open Go.RowKit Go.Proofs.YtmdjkmfocgelnaaGreatW.PrintWords Go.Proofs.YtmdjkmfocgelnaaGreatW.PrintLast Go.Proofs.YtmdjkmfocgelnaaGreatW.PrintMore
attribute [local go_sem] max2_int min2_int max_two min_two max_three min_three max_four min_four   -- for this text's walks alone
set_option linter.unusedVariables false
set_option linter.unusedSimpArgs false

/-! ### impl_isTriangleShape: function 46 -/
/-! Whether all cells of a shape are triangles: a closure over slices.ContainsFunc. -/
def triC (c : S46) : Bool := (impl_isTriangle.f c.f0 c.f1).getD false
theorem triC_some (c : S46) : impl_isTriangle.f c.f0 c.f1 = some (triC c) := by
 have hm : ∀ x : Int, ∃ y, impl_modOf.f x 3 = some y := fun x => by
  unfold impl_modOf.f
  rw [if_neg (by decide)]
  exact ⟨_, rfl⟩
 obtain ⟨a, ha⟩ := hm c.f0
 obtain ⟨b, hb⟩ := hm c.f1
 have h : ∃ r, impl_isTriangle.f c.f0 c.f1 = some r := by
  unfold impl_isTriangle.f
  rw [ha, hb]
  simp only [Option.bind_some]
  repeat' split
  all_goals exact ⟨_, rfl⟩
 obtain ⟨r, h⟩ := h
 unfold triC
 rw [h]
 rfl
def elT (L : List S46) (j : Nat) : S46 := L.getD j z46
def impl_isTriangleShape.f (k : Nat) (l0 : List S46) : Option Bool := (impl_IsShape.f k l0).bind fun t => if t = true then (if l0.length ≤ 9223372036854775807 then some (!((List.range l0.length).any fun j => !triC (elT l0 j))) else none) else some false
theorem impl_isTriangleShape.mono : ∀ l0 k, LeO (impl_isTriangleShape.f k l0) (impl_isTriangleShape.f (k + 1) l0) := by
 intro l0 k
 unfold impl_isTriangleShape.f
 exact LeO.bind (impl_IsShape.mono l0 k) (fun t => LeO.refl _)
theorem notTri_calls (c : S46) (W : World) : Calls Tryz.prog 88 #[.agg #[.int .i64 c.f0, .int .i64 c.f1]] W fun e w' => e = .returned (.bool (!triC c)) ∧ Below W.heap.size W w' := by
 have hT := fun W2 => impl_isTriangle.calls c.f0 c.f1 (triC c) W2 (triC_some c)
 go_enter Tryz.func88, Tryz.ntmps88
 go_wp2_with (go_at_call 89; refine (hT _).mono ?_; rintro e w1 ⟨rfl, hb⟩; have HB := Aside0.mk hb; clear hb)
 go_ret
 exact ⟨rfl, below_step (below_alloc (Below.refl _ _) _) HB.out⟩
/-- slices.IndexFunc at cells: a predicate that leaves what lay. -/
theorem indexT_calls (L : List S46) (p : Nat → Bool) (g : Nat) (eg : ∀ args w, (callFunc g args).run Tryz.prog w = .ok (.enter g args) w) (A : Option Addr) (c : Nat) (w : World) (hL : Kd.C k46 w A L.length L) (hm : L.length ≤ 9223372036854775807)
  (hp : ∀ W j, j < L.length → Calls Tryz.prog g #[.agg #[.int .i64 (elT L j).f0, .int .i64 (elT L j).f1]] W fun e w' => e = .returned (.bool (p j)) ∧ Below W.heap.size W w') :
  Calls Tryz.prog 114 #[.slice A L.length c, .func (.func g) #[] #[]] w fun e w' => ∃ i : Int, e = .returned (.int .i64 i) ∧ decide (0 ≤ i) = (List.range L.length).any p ∧ Below w.heap.size w w' := by
 have HL := Aside0.mk hL
 have HP := Aside0.mk hp
 clear hL hp
 go_enter Tryz.func114, Tryz.ntmps114
 go_wp2
 go_loopg [5, 8] L.length (fun gg _ s8 wr => ∃ kk : Nat, kk ≤ L.length ∧ L.length - kk ≤ gg ∧ s8 = .int .i64 kk ∧ Aside0 (Below w.heap.size w wr) ∧ Aside0 (∀ j, j < kk → p j = false))
 case atStart => exact ⟨0, Nat.zero_le _, by omega, rfl, ⟨Below.refl _ w⟩, ⟨fun j hj => absurd hj (Nat.not_lt_zero _)⟩⟩
 case round =>
  obtain ⟨kk, hkk, hg, rfl, BW, HA⟩ := hrel
  by_cases hlt : kk < L.length
  ·have hltz : (kk : Int) < (L.length : Int) := by omega
   obtain ⟨ad, e1, hx0, hx1⟩ := at_T46 HL.out (kk : Int) (by omega) hltz
   cases e1
   rw [Int.toNat_natCast] at hx0 hx1
   replace hx0 := (BW.out.cell (World.block_lt_of_cell? w _ hx0)).trans hx0
   replace hx1 := (BW.out.cell (World.block_lt_of_cell? w _ hx1)).trans hx1
   have hcall := HP.out wr kk hlt
   replace hcall : Calls Tryz.prog g #[.agg #[.int .i64 (rd_T46 L (kk : Int)).f0, .int .i64 (rd_T46 L (kk : Int)).f1]] wr fun e w' => e = .returned (.bool (p kk)) ∧ Below wr.heap.size wr w' := hcall
   have HX := Aside0.mk hlt
   clear hlt
   generalize rd_T46 L (kk : Int) = q at hx0 hx1 hcall
   cases hq : p kk with
   | true =>
    rw [hq] at hcall
    have HQ := Aside0.mk hq
    clear hq
    go_wp2_with (go_at_fn g; refine hcall.mono ?_; rintro e w' ⟨rfl, hb'⟩; have HB' := a0_ (below_step BW.out hb'); clear hb')
    go_ret
    refine ⟨_, rfl, ?_, HB'.out⟩
    rw [decide_eq_true (show (0 : Int) ≤ (kk : Int) by omega)]
    exact (List.any_eq_true.2 ⟨kk, List.mem_range.2 HX.out, HQ.out⟩).symm
   | false =>
    rw [hq] at hcall
    have HQ := Aside0.mk hq
    clear hq
    go_wp2_with (go_at_fn g; refine hcall.mono ?_; rintro e w' ⟨rfl, hb'⟩; have HB' := a0_ (below_step BW.out hb'); clear hb')
    go_roundg (L.length - (kk + 1))
    case measure => have := HX.out; omega
    case rel =>
     refine ⟨kk + 1, by have := HX.out; omega, by omega, by go_num, HB', ⟨fun j hj => ?_⟩⟩
     by_cases e : j = kk
     ·subst e
      exact HQ.out
     ·exact HA.out j (by omega)
  ·have hltz : ¬ (kk : Int) < (L.length : Int) := by omega
   have : kk = L.length := by omega
   subst this
   go_wp2
   go_ret
   refine ⟨_, rfl, ?_, BW.out⟩
   rw [decide_eq_false (by omega)]
   symm
   rw [List.any_eq_false]
   intro j hj
   rw [HA.out j (List.mem_range.1 hj)]
   simp
theorem containsT_calls (L : List S46) (p : Nat → Bool) (g : Nat) (eg : ∀ args w, (callFunc g args).run Tryz.prog w = .ok (.enter g args) w) (A : Option Addr) (c : Nat) (w : World) (hL : Kd.C k46 w A L.length L) (hm : L.length ≤ 9223372036854775807)
  (hp : ∀ W j, j < L.length → Calls Tryz.prog g #[.agg #[.int .i64 (elT L j).f0, .int .i64 (elT L j).f1]] W fun e w' => e = .returned (.bool (p j)) ∧ Below W.heap.size W w') :
  Calls Tryz.prog 87 #[.slice A L.length c, .func (.func g) #[] #[]] w fun e w' => e = .returned (.bool ((List.range L.length).any p)) ∧ Below w.heap.size w w' := by
 have hI := indexT_calls L p g eg A c w hL hm hp
 clear hL hp
 go_enter Tryz.func87, Tryz.ntmps87
 go_wp2_with (go_at_call 114; refine hI.mono ?_; rintro e w1 ⟨i, rfl, hi, hb⟩; have HI := Aside0.mk hi; have HB := Aside0.mk hb; clear hi hb)
 go_ret
 refine ⟨?_, HB.out⟩
 rw [← HI.out]
 rfl
set_option maxHeartbeats 1000000 in
theorem impl_isTriangleShape.calls (k : Nat) (A0 : Option Addr) (c0 : Nat) (l0 : List S46) (r : Bool) (w : World) (hr0 : Kd.C k46 w A0 l0.length l0) (hc0 : l0.length ≤ c0) (h : impl_isTriangleShape.f k l0 = some r) :
  Calls Tryz.prog 46 #[.slice A0 l0.length c0] w fun e w' => e = .returned (.bool r) ∧ Below w.heap.size w w' := by
 unfold impl_isTriangleShape.f at h
 obtain ⟨t, ht, h⟩ := Option.bind_eq_some_iff.1 h
 have HS := a0_ (impl_IsShape.calls k A0 c0 l0 t w hr0 hc0 ht)
 have HR := Aside0.mk hr0
 have HC := Aside0.mk hc0
 have H' := Aside0.mk h
 clear ht hr0 hc0 h
 cases t with
 | false =>
  have e := Option.some.inj (H'.out.symm.trans (if_neg (by simp)))
  subst e
  go_enter Tryz.func46, Tryz.ntmps46
  go_wp2_with (go_at_call 65; refine HS.out.mono ?_; rintro e w1 ⟨rfl, hb⟩; have HB := Aside0.mk hb; clear hb)
  go_ret
  exact ⟨rfl, HB.out⟩
 | true =>
  have h2 := H'.out
  rw [if_pos rfl] at h2
  split at h2
  case isFalse => cases h2
  rename_i hm
  have e := Option.some.inj h2
  subst e
  have hcf := fun W (hb : Below w.heap.size w W) => containsT_calls l0 (fun j => !triC (elT l0 j)) 88 (enters_of Tryz.func88 kr_ rfl) A0 c0 W (Kd.C_below HR.out hb) hm (fun W2 j _ => notTri_calls (elT l0 j) W2)
  clear h2 hm H'
  obtain ⟨q, hq⟩ : ∃ q, q = (List.range l0.length).any (fun j => !triC (elT l0 j)) := ⟨_, rfl⟩
  rw [← hq] at hcf ⊢
  clear hq
  go_enter Tryz.func46, Tryz.ntmps46
  go_wp2_with (first | (go_at_call 65; refine HS.out.mono ?_; rintro e w1 ⟨rfl, hb⟩; have HB := Aside0.mk hb; clear hb) | (go_at_call 87; refine (hcf _ HB.out).mono ?_; rintro e w2 ⟨rfl, hb2⟩; have HB2 := a0_ (below_step HB.out hb2); clear hb2 hcf))
  go_ret
  exact ⟨rfl, HB2.out⟩


/-! ### impl_TriangleFree: function 14 -/
/-! The least triangle form of a shape. -/
def impl_TriangleFree.f (k : Nat) (s : List S46) : Option (List S46 × Int) := if impl_isTriangleShape.f k s = some true then (formsG k (impl_triangleForm.f k) s 12).bind fun L => some (leastL L, 0) else none
theorem impl_TriangleFree.mono (s : List S46) (k : Nat) : LeO (impl_TriangleFree.f k s) (impl_TriangleFree.f (k + 1) s) := by
 unfold impl_TriangleFree.f
 intro r h
 split at h
 case isFalse => cases h
 rename_i hc
 rw [if_pos (impl_isTriangleShape.mono s k _ hc)]
 exact LeO.bind (formsG_mono k s 12) (fun L => LeO.refl _) r h
set_option maxHeartbeats 1000000 in
theorem impl_TriangleFree.calls (k : Nat) (A0 : Option Addr) (c0 : Nat) (l0 : List S46) (r1 : List S46) (r2 : Int) (w : World) (hr0 : Kd.C k46 w A0 l0.length l0) (hc0 : l0.length ≤ c0) (h : impl_TriangleFree.f k l0 = some (r1, r2)) :
  Calls Tryz.prog 14 #[.slice A0 l0.length c0] w fun e w' => ∃ v0_ : Value, e = .returned (.tuple #[v0_, .int .i64 r2]) ∧ Kd.R k46 46 w' w.heap.size (fun _ => True) v0_ r1 ∧ Below w.heap.size w w' := by
 unfold impl_TriangleFree.f at h
 split at h
 case isFalse => cases h
 rename_i hc
 obtain ⟨L, hL, h2⟩ := Option.bind_eq_some_iff.mp h
 have h4 := Option.some.inj h2
 injection h4 with h5 h6
 subst h5 h6
 have HS := a0_ (impl_isTriangleShape.calls k A0 c0 l0 true w hr0 hc0 hc)
 have hlf := fun W (hb : Below w.heap.size w W) => leastForm_calls k 42 _ (formH k) A0 c0 l0 L W (Kd.C_below hr0 hb) hc0 hL
 clear h h2 hL hc hr0 hc0
 go_enter Tryz.func14, Tryz.ntmps14
 go_wp2_with (first | (go_at_call 46; refine HS.out.mono ?_; rintro e w1 ⟨rfl, hb⟩; have HB := Aside0.mk hb; clear hb) | (go_at_call 47; (refine (hlf _ HB.out).mono ?_; rintro e w2 ⟨v2, rfl, hR, hb⟩; have HR2 := a0_ (Kd.R_lower hR HB.out.size); have HB2 := a0_ (below_step HB.out hb); clear hR hb hlf)))
 go_ret2
 exact ⟨_, rfl, HR2.out, HB2.out⟩


/-! ### slices_Max_int64_int64: function 91 -/
def slices_Max_int64_int64.l0 : Nat → List Int → Int → Int → Option (Int)
 | 0, _, _, _ => none
 | k + 1, x0, x3, x4 => if x4 < (x0.length : Int) then (if 0 ≤ x4 then (slices_Max_int64_int64.l0 k x0 (mx x3 (rd x0 x4)) (wrap64 (x4 + 1))) else (none)) else (some x3)
def slices_Max_int64_int64.f (k : Nat) (l0 : List Int) : Option (Int) := if (l0.length : Int) < 1 then (none) else (if 0 < (l0.length : Int) then (slices_Max_int64_int64.l0 k l0 (rd l0 0) 1) else (none))
theorem slices_Max_int64_int64.mono_l : ∀ k, (∀ y0 y1 y2, LeO (slices_Max_int64_int64.l0 k y0 y1 y2) (slices_Max_int64_int64.l0 (k + 1) y0 y1 y2))
 | 0 => fun _ _ _ r h => by simp [slices_Max_int64_int64.l0] at h
 | k + 1 => by
  have ih0 := slices_Max_int64_int64.mono_l k
  ·intro y0 y1 y2
   unfold slices_Max_int64_int64.l0
   with_reducible (repeat' first | exact ih0 _ _ _ | exact LeO.refl _ | exact LeO.none _ | refine LeO.ite ?_ ?_ | refine LeO.bind ?_ (fun _ => ?_))
theorem slices_Max_int64_int64.mono : ∀ a0 k, LeO (slices_Max_int64_int64.f k a0) (slices_Max_int64_int64.f (k + 1) a0) := by
 intro a0 k
 have ih0 := slices_Max_int64_int64.mono_l k
 unfold slices_Max_int64_int64.f
 with_reducible (repeat' first | exact ih0 _ _ _ | exact LeO.refl _ | exact LeO.none _ | refine LeO.ite ?_ ?_ | refine LeO.bind ?_ (fun _ => ?_))
set_option maxHeartbeats 8000000 in
set_option maxRecDepth 100000 in
theorem slices_Max_int64_int64.calls (k : Nat) (A0 : Option Addr) (c0 : Nat) (l0 : List Int) (r : Int) (w : World) (hr0 : Kd.C (Kd.int .i64) w A0 l0.length l0) (hc0 : l0.length ≤ c0) (h : slices_Max_int64_int64.f k l0 = some r) :
  Calls Tryz.prog 91 #[.slice A0 l0.length c0] w fun e w' => e = .returned (.int .i64 r) ∧ Below w.heap.size w w' := by
 have HR0 := Aside0.mk hr0
 have HC0 := Aside0.mk hc0
 clear hr0 hc0
 have HB := a0_ (Below.refl w.heap.size w)
 have H := h
 clear h
 unfold slices_Max_int64_int64.f at H
 by_cases c2 : (l0.length : Int) < 1
 ·rw [if_pos c2] at H
  exact absurd H (by simp)
 ·rw [if_neg c2] at H
  have c2b0 : decide ((l0.length : Int) < 1) = false := decide_eq_false c2
  have c2b1 : decide (l0.length < 1) = false := decide_eq_false (by omega)
  clear c2
  by_cases c3 : 0 < (l0.length : Int)
  ·rw [if_pos c3] at H
   have c3b0 : decide (0 < (l0.length : Int)) = true := decide_eq_true c3
   have c3b1 : decide (0 < l0.length) = true := decide_eq_true (by omega)
   clear c3
   have H' := Aside0.mk H
   clear H
   have p401 : 0 ≤ (0 : Int) := (by omega)
   have q401 : 0 < (l0.length : Int) := od_
   obtain ⟨ad401, e401, hx401_0⟩ := Kd.at_int HR0.out 0 p401 q401
   cases e401
   have qi401 : (0 < l0.length) = True := eq_true (by omega)
   (try rw [show ((0 : Int)).toNat = 0 from rfl] at hx401_0)
   (try rw [Addr.add_zero'] at hx401_0)
   replace p401 := eq_true p401
   replace q401 := eq_true q401
   go_enter Tryz.func91, Tryz.ntmps91
   go_wp2
   go_loopg [3, 4] k (fun kq v3 v4 w' => ∃ (x3_1 : Int) (x4_1 : Int), v3 = .int .i64 x3_1 ∧ v4 = .int .i64 x4_1 ∧ Aside0 (slices_Max_int64_int64.l0 kq l0 x3_1 x4_1 = some r) ∧ Aside0 (kq ≤ k) ∧ Aside0 (Below w.heap.size w w'))
   case atStart => exact ⟨(rd l0 0), (1), rs_, rs_, H', ⟨Nat.le_refl _⟩, ⟨bl0_⟩⟩
   case round =>
    clear H'
    try clear c2
    try clear c2b0
    try clear c2b1
    try clear p2
    try clear c3
    try clear c3b0
    try clear c3b1
    try clear hx401_0
    try clear p401
    try clear q401
    obtain ⟨x3_1, x4_1, rfl, rfl, HA, HK1, HB⟩ := hrel
    cases gk with
    | zero => exact absurd HA.out (by simp [slices_Max_int64_int64.l0])
    | succ k1 =>
     have H := HA.out
     clear HA
     simp only [slices_Max_int64_int64.l0] at H
     by_cases c4 : x4_1 < (l0.length : Int)
     ·rw [if_pos c4] at H
      have c4b0 : decide (x4_1 < (l0.length : Int)) = true := decide_eq_true c4
      clear c4
      by_cases c5 : 0 ≤ x4_1
      ·rw [if_pos c5] at H
       have c5b0 : decide (0 ≤ x4_1) = true := decide_eq_true c5
       clear c5
       obtain ⟨ji6, hji6⟩ : ∃ j_ : Int, (mx x3_1 (rd l0 x4_1)) = j_ := ⟨_, rfl⟩
       replace H : (slices_Max_int64_int64.l0 k1 l0 ji6 (wrap64 (x4_1 + 1))) = some r := by first | (rw [hji6] at H; exact H) | (simp only [hji6] at H ⊢; exact H)
       have hji6_ : (if x3_1 < (rd l0 x4_1) then (rd l0 x4_1) else x3_1) = ji6 := hji6
       have H' := Aside0.mk H
       clear H
       have p402 : 0 ≤ (x4_1 : Int) := od_
       have q402 : x4_1 < (l0.length : Int) := od_
       obtain ⟨ad402, e402, hx402_0⟩ := Kd.at_int HR0.out x4_1 p402 q402
       obtain rfl : ad401 = ad402 := (by injection e402)
       replace hx402_0 := (HB.out.cell (World.block_lt_of_cell? w _ hx402_0)).trans hx402_0
       replace p402 := eq_true p402
       replace q402 := eq_true q402
       go_wp2
       go_roundg k1
       case measure => have := HK1.out; omega
       case rel => exact ⟨(ji6), (wrap64 (x4_1 + 1)), (by first | rfl | (simp; done) | (simp only [← hji6] <;> (first | rfl | simp)) | (simp [*]; done)), rs_, H', ⟨by have := HK1.out; omega⟩, ⟨bl0_⟩⟩
      ·rw [if_neg c5] at H
       exact absurd H (by simp)
     ·rw [if_neg c4] at H
      have c4b0 : decide (x4_1 < (l0.length : Int)) = false := decide_eq_false c4
      clear c4
      obtain rfl := Option.some.inj H
      go_wp2
      go_ret
      exact ⟨er_, bl0_⟩
  ·rw [if_neg c3] at H
   exact absurd H (by simp)

/-! ### impl_parts: function 92 -/
/-- The pair of a cell's numbers; the last place among the first i at which a cell stands. -/
def cellKey (c : S46) : Int × Int := (c.f0, c.f1)
def okc (c : S46) : Prop := (-9223372036854775808 ≤ c.f0 ∧ c.f0 ≤ 9223372036854775807) ∧ (-9223372036854775808 ≤ c.f1 ∧ c.f1 ≤ 9223372036854775807)
instance (c : S46) : Decidable (okc c) := inferInstanceAs (Decidable (_ ∧ _))
def atCell (l : List S46) : Nat → Int × Int → Option Int
 | 0, _ => none
 | i + 1, p => if p = cellKey (rd_T46 l (i : Int)) then some (i : Int) else atCell l i p
def placeF (l : List S46) (i : Nat) (p : Int × Int) : Option Value := (atCell l i p).map (fun q => .int .i64 q)
mutual
def impl_parts.l1 (NF : S46 → List S46) : Nat → List S46 → List Int → Int → Option (List Int)
 | 0, _, _, _ => none
 | k + 1, l, out, i => if i < (l.length : Int) then (if 0 ≤ i then (if rd out i ≥ 0 then impl_parts.l1 NF k l out (wrap64 (i + 1)) else impl_parts.l2 NF k l (out.set i.toNat i) i [i] 0) else none) else some out
def impl_parts.l2 (NF : S46 → List S46) : Nat → List S46 → List Int → Int → List Int → Int → Option (List Int)
 | 0, _, _, _, _, _ => none
 | k + 1, l, out, i, list, t => if t < (list.length : Int) then (if (0 ≤ t ∧ 0 ≤ rd list t) ∧ rd list t < (l.length : Int) then ((some (NF (rd_T46 l (rd list t)))).bind fun ds => impl_parts.l3 NF k l out i list t ds 0) else none) else impl_parts.l1 NF k l out (wrap64 (i + 1))
def impl_parts.l3 (NF : S46 → List S46) : Nat → List S46 → List Int → Int → List Int → Int → List S46 → Int → Option (List Int)
 | 0, _, _, _, _, _, _, _ => none
 | k + 1, l, out, i, list, t, ds, j => if j < (ds.length : Int) then (if 0 ≤ j ∧ okc (rd_T46 ds j) then (match atCell l l.length (cellKey (rd_T46 ds j)) with
   | none => impl_parts.l3 NF k l out i list t ds (wrap64 (j + 1))
   | some q => if 0 ≤ q ∧ q < (l.length : Int) then (if rd out q < 0 then (if list.length < 17592186044416 then impl_parts.l3 NF k l (out.set q.toNat i) i (list ++ [q]) t ds (wrap64 (j + 1)) else none) else impl_parts.l3 NF k l out i list t ds (wrap64 (j + 1))) else none) else none) else impl_parts.l2 NF k l out i list (wrap64 (t + 1))
end
def impl_parts.f (NF : S46 → List S46) (k : Nat) (l : List S46) : Option (List Int) := if (0 < l.length ∧ l.length ≤ 35184372088832) ∧ (∀ c ∈ l, okc c) then impl_parts.l1 NF k l (List.replicate l.length (-1)) 0 else none
theorem mapZ (w : World) : (zeroValue 3).run Tryz.prog w = .ok (.int .i64 0) w := by kernel_rfl
theorem cellLaid : Go.Maps.Keyed Tryz.prog 46 := Go.Maps.Keyed.of_law (Go.deep_law_laid (m := 3) kr_ (by omega) (of_decide_eq_true kr_) kr_ kr_)
theorem cellKeyed (c : S46) (h : okc c) : ∃ l, keyOf Tryz.prog 46 (enc2 (cellKey c)) = some l :=
 key2 Tryz.underlying46 kr_ kr_ Tryz.underlying2 Tryz.underlying2 kr_ kr_ rfl rfl (by decide) (by decide) ⟨Tryz.prog.types.size - 1, by kernel_rfl⟩ c.f0 c.f1 h.1 h.2
theorem info8 : (Tryz.prog.info? 2).map (fun i => (i.zero, i.size, i.bytes)) = some (some (.int .i64 0), 1, 8) := by kernel_rfl
theorem wrapS (i : Nat) (h : i < 4611686018427387904) : wrap64 ((i : Int) + 1) = ((i + 1 : Nat) : Int) := by unfold wrap64; omega
theorem fillS (i n : Nat) (h : i < n) : (List.replicate i (-1 : Int) ++ List.replicate (n - i) 0).set i (-1) = List.replicate (i + 1) (-1) ++ List.replicate (n - (i + 1)) 0 := by
 rw [List.set_append_right _ _ (by simp), List.length_replicate, Nat.sub_self, List.replicate_succ', List.append_assoc]
 congr 1
 rw [show n - i = (n - (i + 1)) + 1 from by omega, List.replicate_succ]
 rfl
theorem placeS (l : List S46) (i : Nat) (x : Int × Int) : (if x = cellKey (rd_T46 l (i : Int)) then some (Value.int .i64 (i : Int)) else placeF l i x) = placeF l (i + 1) x := by
 unfold placeF
 rw [atCell]
 by_cases h : x = cellKey (rd_T46 l (i : Int))
 ·rw [if_pos h, if_pos h]
  rfl
 ·rw [if_neg h, if_neg h]
theorem rd_mem (l : List S46) (i : Int) (h0 : 0 ≤ i) (h : i < (l.length : Int)) : rd_T46 l i ∈ l := by
 unfold rd_T46
 rw [List.getD_eq_getElem?_getD, List.getElem?_eq_getElem (by omega), Option.getD_some]
 exact List.getElem_mem _
theorem info8i : (Tryz.prog.info? 3).map (fun i => (i.zero, i.size, i.bytes)) = some (some (.int .i64 0), 1, 8) := by kernel_rfl
structure NearP (gn : Nat) (NF : S46 → List S46) : Prop where
 eg : ∀ args w, (callFunc gn args).run Tryz.prog w = .ok (.enter gn args) w
 calls : ∀ (c : S46) (W : World), Calls Tryz.prog gn #[.agg #[.int .i64 c.f0, .int .i64 c.f1]] W fun e w' => ∃ v, e = .returned v ∧ Kd.R k46 46 w' W.heap.size (fun _ => True) v (NF c) ∧ Below W.heap.size W w'
set_option maxHeartbeats 4000000 in
set_option maxRecDepth 100000 in
theorem impl_parts.calls (gn : Nat) (NF : S46 → List S46) (hN : NearP gn NF) (k : Nat) (A0 : Option Addr) (c0 : Nat) (l0 : List S46) (r : List Int) (w : World) (hr0 : Kd.C k46 w A0 l0.length l0) (hc0 : l0.length ≤ c0) (h : impl_parts.f NF k l0 = some r) :
  Calls Tryz.prog 92 #[.slice A0 l0.length c0, .func (.func gn) #[] #[]] w fun e w' => ∃ v0_ : Value, e = .returned v0_ ∧ Kd.R (Kd.int .i64) 2 w' w.heap.size (fun _ => True) v0_ r ∧ Below w.heap.size w w' := by
 have eg := hN.eg
 have HNP := Aside0.mk hN
 clear hN
 unfold impl_parts.f at h
 split at h
 case isFalse => exact absurd h (by simp)
 rename_i hl
 obtain ⟨⟨hp, hl⟩, hok⟩ := hl
 have hu := Tryz.underlying46
 have HR0 := Aside0.mk hr0
 have HL0 := Aside0.mk hc0
 have H' := Aside0.mk h
 have HL := Aside0.mk hl
 have HP := Aside0.mk hp
 have HOK := Aside0.mk hok
 clear hr0 hc0 h hl hok hp
 have HB := a0_ (Below.refl w.heap.size w)
 have hmm := @run_makeMap Tryz.prog
 go_enter Tryz.func92, Tryz.ntmps92
 have HM := a0_ (MapF.made Tryz.prog 46 enc2 w)
 go_wp2_with (first | ((with_reducible refine gate_dst (N := 19) rfl ?_); refine Kd.R_make (Kd.int .i64) (w0 := w) w.heap.size 2 rfl (N := 19) rfl 53 _ _ rfl (l0.length : Int) rfl rfl Tryz.underlying53 (.int .i64 0) 8 info8 rfl (by decide) (by omega) 0 (ok := fun _ => True) (okp := fun _ => True) rfl (fun _ hk => hk) trivial (by omega) (by have := HL.out; omega) (below_alloc HB.out _) (below_size (below_alloc HB.out _)) ?_; intro vo w2 ho hb hg _; obtain ⟨g, cap, eo, gb, _, _, _⟩ := Kd.R_form ho (by have := HP.out; simp; omega); subst eo; have GB := Aside0.mk gb; have HM2 := a0_ (HM.out.grown hg (by simp)); have HO := Aside0.mk ho; have HB2 := Aside0.mk hb; clear ho hb hg gb))
 clear HM HB
 simp only [List.length_replicate, Int.toNat_natCast] at HO ⊢
 have HO0 : Aside0 (Kd.R (Kd.int .i64) 2 w2 w.heap.size (fun _ => True) (.slice (some ⟨g, 0, none⟩) l0.length cap) (List.replicate 0 (-1) ++ List.replicate (l0.length - 0) 0)) := a0_ (by simpa using HO.out)
 have HM0 : Aside0 (MapF Tryz.prog 46 enc2 w2 w.heap.size 0 (placeF l0 0)) := a0_ (HM2.out.ext (fun _ => rfl))
 clear HO HM2
 go_loopg [22] l0.length (fun kq v22 w' => ∃ i : Nat, v22 = .int .i64 (i : Int) ∧ Aside0 (kq + i = l0.length) ∧ Aside0 (MapF Tryz.prog 46 enc2 w' w.heap.size i (placeF l0 i)) ∧ Aside0 (Kd.R (Kd.int .i64) 2 w' w.heap.size (fun _ => True) (.slice (some ⟨g, 0, none⟩) l0.length cap) (List.replicate i (-1) ++ List.replicate (l0.length - i) 0)) ∧ Aside0 (Below w.heap.size w w'))
 case atStart => exact ⟨0, rfl, ⟨by omega⟩, HM0, HO0, HB2⟩
 case round =>
  clear HM0 HO0 HB2
  obtain ⟨i, rfl, HI, HM, HO, HB⟩ := hrel
  cases gk with
  | succ k1 =>
   have c1 : decide ((i : Int) < (l0.length : Int)) = true := decide_eq_true (by have := HI.out; omega)
   have c1n : decide (i < l0.length) = true := decide_eq_true (by have := HI.out; omega)
   have p1 : 0 ≤ (i : Int) := by omega
   have q1 : (i : Int) < (l0.length : Int) := of_decide_eq_true c1
   obtain ⟨ad1, e1, hx0, hx1⟩ := at_T46 HR0.out (i : Int) p1 q1
   cases e1
   rw [Int.toNat_natCast] at hx0 hx1
   replace hx0 := (HB.out.cell (World.block_lt_of_cell? w _ hx0)).trans hx0
   replace hx1 := (HB.out.cell (World.block_lt_of_cell? w _ hx1)).trans hx1
   have KC := a0_ (HOK.out _ (rd_mem l0 (i : Int) p1 q1))
   replace p1 := eq_true p1
   replace q1 := eq_true q1
   go_wp2_with (first | (at_mapUpdate; refine wpList_putF rfl _ _ _ 108 rfl 46 3 cellLaid Tryz.underlying108 enc2 w.heap.size i (placeF l0 i) rfl (HM.out.alloc _) (by have := HI.out; have := HL.out; unfold maxLen; omega) (cellKey (rd_T46 l0 (i : Int))) rfl (fun q hq => enc2_inj _ _ hq) (cellKeyed _ KC.out) (.int .i64 (i : Int)) rfl ?_; intro w3 hm3 hg3; have HM3 := a0_ (hm3.ext (placeS l0 i)); have HO3 := a0_ (Kd.R_mapTurn (Kd.R_alloc HO.out _) (MapF.block (HM.out.alloc _)) hg3); have HB3 := a0_ (below_mapTurn (below_alloc HB.out _) hg3 (Nat.le_refl _) (below_size (below_alloc HB.out _))); clear hm3 hg3; obtain ⟨hx5, hf5⟩ := Kd.R_celln 0 HO3.out (i : Int) (by omega) (of_decide_eq_true c1); rw [Int.toNat_natCast] at hx5 hf5; have HP3 := Kd.R_putg HO3.out (i : Int) (-1); rw [Int.toNat_natCast] at HP3) | ((with_reducible refine gate_store (t := 2) (p := 32) rfl ?_); refine store_event (t := 2) (p := 32) (v := ?vo_) (w1 := (w3.setCell ⟨g, i, none⟩ (.int .i64 (-1)))) ?hg ?ho ?hn ?hr ?_; (case ho => rfl); (case hg => rfl); (case hn => rfl); (case hr => first | (go_simp; done) | (go_simp; rfl)); intro w4 hw; have hg4 : w3.grownBy w4 (some g) := (by rw [hw]; exact HP3.2); have HM4 := a0_ (HM3.out.cellTurn (Kd.R_typed HO3.out g rfl |>.elim fun c hc => ⟨c, _, _, hc⟩) hg4); have HO4 := a0_ (by rw [hw]; exact HP3.1 : Kd.R (Kd.int .i64) 2 w4 w.heap.size (fun _ => True) (.slice (some ⟨g, 0, none⟩) l0.length cap) ((List.replicate i (-1) ++ List.replicate (l0.length - i) 0).set i (-1))); have HB4 := a0_ (by rw [hw]; exact below_set HB3.out GB.out : Below w.heap.size w w4); clear hw HP3 hg4))
   go_roundg k1
   case measure => omega
   case rel => exact ⟨i + 1, by rw [wrapS i (by have := HI.out; have := HL.out; omega)], ⟨by have := HI.out; omega⟩, HM4, ⟨by have h := HO4.out; rw [fillS i l0.length (by have := HI.out; omega)] at h; exact h⟩, HB4⟩
  | zero =>
   obtain rfl : i = l0.length := by have := HI.out; omega
   have c1 : decide ((l0.length : Int) < (l0.length : Int)) = false := decide_eq_false (by omega)
   rw [Nat.sub_self, List.replicate_zero, List.append_nil] at HO
   go_wp2
   clear HI c1
   go_loopg [36] k (fun kq v36 w' => ∃ (out : List Int) (i : Int), v36 = .int .i64 i ∧ Aside0 (impl_parts.l1 NF kq l0 out i = some r) ∧ Aside0 (kq ≤ k) ∧ Aside0 (MapF Tryz.prog 46 enc2 w' w.heap.size l0.length (placeF l0 l0.length)) ∧ Aside0 (Kd.R (Kd.int .i64) 2 w' w.heap.size (fun _ => True) (.slice (some ⟨g, 0, none⟩) l0.length cap) out) ∧ Aside0 (Below w.heap.size w w'))
   case atStart => exact ⟨_, 0, rfl, H', ⟨Nat.le_refl _⟩, HM, HO, HB⟩
   case round =>
    clear H' HM HO HB
    obtain ⟨out, i, rfl, HA, HK1, HM, HO, HB⟩ := hrel
    cases gk with
    | zero => exact absurd HA.out (by simp [impl_parts.l1])
    | succ k1 =>
     have H := HA.out
     clear HA
     simp only [impl_parts.l1] at H
     by_cases c : i < (l0.length : Int)
     ·rw [if_pos c] at H
      have c0 : decide (i < (l0.length : Int)) = true := decide_eq_true c
      by_cases d : 0 ≤ i
      ·rw [if_pos d] at H
       obtain ⟨hx, hf⟩ := Kd.R_celln 0 HO.out i d c
       replace hx : wr.cell? ⟨g, i.toNat, none⟩ = some (.int .i64 (rd out i)) := hx
       by_cases e : rd out i ≥ 0
       ·rw [if_pos e] at H
        have e0 : decide (0 ≤ rd out i) = true := decide_eq_true e
        have H' := Aside0.mk H
        replace c := eq_true c
        replace d := eq_true d
        clear H e
        go_wp2
        go_roundg k1
        case measure => have := HK1.out; omega
        case rel => exact ⟨out, wrap64 (i + 1), rfl, H', ⟨by have := HK1.out; omega⟩, HM, HO, HB⟩
       ·rw [if_neg e] at H
        have e0 : decide (0 ≤ rd out i) = false := decide_eq_false e
        have H' := Aside0.mk H
        have HP3 := Kd.R_putg HO.out i i
        replace c := eq_true c
        replace d := eq_true d
        clear H e
        have HMc := HM
        have HOc := HO
        have HBc := HB
        go_wp2_with (first | ((with_reducible refine gate_store (t := 2) (p := 47) rfl ?_); refine store_event (t := 2) (p := 47) (v := ?vo_47) (w1 := (wr.setCell ⟨g, (i : Int).toNat, none⟩ (.int .i64 i))) ?hg ?ho ?hn ?hr ?_; (case ho => rfl); (case hg => rfl); (case hn => rfl); (case hr => first | (go_simp; done) | (go_simp; rfl)); intro w4 hw; have hg4 : World.grownBy _ w4 (some g) := (by rw [hw]; exact HP3.2); have nM := a0_ (HMc.out.cellTurn (Kd.R_typed HOc.out g rfl |>.elim fun c hc => ⟨c, _, _, hc⟩) hg4); have nO := a0_ (by rw [hw]; exact HP3.1 : Kd.R (Kd.int .i64) 2 w4 w.heap.size (fun _ => True) (.slice (some ⟨g, 0, none⟩) l0.length cap) (out.set i.toNat i)); have nB := a0_ (by rw [hw]; exact below_set HBc.out GB.out : Below w.heap.size w w4); clear hw HP3; clear hg4) | ((with_reducible refine gate_dst (N := 49) rfl ?_); refine Kd.R_lit (Kd.int .i64) _ 3 ?hg (N := 49) ?hd (xs := ([i] : List Int)) (inner := [.int .i64 i]) (ok := fun _ => True) (okp := fun _ => True) ?hr ?hp (fun _ hk => hk) trivial (Below.refl _ _) (Nat.le_refl _) (by simp) ?_; (case hd => rfl); (case hg => rfl); (case hr => first | (go_simp; done) | (go_simp; rfl)); (case hp => exact (Reps.one (show Kd.M (Kd.int .i64) _ _ _ i [.int .i64 i] from rfl) (Reps.none _ _))); intro vl w5 ho5 hb5 hg5 hn5; have HM5 := a0_ (nM.out.below' hb5); have HO5 := a0_ (Kd.R_below nO.out hb5); have HL5 := a0_ (Kd.R_lower ho5 (below_size nB.out)); have HB5 := a0_ (below_step nB.out hb5); clear ho5 hb5 hg5 hn5))
        clear HMc HOc HBc nM nO nB HM HO HB hx hf c0 c d e0
        go_loopg [10, 11] k1 (fun kq v10 v11 w' => ∃ (out list : List Int) (t : Int), v11 = .int .i64 t ∧ Aside0 (impl_parts.l2 NF kq l0 out i list t = some r) ∧ Aside0 (kq ≤ k1) ∧ Aside0 (MapF Tryz.prog 46 enc2 w' w.heap.size l0.length (placeF l0 l0.length)) ∧ Aside0 (Kd.R (Kd.int .i64) 2 w' w.heap.size (fun _ => True) (.slice (some ⟨g, 0, none⟩) l0.length cap) out) ∧ Aside0 (Kd.R (Kd.int .i64) 3 w' w.heap.size (fun _ => True) v10 list) ∧ Aside0 (Below w.heap.size w w'))
        case atStart => exact ⟨_, _, 0, rfl, H', ⟨Nat.le_refl _⟩, HM5, HO5, HL5, HB5⟩
        case round =>
         clear H' HM5 HO5 HL5 HB5
         obtain ⟨out, list, t, rfl, HA, HK2, HM, HO, HQ, HB⟩ := hrel
         cases gk with
         | zero => exact absurd HA.out (by simp [impl_parts.l2])
         | succ k2 =>
          have H := HA.out
          clear HA
          simp only [impl_parts.l2] at H
          obtain ⟨Al, cl, el⟩ := Kd.R_slice HQ.out
          subst el
          by_cases c : t < (list.length : Int)
          ·rw [if_pos c] at H
           have c0 : decide (t < (list.length : Int)) = true := decide_eq_true c
           by_cases d : (0 ≤ t ∧ 0 ≤ rd list t) ∧ rd list t < (l0.length : Int)
           ·rw [if_pos d] at H
            obtain ⟨⟨d0, d1⟩, d2⟩ := d
            obtain ⟨ds, hA, H⟩ := Option.bind_eq_some_iff.1 H
            have A' := Aside0.mk hA
            have H' := Aside0.mk H
            clear H hA
            obtain ⟨adl, e1, hxl⟩ := Kd.at_int (Kd.R_reads' HQ.out).2.2 t d0 c
            cases e1
            obtain ⟨ad, e2, hx0, hx1⟩ := at_T46 HR0.out (rd list t) d1 d2
            cases e2
            replace hx0 := (HB.out.cell (World.block_lt_of_cell? w _ hx0)).trans hx0
            replace hx1 := (HB.out.cell (World.block_lt_of_cell? w _ hx1)).trans hx1
            replace c := eq_true c
            replace d0 := eq_true d0
            replace d1 := eq_true d1
            replace d2 := eq_true d2
            go_wp2_with (first | (go_at_fn gn; refine (HNP.out.calls (rd_T46 l0 (rd list t)) _).mono ?_; rintro e w5 ⟨vd, rfl, hod, hb5⟩; rw [Option.some.inj A'.out] at hod; obtain ⟨Ad, cd, ed⟩ := Kd.R_slice hod; subst ed; have HD5 := a0_ (Kd.R_lower hod (below_size HB.out)); have HM5 := a0_ (HM.out.below' hb5); have HO5 := a0_ (Kd.R_below HO.out hb5); have HQ5 := a0_ (Kd.R_below HQ.out hb5); have HB5 := a0_ (below_step HB.out hb5); clear hod hb5))
            clear HM HO HQ HB hx0 hx1 hxl c c0 d0 d1 d2
            go_loopg [10, 66] k2 (fun kq v10 v66 w' => ∃ (out list : List Int) (j : Int), v66 = .int .i64 j ∧ Aside0 (impl_parts.l3 NF kq l0 out i list t ds j = some r) ∧ Aside0 (kq ≤ k2) ∧ Aside0 (MapF Tryz.prog 46 enc2 w' w.heap.size l0.length (placeF l0 l0.length)) ∧ Aside0 (Kd.R (Kd.int .i64) 2 w' w.heap.size (fun _ => True) (.slice (some ⟨g, 0, none⟩) l0.length cap) out) ∧ Aside0 (Kd.R (Kd.int .i64) 3 w' w.heap.size (fun _ => True) v10 list) ∧ Aside0 (Kd.R k46 46 w' w.heap.size (fun _ => True) (.slice Ad ds.length cd) ds) ∧ Aside0 (Below w.heap.size w w'))
            case atStart => exact ⟨_, _, 0, rfl, H', ⟨Nat.le_refl _⟩, HM5, HO5, HQ5, HD5, HB5⟩
            case round =>
             clear H' HM5 HO5 HQ5 HD5 HB5 A'
             obtain ⟨out, list, j, rfl, HA, HK3, HM, HO, HQ, HD, HB⟩ := hrel
             cases gk with
             | zero => exact absurd HA.out (by simp [impl_parts.l3])
             | succ k3 =>
              have H := HA.out
              clear HA
              simp only [impl_parts.l3] at H
              by_cases c : j < (ds.length : Int)
              ·rw [if_pos c] at H
               have c0 : decide (j < (ds.length : Int)) = true := decide_eq_true c
               by_cases d : 0 ≤ j ∧ okc (rd_T46 ds j)
               ·rw [if_pos d] at H
                obtain ⟨d0, d1⟩ := d
                have KC := Aside0.mk d1
                clear d1
                obtain ⟨ad, e2, hx0, hx1⟩ := at_T46 (Kd.R_reads' HD.out).2.2 j d0 c
                cases e2
                replace c := eq_true c
                replace d0 := eq_true d0
                cases hq : atCell l0 l0.length (cellKey (rd_T46 ds j)) with
                | none =>
                 rw [hq] at H
                 have H' := Aside0.mk H
                 clear H
                 go_wp2_with (first | (at_lookup; refine wpList_lookF rfl _ _ 108 rfl 46 3 cellLaid Tryz.underlying108 (mapZ _) enc2 w.heap.size l0.length (placeF l0 l0.length) rfl (HM.out.alloc _) (cellKey (rd_T46 ds j)) rfl (cellKeyed _ KC.out) none (by unfold placeF; rw [hq]; rfl) (.int .i64 0) false rfl rfl ?_))
                 go_roundg k3
                 case measure => have := HK1.out; have := HK2.out; have := HK3.out; omega
                 case rel => exact ⟨out, list, wrap64 (j + 1), rfl, H', ⟨by have := HK3.out; omega⟩, HM.out.alloc _ |> Aside0.mk, ⟨Kd.R_alloc HO.out _⟩, ⟨Kd.R_alloc HQ.out _⟩, ⟨Kd.R_alloc HD.out _⟩, ⟨below_alloc HB.out _⟩⟩
                | some q =>
                 rw [hq] at H
                 simp only at H
                 by_cases e : 0 ≤ q ∧ q < (l0.length : Int)
                 ·rw [if_pos e] at H
                  obtain ⟨e0, e1⟩ := e
                  obtain ⟨hy, hf⟩ := Kd.R_celln 0 (Kd.R_alloc HO.out (.cells #[.int .i64 (rd_T46 ds j).f0, .int .i64 (rd_T46 ds j).f1] 46)) q e0 e1
                  replace hy : World.cell? _ ⟨g, q.toNat, none⟩ = some (.int .i64 (rd out q)) := hy
                  have HP3 := Kd.R_putg (Kd.R_alloc HO.out (.cells #[.int .i64 (rd_T46 ds j).f0, .int .i64 (rd_T46 ds j).f1] 46)) q i
                  have e0b := decide_eq_true e0
                  have e1b := decide_eq_true e1
                  replace e0 := eq_true e0
                  replace e1 := eq_true e1
                  by_cases f : rd out q < 0
                  ·rw [if_pos f] at H
                   have f0 : decide (rd out q < 0) = true := decide_eq_true f
                   by_cases b : list.length < 17592186044416
                   ·rw [if_pos b] at H
                    have H' := Aside0.mk H
                    have LB := Aside0.mk b
                    clear H b
                    have HMc := a0_ (HM.out.alloc (.cells #[.int .i64 (rd_T46 ds j).f0, .int .i64 (rd_T46 ds j).f1] 46))
                    have HOc := a0_ (Kd.R_alloc HO.out (.cells #[.int .i64 (rd_T46 ds j).f0, .int .i64 (rd_T46 ds j).f1] 46))
                    have HBc := a0_ (below_alloc HB.out (.cells #[.int .i64 (rd_T46 ds j).f0, .int .i64 (rd_T46 ds j).f1] 46))
                    have HQc := a0_ (Kd.R_alloc HQ.out (.cells #[.int .i64 (rd_T46 ds j).f0, .int .i64 (rd_T46 ds j).f1] 46))
                    have HDc := a0_ (Kd.R_alloc HD.out (.cells #[.int .i64 (rd_T46 ds j).f0, .int .i64 (rd_T46 ds j).f1] 46))
                    go_wp2_with (first | (at_lookup; refine wpList_lookF rfl _ _ 108 rfl 46 3 cellLaid Tryz.underlying108 (mapZ _) enc2 w.heap.size l0.length (placeF l0 l0.length) rfl (HM.out.alloc _) (cellKey (rd_T46 ds j)) rfl (cellKeyed _ KC.out) (some (.int .i64 q)) (by unfold placeF; rw [hq]; rfl) (.int .i64 q) true rfl rfl ?_) | ((with_reducible refine gate_store (t := 2) (p := 87) rfl ?_); refine store_event (t := 2) (p := 87) (v := ?vo_87) (w1 := ((wr.alloc (.cells #[.int .i64 (rd_T46 ds j).f0, .int .i64 (rd_T46 ds j).f1] 46)).setCell ⟨g, (q : Int).toNat, none⟩ (.int .i64 i))) ?hg ?ho ?hn ?hr ?_; (case ho => rfl); (case hg => rfl); (case hn => rfl); (case hr => first | (go_simp; done) | (go_simp; rfl)); intro w6 hw; have hg4 : World.grownBy _ w6 (some g) := (by rw [hw]; exact HP3.2); have nM := a0_ (HMc.out.cellTurn (Kd.R_typed HOc.out g rfl |>.elim fun c hc => ⟨c, _, _, hc⟩) hg4); have nO := a0_ (by rw [hw]; exact HP3.1 : Kd.R (Kd.int .i64) 2 w6 w.heap.size (fun _ => True) (.slice (some ⟨g, 0, none⟩) l0.length cap) (out.set q.toNat i)); have nB := a0_ (by rw [hw]; exact below_set HBc.out GB.out : Below w.heap.size w w6); have nQ := a0_ (Kd.R_over' (v := (.slice (some ⟨g, 0, none⟩) l0.length cap)) HQc.out (Kd.R_typed HOc.out) (by decide) hg4); have nD := a0_ (Kd.R_over' (v := (.slice (some ⟨g, 0, none⟩) l0.length cap)) HDc.out (Kd.R_typed HOc.out) (by decide) hg4); clear hw HP3; clear hg4) | ((with_reducible refine gate_builtin (b := .append) (xs := #[.tmp 88, .tmp 90]) rfl ?_); at_builtin; refine Kd.R_append (Kd.int .i64) (w0 := w) w.heap.size rfl (.tmp 88) (.tmp 90) 109 3 (.int .i64 0) 8 rfl Tryz.underlying109 info8i rfl (by decide) (by omega) u10 list q [.int .i64 q] (fun _ => True) (fun _ => False) rfl (by first | (go_simp; done) | (go_simp; rfl)) ?aP (fun _ hk => hk.elim) ?aF ?aO ?aB ?aS ?aL ?_; (case aP => exact rfl); (case aB => exact nB.out); (case aF => exact (fun _ _ => trivial)); (case aO => exact nQ.out); (case aS => exact below_size nB.out); (case aL => have := LB.out; omega); intro v7 w7 ho hb hg hat; have HM7 := a0_ (nM.out.rowTurn nQ.out hg); have HO7 := a0_ (Kd.R_over' nO.out (Kd.R_typed nQ.out) (by decide) hg); have HD7 := a0_ (Kd.R_over' nD.out (Kd.R_typed nQ.out) (by decide) hg); have HQ7 := Aside0.mk ho; have HB7 := Aside0.mk hb; clear ho hb hg hat))
                    go_roundg k3
                    case measure => have := HK1.out; have := HK2.out; have := HK3.out; omega
                    case rel => exact ⟨_, _, wrap64 (j + 1), rfl, H', ⟨by have := HK3.out; omega⟩, HM7, HO7, HQ7, HD7, HB7⟩
                   ·rw [if_neg b] at H
                    exact absurd H (by simp)
                  ·rw [if_neg f] at H
                   have f0 : decide (rd out q < 0) = false := decide_eq_false f
                   have H' := Aside0.mk H
                   clear H HP3
                   go_wp2_with (first | (at_lookup; refine wpList_lookF rfl _ _ 108 rfl 46 3 cellLaid Tryz.underlying108 (mapZ _) enc2 w.heap.size l0.length (placeF l0 l0.length) rfl (HM.out.alloc _) (cellKey (rd_T46 ds j)) rfl (cellKeyed _ KC.out) (some (.int .i64 q)) (by unfold placeF; rw [hq]; rfl) (.int .i64 q) true rfl rfl ?_))
                   go_roundg k3
                   case measure => have := HK1.out; have := HK2.out; have := HK3.out; omega
                   case rel => exact ⟨out, list, wrap64 (j + 1), rfl, H', ⟨by have := HK3.out; omega⟩, HM.out.alloc _ |> Aside0.mk, ⟨Kd.R_alloc HO.out _⟩, ⟨Kd.R_alloc HQ.out _⟩, ⟨Kd.R_alloc HD.out _⟩, ⟨below_alloc HB.out _⟩⟩
                 ·rw [if_neg e] at H
                  exact absurd H (by simp)
               ·rw [if_neg d] at H
                exact absurd H (by simp)
              ·rw [if_neg c] at H
               have c0 : decide (j < (ds.length : Int)) = false := decide_eq_false c
               have H' := Aside0.mk H
               clear H c
               go_wp2
               go_roundg k3
               case measure => have := HK1.out; have := HK2.out; have := HK3.out; omega
               case rel => exact ⟨out, list, wrap64 (t + 1), rfl, H', ⟨by have := HK2.out; have := HK3.out; omega⟩, HM, HO, HQ, HB⟩
           ·rw [if_neg d] at H
            exact absurd H (by simp)
          ·rw [if_neg c] at H
           have c0 : decide (t < (list.length : Int)) = false := decide_eq_false c
           have H' := Aside0.mk H
           clear H c
           go_wp2
           go_roundg k2
           case measure => have := HK1.out; have := HK2.out; omega
           case rel => exact ⟨out, wrap64 (i + 1), rfl, H', ⟨by have := HK1.out; have := HK2.out; omega⟩, HM, HO, HB⟩
      ·rw [if_neg d] at H
       exact absurd H (by simp)
     ·rw [if_neg c] at H
      have c0 : decide (i < (l0.length : Int)) = false := decide_eq_false c
      obtain rfl := Option.some.inj H
      clear H c
      go_wp2
      go_ret
      exact ⟨_, rfl, HO.out, HB.out⟩
theorem impl_parts.mono_l (NF : S46 → List S46) : ∀ k, (∀ l out i, LeO (impl_parts.l1 NF k l out i) (impl_parts.l1 NF (k + 1) l out i)) ∧ (∀ l out i list t, LeO (impl_parts.l2 NF k l out i list t) (impl_parts.l2 NF (k + 1) l out i list t)) ∧ (∀ l out i list t ds j, LeO (impl_parts.l3 NF k l out i list t ds j) (impl_parts.l3 NF (k + 1) l out i list t ds j))
 | 0 => ⟨fun _ _ _ r h => by simp [impl_parts.l1] at h, fun _ _ _ _ _ r h => by simp [impl_parts.l2] at h, fun _ _ _ _ _ _ _ r h => by simp [impl_parts.l3] at h⟩
 | k + 1 => by
  obtain ⟨i1, i2, i3⟩ := impl_parts.mono_l NF k
  refine ⟨fun l out i => ?_, fun l out i list t => ?_, fun l out i list t ds j => ?_⟩
  ·unfold impl_parts.l1
   exact LeO.ite (LeO.ite (LeO.ite (i1 _ _ _) (i2 _ _ _ _ _)) (LeO.none _)) (LeO.refl _)
  ·unfold impl_parts.l2
   exact LeO.ite (LeO.ite (LeO.bind (LeO.refl _) (fun ds => i3 _ _ _ _ _ _ _)) (LeO.none _)) (i1 _ _ _)
  ·unfold impl_parts.l3
   refine LeO.ite (LeO.ite ?_ (LeO.none _)) (i2 _ _ _ _ _)
   cases atCell l l.length (cellKey (rd_T46 ds j)) with
   | none => exact i3 _ _ _ _ _ _ _
   | some q => exact LeO.ite (LeO.ite (LeO.ite (i3 _ _ _ _ _ _ _) (LeO.none _)) (i3 _ _ _ _ _ _ _)) (LeO.none _)


/-! ### impl_connected: function 48 -/
/-! Whether the cells hang together. -/
def impl_connected.f (NF : S46 → List S46) (k : Nat) (l : List S46) : Option Bool := (impl_parts.f NF k l).bind fun o => (slices_Max_int64_int64.f k o).bind fun m => if m = 0 then some true else some false
theorem impl_connected.mono (NF : S46 → List S46) (l0 : List S46) (k : Nat) : LeO (impl_connected.f NF k l0) (impl_connected.f NF (k + 1) l0) := by
 unfold impl_connected.f
 refine LeO.bind ?_ (fun o => LeO.bind (slices_Max_int64_int64.mono o k) (fun m => LeO.refl _))
 unfold impl_parts.f
 exact LeO.ite ((impl_parts.mono_l NF k).1 _ _ _) (LeO.refl _)
set_option maxHeartbeats 1000000 in
theorem impl_connected.calls (gn : Nat) (NF : S46 → List S46) (hN : NearP gn NF) (k : Nat) (A0 : Option Addr) (c0 : Nat) (l0 : List S46) (r : Bool) (w : World) (hr0 : Kd.C k46 w A0 l0.length l0) (hc0 : l0.length ≤ c0) (h : impl_connected.f NF k l0 = some r) :
  Calls Tryz.prog 48 #[.slice A0 l0.length c0, .func (.func gn) #[] #[]] w fun e w' => e = .returned (.bool r) ∧ Below w.heap.size w w' := by
 unfold impl_connected.f at h
 obtain ⟨o, ho, h⟩ := Option.bind_eq_some_iff.1 h
 obtain ⟨m, hm, h⟩ := Option.bind_eq_some_iff.1 h
 have HP := a0_ (impl_parts.calls gn NF hN k A0 c0 l0 o w hr0 hc0 ho)
 have HM := Aside0.mk hm
 clear ho hm hr0 hc0 hN
 have hd : (m == 0) = r := by
  by_cases c : m = 0
  ·rw [if_pos c] at h
   rw [← Option.some.inj h]
   simp [c]
  ·rw [if_neg c] at h
   rw [← Option.some.inj h]
   simp [c]
 clear h
 go_enter Tryz.func48, Tryz.ntmps48
 go_wp2_with (first | (go_at_call 92; refine HP.out.mono ?_; rintro e w1 ⟨v, rfl, ho, hb⟩; obtain ⟨Ao, co, eo⟩ := Kd.R_slice ho; subst eo; have HO := Aside0.mk ho; have HB := Aside0.mk hb; clear ho hb) | (go_at_call 91; refine (slices_Max_int64_int64.calls k _ _ o m _ (Kd.R_reads' HO.out).2.2 (Kd.R_reads' HO.out).2.1 HM.out).mono ?_; rintro e w2 ⟨rfl, hb2⟩; have HB2 := a0_ (below_step HB.out hb2); clear hb2))
 go_ret
 exact ⟨by rw [← hd]; rfl, HB2.out⟩


/-! ### impl_IsTriangleShape: function 15 -/
/-! Whether a shape is one of triangles, and hangs together. -/
theorem nearT_P : NearP 49 nearT := ⟨nearT_ok.eg, nearT_ok.calls⟩
def impl_IsTriangleShape.f (k : Nat) (l0 : List S46) : Option (Bool × Bool) := (impl_isTriangleShape.f k l0).bind fun t => if t = true then (impl_connected.f nearT k l0).bind fun c => some (true, c) else some (false, false)
theorem impl_IsTriangleShape.mono : ∀ l0 k, LeO (impl_IsTriangleShape.f k l0) (impl_IsTriangleShape.f (k + 1) l0) := by
 intro l0 k
 unfold impl_IsTriangleShape.f
 exact LeO.bind (impl_isTriangleShape.mono l0 k) (fun t => LeO.ite (LeO.bind (impl_connected.mono nearT l0 k) (fun _ => LeO.refl _)) (LeO.refl _))
set_option maxHeartbeats 1000000 in
theorem impl_IsTriangleShape.calls (k : Nat) (A0 : Option Addr) (c0 : Nat) (l0 : List S46) (r1 r2 : Bool) (w : World) (hr0 : Kd.C k46 w A0 l0.length l0) (hc0 : l0.length ≤ c0) (h : impl_IsTriangleShape.f k l0 = some (r1, r2)) :
  Calls Tryz.prog 15 #[.slice A0 l0.length c0] w fun e w' => e = .returned (.tuple #[.bool r1, .bool r2]) ∧ Below w.heap.size w w' := by
 unfold impl_IsTriangleShape.f at h
 obtain ⟨t, ht, h⟩ := Option.bind_eq_some_iff.1 h
 have HS := a0_ (impl_isTriangleShape.calls k A0 c0 l0 t w hr0 hc0 ht)
 have HR := Aside0.mk hr0
 have HC := Aside0.mk hc0
 cases t with
 | false =>
  rw [if_neg (by simp)] at h
  have e := Option.some.inj h
  injection e with e1 e2
  subst e1 e2
  clear ht hr0 hc0 h
  go_enter Tryz.func15, Tryz.ntmps15
  go_wp2_with (go_at_call 46; refine HS.out.mono ?_; rintro e w1 ⟨rfl, hb⟩; have HB := Aside0.mk hb; clear hb)
  go_ret2
  exact ⟨rfl, HB.out⟩
 | true =>
  rw [if_pos rfl] at h
  obtain ⟨c, hc, h2⟩ := Option.bind_eq_some_iff.1 h
  have e := Option.some.inj h2
  injection e with e1 e2
  subst e1 e2
  have H2 := Aside0.mk hc
  clear ht hr0 hc0 h hc h2
  go_enter Tryz.func15, Tryz.ntmps15
  go_wp2_with (first | (go_at_call 46; refine HS.out.mono ?_; rintro e w1 ⟨rfl, hb⟩; have HB := Aside0.mk hb; clear hb) | (go_at_call 48; refine (impl_connected.calls 49 nearT nearT_P k _ _ l0 _ _ (Kd.C_below HR.out HB.out) HC.out H2.out).mono ?_; rintro e w2 ⟨rfl, hb2⟩; have HB2 := a0_ (below_step HB.out hb2); clear hb2))
  go_ret2
  exact ⟨rfl, HB2.out⟩


end Go.Proofs.YtmdjkmfocgelnaaGreat.PFnTriangleShapes
