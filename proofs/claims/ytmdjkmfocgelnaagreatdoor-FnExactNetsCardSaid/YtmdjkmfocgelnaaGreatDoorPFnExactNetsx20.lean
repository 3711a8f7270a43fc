/- Over the kit's printer by a driver of mine (hprint.py), with parts by hand: functions of the program as Lean functions, and that each call comes to exactly these answers. -/
import Derived.Test.YtmdjkmfocgelnaaGreatDoorPFnExactNetsx0
import Derived.Test.YtmdjkmfocgelnaaGreatDoorPFnExactNetsx15
import Derived.Test.YtmdjkmfocgelnaaGreatDoorPFnExactNetsx17
import Derived.Test.YtmdjkmfocgelnaaGreatDoorPFnExactNetsx19
namespace Go.Proofs.YtmdjkmfocgelnaaGreatDoor.PFnExactNets
open Go.RowKit Go.Proofs.YtmdjkmfocgelnaaGreatDoorW.PrintWords Go.Proofs.YtmdjkmfocgelnaaGreatDoorW.PrintLast Go.Proofs.YtmdjkmfocgelnaaGreatDoorW.PrintMore
attribute [local go_sem] max2_int min2_int max_two min_two max_three min_three max_four min_four   -- for this text's walks alone
set_option linter.unusedVariables false
set_option linter.unusedSimpArgs false

/-! ### impl_Nets: function 6 -/
/-! slices.DeleteFunc over a row of rows of the call's own. -/
theorem filt_take {α : Type} (b : α → Bool) (cs : List α) (j : Nat) (hj : j < cs.length) : (cs.take (j + 1)).filter b = (cs.take j).filter b ++ (if b cs[j] = true then [cs[j]] else []) := by
 rw [List.take_succ_eq_append_getElem hj, List.filter_append]
 cases h : b cs[j] <;> simp [h]
theorem filt_len {α : Type} (b : α → Bool) (cs : List α) (j : Nat) : ((cs.take j).filter b).length ≤ j := Nat.le_trans (List.length_filter_le _ _) (by rw [List.length_take]; omega)
def keepB (p : List S56 → Bool) (q : Value × List S56) : Bool := !p q.2
set_option maxHeartbeats 4000000 in
set_option maxRecDepth 100000 in
theorem indexFirst_calls (gn : Nat) (eg : ∀ args w, (callFunc gn args).run Tryz.prog w = .ok (.enter gn args) w) (p : List S56 → Bool) (w : World) (base : Nat) (ok : Nat → Prop) (g cap : Nat) (cs : List (Value × List S56)) (tail : List Value) (hR : RoR k56 56 29 base ok w g cs tail) (hm : cs.length ≤ 4611686018427387904)
  (S : World → Prop) (hS : ∀ W, ButB g w W → S W) (hp : ∀ j (hj : j < cs.length) A c (W : World), S W → Kd.C k56 W A cs[j].2.length cs[j].2 → cs[j].2.length ≤ c → Calls Tryz.prog gn #[.slice A cs[j].2.length c] W fun e w' => e = .returned (.bool (p cs[j].2)) ∧ Below W.heap.size W w') :
  Calls Tryz.prog 40 #[.slice (some ⟨g, 0, none⟩) cs.length cap, .func (.func gn) #[] #[]] w fun e w' => ((e = .returned (.int .i64 (-1)) ∧ ∀ j (hj : j < cs.length), p cs[j].2 = false) ∨ ∃ i : Nat, ∃ hi : i < cs.length, e = .returned (.int .i64 i) ∧ p cs[i].2 = true ∧ ∀ j (hj : j < i), p (cs[j]'(by omega)).2 = false) ∧ Below w.heap.size w w' := by
 have HR := Aside0.mk hR
 have HP := Aside0.mk hp
 have HM := Aside0.mk hm
 have hel : ∀ j (hj : j < cs.length), ∃ A c, cs[j].1 = .slice A cs[j].2.length c ∧ cs[j].2.length ≤ c ∧ ∀ w' : World, (∀ k, k < w.heap.size → k ≠ g → w'.heap[k]? = w.heap[k]?) → Kd.C k56 w' A cs[j].2.length cs[j].2 := fun j hj => elem_of (hR.el _ (List.getElem_mem hj))
 have HE := Aside0.mk hel
 clear hR hp hm hel
 go_enter Tryz.func40, Tryz.ntmps40
 go_wp2
 go_loopg [5, 8] cs.length (fun kq _ v8 w' => ∃ k : Nat, v8 = .int .i64 k ∧ Aside0 (kq + k = cs.length) ∧ Aside0 (∀ j (hj : j < cs.length), j < k → p cs[j].2 = false) ∧ Aside0 (Below w.heap.size w w'))
 case atStart => exact ⟨0, rfl, ⟨by omega⟩, ⟨fun j _ h => absurd h (Nat.not_lt_zero _)⟩, ⟨Below.refl _ _⟩⟩
 case round =>
  obtain ⟨k, rfl, HK, HA, HB⟩ := hrel
  by_cases hk : k < cs.length
  ·have d0 : decide ((k : Int) < (cs.length : Int)) = true := decide_eq_true (by omega)
   have d1 : decide (k < cs.length) = true := decide_eq_true hk
   have q0 : (0 ≤ (k : Int)) = True := eq_true (by omega)
   have q1 : ((k : Int) < (cs.length : Int)) = True := eq_true (by omega)
   have q2 : (k < cs.length) = True := eq_true hk
   have hbk := blk_below HR.out.blk HB.out
   have x0 : wr.cell? ⟨g, k, none⟩ = some cs[k].1 := by
    rw [blk_cell hbk, List.getElem?_toArray, List.getElem?_append_left (by simpa using hk), List.getElem?_map, List.getElem?_eq_getElem hk]
    rfl
   obtain ⟨A0, c0, e0, l0, r0⟩ := HE.out k hk
   rw [e0] at x0
   have hcall := HP.out k hk A0 c0 wr (hS wr ((ButB.refl g w).below HB.out)) (r0 wr (fun q hq _ => HB.out.block q hq)) l0
   have HKN := Aside0.mk hk
   have HW := a0_ (show wrap64 ((k : Int) + 1) = ((k + 1 : Nat) : Int) by have := HM.out; unfold wrap64; omega)
   cases hz : p cs[k].2 with
   | true =>
    rw [hz] at hcall
    have HZ := Aside0.mk hz
    generalize cs[k].2.length = np at x0 hcall
    clear hz r0 l0 e0 hbk
    go_wp2_with (go_at_fn gn; (refine hcall.mono ?_; rintro e w1 ⟨rfl, hb⟩; have HB1 := a0_ (below_step HB.out hb); clear hb hcall))
    go_ret
    exact ⟨.inr ⟨k, HKN.out, rfl, HZ.out, fun j hj => HA.out j (by have := HKN.out; omega) hj⟩, HB1.out⟩
   | false =>
    rw [hz] at hcall
    have HZ := Aside0.mk hz
    generalize cs[k].2.length = np at x0 hcall
    clear hz r0 l0 e0 hbk
    go_wp2_with (go_at_fn gn; (refine hcall.mono ?_; rintro e w1 ⟨rfl, hb⟩; have HB1 := a0_ (below_step HB.out hb); clear hb hcall))
    go_roundg (cs.length - (k + 1))
    case measure => (have := HK.out; have := HKN.out; omega)
    case rel =>
     refine ⟨k + 1, congrArg (Value.int .i64) HW.out, ⟨by have := HKN.out; omega⟩, ⟨fun j hj hjk => ?_⟩, HB1⟩
     by_cases e : j = k
     ·subst e; exact HZ.out
     ·exact HA.out j hj (by omega)
  ·have d0 : decide ((k : Int) < (cs.length : Int)) = false := decide_eq_false (by omega)
   have d1 : decide (k < cs.length) = false := decide_eq_false hk
   have HKN := Aside0.mk hk
   clear hk
   go_wp2
   go_ret
   exact ⟨.inl ⟨rfl, fun j hj => HA.out j hj (by have := HKN.out; omega)⟩, HB.out⟩
theorem first_or (P : Nat → Prop) : ∀ n : Nat, (∀ j, j < n → ¬ P j) ∨ ∃ i, i < n ∧ P i ∧ ∀ j, j < i → ¬ P j
 | 0 => .inl (fun j hj => absurd hj (Nat.not_lt_zero _))
 | n + 1 => by
  rcases first_or P n with h | ⟨i, h1, h2, h3⟩
  ·by_cases c : P n
   ·exact .inr ⟨n, Nat.lt_succ_self _, c, h⟩
   ·refine .inl (fun j hj => ?_)
    by_cases e : j = n
    ·subst e; exact c
    ·exact h j (by omega)
  ·exact .inr ⟨i, by omega, h2, h3⟩
set_option maxHeartbeats 4000000 in
set_option maxRecDepth 100000 in
theorem deleteS_calls (gn : Nat) (eg : ∀ args w, (callFunc gn args).run Tryz.prog w = .ok (.enter gn args) w) (p : List S56 → Bool) (w : World) (base : Nat) (ok : Nat → Prop) (g cap : Nat) (cs : List (Value × List S56)) (tail : List Value) (hR : RoR k56 56 29 base ok w g cs tail) (hc : cs.length + tail.length = cap) (hm : cap ≤ maxLen) (hl : cs.length ≤ 4611686018427387904)
  (S : World → Prop) (hS : ∀ W, ButB g w W → S W) (hp : ∀ j (hj : j < cs.length) A c (W : World), S W → Kd.C k56 W A cs[j].2.length cs[j].2 → cs[j].2.length ≤ c → Calls Tryz.prog gn #[.slice A cs[j].2.length c] W fun e w' => e = .returned (.bool (p cs[j].2)) ∧ Below W.heap.size W w') :
  Calls Tryz.prog 21 #[.slice (some ⟨g, 0, none⟩) cs.length cap, .func (.func gn) #[] #[]] w fun e w' => e = .returned (.slice (some ⟨g, 0, none⟩) (cs.filter (keepB p)).length cap) ∧ (∃ tail', (cs.filter (keepB p)).length + tail'.length = cap ∧ RoR k56 56 29 base ok w' g (cs.filter (keepB p)) tail') ∧ ButB g w w' := by
 have hI := indexFirst_calls gn eg p w base ok g cap cs tail hR hl S hS hp
 have HR := Aside0.mk hR
 have HP := Aside0.mk hp
 have HC := a0_ (And.intro hc (show cap ≤ 9223372036854775807 from hm))
 have hel : ∀ j (hj : j < cs.length), ∃ A c, cs[j].1 = .slice A cs[j].2.length c ∧ cs[j].2.length ≤ c ∧ ∀ w' : World, (∀ k, k < w.heap.size → k ≠ g → w'.heap[k]? = w.heap[k]?) → Kd.C k56 w' A cs[j].2.length cs[j].2 := fun j hj => elem_of (hR.el _ (List.getElem_mem hj))
 have HE := Aside0.mk hel
 have HLL := Aside0.mk hl
 clear hR hp hc hm hel hl
 rcases first_or (fun j => ∃ h : j < cs.length, p cs[j].2 = true) cs.length with hno | ⟨i0, hi0, ⟨_, ht⟩, hf⟩
 ·have hno2 : ∀ j (hj : j < cs.length), p cs[j].2 = false := fun j hj => by
   cases h : p cs[j].2 with
   | false => rfl
   | true => exact absurd ⟨hj, h⟩ (hno j hj)
  have hI2 := hI.mono (R' := fun e w' => e = .returned (.int .i64 (-1)) ∧ Below w.heap.size w w') (by
   rintro e w' ⟨h, hb⟩
   rcases h with ⟨h, _⟩ | ⟨i, hi, _, h2, _⟩
   ·exact ⟨h, hb⟩
   ·rw [hno2 i hi] at h2; cases h2)
  have HF : Aside0 (cs.filter (keepB p) = cs) := ⟨List.filter_eq_self.2 (fun q hq => by
   obtain ⟨j, hj, rfl⟩ := List.getElem_of_mem hq
   unfold keepB
   rw [hno2 j hj]; rfl)⟩
  clear hI hno hno2
  go_enter Tryz.func21, Tryz.ntmps21
  go_wp2_with (go_at_call 40; (refine hI2.mono ?_; rintro e w1 ⟨rfl, hb⟩; have HB1 := Aside0.mk hb; clear hb hI2))
  go_ret
  rw [HF.out]
  exact ⟨rfl, ⟨tail, HC.out.1, HR.out.step (fun p hp => hp) (blk_below HR.out.blk HB1.out) (fun q hq _ => HB1.out.block q hq)⟩, (ButB.refl g w).below HB1.out⟩
 ·have hff : ∀ j (hj : j < i0), p (cs[j]'(by omega)).2 = false := fun j hj => by
   cases h : p (cs[j]'(by omega)).2 with
   | false => rfl
   | true => exact absurd ⟨by omega, h⟩ (hf j hj)
  have hI2 := hI.mono (R' := fun e w' => e = .returned (.int .i64 i0) ∧ Below w.heap.size w w') (by
   rintro e w' ⟨h, hb⟩
   rcases h with ⟨_, h⟩ | ⟨i, hi, h1, h2, h3⟩
   ·rw [h i0 hi0] at ht; cases ht
   ·have : i = i0 := by
     rcases Nat.lt_trichotomy i i0 with c | c | c
     ·rw [hff i c] at h2; cases h2
     ·exact c
     ·rw [h3 i0 c] at ht; cases ht
    subst this
    exact ⟨h1, hb⟩)
  have hF0 : (cs.take i0).filter (keepB p) = cs.take i0 := List.filter_eq_self.2 (fun q hq => by
   obtain ⟨j, hj, rfl⟩ := List.getElem_of_mem hq
   rw [List.length_take] at hj
   rw [List.getElem_take]
   unfold keepB
   rw [hff j (by omega)]; rfl)
  have hF1 : (cs.take (i0 + 1)).filter (keepB p) = cs.take i0 := by
   rw [filt_take _ cs i0 hi0, hF0, if_neg (by unfold keepB; rw [ht]; simp), List.append_nil]
  have HF := Aside0.mk hF1
  have HI0 := Aside0.mk hi0
  have b0 : (((i0 : Nat) : Int) == -1) = false := beq_eq_false_iff_ne.mpr (by omega)
  have HW0 := a0_ (show wrap64 ((i0 : Int) + 1) = ((i0 + 1 : Nat) : Int) by have := HLL.out; unfold wrap64; omega)
  clear hI hf hff hF0 hF1 ht hi0
  go_enter Tryz.func21, Tryz.ntmps21
  go_wp2_with (go_at_call 40; (refine hI2.mono ?_; rintro e w1 ⟨rfl, hb⟩; have HB1 := Aside0.mk hb; clear hb hI2))
  rw [HW0.out]
  clear b0
  have R0 : Aside0 (w1.heap[g]? = some (.cells (cs.map (·.1) ++ tail).toArray 29 (0, 0))) := ⟨blk_below HR.out.blk HB1.out⟩
  have B0 : Aside0 (ButB g w w1) := ⟨(ButB.refl g w).below HB1.out⟩
  go_loopg [5, 6, 7] cs.length (fun kq v5 v6 _ w' => ∃ (i j : Nat) (X : List Value), v5 = .int .i64 i ∧ v6 = .int .i64 j ∧ Aside0 ((j ≤ cs.length ∧ cs.length ≤ kq + j) ∧ i = ((cs.take j).filter (keepB p)).length ∧ i < j) ∧ Aside0 (X.length = cs.length ∧ (∀ q, q < i → X[q]? = ((cs.take j).filter (keepB p))[q]?.map (·.1)) ∧ ∀ q, j ≤ q → X[q]? = (cs.map (·.1))[q]?) ∧ Aside0 (w'.heap[g]? = some (.cells (X ++ tail).toArray 29 (0, 0))) ∧ Aside0 (ButB g w w'))
  case atStart =>
   refine ⟨i0, i0 + 1, cs.map (·.1), rfl, rfl, ⟨⟨HI0.out, by omega⟩, ?_, by omega⟩, ⟨by simp, fun q hq => ?_, fun q _ => rfl⟩, R0, B0⟩
   ·rw [HF.out, List.length_take]; have := HI0.out; omega
   ·rw [HF.out, List.getElem?_take_of_lt hq, List.getElem?_map]
  case round =>
   clear R0 B0
   obtain ⟨i, j, X, rfl, rfl, HI, HX, HW2, HBB⟩ := hrel
   by_cases hj : j < cs.length
   ·have d0 : decide ((j : Int) < (cs.length : Int)) = true := decide_eq_true (by omega)
    have d1 : decide (j < cs.length) = true := decide_eq_true hj
    have q0 : (0 ≤ (j : Int)) = True := eq_true (by omega)
    have q1 : ((j : Int) < (cs.length : Int)) = True := eq_true (by omega)
    have q2 : (j < cs.length) = True := eq_true hj
    have hcell : ∀ q v, X[q]? = some v → ∀ W : World, W.heap[g]? = some (.cells (X ++ tail).toArray 29 (0, 0)) → W.cell? ⟨g, q, none⟩ = some v := fun q v hv W hW => by
     rw [blk_cell hW, List.getElem?_toArray, List.getElem?_append_left (List.getElem?_eq_some_iff.1 hv).1]
     exact hv
    obtain ⟨A0, c0, e0, l0, r0⟩ := HE.out j hj
    have x0 := hcell j (.slice A0 cs[j].2.length c0) (by rw [HX.out.2.2 j (Nat.le_refl _), List.getElem?_map, List.getElem?_eq_getElem hj, ← e0]; rfl) wr HW2.out
    have hcall := HP.out j hj A0 c0 wr (hS wr HBB.out) (r0 wr HBB.out.block) l0
    have HW := a0_ (show wrap64 ((j : Int) + 1) = ((j + 1 : Nat) : Int) ∧ wrap64 ((i : Int) + 1) = ((i + 1 : Nat) : Int) by have := HC.out; have := HI.out.2.2; unfold wrap64; omega)
    have hkt := filt_take (keepB p) cs j hj
    have HJ := Aside0.mk hj
    cases hz : p cs[j].2 with
    | true =>
     rw [hz] at hcall
     rw [if_neg (by unfold keepB; rw [hz]; simp), List.append_nil] at hkt
     have HKT := Aside0.mk hkt
     generalize cs[j].2.length = np at x0 hcall
     clear hz hkt r0 l0 e0 hcell
     go_wp2_with (go_at_fn gn; (refine hcall.mono ?_; rintro e w3 ⟨rfl, hb⟩; have HW3 := a0_ (blk_below HW2.out hb); have HBB3 := a0_ (HBB.out.below hb); clear hb hcall))
     go_roundg (cs.length - (j + 1))
     case measure => (have := HI.out; have := HJ.out; omega)
     case rel => exact ⟨i, j + 1, X, rfl, congrArg (Value.int .i64) HW.out.1, ⟨by have := HI.out; have := HJ.out; omega, by rw [HKT.out]; exact HI.out.2.1, by have := HI.out.2.2; omega⟩, ⟨HX.out.1, fun q hq => by rw [HKT.out]; exact HX.out.2.1 q hq, fun q hq => HX.out.2.2 q (by omega)⟩, HW3, HBB3⟩
    | false =>
     rw [hz] at hcall
     rw [if_pos (by unfold keepB; rw [hz]; rfl)] at hkt
     have HKT := Aside0.mk hkt
     have HE0 := Aside0.mk e0
     have hix : i < X.length := by have := HI.out.2.2; have := HX.out.1; omega
     obtain ⟨old, hold⟩ : ∃ old, X[i]? = some old := ⟨_, List.getElem?_eq_getElem hix⟩
     have hx2 := hcell i old hold
     have HIX := Aside0.mk hix
     have hX2 : ∀ W : World, W.heap[g]? = some (.cells (X ++ tail).toArray 29 (0, 0)) → (W.setCell ⟨g, i, none⟩ (.slice A0 cs[j].2.length c0)).heap[g]? = some (.cells (X.set i (.slice A0 cs[j].2.length c0) ++ tail).toArray 29 (0, 0)) := fun W hW => by
      refine blk_put hW i _ ?_
      apply Array.toList_inj.1
      rw [Array.toList_setIfInBounds, List.set_append_left _ _ hix]
     have HX2 := Aside0.mk hX2
     have u0 : (0 ≤ (i : Int)) = True := eq_true (by omega)
     have u1 : ((i : Int) < (cs.length : Int)) = True := eq_true (by have := HX.out.1; omega)
     have u2 : (i < cs.length) = True := eq_true (by have := HX.out.1; omega)
     have hnp : ∃ np, np = cs[j].2.length := ⟨_, rfl⟩
     obtain ⟨np, hnp⟩ := hnp
     rw [← hnp] at x0 hcall HX2 HE0
     clear hz hkt r0 l0 e0 hcell hX2 hold hnp hix
     go_wp2_with (go_at_fn gn; (refine hcall.mono ?_; rintro e w3 ⟨rfl, hb⟩; have HW3 := a0_ (blk_below HW2.out hb); have z0 := hx2 w3 HW3.out; have z1 : w3.frozen? ⟨g, i, none⟩ = false := blk_frozen HW3.out _; have HBB3 := a0_ (HBB.out.below hb); clear hb hcall))
     go_roundg (cs.length - (j + 1))
     case measure => (have := HI.out; have := HJ.out; omega)
     case rel =>
      have hle := HIX.out
      have hlen := HX.out.1
      have hi := HI.out
      have hk2 : ((cs.take (j + 1)).filter (keepB p)).length = i + 1 := by rw [HKT.out, List.length_append, ← hi.2.1]; rfl
      refine ⟨i + 1, j + 1, X.set i (.slice A0 np c0), congrArg (Value.int .i64) HW.out.2, congrArg (Value.int .i64) HW.out.1, ⟨by have := HJ.out; omega, hk2.symm, by omega⟩, ⟨by rw [List.length_set]; exact hlen, fun q hq => ?_, fun q hq => ?_⟩, ⟨HX2.out _ HW3.out⟩, ⟨HBB3.out.set _ _⟩⟩
      ·rw [HKT.out]
       by_cases e : q = i
       ·subst e
        rw [List.getElem?_set_self hle, List.getElem?_append_right (by omega), hi.2.1, Nat.sub_self, ← HE0.out]
        rfl
       ·rw [List.getElem?_set_ne (by omega), HX.out.2.1 q (by omega), List.getElem?_append_left (by omega)]
      ·rw [List.getElem?_set_ne (by omega)]
       exact HX.out.2.2 q (by omega)
   ·have hend : j = cs.length := by have := HI.out.1; omega
    subst hend
    have hlt := HI.out.2.2
    have hkl := HI.out.2.1
    rw [List.take_length] at hkl
    have hcc := HC.out
    have d0 : decide ((cs.length : Int) < (cs.length : Int)) = false := decide_eq_false (by omega)
    have d1 : decide (cs.length < cs.length) = false := decide_eq_false (by omega)
    have g0 : (0 : Int) ≤ (i : Int) := by omega
    have g1 : (i : Int) ≤ (cs.length : Int) := by omega
    have g4 : ¬ cap = i := by omega
    have g5 : i ≤ cs.length := by omega
    have g6 : i ≤ cap := by omega
    have hblk : wr.heap[g]? = some (.cells (X.take i ++ (X.drop i ++ tail)).toArray 29 (0, 0)) := by rw [← List.append_assoc, List.take_append_drop]; exact HW2.out
    have hset := setCells_blk g 29 (0, 0) (List.replicate (cs.length - i) (.slice none 0 0)) (X.take i) (X.drop i) tail wr (by rw [List.length_drop, List.length_replicate, HX.out.1]) hblk
    rw [show (X.take i).length = i by rw [List.length_take, HX.out.1]; omega] at hset
    have hkp : X.take i = (cs.filter (keepB p)).map (·.1) := by
     refine List.ext_getElem? (fun q => ?_)
     by_cases hq : q < i
     ·have := HX.out.2.1 q hq
      rw [List.take_length] at this
      rw [List.getElem?_take_of_lt hq, this, List.getElem?_map]
     ·rw [List.getElem?_eq_none (by simp; omega), List.getElem?_eq_none (by rw [List.length_map]; omega)]
    rw [hkp] at hset
    have hcl : ∀ ty, (Builtin.clear_ #[22] ty #[.slice (some ⟨g, i, none⟩) (cs.length - i) (cap - i)]).run Tryz.prog wr = .ok (.tuple #[]) (wr.setCells g i (List.replicate (cs.length - i) (.slice none 0 0))) := fun ty =>
     Lib.run_clear_slice wr _ _ ty _ Tryz.underlying22 Tryz.zeroValue29 rfl rfl g i _ _ (by omega) (fun q hq => by
      rw [blk_cell HW2.out, List.getElem?_toArray, List.getElem?_append_left (by rw [HX.out.1]; omega), List.getElem?_eq_getElem (by rw [HX.out.1]; omega)]
      rfl) (fun q hq => blk_frozen HW2.out _)
    have HSET := Aside0.mk hset
    have HSB := a0_ (setCells_but g (List.replicate (cs.length - i) (.slice none 0 0)) i wr w HBB.out)
    have HKL := Aside0.mk hkl
    have HLT := Aside0.mk hlt
    clear hset hkp hblk hkl hcc hlt hj
    go_wp2
    go_ret
    refine ⟨by rw [← HKL.out]; rfl, ⟨List.replicate (cs.length - i) (.slice none 0 0) ++ tail, ?_, HR.out.step (fun q hq => (List.mem_filter.1 hq).1) HSET.out HSB.out.block⟩, HSB.out⟩
    rw [← HKL.out, List.length_append, List.length_replicate]
    have := HC.out.1
    have := HLT.out
    omega
theorem deleteL_calls (gn : Nat) (eg : ∀ args w, (callFunc gn args).run Tryz.prog w = .ok (.enter gn args) w) (p : List S56 → Bool) (w0 w : World) (base : Nat) (hB : Below base w0 w) (hb0 : base ≤ w0.heap.size) (v : Value) (L : List (List S56)) (hR : Kd.S (Kd.slice 56 k56) 29 w base (fun _ => True) v L) (hl : L.length ≤ 1000000)
  (S : World → Prop) (hS : ∀ W, Below base w0 W → S W) (hp : ∀ s ∈ L, ∀ A c (W : World), S W → Kd.C k56 W A s.length s → s.length ≤ c → Calls Tryz.prog gn #[.slice A s.length c] W fun e w' => e = .returned (.bool (p s)) ∧ Below W.heap.size W w') :
  Calls Tryz.prog 21 #[v, .func (.func gn) #[] #[]] w fun e w' => ∃ u, e = .returned u ∧ Kd.S (Kd.slice 56 k56) 29 w' base (fun _ => True) u (L.filter (fun s => !p s)) ∧ Below base w0 w' := by
 rcases RD_of_S hR with ⟨rfl, rfl⟩ | ⟨g, cap, cs, tail, rfl, hcs, hct, hm, hrows, hd⟩
 ·have hI : ∀ W : World, Calls Tryz.prog 40 #[.slice none 0 0, .func (.func gn) #[] #[]] W fun e w' => e = .returned (.int .i64 (-1)) ∧ w' = W := fun W => by
   go_enter Tryz.func40, Tryz.ntmps40
   go_wp2
   go_loopg [8] 0 (fun _ v8 w' => v8 = .int .i64 0 ∧ Aside0 (w' = W))
   case atStart => exact ⟨rfl, ⟨rfl⟩⟩
   case round =>
    obtain ⟨rfl, HW⟩ := hrel
    go_wp2
    go_ret
    exact ⟨rfl, HW.out⟩
  have HR := Aside0.mk hR
  have HB := Aside0.mk hB
  clear hR hB hp hS
  go_enter Tryz.func21, Tryz.ntmps21
  go_wp2_with (go_at_call 40; (refine (hI _).mono ?_; rintro e w1 ⟨rfl, rfl⟩))
  go_ret
  exact ⟨_, rfl, HR.out, HB.out⟩
 ·have hlen : cs.length = L.length := by rw [← hcs, List.length_map]
  rw [← hlen]
  have hdel := deleteS_calls gn eg p w base (fun _ => True) g cap cs tail hrows (by omega) hm (by omega) S (fun W hW => hS W (hW.from_ hB hb0 hrows.ge)) (fun j hj A c W hS' hC hc => hp _ (by rw [← hcs]; exact List.mem_map.2 ⟨_, List.getElem_mem hj, rfl⟩) A c W hS' hC hc)
  refine hdel.mono ?_
  rintro e w2 ⟨rfl, ⟨tail', ht', hr2⟩, hb2⟩
  refine ⟨_, rfl, ?_, hb2.from_ hB hb0 hrows.ge⟩
  have e : (cs.filter (keepB p)).map (·.2) = L.filter (fun s => !p s) := by
   rw [← hcs, List.filter_map]
   rfl
  have hl2 : (cs.filter (keepB p)).length = (L.filter (fun s => !p s)).length := by rw [← e, List.length_map]
  rw [hl2] at ht' ⊢
  exact S_of_RD (.inr ⟨g, cap, _, tail', rfl, e, ht', hm, hr2, hd.sublist List.filter_sublist⟩)
def netB (k : Nat) (s : List S56) : Bool := (impl_IsNet.f k s).getD false
set_option maxHeartbeats 1000000 in
theorem nets1_calls (k : Nat) (s : List S56) (A : Option Addr) (c : Nat) (W : World) (hG : Laid W) (hC : Kd.C k56 W A s.length s) (hc : s.length ≤ c) (h : (impl_IsNet.f k s).isSome = true) :
  Calls Tryz.prog 23 #[.slice A s.length c] W fun e w' => e = .returned (.bool (!netB k s)) ∧ Below W.heap.size W w' := by
 obtain ⟨b, hb⟩ := Option.isSome_iff_exists.1 h
 have hcall := impl_IsNet.calls k A c s b W hC hc hb hG
 have e : netB k s = b := by unfold netB; rw [hb]; rfl
 rw [e]
 clear h hb e hC hc hG
 go_enter Tryz.func23, Tryz.ntmps23
 go_wp2_with (go_at_call 12; (refine hcall.mono ?_; rintro e w1 ⟨rfl, hb⟩; have HB := Aside0.mk hb; clear hb hcall))
 go_ret
 exact ⟨rfl, HB.out⟩
def impl_Nets.f (k : Nat) : Option (List (List S56)) := (impl_ownForms.f k 6 8).bind fun L => if L.length ≤ 1000000 ∧ ∀ s ∈ L, (impl_IsNet.f k s).isSome = true then some (L.filter (netB k)) else none
theorem impl_Nets.mono (k : Nat) : LeO (impl_Nets.f k) (impl_Nets.f (k + 1)) := by
 unfold impl_Nets.f
 refine LeO.bind (impl_ownForms.mono 6 8 k) (fun L => ?_)
 intro r h
 split at h
 case isFalse => cases h
 rename_i hc
 have hs : ∀ s ∈ L, ∃ b, impl_IsNet.f k s = some b ∧ impl_IsNet.f (k + 1) s = some b := fun s hs => by
  obtain ⟨b, hb⟩ := Option.isSome_iff_exists.1 (hc.2 s hs)
  exact ⟨b, hb, impl_IsNet.mono s k b hb⟩
 rw [if_pos ⟨hc.1, fun s h1 => by obtain ⟨b, _, h2⟩ := hs s h1; rw [h2]; rfl⟩, ← Option.some.inj h]
 congr 1
 refine List.filter_congr (fun s h1 => ?_)
 obtain ⟨b, h2, h3⟩ := hs s h1
 unfold netB
 rw [h2, h3]
set_option maxHeartbeats 4000000 in
theorem nets_S (k : Nat) (r : List (List S56)) (w : World) (h : impl_Nets.f k = some r) (hG : Laid w) :
  Calls Tryz.prog 6 #[] w fun e w' => ∃ v, e = .returned v ∧ Kd.S (Kd.slice 56 k56) 29 w' w.heap.size (fun _ => True) v r ∧ Below w.heap.size w w' := by
 obtain ⟨L, hL, h2⟩ := Option.bind_eq_some_iff.mp h
 split at h2
 case isFalse => cases h2
 rename_i hc
 obtain ⟨g2, g3⟩ := hc
 obtain rfl := Option.some.inj h2
 have hown := fun W => ownForms_S k 6 8 L W hL
 have HG := Aside0.mk hG
 have H1 := a0_ (And.intro g2 g3)
 clear h h2 hL g2 g3 hG
 go_enter Tryz.func6, Tryz.ntmps6
 go_wp2_with (first | (go_at_call 22; (refine (hown _).mono ?_; rintro e w1 ⟨v1, rfl, hr, hb⟩; have HR1 := Aside0.mk hr; have HB1 := Aside0.mk hb; clear hr hb hown)) | (go_at_call 21; (refine (deleteL_calls 23 (enters_of Tryz.func23 kr_ rfl) (fun s => !netB k s) w w1 _ HB1.out (Nat.le_refl _) v1 L HR1.out H1.out.1 Laid (fun W hW => Laid.below HG.out hW) (fun s hs A c W hl hC hc => nets1_calls k s A c W hl hC hc (H1.out.2 s hs))).mono ?_; rintro e w2 ⟨u, rfl, hr, hb⟩; have HR2 := Aside0.mk hr; have HB2 := Aside0.mk hb; clear hr hb)))
 go_ret
 refine ⟨_, rfl, ?_, HB2.out⟩
 have e : (fun s => !(fun s => !netB k s) s) = netB k := funext fun s => by simp
 have h3 := HR2.out
 rw [e] at h3
 exact h3
theorem impl_Nets.calls (k : Nat) (r : List (List S56)) (w : World) (h : impl_Nets.f k = some r) (hG : Laid w) :
  Calls Tryz.prog 6 #[] w fun e w' => ∃ v0_ : Value, e = .returned (v0_) ∧ Kd.V (Kd.slice 56 k56) 29 w' w.heap.size (fun k_ => (w.heap.size ≤ k_)) v0_ r ∧ Below w.heap.size w w' :=
 (nets_S k r w h hG).mono fun _ _ ⟨v, h1, h2, h3⟩ => ⟨v, h1, Kd.V_mono (Kd.R_V (Kd.R_bound (Kd.S_R h2))) (fun k_ hk_ => hk_.2.1), h3⟩


/-! ### laws_eqCell: function 45 -/
def laws_eqCell.f (a0_0 : Int) (a0_1 : Int) (a1_0 : Int) (a1_1 : Int) : Option (Bool) := if a0_0 = a1_0 then (if a0_1 = a1_1 then (some true) else (some false)) else (some false)
set_option maxHeartbeats 8000000 in
set_option maxRecDepth 100000 in
theorem laws_eqCell.calls (a0_0 : Int) (a0_1 : Int) (a1_0 : Int) (a1_1 : Int) (r : Bool) (w : World) (h : laws_eqCell.f a0_0 a0_1 a1_0 a1_1 = some r) :
  Calls Tryz.prog 45 #[.agg #[.int .i64 a0_0, .int .i64 a0_1], .agg #[.int .i64 a1_0, .int .i64 a1_1]] w fun e w' => e = .returned (.bool r) ∧ Below w.heap.size w w' := by
 have hu56 := Tryz.underlying56
 have HB := a0_ (Below.refl w.heap.size w)
 have H := h
 clear h
 unfold laws_eqCell.f at H
 by_cases c3 : a0_0 = a1_0
 ·rw [if_pos c3] at H
  have c3b0 : (a0_0 == a1_0) = true := beq_iff_eq.mpr c3
  have c3b1 : (a0_0 != a1_0) = false := bne_eq_false_iff_eq.mpr c3
  clear c3
  by_cases c4 : a0_1 = a1_1
  ·rw [if_pos c4] at H
   have c4b0 : (a0_1 == a1_1) = true := beq_iff_eq.mpr c4
   have c4b1 : (a0_1 != a1_1) = false := bne_eq_false_iff_eq.mpr c4
   clear c4
   obtain rfl := Option.some.inj H
   go_enter Tryz.func45, Tryz.ntmps45
   go_wp2_with (first | ((with_reducible refine gate_dst (N := 2) rfl ?_); refine bx_ (N := 2) (cs := #[.int .i64 a0_0, .int .i64 a0_1]) (t := 56) ?_; intro gb444 hg w5 hbox hb; have BK444 := a0_ (hbox); have GW444 := a0_ ((sz_ hg (bl0_) : w.heap.size ≤ gb444)); have GE444 := a0_ ((sz_ hg (bl0_) : w.heap.size ≤ gb444)); replace HB := a0_ (below_step (bl0_) hb); clear hb hbox hg) | ((with_reducible refine gate_dst (N := 3) rfl ?_); refine bx_ (N := 3) (cs := #[.int .i64 a1_0, .int .i64 a1_1]) (t := 56) ?_; intro gb445 hg w6 hbox hb; have BK445 := a0_ (hbox); have GW445 := a0_ ((sz_ hg (bl1_ GE444.out) : w.heap.size ≤ gb445)); have GE445 := a0_ ((sz_ hg (bl1_ GE444.out) : w.heap.size ≤ gb445)); replace HB := a0_ (below_step (bl1_ GE444.out) hb); have NB444_445 := a0_ ((nl_ hg BK444.out : gb444 ≠ gb445)); have NB445_444 := a0_ ((ng_ hg BK444.out : gb445 ≠ gb444)); replace BK444 := a0_ (bb_ BK444.out hb); clear hb hbox hg; have hnb7 := NB444_445.out; have hnc7 := NB445_444.out; obtain ⟨hcz8_0, hcz8_1, hfz8_0, hfz8_1⟩ := bc2_ BK444.out; obtain ⟨hcz9_0, hcz9_1, hfz9_0, hfz9_1⟩ := bc2_ BK445.out))
   go_ret
   exact ⟨er_, bl2_ GE444.out GE445.out⟩
  ·rw [if_neg c4] at H
   have c4b0 : (a0_1 == a1_1) = false := beq_eq_false_iff_ne.mpr c4
   have c4b1 : (a0_1 != a1_1) = true := bne_iff_ne.mpr c4
   obtain rfl := Option.some.inj H
   go_enter Tryz.func45, Tryz.ntmps45
   go_wp2_with (first | ((with_reducible refine gate_dst (N := 2) rfl ?_); refine bx_ (N := 2) (cs := #[.int .i64 a0_0, .int .i64 a0_1]) (t := 56) ?_; intro gb444 hg w10 hbox hb; have BK444 := a0_ (hbox); have GW444 := a0_ ((sz_ hg (bl0_) : w.heap.size ≤ gb444)); have GE444 := a0_ ((sz_ hg (bl0_) : w.heap.size ≤ gb444)); replace HB := a0_ (below_step (bl0_) hb); clear hb hbox hg) | ((with_reducible refine gate_dst (N := 3) rfl ?_); refine bx_ (N := 3) (cs := #[.int .i64 a1_0, .int .i64 a1_1]) (t := 56) ?_; intro gb445 hg w11 hbox hb; have BK445 := a0_ (hbox); have GW445 := a0_ ((sz_ hg (bl1_ GE444.out) : w.heap.size ≤ gb445)); have GE445 := a0_ ((sz_ hg (bl1_ GE444.out) : w.heap.size ≤ gb445)); replace HB := a0_ (below_step (bl1_ GE444.out) hb); have NB444_445 := a0_ ((nl_ hg BK444.out : gb444 ≠ gb445)); have NB445_444 := a0_ ((ng_ hg BK444.out : gb445 ≠ gb444)); replace BK444 := a0_ (bb_ BK444.out hb); clear hb hbox hg; have hnb12 := NB444_445.out; have hnc12 := NB445_444.out; obtain ⟨hcz13_0, hcz13_1, hfz13_0, hfz13_1⟩ := bc2_ BK444.out; obtain ⟨hcz14_0, hcz14_1, hfz14_0, hfz14_1⟩ := bc2_ BK445.out))
   go_ret
   exact ⟨er_, bl2_ GE444.out GE445.out⟩
 ·rw [if_neg c3] at H
  have c3b0 : (a0_0 == a1_0) = false := beq_eq_false_iff_ne.mpr c3
  have c3b1 : (a0_0 != a1_0) = true := bne_iff_ne.mpr c3
  obtain rfl := Option.some.inj H
  go_enter Tryz.func45, Tryz.ntmps45
  go_wp2_with (first | ((with_reducible refine gate_dst (N := 2) rfl ?_); refine bx_ (N := 2) (cs := #[.int .i64 a0_0, .int .i64 a0_1]) (t := 56) ?_; intro gb444 hg w15 hbox hb; have BK444 := a0_ (hbox); have GW444 := a0_ ((sz_ hg (bl0_) : w.heap.size ≤ gb444)); have GE444 := a0_ ((sz_ hg (bl0_) : w.heap.size ≤ gb444)); replace HB := a0_ (below_step (bl0_) hb); clear hb hbox hg) | ((with_reducible refine gate_dst (N := 3) rfl ?_); refine bx_ (N := 3) (cs := #[.int .i64 a1_0, .int .i64 a1_1]) (t := 56) ?_; intro gb445 hg w16 hbox hb; have BK445 := a0_ (hbox); have GW445 := a0_ ((sz_ hg (bl1_ GE444.out) : w.heap.size ≤ gb445)); have GE445 := a0_ ((sz_ hg (bl1_ GE444.out) : w.heap.size ≤ gb445)); replace HB := a0_ (below_step (bl1_ GE444.out) hb); have NB444_445 := a0_ ((nl_ hg BK444.out : gb444 ≠ gb445)); have NB445_444 := a0_ ((ng_ hg BK444.out : gb445 ≠ gb444)); replace BK444 := a0_ (bb_ BK444.out hb); clear hb hbox hg; have hnb17 := NB444_445.out; have hnc17 := NB445_444.out; obtain ⟨hcz18_0, hcz18_1, hfz18_0, hfz18_1⟩ := bc2_ BK444.out; obtain ⟨hcz19_0, hcz19_1, hfz19_0, hfz19_1⟩ := bc2_ BK445.out))
  go_ret
  exact ⟨er_, bl2_ GE444.out GE445.out⟩

/-! ### laws_eqCellS: function 24 -/
def laws_eqCellS.l0 : Nat → List (S56) → List (S56) → Int → Option (Bool)
 | 0, _, _, _ => none
 | k + 1, x0, x1, x5 => if x5 < (x0.length : Int) then (if 0 ≤ x5 then (if x5 < (x1.length : Int) then ((laws_eqCell.f ((rd_T56 x0 x5).f0) ((rd_T56 x0 x5).f1) ((rd_T56 x1 x5).f0) ((rd_T56 x1 x5).f1)).bind fun t448 => (if t448 = true then (laws_eqCellS.l0 k x0 x1 (wrap64 (x5 + 1))) else (some false))) else (none)) else (none)) else (some true)
def laws_eqCellS.f (k : Nat) (l0 : List (S56)) (l1 : List (S56)) : Option (Bool) := if (l0.length : Int) = (l1.length : Int) then (laws_eqCellS.l0 k l0 l1 0) else (some false)
theorem laws_eqCellS.mono_l : ∀ k, (∀ y0 y1 y2, LeO (laws_eqCellS.l0 k y0 y1 y2) (laws_eqCellS.l0 (k + 1) y0 y1 y2))
 | 0 => fun _ _ _ r h => by simp [laws_eqCellS.l0] at h
 | k + 1 => by
  have ih0 := laws_eqCellS.mono_l k
  ·intro y0 y1 y2
   unfold laws_eqCellS.l0
   with_reducible (repeat' first | exact ih0 _ _ _ | exact LeO.refl _ | exact LeO.none _ | refine LeO.ite ?_ ?_ | refine LeO.bind ?_ (fun _ => ?_))
theorem laws_eqCellS.mono : ∀ a0 a1 k, LeO (laws_eqCellS.f k a0 a1) (laws_eqCellS.f (k + 1) a0 a1) := by
 intro a0 a1 k
 have ih0 := laws_eqCellS.mono_l k
 unfold laws_eqCellS.f
 with_reducible (repeat' first | exact ih0 _ _ _ | exact LeO.refl _ | exact LeO.none _ | refine LeO.ite ?_ ?_ | refine LeO.bind ?_ (fun _ => ?_))
def laws_eqCellS.T6 : Bool × List (List Nat × List Nat) := (true, [([], []), ([], []), ([0, 1], [0, 1]), ([2], [2]), ([], []), ([], []), ([4, 5], [4, 5]), ([6], [6]), ([3, 7], [3, 7]), ([8], [8])])
def laws_eqCellS.B6 : List Nat := [0, 0, 3, 7, 0, 0, 48, 112, 255, 511]
theorem laws_eqCellS.tab6 : rtab .any (opsOf Tryz.f24 6) = laws_eqCellS.T6 := by kernel_rfl
theorem laws_eqCellS.bits6 : waitsOk laws_eqCellS.T6.2 laws_eqCellS.B6 = true := by kernel_rfl
set_option maxHeartbeats 8000000 in
set_option maxRecDepth 100000 in
theorem laws_eqCellS.calls (k : Nat) (A0 : Option Addr) (c0 : Nat) (l0 : List (S56)) (A1 : Option Addr) (c1 : Nat) (l1 : List (S56)) (r : Bool) (w : World) (hr0 : Kd.C k56 w A0 l0.length l0) (hc0 : l0.length ≤ c0) (hr1 : Kd.C k56 w A1 l1.length l1) (hc1 : l1.length ≤ c1) (h : laws_eqCellS.f k l0 l1 = some r) :
  Calls Tryz.prog 24 #[.slice A0 l0.length c0, .slice A1 l1.length c1] w fun e w' => e = .returned (.bool r) ∧ Below w.heap.size w w' := by
 have hu56 := Tryz.underlying56
 have HR0 := Aside0.mk hr0
 have HC0 := Aside0.mk hc0
 clear hr0 hc0
 have HR1 := Aside0.mk hr1
 have HC1 := Aside0.mk hc1
 clear hr1 hc1
 have HB := a0_ (Below.refl w.heap.size w)
 have H := h
 clear h
 unfold laws_eqCellS.f at H
 by_cases c3 : (l0.length : Int) = (l1.length : Int)
 ·rw [if_pos c3] at H
  have c3b0 : ((l0.length : Int) == (l1.length : Int)) = true := beq_iff_eq.mpr c3
  have c3b1 : ((l0.length : Int) != (l1.length : Int)) = false := bne_eq_false_iff_eq.mpr c3
  have c3b2 : (l0.length == l1.length) = true := by first | simpa using c3 | (simp at c3 ⊢; omega)
  clear c3
  have H' := Aside0.mk H
  clear H
  go_enter Tryz.func24, Tryz.ntmps24
  go_wp2
  go_loopg [5] k (fun kq v5 w' => ∃ (x5_1 : Int), v5 = .int .i64 x5_1 ∧ Aside0 (laws_eqCellS.l0 kq l0 l1 x5_1 = some r) ∧ Aside0 (kq ≤ k) ∧ Aside0 (Below w.heap.size w w'))
  case atStart => exact ⟨(0), rs_, H', ⟨Nat.le_refl _⟩, ⟨bl0_⟩⟩
  case round =>
   clear H'
   try clear c1
   try clear c2
   try clear p2
   try clear c3
   try clear c3b0
   try clear c3b1
   try clear c3b2
   obtain ⟨x5_1, rfl, HA, HK1, HB⟩ := hrel
   cases gk with
   | zero => exact absurd HA.out (by simp [laws_eqCellS.l0])
   | succ k1 =>
    have H := HA.out
    clear HA
    simp only [laws_eqCellS.l0] at H
    by_cases c4 : x5_1 < (l0.length : Int)
    ·rw [if_pos c4] at H
     have c4b0 : decide (x5_1 < (l0.length : Int)) = true := decide_eq_true c4
     clear c4
     by_cases c5 : 0 ≤ x5_1
     ·rw [if_pos c5] at H
      have c5b0 : decide (0 ≤ x5_1) = true := decide_eq_true c5
      clear c5
      by_cases c6 : x5_1 < (l1.length : Int)
      ·rw [if_pos c6] at H
       have c6b0 : decide (x5_1 < (l1.length : Int)) = true := decide_eq_true c6
       clear c6
       obtain ⟨t448, A7, H⟩ := bs_ H
       by_cases c8 : t448 = true
       ·subst c8
        rw [if_pos rfl] at H
        have H' := Aside0.mk H
        clear H
        try go_wp2
        replace HB := a0_ (below_drew1 HB.out)
        have p446 : 0 ≤ (x5_1 : Int) := od_
        have q446 : x5_1 < (l0.length : Int) := od_
        obtain ⟨ad446, e446, hx446_0, hx446_1⟩ := at_T56 HR0.out x5_1 p446 q446
        have hw446_1 := hx446_1
        have hw446_0 := hx446_0
        cases e446
        replace hx446_0 := (HB.out.cell (World.block_lt_of_cell? w _ hx446_0)).trans hx446_0
        replace hx446_1 := (HB.out.cell (World.block_lt_of_cell? w _ hx446_1)).trans hx446_1
        replace p446 := eq_true p446
        replace q446 := eq_true q446
        have p447 : 0 ≤ (x5_1 : Int) := od_
        have q447 : x5_1 < (l1.length : Int) := od_
        obtain ⟨ad447, e447, hx447_0, hx447_1⟩ := at_T56 HR1.out x5_1 p447 q447
        have hw447_1 := hx447_1
        have hw447_0 := hx447_0
        cases e447
        replace hx447_0 := (HB.out.cell (World.block_lt_of_cell? w _ hx447_0)).trans hx447_0
        replace hx447_1 := (HB.out.cell (World.block_lt_of_cell? w _ hx447_1)).trans hx447_1
        replace p447 := eq_true p447
        replace q447 := eq_true q447
        refine start_ (n := 10) (S := fun w' => w'.cell? (ad446.add ((x5_1).toNat * 2)) = some (.int .i64 ((rd_T56 l0 x5_1).f0)) ∧ w'.cell? ⟨(ad446.add ((x5_1).toNat * 2)).block, (ad446.add ((x5_1).toNat * 2)).off + 1, none⟩ = some (.int .i64 ((rd_T56 l0 x5_1).f1)) ∧ w'.cell? (ad447.add ((x5_1).toNat * 2)) = some (.int .i64 ((rd_T56 l1 x5_1).f0)) ∧ w'.cell? ⟨(ad447.add ((x5_1).toNat * 2)).block, (ad447.add ((x5_1).toNat * 2)).off + 1, none⟩ = some (.int .i64 ((rd_T56 l1 x5_1).f1))) (ds := []) (mk_ 0 10) kr_ rfl rfl ⟨((HB.out.cell (World.block_lt_of_cell? w _ hw446_0)).trans hw446_0), ((HB.out.cell (World.block_lt_of_cell? w _ hw446_1)).trans hw446_1), ((HB.out.cell (World.block_lt_of_cell? w _ hw447_0)).trans hw447_0), ((HB.out.cell (World.block_lt_of_cell? w _ hw447_1)).trans hw447_1)⟩ (fun hHeld => ?_); refine with_tabW laws_eqCellS.tab6 laws_eqCellS.bits6 (fun HT_ HW_ => ?_)
        generalize wr.drew = w9 at HB hx446_0 hx446_1 hx447_0 hx447_1 hHeld ⊢
        refine pu_ 0 (some 17) (mk_ 1 9) HT_ ?_
        refine pu_ 1 (some 18) (mk_ 2 8) HT_ ?_
        refine pu_ 2 (some 19) (mk_ 3 7) HT_ ?_
        refine pu_ 4 (some 21) #[true, true, true, false, true, false, false, false, false, false] HT_ ?_
        refine pu_ 5 (some 22) #[true, true, true, false, true, true, false, false, false, false] HT_ ?_
        refine pu_ 6 (some 23) #[true, true, true, false, true, true, true, false, false, false] HT_ ?_
        refine tk_ 3 (some 20) (mk_ 7 3) HT_ HW_ hHeld (hy := .inl ⟨by rfl, by rintro w' ⟨s0, s1, s2, s3⟩; go_simp; with_reducible rfl⟩) ?_
        refine tk_ 7 (some 24) (mk_ 8 2) HT_ HW_ hHeld (hy := .inl ⟨by rfl, by rintro w' ⟨s0, s1, s2, s3⟩; go_simp; with_reducible rfl⟩) ?_
        refine one_ (i := 8) (N := some 25) (mk_ 9 1) rfl rfl (one_of HT_.out kr_) (by decide) (fun K hK => ?_)
        refine goes_ Tryz.func45 kr_ rfl #[.agg #[.int .i64 ((rd_T56 l0 x5_1).f0), .int .i64 ((rd_T56 l0 x5_1).f1)], .agg #[.int .i64 ((rd_T56 l1 x5_1).f0), .int .i64 ((rd_T56 l1 x5_1).f1)]] (by rfl) rfl rfl ta_ ?_
        with_reducible refine (laws_eqCell.calls ((rd_T56 l0 x5_1).f0) ((rd_T56 l0 x5_1).f1) ((rd_T56 l1 x5_1).f0) ((rd_T56 l1 x5_1).f1) true _ A7.out).mono ?_
        rintro e w10 ⟨rfl, hb⟩
        refine ⟨_, rfl, ?_⟩
        replace HB := a0_ (below_step (bl0_) hb)
        (try clear hb)
        (try clear hb2)
        (try clear hk)
        (try clear hi)
        refine hK.out _ _ ⟨((HB.out.cell (World.block_lt_of_cell? w _ hw446_0)).trans hw446_0), ((HB.out.cell (World.block_lt_of_cell? w _ hw446_1)).trans hw446_1), ((HB.out.cell (World.block_lt_of_cell? w _ hw447_0)).trans hw447_0), ((HB.out.cell (World.block_lt_of_cell? w _ hw447_1)).trans hw447_1)⟩ (fun hHeld => ?_)
        clear hK K
        refine nm_ ?_
        refine pu_ 9 (some 26) (mk_ 10 0) HT_ ?_
        refine done_ (done_of HT_.out kr_) ?_
        try go_wp2
        go_roundg k1
        case measure => have := HK1.out; omega
        case rel => exact ⟨(wrap64 (x5_1 + 1)), rs_, H', ⟨by have := HK1.out; omega⟩, ⟨bl0_⟩⟩
       ·replace c8 := Bool.eq_false_iff.mpr c8
        subst c8
        rw [if_neg (show ¬ (false = true) by decide)] at H
        obtain rfl := Option.some.inj H
        try go_wp2
        replace HB := a0_ (below_drew1 HB.out)
        have p446 : 0 ≤ (x5_1 : Int) := od_
        have q446 : x5_1 < (l0.length : Int) := od_
        obtain ⟨ad446, e446, hx446_0, hx446_1⟩ := at_T56 HR0.out x5_1 p446 q446
        have hw446_1 := hx446_1
        have hw446_0 := hx446_0
        cases e446
        replace hx446_0 := (HB.out.cell (World.block_lt_of_cell? w _ hx446_0)).trans hx446_0
        replace hx446_1 := (HB.out.cell (World.block_lt_of_cell? w _ hx446_1)).trans hx446_1
        replace p446 := eq_true p446
        replace q446 := eq_true q446
        have p447 : 0 ≤ (x5_1 : Int) := od_
        have q447 : x5_1 < (l1.length : Int) := od_
        obtain ⟨ad447, e447, hx447_0, hx447_1⟩ := at_T56 HR1.out x5_1 p447 q447
        have hw447_1 := hx447_1
        have hw447_0 := hx447_0
        cases e447
        replace hx447_0 := (HB.out.cell (World.block_lt_of_cell? w _ hx447_0)).trans hx447_0
        replace hx447_1 := (HB.out.cell (World.block_lt_of_cell? w _ hx447_1)).trans hx447_1
        replace p447 := eq_true p447
        replace q447 := eq_true q447
        refine start_ (n := 10) (S := fun w' => w'.cell? (ad446.add ((x5_1).toNat * 2)) = some (.int .i64 ((rd_T56 l0 x5_1).f0)) ∧ w'.cell? ⟨(ad446.add ((x5_1).toNat * 2)).block, (ad446.add ((x5_1).toNat * 2)).off + 1, none⟩ = some (.int .i64 ((rd_T56 l0 x5_1).f1)) ∧ w'.cell? (ad447.add ((x5_1).toNat * 2)) = some (.int .i64 ((rd_T56 l1 x5_1).f0)) ∧ w'.cell? ⟨(ad447.add ((x5_1).toNat * 2)).block, (ad447.add ((x5_1).toNat * 2)).off + 1, none⟩ = some (.int .i64 ((rd_T56 l1 x5_1).f1))) (ds := []) (mk_ 0 10) kr_ rfl rfl ⟨((HB.out.cell (World.block_lt_of_cell? w _ hw446_0)).trans hw446_0), ((HB.out.cell (World.block_lt_of_cell? w _ hw446_1)).trans hw446_1), ((HB.out.cell (World.block_lt_of_cell? w _ hw447_0)).trans hw447_0), ((HB.out.cell (World.block_lt_of_cell? w _ hw447_1)).trans hw447_1)⟩ (fun hHeld => ?_); refine with_tabW laws_eqCellS.tab6 laws_eqCellS.bits6 (fun HT_ HW_ => ?_)
        generalize wr.drew = w11 at HB hx446_0 hx446_1 hx447_0 hx447_1 hHeld ⊢
        refine pu_ 0 (some 17) (mk_ 1 9) HT_ ?_
        refine pu_ 1 (some 18) (mk_ 2 8) HT_ ?_
        refine pu_ 2 (some 19) (mk_ 3 7) HT_ ?_
        refine pu_ 4 (some 21) #[true, true, true, false, true, false, false, false, false, false] HT_ ?_
        refine pu_ 5 (some 22) #[true, true, true, false, true, true, false, false, false, false] HT_ ?_
        refine pu_ 6 (some 23) #[true, true, true, false, true, true, true, false, false, false] HT_ ?_
        refine tk_ 3 (some 20) (mk_ 7 3) HT_ HW_ hHeld (hy := .inl ⟨by rfl, by rintro w' ⟨s0, s1, s2, s3⟩; go_simp; with_reducible rfl⟩) ?_
        refine tk_ 7 (some 24) (mk_ 8 2) HT_ HW_ hHeld (hy := .inl ⟨by rfl, by rintro w' ⟨s0, s1, s2, s3⟩; go_simp; with_reducible rfl⟩) ?_
        refine one_ (i := 8) (N := some 25) (mk_ 9 1) rfl rfl (one_of HT_.out kr_) (by decide) (fun K hK => ?_)
        refine goes_ Tryz.func45 kr_ rfl #[.agg #[.int .i64 ((rd_T56 l0 x5_1).f0), .int .i64 ((rd_T56 l0 x5_1).f1)], .agg #[.int .i64 ((rd_T56 l1 x5_1).f0), .int .i64 ((rd_T56 l1 x5_1).f1)]] (by rfl) rfl rfl ta_ ?_
        with_reducible refine (laws_eqCell.calls ((rd_T56 l0 x5_1).f0) ((rd_T56 l0 x5_1).f1) ((rd_T56 l1 x5_1).f0) ((rd_T56 l1 x5_1).f1) false _ A7.out).mono ?_
        rintro e w12 ⟨rfl, hb⟩
        refine ⟨_, rfl, ?_⟩
        replace HB := a0_ (below_step (bl0_) hb)
        (try clear hb)
        (try clear hb2)
        (try clear hk)
        (try clear hi)
        refine hK.out _ _ ⟨((HB.out.cell (World.block_lt_of_cell? w _ hw446_0)).trans hw446_0), ((HB.out.cell (World.block_lt_of_cell? w _ hw446_1)).trans hw446_1), ((HB.out.cell (World.block_lt_of_cell? w _ hw447_0)).trans hw447_0), ((HB.out.cell (World.block_lt_of_cell? w _ hw447_1)).trans hw447_1)⟩ (fun hHeld => ?_)
        clear hK K
        refine nm_ ?_
        refine pu_ 9 (some 26) (mk_ 10 0) HT_ ?_
        refine done_ (done_of HT_.out kr_) ?_
        try go_wp2
        go_ret
        exact ⟨er_, bl0_⟩
      ·rw [if_neg c6] at H
       exact absurd H (by simp)
     ·rw [if_neg c5] at H
      exact absurd H (by simp)
    ·rw [if_neg c4] at H
     have c4b0 : decide (x5_1 < (l0.length : Int)) = false := decide_eq_false c4
     clear c4
     obtain rfl := Option.some.inj H
     go_wp2
     go_ret
     exact ⟨er_, bl0_⟩
 ·rw [if_neg c3] at H
  have c3b0 : ((l0.length : Int) == (l1.length : Int)) = false := beq_eq_false_iff_ne.mpr c3
  have c3b1 : ((l0.length : Int) != (l1.length : Int)) = true := bne_iff_ne.mpr c3
  have c3b2 : (l0.length == l1.length) = false := by first | simpa using c3 | (simp at c3 ⊢; omega)
  obtain rfl := Option.some.inj H
  go_enter Tryz.func24, Tryz.ntmps24
  go_wp2
  go_ret
  exact ⟨er_, bl0_⟩

end Go.Proofs.YtmdjkmfocgelnaaGreatDoor.PFnExactNets
