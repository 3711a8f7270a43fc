/- Over the kit's printer by a driver of mine (hprint.py), with parts by hand: functions of the program as Lean functions, and that each call comes to exactly these answers. -/
import Derived.Test.YtmdjkmfocgelnaaGreatDoorPFnAllNetsx0
import Derived.Test.YtmdjkmfocgelnaaGreatDoorPFnAllNetsx8
import Derived.Test.YtmdjkmfocgelnaaGreatDoorPFnAllNetsx9
import Derived.Test.YtmdjkmfocgelnaaGreatDoorPFnAllNetsx10
import Derived.Test.YtmdjkmfocgelnaaGreatDoorPFnAllNetsx15
import Derived.Test.YtmdjkmfocgelnaaGreatDoorPFnAllNetsx17
import Derived.Test.YtmdjkmfocgelnaaGreatDoorPFnAllNetsx19
namespace Go.Proofs.YtmdjkmfocgelnaaGreatDoor.PFnAllNets
open Go.RowKit Go.Proofs.YtmdjkmfocgelnaaGreatDoorW.PrintWords Go.Proofs.YtmdjkmfocgelnaaGreatDoorW.PrintLast Go.Proofs.YtmdjkmfocgelnaaGreatDoorW.PrintMore
attribute [local go_sem] max2_int min2_int max_two min_two max_three min_three max_four min_four   
set_option linter.unusedVariables false
set_option linter.unusedSimpArgs false
theorem filt_take {α : Type} (b : α → Bool) (cs : List α) (j : Nat) (hj : j < cs.length) : (cs.take (j + 1)).filter b = (cs.take j).filter b ++ (if b cs[j] = true then [cs[j]] else []) := by
 rw [List.take_succ_eq_append_getElem hj, List.filter_append]
 cases h : b cs[j] <;> simp [h]
def keepB (p : List S56 → Bool) (q : Value × List S56) : Bool := !p q.2
set_option maxHeartbeats 4000000 in
set_option maxRecDepth 100000 in
theorem indexFirst_calls (gn : Nat) (eg : ∀ args w, (callFunc gn args).run Tryz.prog w = .ok (.enter gn args) w) (p : List S56 → Bool) (w : World) (base : Nat) (ok : Nat → Prop) (g cap : Nat) (cs : List (Value × List S56)) (tail : List Value) (hR : RoR k56 56 29 base ok w g cs tail) (hm : cs.length ≤ 4611686018427387904)
  (S : World → Prop) (hS : ∀ W, ButB g w W → S W) (hp : ∀ j (hj : j < cs.length) A c (W : World), S W → Kd.C k56 W A cs[j].2.length cs[j].2 → cs[j].2.length ≤ c → Calls Tryz.prog gn #[.slice A cs[j].2.length c] W fun e w' => e = .returned (.bool (p cs[j].2)) ∧ Below W.heap.size W w') :
  Calls Tryz.prog 40 #[.slice (some ⟨g, 0, none⟩) cs.length cap, .func (.func gn) #[] #[]] w fun e w' => ((e = .returned (.int .i64 (-1)) ∧ ∀ j (hj : j < cs.length), p cs[j].2 = false) ∨ ∃ i : Nat, ∃ hi : i < cs.length, e = .returned (.int .i64 i) ∧ p cs[i].2 = true ∧ ∀ j (hj : j < i), p (cs[j]'(by omega)).2 = false) ∧ Below w.heap.size w w' := by
 have HR := Aside0.mk hR
 have HP := Aside0.mk hp
 have HM := Aside0.mk hm
 have hel : ∀ j (hj : j < cs.length), ∃ A c, cs[j].1 = .slice A cs[j].2.length c ∧ cs[j].2.length ≤ c ∧ ∀ w' : World, (∀ k, k < w.heap.size → k ≠ g → w'.heap[k]? = w.heap[k]?) → Kd.C k56 w' A cs[j].2.length cs[j].2 := fun j hj => elem_of (hR.el _ (List.getElem_mem hj))
 have HE := Aside0.mk hel
 clear hR hp hm hel
 go_enter Tryz.func40, Tryz.ntmps40
 go_wp2
 go_loopg [5, 8] cs.length (fun kq _ v8 w' => ∃ k : Nat, v8 = .int .i64 k ∧ Aside0 (kq + k = cs.length) ∧ Aside0 (∀ j (hj : j < cs.length), j < k → p cs[j].2 = false) ∧ Aside0 (Below w.heap.size w w'))
 case atStart => exact ⟨0, rfl, ⟨by omega⟩, ⟨fun j _ h => absurd h (Nat.not_lt_zero _)⟩, ⟨Below.refl _ _⟩⟩
 case round =>
  obtain ⟨k, rfl, HK, HA, HB⟩ := hrel
  by_cases hk : k < cs.length
  ·have d0 : decide ((k : Int) < (cs.length : Int)) = true := decide_eq_true (by omega)
   have d1 : decide (k < cs.length) = true := decide_eq_true hk
   have q0 : (0 ≤ (k : Int)) = True := eq_true (by omega)
   have q1 : ((k : Int) < (cs.length : Int)) = True := eq_true (by omega)
   have q2 : (k < cs.length) = True := eq_true hk
   have hbk := blk_below HR.out.blk HB.out
   have x0 : wr.cell? ⟨g, k, none⟩ = some cs[k].1 := by
    rw [blk_cell hbk, List.getElem?_toArray, List.getElem?_append_left (by simpa using hk), List.getElem?_map, List.getElem?_eq_getElem hk]
    rfl
   obtain ⟨A0, c0, e0, l0, r0⟩ := HE.out k hk
   rw [e0] at x0
   have hcall := HP.out k hk A0 c0 wr (hS wr ((ButB.refl g w).below HB.out)) (r0 wr (fun q hq _ => HB.out.block q hq)) l0
   have HKN := Aside0.mk hk
   have HW := a0_ (show wrap64 ((k : Int) + 1) = ((k + 1 : Nat) : Int) by have := HM.out; unfold wrap64; omega)
   cases hz : p cs[k].2 with
   | true =>
    rw [hz] at hcall
    have HZ := Aside0.mk hz
    generalize cs[k].2.length = np at x0 hcall
    clear hz r0 l0 e0 hbk
    go_wp2_with (go_at_fn gn; (refine hcall.mono ?_; rintro e w1 ⟨rfl, hb⟩; have HB1 := a0_ (below_step HB.out hb); clear hb hcall))
    go_ret
    exact ⟨.inr ⟨k, HKN.out, rfl, HZ.out, fun j hj => HA.out j (by have := HKN.out; omega) hj⟩, HB1.out⟩
   | false =>
    rw [hz] at hcall
    have HZ := Aside0.mk hz
    generalize cs[k].2.length = np at x0 hcall
    clear hz r0 l0 e0 hbk
    go_wp2_with (go_at_fn gn; (refine hcall.mono ?_; rintro e w1 ⟨rfl, hb⟩; have HB1 := a0_ (below_step HB.out hb); clear hb hcall))
    go_roundg (cs.length - (k + 1))
    case measure => (have := HK.out; have := HKN.out; omega)
    case rel =>
     refine ⟨k + 1, congrArg (Value.int .i64) HW.out, ⟨by have := HKN.out; omega⟩, ⟨fun j hj hjk => ?_⟩, HB1⟩
     by_cases e : j = k
     ·subst e; exact HZ.out
     ·exact HA.out j hj (by omega)
  ·have d0 : decide ((k : Int) < (cs.length : Int)) = false := decide_eq_false (by omega)
   have d1 : decide (k < cs.length) = false := decide_eq_false hk
   have HKN := Aside0.mk hk
   clear hk
   go_wp2
   go_ret
   exact ⟨.inl ⟨rfl, fun j hj => HA.out j hj (by have := HKN.out; omega)⟩, HB.out⟩
theorem first_or (P : Nat → Prop) : ∀ n : Nat, (∀ j, j < n → ¬ P j) ∨ ∃ i, i < n ∧ P i ∧ ∀ j, j < i → ¬ P j
 | 0 => .inl (fun j hj => absurd hj (Nat.not_lt_zero _))
 | n + 1 => by
  rcases first_or P n with h | ⟨i, h1, h2, h3⟩
  ·by_cases c : P n
   ·exact .inr ⟨n, Nat.lt_succ_self _, c, h⟩
   ·refine .inl (fun j hj => ?_)
    by_cases e : j = n
    ·subst e; exact c
    ·exact h j (by omega)
  ·exact .inr ⟨i, by omega, h2, h3⟩
set_option maxHeartbeats 4000000 in
set_option maxRecDepth 100000 in
theorem deleteS_calls (gn : Nat) (eg : ∀ args w, (callFunc gn args).run Tryz.prog w = .ok (.enter gn args) w) (p : List S56 → Bool) (w : World) (base : Nat) (ok : Nat → Prop) (g cap : Nat) (cs : List (Value × List S56)) (tail : List Value) (hR : RoR k56 56 29 base ok w g cs tail) (hc : cs.length + tail.length = cap) (hm : cap ≤ maxLen) (hl : cs.length ≤ 4611686018427387904)
  (S : World → Prop) (hS : ∀ W, ButB g w W → S W) (hp : ∀ j (hj : j < cs.length) A c (W : World), S W → Kd.C k56 W A cs[j].2.length cs[j].2 → cs[j].2.length ≤ c → Calls Tryz.prog gn #[.slice A cs[j].2.length c] W fun e w' => e = .returned (.bool (p cs[j].2)) ∧ Below W.heap.size W w') :
  Calls Tryz.prog 21 #[.slice (some ⟨g, 0, none⟩) cs.length cap, .func (.func gn) #[] #[]] w fun e w' => e = .returned (.slice (some ⟨g, 0, none⟩) (cs.filter (keepB p)).length cap) ∧ (∃ tail', (cs.filter (keepB p)).length + tail'.length = cap ∧ RoR k56 56 29 base ok w' g (cs.filter (keepB p)) tail') ∧ ButB g w w' := by
 have hI := indexFirst_calls gn eg p w base ok g cap cs tail hR hl S hS hp
 have HR := Aside0.mk hR
 have HP := Aside0.mk hp
 have HC := a0_ (And.intro hc (show cap ≤ 9223372036854775807 from hm))
 have hel : ∀ j (hj : j < cs.length), ∃ A c, cs[j].1 = .slice A cs[j].2.length c ∧ cs[j].2.length ≤ c ∧ ∀ w' : World, (∀ k, k < w.heap.size → k ≠ g → w'.heap[k]? = w.heap[k]?) → Kd.C k56 w' A cs[j].2.length cs[j].2 := fun j hj => elem_of (hR.el _ (List.getElem_mem hj))
 have HE := Aside0.mk hel
 have HLL := Aside0.mk hl
 clear hR hp hc hm hel hl
 rcases first_or (fun j => ∃ h : j < cs.length, p cs[j].2 = true) cs.length with hno | ⟨i0, hi0, ⟨_, ht⟩, hf⟩
 ·have hno2 : ∀ j (hj : j < cs.length), p cs[j].2 = false := fun j hj => by
   cases h : p cs[j].2 with
   | false => rfl
   | true => exact absurd ⟨hj, h⟩ (hno j hj)
  have hI2 := hI.mono (R' := fun e w' => e = .returned (.int .i64 (-1)) ∧ Below w.heap.size w w') (by
   rintro e w' ⟨h, hb⟩
   rcases h with ⟨h, _⟩ | ⟨i, hi, _, h2, _⟩
   ·exact ⟨h, hb⟩
   ·rw [hno2 i hi] at h2; cases h2)
  have HF : Aside0 (cs.filter (keepB p) = cs) := ⟨List.filter_eq_self.2 (fun q hq => by
   obtain ⟨j, hj, rfl⟩ := List.getElem_of_mem hq
   unfold keepB
   rw [hno2 j hj]; rfl)⟩
  clear hI hno hno2
  go_enter Tryz.func21, Tryz.ntmps21
  go_wp2_with (go_at_call 40; (refine hI2.mono ?_; rintro e w1 ⟨rfl, hb⟩; have HB1 := Aside0.mk hb; clear hb hI2))
  go_ret
  rw [HF.out]
  exact ⟨rfl, ⟨tail, HC.out.1, HR.out.step (fun p hp => hp) (blk_below HR.out.blk HB1.out) (fun q hq _ => HB1.out.block q hq)⟩, (ButB.refl g w).below HB1.out⟩
 ·have hff : ∀ j (hj : j < i0), p (cs[j]'(by omega)).2 = false := fun j hj => by
   cases h : p (cs[j]'(by omega)).2 with
   | false => rfl
   | true => exact absurd ⟨by omega, h⟩ (hf j hj)
  have hI2 := hI.mono (R' := fun e w' => e = .returned (.int .i64 i0) ∧ Below w.heap.size w w') (by
   rintro e w' ⟨h, hb⟩
   rcases h with ⟨_, h⟩ | ⟨i, hi, h1, h2, h3⟩
   ·rw [h i0 hi0] at ht; cases ht
   ·have : i = i0 := by
     rcases Nat.lt_trichotomy i i0 with c | c | c
     ·rw [hff i c] at h2; cases h2
     ·exact c
     ·rw [h3 i0 c] at ht; cases ht
    subst this
    exact ⟨h1, hb⟩)
  have hF0 : (cs.take i0).filter (keepB p) = cs.take i0 := List.filter_eq_self.2 (fun q hq => by
   obtain ⟨j, hj, rfl⟩ := List.getElem_of_mem hq
   rw [List.length_take] at hj
   rw [List.getElem_take]
   unfold keepB
   rw [hff j (by omega)]; rfl)
  have hF1 : (cs.take (i0 + 1)).filter (keepB p) = cs.take i0 := by
   rw [filt_take _ cs i0 hi0, hF0, if_neg (by unfold keepB; rw [ht]; simp), List.append_nil]
  have HF := Aside0.mk hF1
  have HI0 := Aside0.mk hi0
  have b0 : (((i0 : Nat) : Int) == -1) = false := beq_eq_false_iff_ne.mpr (by omega)
  have HW0 := a0_ (show wrap64 ((i0 : Int) + 1) = ((i0 + 1 : Nat) : Int) by have := HLL.out; unfold wrap64; omega)
  clear hI hf hff hF0 hF1 ht hi0
  go_enter Tryz.func21, Tryz.ntmps21
  go_wp2_with (go_at_call 40; (refine hI2.mono ?_; rintro e w1 ⟨rfl, hb⟩; have HB1 := Aside0.mk hb; clear hb hI2))
  rw [HW0.out]
  clear b0
  have R0 : Aside0 (w1.heap[g]? = some (.cells (cs.map (·.1) ++ tail).toArray 29 (0, 0))) := ⟨blk_below HR.out.blk HB1.out⟩
  have B0 : Aside0 (ButB g w w1) := ⟨(ButB.refl g w).below HB1.out⟩
  go_loopg [5, 6, 7] cs.length (fun kq v5 v6 _ w' => ∃ (i j : Nat) (X : List Value), v5 = .int .i64 i ∧ v6 = .int .i64 j ∧ Aside0 ((j ≤ cs.length ∧ cs.length ≤ kq + j) ∧ i = ((cs.take j).filter (keepB p)).length ∧ i < j) ∧ Aside0 (X.length = cs.length ∧ (∀ q, q < i → X[q]? = ((cs.take j).filter (keepB p))[q]?.map (·.1)) ∧ ∀ q, j ≤ q → X[q]? = (cs.map (·.1))[q]?) ∧ Aside0 (w'.heap[g]? = some (.cells (X ++ tail).toArray 29 (0, 0))) ∧ Aside0 (ButB g w w'))
  case atStart =>
   refine ⟨i0, i0 + 1, cs.map (·.1), rfl, rfl, ⟨⟨HI0.out, by omega⟩, ?_, by omega⟩, ⟨by simp, fun q hq => ?_, fun q _ => rfl⟩, R0, B0⟩
   ·rw [HF.out, List.length_take]; have := HI0.out; omega
   ·rw [HF.out, List.getElem?_take_of_lt hq, List.getElem?_map]
  case round =>
   clear R0 B0
   obtain ⟨i, j, X, rfl, rfl, HI, HX, HW2, HBB⟩ := hrel
   by_cases hj : j < cs.length
   ·have d0 : decide ((j : Int) < (cs.length : Int)) = true := decide_eq_true (by omega)
    have d1 : decide (j < cs.length) = true := decide_eq_true hj
    have q0 : (0 ≤ (j : Int)) = True := eq_true (by omega)
    have q1 : ((j : Int) < (cs.length : Int)) = True := eq_true (by omega)
    have q2 : (j < cs.length) = True := eq_true hj
    have hcell : ∀ q v, X[q]? = some v → ∀ W : World, W.heap[g]? = some (.cells (X ++ tail).toArray 29 (0, 0)) → W.cell? ⟨g, q, none⟩ = some v := fun q v hv W hW => by
     rw [blk_cell hW, List.getElem?_toArray, List.getElem?_append_left (List.getElem?_eq_some_iff.1 hv).1]
     exact hv
    obtain ⟨A0, c0, e0, l0, r0⟩ := HE.out j hj
    have x0 := hcell j (.slice A0 cs[j].2.length c0) (by rw [HX.out.2.2 j (Nat.le_refl _), List.getElem?_map, List.getElem?_eq_getElem hj, ← e0]; rfl) wr HW2.out
    have hcall := HP.out j hj A0 c0 wr (hS wr HBB.out) (r0 wr HBB.out.block) l0
    have HW := a0_ (show wrap64 ((j : Int) + 1) = ((j + 1 : Nat) : Int) ∧ wrap64 ((i : Int) + 1) = ((i + 1 : Nat) : Int) by have := HC.out; have := HI.out.2.2; unfold wrap64; omega)
    have hkt := filt_take (keepB p) cs j hj
    have HJ := Aside0.mk hj
    cases hz : p cs[j].2 with
    | true =>
     rw [hz] at hcall
     rw [if_neg (by unfold keepB; rw [hz]; simp), List.append_nil] at hkt
     have HKT := Aside0.mk hkt
     generalize cs[j].2.length = np at x0 hcall
     clear hz hkt r0 l0 e0 hcell
     go_wp2_with (go_at_fn gn; (refine hcall.mono ?_; rintro e w3 ⟨rfl, hb⟩; have HW3 := a0_ (blk_below HW2.out hb); have HBB3 := a0_ (HBB.out.below hb); clear hb hcall))
     go_roundg (cs.length - (j + 1))
     case measure => (have := HI.out; have := HJ.out; omega)
     case rel => exact ⟨i, j + 1, X, rfl, congrArg (Value.int .i64) HW.out.1, ⟨by have := HI.out; have := HJ.out; omega, by rw [HKT.out]; exact HI.out.2.1, by have := HI.out.2.2; omega⟩, ⟨HX.out.1, fun q hq => by rw [HKT.out]; exact HX.out.2.1 q hq, fun q hq => HX.out.2.2 q (by omega)⟩, HW3, HBB3⟩
    | false =>
     rw [hz] at hcall
     rw [if_pos (by unfold keepB; rw [hz]; rfl)] at hkt
     have HKT := Aside0.mk hkt
     have HE0 := Aside0.mk e0
     have hix : i < X.length := by have := HI.out.2.2; have := HX.out.1; omega
     obtain ⟨old, hold⟩ : ∃ old, X[i]? = some old := ⟨_, List.getElem?_eq_getElem hix⟩
     have hx2 := hcell i old hold
     have HIX := Aside0.mk hix
     have hX2 : ∀ W : World, W.heap[g]? = some (.cells (X ++ tail).toArray 29 (0, 0)) → (W.setCell ⟨g, i, none⟩ (.slice A0 cs[j].2.length c0)).heap[g]? = some (.cells (X.set i (.slice A0 cs[j].2.length c0) ++ tail).toArray 29 (0, 0)) := fun W hW => by
      refine blk_put hW i _ ?_
      apply Array.toList_inj.1
      rw [Array.toList_setIfInBounds, List.set_append_left _ _ hix]
     have HX2 := Aside0.mk hX2
     have u0 : (0 ≤ (i : Int)) = True := eq_true (by omega)
     have u1 : ((i : Int) < (cs.length : Int)) = True := eq_true (by have := HX.out.1; omega)
     have u2 : (i < cs.length) = True := eq_true (by have := HX.out.1; omega)
     have hnp : ∃ np, np = cs[j].2.length := ⟨_, rfl⟩
     obtain ⟨np, hnp⟩ := hnp
     rw [← hnp] at x0 hcall HX2 HE0
     clear hz hkt r0 l0 e0 hcell hX2 hold hnp hix
     go_wp2_with (go_at_fn gn; (refine hcall.mono ?_; rintro e w3 ⟨rfl, hb⟩; have HW3 := a0_ (blk_below HW2.out hb); have z0 := hx2 w3 HW3.out; have z1 : w3.frozen? ⟨g, i, none⟩ = false := blk_frozen HW3.out _; have HBB3 := a0_ (HBB.out.below hb); clear hb hcall))
     go_roundg (cs.length - (j + 1))
     case measure => (have := HI.out; have := HJ.out; omega)
     case rel =>
      have hle := HIX.out
      have hlen := HX.out.1
      have hi := HI.out
      have hk2 : ((cs.take (j + 1)).filter (keepB p)).length = i + 1 := by rw [HKT.out, List.length_append, ← hi.2.1]; rfl
      refine ⟨i + 1, j + 1, X.set i (.slice A0 np c0), congrArg (Value.int .i64) HW.out.2, congrArg (Value.int .i64) HW.out.1, ⟨by have := HJ.out; omega, hk2.symm, by omega⟩, ⟨by rw [List.length_set]; exact hlen, fun q hq => ?_, fun q hq => ?_⟩, ⟨HX2.out _ HW3.out⟩, ⟨HBB3.out.set _ _⟩⟩
      ·rw [HKT.out]
       by_cases e : q = i
       ·subst e
        rw [List.getElem?_set_self hle, List.getElem?_append_right (by omega), hi.2.1, Nat.sub_self, ← HE0.out]
        rfl
       ·rw [List.getElem?_set_ne (by omega), HX.out.2.1 q (by omega), List.getElem?_append_left (by omega)]
      ·rw [List.getElem?_set_ne (by omega)]
       exact HX.out.2.2 q (by omega)
   ·have hend : j = cs.length := by have := HI.out.1; omega
    subst hend
    have hlt := HI.out.2.2
    have hkl := HI.out.2.1
    rw [List.take_length] at hkl
    have hcc := HC.out
    have d0 : decide ((cs.length : Int) < (cs.length : Int)) = false := decide_eq_false (by omega)
    have d1 : decide (cs.length < cs.length) = false := decide_eq_false (by omega)
    have g0 : (0 : Int) ≤ (i : Int) := by omega
    have g1 : (i : Int) ≤ (cs.length : Int) := by omega
    have g4 : ¬ cap = i := by omega
    have g5 : i ≤ cs.length := by omega
    have g6 : i ≤ cap := by omega
    have hblk : wr.heap[g]? = some (.cells (X.take i ++ (X.drop i ++ tail)).toArray 29 (0, 0)) := by rw [← List.append_assoc, List.take_append_drop]; exact HW2.out
    have hset := setCells_blk g 29 (0, 0) (List.replicate (cs.length - i) (.slice none 0 0)) (X.take i) (X.drop i) tail wr (by rw [List.length_drop, List.length_replicate, HX.out.1]) hblk
    rw [show (X.take i).length = i by rw [List.length_take, HX.out.1]; omega] at hset
    have hkp : X.take i = (cs.filter (keepB p)).map (·.1) := by
     refine List.ext_getElem? (fun q => ?_)
     by_cases hq : q < i
     ·have := HX.out.2.1 q hq
      rw [List.take_length] at this
      rw [List.getElem?_take_of_lt hq, this, List.getElem?_map]
     ·rw [List.getElem?_eq_none (by simp; omega), List.getElem?_eq_none (by rw [List.length_map]; omega)]
    rw [hkp] at hset
    have hcl : ∀ ty, (Builtin.clear_ #[22] ty #[.slice (some ⟨g, i, none⟩) (cs.length - i) (cap - i)]).run Tryz.prog wr = .ok (.tuple #[]) (wr.setCells g i (List.replicate (cs.length - i) (.slice none 0 0))) := fun ty =>
     Lib.run_clear_slice wr _ _ ty _ Tryz.underlying22 Tryz.zeroValue29 rfl rfl g i _ _ (by omega) (fun q hq => by
      rw [blk_cell HW2.out, List.getElem?_toArray, List.getElem?_append_left (by rw [HX.out.1]; omega), List.getElem?_eq_getElem (by rw [HX.out.1]; omega)]
      rfl) (fun q hq => blk_frozen HW2.out _)
    have HSET := Aside0.mk hset
    have HSB := a0_ (setCells_but g (List.replicate (cs.length - i) (.slice none 0 0)) i wr w HBB.out)
    have HKL := Aside0.mk hkl
    have HLT := Aside0.mk hlt
    clear hset hkp hblk hkl hcc hlt hj
    go_wp2
    go_ret
    refine ⟨by rw [← HKL.out]; rfl, ⟨List.replicate (cs.length - i) (.slice none 0 0) ++ tail, ?_, HR.out.step (fun q hq => (List.mem_filter.1 hq).1) HSET.out HSB.out.block⟩, HSB.out⟩
    rw [← HKL.out, List.length_append, List.length_replicate]
    have := HC.out.1
    have := HLT.out
    omega
theorem deleteL_calls (gn : Nat) (eg : ∀ args w, (callFunc gn args).run Tryz.prog w = .ok (.enter gn args) w) (p : List S56 → Bool) (w0 w : World) (base : Nat) (hB : Below base w0 w) (hb0 : base ≤ w0.heap.size) (v : Value) (L : List (List S56)) (hR : Kd.S (Kd.slice 56 k56) 29 w base (fun _ => True) v L) (hl : L.length ≤ 1000000)
  (S : World → Prop) (hS : ∀ W, Below base w0 W → S W) (hp : ∀ s ∈ L, ∀ A c (W : World), S W → Kd.C k56 W A s.length s → s.length ≤ c → Calls Tryz.prog gn #[.slice A s.length c] W fun e w' => e = .returned (.bool (p s)) ∧ Below W.heap.size W w') :
  Calls Tryz.prog 21 #[v, .func (.func gn) #[] #[]] w fun e w' => ∃ u, e = .returned u ∧ Kd.S (Kd.slice 56 k56) 29 w' base (fun _ => True) u (L.filter (fun s => !p s)) ∧ Below base w0 w' := by
 rcases RD_of_S hR with ⟨rfl, rfl⟩ | ⟨g, cap, cs, tail, rfl, hcs, hct, hm, hrows, hd⟩
 ·have hI : ∀ W : World, Calls Tryz.prog 40 #[.slice none 0 0, .func (.func gn) #[] #[]] W fun e w' => e = .returned (.int .i64 (-1)) ∧ w' = W := fun W => by
   go_enter Tryz.func40, Tryz.ntmps40
   go_wp2
   go_loopg [8] 0 (fun _ v8 w' => v8 = .int .i64 0 ∧ Aside0 (w' = W))
   case atStart => exact ⟨rfl, ⟨rfl⟩⟩
   case round =>
    obtain ⟨rfl, HW⟩ := hrel
    go_wp2
    go_ret
    exact ⟨rfl, HW.out⟩
  have HR := Aside0.mk hR
  have HB := Aside0.mk hB
  clear hR hB hp hS
  go_enter Tryz.func21, Tryz.ntmps21
  go_wp2_with (go_at_call 40; (refine (hI _).mono ?_; rintro e w1 ⟨rfl, rfl⟩))
  go_ret
  exact ⟨_, rfl, HR.out, HB.out⟩
 ·have hlen : cs.length = L.length := by rw [← hcs, List.length_map]
  rw [← hlen]
  have hdel := deleteS_calls gn eg p w base (fun _ => True) g cap cs tail hrows (by omega) hm (by omega) S (fun W hW => hS W (hW.from_ hB hb0 hrows.ge)) (fun j hj A c W hS' hC hc => hp _ (by rw [← hcs]; exact List.mem_map.2 ⟨_, List.getElem_mem hj, rfl⟩) A c W hS' hC hc)
  refine hdel.mono ?_
  rintro e w2 ⟨rfl, ⟨tail', ht', hr2⟩, hb2⟩
  refine ⟨_, rfl, ?_, hb2.from_ hB hb0 hrows.ge⟩
  have e : (cs.filter (keepB p)).map (·.2) = L.filter (fun s => !p s) := by
   rw [← hcs, List.filter_map]
   rfl
  have hl2 : (cs.filter (keepB p)).length = (L.filter (fun s => !p s)).length := by rw [← e, List.length_map]
  rw [hl2] at ht' ⊢
  exact S_of_RD (.inr ⟨g, cap, _, tail', rfl, e, ht', hm, hr2, hd.sublist List.filter_sublist⟩)
def netB (k : Nat) (s : List S56) : Bool := (impl_IsNet.f k s).getD false
set_option maxHeartbeats 1000000 in
theorem nets1_calls (k : Nat) (s : List S56) (A : Option Addr) (c : Nat) (W : World) (hG : Laid W) (hC : Kd.C k56 W A s.length s) (hc : s.length ≤ c) (h : (impl_IsNet.f k s).isSome = true) :
  Calls Tryz.prog 23 #[.slice A s.length c] W fun e w' => e = .returned (.bool (!netB k s)) ∧ Below W.heap.size W w' := by
 obtain ⟨b, hb⟩ := Option.isSome_iff_exists.1 h
 have hcall := impl_IsNet.calls k A c s b W hC hc hb hG
 have e : netB k s = b := by unfold netB; rw [hb]; rfl
 rw [e]
 clear h hb e hC hc hG
 go_enter Tryz.func23, Tryz.ntmps23
 go_wp2_with (go_at_call 12; (refine hcall.mono ?_; rintro e w1 ⟨rfl, hb⟩; have HB := Aside0.mk hb; clear hb hcall))
 go_ret
 exact ⟨rfl, HB.out⟩
def impl_Nets.f (k : Nat) : Option (List (List S56)) := (impl_ownForms.f k 6 8).bind fun L => if L.length ≤ 1000000 ∧ ∀ s ∈ L, (impl_IsNet.f k s).isSome = true then some (L.filter (netB k)) else none
set_option maxHeartbeats 4000000 in
theorem nets_S (k : Nat) (r : List (List S56)) (w : World) (h : impl_Nets.f k = some r) (hG : Laid w) :
  Calls Tryz.prog 6 #[] w fun e w' => ∃ v, e = .returned v ∧ Kd.S (Kd.slice 56 k56) 29 w' w.heap.size (fun _ => True) v r ∧ Below w.heap.size w w' := by
 obtain ⟨L, hL, h2⟩ := Option.bind_eq_some_iff.mp h
 split at h2
 case isFalse => cases h2
 rename_i hc
 obtain ⟨g2, g3⟩ := hc
 obtain rfl := Option.some.inj h2
 have hown := fun W => ownForms_S k 6 8 L W hL
 have HG := Aside0.mk hG
 have H1 := a0_ (And.intro g2 g3)
 clear h h2 hL g2 g3 hG
 go_enter Tryz.func6, Tryz.ntmps6
 go_wp2_with (first | (go_at_call 22; (refine (hown _).mono ?_; rintro e w1 ⟨v1, rfl, hr, hb⟩; have HR1 := Aside0.mk hr; have HB1 := Aside0.mk hb; clear hr hb hown)) | (go_at_call 21; (refine (deleteL_calls 23 (enters_of Tryz.func23 kr_ rfl) (fun s => !netB k s) w w1 _ HB1.out (Nat.le_refl _) v1 L HR1.out H1.out.1 Laid (fun W hW => Laid.below HG.out hW) (fun s hs A c W hl hC hc => nets1_calls k s A c W hl hC hc (H1.out.2 s hs))).mono ?_; rintro e w2 ⟨u, rfl, hr, hb⟩; have HR2 := Aside0.mk hr; have HB2 := Aside0.mk hb; clear hr hb)))
 go_ret
 refine ⟨_, rfl, ?_, HB2.out⟩
 have e : (fun s => !(fun s => !netB k s) s) = netB k := funext fun s => by simp
 have h3 := HR2.out
 rw [e] at h3
 exact h3
theorem impl_Nets.calls (k : Nat) (r : List (List S56)) (w : World) (h : impl_Nets.f k = some r) (hG : Laid w) :
  Calls Tryz.prog 6 #[] w fun e w' => ∃ v0_ : Value, e = .returned (v0_) ∧ Kd.V (Kd.slice 56 k56) 29 w' w.heap.size (fun k_ => (w.heap.size ≤ k_)) v0_ r ∧ Below w.heap.size w w' :=
 (nets_S k r w h hG).mono fun _ _ ⟨v, h1, h2, h3⟩ => ⟨v, h1, Kd.V_mono (Kd.R_V (Kd.R_bound (Kd.S_R h2))) (fun k_ hk_ => hk_.2.1), h3⟩
def laws_big.f (l0 : List Int) : Option (Bool) := some (decide ((l0.length : Int) > 4096))
set_option maxHeartbeats 8000000 in
set_option maxRecDepth 100000 in
theorem laws_big.calls (A0 : Option Addr) (c0 : Nat) (l0 : List Int) (r : Bool) (w : World) (hr0 : Kd.C (Kd.int .u8) w A0 l0.length l0) (hc0 : l0.length ≤ c0) (h : laws_big.f l0 = some r) :
  Calls Tryz.prog 10 #[.slice A0 l0.length c0] w fun e w' => e = .returned (.bool r) ∧ Drawn0 w w' := by
 have HR0 := Aside0.mk hr0
 have HC0 := Aside0.mk hc0
 clear hr0 hc0
 have H : (some (decide ((l0.length : Int) > 4096))) = some r := h
 clear h
 obtain rfl := Option.some.inj H
 go_enter Tryz.func10, Tryz.ntmps10
 go_wp2
 go_ret
 exact ⟨by first | rfl | (simp; done) | (simp [*]; done), by repeat (first | exact Drawn0.refl _ | apply Drawn0.step)⟩
def IsS67 (w0 W : World) (g : Nat) (f0 : List Int) (f1 : Int) (f2 : Int) : Prop := ∃ A0 c0, W.heap[g]? = some (.cells #[.slice A0 f0.length c0, .int .i64 f1, .int .i64 f2] 67 (0, 0)) ∧ w0.heap.size ≤ g ∧ Kd.C (Kd.int .u8) w0 A0 f0.length f0
theorem IsS67.grown {w0 W : World} {g : Nat} {f0 : List Int} {f1 : Int} {f2 : Int} {W1 : World} {row : Option Nat} (h : IsS67 w0 W g f0 f1 f2) (hw : W.grownBy W1 row) (hne : some g ≠ row) : IsS67 w0 W1 g f0 f1 f2 := by
 obtain ⟨A0, c0, hb, hg, hr0⟩ := h
 exact ⟨A0, c0, blk_grown hb hw hne, hg, hr0⟩
theorem IsS67.below {w0 W : World} {g : Nat} {f0 : List Int} {f1 : Int} {f2 : Int} {W1 : World} (h : IsS67 w0 W g f0 f1 f2) (hw : Below W.heap.size W W1) : IsS67 w0 W1 g f0 f1 f2 := h.grown (grown_of_below hw none) (by simp)
theorem IsS67.drewN {w0 W : World} {g : Nat} {f0 : List Int} {f1 : Int} {f2 : Int} (h : IsS67 w0 W g f0 f1 f2) (m : Nat) : IsS67 w0 (W.drewN m) g f0 f1 f2 := h
theorem IsS67.drew {w0 W : World} {g : Nat} {f0 : List Int} {f1 : Int} {f2 : Int} (h : IsS67 w0 W g f0 f1 f2) : IsS67 w0 W.drew g f0 f1 f2 := h
theorem IsS67.apart {w0 W : World} {g : Nat} {f0 : List Int} {f1 : Int} {f2 : Int} {α : Type} {d : Kd α} {e : Nat} {base : Nat} {ok : Nat → Prop} {v : Value} {xs : List α} (h : IsS67 w0 W g f0 f1 f2) (ho : d.R e W base ok v xs) (ht : ∀ q, q ∈ e :: d.E → q ≠ 67) : d.R e W base (fun k => ok k ∧ k ≠ g) v xs := by
 obtain ⟨A0, c0, hb, hg, hr0⟩ := h
 exact Kd.R_types ho hb ht
theorem IsS67.own_ne {w0 W : World} {g : Nat} {f0 : List Int} {f1 : Int} {f2 : Int} {α : Type} {d : Kd α} {e : Nat} {base : Nat} {ok : Nat → Prop} {v : Value} {xs : List α} (h : IsS67 w0 W g f0 f1 f2) (ho : d.R e W base ok v xs) (ht : e ≠ 67) : some g ≠ v.ownBlock := by
 obtain ⟨A0, c0, hb, hg, hr0⟩ := h
 exact Kd.R_ne ho hb ht
theorem IsS67.lt {w0 W : World} {g : Nat} {f0 : List Int} {f1 : Int} {f2 : Int} (h : IsS67 w0 W g f0 f1 f2) : g < W.heap.size := by
 obtain ⟨A0, c0, hb, hg, hr0⟩ := h
 exact blk_lt hb
theorem IsS67.ge {w0 W : World} {g : Nat} {f0 : List Int} {f1 : Int} {f2 : Int} (h : IsS67 w0 W g f0 f1 f2) : w0.heap.size ≤ g := by
 obtain ⟨A0, c0, hb, hg, hr0⟩ := h
 exact hg
theorem IsS67.far {w0 W : World} {g : Nat} {f0 : List Int} {f1 : Int} {f2 : Int} {p : Addr} (h : IsS67 w0 W g f0 f1 f2) (hne : g ≠ p.block) (u : Value) : IsS67 w0 (W.setCell p u) g f0 f1 f2 := by
 obtain ⟨A0, c0, hb, hg, hr0⟩ := h
 exact ⟨A0, c0, blk_far hb hne u, hg, hr0⟩
theorem cellS67_0 {W : World} {g : Nat} {A0 : Option Addr} {c0 : Nat} {f0 : List Int} {f1 : Int} {f2 : Int} (h : W.heap[g]? = some (.cells #[.slice A0 f0.length c0, .int .i64 f1, .int .i64 f2] 67 (0, 0))) : W.cell? ⟨g, 0, none⟩ = some (.slice A0 f0.length c0) := (blk_cell h 0).trans rfl
theorem cellS67_1 {W : World} {g : Nat} {A0 : Option Addr} {c0 : Nat} {f0 : List Int} {f1 : Int} {f2 : Int} (h : W.heap[g]? = some (.cells #[.slice A0 f0.length c0, .int .i64 f1, .int .i64 f2] 67 (0, 0))) : W.cell? ⟨g, 1, none⟩ = some (.int .i64 f1) := (blk_cell h 1).trans rfl
theorem IsS67.set_1 {w0 W : World} {g : Nat} {f0 : List Int} {f1 : Int} {f2 : Int} (h : IsS67 w0 W g f0 f1 f2) (x : Int) : IsS67 w0 (W.setCell ⟨g, 1, none⟩ (.int .i64 x)) g f0 x f2 := by
 obtain ⟨A0, c0, hb, hg, hr0⟩ := h
 exact ⟨A0, c0, by simpa using blk_set hb 1 (.int .i64 x), hg, hr0⟩
theorem cellS67_2 {W : World} {g : Nat} {A0 : Option Addr} {c0 : Nat} {f0 : List Int} {f1 : Int} {f2 : Int} (h : W.heap[g]? = some (.cells #[.slice A0 f0.length c0, .int .i64 f1, .int .i64 f2] 67 (0, 0))) : W.cell? ⟨g, 2, none⟩ = some (.int .i64 f2) := (blk_cell h 2).trans rfl
theorem IsS67.set_2 {w0 W : World} {g : Nat} {f0 : List Int} {f1 : Int} {f2 : Int} (h : IsS67 w0 W g f0 f1 f2) (x : Int) : IsS67 w0 (W.setCell ⟨g, 2, none⟩ (.int .i64 x)) g f0 f1 x := by
 obtain ⟨A0, c0, hb, hg, hr0⟩ := h
 exact ⟨A0, c0, by simpa using blk_set hb 2 (.int .i64 x), hg, hr0⟩
theorem is67_ {p q : Prop} (g : q) (h : q → p := by intro G_; repeat (first | (with_reducible first | exact G_ | apply IsS67.alloc | apply IsS67.drewN | apply IsS67.drew | apply IsS67.set_1 | apply IsS67.set_2) | exact G_)) : p := h g
def spec_l01Next.f (s0_0 : List Int) (s0_1 : Int) (s0_2 : Int) (a1 : Int) : Option (Int × Int × Int) := if a1 ≤ 1 then (some (0, s0_1, s0_2)) else (if s0_1 < (s0_0.length : Int) then (if 0 ≤ s0_1 then (if a1 ≤ 256 then (if (Int.tmod (wrap64 (s0_1 + 1)) 2) = 0 then (if 0 ≤ (wrap64 ((wrap64 (s0_1 + 1)) - 1)) then (if (wrap64 ((wrap64 (s0_1 + 1)) - 1)) < (s0_0.length : Int) then (if a1 = 0 then (none) else (some (Int.tmod (wrap64 (rd s0_0 (wrap64 ((wrap64 (s0_1 + 1)) - 1)))) a1, wrap64 (s0_1 + 1), Int.tmod (wrap64 ((wrap64 (s0_2 * 48271)) + 29)) 2147483647))) else (none)) else (none)) else (if a1 = 0 then (none) else (some (Int.tmod (wrap64 ((wrap64 (Int.tdiv (Int.tmod (wrap64 ((wrap64 (s0_2 * 48271)) + 29)) 2147483647) 31)) + (wrap64 (rd s0_0 s0_1)))) a1, wrap64 (s0_1 + 1), Int.tmod (wrap64 ((wrap64 (s0_2 * 48271)) + 29)) 2147483647)))) else (if a1 = 0 then (none) else (some (Int.tmod (wrap64 ((wrap64 (Int.tdiv (Int.tmod (wrap64 ((wrap64 (s0_2 * 48271)) + 29)) 2147483647) 31)) + (wrap64 (rd s0_0 s0_1)))) a1, wrap64 (s0_1 + 1), Int.tmod (wrap64 ((wrap64 (s0_2 * 48271)) + 29)) 2147483647)))) else (none)) else (if a1 = 0 then (none) else (some (Int.tmod (wrap64 (Int.tdiv (Int.tmod (wrap64 ((wrap64 (s0_2 * 48271)) + 29)) 2147483647) 31)) a1, s0_1, Int.tmod (wrap64 ((wrap64 (s0_2 * 48271)) + 29)) 2147483647))))
set_option maxHeartbeats 8000000 in
set_option maxRecDepth 100000 in
theorem spec_l01Next.calls (g : Nat) (s0_0 : List Int) (s0_1 : Int) (s0_2 : Int) (a1 : Int) (r1 : Int) (r2 : Int) (r3 : Int) (w0 w : World) (hI : IsS67 w0 w g s0_0 s0_1 s0_2) (hB : Below w0.heap.size w0 w) (h : spec_l01Next.f s0_0 s0_1 s0_2 a1 = some (r1, r2, r3)) :
  Calls Tryz.prog 46 #[.pointer (some ⟨g, 0, none⟩), .int .i64 a1] w fun e w' => e = .returned (.int .i64 r1) ∧ IsS67 w0 w' g s0_0 r2 r3 ∧ Below w0.heap.size w0 w' ∧ KeepBut w w' g none := by
 have HI0 := Aside0.mk hI
 have HK := a0_ (KeepBut.refl w g none)
 have HL := Aside0.mk hB.size
 clear hI
 have HW0 := Aside0.mk hB.size
 have HB := Aside0.mk hB
 clear hB
 have H := h
 clear h
 unfold spec_l01Next.f at H
 by_cases c3 : a1 ≤ 1
 ·rw [if_pos c3] at H
  have c3b0 : decide (a1 ≤ 1) = true := decide_eq_true c3
  clear c3
  simp only [Option.some.injEq, Prod.mk.injEq] at H
  obtain ⟨rfl, rfl, rfl⟩ := H
  go_enter Tryz.func46, Tryz.ntmps46
  go_wp2
  repeat (go_quiet (fail); try go_wp2)
  go_ret
  exact ⟨er_, is67_ HI0.out, bl1_ (IsS67.ge HI0.out), kb0_⟩
 ·rw [if_neg c3] at H
  have c3b0 : decide (a1 ≤ 1) = false := decide_eq_false c3
  clear c3
  by_cases c4 : s0_1 < (s0_0.length : Int)
  ·rw [if_pos c4] at H
   have c4b0 : decide (s0_1 < (s0_0.length : Int)) = true := decide_eq_true c4
   clear c4
   by_cases c5 : 0 ≤ s0_1
   ·rw [if_pos c5] at H
    have c5b0 : decide (0 ≤ s0_1) = true := decide_eq_true c5
    clear c5
    by_cases c6 : a1 ≤ 256
    ·rw [if_pos c6] at H
     have c6b0 : decide (a1 ≤ 256) = true := decide_eq_true c6
     clear c6
     by_cases c7 : (Int.tmod (wrap64 (s0_1 + 1)) 2) = 0
     ·rw [if_pos c7] at H
      have c7b0 : ((Int.tmod (wrap64 (s0_1 + 1)) 2) == 0) = true := beq_iff_eq.mpr c7
      have c7b1 : ((Int.tmod (wrap64 (s0_1 + 1)) 2) != 0) = false := bne_eq_false_iff_eq.mpr c7
      clear c7
      obtain ⟨ji8, hji8⟩ : ∃ j_ : Int, (wrap64 ((wrap64 (s0_1 + 1)) - 1)) = j_ := ⟨_, rfl⟩
      replace H : (if 0 ≤ (ji8) then (if (ji8) < (s0_0.length : Int) then (if a1 = 0 then (none) else (some (Int.tmod (wrap64 (rd s0_0 (ji8))) a1, wrap64 (s0_1 + 1), Int.tmod (wrap64 ((wrap64 (s0_2 * 48271)) + 29)) 2147483647))) else (none)) else (none)) = some (r1, r2, r3) := by first | (rw [hji8] at H; exact H) | (simp only [hji8] at H ⊢; exact H)
      have hji8w : (IntKind.i64.wrap ((wrap64 (s0_1 + 1)) - 1)) = ji8 := (i64_w _).trans hji8
      by_cases c9 : 0 ≤ (ji8)
      ·rw [if_pos c9] at H
       have c9b0 : decide (0 ≤ (ji8)) = true := decide_eq_true c9
       clear c9
       by_cases c10 : (ji8) < (s0_0.length : Int)
       ·rw [if_pos c10] at H
        have c10b0 : decide ((ji8) < (s0_0.length : Int)) = true := decide_eq_true c10
        clear c10
        by_cases c11 : a1 = 0
        ·rw [if_pos c11] at H
         exact absurd H (by simp)
        ·rw [if_neg c11] at H
         have c11b0 : (a1 == 0) = false := beq_eq_false_iff_ne.mpr c11
         have c11b1 : (a1 != 0) = true := bne_iff_ne.mpr c11
         simp only [Option.some.injEq, Prod.mk.injEq] at H
         obtain ⟨rfl, rfl, rfl⟩ := H
         obtain ⟨ASz12_0, cSz12_0, HGz12, hgz12, HSz12_0⟩ := HI0.out
         have hcz12_0 := cellS67_0 HGz12
         have hcz12_1 := cellS67_1 HGz12
         have hcz12_2 := cellS67_2 HGz12
         have hfz12_1 := blk_frozen HGz12 1
         have hfz12_2 := blk_frozen HGz12 2
         clear HGz12 hgz12
         have p444 : 0 ≤ (s0_1 : Int) := od_
         have q444 : s0_1 < (s0_0.length : Int) := od_
         obtain ⟨ad444, e444, hx444_0⟩ := Kd.at_int HSz12_0 s0_1 p444 q444
         cases e444
         have hn444_0 : ad444.block ≠ g := Nat.ne_of_lt (Nat.lt_of_lt_of_le (by have := World.block_lt_of_cell? _ _ hx444_0; first | rwa [add_block] at this | exact this) (IsS67.ge HI0.out))
         replace hx444_0 := pw_cell_below HB.out hx444_0
         replace hx444_0 := (cell_far (p := ⟨g, 2, none⟩) (by first | (rw [add_block]; exact hn444_0) | (show (Addr.add _ _).block ≠ _; rw [add_block]; exact hn444_0) | exact hn444_0) (.int .i64 (Int.tmod (wrap64 ((wrap64 (s0_2 * 48271)) + 29)) 2147483647))).trans hx444_0
         (try have hy444_0 := fun (n_ : Nat) => (show (((w.drewN n_).setCell ⟨g, 2, none⟩ (.int .i64 (Int.tmod (wrap64 ((wrap64 (s0_2 * 48271)) + 29)) 2147483647)))).cell? _ = some _ from hx444_0))
         clear hn444_0
         replace p444 := eq_true p444
         replace q444 := eq_true q444
         have p445 : 0 ≤ ((ji8) : Int) := od_
         have q445 : (ji8) < (s0_0.length : Int) := od_
         obtain ⟨ad445, e445, hx445_0⟩ := Kd.at_int HSz12_0 (ji8) p445 q445
         obtain rfl : ad444 = ad445 := (by injection e445)
         have hn445_0 : ad444.block ≠ g := Nat.ne_of_lt (Nat.lt_of_lt_of_le (by have := World.block_lt_of_cell? _ _ hx445_0; first | rwa [add_block] at this | exact this) (IsS67.ge HI0.out))
         have hn445_1 : ad444.block ≠ g := Nat.ne_of_lt (Nat.lt_of_lt_of_le (by have := World.block_lt_of_cell? _ _ hx445_0; first | rwa [add_block] at this | exact this) (IsS67.ge HI0.out))
         replace hx445_0 := pw_cell_below HB.out hx445_0
         replace hx445_0 := (cell_far (p := ⟨g, 2, none⟩) (by first | (rw [add_block]; exact hn445_0) | (show (Addr.add _ _).block ≠ _; rw [add_block]; exact hn445_0) | exact hn445_0) (.int .i64 (Int.tmod (wrap64 ((wrap64 (s0_2 * 48271)) + 29)) 2147483647))).trans hx445_0
         replace hx445_0 := (cell_far (p := ⟨g, 1, none⟩) (by first | (rw [add_block]; exact hn445_1) | (show (Addr.add _ _).block ≠ _; rw [add_block]; exact hn445_1) | exact hn445_1) (.int .i64 (wrap64 (s0_1 + 1)))).trans hx445_0
         (try have hy445_0 := fun (n_ : Nat) => (show ((((w.drewN n_).setCell ⟨g, 2, none⟩ (.int .i64 (Int.tmod (wrap64 ((wrap64 (s0_2 * 48271)) + 29)) 2147483647))).setCell ⟨g, 1, none⟩ (.int .i64 (wrap64 (s0_1 + 1))))).cell? _ = some _ from hx445_0))
         (try have hz445_0 := fun (n_ : Nat) => (show ((((w.setCell ⟨g, 2, none⟩ (.int .i64 (Int.tmod (wrap64 ((wrap64 (s0_2 * 48271)) + 29)) 2147483647))).drewN n_).setCell ⟨g, 1, none⟩ (.int .i64 (wrap64 (s0_1 + 1))))).cell? _ = some _ from hx445_0))
         clear hn445_0
         clear hn445_1
         replace p445 := eq_true p445
         replace q445 := eq_true q445
         go_enter Tryz.func46, Tryz.ntmps46
         go_wp2
         repeat (go_quiet (fail); try go_wp2)
         go_ret
         exact ⟨by first | rfl | (simp [errW_none, errW_some] <;> rfl) | (simp only [← hji8]; first | rfl | (simp [errW_none, errW_some] <;> rfl)) | (simp [*, errW_none, errW_some] <;> rfl), is67_ HI0.out, bl1_ (IsS67.ge HI0.out), kb0_⟩
       ·rw [if_neg c10] at H
        exact absurd H (by simp)
      ·rw [if_neg c9] at H
       exact absurd H (by simp)
     ·rw [if_neg c7] at H
      have c7b0 : ((Int.tmod (wrap64 (s0_1 + 1)) 2) == 0) = false := beq_eq_false_iff_ne.mpr c7
      have c7b1 : ((Int.tmod (wrap64 (s0_1 + 1)) 2) != 0) = true := bne_iff_ne.mpr c7
      by_cases c13 : a1 = 0
      ·rw [if_pos c13] at H
       exact absurd H (by simp)
      ·rw [if_neg c13] at H
       have c13b0 : (a1 == 0) = false := beq_eq_false_iff_ne.mpr c13
       have c13b1 : (a1 != 0) = true := bne_iff_ne.mpr c13
       simp only [Option.some.injEq, Prod.mk.injEq] at H
       obtain ⟨rfl, rfl, rfl⟩ := H
       obtain ⟨ASz14_0, cSz14_0, HGz14, hgz14, HSz14_0⟩ := HI0.out
       have hcz14_0 := cellS67_0 HGz14
       have hcz14_1 := cellS67_1 HGz14
       have hcz14_2 := cellS67_2 HGz14
       have hfz14_1 := blk_frozen HGz14 1
       have hfz14_2 := blk_frozen HGz14 2
       clear HGz14 hgz14
       have p444 : 0 ≤ (s0_1 : Int) := od_
       have q444 : s0_1 < (s0_0.length : Int) := od_
       obtain ⟨ad444, e444, hx444_0⟩ := Kd.at_int HSz14_0 s0_1 p444 q444
       cases e444
       have hn444_0 : ad444.block ≠ g := Nat.ne_of_lt (Nat.lt_of_lt_of_le (by have := World.block_lt_of_cell? _ _ hx444_0; first | rwa [add_block] at this | exact this) (IsS67.ge HI0.out))
       replace hx444_0 := pw_cell_below HB.out hx444_0
       replace hx444_0 := (cell_far (p := ⟨g, 2, none⟩) (by first | (rw [add_block]; exact hn444_0) | (show (Addr.add _ _).block ≠ _; rw [add_block]; exact hn444_0) | exact hn444_0) (.int .i64 (Int.tmod (wrap64 ((wrap64 (s0_2 * 48271)) + 29)) 2147483647))).trans hx444_0
       (try have hy444_0 := fun (n_ : Nat) => (show (((w.drewN n_).setCell ⟨g, 2, none⟩ (.int .i64 (Int.tmod (wrap64 ((wrap64 (s0_2 * 48271)) + 29)) 2147483647)))).cell? _ = some _ from hx444_0))
       clear hn444_0
       replace p444 := eq_true p444
       replace q444 := eq_true q444
       go_enter Tryz.func46, Tryz.ntmps46
       go_wp2
       repeat (go_quiet (fail); try go_wp2)
       go_ret
       exact ⟨er_, is67_ HI0.out, bl1_ (IsS67.ge HI0.out), kb0_⟩
    ·rw [if_neg c6] at H
     have c6b0 : decide (a1 ≤ 256) = false := decide_eq_false c6
     clear c6
     by_cases c15 : a1 = 0
     ·rw [if_pos c15] at H
      exact absurd H (by simp)
     ·rw [if_neg c15] at H
      have c15b0 : (a1 == 0) = false := beq_eq_false_iff_ne.mpr c15
      have c15b1 : (a1 != 0) = true := bne_iff_ne.mpr c15
      simp only [Option.some.injEq, Prod.mk.injEq] at H
      obtain ⟨rfl, rfl, rfl⟩ := H
      obtain ⟨ASz16_0, cSz16_0, HGz16, hgz16, HSz16_0⟩ := HI0.out
      have hcz16_0 := cellS67_0 HGz16
      have hcz16_1 := cellS67_1 HGz16
      have hcz16_2 := cellS67_2 HGz16
      have hfz16_1 := blk_frozen HGz16 1
      have hfz16_2 := blk_frozen HGz16 2
      clear HGz16 hgz16
      have p444 : 0 ≤ (s0_1 : Int) := od_
      have q444 : s0_1 < (s0_0.length : Int) := od_
      obtain ⟨ad444, e444, hx444_0⟩ := Kd.at_int HSz16_0 s0_1 p444 q444
      cases e444
      have hn444_0 : ad444.block ≠ g := Nat.ne_of_lt (Nat.lt_of_lt_of_le (by have := World.block_lt_of_cell? _ _ hx444_0; first | rwa [add_block] at this | exact this) (IsS67.ge HI0.out))
      replace hx444_0 := pw_cell_below HB.out hx444_0
      replace hx444_0 := (cell_far (p := ⟨g, 2, none⟩) (by first | (rw [add_block]; exact hn444_0) | (show (Addr.add _ _).block ≠ _; rw [add_block]; exact hn444_0) | exact hn444_0) (.int .i64 (Int.tmod (wrap64 ((wrap64 (s0_2 * 48271)) + 29)) 2147483647))).trans hx444_0
      (try have hy444_0 := fun (n_ : Nat) => (show (((w.drewN n_).setCell ⟨g, 2, none⟩ (.int .i64 (Int.tmod (wrap64 ((wrap64 (s0_2 * 48271)) + 29)) 2147483647)))).cell? _ = some _ from hx444_0))
      clear hn444_0
      replace p444 := eq_true p444
      replace q444 := eq_true q444
      go_enter Tryz.func46, Tryz.ntmps46
      go_wp2
      repeat (go_quiet (fail); try go_wp2)
      go_ret
      exact ⟨er_, is67_ HI0.out, bl1_ (IsS67.ge HI0.out), kb0_⟩
   ·rw [if_neg c5] at H
    exact absurd H (by simp)
  ·rw [if_neg c4] at H
   have c4b0 : decide (s0_1 < (s0_0.length : Int)) = false := decide_eq_false c4
   clear c4
   by_cases c17 : a1 = 0
   ·rw [if_pos c17] at H
    exact absurd H (by simp)
   ·rw [if_neg c17] at H
    have c17b0 : (a1 == 0) = false := beq_eq_false_iff_ne.mpr c17
    have c17b1 : (a1 != 0) = true := bne_iff_ne.mpr c17
    simp only [Option.some.injEq, Prod.mk.injEq] at H
    obtain ⟨rfl, rfl, rfl⟩ := H
    obtain ⟨ASz18_0, cSz18_0, HGz18, hgz18, HSz18_0⟩ := HI0.out
    have hcz18_0 := cellS67_0 HGz18
    have hcz18_1 := cellS67_1 HGz18
    have hcz18_2 := cellS67_2 HGz18
    have hfz18_1 := blk_frozen HGz18 1
    have hfz18_2 := blk_frozen HGz18 2
    clear HGz18 hgz18
    go_enter Tryz.func46, Tryz.ntmps46
    go_wp2
    repeat (go_quiet (fail); try go_wp2)
    go_ret
    exact ⟨er_, is67_ HI0.out, bl1_ (IsS67.ge HI0.out), kb0_⟩
def spec_l02DrawPoly.l0 : Nat → List (S56) → Int → List Int → Int → Int → Option ((List (S56)) × Int × Int)
 | 0, _, _, _, _, _ => none
 | k + 1, x5, x6, x1000, x1001, x1002 => if x6 > 0 then ((spec_l02Neighbours.f k x5).bind fun t452 => ((spec_l01Next.f x1000 x1001 x1002 (t452.length : Int)).bind fun bt455 => (if 0 ≤ bt455.1 then (if bt455.1 < (t452.length : Int) then ((spec_l02Insert.f k x5 ((rd_T56 t452 bt455.1).f0) ((rd_T56 t452 bt455.1).f1)).bind fun t459 => (spec_l02DrawPoly.l0 k t459 (wrap64 (x6 - 1)) x1000 bt455.2.1 bt455.2.2)) else (none)) else (none)))) else ((spec_l02Normal.f k x5).bind fun t462 => (some (t462, x1001, x1002)))
def spec_l02DrawPoly.f (k : Nat) (s0_0 : List Int) (s0_1 : Int) (s0_2 : Int) (a1 : Int) : Option ((List (S56)) × Int × Int) := (spec_l01Next.f s0_0 s0_1 s0_2 a1).bind fun bt449 => (spec_l02DrawPoly.l0 k (([(⟨0, 0⟩ : S56)] : List (S56))) bt449.1 s0_0 bt449.2.1 bt449.2.2)
set_option maxHeartbeats 8000000 in
set_option maxRecDepth 100000 in
theorem spec_l02DrawPoly.calls (k : Nat) (g : Nat) (s0_0 : List Int) (s0_1 : Int) (s0_2 : Int) (a1 : Int) (r1 : List (S56)) (r2 : Int) (r3 : Int) (w0 w : World) (hI : IsS67 w0 w g s0_0 s0_1 s0_2) (hB : Below w0.heap.size w0 w) (h : spec_l02DrawPoly.f k s0_0 s0_1 s0_2 a1 = some (r1, r2, r3)) :
  Calls Tryz.prog 77 #[.pointer (some ⟨g, 0, none⟩), .int .i64 a1] w fun e w' => ∃ v0_ : Value, e = .returned (v0_) ∧ Kd.R k56 56 w' w.heap.size (fun _ => True) v0_ r1 ∧ IsS67 w0 w' g s0_0 r2 r3 ∧ Below w0.heap.size w0 w' ∧ KeepBut w w' g none := by
 have hu56 := Tryz.underlying56
 have HI0 := Aside0.mk hI
 have HK := a0_ (KeepBut.refl w g none)
 have HL := Aside0.mk hB.size
 clear hI
 have HW0 := Aside0.mk hB.size
 have HB := Aside0.mk hB
 clear hB
 have H := h
 clear h
 unfold spec_l02DrawPoly.f at H
 obtain ⟨y446, hy446⟩ : ∃ y_ : List (S56), y_ = (([(⟨0, 0⟩ : S56)] : List (S56))) := ⟨_, rfl⟩
 replace H : ((spec_l01Next.f s0_0 s0_1 s0_2 a1).bind fun bt449 => (spec_l02DrawPoly.l0 k y446 bt449.1 s0_0 bt449.2.1 bt449.2.2)) = some (r1, r2, r3) := hh_ hy446 H
 have Ny446 := Aside0.mk hy446
 clear hy446
 obtain ⟨⟨t449, t450, t451⟩, A3, H⟩ := bs_ H
 dsimp only at H
 have H' := Aside0.mk H
 clear H
 go_enter Tryz.func77, Tryz.ntmps77
 go_wp2_with (first | ((with_reducible refine gate_dst (N := 9) rfl ?_); refine Kd.R_lit k56 _ 56 ?hg (N := 9) ?hd (xs := ([(⟨0, 0⟩ : S56)] : List (S56))) (inner := [.int .i64 0, .int .i64 0]) (ok := fun _ => True) (okp := fun _ => True) ?hr ?hp (fun _ hk => hk) trivial (Below.refl _ _) (Nat.le_refl _) (by simp) ?_; (case hd => rfl); (case hg => rfl); (case hr => first | (go_simp; done) | (go_simp; rfl)); (case hp => exact (Reps.c2 (show Kd.M k56 _ _ _ (⟨0, 0⟩ : S56) [.int .i64 0, .int .i64 0] from (k56_mkM _ _ _ (⟨0, 0⟩ : S56) )) (Reps.none _ _))); intro v447 w4 ho5 hb hg_ hnew_; clear hg_ hnew_; (first | rw [← Ny446.out] at ho5 | (simp only [Int.reduceToNat] at ho5; rw [← Ny446.out] at ho5)); have HO448 := a0_ (Kd.R_lower ho5 (keep_size (w := w) (g := g) (row := none) (kb0_))); replace HK := a0_ (KeepBut.trans (kb0_) (KeepBut.of_below hb g none) (.inl rfl)); replace HB := a0_ (below_step (bl1_ (IsS67.ge HI0.out)) hb); replace HI0 := a0_ (IsS67.below (is67_ HI0.out) hb); clear hb ho5) | ((with_reducible refine gate_callee (f := 46) rfl ?_); refine goesL_ (some 12) rfl rfl Tryz.func46 kr_ rfl #[.pointer (some ⟨g, 0, none⟩), .int .i64 a1] rfl ta_ ?_; (with_reducible refine (spec_l01Next.calls g s0_0 s0_1 s0_2 a1 t449 t450 t451 w0 _ ?side1 ?side2 A3.out).mono ?_); (case side1 => exact is67_ HI0.out); (case side2 => exact bl1_ (IsS67.ge HI0.out)); rintro e w6 ⟨rfl, hi, hb, hk⟩; refine ⟨_, rfl, ?_⟩; replace HO448 := a0_ (Kd.R_mono (Kd.R_keep (IsS67.apart (show IsS67 w0 _ g s0_0 s0_1 s0_2 from is67_ HI0.out) (ra_ HO448.out) (by decide)) hk (fun _ h => h.2)) (fun _ h => h.1)); replace HK := a0_ (KeepBut.trans (kb0_) hk (.inl rfl)); replace HB := a0_ (hb); replace HI0 := a0_ (hi); (try clear hb); (try clear hk); (try clear hi)))
 go_loopg [5, 6] k (fun kq v5 v6 w' => ∃ (x5_1 : List (S56)) (x6_1 : Int) (x1001_1 : Int) (x1002_1 : Int), v6 = .int .i64 x6_1 ∧ Aside0 (spec_l02DrawPoly.l0 kq x5_1 x6_1 s0_0 x1001_1 x1002_1 = some (r1, r2, r3)) ∧ Aside0 (kq ≤ k) ∧ Aside0 (Kd.R k56 56 w' w.heap.size (fun _ => True) v5 x5_1) ∧ Aside0 (IsS67 w0 w' g s0_0 x1001_1 x1002_1) ∧ Aside0 (KeepBut w w' g none) ∧ Aside0 (Below w0.heap.size w0 w'))
 case atStart => exact ⟨(y446), (t449), (t450), (t451), rs_, H', ⟨Nat.le_refl _⟩, ⟨ra_ HO448.out⟩, ⟨is67_ HI0.out⟩, ⟨kb0_⟩, ⟨bl1_ (IsS67.ge HI0.out)⟩⟩
 case round =>
  clear H'
  obtain ⟨x5_1, x6_1, x1001_1, x1002_1, rfl, HA, HK1, HO_5, HI0, HK, HB⟩ := hrel
  cases gk with
  | zero => exact absurd HA.out (by simp [spec_l02DrawPoly.l0])
  | succ k1 =>
   have H := HA.out
   clear HA
   simp only [spec_l02DrawPoly.l0] at H
   by_cases c7 : x6_1 > 0
   ·rw [if_pos c7] at H
    have c7b0 : decide (0 < x6_1) = true := decide_eq_true c7
    clear c7
    obtain ⟨t452, A8, H⟩ := bs_ H
    obtain ⟨⟨t455, t456, t457⟩, A9, H⟩ := bs_ H
    dsimp only at H
    by_cases c10 : 0 ≤ t455
    ·rw [if_pos c10] at H
     have c10b0 : decide (0 ≤ t455) = true := decide_eq_true c10
     clear c10
     by_cases c11 : t455 < (t452.length : Int)
     ·rw [if_pos c11] at H
      have c11b0 : decide (t455 < (t452.length : Int)) = true := decide_eq_true c11
      clear c11
      obtain ⟨t459, A12, H⟩ := bs_ H
      have H' := Aside0.mk H
      clear H
      obtain ⟨Ao13, co13, eo13⟩ := Kd.R_slice HO_5.out
      subst eo13
      go_wp2_with (first | ((with_reducible refine gate_callee (f := 49) rfl ?_); refine goesL_ (some 18) rfl rfl Tryz.func49 kr_ rfl #[.slice Ao13 x5_1.length co13] rfl ta_ ?_; (with_reducible refine (spec_l02Neighbours.calls k1 _ _ x5_1 t452 _ ?side1 ?side2 A8.out).mono ?_); (case side1 => exact ca_ (Kd.R_reads' HO_5.out).2.2); (case side2 => exact (Kd.R_reads' HO_5.out).2.1); rintro e w14 ⟨v453, rfl, ho0, hb⟩; refine ⟨_, rfl, ?_⟩; have HO454 := a0_ (Kd.R_lower (Kd.R_new' ho0 (Kd.R_lt (ra_ HO_5.out))) (keep_size (w := w) (g := g) (row := none) (kb0_))); replace HO_5 := a0_ (Kd.R_elder' (ra_ HO_5.out) (Kd.R_base ho0) hb); replace HK := a0_ (KeepBut.trans (kb0_) (KeepBut.of_below hb g none) (.inl rfl)); replace HB := a0_ (below_step (bl1_ (IsS67.ge HI0.out)) hb); replace HI0 := a0_ (IsS67.below (is67_ HI0.out) hb); (try clear hb); (try clear ho0); obtain ⟨Ao15, co15, eo15⟩ := Kd.R_slice HO454.out; subst eo15) | ((with_reducible refine gate_callee (f := 46) rfl ?_); refine goesL_ (some 24) rfl rfl Tryz.func46 kr_ rfl #[.pointer (some ⟨g, 0, none⟩), .int .i64 (t452.length : Int)] rfl ta_ ?_; (with_reducible refine (spec_l01Next.calls g s0_0 x1001_1 x1002_1 (t452.length : Int) t455 t456 t457 w0 _ ?side1 ?side2 A9.out).mono ?_); (case side1 => exact is67_ HI0.out); (case side2 => exact bl1_ (IsS67.ge HI0.out)); rintro e w16 ⟨rfl, hi, hb, hk⟩; refine ⟨_, rfl, ?_⟩; replace HO_5 := a0_ (Kd.R_mono (Kd.R_keep (IsS67.apart (show IsS67 w0 _ g s0_0 x1001_1 x1002_1 from is67_ HI0.out) (ra_ HO_5.out) (by decide)) hk (fun _ h => h.2)) (fun _ h => h.1)); replace HO454 := a0_ (Kd.R_mono (Kd.R_keep (IsS67.apart (show IsS67 w0 _ g s0_0 x1001_1 x1002_1 from is67_ HI0.out) (ra_ HO454.out) (by decide)) hk (fun _ h => h.2)) (fun _ h => h.1)); replace HK := a0_ (KeepBut.trans (kb0_) hk (.inl rfl)); replace HB := a0_ (hb); replace HI0 := a0_ (hi); (try clear hb); (try clear hk); (try clear hi); have p458 : 0 ≤ (t455 : Int) := od_; have q458 : t455 < (t452.length : Int) := od_; obtain ⟨ad458, e458, hx458_0, hx458_1⟩ := at_T56 (Kd.R_reads' HO454.out).2.2 t455 p458 q458; cases e458; replace p458 := eq_true p458; replace q458 := eq_true q458) | ((with_reducible refine gate_callee (f := 50) rfl ?_); refine goesL_ (some 27) rfl rfl Tryz.func50 kr_ rfl #[.slice Ao13 x5_1.length co13, .agg #[.int .i64 ((rd_T56 t452 t455).f0), .int .i64 ((rd_T56 t452 t455).f1)]] rfl ta_ ?_; (with_reducible refine (spec_l02Insert.calls k1 _ _ x5_1 ((rd_T56 t452 t455).f0) ((rd_T56 t452 t455).f1) t459 _ ?side1 ?side2 A12.out).mono ?_); (case side1 => exact ca_ (Kd.R_reads' HO_5.out).2.2); (case side2 => exact (Kd.R_reads' HO_5.out).2.1); rintro e w17 ⟨v460, rfl, ho0, hb⟩; refine ⟨_, rfl, ?_⟩; have HO461 := a0_ (Kd.R_lower (Kd.R_new' (Kd.R_new' ho0 (Kd.R_lt (ra_ HO_5.out))) (Kd.R_lt (ra_ HO454.out))) (keep_size (w := w) (g := g) (row := none) (kb0_))); replace HO_5 := a0_ (Kd.R_elder' (ra_ HO_5.out) (Kd.R_base ho0) hb); replace HO454 := a0_ (Kd.R_elder' (ra_ HO454.out) (Kd.R_base ho0) hb); replace HK := a0_ (KeepBut.trans (kb0_) (KeepBut.of_below hb g none) (.inl rfl)); replace HB := a0_ (below_step (bl1_ (IsS67.ge HI0.out)) hb); replace HI0 := a0_ (IsS67.below (is67_ HI0.out) hb); (try clear hb); (try clear ho0)))
      go_roundg k1
      case measure => have := HK1.out; omega
      case rel => exact ⟨(t459), (wrap64 (x6_1 - 1)), (t456), (t457), rs_, H', ⟨by have := HK1.out; omega⟩, ⟨by (with_reducible repeat (first | apply Kd.R_alloc | apply Kd.R_drewN | apply Kd.R_drew)); exact Kd.R_mono HO461.out (fun _ hk => trivial)⟩, ⟨is67_ HI0.out⟩, ⟨kb0_⟩, ⟨bl1_ (IsS67.ge HI0.out)⟩⟩
     ·rw [if_neg c11] at H
      exact absurd H (by simp)
    ·rw [if_neg c10] at H
     exact absurd H (by simp)
   ·rw [if_neg c7] at H
    have c7b0 : decide (0 < x6_1) = false := decide_eq_false c7
    clear c7
    obtain ⟨t462, A18, H⟩ := bs_ H
    simp only [Option.some.injEq, Prod.mk.injEq] at H
    obtain ⟨rfl, rfl, rfl⟩ := H
    obtain ⟨Ao19, co19, eo19⟩ := Kd.R_slice HO_5.out
    subst eo19
    go_wp2_with (first | ((with_reducible refine gate_callee (f := 70) rfl ?_); refine goesL_ (some 29) rfl rfl Tryz.func70 kr_ rfl #[.slice Ao19 x5_1.length co19] rfl ta_ ?_; (with_reducible refine (spec_l02Normal.calls k1 _ _ x5_1 t462 _ ?side1 ?side2 A18.out).mono ?_); (case side1 => exact ca_ (Kd.R_reads' HO_5.out).2.2); (case side2 => exact (Kd.R_reads' HO_5.out).2.1); rintro e w20 ⟨v463, rfl, ho0, hb⟩; refine ⟨_, rfl, ?_⟩; have HO464 := a0_ (Kd.R_lower (Kd.R_new' ho0 (Kd.R_lt (ra_ HO_5.out))) (keep_size (w := w) (g := g) (row := none) (kb0_))); replace HO_5 := a0_ (Kd.R_elder' (ra_ HO_5.out) (Kd.R_base ho0) hb); replace HK := a0_ (KeepBut.trans (kb0_) (KeepBut.of_below hb g none) (.inl rfl)); replace HB := a0_ (below_step (bl1_ (IsS67.ge HI0.out)) hb); replace HI0 := a0_ (IsS67.below (is67_ HI0.out) hb); (try clear hb); (try clear ho0)))
    go_ret
    exact ⟨_, er_, by (with_reducible repeat (first | apply Kd.R_alloc | apply Kd.R_drewN | apply Kd.R_drew)); exact Kd.R_mono HO464.out (fun _ hk => trivial), is67_ HI0.out, bl1_ (IsS67.ge HI0.out), kb0_⟩
end Go.Proofs.YtmdjkmfocgelnaaGreatDoor.PFnAllNets
