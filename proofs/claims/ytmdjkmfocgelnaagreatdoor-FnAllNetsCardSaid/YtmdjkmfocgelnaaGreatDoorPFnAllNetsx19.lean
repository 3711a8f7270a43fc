/- Over the kit's printer by a driver of mine (hprint.py), with parts by hand: functions of the program as Lean functions, and that each call comes to exactly these answers. -/
import Derived.Test.YtmdjkmfocgelnaaGreatDoorPFnAllNetsx0
import Derived.Test.YtmdjkmfocgelnaaGreatDoorPFnAllNetsx16
import Derived.Test.YtmdjkmfocgelnaaGreatDoorPFnAllNetsx17
import Derived.Test.YtmdjkmfocgelnaaGreatDoorPFnAllNetsx18
namespace Go.Proofs.YtmdjkmfocgelnaaGreatDoor.PFnAllNets
open Go.RowKit Go.Proofs.YtmdjkmfocgelnaaGreatDoorW.PrintWords Go.Proofs.YtmdjkmfocgelnaaGreatDoorW.PrintLast Go.Proofs.YtmdjkmfocgelnaaGreatDoorW.PrintMore
attribute [local go_sem] max2_int min2_int max_two min_two max_three min_three max_four min_four   
set_option linter.unusedVariables false
set_option linter.unusedSimpArgs false
def elL (L : List (List S56)) (j : Nat) : List S56 := L.getD j []
def lessL (m y : List S56) : List S56 := if cmpS y m < 0 then y else m
def leastL : List (List S56) → List S56
 | [] => []
 | x :: r => r.foldl lessL x
set_option maxHeartbeats 4000000 in
set_option maxRecDepth 100000 in
theorem minFunc_calls (w : World) (base : Nat) (ok : Nat → Prop) (v : Value) (L : List (List S56)) (hR : (Kd.slice 56 k56).R 29 w base ok v L) (h1 : 1 ≤ L.length) :
  Calls Tryz.prog 73 #[v, .func (.func 74) #[] #[]] w fun e w' => ∃ u, e = .returned u ∧ Kd.R k56 56 w' base ok u (leastL L) ∧ Below w.heap.size w w' := by
 obtain ⟨A, c, vals, rfl, hc, hmax, hvl, hcell0, helem⟩ := R_elems hR
 have hval : ∀ j : Nat, j < L.length → ∃ (u : Value), vals[j]? = some u ∧ Kd.R k56 56 w base ok u (elL L j) := fun j hj => by
  have e1 : vals[j]? = some (vals[j]'(by omega)) := List.getElem?_eq_getElem _
  have e2 : L[j]? = some (elL L j) := by unfold elL; rw [List.getD_eq_getElem?_getD, List.getElem?_eq_getElem hj, Option.getD_some]
  exact ⟨_, e1, helem j _ _ e1 e2⟩
 obtain ⟨u0, hu0, hR0⟩ := hval 0 (by omega)
 obtain ⟨ad, rfl, hcell00⟩ := hcell0 0 u0 hu0
 have hcell : ∀ (j : Nat) (u : Value), vals[j]? = some u → w.cell? (ad.add j) = some u := fun j u hj => by
  obtain ⟨ad', e, h⟩ := hcell0 j u hj
  cases e
  exact h
 have HV := Aside0.mk hval
 have HC := Aside0.mk hcell
 have HM := a0_ (And.intro h1 hmax)
 have HU := Aside0.mk hR0
 obtain ⟨A0, n0, rfl, hn0, _⟩ := Kd.R_reads hR0
 have x0 : w.cell? ad = some (.slice A0 (elL L 0).length n0) := by
  rwa [show ad.add 0 = ad by simp [Addr.add]] at hcell00
 have d0 : decide ((L.length : Int) < 1) = false := decide_eq_false (by omega)
 have d1 : decide (L.length < 1) = false := decide_eq_false (by omega)
 have p1 : decide (0 < L.length) = true := decide_eq_true (by omega)
 have p2 : (0 < L.length) = True := eq_true (by omega)
 have p3 : ((0 : Int) < (L.length : Int)) = True := eq_true (by omega)
 have hd0 : (L.drop 1).foldl lessL (elL L 0) = leastL L := by
  cases L with
  | nil => simp at h1
  | cons x r => rfl
 have HD := Aside0.mk hd0
 have HU0 := Aside0.mk hu0
 clear hval hcell hcell0 hcell00 helem hvl hc h1 hmax hR hR0 hu0 hd0 hn0
 go_enter Tryz.func73, Tryz.ntmps73
 go_wp2
 go_loopg [5, 6] L.length (fun kq v5 v6 w' => ∃ (i m : Nat), v6 = .int .i64 i ∧ Aside0 (kq + i = L.length + 1 ∧ 1 ≤ i ∧ i ≤ L.length ∧ m < L.length) ∧ Aside0 (vals[m]? = some v5) ∧ Aside0 ((L.drop i).foldl lessL (elL L m) = leastL L) ∧ Aside0 (Below w.heap.size w w'))
 case atStart => exact ⟨1, 0, rfl, ⟨by have := HM.out; omega⟩, HU0, HD, ⟨Below.refl _ _⟩⟩
 case round =>
  clear HD HU0 x0 HU
  obtain ⟨i, m, rfl, HI, HE, HF, HB⟩ := hrel
  obtain ⟨um, hum, hRm⟩ := HV.out m HI.out.2.2.2
  obtain rfl : u5 = um := Option.some.inj (HE.out.symm.trans hum)
  by_cases hi : i < L.length
  ·obtain ⟨ui, hui, hRi⟩ := HV.out i hi
   have hxi := (HB.out.cell (World.block_lt_of_cell? w _ (HC.out i ui hui))).trans (HC.out i ui hui)
   obtain ⟨Ai, ni, rfl, hni, hCi⟩ := Kd.R_reads hRi
   obtain ⟨Am, nm, rfl, hnm, hCm⟩ := Kd.R_reads hRm
   have d0 : decide ((i : Int) < (L.length : Int)) = true := decide_eq_true (by omega)
   have d4 : decide (i < L.length) = true := decide_eq_true hi
   have q0 : (0 ≤ (i : Int)) = True := eq_true (by omega)
   have q1 : ((i : Int) < (L.length : Int)) = True := eq_true (by omega)
   have q2 : (i < L.length) = True := eq_true hi
   have hc := impl_compareShapes.calls Ai ni (elL L i) Am nm (elL L m) (cmpS (elL L i) (elL L m)) _ (Kd.C_below hCi HB.out) hni (Kd.C_below hCm HB.out) hnm rfl
   have hw : wrap64 ((i : Int) + 1) = ((i + 1 : Nat) : Int) := by have := HM.out.2; unfold wrap64; omega
   have HW := Aside0.mk hw
   have hstep : (L.drop i).foldl lessL (elL L m) = (L.drop (i + 1)).foldl lessL (lessL (elL L m) (elL L i)) := by
    rw [List.drop_eq_getElem_cons hi, List.foldl_cons, show elL L i = L[i] by unfold elL; rw [List.getD_eq_getElem?_getD, List.getElem?_eq_getElem hi, Option.getD_some]]
   have HS := a0_ (hstep.symm.trans HF.out)
   have HUI := Aside0.mk hui
   have HLT := Aside0.mk hi
   have hxb : ∀ w1 : World, Below wr.heap.size wr w1 → w1.cell? (ad.add i) = some (.slice Ai (elL L i).length ni) := fun w1 hb => (hb.cell (World.block_lt_of_cell? wr _ hxi)).trans hxi
   have HX := Aside0.mk hxb
   by_cases hz : cmpS (elL L i) (elL L m) < 0
   ·have hl : lessL (elL L m) (elL L i) = elL L i := if_pos hz
    rw [hl] at HS
    have z0 : decide (cmpS (elL L i) (elL L m) < 0) = true := decide_eq_true hz
    generalize cmpS (elL L i) (elL L m) = z at hc z0
    clear hz hl hstep hw hi hui hni hnm hCi hCm hum hRi hRm HF HE
    go_wp2_with (go_at_call 74; ((with_reducible refine hc.mono ?_); rintro e w1 ⟨rfl, hb⟩; have HB1 := a0_ (below_step HB.out hb); have hxi1 := HX.out w1 hb; clear hb))
    go_roundg (L.length - i)
    case measure => (have := HI.out; omega)
    case rel => exact ⟨i + 1, i, by first | rfl | exact congrArg (Value.int .i64) HW.out, ⟨by have := HI.out; have := HLT.out; omega⟩, HUI, HS, HB1⟩
   ·have hl : lessL (elL L m) (elL L i) = elL L m := if_neg hz
    rw [hl] at HS
    have z0 : decide (cmpS (elL L i) (elL L m) < 0) = false := decide_eq_false hz
    generalize cmpS (elL L i) (elL L m) = z at hc z0
    have HUM := Aside0.mk hum
    clear hz hl hstep hw hi hui hni hnm hCi hCm hum hRi hRm HF HE
    go_wp2_with (go_at_call 74; ((with_reducible refine hc.mono ?_); rintro e w1 ⟨rfl, hb⟩; have HB1 := a0_ (below_step HB.out hb); clear hb))
    go_roundg (L.length - i)
    case measure => (have := HI.out; omega)
    case rel => exact ⟨i + 1, m, by first | rfl | exact congrArg (Value.int .i64) HW.out, ⟨by have := HI.out; have := HLT.out; omega⟩, HUM, HS, HB1⟩
  ·have d0 : decide ((i : Int) < (L.length : Int)) = false := decide_eq_false (by omega)
   have d4 : decide (i < L.length) = false := decide_eq_false hi
   have HRM := a0_ (Kd.R_below hRm HB.out)
   have hfin : elL L m = leastL L := by
    have := HF.out
    rw [List.drop_of_length_le (by omega)] at this
    exact this
   rw [hfin] at HRM
   clear hi hum hRm hfin HF HE
   go_wp2
   go_ret
   exact ⟨_, rfl, HRM.out, HB.out⟩
set_option maxHeartbeats 4000000 in
theorem leastOf_calls (w : World) (base : Nat) (ok : Nat → Prop) (v : Value) (L : List (List S56)) (hR : (Kd.slice 56 k56).R 29 w base ok v L) (h1 : 1 ≤ L.length) :
  Calls Tryz.prog 43 #[v] w fun e w' => ∃ u, e = .returned u ∧ Kd.R k56 56 w' base ok u (leastL L) ∧ Below w.heap.size w w' := by
 have hc := minFunc_calls w base ok v L hR h1
 clear hR h1
 go_enter Tryz.func43, Tryz.ntmps43
 go_wp2_with (go_at_call 73; ((with_reducible refine hc.mono ?_); rintro e w1 ⟨u, rfl, hR, hb⟩; have HR := Aside0.mk hR; have HB := Aside0.mk hb; clear hR hb))
 go_ret
 exact ⟨_, rfl, HR.out, HB.out⟩
mutual
def impl_turnCell.j0 : Nat → Int → Int → Int → Option (Int × Int)
 | 0, _, _, _ => none
 | k + 1, x1, x418000, x418001 => impl_turnCell.l0 k (Int.tmod x1 4) 0 x418000 x418001
def impl_turnCell.l0 : Nat → Int → Int → Int → Int → Option (Int × Int)
 | 0, _, _, _, _ => none
 | k + 1, x12, x13, x418000, x418001 => if x13 < x12 then (impl_turnCell.l0 k x12 (wrap64 (x13 + 1)) (wrap64 (-x418001)) x418000) else (some (x418000, x418001))
end
def impl_turnCell.f (k : Nat) (a0_0 : Int) (a0_1 : Int) (a1 : Int) : Option (Int × Int) := if a1 ≥ 4 then (impl_turnCell.j0 k a1 (wrap64 (-a0_0)) a0_1) else (impl_turnCell.j0 k a1 a0_0 a0_1)
set_option maxHeartbeats 8000000 in
set_option maxRecDepth 100000 in
theorem impl_turnCell.calls (k : Nat) (a0_0 : Int) (a0_1 : Int) (a1 : Int) (r1 : Int) (r2 : Int) (w : World) (h : impl_turnCell.f k a0_0 a0_1 a1 = some (r1, r2)) :
  Calls Tryz.prog 91 #[.agg #[.int .i64 a0_0, .int .i64 a0_1], .int .i64 a1] w fun e w' => e = .returned (.agg #[.int .i64 r1, .int .i64 r2]) ∧ Below w.heap.size w w' := by
 have hu56 := Tryz.underlying56
 have HB := a0_ (Below.refl w.heap.size w)
 have H := h
 clear h
 unfold impl_turnCell.f at H
 have HC3 := Aside0.mk H
 clear H
 go_enter Tryz.func91, Tryz.ntmps91
 go_upto_if 6 with (first | ((with_reducible refine gate_dst (N := 2) rfl ?_); refine bx_ (N := 2) (cs := #[.int .i64 a0_0, .int .i64 a0_1]) (t := 56) ?_; intro gb417 hg w4 hbox hb; have BK417 := a0_ (hbox); have GW417 := a0_ ((sz_ hg (bl0_) : w.heap.size ≤ gb417)); have GE417 := a0_ ((sz_ hg (bl0_) : w.heap.size ≤ gb417)); replace HB := a0_ (below_step (bl0_) hb); clear hb hbox hg) | ((with_reducible refine gate_dst (N := 4) rfl ?_); refine bx_ (N := 4) (cs := #[.int .i64 0, .int .i64 0]) (t := 56) ?_; intro gb418 hg w5 hbox hb; have BK418 := a0_ (hbox); have GW418 := a0_ ((sz_ hg (bl1_ GE417.out) : w.heap.size ≤ gb418)); have GE418 := a0_ ((sz_ hg (bl1_ GE417.out) : w.heap.size ≤ gb418)); replace HB := a0_ (below_step (bl1_ GE417.out) hb); have NB417_418 := a0_ ((nl_ hg BK417.out : gb417 ≠ gb418)); have NB418_417 := a0_ ((ng_ hg BK417.out : gb418 ≠ gb417)); replace BK417 := a0_ (bb_ BK417.out hb); clear hb hbox hg))
 (try simp only [Act.put, List.setIfInBounds_toArray, List.set_cons_zero, List.set_cons_succ])
 go_cut [] (fun wc => ∃ (kq : Nat) (x418000_2 : Int), Aside0 (impl_turnCell.j0 kq a1 x418000_2 a0_1 = some (r1, r2)) ∧ Aside0 (kq ≤ k) ∧ Aside0 (wc.heap[gb417]? = some (.cells #[.int .i64 x418000_2, .int .i64 a0_1] 56 (0, 0))) ∧ Aside0 (wc.heap[gb418]? = some (.cells #[.int .i64 0, .int .i64 0] 56 (0, 0))) ∧ Aside0 (Below w.heap.size w wc))
 case first =>
  have H := HC3.out
  clear HC3
  by_cases c6 : a1 ≥ 4
  ·rw [if_pos c6] at H
   have c6b0 : decide (4 ≤ a1) = true := decide_eq_true c6
   clear c6
   (first | rw [c6b0] | (simp only [i64_w, i32_w]; rw [c6b0]) | skip)
   have H' := Aside0.mk H
   clear H
   have hnb7 := NB417_418.out
   have hnc7 := NB418_417.out
   have hcz8_0 : w5.cell? ⟨gb417, 0, none⟩ = some (.int .i64 a0_0) := (blk_cell BK417.out 0).trans rfl
   have hcz8_1 : w5.cell? ⟨gb417, 1, none⟩ = some (.int .i64 a0_1) := (blk_cell BK417.out 1).trans rfl
   have hfz8_0 := blk_frozen BK417.out 0
   have hfz8_1 := blk_frozen BK417.out 1
   go_wp2
   go_meet
   case rel => exact ⟨_, (wrap64 (-a0_0)), H', ⟨by first | omega | exact Nat.le_refl _⟩, ⟨by (with_reducible repeat (first | refine blk_drewN ?_ _ | refine blk_drew ?_ | refine blk_alloc ?_ _)); refine blk_put (cs := #[.int .i64 a0_0, .int .i64 a0_1]) ?_ 0 _ rfl; (with_reducible repeat (first | refine blk_drewN ?_ _ | refine blk_drew ?_ | refine blk_alloc ?_ _)); exact BK417.out⟩, ⟨bf_ BK418.out NB418_417.out⟩, ⟨bl2_ GE417.out GE418.out⟩⟩
  ·rw [if_neg c6] at H
   have c6b0 : decide (4 ≤ a1) = false := decide_eq_false c6
   clear c6
   (first | rw [c6b0] | (simp only [i64_w, i32_w]; rw [c6b0]) | skip)
   have H' := Aside0.mk H
   clear H
   go_wp2
   go_meet
   case rel => exact ⟨_, (a0_0), H', ⟨by first | omega | exact Nat.le_refl _⟩, ⟨bk_ BK417.out⟩, ⟨bk_ BK418.out⟩, ⟨bl2_ GE417.out GE418.out⟩⟩
 case rest =>
  clear HC3
  obtain ⟨kq, x418000_2, HA, HJ2, BK417, BK418, HB⟩ := hcut
  cases kq with
  | zero => exact absurd HA.out (by simp [impl_turnCell.j0])
  | succ kj2 =>
   have H := HA.out
   clear HA
   simp only [impl_turnCell.j0] at H
   have H' := Aside0.mk H
   clear H
   go_wp2
   go_loopg [13] kj2 (fun kq v13 w' => ∃ (x13_2 : Int) (x418000_2 : Int) (x418001_2 : Int), v13 = .int .i64 x13_2 ∧ Aside0 (impl_turnCell.l0 kq (Int.tmod a1 4) x13_2 x418000_2 x418001_2 = some (r1, r2)) ∧ Aside0 (kq ≤ kj2) ∧ Aside0 (w'.heap[gb417]? = some (.cells #[.int .i64 x418000_2, .int .i64 x418001_2] 56 (0, 0))) ∧ Aside0 (w'.heap[gb418]? = some (.cells #[.int .i64 0, .int .i64 0] 56 (0, 0))) ∧ Aside0 (Below w.heap.size w w'))
   case atStart => exact ⟨(0), (x418000_2), (a0_1), rs_, H', ⟨Nat.le_refl _⟩, ⟨bk_ BK417.out⟩, ⟨bk_ BK418.out⟩, ⟨bl2_ GE417.out GE418.out⟩⟩
   case round =>
    clear H'
    obtain ⟨x13_2, x418000_2, x418001_2, rfl, HA, HK2, BK417, BK418, HB⟩ := hrel
    cases gk with
    | zero => exact absurd HA.out (by simp [impl_turnCell.l0])
    | succ k2 =>
     have H := HA.out
     clear HA
     simp only [impl_turnCell.l0] at H
     by_cases c9 : x13_2 < (Int.tmod a1 4)
     ·rw [if_pos c9] at H
      have c9b0 : decide (x13_2 < (Int.tmod a1 4)) = true := decide_eq_true c9
      clear c9
      have H' := Aside0.mk H
      clear H
      have hnb10 := NB417_418.out
      have hnc10 := NB418_417.out
      have hcz11_0 : wr.cell? ⟨gb417, 0, none⟩ = some (.int .i64 x418000_2) := (blk_cell BK417.out 0).trans rfl
      have hcz11_1 : wr.cell? ⟨gb417, 1, none⟩ = some (.int .i64 x418001_2) := (blk_cell BK417.out 1).trans rfl
      have hfz11_0 := blk_frozen BK417.out 0
      have hfz11_1 := blk_frozen BK417.out 1
      go_wp2
      go_roundg k2
      case measure => have := HJ2.out; have := HK2.out; omega
      case rel => exact ⟨(wrap64 (x13_2 + 1)), (wrap64 (-x418001_2)), (x418000_2), rs_, H', ⟨by have := HJ2.out; have := HK2.out; omega⟩, ⟨by (with_reducible repeat (first | refine blk_drewN ?_ _ | refine blk_drew ?_ | refine blk_alloc ?_ _)); refine blk_put (cs := #[.int .i64 (wrap64 (-x418001_2)), .int .i64 x418001_2]) ?_ 1 _ rfl; (with_reducible repeat (first | refine blk_drewN ?_ _ | refine blk_drew ?_ | refine blk_alloc ?_ _)); refine blk_put (cs := #[.int .i64 x418000_2, .int .i64 x418001_2]) ?_ 0 _ rfl; (with_reducible repeat (first | refine blk_drewN ?_ _ | refine blk_drew ?_ | refine blk_alloc ?_ _)); exact BK417.out⟩, ⟨bf_ BK418.out NB418_417.out⟩, ⟨bl2_ GE417.out GE418.out⟩⟩
     ·rw [if_neg c9] at H
      have c9b0 : decide (x13_2 < (Int.tmod a1 4)) = false := decide_eq_false c9
      clear c9
      simp only [Option.some.injEq, Prod.mk.injEq] at H
      obtain ⟨rfl, rfl⟩ := H
      have hnb12 := NB417_418.out
      have hnc12 := NB418_417.out
      have hcz13_0 : wr.cell? ⟨gb417, 0, none⟩ = some (.int .i64 x418000_2) := (blk_cell BK417.out 0).trans rfl
      have hcz13_1 : wr.cell? ⟨gb417, 1, none⟩ = some (.int .i64 x418001_2) := (blk_cell BK417.out 1).trans rfl
      have hfz13_0 := blk_frozen BK417.out 0
      have hfz13_1 := blk_frozen BK417.out 1
      have hcz14_0 : wr.cell? ⟨gb418, 0, none⟩ = some (.int .i64 0) := (blk_cell BK418.out 0).trans rfl
      have hcz14_1 : wr.cell? ⟨gb418, 1, none⟩ = some (.int .i64 0) := (blk_cell BK418.out 1).trans rfl
      have hfz14_0 := blk_frozen BK418.out 0
      have hfz14_1 := blk_frozen BK418.out 1
      go_wp2
      refine bodyPost_ret (results_cell_row rfl _ _ gb418 56 #[.int .i64 x418000_2, .int .i64 x418001_2] (0, 0) _ rfl (by (with_reducible repeat (first | refine blk_drewN ?_ _ | refine blk_drew ?_ | refine blk_alloc ?_ _)); refine blk_put (cs := #[.int .i64 x418000_2, .int .i64 0]) ?_ 1 _ rfl; (with_reducible repeat (first | refine blk_drewN ?_ _ | refine blk_drew ?_ | refine blk_alloc ?_ _)); refine blk_put (cs := #[.int .i64 0, .int .i64 0]) ?_ 0 _ rfl; (with_reducible repeat (first | refine blk_drewN ?_ _ | refine blk_drew ?_ | refine blk_alloc ?_ _)); exact BK418.out) Tryz.underlying56 rfl kr_) rfl ?_
      exact ⟨er_, bl2_ GE417.out GE418.out⟩
def impl_form.l0 : Nat → Int → List (S56) → List (S56) → Int → Int → Option ((List (S56)))
 | 0, _, _, _, _, _ => none
 | k + 1, x1, x5, x11, x12, x13 => if x13 < x12 then (if 0 ≤ x13 then (if x13 < (x11.length : Int) then ((impl_turnCell.f k ((rd_T56 x11 x13).f0) ((rd_T56 x11 x13).f1) x1).bind fun bt424 => (if x5.length < 8796093022208 then (impl_form.l0 k x1 (x5 ++ [(⟨bt424.1, bt424.2⟩ : S56)]) x11 x12 (wrap64 (x13 + 1))) else (none))) else (none)) else (none)) else ((impl_sorted.f x5).bind fun t429 => ((impl_normal.f k t429).bind fun t432 => (some t432)))
def impl_form.f (k : Nat) (l0 : List (S56)) (a1 : Int) : Option ((List (S56))) := if 0 ≤ (l0.length : Int) then (if ((l0.length : Int) : Int).toNat ≤ 17592186044416 then (impl_form.l0 k a1 (([] : List (S56))) l0 (l0.length : Int) 0) else (none)) else (none)
set_option maxHeartbeats 8000000 in
set_option maxRecDepth 100000 in
theorem impl_form.calls (k : Nat) (A0 : Option Addr) (c0 : Nat) (l0 : List (S56)) (a1 : Int) (r : List (S56)) (w : World) (hr0 : Kd.C k56 w A0 l0.length l0) (hc0 : l0.length ≤ c0) (h : impl_form.f k l0 a1 = some r) :
  Calls Tryz.prog 75 #[.slice A0 l0.length c0, .int .i64 a1] w fun e w' => ∃ v0_ : Value, e = .returned (v0_) ∧ Kd.R k56 56 w' w.heap.size (fun _ => True) v0_ r ∧ Below w.heap.size w w' := by
 have hu56 := Tryz.underlying56
 have HR0 := Aside0.mk hr0
 have HC0 := Aside0.mk hc0
 clear hr0 hc0
 have HB := a0_ (Below.refl w.heap.size w)
 have H := h
 clear h
 unfold impl_form.f at H
 by_cases c3 : 0 ≤ (l0.length : Int)
 ·rw [if_pos c3] at H
  have c3b0 := eq_true c3
  have c3b1 : decide (0 ≤ (l0.length : Int)) = true := decide_eq_true c3
  clear c3
  by_cases c4 : ((l0.length : Int) : Int).toNat ≤ 17592186044416
  ·rw [if_pos c4] at H
   have c4b0 := eq_true c4
   have c4b1 : decide (((l0.length : Int) : Int).toNat ≤ 17592186044416) = true := decide_eq_true c4
   clear c4
   obtain ⟨y419, hy419⟩ : ∃ y_ : List (S56), y_ = (([] : List (S56))) := ⟨_, rfl⟩
   replace H : (impl_form.l0 k a1 y419 l0 (l0.length : Int) 0) = some r := hh_ hy419 H
   have Ny419 := Aside0.mk hy419
   clear hy419
   have H' := Aside0.mk H
   clear H
   go_enter Tryz.func75, Tryz.ntmps75
   go_wp2_with (first | ((with_reducible refine gate_dst (N := 10) rfl ?_); refine Kd.R_make0 k56 _ 56 rfl (N := 10) rfl 29 _ _ rfl (l0.length : Int) rfl rfl Tryz.underlying29 (.agg #[(.int .i64 0), (.int .i64 0)]) 16 info56 rfl (by decide) (ok := fun _ => True) trivial (od_) (Nat.le_trans (Nat.mul_le_mul_right _ (od_ : (l0.length : Int).toNat ≤ 17592186044416)) (by omega)) (Below.refl _ _) (Nat.le_refl _) ?_; intro v420 w5 ho6 hb hg_ hnew_; clear hg_ hnew_; (first | rw [← Ny419.out] at ho6 | (simp only [Int.reduceToNat] at ho6; rw [← Ny419.out] at ho6)); have HO421 := a0_ (Kd.R_lower ho6 (below_size (bl0_))); replace HB := a0_ (below_step (bl0_) hb); clear hb ho6))
   go_loopg [5, 13] k (fun kq v5 v13 w' => ∃ (x5_1 : List (S56)) (x13_1 : Int), v13 = .int .i64 x13_1 ∧ Aside0 (impl_form.l0 kq a1 x5_1 l0 (l0.length : Int) x13_1 = some r) ∧ Aside0 (kq ≤ k) ∧ Aside0 (Kd.R k56 56 w' w.heap.size (fun _ => True) v5 x5_1) ∧ Aside0 (Below w.heap.size w w'))
   case atStart => exact ⟨(y419), (0), rs_, H', ⟨Nat.le_refl _⟩, ⟨ra_ HO421.out⟩, ⟨bl0_⟩⟩
   case round =>
    clear H'
    try clear c3b0
    try clear c3b1
    try clear c4b0
    try clear c4b1
    obtain ⟨x5_1, x13_1, rfl, HA, HK1, HO_5, HB⟩ := hrel
    cases gk with
    | zero => exact absurd HA.out (by simp [impl_form.l0])
    | succ k1 =>
     have H := HA.out
     clear HA
     simp only [impl_form.l0] at H
     by_cases c7 : x13_1 < (l0.length : Int)
     ·rw [if_pos c7] at H
      have c7b0 : decide (x13_1 < (l0.length : Int)) = true := decide_eq_true c7
      clear c7
      by_cases c8 : 0 ≤ x13_1
      ·rw [if_pos c8] at H
       have c8b0 : decide (0 ≤ x13_1) = true := decide_eq_true c8
       clear c8
       by_cases c9 : x13_1 < (l0.length : Int)
       ·rw [if_pos c9] at H
        have c9b0 : decide (x13_1 < (l0.length : Int)) = true := decide_eq_true c9
        clear c9
        obtain ⟨⟨t424, t425⟩, A10, H⟩ := bs_ H
        dsimp only at H
        by_cases c11 : x5_1.length < 8796093022208
        ·rw [if_pos c11] at H
         have LMc11 := Aside0.mk c11
         clear c11
         obtain ⟨y426, hy426⟩ : ∃ y_ : List (S56), y_ = (x5_1 ++ [(⟨t424, t425⟩ : S56)]) := ⟨_, rfl⟩
         replace H : (impl_form.l0 k1 a1 y426 l0 (l0.length : Int) (wrap64 (x13_1 + 1))) = some r := hh_ hy426 H
         have Ny426 := Aside0.mk hy426
         clear hy426
         have H' := Aside0.mk H
         clear H
         have p422 : 0 ≤ (x13_1 : Int) := od_
         have q422 : x13_1 < (l0.length : Int) := od_
         obtain ⟨ad422, e422, hx422_0, hx422_1⟩ := at_T56 HR0.out x13_1 p422 q422
         cases e422
         replace hx422_0 := hc_ hx422_0
         replace hx422_1 := hc_ hx422_1
         replace p422 := eq_true p422
         replace q422 := eq_true q422
         go_wp2_with (first | ((with_reducible refine gate_dst (N := 7) rfl ?_); refine bx_ (N := 7) (cs := #[.int .i64 0, .int .i64 0]) (t := 56) ?_; intro gb423 hg w12 hbox hb; replace HO_5 := a0_ (Kd.R_below (Kd.R_elderB (ra_ HO_5.out) gb423 (Nat.le_of_eq hg.symm)) hb); have BK423 := a0_ (hbox); have GW423 := a0_ ((sz_ hg (bl0_) : w.heap.size ≤ gb423)); have GE423 := a0_ ((sz_ hg (bl0_) : w.heap.size ≤ gb423)); replace HB := a0_ (below_step (bl0_) hb); clear hb hbox hg; obtain ⟨hcz13_0, hcz13_1, hfz13_0, hfz13_1⟩ := bc2_ BK423.out) | ((with_reducible refine gate_callee (f := 91) rfl ?_); refine goesL_ (some 20) rfl rfl Tryz.func91 kr_ rfl #[.agg #[.int .i64 ((rd_T56 l0 x13_1).f0), .int .i64 ((rd_T56 l0 x13_1).f1)], .int .i64 a1] rfl ta_ ?_; (with_reducible refine (impl_turnCell.calls k1 ((rd_T56 l0 x13_1).f0) ((rd_T56 l0 x13_1).f1) a1 t424 t425 _ A10.out).mono ?_); rintro e w14 ⟨rfl, hb⟩; refine ⟨_, rfl, ?_⟩; replace HO_5 := a0_ (Kd.R_below (by (with_reducible repeat (first | apply Kd.R_alloc | apply Kd.R_drewN | apply Kd.R_drew)); exact (Kd.R_mono (Kd.R_far (p := ⟨gb423, 1, none⟩) (Kd.R_far (p := ⟨gb423, 0, none⟩) (Kd.R_mono HO_5.out (fun k_ hk => (⟨hk, hk.2⟩ : _ ∧ k_ ≠ gb423))) (fun _ hk => hk.2) (.int .i64 ((rd_T56 l0 x13_1).f0))) (fun _ hk => hk.2) (.int .i64 ((rd_T56 l0 x13_1).f1))) (fun _ h_ => h_.1))) hb); replace BK423 := a0_ (blk_below (g := gb423) (o := .cells #[.int .i64 ((rd_T56 l0 x13_1).f0), .int .i64 ((rd_T56 l0 x13_1).f1)] 56 (0, 0)) (by (with_reducible repeat (first | refine blk_drewN ?_ _ | refine blk_drew ?_ | refine blk_alloc ?_ _)); refine blk_put (cs := #[.int .i64 ((rd_T56 l0 x13_1).f0), .int .i64 0]) ?_ 1 _ rfl; (with_reducible repeat (first | refine blk_drewN ?_ _ | refine blk_drew ?_ | refine blk_alloc ?_ _)); refine blk_put (cs := #[.int .i64 0, .int .i64 0]) ?_ 0 _ rfl; (with_reducible repeat (first | refine blk_drewN ?_ _ | refine blk_drew ?_ | refine blk_alloc ?_ _)); exact BK423.out) hb); replace HB := a0_ (below_step (bl1_ GE423.out) hb); (try clear hb)) | ((with_reducible refine gate_builtin (b := .append) (xs := #[.tmp 17, .tmp 21]) rfl ?_); at_builtin; refine Kd.R_append k56 (w0 := w) w.heap.size rfl (.tmp 17) (.tmp 21) 29 56 (.agg #[(.int .i64 0), (.int .i64 0)]) 16 rfl Tryz.underlying29 info56 rfl (by decide) (by omega) u5 x5_1 (⟨t424, t425⟩ : S56) [.int .i64 t424, .int .i64 t425] (fun k_ => k_ ≠ gb423) (fun _ => False) rfl rfl ?aP (fun _ hk => hk.elim) ?aF ?aO ?aB ?aS ?aL ?_; (case aP => exact k56_mkM _ _ _ (⟨t424, t425⟩ : S56)); (case aB => exact (bl1_ GE423.out)); (case aF => exact (fun k_ hk => Kd.freshB (g := gb423) (o := .cells #[.int .i64 ((rd_T56 l0 x13_1).f0), .int .i64 ((rd_T56 l0 x13_1).f1)] 56 (0, 0)) (bk_ BK423.out) k_ hk)); (case aO => exact (by (with_reducible repeat (first | apply Kd.R_alloc | apply Kd.R_drewN | apply Kd.R_drew)); exact Kd.R_mono HO_5.out (fun _ hk => hk.2))); (case aS => exact (below_size (bl1_ GE423.out))); (case aL => have := LMc11.out; omega); intro v427 w15 ho hb hg hat; rw [← Ny426.out] at ho; replace BK423 := a0_ (blk_grown (g := gb423) (o := .cells #[.int .i64 ((rd_T56 l0 x13_1).f0), .int .i64 ((rd_T56 l0 x13_1).f1)] 56 (0, 0)) (bk_ BK423.out) hg (Kd.R_away HO_5.out (fun _ hk => hk.2))); replace HB := a0_ (hb); have HO428 := a0_ (ho); clear HO_5; clear ho hb hg hat))
         go_roundg k1
         case measure => have := HK1.out; omega
         case rel => exact ⟨(y426), (wrap64 (x13_1 + 1)), rs_, H', ⟨by have := HK1.out; omega⟩, ⟨by (with_reducible repeat (first | apply Kd.R_alloc | apply Kd.R_drewN | apply Kd.R_drew)); exact Kd.R_mono HO428.out (fun _ hk => trivial)⟩, ⟨bl1_ GE423.out⟩⟩
        ·rw [if_neg c11] at H
         exact absurd H (by simp)
       ·rw [if_neg c9] at H
        exact absurd H (by simp)
      ·rw [if_neg c8] at H
       exact absurd H (by simp)
     ·rw [if_neg c7] at H
      have c7b0 : decide (x13_1 < (l0.length : Int)) = false := decide_eq_false c7
      clear c7
      obtain ⟨t429, A16, H⟩ := bs_ H
      obtain ⟨t432, A17, H⟩ := bs_ H
      obtain rfl := Option.some.inj H
      obtain ⟨Ao18, co18, eo18⟩ := Kd.R_slice HO_5.out
      subst eo18
      go_wp2_with (first | ((with_reducible refine gate_callee (f := 92) rfl ?_); refine goesL_ (some 25) rfl rfl Tryz.func92 kr_ rfl #[.slice Ao18 x5_1.length co18] rfl ta_ ?_; (with_reducible refine (impl_sorted.calls _ _ x5_1 t429 _ ?side1 ?side2 A16.out).mono ?_); (case side1 => exact ca_ (Kd.R_reads' HO_5.out).2.2); (case side2 => exact (Kd.R_reads' HO_5.out).2.1); rintro e w19 ⟨v430, rfl, ho0, hb⟩; refine ⟨_, rfl, ?_⟩; have HO431 := a0_ (Kd.R_lower (Kd.R_new' ho0 (Kd.R_lt (ra_ HO_5.out))) (below_size (bl0_))); replace HO_5 := a0_ (Kd.R_elder' (ra_ HO_5.out) (Kd.R_base ho0) hb); replace HB := a0_ (below_step (bl0_) hb); (try clear hb); (try clear ho0); obtain ⟨Ao20, co20, eo20⟩ := Kd.R_slice HO431.out; subst eo20) | ((with_reducible refine gate_callee (f := 67) rfl ?_); refine goesL_ (some 26) rfl rfl Tryz.func67 kr_ rfl #[.slice Ao20 t429.length co20] rfl ta_ ?_; (with_reducible refine (impl_normal.calls k1 _ _ t429 t432 _ ?side1 ?side2 A17.out).mono ?_); (case side1 => exact ca_ (Kd.R_reads' HO431.out).2.2); (case side2 => exact (Kd.R_reads' HO431.out).2.1); rintro e w21 ⟨v433, rfl, ho0, hb⟩; refine ⟨_, rfl, ?_⟩; have HO434 := a0_ (Kd.R_lower (Kd.R_new' (Kd.R_new' ho0 (Kd.R_lt (ra_ HO_5.out))) (Kd.R_lt (ra_ HO431.out))) (below_size (bl0_))); replace HO_5 := a0_ (Kd.R_elder' (ra_ HO_5.out) (Kd.R_base ho0) hb); replace HO431 := a0_ (Kd.R_elder' (ra_ HO431.out) (Kd.R_base ho0) hb); replace HB := a0_ (below_step (bl0_) hb); (try clear hb); (try clear ho0)))
      go_ret
      exact ⟨_, er_, by (with_reducible repeat (first | apply Kd.R_alloc | apply Kd.R_drewN | apply Kd.R_drew)); exact Kd.R_mono HO434.out (fun _ hk => trivial), bl0_⟩
  ·rw [if_neg c4] at H
   exact absurd H (by simp)
 ·rw [if_neg c3] at H
  exact absurd H (by simp)
def impl_forms.l0 : Nat → List (S56) → List (List (S56)) → Int → Int → Option ((List (List (S56))))
 | 0, _, _, _, _ => none
 | k + 1, x0, x5, x8, x9 => if x9 < x8 then ((impl_form.f k x0 x9).bind fun t438 => (if x5.length < 5864062014805 then (impl_forms.l0 k x0 (x5 ++ [t438]) x8 (wrap64 (x9 + 1))) else (none))) else (some x5)
def impl_forms.f (k : Nat) (l0 : List (S56)) (a1 : Int) : Option ((List (List (S56)))) := impl_forms.l0 k l0 (([] : List (List (S56)))) a1 0
set_option maxHeartbeats 8000000 in
set_option maxRecDepth 100000 in
theorem impl_forms.calls (k : Nat) (A0 : Option Addr) (c0 : Nat) (l0 : List (S56)) (a1 : Int) (r : List (List (S56))) (w : World) (hr0 : Kd.C k56 w A0 l0.length l0) (hc0 : l0.length ≤ c0) (h : impl_forms.f k l0 a1 = some r) :
  Calls Tryz.prog 44 #[.slice A0 l0.length c0, .int .i64 a1] w fun e w' => ∃ v0_ : Value, e = .returned (v0_) ∧ Kd.S (Kd.slice 56 k56) 29 w' w.heap.size (fun _ => True) v0_ r ∧ Below w.heap.size w w' := by
 have HR0 := Aside0.mk hr0
 have HC0 := Aside0.mk hc0
 clear hr0 hc0
 have HB := a0_ (Below.refl w.heap.size w)
 have H : (impl_forms.l0 k l0 (([] : List (List (S56)))) a1 0) = some r := h
 clear h
 obtain ⟨y435, hy435⟩ : ∃ y_ : List (List (S56)), y_ = (([] : List (List (S56)))) := ⟨_, rfl⟩
 replace H : (impl_forms.l0 k l0 y435 a1 0) = some r := hh_ hy435 H
 have Ny435 := Aside0.mk hy435
 clear hy435
 have H' := Aside0.mk H
 clear H
 go_enter Tryz.func44, Tryz.ntmps44
 go_wp2_with (first | ((with_reducible refine gate_dst (N := 7) rfl ?_); refine Kd.S_lit (Kd.slice 56 k56) _ 29 ?hg (N := 7) ?hd (xs := ([] : List (List (S56)))) (inner := []) (ok := fun _ => True) (okp := fun _ => True) ?hr ?hp (fun _ hk => hk) trivial (Below.refl _ _) (Nat.le_refl _) (by simp) ?_; (case hd => rfl); (case hg => rfl); (case hr => first | (go_simp; done) | (go_simp; rfl)); (case hp => exact (Reps.none _ _)); intro v436 w3 ho4 hb hg_ hnew_; clear hg_ hnew_; (first | rw [← Ny435.out] at ho4 | (simp only [Int.reduceToNat] at ho4; rw [← Ny435.out] at ho4)); have HO437 := a0_ (Kd.S_lower ho4 (below_size (bl0_))); replace HB := a0_ (below_step (bl0_) hb); clear hb ho4))
 go_loopg [5, 9] k (fun kq v5 v9 w' => ∃ (x5_1 : List (List (S56))) (x9_1 : Int), v9 = .int .i64 x9_1 ∧ Aside0 (impl_forms.l0 kq l0 x5_1 a1 x9_1 = some r) ∧ Aside0 (kq ≤ k) ∧ Aside0 (Kd.S (Kd.slice 56 k56) 29 w' w.heap.size (fun _ => True) v5 x5_1) ∧ Aside0 (Below w.heap.size w w'))
 case atStart => exact ⟨(y435), (0), rs_, H', ⟨Nat.le_refl _⟩, ⟨sa_ HO437.out⟩, ⟨bl0_⟩⟩
 case round =>
  clear H'
  obtain ⟨x5_1, x9_1, rfl, HA, HK1, HO_5, HB⟩ := hrel
  cases gk with
  | zero => exact absurd HA.out (by simp [impl_forms.l0])
  | succ k1 =>
   have H := HA.out
   clear HA
   simp only [impl_forms.l0] at H
   by_cases c5 : x9_1 < a1
   ·rw [if_pos c5] at H
    have c5b0 : decide (x9_1 < a1) = true := decide_eq_true c5
    clear c5
    obtain ⟨t438, A6, H⟩ := bs_ H
    by_cases c7 : x5_1.length < 5864062014805
    ·rw [if_pos c7] at H
     have LMc7 := Aside0.mk c7
     clear c7
     obtain ⟨y441, hy441⟩ : ∃ y_ : List (List (S56)), y_ = (x5_1 ++ [t438]) := ⟨_, rfl⟩
     replace H : (impl_forms.l0 k1 l0 y441 a1 (wrap64 (x9_1 + 1))) = some r := hh_ hy441 H
     have Ny441 := Aside0.mk hy441
     clear hy441
     have H' := Aside0.mk H
     clear H
     go_wp2_with (first | ((with_reducible refine gate_callee (f := 75) rfl ?_); refine goesL_ (some 15) rfl rfl Tryz.func75 kr_ rfl #[.slice A0 l0.length c0, .int .i64 x9_1] rfl ta_ ?_; (with_reducible refine (impl_form.calls k1 _ _ l0 x9_1 t438 _ ?side1 ?side2 A6.out).mono ?_); (case side1 => exact ca_ (Kd.C_below HR0.out HB.out)); (case side2 => exact HC0.out); rintro e w8 ⟨v439, rfl, ho0, hb⟩; refine ⟨_, rfl, ?_⟩; replace HO_5 := a0_ (Kd.S_elder' (sa_ HO_5.out) (Kd.R_base ho0) hb); have HO440 := a0_ (Kd.R_lower ho0 (below_size (bl0_))); replace HB := a0_ (below_step (bl0_) hb); (try clear hb); (try clear ho0); obtain ⟨Ao10, co10, eo10⟩ := Kd.R_slice HO440.out; subst eo10) | ((with_reducible refine gate_builtin (b := .append) (xs := #[.tmp 12, .tmp 16]) rfl ?_); at_builtin; refine Kd.S_append (Kd.slice 56 k56) (w0 := w) w.heap.size rfl (.tmp 12) (.tmp 16) 22 29 (.slice none 0 0) 24 rfl Tryz.underlying22 info29 rfl (by decide) (by omega) u5 x5_1 t438 [.slice Ao10 t438.length co10] (fun _ => True) (fun k_ => some k_ = (.slice Ao10 t438.length co10 : Value).ownBlock) rfl rfl ?aP (fun k_ hk_ => ((Kd.R_mono (ok' := fun k_ => ((fun _ => True)) k_ ∧ some k_ ≠ (u5 : Value).ownBlock) (Kd.R_apart' (HO440.out) (Kd.S_typed HO_5.out) (by decide)) (fun k_ hk => ⟨trivial, hk.2⟩))).1 k_ hk_.symm) ?aF ?aO ?aB ?aS ?aL ?_; (case aP => exact Kd.M_row (Kd.R_mono (Kd.R_tight rfl (Kd.R_mono (ok' := fun k_ => ((fun _ => True)) k_ ∧ some k_ ≠ (u5 : Value).ownBlock) (Kd.R_apart' (HO440.out) (Kd.S_typed HO_5.out) (by decide)) (fun k_ hk => ⟨trivial, hk.2⟩))) (fun _ h_ => h_))); (case aB => exact (bl0_)); (case aF => exact (fun _ _ => trivial)); (case aO => exact (by (with_reducible repeat (first | apply Kd.S_alloc | apply Kd.S_drewN | apply Kd.S_drew)); exact Kd.S_mono HO_5.out (fun k_ hk => ⟨trivial, fun e_ => hk.2 e_⟩))); (case aS => exact (below_size (bl0_))); (case aL => have := LMc7.out; omega); intro v442 w9 ho hb hg hat; rw [← Ny441.out] at ho; replace HB := a0_ (hb); have HO443 := a0_ (ho); clear HO_5 HO440; clear ho hb hg hat))
     go_roundg k1
     case measure => have := HK1.out; omega
     case rel => exact ⟨(y441), (wrap64 (x9_1 + 1)), rs_, H', ⟨by have := HK1.out; omega⟩, ⟨sa_ HO443.out⟩, ⟨bl0_⟩⟩
    ·rw [if_neg c7] at H
     exact absurd H (by simp)
   ·rw [if_neg c5] at H
    have c5b0 : decide (x9_1 < a1) = false := decide_eq_false c5
    clear c5
    obtain rfl := Option.some.inj H
    go_wp2
    go_ret
    exact ⟨_, er_, sa_ HO_5.out, bl0_⟩
def leastK (k : Nat) (m : Int) (s : List S56) : Option (List S56) := (impl_forms.f k s m).bind fun F => if 1 ≤ F.length then some (leastL F) else none
def ownK (k : Nat) (m : Int) : List (List S56) → Option (List (List S56))
 | [] => some []
 | s :: r => (leastK k m s).bind fun t => (ownK k m r).bind fun q => some (if cmpS t s = 0 then s :: q else q)
theorem eqC_some (a b : List S56) (hm : a.length ≤ 9223372036854775807) : ∃ k, slices_Equal_impl_Cell_impl_Cell.f k a b = some (decide (cmpS a b = 0)) := by
 unfold slices_Equal_impl_Cell_impl_Cell.f cmpS
 by_cases h : a.length = b.length
 ·refine ⟨a.length + 1, ?_⟩
  have e := eqS_loop a b h hm a.length 0 (by omega)
  rw [if_pos (by omega), if_pos h, show ((0 : Nat) : Int) = 0 from rfl] at *
  rw [e]
  rfl
 ·refine ⟨0, ?_⟩
  rw [if_neg (by omega), if_neg h]
  by_cases h2 : a.length < b.length
  ·rw [if_pos h2]; rfl
  ·rw [if_neg h2]; rfl
def impl_ownForms.f (k : Nat) (n m : Int) : Option (List (List S56)) := (impl_fixedShapes.f n).bind fun L => if L.length ≤ 1000000 then ownK k m L else none
set_option maxHeartbeats 4000000 in
set_option maxRecDepth 100000 in
theorem ownForms_S (k : Nat) (n m : Int) (r : List (List S56)) (w : World) (h : impl_ownForms.f k n m = some r) :
  Calls Tryz.prog 22 #[.int .i64 n, .int .i64 m] w fun e w' => ∃ v, e = .returned v ∧ Kd.S (Kd.slice 56 k56) 29 w' w.heap.size (fun _ => True) v r ∧ Below w.heap.size w w' := by
 obtain ⟨L, hL, h2⟩ := Option.bind_eq_some_iff.mp h
 split at h2
 case isFalse => cases h2
 rename_i hlm
 have hfx := fun W => fixedShapes_S n L W hL
 have HLM := Aside0.mk hlm
 have H2 := Aside0.mk h2
 clear h h2 hL hlm
 go_enter Tryz.func22, Tryz.ntmps22
 go_wp2_with (first | ((with_reducible refine gate_dst (N := 8) rfl ?_); refine Kd.S_lit (Kd.slice 56 k56) _ 29 ?hg (N := 8) ?hd (xs := ([] : List (List S56))) (inner := []) (ok := fun _ => True) (okp := fun _ => True) ?hr ?hp (fun _ hk => hk) trivial (Below.refl _ _) (Nat.le_refl _) (by simp) ?_; (case hd => rfl); (case hg => rfl); (case hr => first | (go_simp; done) | (go_simp; rfl)); (case hp => exact (Reps.none _ _)); intro vl w3 ho hb _ _; have HO := a0_ (Kd.S_lower ho (Nat.le_refl _)); have HB := Aside0.mk hb; clear ho hb) | (go_at_call 41; (refine (hfx _).mono ?_; rintro e w4 ⟨vd, rfl, hd, hb⟩; obtain ⟨A9, c9, rfl⟩ := Kd.S_slice hd; obtain ⟨f, hf⟩ := hd; have HQ : Aside0 ((Kd.tag f (Kd.slice 56 k56)).R 29 w4 w.heap.size (fun k_ => (w3.heap.size ≤ k_ ∧ k_ < w4.heap.size) ∧ some k_ ≠ vl.ownBlock) (.slice A9 L.length c9) L.zipIdx) := ⟨Kd.R_mono (Kd.R_lower (Kd.R_new' (Kd.R_bound hf) (Kd.S_lt HO.out)) (below_size HB.out)) (fun k_ h_ => ⟨⟨h_.1.2.1, h_.1.2.2.1⟩, h_.2⟩)⟩; have HO2 : Aside0 (Kd.S (Kd.slice 56 k56) 29 w4 w.heap.size (fun k_ => ¬ ((w3.heap.size ≤ k_ ∧ k_ < w4.heap.size) ∧ 0 ≤ f k_)) vl []) := ⟨Kd.S_mono (Kd.S_old HO.out hb) (fun k_ h_ e_ => by have := h_.2; have := e_.1.1; omega)⟩; clear hf; have HB2 := a0_ (below_step HB.out hb); clear hb hfx)))
 clear HO HB
 have HN4 : Aside0 (∀ k_, (w3.heap.size ≤ k_ ∧ k_ < w4.heap.size) → k_ < w4.heap.size) := ⟨fun _ h_ => h_.2⟩
 obtain ⟨QB, hQB⟩ : ∃ QB : Nat → Prop, QB = fun k_ => w3.heap.size ≤ k_ ∧ k_ < w4.heap.size := ⟨_, rfl⟩
 have HO3 : Aside0 (Kd.S (Kd.slice 56 k56) 29 w4 w.heap.size (fun k_ => ¬ (QB k_ ∧ 0 ≤ f k_)) vl []) := ⟨by rw [hQB]; exact HO2.out⟩
 have HQ3 : Aside0 ((Kd.tag f (Kd.slice 56 k56)).R 29 w4 w.heap.size (fun k_ => QB k_ ∧ some k_ ≠ vl.ownBlock) (.slice A9 L.length c9) L.zipIdx) := ⟨by rw [hQB]; exact HQ.out⟩
 have HN3 : Aside0 (∀ k_, QB k_ → k_ < w4.heap.size) := ⟨by rw [hQB]; exact HN4.out⟩
 clear HO2 HQ HN4 hQB
 go_loopg [5, 12] L.length (fun kq v5 v12 w' => ∃ (i : Nat) (out rest : List (List S56)), v12 = .int .i64 i ∧ Aside0 (kq + i = L.length) ∧ Aside0 (ownK k m (L.drop i) = some rest ∧ r = out ++ rest ∧ out.length ≤ i) ∧ Aside0 (Kd.S (Kd.slice 56 k56) 29 w' w.heap.size (fun k_ => ¬ (QB k_ ∧ i ≤ f k_)) v5 out) ∧ Aside0 ((Kd.tag f (Kd.slice 56 k56)).R 29 w' w.heap.size (fun k_ => QB k_ ∧ some k_ ≠ v5.ownBlock) (.slice A9 L.length c9) L.zipIdx) ∧ Aside0 (∀ k_, QB k_ → k_ < w'.heap.size) ∧ Aside0 (Below w.heap.size w w'))
 case atStart => exact ⟨0, [], r, rfl, ⟨by omega⟩, ⟨H2.out, rfl, Nat.le_refl _⟩, HO3, HQ3, HN3, HB2⟩
 case round =>
  clear HO3 HQ3 HN3 HB2
  obtain ⟨i, out, rest, rfl, HI, HE, HO, HQ, HN, HB⟩ := hrel
  by_cases hi : i < L.length
  ·have d0 : decide ((i : Int) < (L.length : Int)) = true := decide_eq_true (by omega)
   have d1 : decide (i < L.length) = true := decide_eq_true hi
   have q0 : (0 ≤ (i : Int)) = True := eq_true (by omega)
   have q1 : ((i : Int) < (L.length : Int)) = True := eq_true (by omega)
   have q2 : (i < L.length) = True := eq_true hi
   obtain ⟨A', c', e9, _, hrr⟩ := OwnRow.reads HQ.out.2
   injection e9 with e9a e9b e9c
   subst e9a e9c
   clear e9b
   rw [List.length_zipIdx] at hrr
   obtain ⟨ad, cs, e1, _, hM, hcs⟩ := ReadsRow.get_ hrr ([], 0) (i : Int) (by omega) (by omega)
   have hzg : L.zipIdx.getD (i : Int).toNat ([], 0) = (L.getD (i : Int).toNat [], i) := by rw [Int.toNat_natCast, List.getD_eq_getElem?_getD, Kd.zip_at (List.getElem?_eq_getElem hi), List.getD_eq_getElem?_getD, List.getElem?_eq_getElem hi]; rfl
   rw [hzg] at hM
   obtain ⟨ve, rfl, hRe⟩ := hM
   obtain ⟨Ae, ce, rfl, hle, hCe⟩ := Kd.R_reads hRe
   have hx : wr.cell? (ad.add ((i : Int).toNat * 1 + 0)) = some (.slice Ae (L.getD (i : Int).toNat []).length ce) := hcs 0 _ rfl
   simp only [Int.toNat_natCast, Nat.mul_one, Nat.add_zero] at hx hle hCe hRe
   subst e1
   have hgd : L.getD i [] = L[i] := by rw [List.getD_eq_getElem?_getD, List.getElem?_eq_getElem hi, Option.getD_some]
   obtain ⟨hE1, hE2, hE3⟩ := HE.out
   rw [List.drop_eq_getElem_cons hi, ← hgd, ownK] at hE1
   obtain ⟨t, ht, hE4⟩ := Option.bind_eq_some_iff.mp hE1
   obtain ⟨q, hq, hE5⟩ := Option.bind_eq_some_iff.mp hE4
   obtain ⟨F, hF, hE6⟩ := Option.bind_eq_some_iff.mp ht
   split at hE6
   case isFalse => cases hE6
   rename_i hF1
   obtain rfl := Option.some.inj hE6
   have hr5 := Option.some.inj hE5
   generalize L.getD i [] = s at hx hle hCe hRe hF hr5
   have hf := impl_forms.calls k Ae ce s m F wr hCe hle hF
   have HRE := Aside0.mk hRe
   have HCE := a0_ (And.intro hCe hle)
   have HF1 := Aside0.mk hF1
   have HQE := a0_ (And.intro hq hr5)
   have HIL := Aside0.mk hi
   have HW := a0_ (show wrap64 ((i : Int) + 1) = ((i + 1 : Nat) : Int) by have := HLM.out; unfold wrap64; omega)
   clear hzg hrr hcs hRe hle hCe hgd hE1 hE2 hE3 ht hq hE4 hE5 hF hF1 hr5 hi
   obtain ⟨tl, htl⟩ : ∃ tl, tl = leastL F := ⟨_, rfl⟩
   cases hz : decide (cmpS tl s = 0) with
   | true =>
    have hz2 := of_decide_eq_true hz
    have HZ := Aside0.mk hz2
    have HTL := Aside0.mk htl
    clear hz2 htl
    go_wp2_with (first | (go_at_call 44; (refine hf.mono ?_; rintro e w5 ⟨v5, rfl, hS, hb⟩; have HS := a0_ (Kd.S_R hS); have HB5 := Aside0.mk hb; clear hS hb hf)) | (go_at_call 43; (refine (leastOf_calls _ _ _ _ F HS.out HF1.out).mono ?_; rintro e w6 ⟨v6, rfl, hR, hb⟩; rw [← HTL.out] at hR; obtain ⟨A6, c6, rfl⟩ := Kd.R_slice hR; have HR6 := a0_ (Kd.R_reads' hR); have HB6 := a0_ (below_step HB5.out hb); clear hR hb)) | (go_at_call 42; (obtain ⟨kf, hkf⟩ := eqC_some tl s HR6.out.2.2.2.1; rw [hz] at hkf; refine (slices_Equal_impl_Cell_impl_Cell.calls kf A6 c6 tl Ae ce s _ _ HR6.out.2.2 HR6.out.2.1 (Kd.C_below HCE.out.1 HB6.out) HCE.out.2 hkf).mono ?_; rintro e w7 ⟨rfl, ⟨nq, rfl⟩⟩; have HB7 := a0_ (pw_below_drewN HB6.out nq); clear hkf)) | ((with_reducible refine gate_builtin (b := .append) (xs := #[.tmp 22, .tmp 24]) rfl ?_); at_builtin; refine Kd.S_append (Kd.slice 56 k56) (w0 := w) w.heap.size rfl (.tmp 22) (.tmp 24) 22 29 (.slice none 0 0) 24 rfl Tryz.underlying22 infoRowB rfl (by decide) (by omega) u5 out s [.slice Ae s.length ce] (fun k_ => ¬ (QB k_ ∧ i + 1 ≤ f k_)) (fun k_ => (QB k_ ∧ f k_ = i) ∧ some k_ ≠ u5.ownBlock) rfl (by first | (go_simp; done) | (go_simp; rfl)) ?aP (fun k_ h_ => ⟨fun h2_ => by have := h_.1.2; have := h2_.2; omega, h_.2⟩) ?aF ?aO ?aB ?aS ?aL ?_; (case aP => exact Kd.M_row (Kd.R_mono (Kd.R_below HRE.out HB7.out) (fun k_ hk_ => ⟨⟨hk_.1.1.1, hk_.2⟩, hk_.1.1.2⟩))); (case aF => exact fun k_ h_ h2_ => absurd (HN.out k_ h2_.1) (by have := HB7.out.size; omega)); (case aO => exact Kd.S_mono (Kd.S_below HO.out HB7.out) (fun k_ h_ => ⟨fun h2_ => h_ ⟨h2_.1, by have := h2_.2; omega⟩, fun h3_ => h_ ⟨h3_.1.1, by have := h3_.1.2; omega⟩⟩)); (case aB => exact below_step HB.out HB7.out); (case aS => exact below_size (below_step HB.out HB7.out)); (case aL => have := HE.out.2.2; have := HIL.out; have := HLM.out; omega); intro v8 w8 ho hb hg hat; have HO8 := Aside0.mk ho; have HB8 := Aside0.mk hb; have HQ8 := a0_ (Kd.R_after (Kd.R_below HQ.out HB7.out) hg hat); have HN8 : Aside0 (∀ k_, QB k_ → k_ < w8.heap.size) := ⟨fun k_ h_ => by have := HN.out k_ h_; have := HB7.out.size; have := hg.size; omega⟩; clear ho hb hg hat))
    go_roundg (L.length - (i + 1))
    case measure => (have := HI.out; have := HIL.out; omega)
    case rel => exact ⟨i + 1, out ++ [s], q, congrArg (Value.int .i64) HW.out, ⟨by have := HIL.out; omega⟩, ⟨HQE.out.1, by rw [HE.out.2.1, ← HQE.out.2, ← HTL.out, if_pos HZ.out, List.append_assoc]; rfl, by have := HE.out.2.2; rw [List.length_append]; simp; omega⟩, HO8, HQ8, HN8, HB8⟩
   | false =>
    have hz2 := of_decide_eq_false hz
    have HZ := Aside0.mk hz2
    have HTL := Aside0.mk htl
    clear hz2 htl
    go_wp2_with (first | (go_at_call 44; (refine hf.mono ?_; rintro e w5 ⟨v5, rfl, hS, hb⟩; have HS := a0_ (Kd.S_R hS); have HB5 := Aside0.mk hb; clear hS hb hf)) | (go_at_call 43; (refine (leastOf_calls _ _ _ _ F HS.out HF1.out).mono ?_; rintro e w6 ⟨v6, rfl, hR, hb⟩; rw [← HTL.out] at hR; obtain ⟨A6, c6, rfl⟩ := Kd.R_slice hR; have HR6 := a0_ (Kd.R_reads' hR); have HB6 := a0_ (below_step HB5.out hb); clear hR hb)) | (go_at_call 42; (obtain ⟨kf, hkf⟩ := eqC_some tl s HR6.out.2.2.2.1; rw [hz] at hkf; refine (slices_Equal_impl_Cell_impl_Cell.calls kf A6 c6 tl Ae ce s _ _ HR6.out.2.2 HR6.out.2.1 (Kd.C_below HCE.out.1 HB6.out) HCE.out.2 hkf).mono ?_; rintro e w7 ⟨rfl, ⟨nq, rfl⟩⟩; have HB7 := a0_ (pw_below_drewN HB6.out nq); clear hkf)))
    go_roundg (L.length - (i + 1))
    case measure => (have := HI.out; have := HIL.out; omega)
    case rel => exact ⟨i + 1, out, q, congrArg (Value.int .i64) HW.out, ⟨by have := HIL.out; omega⟩, ⟨HQE.out.1, by rw [HE.out.2.1, ← HQE.out.2, ← HTL.out, if_neg HZ.out], by have := HE.out.2.2; omega⟩, ⟨Kd.S_mono (Kd.S_below HO.out HB7.out) (fun k_ h_ h2_ => h_ ⟨h2_.1, by have := h2_.2; omega⟩)⟩, ⟨Kd.R_below HQ.out HB7.out⟩, ⟨fun k_ h_ => by have := HN.out k_ h_; have := HB7.out.size; omega⟩, ⟨below_step HB.out HB7.out⟩⟩
  ·have d0 : decide ((i : Int) < (L.length : Int)) = false := decide_eq_false (by omega)
   have d1 : decide (i < L.length) = false := decide_eq_false hi
   have hr : r = out := by
    have h1 := HE.out.1
    rw [List.drop_of_length_le (by omega), ownK] at h1
    rw [HE.out.2.1, ← Option.some.inj h1, List.append_nil]
   have HR := Aside0.mk hr
   clear hi hr
   go_wp2
   go_ret
   exact ⟨_, rfl, by rw [HR.out]; exact Kd.S_mono HO.out (fun _ _ => trivial), HB.out⟩
end Go.Proofs.YtmdjkmfocgelnaaGreatDoor.PFnAllNets
