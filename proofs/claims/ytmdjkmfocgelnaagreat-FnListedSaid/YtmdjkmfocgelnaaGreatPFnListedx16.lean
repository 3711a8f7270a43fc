/- Over the kit's printer by a driver of mine (hprint.py), with parts by hand: functions of the program as Lean functions, and that each call comes to exactly these answers. -/
import Derived.Test.YtmdjkmfocgelnaaGreatPFnListedx0
import Derived.Test.YtmdjkmfocgelnaaGreatPFnListedx4
import Derived.Test.YtmdjkmfocgelnaaGreatPFnListedx5
import Derived.Test.YtmdjkmfocgelnaaGreatPFnListedx7
import Derived.Test.YtmdjkmfocgelnaaGreatPFnListedx8
import Derived.Test.YtmdjkmfocgelnaaGreatPFnListedx14
import Derived.Test.YtmdjkmfocgelnaaGreatPFnListedx15
namespace Go.Proofs.YtmdjkmfocgelnaaGreat.PFnListed
open Go.RowKit Go.Proofs.YtmdjkmfocgelnaaGreatW.PrintWords Go.Proofs.YtmdjkmfocgelnaaGreatW.PrintLast Go.Proofs.YtmdjkmfocgelnaaGreatW.PrintMore
attribute [local go_sem] max2_int min2_int max_two min_two max_three min_three max_four min_four   -- for this text's walks alone
set_option linter.unusedVariables false
set_option linter.unusedSimpArgs false

/-! ### impl_IsConnected: function 23 -/
/-! Whether a shape hangs together. -/
def impl_IsConnected.f (k : Nat) (l0 : List S46) : Option Bool := (impl_IsShape.f k l0).bind fun t => if t = true then impl_connected.f k l0 else some false
theorem impl_IsConnected.mono : ∀ l0 k, LeO (impl_IsConnected.f k l0) (impl_IsConnected.f (k + 1) l0) := by
 intro l0 k
 unfold impl_IsConnected.f
 exact LeO.bind (impl_IsShape.mono l0 k) (fun t => LeO.ite (impl_connected.mono l0 k) (LeO.refl _))
set_option maxHeartbeats 1000000 in
theorem impl_IsConnected.calls (k : Nat) (A0 : Option Addr) (c0 : Nat) (l0 : List S46) (r : Bool) (w : World) (hr0 : Kd.C k46 w A0 l0.length l0) (hc0 : l0.length ≤ c0) (h : impl_IsConnected.f k l0 = some r) :
  Calls Tryz.prog 23 #[.slice A0 l0.length c0] w fun e w' => e = .returned (.bool r) ∧ Below w.heap.size w w' := by
 unfold impl_IsConnected.f at h
 obtain ⟨t, ht, h⟩ := Option.bind_eq_some_iff.1 h
 have HS := a0_ (impl_IsShape.calls k A0 c0 l0 t w hr0 hc0 ht)
 have HR := Aside0.mk hr0
 have HC := Aside0.mk hc0
 have H' := Aside0.mk h
 clear ht hr0 hc0 h
 cases t with
 | false =>
  have e := Option.some.inj (H'.out.symm.trans (if_neg (by simp)))
  subst e
  go_enter Tryz.func23, Tryz.ntmps23
  go_wp2_with (go_at_call 65; refine HS.out.mono ?_; rintro e w1 ⟨rfl, hb⟩; have HB := Aside0.mk hb; clear hb)
  go_ret
  exact ⟨rfl, HB.out⟩
 | true =>
  have H2 : Aside0 (impl_connected.f k l0 = some r) := ⟨(if_pos rfl).symm.trans H'.out⟩
  clear H'
  go_enter Tryz.func23, Tryz.ntmps23
  go_wp2_with (first | (go_at_call 65; refine HS.out.mono ?_; rintro e w1 ⟨rfl, hb⟩; have HB := Aside0.mk hb; clear hb) | (go_at_call 48; refine (impl_connected.calls k _ _ l0 r _ (Kd.C_below HR.out HB.out) HC.out H2.out).mono ?_; rintro e w2 ⟨rfl, hb2⟩; have HB2 := a0_ (below_step HB.out hb2); clear hb2))
  go_ret
  exact ⟨rfl, HB2.out⟩


/-! ### impl_shapeCode: function 98 -/
def impl_shapeCode.f (k : Nat) (l0 : List (S46)) : Option (Int) := (impl_IsShape.f k l0).bind fun t407 => (if t407 = true then ((impl_normal.f k l0).bind fun t408 => ((impl_IsShape.f k t408).bind fun t411 => (if t411 = true then (some 0) else (some 3)))) else (some 1))
theorem impl_shapeCode.mono : ∀ a0 k, LeO (impl_shapeCode.f k a0) (impl_shapeCode.f (k + 1) a0) := by
 intro a0 k
 unfold impl_shapeCode.f
 with_reducible (repeat' first | exact impl_IsShape.mono _ _ | exact impl_normal.mono _ _ | exact LeO.refl _ | exact LeO.none _ | refine LeO.ite ?_ ?_ | refine LeO.bind ?_ (fun _ => ?_))
set_option maxHeartbeats 8000000 in
set_option maxRecDepth 100000 in
theorem impl_shapeCode.calls (k : Nat) (A0 : Option Addr) (c0 : Nat) (l0 : List (S46)) (r : Int) (w : World) (hr0 : Kd.C k46 w A0 l0.length l0) (hc0 : l0.length ≤ c0) (h : impl_shapeCode.f k l0 = some r) :
  Calls Tryz.prog 98 #[.slice A0 l0.length c0] w fun e w' => e = .returned (.int .i64 r) ∧ Below w.heap.size w w' := by
 have HR0 := Aside0.mk hr0
 have HC0 := Aside0.mk hc0
 clear hr0 hc0
 have HB := a0_ (Below.refl w.heap.size w)
 have H := h
 clear h
 unfold impl_shapeCode.f at H
 obtain ⟨t407, A2, H⟩ := bs_ H
 by_cases c3 : t407 = true
 ·subst c3
  rw [if_pos rfl] at H
  obtain ⟨t408, A4, H⟩ := bs_ H
  obtain ⟨t411, A5, H⟩ := bs_ H
  by_cases c6 : t411 = true
  ·subst c6
   rw [if_pos rfl] at H
   obtain rfl := Option.some.inj H
   go_enter Tryz.func98, Tryz.ntmps98
   go_wp2_with (first | ((with_reducible refine gate_callee (f := 65) rfl ?_); refine goesL_ (some 4) rfl rfl Tryz.func65 kr_ rfl #[.slice A0 l0.length c0] rfl ta_ ?_; (with_reducible refine (impl_IsShape.calls k _ _ l0 true _ ?side1 ?side2 A2.out).mono ?_); (case side1 => exact ca_ HR0.out); (case side2 => exact HC0.out); rintro e w7 ⟨rfl, hb⟩; refine ⟨_, rfl, ?_⟩; replace HB := a0_ (below_step (bl0_) hb); (try clear hb); (try clear hb2); (try clear hk); (try clear hi)) | ((with_reducible refine gate_callee (f := 59) rfl ?_); refine goesL_ (some 7) rfl rfl Tryz.func59 kr_ rfl #[.slice A0 l0.length c0] rfl ta_ ?_; (with_reducible refine (impl_normal.calls k _ _ l0 t408 _ ?side1 ?side2 A4.out).mono ?_); (case side1 => exact ca_ (Kd.C_below HR0.out HB.out)); (case side2 => exact HC0.out); rintro e w8 ⟨v409, rfl, ho0, hb⟩; refine ⟨_, rfl, ?_⟩; have HO410 := a0_ (Kd.R_lower ho0 (below_size (bl0_))); replace HB := a0_ (below_step (bl0_) hb); (try clear hb); (try clear hb2); (try clear hk); (try clear hi); (try clear ho0); obtain ⟨Ao9, co9, eo9⟩ := Kd.R_slice HO410.out; subst eo9) | ((with_reducible refine gate_callee (f := 65) rfl ?_); refine goesL_ (some 8) rfl rfl Tryz.func65 kr_ rfl #[.slice Ao9 t408.length co9] rfl ta_ ?_; (with_reducible refine (impl_IsShape.calls k _ _ t408 true _ ?side1 ?side2 A5.out).mono ?_); (case side1 => exact ca_ (Kd.R_reads' HO410.out).2.2); (case side2 => exact (Kd.R_reads' HO410.out).2.1); rintro e w10 ⟨rfl, hb⟩; refine ⟨_, rfl, ?_⟩; replace HO410 := a0_ (Kd.R_below (ra_ HO410.out) hb); replace HB := a0_ (below_step (bl0_) hb); (try clear hb); (try clear hb2); (try clear hk); (try clear hi)))
   go_ret
   exact ⟨er_, bl0_⟩
  ·replace c6 := Bool.eq_false_iff.mpr c6
   subst c6
   rw [if_neg (show ¬ (false = true) by decide)] at H
   obtain rfl := Option.some.inj H
   go_enter Tryz.func98, Tryz.ntmps98
   go_wp2_with (first | ((with_reducible refine gate_callee (f := 65) rfl ?_); refine goesL_ (some 4) rfl rfl Tryz.func65 kr_ rfl #[.slice A0 l0.length c0] rfl ta_ ?_; (with_reducible refine (impl_IsShape.calls k _ _ l0 true _ ?side1 ?side2 A2.out).mono ?_); (case side1 => exact ca_ HR0.out); (case side2 => exact HC0.out); rintro e w11 ⟨rfl, hb⟩; refine ⟨_, rfl, ?_⟩; replace HB := a0_ (below_step (bl0_) hb); (try clear hb); (try clear hb2); (try clear hk); (try clear hi)) | ((with_reducible refine gate_callee (f := 59) rfl ?_); refine goesL_ (some 7) rfl rfl Tryz.func59 kr_ rfl #[.slice A0 l0.length c0] rfl ta_ ?_; (with_reducible refine (impl_normal.calls k _ _ l0 t408 _ ?side1 ?side2 A4.out).mono ?_); (case side1 => exact ca_ (Kd.C_below HR0.out HB.out)); (case side2 => exact HC0.out); rintro e w12 ⟨v409, rfl, ho0, hb⟩; refine ⟨_, rfl, ?_⟩; have HO410 := a0_ (Kd.R_lower ho0 (below_size (bl0_))); replace HB := a0_ (below_step (bl0_) hb); (try clear hb); (try clear hb2); (try clear hk); (try clear hi); (try clear ho0); obtain ⟨Ao13, co13, eo13⟩ := Kd.R_slice HO410.out; subst eo13) | ((with_reducible refine gate_callee (f := 65) rfl ?_); refine goesL_ (some 8) rfl rfl Tryz.func65 kr_ rfl #[.slice Ao13 t408.length co13] rfl ta_ ?_; (with_reducible refine (impl_IsShape.calls k _ _ t408 false _ ?side1 ?side2 A5.out).mono ?_); (case side1 => exact ca_ (Kd.R_reads' HO410.out).2.2); (case side2 => exact (Kd.R_reads' HO410.out).2.1); rintro e w14 ⟨rfl, hb⟩; refine ⟨_, rfl, ?_⟩; replace HO410 := a0_ (Kd.R_below (ra_ HO410.out) hb); replace HB := a0_ (below_step (bl0_) hb); (try clear hb); (try clear hb2); (try clear hk); (try clear hi)))
   go_ret
   exact ⟨er_, bl0_⟩
 ·replace c3 := Bool.eq_false_iff.mpr c3
  subst c3
  rw [if_neg (show ¬ (false = true) by decide)] at H
  obtain rfl := Option.some.inj H
  go_enter Tryz.func98, Tryz.ntmps98
  go_wp2_with (first | ((with_reducible refine gate_callee (f := 65) rfl ?_); refine goesL_ (some 4) rfl rfl Tryz.func65 kr_ rfl #[.slice A0 l0.length c0] rfl ta_ ?_; (with_reducible refine (impl_IsShape.calls k _ _ l0 false _ ?side1 ?side2 A2.out).mono ?_); (case side1 => exact ca_ HR0.out); (case side2 => exact HC0.out); rintro e w15 ⟨rfl, hb⟩; refine ⟨_, rfl, ?_⟩; replace HB := a0_ (below_step (bl0_) hb); (try clear hb); (try clear hb2); (try clear hk); (try clear hi)))
  go_ret
  exact ⟨er_, bl0_⟩

/-! ### impl_connectedCode: function 58 -/
def impl_connectedCode.f (k : Nat) (l0 : List (S46)) : Option (Int) := (impl_IsConnected.f k l0).bind fun t412 => (if t412 = true then ((impl_shapeCode.f k l0).bind fun t413 => (some t413)) else (some 1))
theorem impl_connectedCode.mono : ∀ a0 k, LeO (impl_connectedCode.f k a0) (impl_connectedCode.f (k + 1) a0) := by
 intro a0 k
 unfold impl_connectedCode.f
 with_reducible (repeat' first | exact impl_IsConnected.mono _ _ | exact impl_shapeCode.mono _ _ | exact LeO.refl _ | exact LeO.none _ | refine LeO.ite ?_ ?_ | refine LeO.bind ?_ (fun _ => ?_))
set_option maxHeartbeats 8000000 in
set_option maxRecDepth 100000 in
theorem impl_connectedCode.calls (k : Nat) (A0 : Option Addr) (c0 : Nat) (l0 : List (S46)) (r : Int) (w : World) (hr0 : Kd.C k46 w A0 l0.length l0) (hc0 : l0.length ≤ c0) (h : impl_connectedCode.f k l0 = some r) :
  Calls Tryz.prog 58 #[.slice A0 l0.length c0] w fun e w' => e = .returned (.int .i64 r) ∧ Below w.heap.size w w' := by
 have HR0 := Aside0.mk hr0
 have HC0 := Aside0.mk hc0
 clear hr0 hc0
 have HB := a0_ (Below.refl w.heap.size w)
 have H := h
 clear h
 unfold impl_connectedCode.f at H
 obtain ⟨t412, A2, H⟩ := bs_ H
 by_cases c3 : t412 = true
 ·subst c3
  rw [if_pos rfl] at H
  obtain ⟨t413, A4, H⟩ := bs_ H
  obtain rfl := Option.some.inj H
  go_enter Tryz.func58, Tryz.ntmps58
  go_wp2_with (first | ((with_reducible refine gate_callee (f := 23) rfl ?_); refine goesL_ (some 4) rfl rfl Tryz.func23 kr_ rfl #[.slice A0 l0.length c0] rfl ta_ ?_; (with_reducible refine (impl_IsConnected.calls k _ _ l0 true _ ?side1 ?side2 A2.out).mono ?_); (case side1 => exact ca_ HR0.out); (case side2 => exact HC0.out); rintro e w5 ⟨rfl, hb⟩; refine ⟨_, rfl, ?_⟩; replace HB := a0_ (below_step (bl0_) hb); (try clear hb); (try clear hb2); (try clear hk); (try clear hi)) | ((with_reducible refine gate_callee (f := 98) rfl ?_); refine goesL_ (some 7) rfl rfl Tryz.func98 kr_ rfl #[.slice A0 l0.length c0] rfl ta_ ?_; (with_reducible refine (impl_shapeCode.calls k _ _ l0 t413 _ ?side1 ?side2 A4.out).mono ?_); (case side1 => exact ca_ (Kd.C_below HR0.out HB.out)); (case side2 => exact HC0.out); rintro e w6 ⟨rfl, hb⟩; refine ⟨_, rfl, ?_⟩; replace HB := a0_ (below_step (bl0_) hb); (try clear hb); (try clear hb2); (try clear hk); (try clear hi)))
  go_ret
  exact ⟨er_, bl0_⟩
 ·replace c3 := Bool.eq_false_iff.mpr c3
  subst c3
  rw [if_neg (show ¬ (false = true) by decide)] at H
  obtain rfl := Option.some.inj H
  go_enter Tryz.func58, Tryz.ntmps58
  go_wp2_with (first | ((with_reducible refine gate_callee (f := 23) rfl ?_); refine goesL_ (some 4) rfl rfl Tryz.func23 kr_ rfl #[.slice A0 l0.length c0] rfl ta_ ?_; (with_reducible refine (impl_IsConnected.calls k _ _ l0 false _ ?side1 ?side2 A2.out).mono ?_); (case side1 => exact ca_ HR0.out); (case side2 => exact HC0.out); rintro e w7 ⟨rfl, hb⟩; refine ⟨_, rfl, ?_⟩; replace HB := a0_ (below_step (bl0_) hb); (try clear hb); (try clear hb2); (try clear hk); (try clear hi)))
  go_ret
  exact ⟨er_, bl0_⟩

/-! ### impl_RankOf: function 21 -/
/-! The place of a shape in an ascending list: slices.BinarySearchFunc over a row of rows of the call's own. -/
def rankL (L : List (List S46)) (o : List S46) : Nat := L.countP (fun x => decide (cmpS x o < 0))
theorem search_calls (w : World) (base : Nat) (ok : Nat → Prop) (g cap : Nat) (cs : List (Value × List S46)) (tail : List Value) (hR : RoR k46 46 35 base ok w g cs tail) (hl : cs.length < 4611686018427387904)
  (A : Option Addr) (c : Nat) (o : List S46) (ho : ∀ w' : World, (∀ k, k < w.heap.size → k ≠ g → w'.heap[k]? = w.heap[k]?) → Kd.C k46 w' A o.length o) (hoc : o.length ≤ c) (hP : (cs.map (·.2)).Pairwise (fun a b => cmpS a b ≤ 0)) :
  Calls Tryz.prog 60 #[.slice (some ⟨g, 0, none⟩) cs.length cap, .slice A o.length c, .func (.func 61) #[] #[]] w fun e w' => (∃ b, e = .returned (.tuple #[.int .i64 (rankL (cs.map (·.2)) o : Nat), .bool b])) ∧ ButB g w w' := by
 have hg : g < w.heap.size := blk_lt hR.blk
 obtain ⟨es, hes⟩ : ∃ es : List (ElemIn w g), es.map (fun e => (e.v, e.x)) = cs := by
  refine ⟨cs.attach.map (fun p => (⟨p.1.1, p.1.2, elem_of (hR.el p.1 p.2)⟩ : ElemIn w g)), ?_⟩
  rw [List.map_map]
  exact List.attach_map_subtype_val cs
 have hel : es.length = cs.length := by rw [← hes, List.length_map]
 have eg : ∀ args w, (callFunc 61 args).run Tryz.prog w = .ok (.enter 61 args) w := enters_of Tryz.func61 kr_ rfl
 have hcmp : CmpLaysT Tryz.prog 61 #[] (fun x : ElemIn w g => x.v) (.slice A o.length c) (fun x => cmpS x.x o) g 0 es.toArray.size w := by
  intro m os dk _ x
  obtain ⟨A0, c0, e0, l0, r0⟩ := x.h
  have h := compareShapes_grew A0 c0 x.x A c o (cmpS x.x o) (Go.Proofs.sortWorld (fun x : ElemIn w g => x.v) w g 0 m dk os) (r0 _ (sortW_heap _ w g m dk os hg)) l0 (ho _ (sortW_heap _ w g m dk os hg)) hoc rfl
  rw [← e0] at h
  exact h
 have hH : Sort.Holds (fun x : ElemIn w g => x.v) w g 0 es.toArray := fun j hj => by
  have hj' : j < es.length := by simpa using hj
  refine ⟨?_, blk_frozen hR.blk _⟩
  rw [Nat.zero_add, blk_cell hR.blk, List.getElem?_toArray, List.getElem?_append_left (by simp; omega), List.getElem?_map, ← hes, List.getElem?_map, List.getElem?_eq_getElem hj', getElem!_pos es.toArray j hj]
  rfl
 have hx : ∀ j (hj : j < es.toArray.size), (es.toArray[j]!).x = ((cs.map (·.2))[j]'(by simp at hj ⊢; omega)) := fun j hj => by
  have hj' : j < es.length := by simpa using hj
  have e : (cs.map (·.2))[j]'(by simp; omega) = (es.map (·.x))[j]'(by simpa using hj') := by congr 1; rw [← hes, List.map_map]; rfl
  rw [e, getElem!_pos es.toArray j hj, List.getElem_map]
  rfl
 have h := Any.slices_BinarySearchFunc Tryz.bsfS (fun x : ElemIn w g => x.v) (fun x => by obtain ⟨A, c, e, _⟩ := x.h; show x.v.oneCell' = true; rw [e]; rfl) (.slice A o.length c) (fun x => cmpS x.x o) 61 #[] g 0 cap es.toArray w eg hcmp hH hg (by simpa [hel] using hl) (fun a b hab hb hlt => by
  rw [hx b hb] at hlt
  rw [hx a (by omega)]
  rcases Nat.eq_or_lt_of_le hab with e | e
  ·subst e; exact hlt
  ·have h1 := List.pairwise_iff_getElem.1 hP a b (by simp at hb ⊢; omega) (by simp at hb ⊢; omega) e
   by_cases z : cmpS ((cs.map (·.2))[a]'(by simp at hb ⊢; omega)) ((cs.map (·.2))[b]'(by simp at hb ⊢; omega)) = 0
   ·rw [(cmpS_zero _ _).1 z]; exact hlt
   ·exact cmpS_trans _ _ _ (by omega) hlt)
 change Calls Tryz.prog 60 _ _ _ at h
 simp only [List.size_toArray, hel] at h
 refine h.mono ?_
 rintro e w' ⟨rfl, m, os, rfl⟩
 have hc : es.countP (fun x => decide (cmpS x.x o < 0)) = rankL (cs.map (·.2)) o := by
  unfold rankL
  rw [← hes, List.map_map, List.countP_map]
  rfl
 refine ⟨⟨_, by rw [← hc]⟩, ⟨rfl, rfl, rfl, ?_, sortW_heap _ w g m _ os hg⟩⟩
 show w.heap.size ≤ ((w.heap.modify g _) ++ os).size
 simp
def impl_RankOf.f (k : Nat) (l : List S46) : Option (Int × Int) := (impl_connectedCode.f k l).bind fun t => if t = 0 then (if 6 < l.length then some (0, 2) else (impl_fixedShapes.f (l.length : Int)).bind fun L => (impl_normal.f k l).bind fun o => if (0 < L.length ∧ L.length < 1000000) ∧ L.Pairwise (fun a b => cmpS a b ≤ 0) then some ((rankL L o : Nat), 0) else none) else some (0, t)
theorem impl_RankOf.mono (l0 : List S46) (k : Nat) : LeO (impl_RankOf.f k l0) (impl_RankOf.f (k + 1) l0) := by
 unfold impl_RankOf.f
 exact LeO.bind (impl_connectedCode.mono l0 k) (fun t => LeO.ite (LeO.ite (LeO.refl _) (LeO.bind (LeO.refl _) (fun L => LeO.bind (impl_normal.mono l0 k) (fun o => LeO.refl _)))) (LeO.refl _))
set_option maxHeartbeats 4000000 in
theorem impl_RankOf.calls (k : Nat) (A0 : Option Addr) (c0 : Nat) (l0 : List S46) (r1 r2 : Int) (w : World) (hr0 : Kd.C k46 w A0 l0.length l0) (hc0 : l0.length ≤ c0) (h : impl_RankOf.f k l0 = some (r1, r2)) :
  Calls Tryz.prog 21 #[.slice A0 l0.length c0] w fun e w' => e = .returned (.tuple #[.int .i64 r1, .int .i64 r2]) ∧ Below w.heap.size w w' := by
 obtain ⟨t, ht, h2⟩ := Option.bind_eq_some_iff.mp h
 have hs := impl_connectedCode.calls k A0 c0 l0 t w hr0 hc0 ht
 by_cases c : t = 0
 ·rw [if_pos c] at h2
  subst c
  by_cases d : 6 < l0.length
  ·rw [if_pos d] at h2
   simp only [Option.some.injEq, Prod.mk.injEq] at h2
   obtain ⟨rfl, rfl⟩ := h2
   have d0 : decide ((6 : Int) < (l0.length : Int)) = true := decide_eq_true (by omega)
   have d1 : decide (6 < l0.length) = true := decide_eq_true d
   clear h ht d hr0 hc0
   go_enter Tryz.func21, Tryz.ntmps21
   go_wp2_with (go_at_call 58; ((with_reducible refine hs.mono ?_); rintro e w1 ⟨rfl, hb⟩; have HB0 := Aside0.mk hb; clear hb))
   go_ret2
   exact ⟨rfl, HB0.out⟩
  ·rw [if_neg d] at h2
   obtain ⟨L, hL, h3⟩ := Option.bind_eq_some_iff.mp h2
   obtain ⟨o, ho, h4⟩ := Option.bind_eq_some_iff.mp h3
   split at h4
   case isFalse => cases h4
   rename_i hg
   obtain ⟨⟨g1, g2⟩, g3⟩ := hg
   simp only [Option.some.injEq, Prod.mk.injEq] at h4
   obtain ⟨rfl, rfl⟩ := h4
   have d0 : decide ((6 : Int) < (l0.length : Int)) = false := decide_eq_false (by omega)
   have d1 : decide (6 < l0.length) = false := decide_eq_false d
   have hfx := fun W => fixedShapes_R (l0.length : Int) L W hL
   have hno := fun W (hb : Below w.heap.size w W) => impl_normal.calls k A0 c0 l0 o W (Kd.C_below hr0 hb) hc0 ho
   have HG := a0_ (And.intro (And.intro g1 g2) g3)
   clear h h2 h3 hL ho ht d hr0 hc0 g1 g2 g3
   go_enter Tryz.func21, Tryz.ntmps21
   go_wp2_with (first | (go_at_call 58; ((with_reducible refine hs.mono ?_); rintro e w1 ⟨rfl, hb⟩; have HB0 := Aside0.mk hb; clear hb)) | (go_at_call 52; (refine (hfx _).mono ?_; rintro e w2 ⟨v2, rfl, hr, hb⟩; have HR := Aside0.mk hr; have HB1 := a0_ (below_step HB0.out hb); clear hr hb)) | (go_at_call 59; (refine (hno _ HB1.out).mono ?_; rintro e w3 ⟨v3, rfl, hr, hb⟩; obtain ⟨A3, c3, rfl⟩ := Kd.R_slice hr; have HO := Aside0.mk hr; have HR3 := a0_ (Kd.R_below HR.out hb); have HB2 := a0_ (below_step HB1.out hb); have HN := a0_ (Kd.R_lt HR.out); clear hr hb)) | (go_at_call 60; (rcases RoR.of_R HR3.out with ⟨_, e0⟩ | ⟨g, cap, cs, tail, rfl, hcs, hct, hm, hrows⟩; exact absurd HG.out.1.1 (by rw [e0]; simp); have hlen : cs.length = L.length := (by rw [← hcs, List.length_map]); rw [← hlen]; have hgb := hrows.ge; have hsc := search_calls w3 _ _ g cap cs tail hrows (by have := HG.out.1.2; omega) A3 c3 o (fun w' hw => (Kd.R_reads' (Kd.R_step (Kd.R_bound HO.out) (fun q hk hq => hw q hq (by have := HN.out g rfl; have := hk.2.1; omega)))).2.2) (Kd.R_reads' HO.out).2.1 (by rw [hcs]; exact HG.out.2); refine hsc.mono ?_; rintro e w4 ⟨⟨b, rfl⟩, hb⟩; rw [hcs]; have HB4 := Aside0.mk hb; have HGB := Aside0.mk hgb; clear hb hsc hrows hct hm hcs hlen)))
   go_ret2
   exact ⟨rfl, HB4.out.from_ HB2.out (Nat.le_refl _) (Nat.le_trans HB0.out.size HGB.out)⟩
 ·rw [if_neg c] at h2
  simp only [Option.some.injEq, Prod.mk.injEq] at h2
  obtain ⟨rfl, rfl⟩ := h2
  have b0 : (t == 0) = false := beq_eq_false_iff_ne.mpr c
  have b1 : (t != 0) = true := bne_iff_ne.mpr c
  clear h ht c hr0 hc0
  go_enter Tryz.func21, Tryz.ntmps21
  go_wp2_with (go_at_call 58; ((with_reducible refine hs.mono ?_); rintro e w1 ⟨rfl, hb⟩; have HB0 := Aside0.mk hb; clear hb))
  go_ret2
  exact ⟨rfl, HB0.out⟩


/-! ### spec_l02Cell: function 71 -/
def spec_l02Cell.f (a0_0 : Int) (a0_1 : Int) : Option (Bool) := (spec_l01In.f a0_0 (-100) 100).bind fun t415 => (if t415 = true then ((spec_l01In.f a0_1 (-100) 100).bind fun t416 => (some t416)) else (some false))
set_option maxHeartbeats 8000000 in
set_option maxRecDepth 100000 in
theorem spec_l02Cell.calls (a0_0 : Int) (a0_1 : Int) (r : Bool) (w : World) (h : spec_l02Cell.f a0_0 a0_1 = some r) :
  Calls Tryz.prog 71 #[.agg #[.int .i64 a0_0, .int .i64 a0_1]] w fun e w' => e = .returned (.bool r) ∧ Below w.heap.size w w' := by
 have hu46 := Tryz.underlying46
 have HB := a0_ (Below.refl w.heap.size w)
 have H := h
 clear h
 unfold spec_l02Cell.f at H
 obtain ⟨t415, A2, H⟩ := bs_ H
 by_cases c3 : t415 = true
 ·subst c3
  rw [if_pos rfl] at H
  obtain ⟨t416, A4, H⟩ := bs_ H
  obtain rfl := Option.some.inj H
  go_enter Tryz.func71, Tryz.ntmps71
  go_wp2_with (first | ((with_reducible refine gate_dst (N := 1) rfl ?_); refine bx_ (N := 1) (cs := #[.int .i64 a0_0, .int .i64 a0_1]) (t := 46) ?_; intro gb414 hg w5 hbox hb; have BK414 := a0_ (hbox); have GW414 := a0_ ((sz_ hg (bl0_) : w.heap.size ≤ gb414)); have GE414 := a0_ ((sz_ hg (bl0_) : w.heap.size ≤ gb414)); replace HB := a0_ (below_step (bl0_) hb); clear hb hbox hg; obtain ⟨hcz6_0, hcz6_1, hfz6_0, hfz6_1⟩ := bc2_ BK414.out) | ((with_reducible refine gate_callee (f := 43) rfl ?_); refine goesL_ (some 5) rfl rfl Tryz.func43 kr_ rfl #[.int .i64 a0_0, .int .i64 (-100), .int .i64 100] rfl ta_ ?_; (with_reducible refine (spec_l01In.calls a0_0 (-100) 100 true _ A2.out).mono ?_); rintro e w' ⟨rfl, ⟨nd, rfl⟩⟩; refine ⟨_, rfl, ?_⟩) | (go_at_call 43; (with_reducible refine (spec_l01In.calls a0_1 (-100) 100 t416 _ A4.out).mono ?_); rintro e w' ⟨rfl, ⟨nd, rfl⟩⟩))
  go_ret
  exact ⟨er_, bl1_ GE414.out⟩
 ·replace c3 := Bool.eq_false_iff.mpr c3
  subst c3
  rw [if_neg (show ¬ (false = true) by decide)] at H
  obtain rfl := Option.some.inj H
  go_enter Tryz.func71, Tryz.ntmps71
  go_wp2_with (first | ((with_reducible refine gate_dst (N := 1) rfl ?_); refine bx_ (N := 1) (cs := #[.int .i64 a0_0, .int .i64 a0_1]) (t := 46) ?_; intro gb414 hg w7 hbox hb; have BK414 := a0_ (hbox); have GW414 := a0_ ((sz_ hg (bl0_) : w.heap.size ≤ gb414)); have GE414 := a0_ ((sz_ hg (bl0_) : w.heap.size ≤ gb414)); replace HB := a0_ (below_step (bl0_) hb); clear hb hbox hg; obtain ⟨hcz8_0, hcz8_1, hfz8_0, hfz8_1⟩ := bc2_ BK414.out) | ((with_reducible refine gate_callee (f := 43) rfl ?_); refine goesL_ (some 5) rfl rfl Tryz.func43 kr_ rfl #[.int .i64 a0_0, .int .i64 (-100), .int .i64 100] rfl ta_ ?_; (with_reducible refine (spec_l01In.calls a0_0 (-100) 100 false _ A2.out).mono ?_); rintro e w' ⟨rfl, ⟨nd, rfl⟩⟩; refine ⟨_, rfl, ?_⟩))
  go_ret
  exact ⟨er_, bl1_ GE414.out⟩

end Go.Proofs.YtmdjkmfocgelnaaGreat.PFnListed
