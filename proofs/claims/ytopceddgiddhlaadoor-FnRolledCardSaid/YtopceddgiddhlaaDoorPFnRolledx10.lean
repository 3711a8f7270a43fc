/- Over the kit's printer by a driver of mine (hprint.py), with parts by hand: functions of the program as Lean functions, and that each call comes to exactly these answers. -/
import Derived.Test.YtopceddgiddhlaaDoorPFnRolledx0
import Derived.Test.YtopceddgiddhlaaDoorPFnRolledx4
import Derived.Test.YtopceddgiddhlaaDoorPFnRolledx8
import Derived.Test.YtopceddgiddhlaaDoorPFnRolledx9
namespace Go.Proofs.YtopceddgiddhlaaDoor.PFnRolled
open Go.RowKit Go.Proofs.YtopceddgiddhlaaDoorW.PrintWords Go.Proofs.YtopceddgiddhlaaDoorW.PrintLast Go.Proofs.YtopceddgiddhlaaDoorW.PrintMore
attribute [local go_sem] max2_int min2_int max_two min_two max_three min_three max_four min_four   -- for this text's walks alone
set_option linter.unusedVariables false
set_option linter.unusedSimpArgs false

/-! ### spec_l06Holes: function 119 -/
mutual
def spec_l06Holes.l0 : Nat → List (S78) → Int → Int → Int → Int → List (S78) → Int → Option ((List (List (S78))))
 | 0, _, _, _, _, _, _, _ => none
 | k + 1, x0, x3, x4, x5, x6, x7, x8 => if x8 ≤ (wrap64 (x4 + x6)) then (spec_l06Holes.l1 k x0 x3 x4 x5 x6 x7 x8 (wrap64 (x3 - 1))) else ((spec_l02Parts.f k x7).bind fun t258 => (spec_l06Holes.l2 k x7 t258 (([] : List (List (S78)))) 1))
def spec_l06Holes.l1 : Nat → List (S78) → Int → Int → Int → Int → List (S78) → Int → Int → Option ((List (List (S78))))
 | 0, _, _, _, _, _, _, _, _ => none
 | k + 1, x0, x3, x4, x5, x6, x7, x8, x9 => if x9 ≤ (wrap64 (x3 + x5)) then ((spec_l02Index.f k x0 x9 x8).bind fun t254 => (if t254 < 0 then (if x7.length < 8796093022208 then (spec_l06Holes.l1 k x0 x3 x4 x5 x6 (x7 ++ [(⟨x9, x8⟩ : S78)]) x8 (wrap64 (x9 + 1))) else (none)) else (spec_l06Holes.l1 k x0 x3 x4 x5 x6 x7 x8 (wrap64 (x9 + 1))))) else (spec_l06Holes.l0 k x0 x3 x4 x5 x6 x7 (wrap64 (x8 + 1)))
def spec_l06Holes.l2 : Nat → List (S78) → List Int → List (List (S78)) → Int → Option ((List (List (S78))))
 | 0, _, _, _, _ => none
 | k + 1, x7, x10, x11, x12 => if x12 < (x7.length : Int) then (if 0 ≤ x12 then (if x12 < (x10.length : Int) then (if (rd x10 x12) = x12 then (spec_l06Holes.l3 k x7 x10 x11 x12 (([] : List (S78))) x12) else (spec_l06Holes.l2 k x7 x10 x11 (wrap64 (x12 + 1)))) else (none)) else (none)) else (some x11)
def spec_l06Holes.l3 : Nat → List (S78) → List Int → List (List (S78)) → Int → List (S78) → Int → Option ((List (List (S78))))
 | 0, _, _, _, _, _, _ => none
 | k + 1, x7, x10, x11, x12, x13, x14 => if x14 < (x7.length : Int) then (if 0 ≤ x14 then (if x14 < (x10.length : Int) then (if (rd x10 x14) = x12 then (if x13.length < 8796093022208 then (spec_l06Holes.l3 k x7 x10 x11 x12 (x13 ++ [(⟨(rd_T78 x7 x14).f0, (rd_T78 x7 x14).f1⟩ : S78)]) (wrap64 (x14 + 1))) else (none)) else (spec_l06Holes.l3 k x7 x10 x11 x12 x13 (wrap64 (x14 + 1)))) else (none)) else (none)) else (if x11.length < 5864062014805 then (spec_l06Holes.l2 k x7 x10 (x11 ++ [x13]) (wrap64 (x12 + 1))) else (none))
end
def spec_l06Holes.f (k : Nat) (l0 : List (S78)) : Option ((List (List (S78)))) := (spec_l02Least.f k l0).bind fun bt247 => ((spec_l04Size.f k l0).bind fun bt249 => (spec_l06Holes.l0 k l0 bt247.1 bt247.2 bt249.1 bt249.2 (([] : List (S78))) (wrap64 (bt247.2 - 1))))
theorem spec_l06Holes.mono_l : ∀ k, (∀ y0 y1 y2 y3 y4 y5 y6, LeO (spec_l06Holes.l0 k y0 y1 y2 y3 y4 y5 y6) (spec_l06Holes.l0 (k + 1) y0 y1 y2 y3 y4 y5 y6)) ∧ (∀ y0 y1 y2 y3 y4 y5 y6 y7, LeO (spec_l06Holes.l1 k y0 y1 y2 y3 y4 y5 y6 y7) (spec_l06Holes.l1 (k + 1) y0 y1 y2 y3 y4 y5 y6 y7)) ∧ (∀ y0 y1 y2 y3, LeO (spec_l06Holes.l2 k y0 y1 y2 y3) (spec_l06Holes.l2 (k + 1) y0 y1 y2 y3)) ∧ (∀ y0 y1 y2 y3 y4 y5, LeO (spec_l06Holes.l3 k y0 y1 y2 y3 y4 y5) (spec_l06Holes.l3 (k + 1) y0 y1 y2 y3 y4 y5))
 | 0 => ⟨fun _ _ _ _ _ _ _ r h => by simp [spec_l06Holes.l0] at h, fun _ _ _ _ _ _ _ _ r h => by simp [spec_l06Holes.l1] at h, fun _ _ _ _ r h => by simp [spec_l06Holes.l2] at h, fun _ _ _ _ _ _ r h => by simp [spec_l06Holes.l3] at h⟩
 | k + 1 => by
  obtain ⟨ih0, ih1, ih2, ih3⟩ := spec_l06Holes.mono_l k
  refine ⟨?_, ?_, ?_, ?_⟩
  ·intro y0 y1 y2 y3 y4 y5 y6
   unfold spec_l06Holes.l0
   with_reducible (repeat' first | exact ih0 _ _ _ _ _ _ _ | exact ih1 _ _ _ _ _ _ _ _ | exact ih2 _ _ _ _ | exact ih3 _ _ _ _ _ _ | exact spec_l02Index.mono _ _ _ _ | exact spec_l02Least.mono _ _ | exact spec_l02Parts.mono _ _ | exact spec_l04Size.mono _ _ | exact LeO.refl _ | exact LeO.none _ | refine LeO.ite ?_ ?_ | refine LeO.bind ?_ (fun _ => ?_))
  ·intro y0 y1 y2 y3 y4 y5 y6 y7
   unfold spec_l06Holes.l1
   with_reducible (repeat' first | exact ih0 _ _ _ _ _ _ _ | exact ih1 _ _ _ _ _ _ _ _ | exact ih2 _ _ _ _ | exact ih3 _ _ _ _ _ _ | exact spec_l02Index.mono _ _ _ _ | exact spec_l02Least.mono _ _ | exact spec_l02Parts.mono _ _ | exact spec_l04Size.mono _ _ | exact LeO.refl _ | exact LeO.none _ | refine LeO.ite ?_ ?_ | refine LeO.bind ?_ (fun _ => ?_))
  ·intro y0 y1 y2 y3
   unfold spec_l06Holes.l2
   with_reducible (repeat' first | exact ih0 _ _ _ _ _ _ _ | exact ih1 _ _ _ _ _ _ _ _ | exact ih2 _ _ _ _ | exact ih3 _ _ _ _ _ _ | exact spec_l02Index.mono _ _ _ _ | exact spec_l02Least.mono _ _ | exact spec_l02Parts.mono _ _ | exact spec_l04Size.mono _ _ | exact LeO.refl _ | exact LeO.none _ | refine LeO.ite ?_ ?_ | refine LeO.bind ?_ (fun _ => ?_))
  ·intro y0 y1 y2 y3 y4 y5
   unfold spec_l06Holes.l3
   with_reducible (repeat' first | exact ih0 _ _ _ _ _ _ _ | exact ih1 _ _ _ _ _ _ _ _ | exact ih2 _ _ _ _ | exact ih3 _ _ _ _ _ _ | exact spec_l02Index.mono _ _ _ _ | exact spec_l02Least.mono _ _ | exact spec_l02Parts.mono _ _ | exact spec_l04Size.mono _ _ | exact LeO.refl _ | exact LeO.none _ | refine LeO.ite ?_ ?_ | refine LeO.bind ?_ (fun _ => ?_))
theorem spec_l06Holes.mono : ∀ a0 k, LeO (spec_l06Holes.f k a0) (spec_l06Holes.f (k + 1) a0) := by
 intro a0 k
 obtain ⟨ih0, ih1, ih2, ih3⟩ := spec_l06Holes.mono_l k
 unfold spec_l06Holes.f
 with_reducible (repeat' first | exact ih0 _ _ _ _ _ _ _ | exact ih1 _ _ _ _ _ _ _ _ | exact ih2 _ _ _ _ | exact ih3 _ _ _ _ _ _ | exact spec_l02Index.mono _ _ _ _ | exact spec_l02Least.mono _ _ | exact spec_l02Parts.mono _ _ | exact spec_l04Size.mono _ _ | exact LeO.refl _ | exact LeO.none _ | refine LeO.ite ?_ ?_ | refine LeO.bind ?_ (fun _ => ?_))
set_option maxHeartbeats 8000000 in
set_option maxRecDepth 100000 in
theorem spec_l06Holes.calls (k : Nat) (A0 : Option Addr) (c0 : Nat) (l0 : List (S78)) (r : List (List (S78))) (w : World) (hr0 : Kd.C k78 w A0 l0.length l0) (hc0 : l0.length ≤ c0) (h : spec_l06Holes.f k l0 = some r) :
  Calls Tryd.prog 119 #[.slice A0 l0.length c0] w fun e w' => ∃ v0_ : Value, e = .returned (v0_) ∧ Kd.S (Kd.slice 78 k78) 24 w' w.heap.size (fun _ => True) v0_ r ∧ Below w.heap.size w w' := by
 have hu78 := Tryd.underlying78
 have HR0 := Aside0.mk hr0
 have HC0 := Aside0.mk hc0
 clear hr0 hc0
 have HB := a0_ (Below.refl w.heap.size w)
 have H := h
 clear h
 unfold spec_l06Holes.f at H
 obtain ⟨⟨t247, t248⟩, A2, H⟩ := bs_ H
 dsimp only at H
 obtain ⟨⟨t249, t250⟩, A3, H⟩ := bs_ H
 dsimp only at H
 obtain ⟨y251, hy251⟩ : ∃ y_ : List (S78), y_ = (([] : List (S78))) := ⟨_, rfl⟩
 replace H : (spec_l06Holes.l0 k l0 t247 t248 t249 t250 y251 (wrap64 (t248 - 1))) = some r := hh_ hy251 H
 have Ny251 := Aside0.mk hy251
 clear hy251
 have H' := Aside0.mk H
 clear H
 go_enter Tryd.func119, Tryd.ntmps119
 go_wp2_with (first | ((with_reducible refine gate_callee (f := 104) rfl ?_); refine goesL_ (some 17) rfl rfl Tryd.func104 kr_ rfl #[.slice A0 l0.length c0] rfl ta_ ?_; (with_reducible refine (spec_l02Least.calls k _ _ l0 t247 t248 _ ?side1 ?side2 A2.out).mono ?_); (case side1 => exact ca_ HR0.out); (case side2 => exact HC0.out); rintro e w4 ⟨rfl, hb⟩; refine ⟨_, rfl, ?_⟩; replace HB := a0_ (below_step (bl0_) hb); (try clear hb); (try clear hb2); (try clear hk); (try clear hi)) | ((with_reducible refine gate_callee (f := 69) rfl ?_); refine goesL_ (some 22) rfl rfl Tryd.func69 kr_ rfl #[.slice A0 l0.length c0] rfl ta_ ?_; (with_reducible refine (spec_l04Size.calls k _ _ l0 t249 t250 _ ?side1 ?side2 A3.out).mono ?_); (case side1 => exact ca_ (Kd.C_below HR0.out HB.out)); (case side2 => exact HC0.out); rintro e w5 ⟨rfl, hb⟩; refine ⟨_, rfl, ?_⟩; replace HB := a0_ (below_step (bl0_) hb); (try clear hb); (try clear hb2); (try clear hk); (try clear hi)) | ((with_reducible refine gate_dst (N := 25) rfl ?_); refine Kd.R_lit k78 _ 78 ?hg (N := 25) ?hd (xs := ([] : List (S78))) (inner := []) (ok := fun _ => True) (okp := fun _ => True) ?hr ?hp (fun _ hk => hk) trivial (Below.refl _ _) (Nat.le_refl _) (by simp) ?_; (case hd => rfl); (case hg => rfl); (case hr => first | (go_simp; done) | (go_simp; rfl)); (case hp => exact (Reps.none _ _)); intro v252 w6 ho7 hb hg_ hnew_; clear hg_ hnew_; (first | rw [← Ny251.out] at ho7 | (simp only [Int.reduceToNat] at ho7; rw [← Ny251.out] at ho7)); have HO253 := a0_ (Kd.R_lower ho7 (below_size (bl0_))); replace HB := a0_ (below_step (bl0_) hb); clear hb ho7))
 go_loopg [7, 8] k (fun kq v7 v8 w' => ∃ (x7_1 : List (S78)) (x8_1 : Int), v8 = .int .i64 x8_1 ∧ Aside0 (spec_l06Holes.l0 kq l0 t247 t248 t249 t250 x7_1 x8_1 = some r) ∧ Aside0 (kq ≤ k) ∧ Aside0 (Kd.R k78 78 w' w.heap.size (fun _ => True) v7 x7_1) ∧ Aside0 (Below w.heap.size w w'))
 case atStart => exact ⟨(y251), (wrap64 (t248 - 1)), rs_, H', ⟨Nat.le_refl _⟩, ⟨ra_ HO253.out⟩, ⟨bl0_⟩⟩
 case round =>
  clear H'
  try clear c1
  try clear p2
  try clear c6
  try clear p6
  obtain ⟨x7_1, x8_1, rfl, HA, HK1, HO_7, HB⟩ := hrel
  cases gk with
  | zero => exact absurd HA.out (by simp [spec_l06Holes.l0])
  | succ k1 =>
   have H := HA.out
   clear HA
   simp only [spec_l06Holes.l0] at H
   by_cases c8 : x8_1 ≤ (wrap64 (t248 + t250))
   ·rw [if_pos c8] at H
    have c8b0 : decide (x8_1 ≤ (wrap64 (t248 + t250))) = true := decide_eq_true c8
    clear c8
    have H' := Aside0.mk H
    clear H
    go_wp2
    go_loopg [7, 9] k1 (fun kq v7 v9 w' => ∃ (x7_2 : List (S78)) (x9_2 : Int), v9 = .int .i64 x9_2 ∧ Aside0 (spec_l06Holes.l1 kq l0 t247 t248 t249 t250 x7_2 x8_1 x9_2 = some r) ∧ Aside0 (kq ≤ k1) ∧ Aside0 (Kd.R k78 78 w' w.heap.size (fun _ => True) v7 x7_2) ∧ Aside0 (Below w.heap.size w w'))
    case atStart => exact ⟨(x7_1), (wrap64 (t247 - 1)), rs_, H', ⟨Nat.le_refl _⟩, ⟨ra_ HO_7.out⟩, ⟨bl0_⟩⟩
    case round =>
     clear H'
     try clear c1
     try clear p2
     try clear c6
     try clear p6
     try clear c8
     try clear c8b0
     try clear p2
     try clear p6
     obtain ⟨x7_2, x9_2, rfl, HA, HK2, HO_7, HB⟩ := hrel
     cases gk with
     | zero => exact absurd HA.out (by simp [spec_l06Holes.l1])
     | succ k2 =>
      have H := HA.out
      clear HA
      simp only [spec_l06Holes.l1] at H
      by_cases c9 : x9_2 ≤ (wrap64 (t247 + t249))
      ·rw [if_pos c9] at H
       have c9b0 : decide (x9_2 ≤ (wrap64 (t247 + t249))) = true := decide_eq_true c9
       clear c9
       obtain ⟨t254, A10, H⟩ := bs_ H
       by_cases c11 : t254 < 0
       ·rw [if_pos c11] at H
        have c11b0 : decide (t254 < 0) = true := decide_eq_true c11
        clear c11
        by_cases c12 : x7_2.length < 8796093022208
        ·rw [if_pos c12] at H
         have LMc12 := Aside0.mk c12
         clear c12
         obtain ⟨y255, hy255⟩ : ∃ y_ : List (S78), y_ = (x7_2 ++ [(⟨x9_2, x8_1⟩ : S78)]) := ⟨_, rfl⟩
         replace H : (spec_l06Holes.l1 k2 l0 t247 t248 t249 t250 y255 x8_1 (wrap64 (x9_2 + 1))) = some r := hh_ hy255 H
         have Ny255 := Aside0.mk hy255
         clear hy255
         have H' := Aside0.mk H
         clear H
         go_wp2_with (first | ((with_reducible refine gate_callee (f := 70) rfl ?_); refine goesL_ (some 48) rfl rfl Tryd.func70 kr_ rfl #[.slice A0 l0.length c0, .agg #[.int .i64 x9_2, .int .i64 x8_1]] rfl ta_ ?_; (with_reducible refine (spec_l02Index.calls k2 _ _ l0 x9_2 x8_1 t254 _ ?side1 ?side2 A10.out).mono ?_); (case side1 => exact ca_ (Kd.C_below HR0.out HB.out)); (case side2 => exact HC0.out); rintro e w13 ⟨rfl, hb⟩; refine ⟨_, rfl, ?_⟩; replace HO_7 := a0_ (Kd.R_below (ra_ HO_7.out) hb); replace HB := a0_ (below_step (bl0_) hb); (try clear hb); (try clear hb2); (try clear hk); (try clear hi)) | ((with_reducible refine gate_builtin (b := .append) (xs := #[.tmp 50, .tmp 54]) rfl ?_); at_builtin; refine Kd.R_append k78 (w0 := w) w.heap.size rfl (.tmp 50) (.tmp 54) 24 78 (.agg #[(.int .i64 0), (.int .i64 0)]) 16 rfl Tryd.underlying24 info78 rfl (by decide) (by omega) u7 x7_2 (⟨x9_2, x8_1⟩ : S78) [.int .i64 x9_2, .int .i64 x8_1] (fun _ => True) (fun _ => False) rfl rfl ?aP (fun _ hk => hk.elim) ?aF ?aO ?aB ?aS ?aL ?_; (case aP => exact k78_mkM _ _ _ (⟨x9_2, x8_1⟩ : S78)); (case aB => exact (bl0_)); (case aF => exact (fun _ _ => trivial)); (case aO => exact (ra_ HO_7.out)); (case aS => exact (below_size (bl0_))); (case aL => have := LMc12.out; omega); intro v256 w14 ho hb hg hat; rw [← Ny255.out] at ho; replace HB := a0_ (hb); have HO257 := a0_ (ho); clear HO_7; clear ho hb hg hat))
         go_roundg k2
         case measure => have := HK1.out; have := HK2.out; omega
         case rel => exact ⟨(y255), (wrap64 (x9_2 + 1)), rs_, H', ⟨by have := HK1.out; have := HK2.out; omega⟩, ⟨ra_ HO257.out⟩, ⟨bl0_⟩⟩
        ·rw [if_neg c12] at H
         exact absurd H (by simp)
       ·rw [if_neg c11] at H
        have c11b0 : decide (t254 < 0) = false := decide_eq_false c11
        clear c11
        have H' := Aside0.mk H
        clear H
        go_wp2_with (first | ((with_reducible refine gate_callee (f := 70) rfl ?_); refine goesL_ (some 48) rfl rfl Tryd.func70 kr_ rfl #[.slice A0 l0.length c0, .agg #[.int .i64 x9_2, .int .i64 x8_1]] rfl ta_ ?_; (with_reducible refine (spec_l02Index.calls k2 _ _ l0 x9_2 x8_1 t254 _ ?side1 ?side2 A10.out).mono ?_); (case side1 => exact ca_ (Kd.C_below HR0.out HB.out)); (case side2 => exact HC0.out); rintro e w15 ⟨rfl, hb⟩; refine ⟨_, rfl, ?_⟩; replace HO_7 := a0_ (Kd.R_below (ra_ HO_7.out) hb); replace HB := a0_ (below_step (bl0_) hb); (try clear hb); (try clear hb2); (try clear hk); (try clear hi)))
        go_roundg k2
        case measure => have := HK1.out; have := HK2.out; omega
        case rel => exact ⟨(x7_2), (wrap64 (x9_2 + 1)), rs_, H', ⟨by have := HK1.out; have := HK2.out; omega⟩, ⟨ra_ HO_7.out⟩, ⟨bl0_⟩⟩
      ·rw [if_neg c9] at H
       have c9b0 : decide (x9_2 ≤ (wrap64 (t247 + t249))) = false := decide_eq_false c9
       clear c9
       have H' := Aside0.mk H
       clear H
       go_wp2
       go_roundg k2
       case measure => have := HK1.out; have := HK2.out; omega
       case rel => exact ⟨(x7_2), (wrap64 (x8_1 + 1)), rs_, H', ⟨by have := HK1.out; have := HK2.out; omega⟩, ⟨ra_ HO_7.out⟩, ⟨bl0_⟩⟩
   ·rw [if_neg c8] at H
    have c8b0 : decide (x8_1 ≤ (wrap64 (t248 + t250))) = false := decide_eq_false c8
    clear c8
    obtain ⟨t258, A16, H⟩ := bs_ H
    obtain ⟨y261, hy261⟩ : ∃ y_ : List (List (S78)), y_ = (([] : List (List (S78)))) := ⟨_, rfl⟩
    replace H : (spec_l06Holes.l2 k1 x7_1 t258 y261 1) = some r := hh_ hy261 H
    have Ny261 := Aside0.mk hy261
    clear hy261
    have H' := Aside0.mk H
    clear H
    obtain ⟨Ao17, co17, eo17⟩ := Kd.R_slice HO_7.out
    subst eo17
    go_wp2_with (first | ((with_reducible refine gate_callee (f := 92) rfl ?_); refine goesL_ (some 57) rfl rfl Tryd.func92 kr_ rfl #[.slice Ao17 x7_1.length co17] rfl ta_ ?_; (with_reducible refine (spec_l02Parts.calls k1 _ _ x7_1 t258 _ ?side1 ?side2 A16.out).mono ?_); (case side1 => exact ca_ (Kd.R_reads' HO_7.out).2.2); (case side2 => exact (Kd.R_reads' HO_7.out).2.1); rintro e w18 ⟨v259, rfl, ho0, hb⟩; refine ⟨_, rfl, ?_⟩; replace HO_7 := a0_ (Kd.R_below (ra_ HO_7.out) hb); have HO260 := a0_ (Kd.R_lower ho0 (below_size (bl0_))); replace HB := a0_ (below_step (bl0_) hb); (try clear hb); (try clear hb2); (try clear hk); (try clear hi); (try clear ho0)) | ((with_reducible refine gate_dst (N := 58) rfl ?_); refine Kd.S_lit (Kd.slice 78 k78) _ 24 ?hg (N := 58) ?hd (xs := ([] : List (List (S78)))) (inner := []) (ok := fun _ => True) (okp := fun _ => True) ?hr ?hp (fun _ hk => hk) trivial (Below.refl _ _) (Nat.le_refl _) (by simp) ?_; (case hd => rfl); (case hg => rfl); (case hr => first | (go_simp; done) | (go_simp; rfl)); (case hp => exact (Reps.none _ _)); intro v262 w19 ho20 hb hg_ hnew_; clear hg_ hnew_; (first | rw [← Ny261.out] at ho20 | (simp only [Int.reduceToNat] at ho20; rw [← Ny261.out] at ho20)); replace HO260 := a0_ (Kd.R_below (ra_ HO260.out) hb); have HO263 := a0_ (Kd.S_lower (Kd.S_new' ho20 (Kd.R_lt (ra_ HO_7.out))) (below_size (bl0_))); replace HO_7 := a0_ (Kd.R_below (ra_ HO_7.out) hb); replace HB := a0_ (below_step (bl0_) hb); clear hb ho20))
    go_loopg [11, 12] k1 (fun kq v11 v12 w' => ∃ (x11_2 : List (List (S78))) (x12_2 : Int), v12 = .int .i64 x12_2 ∧ Aside0 (spec_l06Holes.l2 kq x7_1 t258 x11_2 x12_2 = some r) ∧ Aside0 (kq ≤ k1) ∧ Aside0 (Kd.R k78 78 w' w.heap.size (fun _ => True) (.slice Ao17 x7_1.length co17) x7_1) ∧ Aside0 (Kd.R (Kd.int .i64) 2 w' w.heap.size (fun _ => True) v259 t258) ∧ Aside0 (Kd.S (Kd.slice 78 k78) 24 w' w.heap.size (fun k_ => some k_ ≠ ((.slice Ao17 x7_1.length co17) : Value).ownBlock) v11 x11_2) ∧ Aside0 (Below w.heap.size w w'))
    case atStart => exact ⟨(y261), (1), rs_, H', ⟨Nat.le_refl _⟩, ⟨ra_ HO_7.out⟩, ⟨ra_ HO260.out⟩, ⟨by (with_reducible repeat (first | apply Kd.S_alloc | apply Kd.S_drewN | apply Kd.S_drew)); exact Kd.S_mono HO263.out (fun _ hk => hk.2)⟩, ⟨bl0_⟩⟩
    case round =>
     clear H'
     try clear c1
     try clear p2
     try clear c6
     try clear p6
     try clear c7
     try clear c8
     try clear c8b0
     try clear c9
     try clear c9b0
     try clear c10
     try clear c11
     try clear c11b0
     try clear c12
     try clear p2
     try clear p6
     obtain ⟨x11_2, x12_2, rfl, HA, HK2, HO_7, HO_10, HO_11, HB⟩ := hrel
     cases gk with
     | zero => exact absurd HA.out (by simp [spec_l06Holes.l2])
     | succ k2 =>
      have H := HA.out
      clear HA
      simp only [spec_l06Holes.l2] at H
      by_cases c21 : x12_2 < (x7_1.length : Int)
      ·rw [if_pos c21] at H
       have c21b0 : decide (x12_2 < (x7_1.length : Int)) = true := decide_eq_true c21
       clear c21
       by_cases c22 : 0 ≤ x12_2
       ·rw [if_pos c22] at H
        have c22b0 : decide (0 ≤ x12_2) = true := decide_eq_true c22
        clear c22
        by_cases c23 : x12_2 < (t258.length : Int)
        ·rw [if_pos c23] at H
         have c23b0 : decide (x12_2 < (t258.length : Int)) = true := decide_eq_true c23
         clear c23
         by_cases c24 : (rd t258 x12_2) = x12_2
         ·rw [if_pos c24] at H
          have c24b0 : ((rd t258 x12_2) == x12_2) = true := beq_iff_eq.mpr c24
          have c24b1 : ((rd t258 x12_2) != x12_2) = false := bne_eq_false_iff_eq.mpr c24
          clear c24
          obtain ⟨y265, hy265⟩ : ∃ y_ : List (S78), y_ = (([] : List (S78))) := ⟨_, rfl⟩
          replace H : (spec_l06Holes.l3 k2 x7_1 t258 x11_2 x12_2 y265 x12_2) = some r := hh_ hy265 H
          have Ny265 := Aside0.mk hy265
          clear hy265
          have H' := Aside0.mk H
          clear H
          obtain ⟨Ao25, co25, eo25⟩ := Kd.R_slice HO_10.out
          subst eo25
          have p264 : 0 ≤ (x12_2 : Int) := od_
          have q264 : x12_2 < (t258.length : Int) := od_
          obtain ⟨ad264, e264, hx264_0⟩ := Kd.at_int (Kd.R_reads' HO_10.out).2.2 x12_2 p264 q264
          cases e264
          replace p264 := eq_true p264
          replace q264 := eq_true q264
          go_wp2_with (first | ((with_reducible refine gate_dst (N := 71) rfl ?_); refine Kd.R_lit k78 _ 78 ?hg (N := 71) ?hd (xs := ([] : List (S78))) (inner := []) (ok := fun _ => True) (okp := fun _ => True) ?hr ?hp (fun _ hk => hk) trivial (Below.refl _ _) (Nat.le_refl _) (by simp) ?_; (case hd => rfl); (case hg => rfl); (case hr => first | (go_simp; done) | (go_simp; rfl)); (case hp => exact (Reps.none _ _)); intro v266 w26 ho27 hb hg_ hnew_; clear hg_ hnew_; (first | rw [← Ny265.out] at ho27 | (simp only [Int.reduceToNat] at ho27; rw [← Ny265.out] at ho27)); replace HO_10 := a0_ (Kd.R_below (ra_ HO_10.out) hb); replace HO_11 := a0_ (Kd.S_elder' (sa_ HO_11.out) (Kd.R_base ho27) hb); have HO267 := a0_ (Kd.R_lower (Kd.R_new' ho27 (Kd.R_lt (ra_ HO_7.out))) (below_size (bl0_))); replace HO_7 := a0_ (Kd.R_elder' (ra_ HO_7.out) (Kd.R_base ho27) hb); replace HB := a0_ (below_step (bl0_) hb); clear hb ho27))
          go_loopg [13, 14] k2 (fun kq v13 v14 w' => ∃ (x13_3 : List (S78)) (x14_3 : Int), v14 = .int .i64 x14_3 ∧ Aside0 (spec_l06Holes.l3 kq x7_1 t258 x11_2 x12_2 x13_3 x14_3 = some r) ∧ Aside0 (kq ≤ k2) ∧ Aside0 (Kd.R k78 78 w' w.heap.size (fun k_ => some k_ ≠ (v13 : Value).ownBlock) (.slice Ao17 x7_1.length co17) x7_1) ∧ Aside0 (Kd.R (Kd.int .i64) 2 w' w.heap.size (fun _ => True) (.slice (some ad264) t258.length co25) t258) ∧ Aside0 (Kd.S (Kd.slice 78 k78) 24 w' w.heap.size (fun k_ => some k_ ≠ ((.slice Ao17 x7_1.length co17) : Value).ownBlock ∧ some k_ ≠ (v13 : Value).ownBlock) u11 x11_2) ∧ Aside0 (Kd.R k78 78 w' w.heap.size (fun k_ => some k_ ≠ ((.slice Ao17 x7_1.length co17) : Value).ownBlock) v13 x13_3) ∧ Aside0 (Below w.heap.size w w'))
          case atStart => exact ⟨(y265), (x12_2), rs_, H', ⟨Nat.le_refl _⟩, ⟨by (with_reducible repeat (first | apply Kd.R_alloc | apply Kd.R_drewN | apply Kd.R_drew)); exact Kd.R_mono HO_7.out (fun _ hk => hk.2)⟩, ⟨ra_ HO_10.out⟩, ⟨sa_ HO_11.out⟩, ⟨by (with_reducible repeat (first | apply Kd.R_alloc | apply Kd.R_drewN | apply Kd.R_drew)); exact Kd.R_mono HO267.out (fun _ hk => hk.2)⟩, ⟨bl0_⟩⟩
          case round =>
           clear H'
           try clear c1
           try clear c2
           try clear p2
           try clear q2
           try clear hx2
           try clear c6
           try clear p6
           try clear c7
           try clear c8
           try clear c8b0
           try clear c9
           try clear c9b0
           try clear c10
           try clear c11
           try clear c11b0
           try clear c12
           try clear c21
           try clear c21b0
           try clear c22
           try clear c22b0
           try clear c23
           try clear c23b0
           try clear c24
           try clear c24b0
           try clear c24b1
           try clear p26
           try clear q26
           try clear hx26
           try clear hx264_0
           try clear p2
           try clear p264
           try clear p6
           try clear q264
           obtain ⟨x13_3, x14_3, rfl, HA, HK3, HO_7, HO_10, HO_11, HO_13, HB⟩ := hrel
           cases gk with
           | zero => exact absurd HA.out (by simp [spec_l06Holes.l3])
           | succ k3 =>
            have H := HA.out
            clear HA
            simp only [spec_l06Holes.l3] at H
            by_cases c28 : x14_3 < (x7_1.length : Int)
            ·rw [if_pos c28] at H
             have c28b0 : decide (x14_3 < (x7_1.length : Int)) = true := decide_eq_true c28
             clear c28
             by_cases c29 : 0 ≤ x14_3
             ·rw [if_pos c29] at H
              have c29b0 : decide (0 ≤ x14_3) = true := decide_eq_true c29
              clear c29
              by_cases c30 : x14_3 < (t258.length : Int)
              ·rw [if_pos c30] at H
               have c30b0 : decide (x14_3 < (t258.length : Int)) = true := decide_eq_true c30
               clear c30
               by_cases c31 : (rd t258 x14_3) = x12_2
               ·rw [if_pos c31] at H
                have c31b0 : ((rd t258 x14_3) == x12_2) = true := beq_iff_eq.mpr c31
                have c31b1 : ((rd t258 x14_3) != x12_2) = false := bne_eq_false_iff_eq.mpr c31
                clear c31
                by_cases c32 : x13_3.length < 8796093022208
                ·rw [if_pos c32] at H
                 have LMc32 := Aside0.mk c32
                 clear c32
                 obtain ⟨y270, hy270⟩ : ∃ y_ : List (S78), y_ = (x13_3 ++ [(⟨(rd_T78 x7_1 x14_3).f0, (rd_T78 x7_1 x14_3).f1⟩ : S78)]) := ⟨_, rfl⟩
                 replace H : (spec_l06Holes.l3 k3 x7_1 t258 x11_2 x12_2 y270 (wrap64 (x14_3 + 1))) = some r := hh_ hy270 H
                 have Ny270 := Aside0.mk hy270
                 clear hy270
                 have H' := Aside0.mk H
                 clear H
                 have p268 : 0 ≤ (x14_3 : Int) := od_
                 have q268 : x14_3 < (t258.length : Int) := od_
                 obtain ⟨ad268, e268, hx268_0⟩ := Kd.at_int (Kd.R_reads' HO_10.out).2.2 x14_3 p268 q268
                 obtain rfl : ad264 = ad268 := (by injection e268)
                 replace p268 := eq_true p268
                 replace q268 := eq_true q268
                 have p269 : 0 ≤ (x14_3 : Int) := od_
                 have q269 : x14_3 < (x7_1.length : Int) := od_
                 obtain ⟨ad269, e269, hx269_0, hx269_1⟩ := at_T78 (Kd.R_reads' HO_7.out).2.2 x14_3 p269 q269
                 cases e269
                 replace p269 := eq_true p269
                 replace q269 := eq_true q269
                 go_wp2_with (first | ((with_reducible refine gate_builtin (b := .append) (xs := #[.tmp 85, .tmp 90]) rfl ?_); at_builtin; refine Kd.R_append k78 (w0 := w) w.heap.size rfl (.tmp 85) (.tmp 90) 24 78 (.agg #[(.int .i64 0), (.int .i64 0)]) 16 rfl Tryd.underlying24 info78 rfl (by decide) (by omega) u13 x13_3 (⟨(rd_T78 x7_1 x14_3).f0, (rd_T78 x7_1 x14_3).f1⟩ : S78) [.int .i64 ((rd_T78 x7_1 x14_3).f0), .int .i64 ((rd_T78 x7_1 x14_3).f1)] (fun k_ => some k_ ≠ (.slice (some ad269) x7_1.length co17 : Value).ownBlock) (fun _ => False) rfl rfl ?aP (fun _ hk => hk.elim) ?aF ?aO ?aB ?aS ?aL ?_; (case aP => exact k78_mkM _ _ _ (⟨(rd_T78 x7_1 x14_3).f0, (rd_T78 x7_1 x14_3).f1⟩ : S78)); (case aB => exact (bl0_)); (case aF => exact (fun k_ hk => Kd.fresh' (Kd.R_lt (ra_ HO_7.out)) k_ hk)); (case aO => exact (ra_ HO_13.out)); (case aS => exact (below_size (bl0_))); (case aL => have := LMc32.out; omega); intro v271 w33 ho hb hg hat; rw [← Ny270.out] at ho; replace HO_7 := a0_ (Kd.R_after (ok := (fun _ => True)) (by (with_reducible repeat (first | apply Kd.R_alloc | apply Kd.R_drewN | apply Kd.R_drew)); exact Kd.R_mono HO_7.out (fun _ hk => ⟨trivial, hk⟩)) hg hat); replace HO_10 := a0_ (Kd.R_over' (ra_ HO_10.out) (Kd.R_typed (ra_ HO_13.out)) (by decide) hg); replace HO_11 := a0_ (Kd.S_after (ok := (fun k_ => some k_ ≠ (.slice (some ad269) x7_1.length co17 : Value).ownBlock)) (sa_ HO_11.out) hg hat); replace HB := a0_ (hb); have HO272 := a0_ (ho); clear HO_13; clear ho hb hg hat))
                 go_roundg k3
                 case measure => have := HK1.out; have := HK2.out; have := HK3.out; omega
                 case rel => exact ⟨(y270), (wrap64 (x14_3 + 1)), rs_, H', ⟨by have := HK1.out; have := HK2.out; have := HK3.out; omega⟩, ⟨by (with_reducible repeat (first | apply Kd.R_alloc | apply Kd.R_drewN | apply Kd.R_drew)); exact Kd.R_mono HO_7.out (fun _ hk => hk.2)⟩, ⟨ra_ HO_10.out⟩, ⟨sa_ HO_11.out⟩, ⟨ra_ HO272.out⟩, ⟨bl0_⟩⟩
                ·rw [if_neg c32] at H
                 exact absurd H (by simp)
               ·rw [if_neg c31] at H
                have c31b0 : ((rd t258 x14_3) == x12_2) = false := beq_eq_false_iff_ne.mpr c31
                have c31b1 : ((rd t258 x14_3) != x12_2) = true := bne_iff_ne.mpr c31
                have H' := Aside0.mk H
                clear H
                have p268 : 0 ≤ (x14_3 : Int) := od_
                have q268 : x14_3 < (t258.length : Int) := od_
                obtain ⟨ad268, e268, hx268_0⟩ := Kd.at_int (Kd.R_reads' HO_10.out).2.2 x14_3 p268 q268
                obtain rfl : ad264 = ad268 := (by injection e268)
                replace p268 := eq_true p268
                replace q268 := eq_true q268
                go_wp2
                go_roundg k3
                case measure => have := HK1.out; have := HK2.out; have := HK3.out; omega
                case rel => exact ⟨(x13_3), (wrap64 (x14_3 + 1)), rs_, H', ⟨by have := HK1.out; have := HK2.out; have := HK3.out; omega⟩, ⟨ra_ HO_7.out⟩, ⟨ra_ HO_10.out⟩, ⟨sa_ HO_11.out⟩, ⟨ra_ HO_13.out⟩, ⟨bl0_⟩⟩
              ·rw [if_neg c30] at H
               exact absurd H (by simp)
             ·rw [if_neg c29] at H
              exact absurd H (by simp)
            ·rw [if_neg c28] at H
             have c28b0 : decide (x14_3 < (x7_1.length : Int)) = false := decide_eq_false c28
             clear c28
             by_cases c34 : x11_2.length < 5864062014805
             ·rw [if_pos c34] at H
              have LMc34 := Aside0.mk c34
              clear c34
              obtain ⟨y273, hy273⟩ : ∃ y_ : List (List (S78)), y_ = (x11_2 ++ [x13_3]) := ⟨_, rfl⟩
              replace H : (spec_l06Holes.l2 k3 x7_1 t258 y273 (wrap64 (x12_2 + 1))) = some r := hh_ hy273 H
              have Ny273 := Aside0.mk hy273
              clear hy273
              have H' := Aside0.mk H
              clear H
              obtain ⟨Ao36, co36, eo36⟩ := Kd.R_slice HO_13.out
              subst eo36
              go_wp2_with (first | ((with_reducible refine gate_builtin (b := .append) (xs := #[.tmp 92, .tmp 94]) rfl ?_); at_builtin; refine Kd.S_append (Kd.slice 78 k78) (w0 := w) w.heap.size rfl (.tmp 92) (.tmp 94) 132 24 (.slice none 0 0) 24 rfl Tryd.underlying132 info24 rfl (by decide) (by omega) u11 x11_2 x13_3 [.slice Ao36 x13_3.length co36] (fun k_ => some k_ ≠ (.slice Ao17 x7_1.length co17 : Value).ownBlock) (fun k_ => some k_ = (.slice Ao36 x13_3.length co36 : Value).ownBlock) rfl rfl ?aP (fun k_ hk_ => ((Kd.R_mono (ok' := fun k_ => ((fun k_ => some k_ ≠ (.slice Ao17 x7_1.length co17 : Value).ownBlock)) k_ ∧ some k_ ≠ (u11 : Value).ownBlock) (Kd.R_apart' (HO_13.out) (Kd.S_typed HO_11.out) (by decide)) (fun k_ hk => ⟨hk.1, hk.2⟩))).1 k_ hk_.symm) ?aF ?aO ?aB ?aS ?aL ?_; (case aP => exact Kd.M_row (Kd.R_mono (Kd.R_tight rfl (Kd.R_mono (ok' := fun k_ => ((fun k_ => some k_ ≠ (.slice Ao17 x7_1.length co17 : Value).ownBlock)) k_ ∧ some k_ ≠ (u11 : Value).ownBlock) (Kd.R_apart' (HO_13.out) (Kd.S_typed HO_11.out) (by decide)) (fun k_ hk => ⟨hk.1, hk.2⟩))) (fun _ h_ => h_))); (case aB => exact (bl0_)); (case aF => exact (fun k_ hk => Kd.fresh' (Kd.R_lt (ra_ HO_7.out)) k_ hk)); (case aO => exact (by (with_reducible repeat (first | apply Kd.S_alloc | apply Kd.S_drewN | apply Kd.S_drew)); exact Kd.S_mono HO_11.out (fun k_ hk => ⟨hk.1, fun e_ => hk.2 e_⟩))); (case aS => exact (below_size (bl0_))); (case aL => have := LMc34.out; omega); intro v274 w35 ho hb hg hat; rw [← Ny273.out] at ho; replace HO_7 := a0_ (Kd.R_over' (ra_ HO_7.out) (Kd.S_typed (sa_ HO_11.out)) (by decide) hg); replace HO_10 := a0_ (Kd.R_over' (ra_ HO_10.out) (Kd.S_typed (sa_ HO_11.out)) (by decide) hg); replace HB := a0_ (hb); have HO275 := a0_ (ho); clear HO_11 HO_13; clear ho hb hg hat))
              go_roundg k3
              case measure => have := HK1.out; have := HK2.out; have := HK3.out; omega
              case rel => exact ⟨(y273), (wrap64 (x12_2 + 1)), rs_, H', ⟨by have := HK1.out; have := HK2.out; have := HK3.out; omega⟩, ⟨by (with_reducible repeat (first | apply Kd.R_alloc | apply Kd.R_drewN | apply Kd.R_drew)); exact Kd.R_mono HO_7.out (fun _ hk => trivial)⟩, ⟨ra_ HO_10.out⟩, ⟨sa_ HO275.out⟩, ⟨bl0_⟩⟩
             ·rw [if_neg c34] at H
              exact absurd H (by simp)
         ·rw [if_neg c24] at H
          have c24b0 : ((rd t258 x12_2) == x12_2) = false := beq_eq_false_iff_ne.mpr c24
          have c24b1 : ((rd t258 x12_2) != x12_2) = true := bne_iff_ne.mpr c24
          have H' := Aside0.mk H
          clear H
          obtain ⟨Ao37, co37, eo37⟩ := Kd.R_slice HO_10.out
          subst eo37
          have p264 : 0 ≤ (x12_2 : Int) := od_
          have q264 : x12_2 < (t258.length : Int) := od_
          obtain ⟨ad264, e264, hx264_0⟩ := Kd.at_int (Kd.R_reads' HO_10.out).2.2 x12_2 p264 q264
          cases e264
          replace p264 := eq_true p264
          replace q264 := eq_true q264
          go_wp2
          go_roundg k2
          case measure => have := HK1.out; have := HK2.out; omega
          case rel => exact ⟨(x11_2), (wrap64 (x12_2 + 1)), rs_, H', ⟨by have := HK1.out; have := HK2.out; omega⟩, ⟨ra_ HO_7.out⟩, ⟨ra_ HO_10.out⟩, ⟨sa_ HO_11.out⟩, ⟨bl0_⟩⟩
        ·rw [if_neg c23] at H
         exact absurd H (by simp)
       ·rw [if_neg c22] at H
        exact absurd H (by simp)
      ·rw [if_neg c21] at H
       have c21b0 : decide (x12_2 < (x7_1.length : Int)) = false := decide_eq_false c21
       clear c21
       obtain rfl := Option.some.inj H
       go_wp2
       go_ret
       exact ⟨_, er_, by (with_reducible repeat (first | apply Kd.S_alloc | apply Kd.S_drewN | apply Kd.S_drew)); exact Kd.S_mono HO_11.out (fun _ hk => trivial), bl0_⟩

/-! ### spec_IsPlain: function 93 -/
def spec_IsPlain.f (k : Nat) (l0 : List (S78)) : Option (Bool) := (spec_IsConnected.f k l0).bind fun t276 => (if t276 = true then ((spec_l03Code.f k l0).bind fun t277 => (if t277 = 0 then ((spec_l23Touch.f k l0).bind fun t278 => (if t278 = true then (some false) else ((spec_l06Holes.f k l0).bind fun t279 => (some ((t279.length : Int) == 0))))) else (some false))) else (some false))
theorem spec_IsPlain.mono : ∀ a0 k, LeO (spec_IsPlain.f k a0) (spec_IsPlain.f (k + 1) a0) := by
 intro a0 k
 unfold spec_IsPlain.f
 with_reducible (repeat' first | exact spec_IsConnected.mono _ _ | exact spec_l03Code.mono _ _ | exact spec_l06Holes.mono _ _ | exact spec_l23Touch.mono _ _ | exact LeO.refl _ | exact LeO.none _ | refine LeO.ite ?_ ?_ | refine LeO.bind ?_ (fun _ => ?_))
set_option maxHeartbeats 8000000 in
set_option maxRecDepth 100000 in
theorem spec_IsPlain.calls (k : Nat) (A0 : Option Addr) (c0 : Nat) (l0 : List (S78)) (r : Bool) (w : World) (hr0 : Kd.C k78 w A0 l0.length l0) (hc0 : l0.length ≤ c0) (h : spec_IsPlain.f k l0 = some r) :
  Calls Tryd.prog 93 #[.slice A0 l0.length c0] w fun e w' => e = .returned (.bool r) ∧ Below w.heap.size w w' := by
 have HR0 := Aside0.mk hr0
 have HC0 := Aside0.mk hc0
 clear hr0 hc0
 have HB := a0_ (Below.refl w.heap.size w)
 have H := h
 clear h
 unfold spec_IsPlain.f at H
 obtain ⟨t276, A2, H⟩ := bs_ H
 by_cases c3 : t276 = true
 ·subst c3
  rw [if_pos rfl] at H
  obtain ⟨t277, A4, H⟩ := bs_ H
  by_cases c5 : t277 = 0
  ·rw [if_pos c5] at H
   have c5b0 : (t277 == 0) = true := beq_iff_eq.mpr c5
   have c5b1 : (t277 != 0) = false := bne_eq_false_iff_eq.mpr c5
   clear c5
   obtain ⟨t278, A6, H⟩ := bs_ H
   by_cases c7 : t278 = true
   ·subst c7
    rw [if_pos rfl] at H
    obtain rfl := Option.some.inj H
    go_enter Tryd.func93, Tryd.ntmps93
    go_wp2_with (first | ((with_reducible refine gate_callee (f := 50) rfl ?_); refine goesL_ (some 4) rfl rfl Tryd.func50 kr_ rfl #[.slice A0 l0.length c0] rfl ta_ ?_; (with_reducible refine (spec_IsConnected.calls k _ _ l0 true _ ?side1 ?side2 A2.out).mono ?_); (case side1 => exact ca_ HR0.out); (case side2 => exact HC0.out); rintro e w8 ⟨rfl, hb⟩; refine ⟨_, rfl, ?_⟩; replace HB := a0_ (below_step (bl0_) hb); (try clear hb); (try clear hb2); (try clear hk); (try clear hi)) | (go_at_call 37; (with_reducible refine (spec_l03Code.calls k _ _ l0 t277 _ ?side1 ?side2 A4.out).mono ?_); (case side1 => exact ca_ (Kd.C_below HR0.out HB.out)); (case side2 => exact HC0.out); rintro e w9 ⟨rfl, hb⟩; replace HB := a0_ (below_step (bl0_) hb); (try clear hb); (try clear hb2); (try clear hk); (try clear hi)) | (go_at_call 118; (with_reducible refine (spec_l23Touch.calls k _ _ l0 true _ ?side1 ?side2 A6.out).mono ?_); (case side1 => exact ca_ (Kd.C_below HR0.out HB.out)); (case side2 => exact HC0.out); rintro e w10 ⟨rfl, hb⟩; replace HB := a0_ (below_step (bl0_) hb); (try clear hb); (try clear hb2); (try clear hk); (try clear hi)))
    go_ret
    exact ⟨er_, bl0_⟩
   ·replace c7 := Bool.eq_false_iff.mpr c7
    subst c7
    rw [if_neg (show ¬ (false = true) by decide)] at H
    obtain ⟨t279, A11, H⟩ := bs_ H
    obtain rfl := Option.some.inj H
    go_enter Tryd.func93, Tryd.ntmps93
    go_wp2_with (first | ((with_reducible refine gate_callee (f := 50) rfl ?_); refine goesL_ (some 4) rfl rfl Tryd.func50 kr_ rfl #[.slice A0 l0.length c0] rfl ta_ ?_; (with_reducible refine (spec_IsConnected.calls k _ _ l0 true _ ?side1 ?side2 A2.out).mono ?_); (case side1 => exact ca_ HR0.out); (case side2 => exact HC0.out); rintro e w12 ⟨rfl, hb⟩; refine ⟨_, rfl, ?_⟩; replace HB := a0_ (below_step (bl0_) hb); (try clear hb); (try clear hb2); (try clear hk); (try clear hi)) | (go_at_call 37; (with_reducible refine (spec_l03Code.calls k _ _ l0 t277 _ ?side1 ?side2 A4.out).mono ?_); (case side1 => exact ca_ (Kd.C_below HR0.out HB.out)); (case side2 => exact HC0.out); rintro e w13 ⟨rfl, hb⟩; replace HB := a0_ (below_step (bl0_) hb); (try clear hb); (try clear hb2); (try clear hk); (try clear hi)) | (go_at_call 118; (with_reducible refine (spec_l23Touch.calls k _ _ l0 false _ ?side1 ?side2 A6.out).mono ?_); (case side1 => exact ca_ (Kd.C_below HR0.out HB.out)); (case side2 => exact HC0.out); rintro e w14 ⟨rfl, hb⟩; replace HB := a0_ (below_step (bl0_) hb); (try clear hb); (try clear hb2); (try clear hk); (try clear hi)) | (go_at_call 119; (with_reducible refine (spec_l06Holes.calls k _ _ l0 t279 _ ?side1 ?side2 A11.out).mono ?_); (case side1 => exact ca_ (Kd.C_below HR0.out HB.out)); (case side2 => exact HC0.out); rintro e w15 ⟨v280, rfl, ho0, hb⟩; have HO281 := a0_ (Kd.S_lower ho0 (below_size (bl0_))); replace HB := a0_ (below_step (bl0_) hb); (try clear hb); (try clear hb2); (try clear hk); (try clear hi); (try clear ho0); obtain ⟨Ao16, co16, eo16⟩ := Kd.S_slice HO281.out; subst eo16))
    go_ret
    exact ⟨er_, bl0_⟩
  ·rw [if_neg c5] at H
   have c5b0 : (t277 == 0) = false := beq_eq_false_iff_ne.mpr c5
   have c5b1 : (t277 != 0) = true := bne_iff_ne.mpr c5
   obtain rfl := Option.some.inj H
   go_enter Tryd.func93, Tryd.ntmps93
   go_wp2_with (first | ((with_reducible refine gate_callee (f := 50) rfl ?_); refine goesL_ (some 4) rfl rfl Tryd.func50 kr_ rfl #[.slice A0 l0.length c0] rfl ta_ ?_; (with_reducible refine (spec_IsConnected.calls k _ _ l0 true _ ?side1 ?side2 A2.out).mono ?_); (case side1 => exact ca_ HR0.out); (case side2 => exact HC0.out); rintro e w17 ⟨rfl, hb⟩; refine ⟨_, rfl, ?_⟩; replace HB := a0_ (below_step (bl0_) hb); (try clear hb); (try clear hb2); (try clear hk); (try clear hi)) | (go_at_call 37; (with_reducible refine (spec_l03Code.calls k _ _ l0 t277 _ ?side1 ?side2 A4.out).mono ?_); (case side1 => exact ca_ (Kd.C_below HR0.out HB.out)); (case side2 => exact HC0.out); rintro e w18 ⟨rfl, hb⟩; replace HB := a0_ (below_step (bl0_) hb); (try clear hb); (try clear hb2); (try clear hk); (try clear hi)))
   go_ret
   exact ⟨er_, bl0_⟩
 ·replace c3 := Bool.eq_false_iff.mpr c3
  subst c3
  rw [if_neg (show ¬ (false = true) by decide)] at H
  obtain rfl := Option.some.inj H
  go_enter Tryd.func93, Tryd.ntmps93
  go_wp2_with (first | ((with_reducible refine gate_callee (f := 50) rfl ?_); refine goesL_ (some 4) rfl rfl Tryd.func50 kr_ rfl #[.slice A0 l0.length c0] rfl ta_ ?_; (with_reducible refine (spec_IsConnected.calls k _ _ l0 false _ ?side1 ?side2 A2.out).mono ?_); (case side1 => exact ca_ HR0.out); (case side2 => exact HC0.out); rintro e w19 ⟨rfl, hb⟩; refine ⟨_, rfl, ?_⟩; replace HB := a0_ (below_step (bl0_) hb); (try clear hb); (try clear hb2); (try clear hk); (try clear hi)))
  go_ret
  exact ⟨er_, bl0_⟩

end Go.Proofs.YtopceddgiddhlaaDoor.PFnRolled
