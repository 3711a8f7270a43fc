/- Over the kit's printer by a driver of mine (hprint.py), with parts by hand: functions of the program as Lean functions, and that each call comes to exactly these answers. -/
import Derived.Test.YtmdjkmfocgelnaaGreatPFnTriangleShapesx0
import Derived.Test.YtmdjkmfocgelnaaGreatPFnTriangleShapesx1
import Derived.Test.YtmdjkmfocgelnaaGreatPFnTriangleShapesx2
import Derived.Test.YtmdjkmfocgelnaaGreatPFnTriangleShapesx3
namespace Go.Proofs.YtmdjkmfocgelnaaGreat.PFnTriangleShapes
open Go.RowKit Go.Proofs.YtmdjkmfocgelnaaGreatW.PrintWords Go.Proofs.YtmdjkmfocgelnaaGreatW.PrintLast Go.Proofs.YtmdjkmfocgelnaaGreatW.PrintMore
attribute [local go_sem] max2_int min2_int max_two min_two max_three min_three max_four min_four   -- for this text's walks alone
set_option linter.unusedVariables false
set_option linter.unusedSimpArgs false

attribute [local go_sem high] eqA46
/-! ### impl_sorted: function 94 -/
/-! Cells sorted by the library: the order is total, so there is one sorted row. -/
def encC (x : S46) : List Value := [.int .i64 x.f0, .int .i64 x.f1]
instance : Inhabited S46 := ⟨z46⟩
def cfC (x y : S46) : Int := (impl_compareCells.f x.f0 x.f1 y.f0 y.f1).getD 0
def ltC (x y : S46) : Bool := decide (x.f1 < y.f1) || (decide (x.f1 = y.f1) && decide (x.f0 < y.f0))
theorem cmpI_some (a b : Int) : cmp_Compare_int64.f a b = some (if a < b then -1 else if a > b then 1 else 0) := by
 have h : ∀ x : Int, cmp_isNaN_int64.f x = some false := fun x => by simp [cmp_isNaN_int64.f]
 unfold cmp_Compare_int64.f
 rw [h, h]
 simp only [Option.bind_some, Bool.false_eq_true, if_false]
 split
 ·rfl
 ·split <;> rfl
theorem cfC_some (x y : S46) : impl_compareCells.f x.f0 x.f1 y.f0 y.f1 = some (cfC x y) := by
 have h : ∃ r, impl_compareCells.f x.f0 x.f1 y.f0 y.f1 = some r := by
  unfold impl_compareCells.f
  rw [cmpI_some, cmpI_some]
  simp only [Option.bind_some]
  repeat' split
  all_goals exact ⟨_, rfl⟩
 obtain ⟨r, h⟩ := h
 unfold cfC
 rw [h]
 rfl
theorem cfC_lt (x y : S46) : ltOf cfC x y = ltC x y := by
 unfold ltOf ltC cfC impl_compareCells.f
 rw [cmpI_some, cmpI_some]
 simp only [Option.bind_some]
 by_cases a : x.f1 < y.f1
 ·simp [a]
 ·by_cases b : x.f1 = y.f1
  ·by_cases c : x.f0 < y.f0
   ·simp [b, c]
   ·by_cases d : y.f0 < x.f0 <;> simp [b, c, d]
  ·have d : x.f1 > y.f1 := by omega
   simp [a, b, d]
theorem ltC_iff (x y : S46) : ltC x y = true ↔ x.f1 < y.f1 ∨ (x.f1 = y.f1 ∧ x.f0 < y.f0) := by
 unfold ltC
 simp only [Bool.or_eq_true, Bool.and_eq_true, decide_eq_true_eq]
theorem ltC_swo : Sort.SWO (ltOf cfC) where
 irrefl x := by rw [cfC_lt, Bool.eq_false_iff]; intro h; rw [ltC_iff] at h; omega
 trans x y z h1 h2 := by rw [cfC_lt, ltC_iff] at *; omega
 ntrans x y z h1 h2 := by rw [cfC_lt, Bool.eq_false_iff, Ne, ltC_iff] at *; omega
theorem ltC_total (x y : S46) (h1 : ltOf cfC x y = false) (h2 : ltOf cfC y x = false) : x = y := by
 rw [cfC_lt, Bool.eq_false_iff, Ne, ltC_iff] at *
 obtain ⟨a, b⟩ := x
 obtain ⟨c, d⟩ := y
 simp only at h1 h2
 have e1 : a = c := by omega
 have e2 : b = d := by omega
 rw [e1, e2]
def sortC (l : List S46) : List S46 := l.mergeSort fun x y => !(ltOf cfC) y x
set_option maxHeartbeats 2000000 in
theorem compareCells_grow (a0 a1 b0 b1 r : Int) (h : impl_compareCells.f a0 a1 b0 b1 = some r) (W : World) : Calls Tryz.prog 102 #[.agg #[.int .i64 a0, .int .i64 a1], .agg #[.int .i64 b0, .int .i64 b1]] W fun e w' => e = .returned (.int .i64 r) ∧ ∃ q os', w' = Sort.grow (W.drewN q) os' := by
 unfold impl_compareCells.f at h
 obtain ⟨t, h1, h2⟩ := Option.bind_eq_some_iff.mp h
 have c1 := fun W' => cmp_Compare_int64.calls a1 b1 t W' h1
 by_cases c : t = 0
 ·rw [if_pos c] at h2
  obtain ⟨u, h3, h4⟩ := Option.bind_eq_some_iff.mp h2
  obtain rfl := Option.some.inj h4
  have c2 := fun W' => cmp_Compare_int64.calls a0 b0 u W' h3
  subst c
  clear h h1 h2 h3 h4
  go_enter Tryz.func102, Tryz.ntmps102
  go_wp2_with (first | (go_at_call 119; ((with_reducible refine (c1 _).mono ?_); rintro e w' ⟨rfl, n1, rfl⟩)) | (go_at_call 119; ((with_reducible refine (c2 _).mono ?_); rintro e w' ⟨rfl, n2, rfl⟩)))
  go_ret
  exact ⟨rfl, n1 + n2, _, by rw [Sort.alloc_eq_grow, Sort.alloc_eq_grow, Sort.grow_grow]; rfl⟩
 ·rw [if_neg c] at h2
  obtain rfl := Option.some.inj h2
  have b0 : (t == 0) = false := beq_eq_false_iff_ne.mpr c
  have b1 : (t != 0) = true := bne_iff_ne.mpr c
  clear h h1 h2 c
  go_enter Tryz.func102, Tryz.ntmps102
  go_wp2_with (go_at_call 119; ((with_reducible refine (c1 _).mono ?_); rintro e w' ⟨rfl, n1, rfl⟩))
  go_ret
  exact ⟨rfl, n1, _, by rw [Sort.alloc_eq_grow, Sort.alloc_eq_grow, Sort.grow_grow]; rfl⟩
theorem sorted_rest (w w1 : World) (l : List S46) (g cap : Nat) (hown : w1.ownsRow w.heap.size 46 2 (.slice (some ⟨g, 0, none⟩) l.length cap) l.length (Sort.flatK encC 2 l.toArray).toList) (hb : Below w.heap.size w w1) (hl : l.length < 4611686018427387904) :
  Calls Tryz.prog 117 #[.slice (some ⟨g, 0, none⟩) l.length cap, .func (.func 102) #[] #[]] w1 fun e w' => e = .returned (.tuple #[]) ∧ Kd.R k46 46 w' w.heap.size (fun _ => True) (.slice (some ⟨g, 0, none⟩) l.length cap) (sortC l) ∧ Below w.heap.size w w' := by
 have hk : ∀ x, (encC x).length = 2 := fun _ => rfl
 obtain ⟨hH, hlt, hbase, hnext⟩ := own_sort encC 2 hk (by omega) (d := l.toArray) (by simp) hown (flatK_reps encC 2 hk (by omega) l.toArray)
 have eg : ∀ args w, (callFunc 102 args).run Tryz.prog w = .ok (.enter 102 args) w := enters_of Tryz.func102 kr_ rfl
 have hcmp : CmpLays Tryz.prog 102 #[] encC 2 cfC g 0 l.toArray.size w1 := fun _ _ _ _ x y => compareCells_grow x.f0 x.f1 y.f0 y.f1 _ (cfC_some x y) _
 have h := AnyQ.slices_SortFunc_total Tryz.sortC 2 Tryz.isAgg46 Tryz.sizeOf46 encC hk (fun x v hv => by simp [encC] at hv; rcases hv with rfl | rfl <;> rfl) cfC ltC_swo 102 #[] g 0 cap l.toArray w1 eg hcmp hH hlt (by simpa using hl) ltC_total
 change Calls Tryz.prog 117 _ _ _ at h
 simp only [List.size_toArray] at h
 refine h.mono ?_
 rintro e w' ⟨rfl, n, os, rfl⟩
 have hs : (sortC l).length = l.length := List.length_mergeSort _
 have ho := hnext n (sortC l).toArray os (by simpa using hs)
 refine ⟨rfl, ⟨fun _ _ => trivial, _, ?_, (flatK_reps encC 2 hk (by omega) (sortC l).toArray).imp_ (fun p c hc => ?_)⟩, sortWorldK_below encC 2 w1 g n _ os hb hbase hlt⟩
 ·rw [hs]; exact ho
 ·rw [hc]; exact k46_mkM _ _ _ p
def impl_sorted.f (l0 : List S46) : Option (List S46) := if 0 < l0.length ∧ l0.length * 16 ≤ 140737488355328 then some (sortC l0) else none
set_option maxHeartbeats 2000000 in
theorem impl_sorted.calls (A0 : Option Addr) (c0 : Nat) (l0 : List S46) (r : List S46) (w : World) (hr0 : Kd.C k46 w A0 l0.length l0) (hc0 : l0.length ≤ c0) (h : impl_sorted.f l0 = some r) :
  Calls Tryz.prog 94 #[.slice A0 l0.length c0] w fun e w' => ∃ v0_ : Value, e = .returned (v0_) ∧ Kd.R k46 46 w' w.heap.size (fun _ => True) v0_ r ∧ Below w.heap.size w w' := by
 unfold impl_sorted.f at h
 split at h
 ·rename_i hc
  obtain rfl := Option.some.inj h
  clear h
  have hk : ∀ x, (encC x).length = 2 := fun _ => rfl
  obtain ⟨hlr, hmax, hread0⟩ := hr0
  obtain ⟨ad, eA, hread⟩ := hread0 hc.1
  subst eA
  have hflat := reads_flat encC 2 hk (by omega) (w := w) (ad := ad) (xs := l0) (fun j p hj i u hu => by
   obtain ⟨c, hcl, hK, hcell⟩ := hread j p hj
   exact hcell i u (by rw [k46_open hK]; exact hu))
  have had : ad = ⟨ad.block, ad.off, none⟩ := by
   have h0 := hflat 0 ((Sort.flatK encC 2 l0.toArray).toList[0]'(by simp; omega)) (List.getElem?_eq_getElem _)
   rw [show ad.add 0 = ad by simp [Addr.add]] at h0
   exact spot_none h0
  generalize ad.block = b at had
  generalize ad.off = o at had
  subst had
  obtain ⟨i0, hi, hzz⟩ := Option.map_eq_some_iff.1 (show (Tryz.prog.info? 46).map (fun i => (i.zero, i.size, i.bytes)) = some (some (.agg #[.int .i64 0, .int .i64 0]), 2, 16) by kernel_rfl)
  simp only [Prod.mk.injEq] at hzz
  obtain ⟨hz0, hz1, hz2⟩ := hzz
  have hcl := AnyE.slices_Clone Tryz.cloneC i0 _ 2 16 hi hz0 hz1 hz2 rfl (by omega) Tryz.sizeOf46 b o l0.length c0 (Sort.flatK encC 2 l0.toArray).toList w (by simp) (by simp only [maxLen]; omega) (by omega) (fun j u hj => by
   have := hflat j u hj
   rwa [show (⟨b, o, none⟩ : Addr).add j = ⟨b, o + j, none⟩ by unfold Addr.add; split <;> simp_all] at this) (fun u hu => by
   obtain ⟨t, ht, rfl⟩ := List.getElem_of_mem hu
   have hlt : t < l0.length * 2 := by simpa using ht
   have e := (flatK_reps encC 2 hk (by omega) l0.toArray).2 (t / 2) (l0[t / 2]'(by omega)) (List.getElem?_eq_getElem (by simp; omega))
   have e2 : (((Sort.flatK encC 2 l0.toArray).toList.drop (t / 2 * 2)).take 2)[t % 2]? = some ((Sort.flatK encC 2 l0.toArray).toList[t]) := by
    rw [List.getElem?_take_of_lt (by omega), List.getElem?_drop, show t / 2 * 2 + t % 2 = t by omega, List.getElem?_eq_getElem ht]
   simp only [] at e
   rw [e] at e2
   have hm := List.mem_of_getElem? e2
   simp only [encC, List.mem_cons, List.not_mem_nil, or_false] at hm
   rcases hm with hm | hm <;> rw [hm] <;> rfl)
  change Calls Tryz.prog 116 _ _ _ at hcl
  have hlen : l0.length < 4611686018427387904 := by omega
  have HL := Aside0.mk hlen
  clear hi hz0 hz1 hz2 hflat hread hread0 hlr hmax hc hc0 hk hlen
  go_enter Tryz.func94, Tryz.ntmps94
  go_wp2_with (first | (go_at_call 116; ((with_reducible refine hcl.mono ?_); rintro e w1 ⟨v', rfl, hown, hne, hb⟩; obtain ⟨g, cap, rfl⟩ := own_shape 2 hown hne; have HO := Aside0.mk hown; have HB := Aside0.mk hb; clear hown hne hb)) | (go_at_call 117; (refine (sorted_rest w _ l0 g cap HO.out HB.out HL.out).mono ?_; rintro e w2 ⟨rfl, hR, hb⟩; have HR := Aside0.mk hR; have HB2 := Aside0.mk hb; clear hR hb)))
  go_ret
  exact ⟨_, rfl, HR.out, HB2.out⟩
 ·cases h


/-! ### impl_compareShapes: function 61 -/
/-! Shapes compared: by length, then cell by cell. -/
def cmpGo : List S46 → List S46 → Int
 | x :: a, y :: b => if cfC x y = 0 then cmpGo a b else cfC x y
 | _, _ => 0
set_option maxHeartbeats 4000000 in
set_option maxRecDepth 100000 in
theorem compareFunc_grew (A0 A1 : Option Addr) (c0 c1 : Nat) (l0 l1 : List S46) (w : World) (hr0 : Kd.C k46 w A0 l0.length l0) (hr1 : Kd.C k46 w A1 l1.length l1) (hl : l0.length = l1.length) :
  Calls Tryz.prog 101 #[.slice A0 l0.length c0, .slice A1 l1.length c1, .func (.func 102) #[] #[]] w fun e w' => e = .returned (.int .i64 (cmpGo l0 l1)) ∧ Grew w w' := by
 have hu := Tryz.underlying46
 have hmax : l0.length ≤ 9223372036854775807 := hr0.2.1
 have HR0 := Aside0.mk hr0
 have HR1 := Aside0.mk hr1
 have HL := a0_ (And.intro hl hmax)
 clear hr0 hr1 hl hmax
 go_enter Tryz.func101, Tryz.ntmps101
 go_wp2
 go_loopg [13] l0.length (fun kq v13 w' => ∃ j : Nat, v13 = .int .i64 j ∧ Aside0 (kq + j = l0.length ∧ cmpGo l0 l1 = cmpGo (l0.drop j) (l1.drop j)) ∧ Aside0 (Grew w w'))
 case atStart => exact ⟨0, rfl, ⟨by omega, rfl⟩, ⟨Grew.refl _⟩⟩
 case round =>
  obtain ⟨j, rfl, HJ, HB⟩ := hrel
  by_cases hj : j < l0.length
  ·have hj1 : j < l1.length := by have := HL.out.1; omega
   have d0 : decide ((j : Int) < (l0.length : Int)) = true := decide_eq_true (by omega)
   have d1 : decide ((j : Int) ≥ (l1.length : Int)) = false := decide_eq_false (by omega)
   have d2 : decide ((l1.length : Int) ≤ (j : Int)) = false := decide_eq_false (by omega)
   have d3 : decide (l1.length ≤ j) = false := decide_eq_false (by omega)
   have d4 : decide (j < l0.length) = true := decide_eq_true hj
   obtain ⟨ad0, e0, hx0, hx1⟩ := at_T46 HR0.out (j : Int) (by omega) (by omega)
   obtain ⟨ad1, e1, hy0, hy1⟩ := at_T46 HR1.out (j : Int) (by omega) (by omega)
   cases e0
   cases e1
   simp only [Int.toNat_natCast] at hx0 hx1 hy0 hy1
   replace hx0 := (HB.out.below.cell (World.block_lt_of_cell? w _ hx0)).trans hx0
   replace hx1 := (HB.out.below.cell (World.block_lt_of_cell? w _ hx1)).trans hx1
   have p0 : (0 ≤ (j : Int)) = True := eq_true (by omega)
   have q0 : ((j : Int) < (l0.length : Int)) = True := eq_true (by omega)
   have q1 : ((j : Int) < (l1.length : Int)) = True := eq_true (by omega)
   have q2 : (j < l0.length) = True := eq_true hj
   have q3 : (j < l1.length) = True := eq_true hj1
   have hy0a : ∀ o : Obj, (wr.alloc o).cell? (ad1.add (j * 2)) = some (Value.int IntKind.i64 (rd_T46 l1 (j : Int)).f0) := fun o => ((HB.out.alloc o).below.cell (World.block_lt_of_cell? w _ hy0)).trans hy0
   have hy1a : ∀ o : Obj, (wr.alloc o).cell? ⟨(ad1.add (j * 2)).block, (ad1.add (j * 2)).off + 1, none⟩ = some (Value.int IntKind.i64 (rd_T46 l1 (j : Int)).f1) := fun o => ((HB.out.alloc o).below.cell (World.block_lt_of_cell? w _ hy1)).trans hy1
   have hc := fun W => compareCells_grow (rd_T46 l0 (j : Int)).f0 (rd_T46 l0 (j : Int)).f1 (rd_T46 l1 (j : Int)).f0 (rd_T46 l1 (j : Int)).f1 _ (cfC_some (rd_T46 l0 (j : Int)) (rd_T46 l1 (j : Int))) W
   have hstep : cmpGo (l0.drop j) (l1.drop j) = if cfC (rd_T46 l0 (j : Int)) (rd_T46 l1 (j : Int)) = 0 then cmpGo (l0.drop (j + 1)) (l1.drop (j + 1)) else cfC (rd_T46 l0 (j : Int)) (rd_T46 l1 (j : Int)) := by
    have e0 : rd_T46 l0 (j : Int) = l0[j] := by show l0.getD j _ = _; rw [List.getD_eq_getElem?_getD, List.getElem?_eq_getElem hj, Option.getD_some]
    have e1 : rd_T46 l1 (j : Int) = l1[j] := by show l1.getD j _ = _; rw [List.getD_eq_getElem?_getD, List.getElem?_eq_getElem hj1, Option.getD_some]
    rw [e0, e1, List.drop_eq_getElem_cons hj, List.drop_eq_getElem_cons hj1, cmpGo]
   have hw : wrap64 ((j : Int) + 1) = ((j + 1 : Nat) : Int) := by have := HL.out.2; unfold wrap64; omega
   have HW := Aside0.mk hw
   clear hw
   generalize cfC (rd_T46 l0 (j : Int)) (rd_T46 l1 (j : Int)) = z at hc hstep
   have HS := Aside0.mk hstep
   clear hstep hy0 hy1
   by_cases hz : z = 0
   ·have HZ := Aside0.mk hz
    have z0 : (z == 0) = true := beq_iff_eq.mpr hz
    have z1 : (z != 0) = false := bne_eq_false_iff_eq.mpr hz
    clear hz
    go_wp2_with (go_at_call 102; ((with_reducible refine (hc _).mono ?_); rintro e w1 ⟨rfl, hb⟩; have HB1 := a0_ (((HB.out.alloc _).alloc _).trans hb); clear hb))
    go_roundg (l0.length - (j + 1))
    case measure => (have := HJ.out.1; omega)
    case rel => exact ⟨j + 1, by first | rfl | exact congrArg (Value.int .i64) HW.out, ⟨by omega, by rw [HJ.out.2, HS.out, if_pos HZ.out]⟩, HB1⟩
   ·have HZ := Aside0.mk hz
    have z0 : (z == 0) = false := beq_eq_false_iff_ne.mpr hz
    have z1 : (z != 0) = true := bne_iff_ne.mpr hz
    clear hz
    go_wp2_with (go_at_call 102; ((with_reducible refine (hc _).mono ?_); rintro e w1 ⟨rfl, hb⟩; have HB1 := a0_ (((HB.out.alloc _).alloc _).trans hb); clear hb))
    go_ret
    exact ⟨by rw [HJ.out.2, HS.out, if_neg HZ.out]; rfl, HB1.out⟩
  ·have d0 : decide ((j : Int) < (l0.length : Int)) = false := decide_eq_false (by omega)
   have d4 : decide (j < l0.length) = false := decide_eq_false hj
   have d5 : decide ((l0.length : Int) < (l1.length : Int)) = false := decide_eq_false (by have := HL.out.1; omega)
   have d6 : decide (l0.length < l1.length) = false := decide_eq_false (by have := HL.out.1; omega)
   have HE : Aside0 (cmpGo l0 l1 = 0) := ⟨by rw [HJ.out.2, List.drop_of_length_le (by omega)]; rfl⟩
   clear hj
   go_wp2
   go_ret
   exact ⟨by rw [HE.out]; rfl, HB.out⟩
def cmpS (a b : List S46) : Int := if a.length = b.length then cmpGo a b else if a.length < b.length then -1 else 1
def impl_compareShapes.f (l0 : List S46) (l1 : List S46) : Option Int := some (cmpS l0 l1)
set_option maxHeartbeats 4000000 in
set_option maxRecDepth 100000 in
theorem compareShapes_grew (A0 : Option Addr) (c0 : Nat) (l0 : List S46) (A1 : Option Addr) (c1 : Nat) (l1 : List S46) (r : Int) (w : World) (hr0 : Kd.C k46 w A0 l0.length l0) (hc0 : l0.length ≤ c0) (hr1 : Kd.C k46 w A1 l1.length l1) (hc1 : l1.length ≤ c1) (h : impl_compareShapes.f l0 l1 = some r) :
  Calls Tryz.prog 61 #[.slice A0 l0.length c0, .slice A1 l1.length c1] w fun e w' => e = .returned (.int .i64 r) ∧ Grew w w' := by
 obtain rfl := Option.some.inj h
 clear h
 by_cases hl : l0.length = l1.length
 ·have hc := compareFunc_grew A0 A1 c0 c1 l0 l1 w hr0 hr1 hl
  have hr : cmpS l0 l1 = cmpGo l0 l1 := if_pos hl
  rw [hr]
  have d0 : ((l0.length : Int) == (l1.length : Int)) = true := beq_iff_eq.mpr (by omega)
  have d1 : ((l0.length : Int) != (l1.length : Int)) = false := bne_eq_false_iff_eq.mpr (by omega)
  have d2 : (l0.length == l1.length) = true := beq_iff_eq.mpr hl
  have d3 : (l0.length != l1.length) = false := bne_eq_false_iff_eq.mpr hl
  generalize cmpGo l0 l1 = z at hc
  clear hr0 hr1 hc0 hc1 hr hl
  go_enter Tryz.func61, Tryz.ntmps61
  go_wp2_with (go_at_call 101; ((with_reducible refine hc.mono ?_); rintro e w1 ⟨rfl, hb⟩; have HB1 := Aside0.mk hb; clear hb))
  go_ret
  exact ⟨rfl, HB1.out⟩
 ·have d0 : ((l0.length : Int) == (l1.length : Int)) = false := beq_eq_false_iff_ne.mpr (by omega)
  have d1 : ((l0.length : Int) != (l1.length : Int)) = true := bne_iff_ne.mpr (by omega)
  have d2 : (l0.length == l1.length) = false := beq_eq_false_iff_ne.mpr hl
  have d3 : (l0.length != l1.length) = true := bne_iff_ne.mpr hl
  by_cases hlt : l0.length < l1.length
  ·have hr : cmpS l0 l1 = -1 := by unfold cmpS; rw [if_neg hl, if_pos hlt]
   rw [hr]
   have e0 : decide ((l0.length : Int) < (l1.length : Int)) = true := decide_eq_true (by omega)
   have e1 : decide (l0.length < l1.length) = true := decide_eq_true hlt
   clear hr0 hr1 hc0 hc1 hr hl hlt
   go_enter Tryz.func61, Tryz.ntmps61
   go_wp2
   go_ret
   exact ⟨rfl, Grew.refl _⟩
  ·have hr : cmpS l0 l1 = 1 := by unfold cmpS; rw [if_neg hl, if_neg hlt]
   rw [hr]
   have e0 : decide ((l0.length : Int) < (l1.length : Int)) = false := decide_eq_false (by omega)
   have e1 : decide (l0.length < l1.length) = false := decide_eq_false hlt
   clear hr0 hr1 hc0 hc1 hr hl hlt
   go_enter Tryz.func61, Tryz.ntmps61
   go_wp2
   go_ret
   exact ⟨rfl, Grew.refl _⟩
theorem impl_compareShapes.calls (A0 : Option Addr) (c0 : Nat) (l0 : List S46) (A1 : Option Addr) (c1 : Nat) (l1 : List S46) (r : Int) (w : World) (hr0 : Kd.C k46 w A0 l0.length l0) (hc0 : l0.length ≤ c0) (hr1 : Kd.C k46 w A1 l1.length l1) (hc1 : l1.length ≤ c1) (h : impl_compareShapes.f l0 l1 = some r) :
  Calls Tryz.prog 61 #[.slice A0 l0.length c0, .slice A1 l1.length c1] w fun e w' => e = .returned (.int .i64 r) ∧ Below w.heap.size w w' :=
 (compareShapes_grew A0 c0 l0 A1 c1 l1 r w hr0 hc0 hr1 hc1 h).mono fun _ _ ⟨h1, h2⟩ => ⟨h1, h2.below⟩
/-! The order of shapes. -/
theorem cfC_val (x y : S46) : cfC x y = if ltC x y = true then -1 else if ltC y x = true then 1 else 0 := by
 unfold cfC ltC impl_compareCells.f
 rw [cmpI_some, cmpI_some]
 simp only [Option.bind_some]
 by_cases a : x.f1 < y.f1
 ·simp [a]
 ·by_cases b : x.f1 = y.f1
  ·by_cases c : x.f0 < y.f0
   ·simp [b, c]
   ·by_cases d : y.f0 < x.f0 <;> simp [b, c, d]
  ·have d : y.f1 < x.f1 := by omega
   have e : ¬ y.f1 = x.f1 := fun h => b h.symm
   simp [a, b, d]
theorem ltC_asym (x y : S46) (h : ltC x y = true) : ¬ ltC y x = true := by
 rw [ltC_iff] at *
 omega
theorem cfC_neg (x y : S46) : cfC y x = -cfC x y := by
 rw [cfC_val, cfC_val]
 by_cases a : ltC x y = true
 ·have na := ltC_asym x y a
  rw [if_neg na, if_pos a, if_pos a]; decide
 ·by_cases b : ltC y x = true
  ·rw [if_pos b, if_neg a, if_pos b]
  ·rw [if_neg b, if_neg a, if_neg a, if_neg b]; decide
theorem cfC_zero (x y : S46) : cfC x y = 0 ↔ x = y := by
 rw [cfC_val]
 constructor
 ·intro h
  by_cases a : ltC x y = true
  ·rw [if_pos a] at h; omega
  ·rw [if_neg a] at h
   by_cases b : ltC y x = true
   ·rw [if_pos b] at h; omega
   ·exact ltC_total x y (by rw [cfC_lt]; simpa using a) (by rw [cfC_lt]; simpa using b)
 ·rintro rfl
  have : ¬ ltC x x = true := by rw [ltC_iff]; omega
  rw [if_neg this, if_neg this]
theorem cfC_neg_iff (x y : S46) : cfC x y < 0 ↔ ltC x y = true := by
 rw [cfC_val]
 by_cases a : ltC x y = true
 ·rw [if_pos a]; simp [a]
 ·rw [if_neg a]
  by_cases b : ltC y x = true
  ·rw [if_pos b]; simp [a]
  ·rw [if_neg b]; simp [a]
theorem cmpGo_neg : ∀ a b : List S46, a.length = b.length → cmpGo b a = -cmpGo a b
 | [], [], _ => rfl
 | [], _ :: _, h => by simp at h
 | _ :: _, [], h => by simp at h
 | x :: a, y :: b, h => by
  rw [cmpGo, cmpGo, cmpGo_neg a b (by simpa using h), cfC_neg x y]
  by_cases z : cfC x y = 0
  ·rw [if_pos z, if_pos (by omega)]
  ·rw [if_neg z, if_neg (by omega)]
theorem cmpGo_zero : ∀ a b : List S46, a.length = b.length → (cmpGo a b = 0 ↔ a = b)
 | [], [], _ => by simp [cmpGo]
 | [], _ :: _, h => by simp at h
 | _ :: _, [], h => by simp at h
 | x :: a, y :: b, h => by
  rw [cmpGo]
  have ih := cmpGo_zero a b (by simpa using h)
  by_cases z : cfC x y = 0
  ·rw [if_pos z, ih, (cfC_zero x y).1 z]; simp
  ·rw [if_neg z]
   constructor
   ·intro e; exact absurd e z
   ·intro e
    rw [List.cons.injEq] at e
    exact absurd ((cfC_zero x y).2 e.1) z
theorem cmpGo_trans : ∀ a b c : List S46, a.length = b.length → b.length = c.length → cmpGo a b < 0 → cmpGo b c < 0 → cmpGo a c < 0
 | [], [], [], _, _, h, _ => h
 | [], [], _ :: _, _, h, _, _ => by simp at h
 | [], _ :: _, _, h, _, _, _ => by simp at h
 | _ :: _, [], _, h, _, _, _ => by simp at h
 | _ :: _, _ :: _, [], _, h, _, _ => by simp at h
 | x :: a, y :: b, z :: c, h1, h2, h3, h4 => by
  rw [cmpGo] at h3 h4 ⊢
  have ih := cmpGo_trans a b c (by simpa using h1) (by simpa using h2)
  by_cases p : cfC x y = 0
  ·rw [if_pos p] at h3
   obtain rfl := (cfC_zero x y).1 p
   by_cases q : cfC x z = 0
   ·rw [if_pos q] at h4 ⊢
    exact ih h3 h4
   ·rw [if_neg q] at h4 ⊢
    exact h4
  ·rw [if_neg p] at h3
   have l1 := (cfC_neg_iff x y).1 h3
   by_cases q : cfC y z = 0
   ·obtain rfl := (cfC_zero y z).1 q
    rw [if_neg p]
    exact h3
   ·rw [if_neg q] at h4
    have l2 := (cfC_neg_iff y z).1 h4
    have l3 : ltC x z = true := by
     rw [ltC_iff] at *
     omega
    have l4 := (cfC_neg_iff x z).2 l3
    rw [if_neg (by omega)]
    exact l4
theorem cmpS_neg (a b : List S46) : cmpS b a = -cmpS a b := by
 unfold cmpS
 by_cases h : a.length = b.length
 ·rw [if_pos h, if_pos h.symm, cmpGo_neg a b h]
 ·rw [if_neg h, if_neg (fun e => h e.symm)]
  by_cases q : a.length < b.length
  ·rw [if_pos q, if_neg (by omega)]; rfl
  ·rw [if_neg q, if_pos (by omega)]
theorem cmpS_zero (a b : List S46) : cmpS a b = 0 ↔ a = b := by
 unfold cmpS
 by_cases h : a.length = b.length
 ·rw [if_pos h]; exact cmpGo_zero a b h
 ·rw [if_neg h]
  constructor
  ·intro e; split at e <;> omega
  ·rintro rfl; exact absurd rfl h
theorem cmpS_trans (a b c : List S46) (h1 : cmpS a b < 0) (h2 : cmpS b c < 0) : cmpS a c < 0 := by
 unfold cmpS at *
 by_cases p : a.length = b.length
 ·rw [if_pos p] at h1
  by_cases q : b.length = c.length
  ·rw [if_pos q] at h2
   rw [if_pos (p.trans q)]
   exact cmpGo_trans a b c p q h1 h2
  ·rw [if_neg q] at h2
   rw [if_neg (by omega), p]
   exact h2
 ·rw [if_neg p] at h1
  have hlt : a.length < b.length := by
   by_cases z : a.length < b.length
   ·exact z
   ·rw [if_neg z] at h1; omega
  by_cases q : b.length = c.length
  ·rw [if_neg (by omega), if_pos (by omega)]; omega
  ·rw [if_neg q] at h2
   have hlt2 : b.length < c.length := by
    by_cases z : b.length < c.length
    ·exact z
    ·rw [if_neg z] at h2; omega
   rw [if_neg (by omega), if_pos (by omega)]; omega
theorem cmpS_le_trans (a b c : List S46) (h1 : cmpS a b ≤ 0) (h2 : cmpS b c ≤ 0) : cmpS a c ≤ 0 := by
 by_cases e1 : cmpS a b = 0
 ·obtain rfl := (cmpS_zero a b).1 e1; exact h2
 ·by_cases e2 : cmpS b c = 0
  ·obtain rfl := (cmpS_zero b c).1 e2; exact h1
  ·have := cmpS_trans a b c (by omega) (by omega); omega
theorem cmpS_self (a : List S46) : cmpS a a = 0 := (cmpS_zero a a).2 rfl
theorem cmpGo_small : ∀ a b : List S46, -1 ≤ cmpGo a b ∧ cmpGo a b ≤ 1
 | [], _ => by simp [cmpGo]
 | _ :: _, [] => by simp [cmpGo]
 | x :: a, y :: b => by
  have := cmpGo_small a b
  rw [cmpGo]
  by_cases z : cfC x y = 0
  ·rw [if_pos z]; exact this
  ·rw [if_neg z, cfC_val]
   split
   ·omega
   ·split <;> omega
theorem cmpS_small (a b : List S46) : -1 ≤ cmpS a b ∧ cmpS a b ≤ 1 := by
 have := cmpGo_small a b
 unfold cmpS
 split
 ·exact this
 ·split <;> omega


/-! ### impl_leastOf: function 90 -/
/-! The least of shapes: slices.MinFunc over a row of rows of the call's own. -/
def elL (L : List (List S46)) (j : Nat) : List S46 := L.getD j []
def lessL (m y : List S46) : List S46 := if cmpS y m < 0 then y else m
def leastL : List (List S46) → List S46
 | [] => []
 | x :: r => r.foldl lessL x
set_option maxHeartbeats 4000000 in
set_option maxRecDepth 100000 in
theorem minFunc_calls (w : World) (base : Nat) (ok : Nat → Prop) (v : Value) (L : List (List S46)) (hR : (Kd.slice 46 k46).R 35 w base ok v L) (h1 : 1 ≤ L.length) :
  Calls Tryz.prog 115 #[v, .func (.func 61) #[] #[]] w fun e w' => ∃ u, e = .returned u ∧ Kd.R k46 46 w' base ok u (leastL L) ∧ Below w.heap.size w w' := by
 obtain ⟨A, c, vals, rfl, hc, hmax, hvl, hcell0, helem⟩ := R_elems hR
 have hval : ∀ j : Nat, j < L.length → ∃ (u : Value), vals[j]? = some u ∧ Kd.R k46 46 w base ok u (elL L j) := fun j hj => by
  have e1 : vals[j]? = some (vals[j]'(by omega)) := List.getElem?_eq_getElem _
  have e2 : L[j]? = some (elL L j) := by unfold elL; rw [List.getD_eq_getElem?_getD, List.getElem?_eq_getElem hj, Option.getD_some]
  exact ⟨_, e1, helem j _ _ e1 e2⟩
 obtain ⟨u0, hu0, hR0⟩ := hval 0 (by omega)
 obtain ⟨ad, rfl, hcell00⟩ := hcell0 0 u0 hu0
 have hcell : ∀ (j : Nat) (u : Value), vals[j]? = some u → w.cell? (ad.add j) = some u := fun j u hj => by
  obtain ⟨ad', e, h⟩ := hcell0 j u hj
  cases e
  exact h
 have HV := Aside0.mk hval
 have HC := Aside0.mk hcell
 have HM := a0_ (And.intro h1 hmax)
 have HU := Aside0.mk hR0
 obtain ⟨A0, n0, rfl, hn0, _⟩ := Kd.R_reads hR0
 have x0 : w.cell? ad = some (.slice A0 (elL L 0).length n0) := by
  rwa [show ad.add 0 = ad by simp [Addr.add]] at hcell00
 have d0 : decide ((L.length : Int) < 1) = false := decide_eq_false (by omega)
 have d1 : decide (L.length < 1) = false := decide_eq_false (by omega)
 have p1 : decide (0 < L.length) = true := decide_eq_true (by omega)
 have p2 : (0 < L.length) = True := eq_true (by omega)
 have p3 : ((0 : Int) < (L.length : Int)) = True := eq_true (by omega)
 have hd0 : (L.drop 1).foldl lessL (elL L 0) = leastL L := by
  cases L with
  | nil => simp at h1
  | cons x r => rfl
 have HD := Aside0.mk hd0
 have HU0 := Aside0.mk hu0
 clear hval hcell hcell0 hcell00 helem hvl hc h1 hmax hR hR0 hu0 hd0 hn0
 go_enter Tryz.func115, Tryz.ntmps115
 go_wp2
 go_loopg [5, 6] L.length (fun kq v5 v6 w' => ∃ (i m : Nat), v6 = .int .i64 i ∧ Aside0 (kq + i = L.length + 1 ∧ 1 ≤ i ∧ i ≤ L.length ∧ m < L.length) ∧ Aside0 (vals[m]? = some v5) ∧ Aside0 ((L.drop i).foldl lessL (elL L m) = leastL L) ∧ Aside0 (Below w.heap.size w w'))
 case atStart => exact ⟨1, 0, rfl, ⟨by have := HM.out; omega⟩, HU0, HD, ⟨Below.refl _ _⟩⟩
 case round =>
  clear HD HU0 x0 HU
  obtain ⟨i, m, rfl, HI, HE, HF, HB⟩ := hrel
  obtain ⟨um, hum, hRm⟩ := HV.out m HI.out.2.2.2
  obtain rfl : u5 = um := Option.some.inj (HE.out.symm.trans hum)
  by_cases hi : i < L.length
  ·obtain ⟨ui, hui, hRi⟩ := HV.out i hi
   have hxi := (HB.out.cell (World.block_lt_of_cell? w _ (HC.out i ui hui))).trans (HC.out i ui hui)
   obtain ⟨Ai, ni, rfl, hni, hCi⟩ := Kd.R_reads hRi
   obtain ⟨Am, nm, rfl, hnm, hCm⟩ := Kd.R_reads hRm
   have d0 : decide ((i : Int) < (L.length : Int)) = true := decide_eq_true (by omega)
   have d4 : decide (i < L.length) = true := decide_eq_true hi
   have q0 : (0 ≤ (i : Int)) = True := eq_true (by omega)
   have q1 : ((i : Int) < (L.length : Int)) = True := eq_true (by omega)
   have q2 : (i < L.length) = True := eq_true hi
   have hc := impl_compareShapes.calls Ai ni (elL L i) Am nm (elL L m) (cmpS (elL L i) (elL L m)) _ (Kd.C_below hCi HB.out) hni (Kd.C_below hCm HB.out) hnm rfl
   have hw : wrap64 ((i : Int) + 1) = ((i + 1 : Nat) : Int) := by have := HM.out.2; unfold wrap64; omega
   have HW := Aside0.mk hw
   have hstep : (L.drop i).foldl lessL (elL L m) = (L.drop (i + 1)).foldl lessL (lessL (elL L m) (elL L i)) := by
    rw [List.drop_eq_getElem_cons hi, List.foldl_cons, show elL L i = L[i] by unfold elL; rw [List.getD_eq_getElem?_getD, List.getElem?_eq_getElem hi, Option.getD_some]]
   have HS := a0_ (hstep.symm.trans HF.out)
   have HUI := Aside0.mk hui
   have HLT := Aside0.mk hi
   have hxb : ∀ w1 : World, Below wr.heap.size wr w1 → w1.cell? (ad.add i) = some (.slice Ai (elL L i).length ni) := fun w1 hb => (hb.cell (World.block_lt_of_cell? wr _ hxi)).trans hxi
   have HX := Aside0.mk hxb
   by_cases hz : cmpS (elL L i) (elL L m) < 0
   ·have hl : lessL (elL L m) (elL L i) = elL L i := if_pos hz
    rw [hl] at HS
    have z0 : decide (cmpS (elL L i) (elL L m) < 0) = true := decide_eq_true hz
    generalize cmpS (elL L i) (elL L m) = z at hc z0
    clear hz hl hstep hw hi hui hni hnm hCi hCm hum hRi hRm HF HE
    go_wp2_with (go_at_call 61; ((with_reducible refine hc.mono ?_); rintro e w1 ⟨rfl, hb⟩; have HB1 := a0_ (below_step HB.out hb); have hxi1 := HX.out w1 hb; clear hb))
    go_roundg (L.length - i)
    case measure => (have := HI.out; omega)
    case rel => exact ⟨i + 1, i, by first | rfl | exact congrArg (Value.int .i64) HW.out, ⟨by have := HI.out; have := HLT.out; omega⟩, HUI, HS, HB1⟩
   ·have hl : lessL (elL L m) (elL L i) = elL L m := if_neg hz
    rw [hl] at HS
    have z0 : decide (cmpS (elL L i) (elL L m) < 0) = false := decide_eq_false hz
    generalize cmpS (elL L i) (elL L m) = z at hc z0
    have HUM := Aside0.mk hum
    clear hz hl hstep hw hi hui hni hnm hCi hCm hum hRi hRm HF HE
    go_wp2_with (go_at_call 61; ((with_reducible refine hc.mono ?_); rintro e w1 ⟨rfl, hb⟩; have HB1 := a0_ (below_step HB.out hb); clear hb))
    go_roundg (L.length - i)
    case measure => (have := HI.out; omega)
    case rel => exact ⟨i + 1, m, by first | rfl | exact congrArg (Value.int .i64) HW.out, ⟨by have := HI.out; have := HLT.out; omega⟩, HUM, HS, HB1⟩
  ·have d0 : decide ((i : Int) < (L.length : Int)) = false := decide_eq_false (by omega)
   have d4 : decide (i < L.length) = false := decide_eq_false hi
   have HRM := a0_ (Kd.R_below hRm HB.out)
   have hfin : elL L m = leastL L := by
    have := HF.out
    rw [List.drop_of_length_le (by omega)] at this
    exact this
   rw [hfin] at HRM
   clear hi hum hRm hfin HF HE
   go_wp2
   go_ret
   exact ⟨_, rfl, HRM.out, HB.out⟩
set_option maxHeartbeats 4000000 in
theorem leastOf_calls (w : World) (base : Nat) (ok : Nat → Prop) (v : Value) (L : List (List S46)) (hR : (Kd.slice 46 k46).R 35 w base ok v L) (h1 : 1 ≤ L.length) :
  Calls Tryz.prog 90 #[v] w fun e w' => ∃ u, e = .returned u ∧ Kd.R k46 46 w' base ok u (leastL L) ∧ Below w.heap.size w w' := by
 have hc := minFunc_calls w base ok v L hR h1
 clear hR h1
 go_enter Tryz.func90, Tryz.ntmps90
 go_wp2_with (go_at_call 115; ((with_reducible refine hc.mono ?_); rintro e w1 ⟨u, rfl, hR, hb⟩; have HR := Aside0.mk hR; have HB := Aside0.mk hb; clear hR hb))
 go_ret
 exact ⟨_, rfl, HR.out, HB.out⟩


/-! ### impl_leastForm: function 47 -/
/-! The least one of all forms that a function gives. -/
structure FormP (gf : Nat) (F : List S46 → Int → Option (List S46)) : Prop where
 eg : ∀ args w, (callFunc gf args).run Tryz.prog w = .ok (.enter gf args) w
 calls : ∀ (s : List S46) (t : Int) (x : List S46) (A : Option Addr) (c : Nat) (W : World), F s t = some x → Kd.C k46 W A s.length s → s.length ≤ c → Calls Tryz.prog gf #[.slice A s.length c, .int .i64 t] W fun e w' => ∃ v, e = .returned v ∧ Kd.R k46 46 w' W.heap.size (fun _ => True) v x ∧ Below W.heap.size W w'
def formsG (k : Nat) (F : List S46 → Int → Option (List S46)) (s : List S46) : Nat → Option (List (List S46))
 | 0 => some []
 | n + 1 => (formsG k F s n).bind fun L => (F s n).bind fun x => if impl_IsShape.f k x = some true then some (L ++ [x]) else none
theorem infoRowF : (Tryz.prog.info? 35).map (fun i => (i.zero, i.size, i.bytes)) = some (some (.slice none 0 0), 1, 24) := by kernel_rfl
theorem formsG_at (k : Nat) (F : List S46 → Int → Option (List S46)) (s : List S46) : ∀ (n : Nat) (L : List (List S46)), formsG k F s n = some L → L.length = n ∧ ∀ i, i < n → ∃ out x, formsG k F s i = some out ∧ F s i = some x ∧ impl_IsShape.f k x = some true ∧ formsG k F s (i + 1) = some (out ++ [x])
 | 0, L, h => by
  rw [formsG] at h
  rw [← Option.some.inj h]
  exact ⟨rfl, fun i hi => absurd hi (Nat.not_lt_zero _)⟩
 | n + 1, L, h => by
  have h0 := h
  rw [formsG] at h
  obtain ⟨out, h1, h2⟩ := Option.bind_eq_some_iff.mp h
  obtain ⟨x, h3, h4⟩ := Option.bind_eq_some_iff.mp h2
  split at h4
  case isFalse => cases h4
  rename_i h5
  obtain rfl := Option.some.inj h4
  obtain ⟨l1, l2⟩ := formsG_at k F s n out h1
  refine ⟨by simp [l1], fun i hi => ?_⟩
  by_cases e : i = n
  ·subst e
   exact ⟨out, x, h1, h3, h5, h0⟩
  ·exact l2 i (by omega)
set_option maxHeartbeats 4000000 in
set_option maxRecDepth 100000 in
theorem leastForm_calls (k : Nat) (gf : Nat) (F : List S46 → Int → Option (List S46)) (hF : FormP gf F) (A0 : Option Addr) (c0 : Nat) (s : List S46) (L : List (List S46)) (w : World) (hr0 : Kd.C k46 w A0 s.length s) (hc0 : s.length ≤ c0) (h : formsG k F s 12 = some L) :
  Calls Tryz.prog 47 #[.slice A0 s.length c0, .func (.func gf) #[] #[]] w fun e w' => ∃ v, e = .returned (.tuple #[v, .bool true]) ∧ Kd.R k46 46 w' w.heap.size (fun _ => True) v (leastL L) ∧ Below w.heap.size w w' := by
 have eg := hF.eg
 have hat := formsG_at k F s 12 L h
 have HF := Aside0.mk hF
 have HR0 := Aside0.mk hr0
 have HC0 := Aside0.mk hc0
 have HL := Aside0.mk h
 have HAT := Aside0.mk hat
 clear hF hr0 hc0 h hat
 go_enter Tryz.func47, Tryz.ntmps47
 go_wp2_with ((with_reducible refine gate_dst (N := 9) rfl ?_); refine Kd.R_lit (Kd.slice 46 k46) _ 35 ?hg (N := 9) ?hd (xs := ([] : List (List S46))) (inner := []) (ok := fun _ => True) (okp := fun _ => True) ?hr ?hp (fun _ hk => hk) trivial (Below.refl _ _) (Nat.le_refl _) (by simp) ?_; (case hd => rfl); (case hg => rfl); (case hr => first | (go_simp; done) | (go_simp; rfl)); (case hp => exact (Reps.none _ _)); intro vl w3 ho hb _ _; have HO := a0_ (Kd.R_lower ho (Nat.le_refl _)); have HB := Aside0.mk hb; clear ho hb)
 go_loopg [6, 10] 12 (fun kq v6 v10 w' => ∃ (i : Nat) (out : List (List S46)), v10 = .int .i64 i ∧ Aside0 (kq + i = 12) ∧ Aside0 (formsG k F s i = some out) ∧ Aside0 ((Kd.slice 46 k46).R 35 w' w.heap.size (fun _ => True) v6 out) ∧ Aside0 (Below w.heap.size w w'))
 case atStart => exact ⟨0, [], rfl, ⟨rfl⟩, ⟨rfl⟩, HO, HB⟩
 case round =>
  clear HO HB
  obtain ⟨i, out, rfl, HI, HE, HO, HB⟩ := hrel
  by_cases hi : i < 12
  ·have d0 : decide ((i : Int) < 12) = true := decide_eq_true (by omega)
   have d1 : decide (i < 12) = true := decide_eq_true hi
   obtain ⟨out', x, e1, e2, e3, e4⟩ := HAT.out.2 i hi
   obtain rfl : out' = out := Option.some.inj (e1.symm.trans HE.out)
   have HX := a0_ (And.intro e2 e3)
   have HN := Aside0.mk e4
   have HIL := Aside0.mk hi
   have HOL := a0_ (formsG_at k F s i out' e1).1
   have HW := a0_ (show wrap64 ((i : Int) + 1) = ((i + 1 : Nat) : Int) by unfold wrap64; omega)
   clear e1 e2 e3 e4 hi
   go_wp2_with (first
    | (go_at_fn gf; (refine (HF.out.calls s i x A0 c0 _ HX.out.1 (Kd.C_below HR0.out HB.out) HC0.out).mono ?_; rintro e w5 ⟨v5, rfl, h5, hb⟩; obtain ⟨A5, c5, rfl⟩ := Kd.R_slice h5; have HR5 := a0_ (Kd.R_lower h5 (below_size HB.out)); have HG5 := a0_ (Kd.R_bound h5); have HB5 := Aside0.mk hb; clear h5 hb))
    | (go_at_call 65; (refine (impl_IsShape.calls k A5 c5 x true _ (Kd.R_reads' HR5.out).2.2 (Kd.R_reads' HR5.out).2.1 HX.out.2).mono ?_; rintro e w6 ⟨rfl, hb⟩; have HG6 := a0_ (Kd.R_below HG5.out hb); have HB6 := a0_ (below_step HB5.out hb); clear hb))
    | ((with_reducible refine gate_builtin (b := .append) (xs := #[.tmp 20, .tmp 22]) rfl ?_); at_builtin; refine Kd.R_append (Kd.slice 46 k46) (w0 := w) w.heap.size rfl (.tmp 20) (.tmp 22) 25 35 (.slice none 0 0) 24 rfl Tryz.underlying25 infoRowF rfl (by decide) (by omega) u6 out' x [.slice A5 x.length c5] (fun _ => True) (fun k_ => wr.heap.size ≤ k_) rfl (by first | (go_simp; done) | (go_simp; rfl)) ?aP (fun k_ hk_ => ⟨trivial, fun e_ => by have := Kd.R_lt HO.out k_ e_.symm; omega⟩) (fun _ _ => trivial) ?aO ?aB ?aS ?aL ?_; (case aP => exact Kd.M_row (Kd.R_mono (Kd.R_lower HG6.out (below_size HB.out)) (fun k_ h_ => h_.2.1))); (case aO => exact Kd.R_below HO.out HB6.out); (case aB => exact below_step HB.out HB6.out); (case aS => exact below_size (below_step HB.out HB6.out)); (case aL => have := HOL.out; have := HIL.out; omega); intro v8 w8 ho hb hg hat; have HO8 := Aside0.mk ho; have HB8 := Aside0.mk hb; clear ho hb hg hat))
   go_roundg (12 - (i + 1))
   case measure => (have := HI.out; have := HIL.out; omega)
   case rel => exact ⟨i + 1, out' ++ [x], congrArg (Value.int .i64) HW.out, ⟨by have := HIL.out; omega⟩, HN, HO8, HB8⟩
  ·have d0 : decide ((i : Int) < 12) = false := decide_eq_false (by omega)
   have d1 : decide (i < 12) = false := decide_eq_false hi
   have hi2 : i = 12 := by have := HI.out; omega
   have hout : out = L := by have h1 := HE.out; rw [hi2, HL.out] at h1; exact (Option.some.inj h1).symm
   have HLL := a0_ (And.intro hout HAT.out.1)
   clear hi hi2 hout
   go_wp2_with (go_at_call 90; (refine (leastOf_calls _ _ _ _ out HO.out (by rw [HLL.out.1, HLL.out.2]; omega)).mono ?_; rintro e w6 ⟨v6, rfl, hR, hb⟩; rw [HLL.out.1] at hR; have HR6 := Aside0.mk hR; have HB6 := a0_ (below_step HB.out hb); clear hR hb))
   go_ret2
   exact ⟨_, rfl, HR6.out, HB6.out⟩


/-! ### slices_Equal_impl_Cell_impl_Cell: function 77 -/
def slices_Equal_impl_Cell_impl_Cell.l0 : Nat → List (S46) → List (S46) → Int → Int → Option (Bool)
 | 0, _, _, _, _ => none
 | k + 1, x0, x1, x12, x13 => if x13 < x12 then (if 0 ≤ x13 then (if x13 < (x0.length : Int) then (if x13 < (x1.length : Int) then (if (!(((rd_T46 x0 x13).f0) == ((rd_T46 x1 x13).f0)) || (!(((rd_T46 x0 x13).f1) == ((rd_T46 x1 x13).f1)))) = true then (some false) else (slices_Equal_impl_Cell_impl_Cell.l0 k x0 x1 x12 (wrap64 (x13 + 1)))) else (none)) else (none)) else (none)) else (some true)
def slices_Equal_impl_Cell_impl_Cell.f (k : Nat) (l0 : List (S46)) (l1 : List (S46)) : Option (Bool) := if (l0.length : Int) = (l1.length : Int) then (slices_Equal_impl_Cell_impl_Cell.l0 k l0 l1 (l0.length : Int) 0) else (some false)
theorem slices_Equal_impl_Cell_impl_Cell.mono_l : ∀ k, (∀ y0 y1 y2 y3, LeO (slices_Equal_impl_Cell_impl_Cell.l0 k y0 y1 y2 y3) (slices_Equal_impl_Cell_impl_Cell.l0 (k + 1) y0 y1 y2 y3))
 | 0 => fun _ _ _ _ r h => by simp [slices_Equal_impl_Cell_impl_Cell.l0] at h
 | k + 1 => by
  have ih0 := slices_Equal_impl_Cell_impl_Cell.mono_l k
  ·intro y0 y1 y2 y3
   unfold slices_Equal_impl_Cell_impl_Cell.l0
   with_reducible (repeat' first | exact ih0 _ _ _ _ | exact LeO.refl _ | exact LeO.none _ | refine LeO.ite ?_ ?_ | refine LeO.bind ?_ (fun _ => ?_))
theorem slices_Equal_impl_Cell_impl_Cell.mono : ∀ a0 a1 k, LeO (slices_Equal_impl_Cell_impl_Cell.f k a0 a1) (slices_Equal_impl_Cell_impl_Cell.f (k + 1) a0 a1) := by
 intro a0 a1 k
 have ih0 := slices_Equal_impl_Cell_impl_Cell.mono_l k
 unfold slices_Equal_impl_Cell_impl_Cell.f
 with_reducible (repeat' first | exact ih0 _ _ _ _ | exact LeO.refl _ | exact LeO.none _ | refine LeO.ite ?_ ?_ | refine LeO.bind ?_ (fun _ => ?_))
set_option maxHeartbeats 8000000 in
set_option maxRecDepth 100000 in
theorem slices_Equal_impl_Cell_impl_Cell.calls (k : Nat) (A0 : Option Addr) (c0 : Nat) (l0 : List (S46)) (A1 : Option Addr) (c1 : Nat) (l1 : List (S46)) (r : Bool) (w : World) (hr0 : Kd.C k46 w A0 l0.length l0) (hc0 : l0.length ≤ c0) (hr1 : Kd.C k46 w A1 l1.length l1) (hc1 : l1.length ≤ c1) (h : slices_Equal_impl_Cell_impl_Cell.f k l0 l1 = some r) :
  Calls Tryz.prog 77 #[.slice A0 l0.length c0, .slice A1 l1.length c1] w fun e w' => e = .returned (.bool r) ∧ Drawn0 w w' := by
 have hu46 := Tryz.underlying46
 have HR0 := Aside0.mk hr0
 have HC0 := Aside0.mk hc0
 clear hr0 hc0
 have HR1 := Aside0.mk hr1
 have HC1 := Aside0.mk hc1
 clear hr1 hc1
 have H := h
 clear h
 unfold slices_Equal_impl_Cell_impl_Cell.f at H
 by_cases c3 : (l0.length : Int) = (l1.length : Int)
 ·rw [if_pos c3] at H
  have c3b0 : ((l0.length : Int) == (l1.length : Int)) = true := beq_iff_eq.mpr c3
  have c3b1 : ((l0.length : Int) != (l1.length : Int)) = false := bne_eq_false_iff_eq.mpr c3
  have c3b2 : (l0.length == l1.length) = true := by first | simpa using c3 | (simp at c3 ⊢; omega)
  clear c3
  have H' := Aside0.mk H
  clear H
  go_enter Tryz.func77, Tryz.ntmps77
  go_wp2
  repeat (go_quiet (fail); try go_wp2)
  go_loopg [13] k (fun kq v13 w' => ∃ (x13_1 : Int), v13 = .int .i64 x13_1 ∧ Aside0 (slices_Equal_impl_Cell_impl_Cell.l0 kq l0 l1 (l0.length : Int) x13_1 = some r) ∧ Aside0 (kq ≤ k) ∧ Drawn0 w w')
  case atStart => exact ⟨(0), rs_, H', ⟨Nat.le_refl _⟩, by repeat (first | exact Drawn0.refl _ | apply Drawn0.step)⟩
  case round =>
   clear H'
   try clear c1
   try clear p2
   try clear c3
   try clear c3b0
   try clear c3b1
   try clear c3b2
   obtain ⟨x13_1, rfl, HA, HK1, ⟨m1, rfl⟩⟩ := hrel
   cases gk with
   | zero => exact absurd HA.out (by simp [slices_Equal_impl_Cell_impl_Cell.l0])
   | succ k1 =>
    have H := HA.out
    clear HA
    simp only [slices_Equal_impl_Cell_impl_Cell.l0] at H
    by_cases c4 : x13_1 < (l0.length : Int)
    ·rw [if_pos c4] at H
     have c4b0 : decide (x13_1 < (l0.length : Int)) = true := decide_eq_true c4
     clear c4
     by_cases c5 : 0 ≤ x13_1
     ·rw [if_pos c5] at H
      have c5b0 : decide (0 ≤ x13_1) = true := decide_eq_true c5
      clear c5
      by_cases c6 : x13_1 < (l0.length : Int)
      ·rw [if_pos c6] at H
       have c6b0 : decide (x13_1 < (l0.length : Int)) = true := decide_eq_true c6
       clear c6
       by_cases c7 : x13_1 < (l1.length : Int)
       ·rw [if_pos c7] at H
        have c7b0 : decide (x13_1 < (l1.length : Int)) = true := decide_eq_true c7
        clear c7
        by_cases c8 : (!(((rd_T46 l0 x13_1).f0) == ((rd_T46 l1 x13_1).f0)) || (!(((rd_T46 l0 x13_1).f1) == ((rd_T46 l1 x13_1).f1)))) = true
        ·rw [if_pos c8] at H
         have c8b0 : (!(((rd_T46 l0 x13_1).f0) == ((rd_T46 l1 x13_1).f0)) || (!(((rd_T46 l0 x13_1).f1) == ((rd_T46 l1 x13_1).f1)))) = true := c8
         clear c8
         obtain rfl := Option.some.inj H
         have p129 : 0 ≤ (x13_1 : Int) := od_
         have q129 : x13_1 < (l0.length : Int) := od_
         obtain ⟨ad129, e129, hx129_0, hx129_1⟩ := at_T46 HR0.out x13_1 p129 q129
         cases e129
         replace p129 := eq_true p129
         replace q129 := eq_true q129
         have p130 : 0 ≤ (x13_1 : Int) := od_
         have q130 : x13_1 < (l1.length : Int) := od_
         obtain ⟨ad130, e130, hx130_0, hx130_1⟩ := at_T46 HR1.out x13_1 p130 q130
         cases e130
         replace p130 := eq_true p130
         replace q130 := eq_true q130
         go_wp2
         repeat (go_quiet (fail); try go_wp2)
         go_ret
         exact ⟨by first | rfl | (simp; done) | (simp [*]; done), by repeat (first | exact Drawn0.refl _ | apply Drawn0.step)⟩
        ·rw [if_neg c8] at H
         have c8b0 : (!(((rd_T46 l0 x13_1).f0) == ((rd_T46 l1 x13_1).f0)) || (!(((rd_T46 l0 x13_1).f1) == ((rd_T46 l1 x13_1).f1)))) = false := by simpa using c8
         clear c8
         have H' := Aside0.mk H
         clear H
         have p129 : 0 ≤ (x13_1 : Int) := od_
         have q129 : x13_1 < (l0.length : Int) := od_
         obtain ⟨ad129, e129, hx129_0, hx129_1⟩ := at_T46 HR0.out x13_1 p129 q129
         cases e129
         replace p129 := eq_true p129
         replace q129 := eq_true q129
         have p130 : 0 ≤ (x13_1 : Int) := od_
         have q130 : x13_1 < (l1.length : Int) := od_
         obtain ⟨ad130, e130, hx130_0, hx130_1⟩ := at_T46 HR1.out x13_1 p130 q130
         cases e130
         replace p130 := eq_true p130
         replace q130 := eq_true q130
         go_wp2
         repeat (go_quiet (fail); try go_wp2)
         go_roundg k1
         case measure => have := HK1.out; omega
         case rel => exact ⟨(wrap64 (x13_1 + 1)), rs_, H', ⟨by have := HK1.out; omega⟩, by repeat (first | exact Drawn0.refl _ | apply Drawn0.step)⟩
       ·rw [if_neg c7] at H
        exact absurd H (by simp)
      ·rw [if_neg c6] at H
       exact absurd H (by simp)
     ·rw [if_neg c5] at H
      exact absurd H (by simp)
    ·rw [if_neg c4] at H
     have c4b0 : decide (x13_1 < (l0.length : Int)) = false := decide_eq_false c4
     clear c4
     obtain rfl := Option.some.inj H
     go_wp2
     repeat (go_quiet (fail); try go_wp2)
     go_ret
     exact ⟨by first | rfl | (simp; done) | (simp [*]; done), by repeat (first | exact Drawn0.refl _ | apply Drawn0.step)⟩
 ·rw [if_neg c3] at H
  have c3b0 : ((l0.length : Int) == (l1.length : Int)) = false := beq_eq_false_iff_ne.mpr c3
  have c3b1 : ((l0.length : Int) != (l1.length : Int)) = true := bne_iff_ne.mpr c3
  have c3b2 : (l0.length == l1.length) = false := by first | simpa using c3 | (simp at c3 ⊢; omega)
  obtain rfl := Option.some.inj H
  go_enter Tryz.func77, Tryz.ntmps77
  go_wp2
  repeat (go_quiet (fail); try go_wp2)
  go_ret
  exact ⟨by first | rfl | (simp; done) | (simp [*]; done), by repeat (first | exact Drawn0.refl _ | apply Drawn0.step)⟩

/-! ### impl_equalShapes: function 127 -/
def impl_equalShapes.f (k : Nat) (l0 : List (S46)) (l1 : List (S46)) : Option (Bool) := (slices_Equal_impl_Cell_impl_Cell.f k l0 l1).bind fun t131 => (some t131)
theorem impl_equalShapes.mono : ∀ a0 a1 k, LeO (impl_equalShapes.f k a0 a1) (impl_equalShapes.f (k + 1) a0 a1) := by
 intro a0 a1 k
 unfold impl_equalShapes.f
 with_reducible (repeat' first | exact slices_Equal_impl_Cell_impl_Cell.mono _ _ _ | exact LeO.refl _ | exact LeO.none _ | refine LeO.ite ?_ ?_ | refine LeO.bind ?_ (fun _ => ?_))
set_option maxHeartbeats 8000000 in
set_option maxRecDepth 100000 in
theorem impl_equalShapes.calls (k : Nat) (A0 : Option Addr) (c0 : Nat) (l0 : List (S46)) (A1 : Option Addr) (c1 : Nat) (l1 : List (S46)) (r : Bool) (w : World) (hr0 : Kd.C k46 w A0 l0.length l0) (hc0 : l0.length ≤ c0) (hr1 : Kd.C k46 w A1 l1.length l1) (hc1 : l1.length ≤ c1) (h : impl_equalShapes.f k l0 l1 = some r) :
  Calls Tryz.prog 127 #[.slice A0 l0.length c0, .slice A1 l1.length c1] w fun e w' => e = .returned (.bool r) ∧ Drawn0 w w' := by
 have HR0 := Aside0.mk hr0
 have HC0 := Aside0.mk hc0
 clear hr0 hc0
 have HR1 := Aside0.mk hr1
 have HC1 := Aside0.mk hc1
 clear hr1 hc1
 have H := h
 clear h
 unfold impl_equalShapes.f at H
 obtain ⟨t131, A3, H⟩ := bs_ H
 obtain rfl := Option.some.inj H
 go_enter Tryz.func127, Tryz.ntmps127
 go_wp2_with (first | ((with_reducible refine gate_callee (f := 77) rfl ?_); refine goesL_ (some 7) rfl rfl Tryz.func77 kr_ rfl #[.slice A0 l0.length c0, .slice A1 l1.length c1] rfl ta_ ?_; (with_reducible refine (slices_Equal_impl_Cell_impl_Cell.calls k _ _ l0 _ _ l1 t131 _ ?side1 ?side2 ?side3 ?side4 A3.out).mono ?_); (case side1 => exact ca_ HR0.out); (case side2 => exact HC0.out); (case side3 => exact ca_ HR1.out); (case side4 => exact HC1.out); rintro e w' ⟨rfl, ⟨nd, rfl⟩⟩; refine ⟨_, rfl, ?_⟩))
 go_ret
 exact ⟨by first | rfl | (simp; done) | (simp [*]; done), by repeat (first | exact Drawn0.refl _ | apply Drawn0.step)⟩

end Go.Proofs.YtmdjkmfocgelnaaGreat.PFnTriangleShapes
