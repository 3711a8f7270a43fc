/- Over the kit's printer by a driver of mine (hprint.py), with parts by hand: functions of the program as Lean functions, and that each call comes to exactly these answers. -/
import Derived.Test.YtfpofjckpbmcjaaDoorPFnExactOppositeCellsx0
import Derived.Test.YtfpofjckpbmcjaaDoorPFnExactOppositeCellsx1
import Derived.Test.YtfpofjckpbmcjaaDoorPFnExactOppositeCellsx8
import Derived.Test.YtfpofjckpbmcjaaDoorPFnExactOppositeCellsx9
namespace Go.Proofs.YtfpofjckpbmcjaaDoor.PFnExactOppositeCells
open Go.RowKit Go.Proofs.YtfpofjckpbmcjaaDoorW.PrintWords Go.Proofs.YtfpofjckpbmcjaaDoorW.PrintLast Go.Proofs.YtfpofjckpbmcjaaDoorW.PrintMore
attribute [local go_sem] max2_int min2_int max_two min_two max_three min_three max_four min_four   -- for this text's walks alone
set_option linter.unusedVariables false
set_option linter.unusedSimpArgs false

attribute [local go_sem high] eqA57
/-! ### impl_around: function 67 -/
def impl_around.f (a0_0 : Int) (a0_1 : Int) : Option ((List (S57))) := some (([(⟨a0_0, wrap64 (a0_1 - 1)⟩ : S57), (⟨wrap64 (a0_0 - 1), a0_1⟩ : S57), (⟨wrap64 (a0_0 + 1), a0_1⟩ : S57), (⟨a0_0, wrap64 (a0_1 + 1)⟩ : S57)] : List (S57)))
set_option maxHeartbeats 8000000 in
set_option maxRecDepth 100000 in
theorem impl_around.calls (a0_0 : Int) (a0_1 : Int) (r : List (S57)) (w : World) (h : impl_around.f a0_0 a0_1 = some r) :
    Calls Tryd.prog 67 #[.agg #[.int .i64 a0_0, .int .i64 a0_1]] w fun e w' => ∃ v0_ : Value, e = .returned (v0_) ∧ Kd.R k57 57 w' w.heap.size (fun _ => True) v0_ r ∧ Below w.heap.size w w' := by
  have hu57 := Tryd.underlying57
  have HB := Aside0.mk (Below.refl w.heap.size w)
  have H : (some (([(⟨a0_0, wrap64 (a0_1 - 1)⟩ : S57), (⟨wrap64 (a0_0 - 1), a0_1⟩ : S57), (⟨wrap64 (a0_0 + 1), a0_1⟩ : S57), (⟨a0_0, wrap64 (a0_1 + 1)⟩ : S57)] : List (S57)))) = some r := h
  clear h
  obtain ⟨y246, hy246⟩ : ∃ y_ : List (S57), y_ = (([(⟨a0_0, wrap64 (a0_1 - 1)⟩ : S57), (⟨wrap64 (a0_0 - 1), a0_1⟩ : S57), (⟨wrap64 (a0_0 + 1), a0_1⟩ : S57), (⟨a0_0, wrap64 (a0_1 + 1)⟩ : S57)] : List (S57))) := ⟨_, rfl⟩
  replace H : (some y246) = some r := by first | (rw [hy246]; with_reducible exact H) | (have H2_ := (Option.bind_some _ _).symm.trans H; rw [hy246]; with_reducible exact H2_) | (have H2_ := (Option.bind_some _ _).symm.trans H; with_reducible exact H2_) | with_reducible exact H | (rw [hy246]; exact H) | exact H
  have Ny246 := Aside0.mk hy246
  clear hy246
  obtain rfl := Option.some.inj H
  go_enter Tryd.func67, Tryd.ntmps67
  go_wp2_with (first | ((with_reducible refine gate_dst (N := 1) rfl ?_); refine box_event ?hg (N := 1) ?hd (cs := #[.int .i64 a0_0, .int .i64 a0_1]) (t := 57) ?hr ?_; (case hd => rfl); (case hg => rfl); (case hr => first | (go_simp; done) | (go_simp; rfl)); intro gb245 hg w2 hbox hb; have n0_ := Aside0.mk (below_step (by repeat (first | (with_reducible first | exact HB.out | apply below_alloc | apply pw_below_drewN | apply below_drew1) | exact HB.out)) hb); have n1_ := Aside0.mk (hbox); have n2_ := Aside0.mk ((by rw [hg]; exact (below_size (by repeat (first | (with_reducible first | exact HB.out | apply below_alloc | apply pw_below_drewN | apply below_drew1) | exact HB.out))) : w.heap.size ≤ gb245)); have n3_ := Aside0.mk ((by rw [hg]; exact (below_size (by repeat (first | (with_reducible first | exact HB.out | apply below_alloc | apply pw_below_drewN | apply below_drew1) | exact HB.out))) : w.heap.size ≤ gb245)); clear HB; have HB := n0_; have BK245 := n1_; have GW245 := n2_; have GE245 := n3_; clear n0_ n1_ n2_ n3_; clear hb hbox hg; have hcz3_0 : w2.cell? ⟨gb245, 0, none⟩ = some (.int .i64 a0_0) := (blk_cell BK245.out 0).trans rfl; have hcz3_1 : w2.cell? ⟨gb245, 1, none⟩ = some (.int .i64 a0_1) := (blk_cell BK245.out 1).trans rfl; have hfz3_0 := blk_frozen BK245.out 0; have hfz3_1 := blk_frozen BK245.out 1) | ((with_reducible refine gate_dst (N := 27) rfl ?_); refine Kd.R_lit k57 _ 57 ?hg (N := 27) ?hd (xs := ([(⟨a0_0, wrap64 (a0_1 - 1)⟩ : S57), (⟨wrap64 (a0_0 - 1), a0_1⟩ : S57), (⟨wrap64 (a0_0 + 1), a0_1⟩ : S57), (⟨a0_0, wrap64 (a0_1 + 1)⟩ : S57)] : List (S57))) (inner := [.int .i64 a0_0, .int .i64 (wrap64 (a0_1 - 1)), .int .i64 (wrap64 (a0_0 - 1)), .int .i64 a0_1, .int .i64 (wrap64 (a0_0 + 1)), .int .i64 a0_1, .int .i64 a0_0, .int .i64 (wrap64 (a0_1 + 1))]) (ok := fun _ => True) (okp := fun _ => True) ?hr ?hp (fun _ hk => hk) trivial (Below.refl _ _) (Nat.le_refl _) (by simp) ?_; (case hd => rfl); (case hg => rfl); (case hr => first | (go_simp; done) | (go_simp; rfl)); (case hp => exact (Reps.c2 (show Kd.M k57 _ _ _ (⟨a0_0, wrap64 (a0_1 - 1)⟩ : S57) [.int .i64 a0_0, .int .i64 (wrap64 (a0_1 - 1))] from (k57_mkM _ _ _ (⟨a0_0, wrap64 (a0_1 - 1)⟩ : S57) )) (Reps.c2 (show Kd.M k57 _ _ _ (⟨wrap64 (a0_0 - 1), a0_1⟩ : S57) [.int .i64 (wrap64 (a0_0 - 1)), .int .i64 a0_1] from (k57_mkM _ _ _ (⟨wrap64 (a0_0 - 1), a0_1⟩ : S57) )) (Reps.c2 (show Kd.M k57 _ _ _ (⟨wrap64 (a0_0 + 1), a0_1⟩ : S57) [.int .i64 (wrap64 (a0_0 + 1)), .int .i64 a0_1] from (k57_mkM _ _ _ (⟨wrap64 (a0_0 + 1), a0_1⟩ : S57) )) (Reps.c2 (show Kd.M k57 _ _ _ (⟨a0_0, wrap64 (a0_1 + 1)⟩ : S57) [.int .i64 a0_0, .int .i64 (wrap64 (a0_1 + 1))] from (k57_mkM _ _ _ (⟨a0_0, wrap64 (a0_1 + 1)⟩ : S57) )) (Reps.none _ _)))))); intro v247 w4 ho5 hb hg_ hnew_; clear hg_ hnew_; (first | rw [← Ny246.out] at ho5 | (simp only [Int.reduceToNat] at ho5; rw [← Ny246.out] at ho5)); have n0_ := Aside0.mk (Kd.R_lower (Kd.R_newB ho5 (g := gb245) (o := .cells #[.int .i64 a0_0, .int .i64 a0_1] 57 (0, 0)) (by (with_reducible repeat (first | refine blk_drewN ?_ _ | refine blk_drew ?_ | refine blk_alloc ?_ _)); exact BK245.out)) (below_size (by repeat (first | (with_reducible first | exact HB.out | apply below_alloc | apply pw_below_drewN | apply below_drew1 | refine below_set ?_ GE245.out) | exact HB.out)))); have n1_ := Aside0.mk (blk_below (g := gb245) (o := .cells #[.int .i64 a0_0, .int .i64 a0_1] 57 (0, 0)) (by (with_reducible repeat (first | refine blk_drewN ?_ _ | refine blk_drew ?_ | refine blk_alloc ?_ _)); exact BK245.out) hb); have n2_ := Aside0.mk (below_step (by repeat (first | (with_reducible first | exact HB.out | apply below_alloc | apply pw_below_drewN | apply below_drew1 | refine below_set ?_ GE245.out) | exact HB.out)) hb); clear BK245; clear HB; have HO248 := n0_; have BK245 := n1_; have HB := n2_; clear n0_ n1_ n2_; clear hb ho5))
  go_ret
  exact ⟨_, by first | rfl | (simp [errW_none, errW_some] <;> rfl) | (simp [*, errW_none, errW_some] <;> rfl), by (with_reducible repeat (first | apply Kd.R_alloc | apply Kd.R_drewN | apply Kd.R_drew)); exact Kd.R_mono HO248.out (fun _ hk => trivial), by repeat (first | (with_reducible first | exact HB.out | apply below_alloc | apply pw_below_drewN | apply below_drew1 | refine below_set ?_ GE245.out) | exact HB.out)⟩

/-! ### slices_Max_int64_int64: function 88 -/
def slices_Max_int64_int64.l0 : Nat → List Int → Int → Int → Option (Int)
  | 0, _, _, _ => none
  | k + 1, x0, x3, x4 => if x4 < (x0.length : Int) then (if 0 ≤ x4 then (slices_Max_int64_int64.l0 k x0 (mx x3 (rd x0 x4)) (wrap64 (x4 + 1))) else (none)) else (some x3)
def slices_Max_int64_int64.f (k : Nat) (l0 : List Int) : Option (Int) := if (l0.length : Int) < 1 then (none) else (if 0 < (l0.length : Int) then (slices_Max_int64_int64.l0 k l0 (rd l0 0) 1) else (none))
theorem slices_Max_int64_int64.mono_l : ∀ k, (∀ y0 y1 y2, LeO (slices_Max_int64_int64.l0 k y0 y1 y2) (slices_Max_int64_int64.l0 (k + 1) y0 y1 y2))
  | 0 => fun _ _ _ r h => by simp [slices_Max_int64_int64.l0] at h
  | k + 1 => by
    have ih0 := slices_Max_int64_int64.mono_l k
    · intro y0 y1 y2
      unfold slices_Max_int64_int64.l0
      repeat' first
      | (with_reducible exact ih0 _ _ _)
      | (with_reducible exact LeO.refl _)
      | (with_reducible exact LeO.none _)
      | (with_reducible refine LeO.ite ?_ ?_)
      | (with_reducible refine LeO.bind ?_ (fun _ => ?_))
      | exact ih0 _ _ _
      | exact LeO.none _
      | refine LeO.ite ?_ ?_
      | refine LeO.bind ?_ (fun _ => ?_)
theorem slices_Max_int64_int64.mono : ∀ a0 k, LeO (slices_Max_int64_int64.f k a0) (slices_Max_int64_int64.f (k + 1) a0) := by
  intro a0 k
  have ih0 := slices_Max_int64_int64.mono_l k
  unfold slices_Max_int64_int64.f
  repeat' first
      | (with_reducible exact ih0 _ _ _)
      | (with_reducible exact LeO.refl _)
      | (with_reducible exact LeO.none _)
      | (with_reducible refine LeO.ite ?_ ?_)
      | (with_reducible refine LeO.bind ?_ (fun _ => ?_))
      | exact ih0 _ _ _
      | exact LeO.none _
      | refine LeO.ite ?_ ?_
      | refine LeO.bind ?_ (fun _ => ?_)
set_option maxHeartbeats 8000000 in
set_option maxRecDepth 100000 in
theorem slices_Max_int64_int64.calls (k : Nat) (A0 : Option Addr) (c0 : Nat) (l0 : List Int) (r : Int) (w : World) (hr0 : Kd.C (Kd.int .i64) w A0 l0.length l0) (hc0 : l0.length ≤ c0) (h : slices_Max_int64_int64.f k l0 = some r) :
    Calls Tryd.prog 88 #[.slice A0 l0.length c0] w fun e w' => e = .returned (.int .i64 r) ∧ Below w.heap.size w w' := by
  have HR0 := Aside0.mk hr0
  have HC0 := Aside0.mk hc0
  clear hr0 hc0
  have HB := Aside0.mk (Below.refl w.heap.size w)
  have H : (if (l0.length : Int) < 1 then (none) else (if 0 < (l0.length : Int) then (slices_Max_int64_int64.l0 k l0 (rd l0 0) 1) else (none))) = some r := h
  clear h
  by_cases c2 : (l0.length : Int) < 1
  · rw [if_pos c2] at H
    exact absurd H (by simp)
  · rw [if_neg c2] at H
    have c2b0 : decide ((l0.length : Int) < 1) = false := decide_eq_false c2
    have c2b1 : decide (l0.length < 1) = false := decide_eq_false (by omega)
    clear c2
    by_cases c3 : 0 < (l0.length : Int)
    · rw [if_pos c3] at H
      have c3b0 : decide (0 < (l0.length : Int)) = true := decide_eq_true c3
      have c3b1 : decide (0 < l0.length) = true := decide_eq_true (by omega)
      clear c3
      have H' := Aside0.mk H
      clear H
      have p249 : 0 ≤ (0 : Int) := (by omega)
      have q249 : 0 < (l0.length : Int) := of_decide_eq_true (by first | (with_reducible assumption) | assumption)
      obtain ⟨ad249, e249, hx249_0⟩ := Kd.at_int HR0.out 0 p249 q249
      cases e249
      have qi249 : (0 < l0.length) = True := eq_true (by omega)
      (try rw [show ((0 : Int)).toNat = 0 from rfl] at hx249_0)
      (try rw [Addr.add_zero'] at hx249_0)
      replace p249 := eq_true p249
      replace q249 := eq_true q249
      go_enter Tryd.func88, Tryd.ntmps88
      go_wp2
      go_loopg [3, 4] k (fun kq v3 v4 w' => ∃ (x3_1 : Int) (x4_1 : Int), v3 = .int .i64 x3_1 ∧ v4 = .int .i64 x4_1 ∧ Aside0 (slices_Max_int64_int64.l0 kq l0 x3_1 x4_1 = some r) ∧ Aside0 (kq ≤ k) ∧ Aside0 (Below w.heap.size w w'))
      case atStart => exact ⟨(rd l0 0), (1), (by first | rfl | (simp; done) | (simp [*]; done)), (by first | rfl | (simp; done) | (simp [*]; done)), H', ⟨Nat.le_refl _⟩, ⟨by repeat (first | (with_reducible first | exact HB.out | apply below_alloc | apply pw_below_drewN | apply below_drew1) | exact HB.out)⟩⟩
      case round =>
        clear H'
        try clear c2
        try clear c2b0
        try clear c2b1
        try clear p2
        try clear q2
        try clear hx2
        try clear qi2
        try clear c3
        try clear c3b0
        try clear c3b1
        try clear hx249_0
        try clear p249
        try clear q249
        obtain ⟨x3_1, x4_1, rfl, rfl, HA, HK1, HB⟩ := hrel
        cases gk with
        | zero => exact absurd HA.out (by simp [slices_Max_int64_int64.l0])
        | succ k1 =>
          have H := HA.out
          clear HA
          simp only [slices_Max_int64_int64.l0] at H
          by_cases c4 : x4_1 < (l0.length : Int)
          · rw [if_pos c4] at H
            have c4b0 : decide (x4_1 < (l0.length : Int)) = true := decide_eq_true c4
            clear c4
            by_cases c5 : 0 ≤ x4_1
            · rw [if_pos c5] at H
              have c5b0 : decide (0 ≤ x4_1) = true := decide_eq_true c5
              clear c5
              obtain ⟨ji6, hji6⟩ : ∃ j_ : Int, (mx x3_1 (rd l0 x4_1)) = j_ := ⟨_, rfl⟩
              replace H : (slices_Max_int64_int64.l0 k1 l0 ji6 (wrap64 (x4_1 + 1))) = some r := by first | (rw [hji6] at H; exact H) | (simp only [hji6] at H ⊢; exact H)
              have hji6_ : (if x3_1 < (rd l0 x4_1) then (rd l0 x4_1) else x3_1) = ji6 := hji6
              have H' := Aside0.mk H
              clear H
              have p250 : 0 ≤ (x4_1 : Int) := of_decide_eq_true (by first | (with_reducible assumption) | assumption)
              have q250 : x4_1 < (l0.length : Int) := of_decide_eq_true (by first | (with_reducible assumption) | assumption)
              obtain ⟨ad250, e250, hx250_0⟩ := Kd.at_int HR0.out x4_1 p250 q250
              obtain rfl : ad249 = ad250 := (by injection e250)
              replace hx250_0 := (HB.out.cell (World.block_lt_of_cell? w _ hx250_0)).trans hx250_0
              replace p250 := eq_true p250
              replace q250 := eq_true q250
              go_wp2
              go_roundg k1
              case measure => have := HK1.out; omega
              case rel => exact ⟨(ji6), (wrap64 (x4_1 + 1)), (by first | rfl | (simp; done) | (simp only [← hji6] <;> (first | rfl | simp)) | (simp [*]; done)), (by first | rfl | (simp; done) | (simp [*]; done)), H', ⟨by have := HK1.out; omega⟩, ⟨by repeat (first | (with_reducible first | exact HB.out | apply below_alloc | apply pw_below_drewN | apply below_drew1) | exact HB.out)⟩⟩
            · rw [if_neg c5] at H
              exact absurd H (by simp)
          · rw [if_neg c4] at H
            have c4b0 : decide (x4_1 < (l0.length : Int)) = false := decide_eq_false c4
            clear c4
            obtain rfl := Option.some.inj H
            go_wp2
            go_ret
            exact ⟨by first | rfl | (simp [errW_none, errW_some] <;> rfl) | (simp [*, errW_none, errW_some] <;> rfl), by repeat (first | (with_reducible first | exact HB.out | apply below_alloc | apply pw_below_drewN | apply below_drew1) | exact HB.out)⟩
    · rw [if_neg c3] at H
      exact absurd H (by simp)

/-! ### impl_IsConnected: function 44 -/
/-- The pair of a cell's numbers; the last place among the first i at which a cell stands. -/
def cellKey (c : S57) : Int × Int := (c.f0, c.f1)
def okc (c : S57) : Prop := (-9223372036854775808 ≤ c.f0 ∧ c.f0 ≤ 9223372036854775807) ∧ (-9223372036854775808 ≤ c.f1 ∧ c.f1 ≤ 9223372036854775807)
instance (c : S57) : Decidable (okc c) := inferInstanceAs (Decidable (_ ∧ _))
def atCell (l : List S57) : Nat → Int × Int → Option Int
  | 0, _ => none
  | i + 1, p => if p = cellKey (rd_T57 l (i : Int)) then some (i : Int) else atCell l i p
def placeF (l : List S57) (i : Nat) (p : Int × Int) : Option Value := (atCell l i p).map (fun q => .int .i64 q)
mutual
def impl_parts.l1 : Nat → List S57 → List Int → Int → Option (List Int)
  | 0, _, _, _ => none
  | k + 1, l, out, i => if i < (l.length : Int) then (if 0 ≤ i then (if rd out i ≥ 0 then impl_parts.l1 k l out (wrap64 (i + 1)) else impl_parts.l2 k l (out.set i.toNat i) i [i] 0) else none) else some out
def impl_parts.l2 : Nat → List S57 → List Int → Int → List Int → Int → Option (List Int)
  | 0, _, _, _, _, _ => none
  | k + 1, l, out, i, list, t => if t < (list.length : Int) then (if (0 ≤ t ∧ 0 ≤ rd list t) ∧ rd list t < (l.length : Int) then ((impl_around.f (rd_T57 l (rd list t)).f0 (rd_T57 l (rd list t)).f1).bind fun ds => impl_parts.l3 k l out i list t ds 0) else none) else impl_parts.l1 k l out (wrap64 (i + 1))
def impl_parts.l3 : Nat → List S57 → List Int → Int → List Int → Int → List S57 → Int → Option (List Int)
  | 0, _, _, _, _, _, _, _ => none
  | k + 1, l, out, i, list, t, ds, j => if j < (ds.length : Int) then (if 0 ≤ j ∧ okc (rd_T57 ds j) then (match atCell l l.length (cellKey (rd_T57 ds j)) with
      | none => impl_parts.l3 k l out i list t ds (wrap64 (j + 1))
      | some q => if 0 ≤ q ∧ q < (l.length : Int) then (if rd out q < 0 then (if list.length < 17592186044416 then impl_parts.l3 k l (out.set q.toNat i) i (list ++ [q]) t ds (wrap64 (j + 1)) else none) else impl_parts.l3 k l out i list t ds (wrap64 (j + 1))) else none) else none) else impl_parts.l2 k l out i list (wrap64 (t + 1))
end
def impl_parts.f (k : Nat) (l : List S57) : Option (List Int) := if (0 < l.length ∧ l.length ≤ 35184372088832) ∧ (∀ c ∈ l, okc c) then impl_parts.l1 k l (List.replicate l.length (-1)) 0 else none
theorem mapZ (w : World) : (zeroValue 3).run Tryd.prog w = .ok (.int .i64 0) w := by kernel_rfl
theorem cellLaid : Go.Maps.Keyed Tryd.prog 57 := Go.Maps.Keyed.of_law (Go.deep_law_laid (m := 3) (by kernel_rfl) (by omega) (of_decide_eq_true (by kernel_rfl)) (by kernel_rfl) (by kernel_rfl))
theorem cellKeyed (c : S57) (h : okc c) : ∃ l, keyOf Tryd.prog 57 (enc2 (cellKey c)) = some l :=
  key2 Tryd.underlying57 (by kernel_rfl) (by kernel_rfl) Tryd.underlying2 Tryd.underlying2 (by kernel_rfl) (by kernel_rfl) rfl rfl (by decide) (by decide) ⟨Tryd.prog.types.size - 1, by kernel_rfl⟩ c.f0 c.f1 h.1 h.2
theorem info8 : (Tryd.prog.info? 2).map (fun i => (i.zero, i.size, i.bytes)) = some (some (.int .i64 0), 1, 8) := by kernel_rfl
theorem wrapS (i : Nat) (h : i < 4611686018427387904) : wrap64 ((i : Int) + 1) = ((i + 1 : Nat) : Int) := by unfold wrap64; omega
theorem fillS (i n : Nat) (h : i < n) : (List.replicate i (-1 : Int) ++ List.replicate (n - i) 0).set i (-1) = List.replicate (i + 1) (-1) ++ List.replicate (n - (i + 1)) 0 := by
  rw [List.set_append_right _ _ (by simp), List.length_replicate, Nat.sub_self, List.replicate_succ', List.append_assoc]
  congr 1
  rw [show n - i = (n - (i + 1)) + 1 from by omega, List.replicate_succ]
  rfl
theorem placeS (l : List S57) (i : Nat) (x : Int × Int) : (if x = cellKey (rd_T57 l (i : Int)) then some (Value.int .i64 (i : Int)) else placeF l i x) = placeF l (i + 1) x := by
  unfold placeF
  rw [atCell]
  by_cases h : x = cellKey (rd_T57 l (i : Int))
  · rw [if_pos h, if_pos h]
    rfl
  · rw [if_neg h, if_neg h]
theorem rd_mem (l : List S57) (i : Int) (h0 : 0 ≤ i) (h : i < (l.length : Int)) : rd_T57 l i ∈ l := by
  unfold rd_T57
  rw [List.getD_eq_getElem?_getD, List.getElem?_eq_getElem (by omega), Option.getD_some]
  exact List.getElem_mem _
theorem info8i : (Tryd.prog.info? 3).map (fun i => (i.zero, i.size, i.bytes)) = some (some (.int .i64 0), 1, 8) := by kernel_rfl
set_option maxHeartbeats 4000000 in
set_option maxRecDepth 100000 in
theorem impl_parts.calls (k : Nat) (A0 : Option Addr) (c0 : Nat) (l0 : List S57) (r : List Int) (w : World) (hr0 : Kd.C k57 w A0 l0.length l0) (hc0 : l0.length ≤ c0) (h : impl_parts.f k l0 = some r) :
    Calls Tryd.prog 89 #[.slice A0 l0.length c0, .func (.func 67) #[] #[]] w fun e w' => ∃ v0_ : Value, e = .returned v0_ ∧ Kd.R (Kd.int .i64) 2 w' w.heap.size (fun _ => True) v0_ r ∧ Below w.heap.size w w' := by
  unfold impl_parts.f at h
  split at h
  case isFalse => exact absurd h (by simp)
  rename_i hl
  obtain ⟨⟨hp, hl⟩, hok⟩ := hl
  have hu := Tryd.underlying57
  have HR0 := Aside0.mk hr0
  have HL0 := Aside0.mk hc0
  have H' := Aside0.mk h
  have HL := Aside0.mk hl
  have HP := Aside0.mk hp
  have HOK := Aside0.mk hok
  clear hr0 hc0 h hl hok hp
  have HB := Aside0.mk (Below.refl w.heap.size w)
  have hmm := @run_makeMap Tryd.prog
  go_enter Tryd.func89, Tryd.ntmps89
  have HM := Aside0.mk (MapF.made Tryd.prog 57 enc2 w)
  go_wp2_with (first | ((with_reducible refine gate_dst (N := 19) rfl ?_); refine Kd.R_make (Kd.int .i64) (w0 := w) w.heap.size 2 rfl (N := 19) rfl 40 _ _ rfl (l0.length : Int) rfl rfl Tryd.underlying40 (.int .i64 0) 8 info8 rfl (by decide) (by omega) 0 (ok := fun _ => True) (okp := fun _ => True) rfl (fun _ hk => hk) trivial (by omega) (by have := HL.out; omega) (below_alloc HB.out _) (below_size (below_alloc HB.out _)) ?_; intro vo w2 ho hb hg _; obtain ⟨g, cap, eo, gb, _, _, _⟩ := Kd.R_form ho (by have := HP.out; simp; omega); subst eo; have GB := Aside0.mk gb; have HM2 := Aside0.mk (HM.out.grown hg (by simp)); have HO := Aside0.mk ho; have HB2 := Aside0.mk hb; clear ho hb hg gb))
  clear HM HB
  simp only [List.length_replicate, Int.toNat_natCast] at HO ⊢
  have HO0 : Aside0 (Kd.R (Kd.int .i64) 2 w2 w.heap.size (fun _ => True) (.slice (some ⟨g, 0, none⟩) l0.length cap) (List.replicate 0 (-1) ++ List.replicate (l0.length - 0) 0)) := Aside0.mk (by simpa using HO.out)
  have HM0 : Aside0 (MapF Tryd.prog 57 enc2 w2 w.heap.size 0 (placeF l0 0)) := Aside0.mk (HM2.out.ext (fun _ => rfl))
  clear HO HM2
  go_loopg [22] l0.length (fun kq v22 w' => ∃ i : Nat, v22 = .int .i64 (i : Int) ∧ Aside0 (kq + i = l0.length) ∧ Aside0 (MapF Tryd.prog 57 enc2 w' w.heap.size i (placeF l0 i)) ∧ Aside0 (Kd.R (Kd.int .i64) 2 w' w.heap.size (fun _ => True) (.slice (some ⟨g, 0, none⟩) l0.length cap) (List.replicate i (-1) ++ List.replicate (l0.length - i) 0)) ∧ Aside0 (Below w.heap.size w w'))
  case atStart => exact ⟨0, rfl, ⟨by omega⟩, HM0, HO0, HB2⟩
  case round =>
    clear HM0 HO0 HB2
    obtain ⟨i, rfl, HI, HM, HO, HB⟩ := hrel
    cases gk with
    | succ k1 =>
      have c1 : decide ((i : Int) < (l0.length : Int)) = true := decide_eq_true (by have := HI.out; omega)
      have c1n : decide (i < l0.length) = true := decide_eq_true (by have := HI.out; omega)
      have p1 : 0 ≤ (i : Int) := by omega
      have q1 : (i : Int) < (l0.length : Int) := of_decide_eq_true c1
      obtain ⟨ad1, e1, hx0, hx1⟩ := at_T57 HR0.out (i : Int) p1 q1
      cases e1
      rw [Int.toNat_natCast] at hx0 hx1
      replace hx0 := (HB.out.cell (World.block_lt_of_cell? w _ hx0)).trans hx0
      replace hx1 := (HB.out.cell (World.block_lt_of_cell? w _ hx1)).trans hx1
      have KC := Aside0.mk (HOK.out _ (rd_mem l0 (i : Int) p1 q1))
      replace p1 := eq_true p1
      replace q1 := eq_true q1
      go_wp2_with (first | (at_mapUpdate; refine wpList_putF rfl _ _ _ 121 rfl 57 3 cellLaid Tryd.underlying121 enc2 w.heap.size i (placeF l0 i) rfl (HM.out.alloc _) (by have := HI.out; have := HL.out; unfold maxLen; omega) (cellKey (rd_T57 l0 (i : Int))) rfl (fun q hq => enc2_inj _ _ hq) (cellKeyed _ KC.out) (.int .i64 (i : Int)) rfl ?_; intro w3 hm3 hg3; have HM3 := Aside0.mk (hm3.ext (placeS l0 i)); have HO3 := Aside0.mk (Kd.R_mapTurn (Kd.R_alloc HO.out _) (MapF.block (HM.out.alloc _)) hg3); have HB3 := Aside0.mk (below_mapTurn (below_alloc HB.out _) hg3 (Nat.le_refl _) (below_size (below_alloc HB.out _))); clear hm3 hg3; obtain ⟨hx5, hf5⟩ := Kd.R_celln 0 HO3.out (i : Int) (by omega) (of_decide_eq_true c1); rw [Int.toNat_natCast] at hx5 hf5; have HP3 := Kd.R_putg HO3.out (i : Int) (-1); rw [Int.toNat_natCast] at HP3) | ((with_reducible refine gate_store (t := 2) (p := 32) rfl ?_); refine store_event (t := 2) (p := 32) (v := ?vo_) (w1 := (w3.setCell ⟨g, i, none⟩ (.int .i64 (-1)))) ?hg ?ho ?hn ?hr ?_; (case ho => rfl); (case hg => rfl); (case hn => rfl); (case hr => first | (go_simp; done) | (go_simp; rfl)); intro w4 hw; have hg4 : w3.grownBy w4 (some g) := (by rw [hw]; exact HP3.2); have HM4 := Aside0.mk (HM3.out.cellTurn (Kd.R_typed HO3.out g rfl |>.elim fun c hc => ⟨c, _, _, hc⟩) hg4); have HO4 := Aside0.mk (by rw [hw]; exact HP3.1 : Kd.R (Kd.int .i64) 2 w4 w.heap.size (fun _ => True) (.slice (some ⟨g, 0, none⟩) l0.length cap) ((List.replicate i (-1) ++ List.replicate (l0.length - i) 0).set i (-1))); have HB4 := Aside0.mk (by rw [hw]; exact below_set HB3.out GB.out : Below w.heap.size w w4); clear hw HP3 hg4))
      go_roundg k1
      case measure => omega
      case rel => exact ⟨i + 1, by rw [wrapS i (by have := HI.out; have := HL.out; omega)], ⟨by have := HI.out; omega⟩, HM4, ⟨by have h := HO4.out; rw [fillS i l0.length (by have := HI.out; omega)] at h; exact h⟩, HB4⟩
    | zero =>
      obtain rfl : i = l0.length := by have := HI.out; omega
      have c1 : decide ((l0.length : Int) < (l0.length : Int)) = false := decide_eq_false (by omega)
      rw [Nat.sub_self, List.replicate_zero, List.append_nil] at HO
      go_wp2
      clear HI c1
      go_loopg [36] k (fun kq v36 w' => ∃ (out : List Int) (i : Int), v36 = .int .i64 i ∧ Aside0 (impl_parts.l1 kq l0 out i = some r) ∧ Aside0 (kq ≤ k) ∧ Aside0 (MapF Tryd.prog 57 enc2 w' w.heap.size l0.length (placeF l0 l0.length)) ∧ Aside0 (Kd.R (Kd.int .i64) 2 w' w.heap.size (fun _ => True) (.slice (some ⟨g, 0, none⟩) l0.length cap) out) ∧ Aside0 (Below w.heap.size w w'))
      case atStart => exact ⟨_, 0, rfl, H', ⟨Nat.le_refl _⟩, HM, HO, HB⟩
      case round =>
        clear H' HM HO HB
        obtain ⟨out, i, rfl, HA, HK1, HM, HO, HB⟩ := hrel
        cases gk with
        | zero => exact absurd HA.out (by simp [impl_parts.l1])
        | succ k1 =>
          have H := HA.out
          clear HA
          simp only [impl_parts.l1] at H
          by_cases c : i < (l0.length : Int)
          · rw [if_pos c] at H
            have c0 : decide (i < (l0.length : Int)) = true := decide_eq_true c
            by_cases d : 0 ≤ i
            · rw [if_pos d] at H
              obtain ⟨hx, hf⟩ := Kd.R_celln 0 HO.out i d c
              replace hx : wr.cell? ⟨g, i.toNat, none⟩ = some (.int .i64 (rd out i)) := hx
              by_cases e : rd out i ≥ 0
              · rw [if_pos e] at H
                have e0 : decide (0 ≤ rd out i) = true := decide_eq_true e
                have H' := Aside0.mk H
                replace c := eq_true c
                replace d := eq_true d
                clear H e
                go_wp2
                go_roundg k1
                case measure => have := HK1.out; omega
                case rel => exact ⟨out, wrap64 (i + 1), rfl, H', ⟨by have := HK1.out; omega⟩, HM, HO, HB⟩
              · rw [if_neg e] at H
                have e0 : decide (0 ≤ rd out i) = false := decide_eq_false e
                have H' := Aside0.mk H
                have HP3 := Kd.R_putg HO.out i i
                replace c := eq_true c
                replace d := eq_true d
                clear H e
                have HMc := HM
                have HOc := HO
                have HBc := HB
                go_wp2_with (first | ((with_reducible refine gate_store (t := 2) (p := 47) rfl ?_); refine store_event (t := 2) (p := 47) (v := ?vo_47) (w1 := (wr.setCell ⟨g, (i : Int).toNat, none⟩ (.int .i64 i))) ?hg ?ho ?hn ?hr ?_; (case ho => rfl); (case hg => rfl); (case hn => rfl); (case hr => first | (go_simp; done) | (go_simp; rfl)); intro w4 hw; have hg4 : World.grownBy _ w4 (some g) := (by rw [hw]; exact HP3.2); have nM := Aside0.mk (HMc.out.cellTurn (Kd.R_typed HOc.out g rfl |>.elim fun c hc => ⟨c, _, _, hc⟩) hg4); have nO := Aside0.mk (by rw [hw]; exact HP3.1 : Kd.R (Kd.int .i64) 2 w4 w.heap.size (fun _ => True) (.slice (some ⟨g, 0, none⟩) l0.length cap) (out.set i.toNat i)); have nB := Aside0.mk (by rw [hw]; exact below_set HBc.out GB.out : Below w.heap.size w w4); clear hw HP3; clear hg4) | ((with_reducible refine gate_dst (N := 49) rfl ?_); refine Kd.R_lit (Kd.int .i64) _ 3 ?hg (N := 49) ?hd (xs := ([i] : List Int)) (inner := [.int .i64 i]) (ok := fun _ => True) (okp := fun _ => True) ?hr ?hp (fun _ hk => hk) trivial (Below.refl _ _) (Nat.le_refl _) (by simp) ?_; (case hd => rfl); (case hg => rfl); (case hr => first | (go_simp; done) | (go_simp; rfl)); (case hp => exact (Reps.one (show Kd.M (Kd.int .i64) _ _ _ i [.int .i64 i] from rfl) (Reps.none _ _))); intro vl w5 ho5 hb5 hg5 hn5; have HM5 := Aside0.mk (nM.out.below' hb5); have HO5 := Aside0.mk (Kd.R_below nO.out hb5); have HL5 := Aside0.mk (Kd.R_lower ho5 (below_size nB.out)); have HB5 := Aside0.mk (below_step nB.out hb5); clear ho5 hb5 hg5 hn5))
                clear HMc HOc HBc nM nO nB HM HO HB hx hf c0 c d e0
                go_loopg [10, 11] k1 (fun kq v10 v11 w' => ∃ (out list : List Int) (t : Int), v11 = .int .i64 t ∧ Aside0 (impl_parts.l2 kq l0 out i list t = some r) ∧ Aside0 (kq ≤ k1) ∧ Aside0 (MapF Tryd.prog 57 enc2 w' w.heap.size l0.length (placeF l0 l0.length)) ∧ Aside0 (Kd.R (Kd.int .i64) 2 w' w.heap.size (fun _ => True) (.slice (some ⟨g, 0, none⟩) l0.length cap) out) ∧ Aside0 (Kd.R (Kd.int .i64) 3 w' w.heap.size (fun _ => True) v10 list) ∧ Aside0 (Below w.heap.size w w'))
                case atStart => exact ⟨_, _, 0, rfl, H', ⟨Nat.le_refl _⟩, HM5, HO5, HL5, HB5⟩
                case round =>
                  clear H' HM5 HO5 HL5 HB5
                  obtain ⟨out, list, t, rfl, HA, HK2, HM, HO, HQ, HB⟩ := hrel
                  cases gk with
                  | zero => exact absurd HA.out (by simp [impl_parts.l2])
                  | succ k2 =>
                    have H := HA.out
                    clear HA
                    simp only [impl_parts.l2] at H
                    obtain ⟨Al, cl, el⟩ := Kd.R_slice HQ.out
                    subst el
                    by_cases c : t < (list.length : Int)
                    · rw [if_pos c] at H
                      have c0 : decide (t < (list.length : Int)) = true := decide_eq_true c
                      by_cases d : (0 ≤ t ∧ 0 ≤ rd list t) ∧ rd list t < (l0.length : Int)
                      · rw [if_pos d] at H
                        obtain ⟨⟨d0, d1⟩, d2⟩ := d
                        obtain ⟨ds, hA, H⟩ := Option.bind_eq_some_iff.1 H
                        have A' := Aside0.mk hA
                        have H' := Aside0.mk H
                        clear H hA
                        obtain ⟨adl, e1, hxl⟩ := Kd.at_int (Kd.R_reads' HQ.out).2.2 t d0 c
                        cases e1
                        obtain ⟨ad, e2, hx0, hx1⟩ := at_T57 HR0.out (rd list t) d1 d2
                        cases e2
                        replace hx0 := (HB.out.cell (World.block_lt_of_cell? w _ hx0)).trans hx0
                        replace hx1 := (HB.out.cell (World.block_lt_of_cell? w _ hx1)).trans hx1
                        replace c := eq_true c
                        replace d0 := eq_true d0
                        replace d1 := eq_true d1
                        replace d2 := eq_true d2
                        go_wp2_with (first | (go_at_call 67; refine (impl_around.calls _ _ ds _ A'.out).mono ?_; rintro e w5 ⟨vd, rfl, hod, hb5⟩; obtain ⟨Ad, cd, ed⟩ := Kd.R_slice hod; subst ed; have HD5 := Aside0.mk (Kd.R_lower hod (below_size HB.out)); have HM5 := Aside0.mk (HM.out.below' hb5); have HO5 := Aside0.mk (Kd.R_below HO.out hb5); have HQ5 := Aside0.mk (Kd.R_below HQ.out hb5); have HB5 := Aside0.mk (below_step HB.out hb5); clear hod hb5))
                        clear HM HO HQ HB hx0 hx1 hxl c c0 d0 d1 d2
                        go_loopg [10, 66] k2 (fun kq v10 v66 w' => ∃ (out list : List Int) (j : Int), v66 = .int .i64 j ∧ Aside0 (impl_parts.l3 kq l0 out i list t ds j = some r) ∧ Aside0 (kq ≤ k2) ∧ Aside0 (MapF Tryd.prog 57 enc2 w' w.heap.size l0.length (placeF l0 l0.length)) ∧ Aside0 (Kd.R (Kd.int .i64) 2 w' w.heap.size (fun _ => True) (.slice (some ⟨g, 0, none⟩) l0.length cap) out) ∧ Aside0 (Kd.R (Kd.int .i64) 3 w' w.heap.size (fun _ => True) v10 list) ∧ Aside0 (Kd.R k57 57 w' w.heap.size (fun _ => True) (.slice Ad ds.length cd) ds) ∧ Aside0 (Below w.heap.size w w'))
                        case atStart => exact ⟨_, _, 0, rfl, H', ⟨Nat.le_refl _⟩, HM5, HO5, HQ5, HD5, HB5⟩
                        case round =>
                          clear H' HM5 HO5 HQ5 HD5 HB5 A'
                          obtain ⟨out, list, j, rfl, HA, HK3, HM, HO, HQ, HD, HB⟩ := hrel
                          cases gk with
                          | zero => exact absurd HA.out (by simp [impl_parts.l3])
                          | succ k3 =>
                            have H := HA.out
                            clear HA
                            simp only [impl_parts.l3] at H
                            by_cases c : j < (ds.length : Int)
                            · rw [if_pos c] at H
                              have c0 : decide (j < (ds.length : Int)) = true := decide_eq_true c
                              by_cases d : 0 ≤ j ∧ okc (rd_T57 ds j)
                              · rw [if_pos d] at H
                                obtain ⟨d0, d1⟩ := d
                                have KC := Aside0.mk d1
                                clear d1
                                obtain ⟨ad, e2, hx0, hx1⟩ := at_T57 (Kd.R_reads' HD.out).2.2 j d0 c
                                cases e2
                                replace c := eq_true c
                                replace d0 := eq_true d0
                                cases hq : atCell l0 l0.length (cellKey (rd_T57 ds j)) with
                                | none =>
                                  rw [hq] at H
                                  have H' := Aside0.mk H
                                  clear H
                                  go_wp2_with (first | (at_lookup; refine wpList_lookF rfl _ _ 121 rfl 57 3 cellLaid Tryd.underlying121 (mapZ _) enc2 w.heap.size l0.length (placeF l0 l0.length) rfl (HM.out.alloc _) (cellKey (rd_T57 ds j)) rfl (cellKeyed _ KC.out) none (by unfold placeF; rw [hq]; rfl) (.int .i64 0) false rfl rfl ?_))
                                  go_roundg k3
                                  case measure => have := HK1.out; have := HK2.out; have := HK3.out; omega
                                  case rel => exact ⟨out, list, wrap64 (j + 1), rfl, H', ⟨by have := HK3.out; omega⟩, HM.out.alloc _ |> Aside0.mk, ⟨Kd.R_alloc HO.out _⟩, ⟨Kd.R_alloc HQ.out _⟩, ⟨Kd.R_alloc HD.out _⟩, ⟨below_alloc HB.out _⟩⟩
                                | some q =>
                                  rw [hq] at H
                                  simp only at H
                                  by_cases e : 0 ≤ q ∧ q < (l0.length : Int)
                                  · rw [if_pos e] at H
                                    obtain ⟨e0, e1⟩ := e
                                    obtain ⟨hy, hf⟩ := Kd.R_celln 0 (Kd.R_alloc HO.out (.cells #[.int .i64 (rd_T57 ds j).f0, .int .i64 (rd_T57 ds j).f1] 57)) q e0 e1
                                    replace hy : World.cell? _ ⟨g, q.toNat, none⟩ = some (.int .i64 (rd out q)) := hy
                                    have HP3 := Kd.R_putg (Kd.R_alloc HO.out (.cells #[.int .i64 (rd_T57 ds j).f0, .int .i64 (rd_T57 ds j).f1] 57)) q i
                                    have e0b := decide_eq_true e0
                                    have e1b := decide_eq_true e1
                                    replace e0 := eq_true e0
                                    replace e1 := eq_true e1
                                    by_cases f : rd out q < 0
                                    · rw [if_pos f] at H
                                      have f0 : decide (rd out q < 0) = true := decide_eq_true f
                                      by_cases b : list.length < 17592186044416
                                      · rw [if_pos b] at H
                                        have H' := Aside0.mk H
                                        have LB := Aside0.mk b
                                        clear H b
                                        have HMc := Aside0.mk (HM.out.alloc (.cells #[.int .i64 (rd_T57 ds j).f0, .int .i64 (rd_T57 ds j).f1] 57))
                                        have HOc := Aside0.mk (Kd.R_alloc HO.out (.cells #[.int .i64 (rd_T57 ds j).f0, .int .i64 (rd_T57 ds j).f1] 57))
                                        have HBc := Aside0.mk (below_alloc HB.out (.cells #[.int .i64 (rd_T57 ds j).f0, .int .i64 (rd_T57 ds j).f1] 57))
                                        have HQc := Aside0.mk (Kd.R_alloc HQ.out (.cells #[.int .i64 (rd_T57 ds j).f0, .int .i64 (rd_T57 ds j).f1] 57))
                                        have HDc := Aside0.mk (Kd.R_alloc HD.out (.cells #[.int .i64 (rd_T57 ds j).f0, .int .i64 (rd_T57 ds j).f1] 57))
                                        go_wp2_with (first | (at_lookup; refine wpList_lookF rfl _ _ 121 rfl 57 3 cellLaid Tryd.underlying121 (mapZ _) enc2 w.heap.size l0.length (placeF l0 l0.length) rfl (HM.out.alloc _) (cellKey (rd_T57 ds j)) rfl (cellKeyed _ KC.out) (some (.int .i64 q)) (by unfold placeF; rw [hq]; rfl) (.int .i64 q) true rfl rfl ?_) | ((with_reducible refine gate_store (t := 2) (p := 87) rfl ?_); refine store_event (t := 2) (p := 87) (v := ?vo_87) (w1 := ((wr.alloc (.cells #[.int .i64 (rd_T57 ds j).f0, .int .i64 (rd_T57 ds j).f1] 57)).setCell ⟨g, (q : Int).toNat, none⟩ (.int .i64 i))) ?hg ?ho ?hn ?hr ?_; (case ho => rfl); (case hg => rfl); (case hn => rfl); (case hr => first | (go_simp; done) | (go_simp; rfl)); intro w6 hw; have hg4 : World.grownBy _ w6 (some g) := (by rw [hw]; exact HP3.2); have nM := Aside0.mk (HMc.out.cellTurn (Kd.R_typed HOc.out g rfl |>.elim fun c hc => ⟨c, _, _, hc⟩) hg4); have nO := Aside0.mk (by rw [hw]; exact HP3.1 : Kd.R (Kd.int .i64) 2 w6 w.heap.size (fun _ => True) (.slice (some ⟨g, 0, none⟩) l0.length cap) (out.set q.toNat i)); have nB := Aside0.mk (by rw [hw]; exact below_set HBc.out GB.out : Below w.heap.size w w6); have nQ := Aside0.mk (Kd.R_over' (v := (.slice (some ⟨g, 0, none⟩) l0.length cap)) HQc.out (Kd.R_typed HOc.out) (by decide) hg4); have nD := Aside0.mk (Kd.R_over' (v := (.slice (some ⟨g, 0, none⟩) l0.length cap)) HDc.out (Kd.R_typed HOc.out) (by decide) hg4); clear hw HP3; clear hg4) | ((with_reducible refine gate_builtin (b := .append) (xs := #[.tmp 88, .tmp 90]) rfl ?_); at_builtin; refine Kd.R_append (Kd.int .i64) (w0 := w) w.heap.size rfl (.tmp 88) (.tmp 90) 122 3 (.int .i64 0) 8 rfl Tryd.underlying122 info8i rfl (by decide) (by omega) u10 list q [.int .i64 q] (fun _ => True) (fun _ => False) rfl (by first | (go_simp; done) | (go_simp; rfl)) ?aP (fun _ hk => hk.elim) ?aF ?aO ?aB ?aS ?aL ?_; (case aP => exact rfl); (case aB => exact nB.out); (case aF => exact (fun _ _ => trivial)); (case aO => exact nQ.out); (case aS => exact below_size nB.out); (case aL => have := LB.out; omega); intro v7 w7 ho hb hg hat; have HM7 := Aside0.mk (nM.out.rowTurn nQ.out hg); have HO7 := Aside0.mk (Kd.R_over' nO.out (Kd.R_typed nQ.out) (by decide) hg); have HD7 := Aside0.mk (Kd.R_over' nD.out (Kd.R_typed nQ.out) (by decide) hg); have HQ7 := Aside0.mk ho; have HB7 := Aside0.mk hb; clear ho hb hg hat))
                                        go_roundg k3
                                        case measure => have := HK1.out; have := HK2.out; have := HK3.out; omega
                                        case rel => exact ⟨_, _, wrap64 (j + 1), rfl, H', ⟨by have := HK3.out; omega⟩, HM7, HO7, HQ7, HD7, HB7⟩
                                      · rw [if_neg b] at H
                                        exact absurd H (by simp)
                                    · rw [if_neg f] at H
                                      have f0 : decide (rd out q < 0) = false := decide_eq_false f
                                      have H' := Aside0.mk H
                                      clear H HP3
                                      go_wp2_with (first | (at_lookup; refine wpList_lookF rfl _ _ 121 rfl 57 3 cellLaid Tryd.underlying121 (mapZ _) enc2 w.heap.size l0.length (placeF l0 l0.length) rfl (HM.out.alloc _) (cellKey (rd_T57 ds j)) rfl (cellKeyed _ KC.out) (some (.int .i64 q)) (by unfold placeF; rw [hq]; rfl) (.int .i64 q) true rfl rfl ?_))
                                      go_roundg k3
                                      case measure => have := HK1.out; have := HK2.out; have := HK3.out; omega
                                      case rel => exact ⟨out, list, wrap64 (j + 1), rfl, H', ⟨by have := HK3.out; omega⟩, HM.out.alloc _ |> Aside0.mk, ⟨Kd.R_alloc HO.out _⟩, ⟨Kd.R_alloc HQ.out _⟩, ⟨Kd.R_alloc HD.out _⟩, ⟨below_alloc HB.out _⟩⟩
                                  · rw [if_neg e] at H
                                    exact absurd H (by simp)
                              · rw [if_neg d] at H
                                exact absurd H (by simp)
                            · rw [if_neg c] at H
                              have c0 : decide (j < (ds.length : Int)) = false := decide_eq_false c
                              have H' := Aside0.mk H
                              clear H c
                              go_wp2
                              go_roundg k3
                              case measure => have := HK1.out; have := HK2.out; have := HK3.out; omega
                              case rel => exact ⟨out, list, wrap64 (t + 1), rfl, H', ⟨by have := HK2.out; have := HK3.out; omega⟩, HM, HO, HQ, HB⟩
                      · rw [if_neg d] at H
                        exact absurd H (by simp)
                    · rw [if_neg c] at H
                      have c0 : decide (t < (list.length : Int)) = false := decide_eq_false c
                      have H' := Aside0.mk H
                      clear H c
                      go_wp2
                      go_roundg k2
                      case measure => have := HK1.out; have := HK2.out; omega
                      case rel => exact ⟨out, wrap64 (i + 1), rfl, H', ⟨by have := HK1.out; have := HK2.out; omega⟩, HM, HO, HB⟩
            · rw [if_neg d] at H
              exact absurd H (by simp)
          · rw [if_neg c] at H
            have c0 : decide (i < (l0.length : Int)) = false := decide_eq_false c
            obtain rfl := Option.some.inj H
            clear H c
            go_wp2
            go_ret
            exact ⟨_, rfl, HO.out, HB.out⟩
theorem impl_parts.mono_l : ∀ k, (∀ l out i, LeO (impl_parts.l1 k l out i) (impl_parts.l1 (k + 1) l out i)) ∧ (∀ l out i list t, LeO (impl_parts.l2 k l out i list t) (impl_parts.l2 (k + 1) l out i list t)) ∧ (∀ l out i list t ds j, LeO (impl_parts.l3 k l out i list t ds j) (impl_parts.l3 (k + 1) l out i list t ds j))
  | 0 => ⟨fun _ _ _ r h => by simp [impl_parts.l1] at h, fun _ _ _ _ _ r h => by simp [impl_parts.l2] at h, fun _ _ _ _ _ _ _ r h => by simp [impl_parts.l3] at h⟩
  | k + 1 => by
    obtain ⟨i1, i2, i3⟩ := impl_parts.mono_l k
    refine ⟨fun l out i => ?_, fun l out i list t => ?_, fun l out i list t ds j => ?_⟩
    · unfold impl_parts.l1
      exact LeO.ite (LeO.ite (LeO.ite (i1 _ _ _) (i2 _ _ _ _ _)) (LeO.none _)) (LeO.refl _)
    · unfold impl_parts.l2
      exact LeO.ite (LeO.ite (LeO.bind (LeO.refl _) (fun ds => i3 _ _ _ _ _ _ _)) (LeO.none _)) (i1 _ _ _)
    · unfold impl_parts.l3
      refine LeO.ite (LeO.ite ?_ (LeO.none _)) (i2 _ _ _ _ _)
      cases atCell l l.length (cellKey (rd_T57 ds j)) with
      | none => exact i3 _ _ _ _ _ _ _
      | some q => exact LeO.ite (LeO.ite (LeO.ite (i3 _ _ _ _ _ _ _) (LeO.none _)) (i3 _ _ _ _ _ _ _)) (LeO.none _)
def impl_connected.f (k : Nat) (l : List S57) : Option Bool := (impl_parts.f k l).bind fun o => (slices_Max_int64_int64.f k o).bind fun m => if m = 0 then some true else some false
def impl_IsConnected.f (k : Nat) (l0 : List S57) : Option Bool := (impl_IsShape.f k l0).bind fun t => if t = true then impl_connected.f k l0 else some false
theorem impl_connected.mono (l0 : List S57) (k : Nat) : LeO (impl_connected.f k l0) (impl_connected.f (k + 1) l0) := by
  unfold impl_connected.f
  refine LeO.bind ?_ (fun o => LeO.bind (slices_Max_int64_int64.mono o k) (fun m => LeO.refl _))
  unfold impl_parts.f
  exact LeO.ite ((impl_parts.mono_l k).1 _ _ _) (LeO.refl _)
theorem impl_IsConnected.mono : ∀ l0 k, LeO (impl_IsConnected.f k l0) (impl_IsConnected.f (k + 1) l0) := by
  intro l0 k
  unfold impl_IsConnected.f
  exact LeO.bind (impl_IsShape.mono l0 k) (fun t => LeO.ite (impl_connected.mono l0 k) (LeO.refl _))
set_option maxHeartbeats 1000000 in
theorem impl_connected.calls (k : Nat) (A0 : Option Addr) (c0 : Nat) (l0 : List S57) (r : Bool) (w : World) (hr0 : Kd.C k57 w A0 l0.length l0) (hc0 : l0.length ≤ c0) (h : impl_connected.f k l0 = some r) :
    Calls Tryd.prog 66 #[.slice A0 l0.length c0, .func (.func 67) #[] #[]] w fun e w' => e = .returned (.bool r) ∧ Below w.heap.size w w' := by
  unfold impl_connected.f at h
  obtain ⟨o, ho, h⟩ := Option.bind_eq_some_iff.1 h
  obtain ⟨m, hm, h⟩ := Option.bind_eq_some_iff.1 h
  have HP := Aside0.mk (impl_parts.calls k A0 c0 l0 o w hr0 hc0 ho)
  have HM := Aside0.mk hm
  clear ho hm hr0 hc0
  have hd : (m == 0) = r := by
    by_cases c : m = 0
    · rw [if_pos c] at h
      rw [← Option.some.inj h]
      simp [c]
    · rw [if_neg c] at h
      rw [← Option.some.inj h]
      simp [c]
  clear h
  go_enter Tryd.func66, Tryd.ntmps66
  go_wp2_with (first | (go_at_call 89; refine HP.out.mono ?_; rintro e w1 ⟨v, rfl, ho, hb⟩; obtain ⟨Ao, co, eo⟩ := Kd.R_slice ho; subst eo; have HO := Aside0.mk ho; have HB := Aside0.mk hb; clear ho hb) | (go_at_call 88; refine (slices_Max_int64_int64.calls k _ _ o m _ (Kd.R_reads' HO.out).2.2 (Kd.R_reads' HO.out).2.1 HM.out).mono ?_; rintro e w2 ⟨rfl, hb2⟩; have HB2 := Aside0.mk (below_step HB.out hb2); clear hb2))
  go_ret
  exact ⟨by rw [← hd]; rfl, HB2.out⟩
set_option maxHeartbeats 1000000 in
theorem impl_IsConnected.calls (k : Nat) (A0 : Option Addr) (c0 : Nat) (l0 : List S57) (r : Bool) (w : World) (hr0 : Kd.C k57 w A0 l0.length l0) (hc0 : l0.length ≤ c0) (h : impl_IsConnected.f k l0 = some r) :
    Calls Tryd.prog 44 #[.slice A0 l0.length c0] w fun e w' => e = .returned (.bool r) ∧ Below w.heap.size w w' := by
  unfold impl_IsConnected.f at h
  obtain ⟨t, ht, h⟩ := Option.bind_eq_some_iff.1 h
  have HS := Aside0.mk (impl_IsShape.calls k A0 c0 l0 t w hr0 hc0 ht)
  have HR := Aside0.mk hr0
  have HC := Aside0.mk hc0
  have H' := Aside0.mk h
  clear ht hr0 hc0 h
  cases t with
  | false =>
    have e := Option.some.inj (H'.out.symm.trans (if_neg (by simp)))
    subst e
    go_enter Tryd.func44, Tryd.ntmps44
    go_wp2_with (go_at_call 65; refine HS.out.mono ?_; rintro e w1 ⟨rfl, hb⟩; have HB := Aside0.mk hb; clear hb)
    go_ret
    exact ⟨rfl, HB.out⟩
  | true =>
    have H2 : Aside0 (impl_connected.f k l0 = some r) := ⟨(if_pos rfl).symm.trans H'.out⟩
    clear H'
    go_enter Tryd.func44, Tryd.ntmps44
    go_wp2_with (first | (go_at_call 65; refine HS.out.mono ?_; rintro e w1 ⟨rfl, hb⟩; have HB := Aside0.mk hb; clear hb) | (go_at_call 66; refine (impl_connected.calls k _ _ l0 r _ (Kd.C_below HR.out HB.out) HC.out H2.out).mono ?_; rintro e w2 ⟨rfl, hb2⟩; have HB2 := Aside0.mk (below_step HB.out hb2); clear hb2))
    go_ret
    exact ⟨rfl, HB2.out⟩


/-! ### impl_IsPermutation: function 45 -/
def seenB (xs : List Bool) : Array Value := (xs.map Value.bool).toArray
def impl_IsPermutation.l0 : Nat → List Int → List Bool → Int → Option Bool
  | 0, _, _, _ => none
  | k + 1, p, seen, j => if j < (p.length : Int) then (if 0 ≤ j then ((impl_within.f (rd p j) 0 (wrap64 ((p.length : Int) - 1))).bind fun t => if t = true then (if 0 ≤ rd p j ∧ rd p j < 64 then (if seen.getD (rd p j).toNat false = true then some false else impl_IsPermutation.l0 k p (seen.set (rd p j).toNat true) (wrap64 (j + 1))) else none) else some false) else none) else some true
def impl_IsPermutation.f (k : Nat) (l0 : List Int) : Option Bool := if (l0.length : Int) > 64 then some false else impl_IsPermutation.l0 k l0 (List.replicate 64 false) 0
theorem impl_IsPermutation.mono_l : ∀ k p s j, LeO (impl_IsPermutation.l0 k p s j) (impl_IsPermutation.l0 (k + 1) p s j)
  | 0, _, _, _ => LeO.none _
  | k + 1, p, s, j => by
    unfold impl_IsPermutation.l0
    exact LeO.ite (LeO.ite (LeO.bind (LeO.refl _) (fun t => LeO.ite (LeO.ite (LeO.ite (LeO.refl _) (impl_IsPermutation.mono_l k _ _ _)) (LeO.none _)) (LeO.refl _))) (LeO.none _)) (LeO.refl _)
theorem impl_IsPermutation.mono : ∀ a0 k, LeO (impl_IsPermutation.f k a0) (impl_IsPermutation.f (k + 1) a0) := by
  intro a0 k
  unfold impl_IsPermutation.f
  exact LeO.ite (LeO.refl _) (impl_IsPermutation.mono_l _ _ _ _)
theorem seenB_get (xs : List Bool) (i : Nat) (h : i < xs.length) : (seenB xs)[i]? = some (.bool (xs.getD i false)) := by
  unfold seenB
  rw [List.getElem?_toArray, List.getElem?_map, List.getD_eq_getElem?_getD, List.getElem?_eq_getElem h]
  rfl
theorem seenB_set (xs : List Bool) (i : Nat) (b : Bool) : (seenB xs).setIfInBounds i (.bool b) = seenB (xs.set i b) := by
  unfold seenB
  simp [List.map_set]
set_option maxHeartbeats 4000000 in
set_option maxRecDepth 100000 in
theorem impl_IsPermutation.calls (k : Nat) (A0 : Option Addr) (c0 : Nat) (l0 : List Int) (r : Bool) (w : World) (hr0 : Kd.C (Kd.int .i64) w A0 l0.length l0) (hc0 : l0.length ≤ c0) (h : impl_IsPermutation.f k l0 = some r) :
    Calls Tryd.prog 45 #[.slice A0 l0.length c0] w fun e w' => e = .returned (.bool r) ∧ Below w.heap.size w w' := by
  have HR0 := Aside0.mk hr0
  unfold impl_IsPermutation.f at h
  by_cases c : (l0.length : Int) > 64
  · rw [if_pos c] at h
    obtain rfl := Option.some.inj h
    have c1 : decide (64 < (l0.length : Int)) = true := decide_eq_true c
    have c2 : decide (64 < l0.length) = true := decide_eq_true (by omega)
    go_enter Tryd.func45, Tryd.ntmps45
    go_wp2
    go_ret
    exact ⟨rfl, Below.refl _ _⟩
  · rw [if_neg c] at h
    have c1 : decide (64 < (l0.length : Int)) = false := decide_eq_false c
    have c2 : decide (64 < l0.length) = false := decide_eq_false (by omega)
    have H' := Aside0.mk h
    clear h c hr0
    go_enter Tryd.func45, Tryd.ntmps45
    have BK0 : Aside0 ((w.alloc (.cells (seenB (List.replicate 64 false)) 80)).heap[w.heap.size]? = some (.cells (seenB (List.replicate 64 false)) 80 (0, 0))) := ⟨heap_alloc_new w _⟩
    have HB0 : Aside0 (Below w.heap.size w (w.alloc (.cells (seenB (List.replicate 64 false)) 80))) := ⟨below_alloc (Below.refl _ _) _⟩
    go_wp2
    go_loopg [11] k (fun kq v11 w' => ∃ (seen : List Bool) (j : Int), v11 = .int .i64 j ∧ Aside0 (impl_IsPermutation.l0 kq l0 seen j = some r) ∧ Aside0 (kq ≤ k) ∧ Aside0 (seen.length = 64) ∧ Aside0 (w'.heap[w.heap.size]? = some (.cells (seenB seen) 80 (0, 0))) ∧ Aside0 (Below w.heap.size w w'))
    case atStart => exact ⟨_, 0, rfl, H', ⟨Nat.le_refl _⟩, ⟨by simp⟩, BK0, HB0⟩
    case round =>
      clear H' BK0 HB0
      obtain ⟨seen, j, rfl, HA, HK, HN, BK, HB⟩ := hrel
      cases gk with
      | zero => exact absurd HA.out (by simp [impl_IsPermutation.l0])
      | succ k1 =>
        have H := HA.out
        clear HA
        simp only [impl_IsPermutation.l0] at H
        by_cases c : j < (l0.length : Int)
        · rw [if_pos c] at H
          by_cases d : 0 ≤ j
          · rw [if_pos d] at H
            obtain ⟨t, hA, H⟩ := Option.bind_eq_some_iff.1 H
            have A' := Aside0.mk hA
            obtain ⟨ad, e1, hx⟩ := Kd.at_int HR0.out j d c
            cases e1
            replace hx := (HB.out.cell (World.block_lt_of_cell? w _ hx)).trans hx
            have c0 := decide_eq_true c
            replace c := eq_true c
            replace d := eq_true d
            cases t with
            | false =>
              simp only [Bool.false_eq_true, if_false, Option.some.injEq] at H
              subst H
              clear hA
              go_wp2_with (go_at_call 54; refine (impl_within.calls (rd l0 j) 0 (wrap64 ((l0.length : Int) - 1)) false _ A'.out).mono ?_; rintro e w' ⟨rfl, ⟨nd, rfl⟩⟩)
              go_ret
              exact ⟨rfl, pw_below_drewN HB.out _⟩
            | true =>
              simp only [if_true] at H
              clear hA
              by_cases e : 0 ≤ rd l0 j ∧ rd l0 j < 64
              · rw [if_pos e] at H
                obtain ⟨e0, e1⟩ := e
                have hy : wr.cell? ⟨w.heap.size, (rd l0 j).toNat, none⟩ = some (.bool (seen.getD (rd l0 j).toNat false)) := (blk_cell BK.out _).trans (seenB_get _ _ (by have := HN.out; omega))
                have hf := blk_frozen BK.out (rd l0 j).toNat
                have e0b := decide_eq_true e0
                have e1b := decide_eq_true e1
                replace e0 := eq_true e0
                replace e1 := eq_true e1
                cases f : seen.getD (rd l0 j).toNat false with
                | true =>
                  rw [f] at H hy
                  obtain rfl := Option.some.inj H
                  go_wp2_with (go_at_call 54; refine (impl_within.calls (rd l0 j) 0 (wrap64 ((l0.length : Int) - 1)) true _ A'.out).mono ?_; rintro e w' ⟨rfl, ⟨nd, rfl⟩⟩)
                  go_ret
                  exact ⟨rfl, pw_below_drewN HB.out _⟩
                | false =>
                  rw [f] at H hy
                  have H' : Aside0 (impl_IsPermutation.l0 k1 l0 (seen.set (rd l0 j).toNat true) (wrap64 (j + 1)) = some r) := ⟨(if_neg (by simp)).symm.trans H⟩
                  clear H f
                  go_wp2_with (go_at_call 54; refine (impl_within.calls (rd l0 j) 0 (wrap64 ((l0.length : Int) - 1)) true _ A'.out).mono ?_; rintro e w' ⟨rfl, ⟨nd, rfl⟩⟩)
                  go_roundg k1
                  case measure => have := HK.out; omega
                  case rel => exact ⟨_, wrap64 (j + 1), rfl, H', ⟨by have := HK.out; omega⟩, ⟨by simpa using HN.out⟩, ⟨blk_put (blk_drewN BK.out nd) _ _ (seenB_set _ _ _)⟩, ⟨below_set (pw_below_drewN HB.out nd) (Nat.le_refl _)⟩⟩
              · rw [if_neg e] at H
                exact absurd H (by simp)
          · rw [if_neg d] at H
            exact absurd H (by simp)
        · rw [if_neg c] at H
          have c0 := decide_eq_false c
          obtain rfl := Option.some.inj H
          clear H c
          go_wp2
          go_ret
          exact ⟨rfl, HB.out⟩


/-! ### impl_die_roll: function 58 -/
def impl_die_roll.f (a0_0 : Int) (a0_1 : Int) (a0_2 : Int) (a1 : Int) : Option (Int × Int × Int) := if a1 = 114 then (some (a0_1, wrap64 (5 - a0_0), a0_2)) else (if a1 = 100 then (some (a0_2, a0_1, wrap64 (5 - a0_0))) else (if a1 = 108 then (some (wrap64 (5 - a0_1), a0_0, a0_2)) else (some (wrap64 (5 - a0_2), a0_1, a0_0))))
set_option maxHeartbeats 8000000 in
set_option maxRecDepth 100000 in
theorem impl_die_roll.calls (a0_0 : Int) (a0_1 : Int) (a0_2 : Int) (a1 : Int) (r1 : Int) (r2 : Int) (r3 : Int) (w : World) (h : impl_die_roll.f a0_0 a0_1 a0_2 a1 = some (r1, r2, r3)) :
    Calls Tryd.prog 58 #[.agg #[.int .i64 a0_0, .int .i64 a0_1, .int .i64 a0_2], .int .u8 a1] w fun e w' => e = .returned (.agg #[.int .i64 r1, .int .i64 r2, .int .i64 r3]) ∧ Below w.heap.size w w' := by
  have hu52 := Tryd.underlying52
  have HB := Aside0.mk (Below.refl w.heap.size w)
  have H : (if a1 = 114 then (some (a0_1, wrap64 (5 - a0_0), a0_2)) else (if a1 = 100 then (some (a0_2, a0_1, wrap64 (5 - a0_0))) else (if a1 = 108 then (some (wrap64 (5 - a0_1), a0_0, a0_2)) else (some (wrap64 (5 - a0_2), a0_1, a0_0))))) = some (r1, r2, r3) := h
  clear h
  by_cases c3 : a1 = 114
  · rw [if_pos c3] at H
    have c3b0 : (a1 == 114) = true := beq_iff_eq.mpr c3
    have c3b1 : (a1 != 114) = false := bne_eq_false_iff_eq.mpr c3
    clear c3
    simp only [Option.some.injEq, Prod.mk.injEq] at H
    obtain ⟨rfl, rfl, rfl⟩ := H
    go_enter Tryd.func58, Tryd.ntmps58
    go_wp2_with (first | ((with_reducible refine gate_dst (N := 2) rfl ?_); refine box_event ?hg (N := 2) ?hd (cs := #[.int .i64 a0_0, .int .i64 a0_1, .int .i64 a0_2]) (t := 52) ?hr ?_; (case hd => rfl); (case hg => rfl); (case hr => first | (go_simp; done) | (go_simp; rfl)); intro gb251 hg w4 hbox hb; have n0_ := Aside0.mk (below_step (by repeat (first | (with_reducible first | exact HB.out | apply below_alloc | apply pw_below_drewN | apply below_drew1) | exact HB.out)) hb); have n1_ := Aside0.mk (hbox); have n2_ := Aside0.mk ((by rw [hg]; exact (below_size (by repeat (first | (with_reducible first | exact HB.out | apply below_alloc | apply pw_below_drewN | apply below_drew1) | exact HB.out))) : w.heap.size ≤ gb251)); have n3_ := Aside0.mk ((by rw [hg]; exact (below_size (by repeat (first | (with_reducible first | exact HB.out | apply below_alloc | apply pw_below_drewN | apply below_drew1) | exact HB.out))) : w.heap.size ≤ gb251)); clear HB; have HB := n0_; have BK251 := n1_; have GW251 := n2_; have GE251 := n3_; clear n0_ n1_ n2_ n3_; clear hb hbox hg) | ((with_reducible refine gate_dst (N := 4) rfl ?_); refine box_event ?hg (N := 4) ?hd (cs := #[.int .i64 0, .int .i64 0, .int .i64 0]) (t := 52) ?hr ?_; (case hd => rfl); (case hg => rfl); (case hr => first | (go_simp; done) | (go_simp; rfl)); intro gb252 hg w5 hbox hb; have n0_ := Aside0.mk (blk_below (g := gb251) (o := .cells #[.int .i64 a0_0, .int .i64 a0_1, .int .i64 a0_2] 52 (0, 0)) (by (with_reducible repeat (first | refine blk_drewN ?_ _ | refine blk_drew ?_ | refine blk_alloc ?_ _)); exact BK251.out) hb); have n1_ := Aside0.mk (below_step (by repeat (first | (with_reducible first | exact HB.out | apply below_alloc | apply pw_below_drewN | apply below_drew1 | refine below_set ?_ GE251.out) | exact HB.out)) hb); have n2_ := Aside0.mk (hbox); have n3_ := Aside0.mk ((by rw [hg]; exact (below_size (by repeat (first | (with_reducible first | exact HB.out | apply below_alloc | apply pw_below_drewN | apply below_drew1 | refine below_set ?_ GE251.out) | exact HB.out))) : w.heap.size ≤ gb252)); have n4_ := Aside0.mk ((by rw [hg]; exact (below_size (by repeat (first | (with_reducible first | exact HB.out | apply below_alloc | apply pw_below_drewN | apply below_drew1 | refine below_set ?_ GE251.out) | exact HB.out))) : w.heap.size ≤ gb252)); have n5_ := Aside0.mk ((by rw [hg]; exact Nat.ne_of_lt (blk_lt (g := gb251) (o := .cells #[.int .i64 a0_0, .int .i64 a0_1, .int .i64 a0_2] 52 (0, 0)) (by (with_reducible repeat (first | refine blk_drewN ?_ _ | refine blk_drew ?_ | refine blk_alloc ?_ _)); exact BK251.out)) : gb251 ≠ gb252)); have n6_ := Aside0.mk ((by rw [hg]; exact Nat.ne_of_gt (blk_lt (g := gb251) (o := .cells #[.int .i64 a0_0, .int .i64 a0_1, .int .i64 a0_2] 52 (0, 0)) (by (with_reducible repeat (first | refine blk_drewN ?_ _ | refine blk_drew ?_ | refine blk_alloc ?_ _)); exact BK251.out)) : gb252 ≠ gb251)); clear BK251; clear HB; have BK251 := n0_; have HB := n1_; have BK252 := n2_; have GW252 := n3_; have GE252 := n4_; have NB251_252 := n5_; have NB252_251 := n6_; clear n0_ n1_ n2_ n3_ n4_ n5_ n6_; clear hb hbox hg; have hnb6 := NB251_252.out; have hnc6 := NB252_251.out; have hcz7_0 : w5.cell? ⟨gb251, 0, none⟩ = some (.int .i64 a0_0) := (blk_cell BK251.out 0).trans rfl; have hcz7_1 : w5.cell? ⟨gb251, 1, none⟩ = some (.int .i64 a0_1) := (blk_cell BK251.out 1).trans rfl; have hcz7_2 : w5.cell? ⟨gb251, 2, none⟩ = some (.int .i64 a0_2) := (blk_cell BK251.out 2).trans rfl; have hfz7_0 := blk_frozen BK251.out 0; have hfz7_1 := blk_frozen BK251.out 1; have hfz7_2 := blk_frozen BK251.out 2; have hcz8_0 : w5.cell? ⟨gb252, 0, none⟩ = some (.int .i64 0) := (blk_cell BK252.out 0).trans rfl; have hcz8_1 : w5.cell? ⟨gb252, 1, none⟩ = some (.int .i64 0) := (blk_cell BK252.out 1).trans rfl; have hcz8_2 : w5.cell? ⟨gb252, 2, none⟩ = some (.int .i64 0) := (blk_cell BK252.out 2).trans rfl; have hfz8_0 := blk_frozen BK252.out 0; have hfz8_1 := blk_frozen BK252.out 1; have hfz8_2 := blk_frozen BK252.out 2))
    refine bodyPost_ret (results_cell_row rfl _ _ gb252 52 #[.int .i64 a0_1, .int .i64 (wrap64 (5 - a0_0)), .int .i64 a0_2] (0, 0) _ rfl (by (with_reducible repeat (first | refine blk_drewN ?_ _ | refine blk_drew ?_ | refine blk_alloc ?_ _)); refine blk_put (cs := #[.int .i64 a0_1, .int .i64 (wrap64 (5 - a0_0)), .int .i64 0]) ?_ 2 _ rfl; (with_reducible repeat (first | refine blk_drewN ?_ _ | refine blk_drew ?_ | refine blk_alloc ?_ _)); refine blk_put (cs := #[.int .i64 a0_1, .int .i64 0, .int .i64 0]) ?_ 1 _ rfl; (with_reducible repeat (first | refine blk_drewN ?_ _ | refine blk_drew ?_ | refine blk_alloc ?_ _)); refine blk_put (cs := #[.int .i64 0, .int .i64 0, .int .i64 0]) ?_ 0 _ rfl; (with_reducible repeat (first | refine blk_drewN ?_ _ | refine blk_drew ?_ | refine blk_alloc ?_ _)); exact BK252.out) Tryd.underlying52 rfl (by kernel_rfl)) rfl ?_
    exact ⟨by first | rfl | (simp [errW_none, errW_some] <;> rfl) | (simp [*, errW_none, errW_some] <;> rfl), by repeat (first | (with_reducible first | exact HB.out | apply below_alloc | apply pw_below_drewN | apply below_drew1 | refine below_set ?_ GE251.out | refine below_set ?_ GE252.out) | exact HB.out)⟩
  · rw [if_neg c3] at H
    have c3b0 : (a1 == 114) = false := beq_eq_false_iff_ne.mpr c3
    have c3b1 : (a1 != 114) = true := bne_iff_ne.mpr c3
    by_cases c9 : a1 = 100
    · rw [if_pos c9] at H
      have c9b0 : (a1 == 100) = true := beq_iff_eq.mpr c9
      have c9b1 : (a1 != 100) = false := bne_eq_false_iff_eq.mpr c9
      clear c9
      simp only [Option.some.injEq, Prod.mk.injEq] at H
      obtain ⟨rfl, rfl, rfl⟩ := H
      go_enter Tryd.func58, Tryd.ntmps58
      go_wp2_with (first | ((with_reducible refine gate_dst (N := 2) rfl ?_); refine box_event ?hg (N := 2) ?hd (cs := #[.int .i64 a0_0, .int .i64 a0_1, .int .i64 a0_2]) (t := 52) ?hr ?_; (case hd => rfl); (case hg => rfl); (case hr => first | (go_simp; done) | (go_simp; rfl)); intro gb251 hg w10 hbox hb; have n0_ := Aside0.mk (below_step (by repeat (first | (with_reducible first | exact HB.out | apply below_alloc | apply pw_below_drewN | apply below_drew1) | exact HB.out)) hb); have n1_ := Aside0.mk (hbox); have n2_ := Aside0.mk ((by rw [hg]; exact (below_size (by repeat (first | (with_reducible first | exact HB.out | apply below_alloc | apply pw_below_drewN | apply below_drew1) | exact HB.out))) : w.heap.size ≤ gb251)); have n3_ := Aside0.mk ((by rw [hg]; exact (below_size (by repeat (first | (with_reducible first | exact HB.out | apply below_alloc | apply pw_below_drewN | apply below_drew1) | exact HB.out))) : w.heap.size ≤ gb251)); clear HB; have HB := n0_; have BK251 := n1_; have GW251 := n2_; have GE251 := n3_; clear n0_ n1_ n2_ n3_; clear hb hbox hg) | ((with_reducible refine gate_dst (N := 4) rfl ?_); refine box_event ?hg (N := 4) ?hd (cs := #[.int .i64 0, .int .i64 0, .int .i64 0]) (t := 52) ?hr ?_; (case hd => rfl); (case hg => rfl); (case hr => first | (go_simp; done) | (go_simp; rfl)); intro gb252 hg w11 hbox hb; have n0_ := Aside0.mk (blk_below (g := gb251) (o := .cells #[.int .i64 a0_0, .int .i64 a0_1, .int .i64 a0_2] 52 (0, 0)) (by (with_reducible repeat (first | refine blk_drewN ?_ _ | refine blk_drew ?_ | refine blk_alloc ?_ _)); exact BK251.out) hb); have n1_ := Aside0.mk (below_step (by repeat (first | (with_reducible first | exact HB.out | apply below_alloc | apply pw_below_drewN | apply below_drew1 | refine below_set ?_ GE251.out) | exact HB.out)) hb); have n2_ := Aside0.mk (hbox); have n3_ := Aside0.mk ((by rw [hg]; exact (below_size (by repeat (first | (with_reducible first | exact HB.out | apply below_alloc | apply pw_below_drewN | apply below_drew1 | refine below_set ?_ GE251.out) | exact HB.out))) : w.heap.size ≤ gb252)); have n4_ := Aside0.mk ((by rw [hg]; exact (below_size (by repeat (first | (with_reducible first | exact HB.out | apply below_alloc | apply pw_below_drewN | apply below_drew1 | refine below_set ?_ GE251.out) | exact HB.out))) : w.heap.size ≤ gb252)); have n5_ := Aside0.mk ((by rw [hg]; exact Nat.ne_of_lt (blk_lt (g := gb251) (o := .cells #[.int .i64 a0_0, .int .i64 a0_1, .int .i64 a0_2] 52 (0, 0)) (by (with_reducible repeat (first | refine blk_drewN ?_ _ | refine blk_drew ?_ | refine blk_alloc ?_ _)); exact BK251.out)) : gb251 ≠ gb252)); have n6_ := Aside0.mk ((by rw [hg]; exact Nat.ne_of_gt (blk_lt (g := gb251) (o := .cells #[.int .i64 a0_0, .int .i64 a0_1, .int .i64 a0_2] 52 (0, 0)) (by (with_reducible repeat (first | refine blk_drewN ?_ _ | refine blk_drew ?_ | refine blk_alloc ?_ _)); exact BK251.out)) : gb252 ≠ gb251)); clear BK251; clear HB; have BK251 := n0_; have HB := n1_; have BK252 := n2_; have GW252 := n3_; have GE252 := n4_; have NB251_252 := n5_; have NB252_251 := n6_; clear n0_ n1_ n2_ n3_ n4_ n5_ n6_; clear hb hbox hg; have hnb12 := NB251_252.out; have hnc12 := NB252_251.out; have hcz13_0 : w11.cell? ⟨gb251, 0, none⟩ = some (.int .i64 a0_0) := (blk_cell BK251.out 0).trans rfl; have hcz13_1 : w11.cell? ⟨gb251, 1, none⟩ = some (.int .i64 a0_1) := (blk_cell BK251.out 1).trans rfl; have hcz13_2 : w11.cell? ⟨gb251, 2, none⟩ = some (.int .i64 a0_2) := (blk_cell BK251.out 2).trans rfl; have hfz13_0 := blk_frozen BK251.out 0; have hfz13_1 := blk_frozen BK251.out 1; have hfz13_2 := blk_frozen BK251.out 2; have hcz14_0 : w11.cell? ⟨gb252, 0, none⟩ = some (.int .i64 0) := (blk_cell BK252.out 0).trans rfl; have hcz14_1 : w11.cell? ⟨gb252, 1, none⟩ = some (.int .i64 0) := (blk_cell BK252.out 1).trans rfl; have hcz14_2 : w11.cell? ⟨gb252, 2, none⟩ = some (.int .i64 0) := (blk_cell BK252.out 2).trans rfl; have hfz14_0 := blk_frozen BK252.out 0; have hfz14_1 := blk_frozen BK252.out 1; have hfz14_2 := blk_frozen BK252.out 2))
      refine bodyPost_ret (results_cell_row rfl _ _ gb252 52 #[.int .i64 a0_2, .int .i64 a0_1, .int .i64 (wrap64 (5 - a0_0))] (0, 0) _ rfl (by (with_reducible repeat (first | refine blk_drewN ?_ _ | refine blk_drew ?_ | refine blk_alloc ?_ _)); refine blk_put (cs := #[.int .i64 a0_2, .int .i64 a0_1, .int .i64 0]) ?_ 2 _ rfl; (with_reducible repeat (first | refine blk_drewN ?_ _ | refine blk_drew ?_ | refine blk_alloc ?_ _)); refine blk_put (cs := #[.int .i64 a0_2, .int .i64 0, .int .i64 0]) ?_ 1 _ rfl; (with_reducible repeat (first | refine blk_drewN ?_ _ | refine blk_drew ?_ | refine blk_alloc ?_ _)); refine blk_put (cs := #[.int .i64 0, .int .i64 0, .int .i64 0]) ?_ 0 _ rfl; (with_reducible repeat (first | refine blk_drewN ?_ _ | refine blk_drew ?_ | refine blk_alloc ?_ _)); exact BK252.out) Tryd.underlying52 rfl (by kernel_rfl)) rfl ?_
      exact ⟨by first | rfl | (simp [errW_none, errW_some] <;> rfl) | (simp [*, errW_none, errW_some] <;> rfl), by repeat (first | (with_reducible first | exact HB.out | apply below_alloc | apply pw_below_drewN | apply below_drew1 | refine below_set ?_ GE251.out | refine below_set ?_ GE252.out) | exact HB.out)⟩
    · rw [if_neg c9] at H
      have c9b0 : (a1 == 100) = false := beq_eq_false_iff_ne.mpr c9
      have c9b1 : (a1 != 100) = true := bne_iff_ne.mpr c9
      by_cases c15 : a1 = 108
      · rw [if_pos c15] at H
        have c15b0 : (a1 == 108) = true := beq_iff_eq.mpr c15
        have c15b1 : (a1 != 108) = false := bne_eq_false_iff_eq.mpr c15
        clear c15
        simp only [Option.some.injEq, Prod.mk.injEq] at H
        obtain ⟨rfl, rfl, rfl⟩ := H
        go_enter Tryd.func58, Tryd.ntmps58
        go_wp2_with (first | ((with_reducible refine gate_dst (N := 2) rfl ?_); refine box_event ?hg (N := 2) ?hd (cs := #[.int .i64 a0_0, .int .i64 a0_1, .int .i64 a0_2]) (t := 52) ?hr ?_; (case hd => rfl); (case hg => rfl); (case hr => first | (go_simp; done) | (go_simp; rfl)); intro gb251 hg w16 hbox hb; have n0_ := Aside0.mk (below_step (by repeat (first | (with_reducible first | exact HB.out | apply below_alloc | apply pw_below_drewN | apply below_drew1) | exact HB.out)) hb); have n1_ := Aside0.mk (hbox); have n2_ := Aside0.mk ((by rw [hg]; exact (below_size (by repeat (first | (with_reducible first | exact HB.out | apply below_alloc | apply pw_below_drewN | apply below_drew1) | exact HB.out))) : w.heap.size ≤ gb251)); have n3_ := Aside0.mk ((by rw [hg]; exact (below_size (by repeat (first | (with_reducible first | exact HB.out | apply below_alloc | apply pw_below_drewN | apply below_drew1) | exact HB.out))) : w.heap.size ≤ gb251)); clear HB; have HB := n0_; have BK251 := n1_; have GW251 := n2_; have GE251 := n3_; clear n0_ n1_ n2_ n3_; clear hb hbox hg) | ((with_reducible refine gate_dst (N := 4) rfl ?_); refine box_event ?hg (N := 4) ?hd (cs := #[.int .i64 0, .int .i64 0, .int .i64 0]) (t := 52) ?hr ?_; (case hd => rfl); (case hg => rfl); (case hr => first | (go_simp; done) | (go_simp; rfl)); intro gb252 hg w17 hbox hb; have n0_ := Aside0.mk (blk_below (g := gb251) (o := .cells #[.int .i64 a0_0, .int .i64 a0_1, .int .i64 a0_2] 52 (0, 0)) (by (with_reducible repeat (first | refine blk_drewN ?_ _ | refine blk_drew ?_ | refine blk_alloc ?_ _)); exact BK251.out) hb); have n1_ := Aside0.mk (below_step (by repeat (first | (with_reducible first | exact HB.out | apply below_alloc | apply pw_below_drewN | apply below_drew1 | refine below_set ?_ GE251.out) | exact HB.out)) hb); have n2_ := Aside0.mk (hbox); have n3_ := Aside0.mk ((by rw [hg]; exact (below_size (by repeat (first | (with_reducible first | exact HB.out | apply below_alloc | apply pw_below_drewN | apply below_drew1 | refine below_set ?_ GE251.out) | exact HB.out))) : w.heap.size ≤ gb252)); have n4_ := Aside0.mk ((by rw [hg]; exact (below_size (by repeat (first | (with_reducible first | exact HB.out | apply below_alloc | apply pw_below_drewN | apply below_drew1 | refine below_set ?_ GE251.out) | exact HB.out))) : w.heap.size ≤ gb252)); have n5_ := Aside0.mk ((by rw [hg]; exact Nat.ne_of_lt (blk_lt (g := gb251) (o := .cells #[.int .i64 a0_0, .int .i64 a0_1, .int .i64 a0_2] 52 (0, 0)) (by (with_reducible repeat (first | refine blk_drewN ?_ _ | refine blk_drew ?_ | refine blk_alloc ?_ _)); exact BK251.out)) : gb251 ≠ gb252)); have n6_ := Aside0.mk ((by rw [hg]; exact Nat.ne_of_gt (blk_lt (g := gb251) (o := .cells #[.int .i64 a0_0, .int .i64 a0_1, .int .i64 a0_2] 52 (0, 0)) (by (with_reducible repeat (first | refine blk_drewN ?_ _ | refine blk_drew ?_ | refine blk_alloc ?_ _)); exact BK251.out)) : gb252 ≠ gb251)); clear BK251; clear HB; have BK251 := n0_; have HB := n1_; have BK252 := n2_; have GW252 := n3_; have GE252 := n4_; have NB251_252 := n5_; have NB252_251 := n6_; clear n0_ n1_ n2_ n3_ n4_ n5_ n6_; clear hb hbox hg; have hnb18 := NB251_252.out; have hnc18 := NB252_251.out; have hcz19_0 : w17.cell? ⟨gb251, 0, none⟩ = some (.int .i64 a0_0) := (blk_cell BK251.out 0).trans rfl; have hcz19_1 : w17.cell? ⟨gb251, 1, none⟩ = some (.int .i64 a0_1) := (blk_cell BK251.out 1).trans rfl; have hcz19_2 : w17.cell? ⟨gb251, 2, none⟩ = some (.int .i64 a0_2) := (blk_cell BK251.out 2).trans rfl; have hfz19_0 := blk_frozen BK251.out 0; have hfz19_1 := blk_frozen BK251.out 1; have hfz19_2 := blk_frozen BK251.out 2; have hcz20_0 : w17.cell? ⟨gb252, 0, none⟩ = some (.int .i64 0) := (blk_cell BK252.out 0).trans rfl; have hcz20_1 : w17.cell? ⟨gb252, 1, none⟩ = some (.int .i64 0) := (blk_cell BK252.out 1).trans rfl; have hcz20_2 : w17.cell? ⟨gb252, 2, none⟩ = some (.int .i64 0) := (blk_cell BK252.out 2).trans rfl; have hfz20_0 := blk_frozen BK252.out 0; have hfz20_1 := blk_frozen BK252.out 1; have hfz20_2 := blk_frozen BK252.out 2))
        refine bodyPost_ret (results_cell_row rfl _ _ gb252 52 #[.int .i64 (wrap64 (5 - a0_1)), .int .i64 a0_0, .int .i64 a0_2] (0, 0) _ rfl (by (with_reducible repeat (first | refine blk_drewN ?_ _ | refine blk_drew ?_ | refine blk_alloc ?_ _)); refine blk_put (cs := #[.int .i64 (wrap64 (5 - a0_1)), .int .i64 a0_0, .int .i64 0]) ?_ 2 _ rfl; (with_reducible repeat (first | refine blk_drewN ?_ _ | refine blk_drew ?_ | refine blk_alloc ?_ _)); refine blk_put (cs := #[.int .i64 (wrap64 (5 - a0_1)), .int .i64 0, .int .i64 0]) ?_ 1 _ rfl; (with_reducible repeat (first | refine blk_drewN ?_ _ | refine blk_drew ?_ | refine blk_alloc ?_ _)); refine blk_put (cs := #[.int .i64 0, .int .i64 0, .int .i64 0]) ?_ 0 _ rfl; (with_reducible repeat (first | refine blk_drewN ?_ _ | refine blk_drew ?_ | refine blk_alloc ?_ _)); exact BK252.out) Tryd.underlying52 rfl (by kernel_rfl)) rfl ?_
        exact ⟨by first | rfl | (simp [errW_none, errW_some] <;> rfl) | (simp [*, errW_none, errW_some] <;> rfl), by repeat (first | (with_reducible first | exact HB.out | apply below_alloc | apply pw_below_drewN | apply below_drew1 | refine below_set ?_ GE251.out | refine below_set ?_ GE252.out) | exact HB.out)⟩
      · rw [if_neg c15] at H
        have c15b0 : (a1 == 108) = false := beq_eq_false_iff_ne.mpr c15
        have c15b1 : (a1 != 108) = true := bne_iff_ne.mpr c15
        simp only [Option.some.injEq, Prod.mk.injEq] at H
        obtain ⟨rfl, rfl, rfl⟩ := H
        go_enter Tryd.func58, Tryd.ntmps58
        go_wp2_with (first | ((with_reducible refine gate_dst (N := 2) rfl ?_); refine box_event ?hg (N := 2) ?hd (cs := #[.int .i64 a0_0, .int .i64 a0_1, .int .i64 a0_2]) (t := 52) ?hr ?_; (case hd => rfl); (case hg => rfl); (case hr => first | (go_simp; done) | (go_simp; rfl)); intro gb251 hg w21 hbox hb; have n0_ := Aside0.mk (below_step (by repeat (first | (with_reducible first | exact HB.out | apply below_alloc | apply pw_below_drewN | apply below_drew1) | exact HB.out)) hb); have n1_ := Aside0.mk (hbox); have n2_ := Aside0.mk ((by rw [hg]; exact (below_size (by repeat (first | (with_reducible first | exact HB.out | apply below_alloc | apply pw_below_drewN | apply below_drew1) | exact HB.out))) : w.heap.size ≤ gb251)); have n3_ := Aside0.mk ((by rw [hg]; exact (below_size (by repeat (first | (with_reducible first | exact HB.out | apply below_alloc | apply pw_below_drewN | apply below_drew1) | exact HB.out))) : w.heap.size ≤ gb251)); clear HB; have HB := n0_; have BK251 := n1_; have GW251 := n2_; have GE251 := n3_; clear n0_ n1_ n2_ n3_; clear hb hbox hg) | ((with_reducible refine gate_dst (N := 4) rfl ?_); refine box_event ?hg (N := 4) ?hd (cs := #[.int .i64 0, .int .i64 0, .int .i64 0]) (t := 52) ?hr ?_; (case hd => rfl); (case hg => rfl); (case hr => first | (go_simp; done) | (go_simp; rfl)); intro gb252 hg w22 hbox hb; have n0_ := Aside0.mk (blk_below (g := gb251) (o := .cells #[.int .i64 a0_0, .int .i64 a0_1, .int .i64 a0_2] 52 (0, 0)) (by (with_reducible repeat (first | refine blk_drewN ?_ _ | refine blk_drew ?_ | refine blk_alloc ?_ _)); exact BK251.out) hb); have n1_ := Aside0.mk (below_step (by repeat (first | (with_reducible first | exact HB.out | apply below_alloc | apply pw_below_drewN | apply below_drew1 | refine below_set ?_ GE251.out) | exact HB.out)) hb); have n2_ := Aside0.mk (hbox); have n3_ := Aside0.mk ((by rw [hg]; exact (below_size (by repeat (first | (with_reducible first | exact HB.out | apply below_alloc | apply pw_below_drewN | apply below_drew1 | refine below_set ?_ GE251.out) | exact HB.out))) : w.heap.size ≤ gb252)); have n4_ := Aside0.mk ((by rw [hg]; exact (below_size (by repeat (first | (with_reducible first | exact HB.out | apply below_alloc | apply pw_below_drewN | apply below_drew1 | refine below_set ?_ GE251.out) | exact HB.out))) : w.heap.size ≤ gb252)); have n5_ := Aside0.mk ((by rw [hg]; exact Nat.ne_of_lt (blk_lt (g := gb251) (o := .cells #[.int .i64 a0_0, .int .i64 a0_1, .int .i64 a0_2] 52 (0, 0)) (by (with_reducible repeat (first | refine blk_drewN ?_ _ | refine blk_drew ?_ | refine blk_alloc ?_ _)); exact BK251.out)) : gb251 ≠ gb252)); have n6_ := Aside0.mk ((by rw [hg]; exact Nat.ne_of_gt (blk_lt (g := gb251) (o := .cells #[.int .i64 a0_0, .int .i64 a0_1, .int .i64 a0_2] 52 (0, 0)) (by (with_reducible repeat (first | refine blk_drewN ?_ _ | refine blk_drew ?_ | refine blk_alloc ?_ _)); exact BK251.out)) : gb252 ≠ gb251)); clear BK251; clear HB; have BK251 := n0_; have HB := n1_; have BK252 := n2_; have GW252 := n3_; have GE252 := n4_; have NB251_252 := n5_; have NB252_251 := n6_; clear n0_ n1_ n2_ n3_ n4_ n5_ n6_; clear hb hbox hg; have hnb23 := NB251_252.out; have hnc23 := NB252_251.out; have hcz24_0 : w22.cell? ⟨gb251, 0, none⟩ = some (.int .i64 a0_0) := (blk_cell BK251.out 0).trans rfl; have hcz24_1 : w22.cell? ⟨gb251, 1, none⟩ = some (.int .i64 a0_1) := (blk_cell BK251.out 1).trans rfl; have hcz24_2 : w22.cell? ⟨gb251, 2, none⟩ = some (.int .i64 a0_2) := (blk_cell BK251.out 2).trans rfl; have hfz24_0 := blk_frozen BK251.out 0; have hfz24_1 := blk_frozen BK251.out 1; have hfz24_2 := blk_frozen BK251.out 2; have hcz25_0 : w22.cell? ⟨gb252, 0, none⟩ = some (.int .i64 0) := (blk_cell BK252.out 0).trans rfl; have hcz25_1 : w22.cell? ⟨gb252, 1, none⟩ = some (.int .i64 0) := (blk_cell BK252.out 1).trans rfl; have hcz25_2 : w22.cell? ⟨gb252, 2, none⟩ = some (.int .i64 0) := (blk_cell BK252.out 2).trans rfl; have hfz25_0 := blk_frozen BK252.out 0; have hfz25_1 := blk_frozen BK252.out 1; have hfz25_2 := blk_frozen BK252.out 2))
        refine bodyPost_ret (results_cell_row rfl _ _ gb252 52 #[.int .i64 (wrap64 (5 - a0_2)), .int .i64 a0_1, .int .i64 a0_0] (0, 0) _ rfl (by (with_reducible repeat (first | refine blk_drewN ?_ _ | refine blk_drew ?_ | refine blk_alloc ?_ _)); refine blk_put (cs := #[.int .i64 (wrap64 (5 - a0_2)), .int .i64 a0_1, .int .i64 0]) ?_ 2 _ rfl; (with_reducible repeat (first | refine blk_drewN ?_ _ | refine blk_drew ?_ | refine blk_alloc ?_ _)); refine blk_put (cs := #[.int .i64 (wrap64 (5 - a0_2)), .int .i64 0, .int .i64 0]) ?_ 1 _ rfl; (with_reducible repeat (first | refine blk_drewN ?_ _ | refine blk_drew ?_ | refine blk_alloc ?_ _)); refine blk_put (cs := #[.int .i64 0, .int .i64 0, .int .i64 0]) ?_ 0 _ rfl; (with_reducible repeat (first | refine blk_drewN ?_ _ | refine blk_drew ?_ | refine blk_alloc ?_ _)); exact BK252.out) Tryd.underlying52 rfl (by kernel_rfl)) rfl ?_
        exact ⟨by first | rfl | (simp [errW_none, errW_some] <;> rfl) | (simp [*, errW_none, errW_some] <;> rfl), by repeat (first | (with_reducible first | exact HB.out | apply below_alloc | apply pw_below_drewN | apply below_drew1 | refine below_set ?_ GE251.out | refine below_set ?_ GE252.out) | exact HB.out)⟩

/-! ### impl_edges: function 68 -/
-- IMPORT Derived.Deep.WholeRow
/-- The four edges: what a letter adds, and the cells to the right and to the left. -/
def edgesV : Array Value := #[.int .i64 1, .int .i64 0, .int .i64 0, .int .i64 0, .int .i64 0, .int .i64 (-1), .int .i64 0, .int .i64 1, .int .i64 (-1), .int .i64 0, .int .i64 0, .int .i64 0, .int .i64 (-1), .int .i64 0, .int .i64 (-1), .int .i64 (-1), .int .i64 (-1), .int .i64 0, .int .i64 0, .int .i64 (-1), .int .i64 0, .int .i64 (-1), .int .i64 (-1), .int .i64 (-1)]
theorem store_run {P : Program} {a : Act} {o : Oper} {t : TypeId} {p v : Operand} {W w1 : World} (ho : o.op = .store t p v) (pv vv : Value) (h1 : a.eval p = pv) (h2 : a.eval v = vv) (h : (Instr.storeAt t pv vv).run P W = .ok () w1) :
    (execOp a.eval o).run P W = .ok .skip w1 := by simp [execOp, ho, h1, h2, h, Result.andThen]
theorem edgesStore (w : World) (Z : Array Value) (hZ : Z.size = 24) : (Instr.storeAt 84 (.pointer (some ⟨w.heap.size, 0, none⟩)) (.agg edgesV)).run Tryd.prog (w.alloc (.cells Z 84)) = .ok () (w.alloc (.cells edgesV 84)) :=
  run_storeAt_new w _ Z edgesV (by kernel_rfl) hZ (by kernel_rfl)
theorem edgesLoad (w : World) : (Instr.loadAt 84 (.pointer (some ⟨w.heap.size, 0, none⟩))).run Tryd.prog (w.alloc (.cells edgesV 84)) = .ok (.agg edgesV) (w.alloc (.cells edgesV 84)) :=
  run_loadAt_new w _ edgesV 4 83 Tryd.underlying84 (by kernel_rfl)
set_option maxRecDepth 100000 in
theorem impl_edges.calls (w : World) : Calls Tryd.prog 68 #[] w fun e w' => e = .returned (.agg edgesV) ∧ Below w.heap.size w w' := by
  go_enter Tryd.func68, Tryd.ntmps68
  go_wp2_with (first | ((with_reducible refine gate_store (t := 84) (p := 0) rfl ?_); refine store_event (t := 84) (p := 0) (v := ?vo_) (w1 := (w.alloc (.cells edgesV 84))) ?hg ?ho ?hn ?hr ?_; (case ho => rfl); (case hg => rfl); (case hn => rfl); (case hr => exact store_run rfl _ _ rfl rfl (edgesStore w _ rfl)); intro w2 hw; subst hw))
  refine bodyPost_ret (results_cell_row rfl _ _ w.heap.size 84 edgesV (0, 0) _ rfl (heap_alloc_new w _) Tryd.underlying84 rfl (by kernel_rfl)) rfl ?_
  exact ⟨rfl, below_alloc (Below.refl _ _) _⟩
def edgeSX (e : Int) : Int := if e = 0 then 1 else if e = 2 then -1 else 0
def edgeSY (e : Int) : Int := if e = 1 then 1 else if e = 3 then -1 else 0
def edgeRX (e : Int) : Int := if e = 1 then -1 else if e = 2 then -1 else 0
def edgeRY (e : Int) : Int := if e = 2 then -1 else if e = 3 then -1 else 0
def edgeLX (e : Int) : Int := if e = 2 then -1 else if e = 3 then -1 else 0
def edgeLY (e : Int) : Int := if e = 0 then -1 else if e = 3 then -1 else 0
theorem edges_at (e : Int) (h0 : 0 ≤ e) (h4 : e < 4) (W : World) : (Instr.index 84 (.agg edgesV) (.int .i64 e)).run Tryd.prog W = .ok (.agg #[.int .i64 (edgeSX e), .int .i64 (edgeSY e), .int .i64 (edgeRX e), .int .i64 (edgeRY e), .int .i64 (edgeLX e), .int .i64 (edgeLY e)]) W := by
  rcases (by omega : e = 0 ∨ e = 1 ∨ e = 2 ∨ e = 3) with rfl | rfl | rfl | rfl <;> kernel_rfl


/-! ### impl_plus: function 69 -/
def impl_plus.f (a0_0 : Int) (a0_1 : Int) (a1_0 : Int) (a1_1 : Int) : Option (Int × Int) := some (wrap64 (a0_0 + a1_0), wrap64 (a0_1 + a1_1))
set_option maxHeartbeats 8000000 in
set_option maxRecDepth 100000 in
theorem impl_plus.calls (a0_0 : Int) (a0_1 : Int) (a1_0 : Int) (a1_1 : Int) (r1 : Int) (r2 : Int) (w : World) (h : impl_plus.f a0_0 a0_1 a1_0 a1_1 = some (r1, r2)) :
    Calls Tryd.prog 69 #[.agg #[.int .i64 a0_0, .int .i64 a0_1], .agg #[.int .i64 a1_0, .int .i64 a1_1]] w fun e w' => e = .returned (.agg #[.int .i64 r1, .int .i64 r2]) ∧ Below w.heap.size w w' := by
  have hu57 := Tryd.underlying57
  have HB := Aside0.mk (Below.refl w.heap.size w)
  have H : (some (wrap64 (a0_0 + a1_0), wrap64 (a0_1 + a1_1))) = some (r1, r2) := h
  clear h
  simp only [Option.some.injEq, Prod.mk.injEq] at H
  obtain ⟨rfl, rfl⟩ := H
  go_enter Tryd.func69, Tryd.ntmps69
  go_wp2_with (first | ((with_reducible refine gate_dst (N := 2) rfl ?_); refine box_event ?hg (N := 2) ?hd (cs := #[.int .i64 a0_0, .int .i64 a0_1]) (t := 57) ?hr ?_; (case hd => rfl); (case hg => rfl); (case hr => first | (go_simp; done) | (go_simp; rfl)); intro gb253 hg w3 hbox hb; have n0_ := Aside0.mk (below_step (by repeat (first | (with_reducible first | exact HB.out | apply below_alloc | apply pw_below_drewN | apply below_drew1) | exact HB.out)) hb); have n1_ := Aside0.mk (hbox); have n2_ := Aside0.mk ((by rw [hg]; exact (below_size (by repeat (first | (with_reducible first | exact HB.out | apply below_alloc | apply pw_below_drewN | apply below_drew1) | exact HB.out))) : w.heap.size ≤ gb253)); have n3_ := Aside0.mk ((by rw [hg]; exact (below_size (by repeat (first | (with_reducible first | exact HB.out | apply below_alloc | apply pw_below_drewN | apply below_drew1) | exact HB.out))) : w.heap.size ≤ gb253)); clear HB; have HB := n0_; have BK253 := n1_; have GW253 := n2_; have GE253 := n3_; clear n0_ n1_ n2_ n3_; clear hb hbox hg) | ((with_reducible refine gate_dst (N := 3) rfl ?_); refine box_event ?hg (N := 3) ?hd (cs := #[.int .i64 a1_0, .int .i64 a1_1]) (t := 57) ?hr ?_; (case hd => rfl); (case hg => rfl); (case hr => first | (go_simp; done) | (go_simp; rfl)); intro gb254 hg w4 hbox hb; have n0_ := Aside0.mk (blk_below (g := gb253) (o := .cells #[.int .i64 a0_0, .int .i64 a0_1] 57 (0, 0)) (by (with_reducible repeat (first | refine blk_drewN ?_ _ | refine blk_drew ?_ | refine blk_alloc ?_ _)); exact BK253.out) hb); have n1_ := Aside0.mk (below_step (by repeat (first | (with_reducible first | exact HB.out | apply below_alloc | apply pw_below_drewN | apply below_drew1 | refine below_set ?_ GE253.out) | exact HB.out)) hb); have n2_ := Aside0.mk (hbox); have n3_ := Aside0.mk ((by rw [hg]; exact (below_size (by repeat (first | (with_reducible first | exact HB.out | apply below_alloc | apply pw_below_drewN | apply below_drew1 | refine below_set ?_ GE253.out) | exact HB.out))) : w.heap.size ≤ gb254)); have n4_ := Aside0.mk ((by rw [hg]; exact (below_size (by repeat (first | (with_reducible first | exact HB.out | apply below_alloc | apply pw_below_drewN | apply below_drew1 | refine below_set ?_ GE253.out) | exact HB.out))) : w.heap.size ≤ gb254)); have n5_ := Aside0.mk ((by rw [hg]; exact Nat.ne_of_lt (blk_lt (g := gb253) (o := .cells #[.int .i64 a0_0, .int .i64 a0_1] 57 (0, 0)) (by (with_reducible repeat (first | refine blk_drewN ?_ _ | refine blk_drew ?_ | refine blk_alloc ?_ _)); exact BK253.out)) : gb253 ≠ gb254)); have n6_ := Aside0.mk ((by rw [hg]; exact Nat.ne_of_gt (blk_lt (g := gb253) (o := .cells #[.int .i64 a0_0, .int .i64 a0_1] 57 (0, 0)) (by (with_reducible repeat (first | refine blk_drewN ?_ _ | refine blk_drew ?_ | refine blk_alloc ?_ _)); exact BK253.out)) : gb254 ≠ gb253)); clear BK253; clear HB; have BK253 := n0_; have HB := n1_; have BK254 := n2_; have GW254 := n3_; have GE254 := n4_; have NB253_254 := n5_; have NB254_253 := n6_; clear n0_ n1_ n2_ n3_ n4_ n5_ n6_; clear hb hbox hg) | ((with_reducible refine gate_dst (N := 4) rfl ?_); refine box_event ?hg (N := 4) ?hd (cs := #[.int .i64 0, .int .i64 0]) (t := 57) ?hr ?_; (case hd => rfl); (case hg => rfl); (case hr => first | (go_simp; done) | (go_simp; rfl)); intro gb255 hg w5 hbox hb; have n0_ := Aside0.mk (blk_below (g := gb253) (o := .cells #[.int .i64 a0_0, .int .i64 a0_1] 57 (0, 0)) (by (with_reducible repeat (first | refine blk_drewN ?_ _ | refine blk_drew ?_ | refine blk_alloc ?_ _)); exact BK253.out) hb); have n1_ := Aside0.mk (blk_below (g := gb254) (o := .cells #[.int .i64 a1_0, .int .i64 a1_1] 57 (0, 0)) (by (with_reducible repeat (first | refine blk_drewN ?_ _ | refine blk_drew ?_ | refine blk_alloc ?_ _)); exact BK254.out) hb); have n2_ := Aside0.mk (below_step (by repeat (first | (with_reducible first | exact HB.out | apply below_alloc | apply pw_below_drewN | apply below_drew1 | refine below_set ?_ GE253.out | refine below_set ?_ GE254.out) | exact HB.out)) hb); have n3_ := Aside0.mk (hbox); have n4_ := Aside0.mk ((by rw [hg]; exact (below_size (by repeat (first | (with_reducible first | exact HB.out | apply below_alloc | apply pw_below_drewN | apply below_drew1 | refine below_set ?_ GE253.out | refine below_set ?_ GE254.out) | exact HB.out))) : w.heap.size ≤ gb255)); have n5_ := Aside0.mk ((by rw [hg]; exact (below_size (by repeat (first | (with_reducible first | exact HB.out | apply below_alloc | apply pw_below_drewN | apply below_drew1 | refine below_set ?_ GE253.out | refine below_set ?_ GE254.out) | exact HB.out))) : w.heap.size ≤ gb255)); have n6_ := Aside0.mk ((by rw [hg]; exact Nat.ne_of_lt (blk_lt (g := gb253) (o := .cells #[.int .i64 a0_0, .int .i64 a0_1] 57 (0, 0)) (by (with_reducible repeat (first | refine blk_drewN ?_ _ | refine blk_drew ?_ | refine blk_alloc ?_ _)); exact BK253.out)) : gb253 ≠ gb255)); have n7_ := Aside0.mk ((by rw [hg]; exact Nat.ne_of_gt (blk_lt (g := gb253) (o := .cells #[.int .i64 a0_0, .int .i64 a0_1] 57 (0, 0)) (by (with_reducible repeat (first | refine blk_drewN ?_ _ | refine blk_drew ?_ | refine blk_alloc ?_ _)); exact BK253.out)) : gb255 ≠ gb253)); have n8_ := Aside0.mk ((by rw [hg]; exact Nat.ne_of_lt (blk_lt (g := gb254) (o := .cells #[.int .i64 a1_0, .int .i64 a1_1] 57 (0, 0)) (by (with_reducible repeat (first | refine blk_drewN ?_ _ | refine blk_drew ?_ | refine blk_alloc ?_ _)); exact BK254.out)) : gb254 ≠ gb255)); have n9_ := Aside0.mk ((by rw [hg]; exact Nat.ne_of_gt (blk_lt (g := gb254) (o := .cells #[.int .i64 a1_0, .int .i64 a1_1] 57 (0, 0)) (by (with_reducible repeat (first | refine blk_drewN ?_ _ | refine blk_drew ?_ | refine blk_alloc ?_ _)); exact BK254.out)) : gb255 ≠ gb254)); clear BK253; clear BK254; clear HB; have BK253 := n0_; have BK254 := n1_; have HB := n2_; have BK255 := n3_; have GW255 := n4_; have GE255 := n5_; have NB253_255 := n6_; have NB255_253 := n7_; have NB254_255 := n8_; have NB255_254 := n9_; clear n0_ n1_ n2_ n3_ n4_ n5_ n6_ n7_ n8_ n9_; clear hb hbox hg; have hnb6 := NB253_254.out; have hnc6 := NB254_253.out; have hnb7 := NB253_255.out; have hnc7 := NB255_253.out; have hcz8_0 : w5.cell? ⟨gb253, 0, none⟩ = some (.int .i64 a0_0) := (blk_cell BK253.out 0).trans rfl; have hcz8_1 : w5.cell? ⟨gb253, 1, none⟩ = some (.int .i64 a0_1) := (blk_cell BK253.out 1).trans rfl; have hfz8_0 := blk_frozen BK253.out 0; have hfz8_1 := blk_frozen BK253.out 1; have hnb9 := NB254_255.out; have hnc9 := NB255_254.out; have hcz10_0 : w5.cell? ⟨gb254, 0, none⟩ = some (.int .i64 a1_0) := (blk_cell BK254.out 0).trans rfl; have hcz10_1 : w5.cell? ⟨gb254, 1, none⟩ = some (.int .i64 a1_1) := (blk_cell BK254.out 1).trans rfl; have hfz10_0 := blk_frozen BK254.out 0; have hfz10_1 := blk_frozen BK254.out 1; have hcz11_0 : w5.cell? ⟨gb255, 0, none⟩ = some (.int .i64 0) := (blk_cell BK255.out 0).trans rfl; have hcz11_1 : w5.cell? ⟨gb255, 1, none⟩ = some (.int .i64 0) := (blk_cell BK255.out 1).trans rfl; have hfz11_0 := blk_frozen BK255.out 0; have hfz11_1 := blk_frozen BK255.out 1))
  refine bodyPost_ret (results_cell_row rfl _ _ gb255 57 #[.int .i64 (wrap64 (a0_0 + a1_0)), .int .i64 (wrap64 (a0_1 + a1_1))] (0, 0) _ rfl (by (with_reducible repeat (first | refine blk_drewN ?_ _ | refine blk_drew ?_ | refine blk_alloc ?_ _)); refine blk_put (cs := #[.int .i64 (wrap64 (a0_0 + a1_0)), .int .i64 0]) ?_ 1 _ rfl; (with_reducible repeat (first | refine blk_drewN ?_ _ | refine blk_drew ?_ | refine blk_alloc ?_ _)); refine blk_put (cs := #[.int .i64 0, .int .i64 0]) ?_ 0 _ rfl; (with_reducible repeat (first | refine blk_drewN ?_ _ | refine blk_drew ?_ | refine blk_alloc ?_ _)); exact BK255.out) Tryd.underlying57 rfl (by kernel_rfl)) rfl ?_
  exact ⟨by first | rfl | (simp [errW_none, errW_some] <;> rfl) | (simp [*, errW_none, errW_some] <;> rfl), by repeat (first | (with_reducible first | exact HB.out | apply below_alloc | apply pw_below_drewN | apply below_drew1 | refine below_set ?_ GE253.out | refine below_set ?_ GE254.out | refine below_set ?_ GE255.out) | exact HB.out)⟩

/-! ### slices_Index_impl_Cell_impl_Cell: function 90 -/
def slices_Index_impl_Cell_impl_Cell.l0 : Nat → List (S57) → Int → Int → Int → Int → Option (Int)
  | 0, _, _, _, _, _ => none
  | k + 1, x0, x7, x8, x257000, x257001 => if x8 < x7 then (if 0 ≤ x8 then (if x8 < (x0.length : Int) then (if (x257000 == ((rd_T57 x0 x8).f0) && (x257001 == ((rd_T57 x0 x8).f1))) = true then (some x8) else (slices_Index_impl_Cell_impl_Cell.l0 k x0 x7 (wrap64 (x8 + 1)) x257000 x257001)) else (none)) else (none)) else (some (-1))
def slices_Index_impl_Cell_impl_Cell.f (k : Nat) (l0 : List (S57)) (a1_0 : Int) (a1_1 : Int) : Option (Int) := slices_Index_impl_Cell_impl_Cell.l0 k l0 (l0.length : Int) 0 a1_0 a1_1
theorem slices_Index_impl_Cell_impl_Cell.mono_l : ∀ k, (∀ y0 y1 y2 y3 y4, LeO (slices_Index_impl_Cell_impl_Cell.l0 k y0 y1 y2 y3 y4) (slices_Index_impl_Cell_impl_Cell.l0 (k + 1) y0 y1 y2 y3 y4))
  | 0 => fun _ _ _ _ _ r h => by simp [slices_Index_impl_Cell_impl_Cell.l0] at h
  | k + 1 => by
    have ih0 := slices_Index_impl_Cell_impl_Cell.mono_l k
    · intro y0 y1 y2 y3 y4
      unfold slices_Index_impl_Cell_impl_Cell.l0
      repeat' first
      | (with_reducible exact ih0 _ _ _ _ _)
      | (with_reducible exact LeO.refl _)
      | (with_reducible exact LeO.none _)
      | (with_reducible refine LeO.ite ?_ ?_)
      | (with_reducible refine LeO.bind ?_ (fun _ => ?_))
      | exact ih0 _ _ _ _ _
      | exact LeO.none _
      | refine LeO.ite ?_ ?_
      | refine LeO.bind ?_ (fun _ => ?_)
theorem slices_Index_impl_Cell_impl_Cell.mono : ∀ a0 a1 a2 k, LeO (slices_Index_impl_Cell_impl_Cell.f k a0 a1 a2) (slices_Index_impl_Cell_impl_Cell.f (k + 1) a0 a1 a2) := by
  intro a0 a1 a2 k
  have ih0 := slices_Index_impl_Cell_impl_Cell.mono_l k
  unfold slices_Index_impl_Cell_impl_Cell.f
  repeat' first
      | (with_reducible exact ih0 _ _ _ _ _)
      | (with_reducible exact LeO.refl _)
      | (with_reducible exact LeO.none _)
      | (with_reducible refine LeO.ite ?_ ?_)
      | (with_reducible refine LeO.bind ?_ (fun _ => ?_))
      | exact ih0 _ _ _ _ _
      | exact LeO.none _
      | refine LeO.ite ?_ ?_
      | refine LeO.bind ?_ (fun _ => ?_)
set_option maxHeartbeats 8000000 in
set_option maxRecDepth 100000 in
theorem slices_Index_impl_Cell_impl_Cell.calls (k : Nat) (A0 : Option Addr) (c0 : Nat) (l0 : List (S57)) (a1_0 : Int) (a1_1 : Int) (r : Int) (w : World) (hr0 : Kd.C k57 w A0 l0.length l0) (hc0 : l0.length ≤ c0) (h : slices_Index_impl_Cell_impl_Cell.f k l0 a1_0 a1_1 = some r) :
    Calls Tryd.prog 90 #[.slice A0 l0.length c0, .agg #[.int .i64 a1_0, .int .i64 a1_1]] w fun e w' => e = .returned (.int .i64 r) ∧ Below w.heap.size w w' := by
  have hu57 := Tryd.underlying57
  have HR0 := Aside0.mk hr0
  have HC0 := Aside0.mk hc0
  clear hr0 hc0
  have HB := Aside0.mk (Below.refl w.heap.size w)
  have H : (slices_Index_impl_Cell_impl_Cell.l0 k l0 (l0.length : Int) 0 a1_0 a1_1) = some r := h
  clear h
  have H' := Aside0.mk H
  clear H
  go_enter Tryd.func90, Tryd.ntmps90
  go_wp2_with (first | ((with_reducible refine gate_dst (N := 3) rfl ?_); refine box_event ?hg (N := 3) ?hd (cs := #[.int .i64 a1_0, .int .i64 a1_1]) (t := 57) ?hr ?_; (case hd => rfl); (case hg => rfl); (case hr => first | (go_simp; done) | (go_simp; rfl)); intro gb256 hg w3 hbox hb; have n0_ := Aside0.mk (below_step (by repeat (first | (with_reducible first | exact HB.out | apply below_alloc | apply pw_below_drewN | apply below_drew1) | exact HB.out)) hb); have n1_ := Aside0.mk (hbox); have n2_ := Aside0.mk ((by rw [hg]; exact (below_size (by repeat (first | (with_reducible first | exact HB.out | apply below_alloc | apply pw_below_drewN | apply below_drew1) | exact HB.out))) : w.heap.size ≤ gb256)); have n3_ := Aside0.mk ((by rw [hg]; exact (below_size (by repeat (first | (with_reducible first | exact HB.out | apply below_alloc | apply pw_below_drewN | apply below_drew1) | exact HB.out))) : w.heap.size ≤ gb256)); clear HB; have HB := n0_; have BK256 := n1_; have GW256 := n2_; have GE256 := n3_; clear n0_ n1_ n2_ n3_; clear hb hbox hg))
  repeat (go_quiet (first | ((with_reducible refine gate_dst (N := 3) rfl ?_); refine box_event ?hg (N := 3) ?hd (cs := #[.int .i64 a1_0, .int .i64 a1_1]) (t := 57) ?hr ?_; (case hd => rfl); (case hg => rfl); (case hr => first | (go_simp; done) | (go_simp; rfl)); intro gb256 hg w3 hbox hb; have n0_ := Aside0.mk (below_step (by repeat (first | (with_reducible first | exact HB.out | apply below_alloc | apply pw_below_drewN | apply below_drew1) | exact HB.out)) hb); have n1_ := Aside0.mk (hbox); have n2_ := Aside0.mk ((by rw [hg]; exact (below_size (by repeat (first | (with_reducible first | exact HB.out | apply below_alloc | apply pw_below_drewN | apply below_drew1) | exact HB.out))) : w.heap.size ≤ gb256)); have n3_ := Aside0.mk ((by rw [hg]; exact (below_size (by repeat (first | (with_reducible first | exact HB.out | apply below_alloc | apply pw_below_drewN | apply below_drew1) | exact HB.out))) : w.heap.size ≤ gb256)); clear HB; have HB := n0_; have BK256 := n1_; have GW256 := n2_; have GE256 := n3_; clear n0_ n1_ n2_ n3_; clear hb hbox hg)); try go_wp2_with (first | ((with_reducible refine gate_dst (N := 3) rfl ?_); refine box_event ?hg (N := 3) ?hd (cs := #[.int .i64 a1_0, .int .i64 a1_1]) (t := 57) ?hr ?_; (case hd => rfl); (case hg => rfl); (case hr => first | (go_simp; done) | (go_simp; rfl)); intro gb256 hg w3 hbox hb; have n0_ := Aside0.mk (below_step (by repeat (first | (with_reducible first | exact HB.out | apply below_alloc | apply pw_below_drewN | apply below_drew1) | exact HB.out)) hb); have n1_ := Aside0.mk (hbox); have n2_ := Aside0.mk ((by rw [hg]; exact (below_size (by repeat (first | (with_reducible first | exact HB.out | apply below_alloc | apply pw_below_drewN | apply below_drew1) | exact HB.out))) : w.heap.size ≤ gb256)); have n3_ := Aside0.mk ((by rw [hg]; exact (below_size (by repeat (first | (with_reducible first | exact HB.out | apply below_alloc | apply pw_below_drewN | apply below_drew1) | exact HB.out))) : w.heap.size ≤ gb256)); clear HB; have HB := n0_; have BK256 := n1_; have GW256 := n2_; have GE256 := n3_; clear n0_ n1_ n2_ n3_; clear hb hbox hg)))
  go_loopg [8] k (fun kq v8 w' => ∃ (x8_1 : Int), v8 = .int .i64 x8_1 ∧ Aside0 (slices_Index_impl_Cell_impl_Cell.l0 kq l0 (l0.length : Int) x8_1 a1_0 a1_1 = some r) ∧ Aside0 (kq ≤ k) ∧ Aside0 (w'.heap[gb256]? = some (.cells #[.int .i64 a1_0, .int .i64 a1_1] 57 (0, 0))) ∧ Aside0 (Below w.heap.size w w'))
  case atStart => exact ⟨(0), (by first | rfl | (simp; done) | (simp [*]; done)), H', ⟨Nat.le_refl _⟩, ⟨by (with_reducible repeat (first | refine blk_drewN ?_ _ | refine blk_drew ?_ | refine blk_alloc ?_ _)); exact BK256.out⟩, ⟨by repeat (first | (with_reducible first | exact HB.out | apply below_alloc | apply pw_below_drewN | apply below_drew1 | refine below_set ?_ GE256.out) | exact HB.out)⟩⟩
  case round =>
    clear H'
    try clear p2
    obtain ⟨x8_1, rfl, HA, HK1, BK256, HB⟩ := hrel
    cases gk with
    | zero => exact absurd HA.out (by simp [slices_Index_impl_Cell_impl_Cell.l0])
    | succ k1 =>
      have H := HA.out
      clear HA
      simp only [slices_Index_impl_Cell_impl_Cell.l0] at H
      by_cases c4 : x8_1 < (l0.length : Int)
      · rw [if_pos c4] at H
        have c4b0 : decide (x8_1 < (l0.length : Int)) = true := decide_eq_true c4
        clear c4
        by_cases c5 : 0 ≤ x8_1
        · rw [if_pos c5] at H
          have c5b0 : decide (0 ≤ x8_1) = true := decide_eq_true c5
          clear c5
          by_cases c6 : x8_1 < (l0.length : Int)
          · rw [if_pos c6] at H
            have c6b0 : decide (x8_1 < (l0.length : Int)) = true := decide_eq_true c6
            clear c6
            by_cases c7 : (a1_0 == ((rd_T57 l0 x8_1).f0) && (a1_1 == ((rd_T57 l0 x8_1).f1))) = true
            · rw [if_pos c7] at H
              have c7b0 : (a1_0 == ((rd_T57 l0 x8_1).f0) && (a1_1 == ((rd_T57 l0 x8_1).f1))) = true := c7
              (try (have c7b1 : decide (a1_0 = ((rd_T57 l0 x8_1).f0) && (a1_1 == ((rd_T57 l0 x8_1).f1))) = true := by simpa using c7))
              (try (have c7b2 : (a1_0 == ((rd_T57 l0 x8_1).f0) && (a1_1 == ((rd_T57 l0 x8_1).f1))) = true := by simpa using c7))
              clear c7
              obtain rfl := Option.some.inj H
              have hcz8_0 : wr.cell? ⟨gb256, 0, none⟩ = some (.int .i64 a1_0) := (blk_cell BK256.out 0).trans rfl
              have hcz8_1 : wr.cell? ⟨gb256, 1, none⟩ = some (.int .i64 a1_1) := (blk_cell BK256.out 1).trans rfl
              have hfz8_0 := blk_frozen BK256.out 0
              have hfz8_1 := blk_frozen BK256.out 1
              have p257 : 0 ≤ (x8_1 : Int) := of_decide_eq_true (by first | (with_reducible assumption) | assumption)
              have q257 : x8_1 < (l0.length : Int) := of_decide_eq_true (by first | (with_reducible assumption) | assumption)
              obtain ⟨ad257, e257, hx257_0, hx257_1⟩ := at_T57 HR0.out x8_1 p257 q257
              cases e257
              replace hx257_0 := (HB.out.cell (World.block_lt_of_cell? w _ hx257_0)).trans hx257_0
              replace hx257_1 := (HB.out.cell (World.block_lt_of_cell? w _ hx257_1)).trans hx257_1
              replace p257 := eq_true p257
              replace q257 := eq_true q257
              go_wp2
              repeat (go_quiet (fail); try go_wp2)
              go_ret
              exact ⟨by first | rfl | (simp [errW_none, errW_some] <;> rfl) | (simp [*, errW_none, errW_some] <;> rfl), by repeat (first | (with_reducible first | exact HB.out | apply below_alloc | apply pw_below_drewN | apply below_drew1 | refine below_set ?_ GE256.out) | exact HB.out)⟩
            · rw [if_neg c7] at H
              have c7b0 : (a1_0 == ((rd_T57 l0 x8_1).f0) && (a1_1 == ((rd_T57 l0 x8_1).f1))) = false := by simpa using c7
              (try (have c7b1 : decide (a1_0 = ((rd_T57 l0 x8_1).f0) && (a1_1 == ((rd_T57 l0 x8_1).f1))) = false := by simpa using c7))
              (try (have c7b2 : (a1_0 == ((rd_T57 l0 x8_1).f0) && (a1_1 == ((rd_T57 l0 x8_1).f1))) = false := by simpa using c7))
              (try (have c7b3 : ¬ (a1_0 = ((rd_T57 l0 x8_1).f0) && (a1_1 == ((rd_T57 l0 x8_1).f1))) := by simpa using c7))
              clear c7
              have H' := Aside0.mk H
              clear H
              have hcz9_0 : wr.cell? ⟨gb256, 0, none⟩ = some (.int .i64 a1_0) := (blk_cell BK256.out 0).trans rfl
              have hcz9_1 : wr.cell? ⟨gb256, 1, none⟩ = some (.int .i64 a1_1) := (blk_cell BK256.out 1).trans rfl
              have hfz9_0 := blk_frozen BK256.out 0
              have hfz9_1 := blk_frozen BK256.out 1
              have p257 : 0 ≤ (x8_1 : Int) := of_decide_eq_true (by first | (with_reducible assumption) | assumption)
              have q257 : x8_1 < (l0.length : Int) := of_decide_eq_true (by first | (with_reducible assumption) | assumption)
              obtain ⟨ad257, e257, hx257_0, hx257_1⟩ := at_T57 HR0.out x8_1 p257 q257
              cases e257
              replace hx257_0 := (HB.out.cell (World.block_lt_of_cell? w _ hx257_0)).trans hx257_0
              replace hx257_1 := (HB.out.cell (World.block_lt_of_cell? w _ hx257_1)).trans hx257_1
              replace p257 := eq_true p257
              replace q257 := eq_true q257
              go_wp2
              repeat (go_quiet (fail); try go_wp2)
              go_roundg k1
              case measure => have := HK1.out; omega
              case rel => exact ⟨(wrap64 (x8_1 + 1)), (by first | rfl | (simp; done) | (simp [*]; done)), H', ⟨by have := HK1.out; omega⟩, ⟨by (with_reducible repeat (first | refine blk_drewN ?_ _ | refine blk_drew ?_ | refine blk_alloc ?_ _)); exact BK256.out⟩, ⟨by repeat (first | (with_reducible first | exact HB.out | apply below_alloc | apply pw_below_drewN | apply below_drew1 | refine below_set ?_ GE256.out) | exact HB.out)⟩⟩
          · rw [if_neg c6] at H
            exact absurd H (by simp)
        · rw [if_neg c5] at H
          exact absurd H (by simp)
      · rw [if_neg c4] at H
        have c4b0 : decide (x8_1 < (l0.length : Int)) = false := decide_eq_false c4
        clear c4
        obtain rfl := Option.some.inj H
        go_wp2
        repeat (go_quiet (fail); try go_wp2)
        go_ret
        exact ⟨by first | rfl | (simp [errW_none, errW_some] <;> rfl) | (simp [*, errW_none, errW_some] <;> rfl), by repeat (first | (with_reducible first | exact HB.out | apply below_alloc | apply pw_below_drewN | apply below_drew1 | refine below_set ?_ GE256.out) | exact HB.out)⟩

/-! ### slices_Contains_impl_Cell_impl_Cell: function 70 -/
def slices_Contains_impl_Cell_impl_Cell.f (k : Nat) (l0 : List (S57)) (a1_0 : Int) (a1_1 : Int) : Option (Bool) := (slices_Index_impl_Cell_impl_Cell.f k l0 a1_0 a1_1).bind fun t259 => (some (decide (t259 ≥ 0)))
theorem slices_Contains_impl_Cell_impl_Cell.mono : ∀ a0 a1 a2 k, LeO (slices_Contains_impl_Cell_impl_Cell.f k a0 a1 a2) (slices_Contains_impl_Cell_impl_Cell.f (k + 1) a0 a1 a2) := by
  intro a0 a1 a2 k
  unfold slices_Contains_impl_Cell_impl_Cell.f
  repeat' first
      | (with_reducible exact slices_Index_impl_Cell_impl_Cell.mono _ _ _ _)
      | (with_reducible exact LeO.refl _)
      | (with_reducible exact LeO.none _)
      | (with_reducible refine LeO.ite ?_ ?_)
      | (with_reducible refine LeO.bind ?_ (fun _ => ?_))
      | exact slices_Index_impl_Cell_impl_Cell.mono _ _ _ _
      | exact LeO.none _
      | refine LeO.ite ?_ ?_
      | refine LeO.bind ?_ (fun _ => ?_)
set_option maxHeartbeats 8000000 in
set_option maxRecDepth 100000 in
theorem slices_Contains_impl_Cell_impl_Cell.calls (k : Nat) (A0 : Option Addr) (c0 : Nat) (l0 : List (S57)) (a1_0 : Int) (a1_1 : Int) (r : Bool) (w : World) (hr0 : Kd.C k57 w A0 l0.length l0) (hc0 : l0.length ≤ c0) (h : slices_Contains_impl_Cell_impl_Cell.f k l0 a1_0 a1_1 = some r) :
    Calls Tryd.prog 70 #[.slice A0 l0.length c0, .agg #[.int .i64 a1_0, .int .i64 a1_1]] w fun e w' => e = .returned (.bool r) ∧ Below w.heap.size w w' := by
  have hu57 := Tryd.underlying57
  have HR0 := Aside0.mk hr0
  have HC0 := Aside0.mk hc0
  clear hr0 hc0
  have HB := Aside0.mk (Below.refl w.heap.size w)
  have H : ((slices_Index_impl_Cell_impl_Cell.f k l0 a1_0 a1_1).bind fun t259 => (some (decide (t259 ≥ 0)))) = some r := h
  clear h
  replace H := Option.bind_eq_some_iff.mp H
  obtain ⟨t259, A30, H⟩ := H
  replace H : (some (decide (t259 ≥ 0))) = some r := H
  have A3 := Aside0.mk A30
  clear A30
  obtain rfl := Option.some.inj H
  go_enter Tryd.func70, Tryd.ntmps70
  go_wp2_with (first | ((with_reducible refine gate_dst (N := 3) rfl ?_); refine box_event ?hg (N := 3) ?hd (cs := #[.int .i64 a1_0, .int .i64 a1_1]) (t := 57) ?hr ?_; (case hd => rfl); (case hg => rfl); (case hr => first | (go_simp; done) | (go_simp; rfl)); intro gb258 hg w4 hbox hb; have n0_ := Aside0.mk (below_step (by repeat (first | (with_reducible first | exact HB.out | apply below_alloc | apply pw_below_drewN | apply below_drew1) | exact HB.out)) hb); have n1_ := Aside0.mk (hbox); have n2_ := Aside0.mk ((by rw [hg]; exact (below_size (by repeat (first | (with_reducible first | exact HB.out | apply below_alloc | apply pw_below_drewN | apply below_drew1) | exact HB.out))) : w.heap.size ≤ gb258)); have n3_ := Aside0.mk ((by rw [hg]; exact (below_size (by repeat (first | (with_reducible first | exact HB.out | apply below_alloc | apply pw_below_drewN | apply below_drew1) | exact HB.out))) : w.heap.size ≤ gb258)); clear HB; have HB := n0_; have BK258 := n1_; have GW258 := n2_; have GE258 := n3_; clear n0_ n1_ n2_ n3_; clear hb hbox hg; have hcz5_0 : w4.cell? ⟨gb258, 0, none⟩ = some (.int .i64 a1_0) := (blk_cell BK258.out 0).trans rfl; have hcz5_1 : w4.cell? ⟨gb258, 1, none⟩ = some (.int .i64 a1_1) := (blk_cell BK258.out 1).trans rfl; have hfz5_0 := blk_frozen BK258.out 0; have hfz5_1 := blk_frozen BK258.out 1) | ((with_reducible refine gate_callee (f := 90) rfl ?_); refine goesL_ (some 7) rfl rfl Tryd.func90 (by kernel_rfl) rfl #[.slice A0 l0.length c0, .agg #[.int .i64 a1_0, .int .i64 a1_1]] rfl (by (try simp only [List.map_toArray, List.map_cons, List.map_nil]); first | done | rfl | (simp only [List.length_drop, List.length_take]; rfl)) ?_; (with_reducible refine (slices_Index_impl_Cell_impl_Cell.calls k _ _ l0 a1_0 a1_1 t259 _ ?side1 ?side2 A3.out).mono ?_); (case side1 => repeat (first | exact (Kd.C_below HR0.out HB.out) | (with_reducible refine Kd.C_alloc ?_ _) | (with_reducible refine Kd.C_drewN ?_ _) | (with_reducible refine Kd.C_drew ?_))); (case side2 => exact HC0.out); rintro e w6 ⟨rfl, hb⟩; refine ⟨_, rfl, ?_⟩; have n0_ := Aside0.mk (blk_below (g := gb258) (o := .cells #[.int .i64 a1_0, .int .i64 a1_1] 57 (0, 0)) (by (with_reducible repeat (first | refine blk_drewN ?_ _ | refine blk_drew ?_ | refine blk_alloc ?_ _)); exact BK258.out) hb); have n1_ := Aside0.mk (below_step (by repeat (first | (with_reducible first | exact HB.out | apply below_alloc | apply pw_below_drewN | apply below_drew1 | refine below_set ?_ GE258.out) | exact HB.out)) hb); clear BK258; clear HB; have BK258 := n0_; have HB := n1_; clear n0_ n1_; (try clear hb); (try clear hb2); (try clear hk); (try clear hi)))
  go_ret
  exact ⟨by first | rfl | (simp [errW_none, errW_some] <;> rfl) | (simp [*, errW_none, errW_some] <;> rfl), by repeat (first | (with_reducible first | exact HB.out | apply below_alloc | apply pw_below_drewN | apply below_drew1 | refine below_set ?_ GE258.out) | exact HB.out)⟩

end Go.Proofs.YtfpofjckpbmcjaaDoor.PFnExactOppositeCells
