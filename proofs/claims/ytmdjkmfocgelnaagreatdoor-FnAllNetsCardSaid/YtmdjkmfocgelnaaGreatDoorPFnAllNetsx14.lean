/- Over the kit's printer by a driver of mine (hprint.py), with parts by hand: functions of the program as Lean functions, and that each call comes to exactly these answers. -/
import Derived.Test.YtmdjkmfocgelnaaGreatDoorPFnAllNetsx0
import Derived.Test.YtmdjkmfocgelnaaGreatDoorPFnAllNetsx1
import Derived.Test.YtmdjkmfocgelnaaGreatDoorPFnAllNetsx11
import Derived.Test.YtmdjkmfocgelnaaGreatDoorPFnAllNetsx13
namespace Go.Proofs.YtmdjkmfocgelnaaGreatDoor.PFnAllNets
open Go.RowKit Go.Proofs.YtmdjkmfocgelnaaGreatDoorW.PrintWords Go.Proofs.YtmdjkmfocgelnaaGreatDoorW.PrintLast Go.Proofs.YtmdjkmfocgelnaaGreatDoorW.PrintMore
attribute [local go_sem] max2_int min2_int max_two min_two max_three min_three max_four min_four   
set_option linter.unusedVariables false
set_option linter.unusedSimpArgs false
attribute [local go_sem high] eqA56
def slices_Max_int64_int64.l0 : Nat → List Int → Int → Int → Option (Int)
 | 0, _, _, _ => none
 | k + 1, x0, x3, x4 => if x4 < (x0.length : Int) then (if 0 ≤ x4 then (slices_Max_int64_int64.l0 k x0 (mx x3 (rd x0 x4)) (wrap64 (x4 + 1))) else (none)) else (some x3)
def slices_Max_int64_int64.f (k : Nat) (l0 : List Int) : Option (Int) := if (l0.length : Int) < 1 then (none) else (if 0 < (l0.length : Int) then (slices_Max_int64_int64.l0 k l0 (rd l0 0) 1) else (none))
theorem slices_Max_int64_int64.mono_l : ∀ k, (∀ y0 y1 y2, LeO (slices_Max_int64_int64.l0 k y0 y1 y2) (slices_Max_int64_int64.l0 (k + 1) y0 y1 y2))
 | 0 => fun _ _ _ r h => by simp [slices_Max_int64_int64.l0] at h
 | k + 1 => by
  have ih0 := slices_Max_int64_int64.mono_l k
  ·intro y0 y1 y2
   unfold slices_Max_int64_int64.l0
   with_reducible (repeat' first | exact ih0 _ _ _ | exact LeO.refl _ | exact LeO.none _ | refine LeO.ite ?_ ?_ | refine LeO.bind ?_ (fun _ => ?_))
theorem slices_Max_int64_int64.mono : ∀ a0 k, LeO (slices_Max_int64_int64.f k a0) (slices_Max_int64_int64.f (k + 1) a0) := by
 intro a0 k
 have ih0 := slices_Max_int64_int64.mono_l k
 unfold slices_Max_int64_int64.f
 with_reducible (repeat' first | exact ih0 _ _ _ | exact LeO.refl _ | exact LeO.none _ | refine LeO.ite ?_ ?_ | refine LeO.bind ?_ (fun _ => ?_))
set_option maxHeartbeats 8000000 in
set_option maxRecDepth 100000 in
theorem slices_Max_int64_int64.calls (k : Nat) (A0 : Option Addr) (c0 : Nat) (l0 : List Int) (r : Int) (w : World) (hr0 : Kd.C (Kd.int .i64) w A0 l0.length l0) (hc0 : l0.length ≤ c0) (h : slices_Max_int64_int64.f k l0 = some r) :
  Calls Tryz.prog 81 #[.slice A0 l0.length c0] w fun e w' => e = .returned (.int .i64 r) ∧ Below w.heap.size w w' := by
 have HR0 := Aside0.mk hr0
 have HC0 := Aside0.mk hc0
 clear hr0 hc0
 have HB := a0_ (Below.refl w.heap.size w)
 have H := h
 clear h
 unfold slices_Max_int64_int64.f at H
 by_cases c2 : (l0.length : Int) < 1
 ·rw [if_pos c2] at H
  exact absurd H (by simp)
 ·rw [if_neg c2] at H
  have c2b0 : decide ((l0.length : Int) < 1) = false := decide_eq_false c2
  have c2b1 : decide (l0.length < 1) = false := decide_eq_false (by omega)
  clear c2
  by_cases c3 : 0 < (l0.length : Int)
  ·rw [if_pos c3] at H
   have c3b0 : decide (0 < (l0.length : Int)) = true := decide_eq_true c3
   have c3b1 : decide (0 < l0.length) = true := decide_eq_true (by omega)
   clear c3
   have H' := Aside0.mk H
   clear H
   have p375 : 0 ≤ (0 : Int) := (by omega)
   have q375 : 0 < (l0.length : Int) := od_
   obtain ⟨ad375, e375, hx375_0⟩ := Kd.at_int HR0.out 0 p375 q375
   cases e375
   have qi375 : (0 < l0.length) = True := eq_true (by omega)
   (try rw [show ((0 : Int)).toNat = 0 from rfl] at hx375_0)
   (try rw [Addr.add_zero'] at hx375_0)
   replace p375 := eq_true p375
   replace q375 := eq_true q375
   go_enter Tryz.func81, Tryz.ntmps81
   go_wp2
   go_loopg [3, 4] k (fun kq v3 v4 w' => ∃ (x3_1 : Int) (x4_1 : Int), v3 = .int .i64 x3_1 ∧ v4 = .int .i64 x4_1 ∧ Aside0 (slices_Max_int64_int64.l0 kq l0 x3_1 x4_1 = some r) ∧ Aside0 (kq ≤ k) ∧ Aside0 (Below w.heap.size w w'))
   case atStart => exact ⟨(rd l0 0), (1), rs_, rs_, H', ⟨Nat.le_refl _⟩, ⟨bl0_⟩⟩
   case round =>
    clear H'
    try clear c2b0
    try clear c2b1
    try clear c3b0
    try clear c3b1
    try clear hx375_0
    try clear p375
    try clear q375
    obtain ⟨x3_1, x4_1, rfl, rfl, HA, HK1, HB⟩ := hrel
    cases gk with
    | zero => exact absurd HA.out (by simp [slices_Max_int64_int64.l0])
    | succ k1 =>
     have H := HA.out
     clear HA
     simp only [slices_Max_int64_int64.l0] at H
     by_cases c4 : x4_1 < (l0.length : Int)
     ·rw [if_pos c4] at H
      have c4b0 : decide (x4_1 < (l0.length : Int)) = true := decide_eq_true c4
      clear c4
      by_cases c5 : 0 ≤ x4_1
      ·rw [if_pos c5] at H
       have c5b0 : decide (0 ≤ x4_1) = true := decide_eq_true c5
       clear c5
       obtain ⟨ji6, hji6⟩ : ∃ j_ : Int, (mx x3_1 (rd l0 x4_1)) = j_ := ⟨_, rfl⟩
       replace H : (slices_Max_int64_int64.l0 k1 l0 ji6 (wrap64 (x4_1 + 1))) = some r := by first | (rw [hji6] at H; exact H) | (simp only [hji6] at H ⊢; exact H)
       have hji6_ : (if x3_1 < (rd l0 x4_1) then (rd l0 x4_1) else x3_1) = ji6 := hji6
       have H' := Aside0.mk H
       clear H
       have p376 : 0 ≤ (x4_1 : Int) := od_
       have q376 : x4_1 < (l0.length : Int) := od_
       obtain ⟨ad376, e376, hx376_0⟩ := Kd.at_int HR0.out x4_1 p376 q376
       obtain rfl : ad375 = ad376 := (by injection e376)
       replace hx376_0 := hc_ hx376_0
       replace p376 := eq_true p376
       replace q376 := eq_true q376
       go_wp2
       go_roundg k1
       case measure => have := HK1.out; omega
       case rel => exact ⟨(ji6), (wrap64 (x4_1 + 1)), (by first | rfl | (simp; done) | (simp only [← hji6] <;> (first | rfl | simp)) | (simp [*]; done)), rs_, H', ⟨by have := HK1.out; omega⟩, ⟨bl0_⟩⟩
      ·rw [if_neg c5] at H
       exact absurd H (by simp)
     ·rw [if_neg c4] at H
      have c4b0 : decide (x4_1 < (l0.length : Int)) = false := decide_eq_false c4
      clear c4
      obtain rfl := Option.some.inj H
      go_wp2
      go_ret
      exact ⟨er_, bl0_⟩
  ·rw [if_neg c3] at H
   exact absurd H (by simp)
def impl_around.f (a0_0 : Int) (a0_1 : Int) : Option ((List (S56))) := some (([(⟨a0_0, wrap64 (a0_1 - 1)⟩ : S56), (⟨wrap64 (a0_0 - 1), a0_1⟩ : S56), (⟨wrap64 (a0_0 + 1), a0_1⟩ : S56), (⟨a0_0, wrap64 (a0_1 + 1)⟩ : S56)] : List (S56)))
set_option maxHeartbeats 8000000 in
set_option maxRecDepth 100000 in
theorem impl_around.calls (a0_0 : Int) (a0_1 : Int) (r : List (S56)) (w : World) (h : impl_around.f a0_0 a0_1 = some r) :
  Calls Tryz.prog 53 #[.agg #[.int .i64 a0_0, .int .i64 a0_1]] w fun e w' => ∃ v0_ : Value, e = .returned (v0_) ∧ Kd.R k56 56 w' w.heap.size (fun _ => True) v0_ r ∧ Below w.heap.size w w' := by
 have hu56 := Tryz.underlying56
 have HB := a0_ (Below.refl w.heap.size w)
 have H := h
 clear h
 unfold impl_around.f at H
 obtain ⟨y378, hy378⟩ : ∃ y_ : List (S56), y_ = (([(⟨a0_0, wrap64 (a0_1 - 1)⟩ : S56), (⟨wrap64 (a0_0 - 1), a0_1⟩ : S56), (⟨wrap64 (a0_0 + 1), a0_1⟩ : S56), (⟨a0_0, wrap64 (a0_1 + 1)⟩ : S56)] : List (S56))) := ⟨_, rfl⟩
 replace H : (some y378) = some r := hh_ hy378 H
 have Ny378 := Aside0.mk hy378
 clear hy378
 obtain rfl := Option.some.inj H
 go_enter Tryz.func53, Tryz.ntmps53
 go_wp2_with (first | ((with_reducible refine gate_dst (N := 1) rfl ?_); refine bx_ (N := 1) (cs := #[.int .i64 a0_0, .int .i64 a0_1]) (t := 56) ?_; intro gb377 hg w2 hbox hb; have BK377 := a0_ (hbox); have GW377 := a0_ ((sz_ hg (bl0_) : w.heap.size ≤ gb377)); have GE377 := a0_ ((sz_ hg (bl0_) : w.heap.size ≤ gb377)); replace HB := a0_ (below_step (bl0_) hb); clear hb hbox hg; obtain ⟨hcz3_0, hcz3_1, hfz3_0, hfz3_1⟩ := bc2_ BK377.out) | ((with_reducible refine gate_dst (N := 27) rfl ?_); refine Kd.R_lit k56 _ 56 ?hg (N := 27) ?hd (xs := ([(⟨a0_0, wrap64 (a0_1 - 1)⟩ : S56), (⟨wrap64 (a0_0 - 1), a0_1⟩ : S56), (⟨wrap64 (a0_0 + 1), a0_1⟩ : S56), (⟨a0_0, wrap64 (a0_1 + 1)⟩ : S56)] : List (S56))) (inner := [.int .i64 a0_0, .int .i64 (wrap64 (a0_1 - 1)), .int .i64 (wrap64 (a0_0 - 1)), .int .i64 a0_1, .int .i64 (wrap64 (a0_0 + 1)), .int .i64 a0_1, .int .i64 a0_0, .int .i64 (wrap64 (a0_1 + 1))]) (ok := fun _ => True) (okp := fun _ => True) ?hr ?hp (fun _ hk => hk) trivial (Below.refl _ _) (Nat.le_refl _) (by simp) ?_; (case hd => rfl); (case hg => rfl); (case hr => first | (go_simp; done) | (go_simp; rfl)); (case hp => exact (Reps.c2 (show Kd.M k56 _ _ _ (⟨a0_0, wrap64 (a0_1 - 1)⟩ : S56) [.int .i64 a0_0, .int .i64 (wrap64 (a0_1 - 1))] from (k56_mkM _ _ _ (⟨a0_0, wrap64 (a0_1 - 1)⟩ : S56) )) (Reps.c2 (show Kd.M k56 _ _ _ (⟨wrap64 (a0_0 - 1), a0_1⟩ : S56) [.int .i64 (wrap64 (a0_0 - 1)), .int .i64 a0_1] from (k56_mkM _ _ _ (⟨wrap64 (a0_0 - 1), a0_1⟩ : S56) )) (Reps.c2 (show Kd.M k56 _ _ _ (⟨wrap64 (a0_0 + 1), a0_1⟩ : S56) [.int .i64 (wrap64 (a0_0 + 1)), .int .i64 a0_1] from (k56_mkM _ _ _ (⟨wrap64 (a0_0 + 1), a0_1⟩ : S56) )) (Reps.c2 (show Kd.M k56 _ _ _ (⟨a0_0, wrap64 (a0_1 + 1)⟩ : S56) [.int .i64 a0_0, .int .i64 (wrap64 (a0_1 + 1))] from (k56_mkM _ _ _ (⟨a0_0, wrap64 (a0_1 + 1)⟩ : S56) )) (Reps.none _ _)))))); intro v379 w4 ho5 hb hg_ hnew_; clear hg_ hnew_; (first | rw [← Ny378.out] at ho5 | (simp only [Int.reduceToNat] at ho5; rw [← Ny378.out] at ho5)); have HO380 := a0_ (Kd.R_lower (Kd.R_newB ho5 (g := gb377) (o := .cells #[.int .i64 a0_0, .int .i64 a0_1] 56 (0, 0)) (bk_ BK377.out)) (below_size (bl1_ GE377.out))); replace BK377 := a0_ (bb_ BK377.out hb); replace HB := a0_ (below_step (bl1_ GE377.out) hb); clear hb ho5))
 go_ret
 exact ⟨_, er_, by (with_reducible repeat (first | apply Kd.R_alloc | apply Kd.R_drewN | apply Kd.R_drew)); exact Kd.R_mono HO380.out (fun _ hk => trivial), bl1_ GE377.out⟩
def cellKey (c : S56) : Int × Int := (c.f0, c.f1)
def okc (c : S56) : Prop := (-9223372036854775808 ≤ c.f0 ∧ c.f0 ≤ 9223372036854775807) ∧ (-9223372036854775808 ≤ c.f1 ∧ c.f1 ≤ 9223372036854775807)
instance (c : S56) : Decidable (okc c) := inferInstanceAs (Decidable (_ ∧ _))
def atCell (l : List S56) : Nat → Int × Int → Option Int
 | 0, _ => none
 | i + 1, p => if p = cellKey (rd_T56 l (i : Int)) then some (i : Int) else atCell l i p
def placeF (l : List S56) (i : Nat) (p : Int × Int) : Option Value := (atCell l i p).map (fun q => .int .i64 q)
mutual
def impl_parts.l1 : Nat → List S56 → List Int → Int → Option (List Int)
 | 0, _, _, _ => none
 | k + 1, l, out, i => if i < (l.length : Int) then (if 0 ≤ i then (if rd out i ≥ 0 then impl_parts.l1 k l out (wrap64 (i + 1)) else impl_parts.l2 k l (out.set i.toNat i) i [i] 0) else none) else some out
def impl_parts.l2 : Nat → List S56 → List Int → Int → List Int → Int → Option (List Int)
 | 0, _, _, _, _, _ => none
 | k + 1, l, out, i, list, t => if t < (list.length : Int) then (if (0 ≤ t ∧ 0 ≤ rd list t) ∧ rd list t < (l.length : Int) then ((impl_around.f (rd_T56 l (rd list t)).f0 (rd_T56 l (rd list t)).f1).bind fun ds => impl_parts.l3 k l out i list t ds 0) else none) else impl_parts.l1 k l out (wrap64 (i + 1))
def impl_parts.l3 : Nat → List S56 → List Int → Int → List Int → Int → List S56 → Int → Option (List Int)
 | 0, _, _, _, _, _, _, _ => none
 | k + 1, l, out, i, list, t, ds, j => if j < (ds.length : Int) then (if 0 ≤ j ∧ okc (rd_T56 ds j) then (match atCell l l.length (cellKey (rd_T56 ds j)) with
   | none => impl_parts.l3 k l out i list t ds (wrap64 (j + 1))
   | some q => if 0 ≤ q ∧ q < (l.length : Int) then (if rd out q < 0 then (if list.length < 17592186044416 then impl_parts.l3 k l (out.set q.toNat i) i (list ++ [q]) t ds (wrap64 (j + 1)) else none) else impl_parts.l3 k l out i list t ds (wrap64 (j + 1))) else none) else none) else impl_parts.l2 k l out i list (wrap64 (t + 1))
end
def impl_parts.f (k : Nat) (l : List S56) : Option (List Int) := if (0 < l.length ∧ l.length ≤ 35184372088832) ∧ (∀ c ∈ l, okc c) then impl_parts.l1 k l (List.replicate l.length (-1)) 0 else none
theorem mapZ (w : World) : (zeroValue 3).run Tryz.prog w = .ok (.int .i64 0) w := by kernel_rfl
theorem cellLaid : Go.Maps.Keyed Tryz.prog 56 := Go.Maps.Keyed.of_law (Go.deep_law_laid (m := 3) kr_ (by omega) (of_decide_eq_true kr_) kr_ kr_)
theorem cellKeyed (c : S56) (h : okc c) : ∃ l, keyOf Tryz.prog 56 (enc2 (cellKey c)) = some l :=
 key2 Tryz.underlying56 kr_ kr_ Tryz.underlying2 Tryz.underlying2 kr_ kr_ rfl rfl (by decide) (by decide) ⟨Tryz.prog.types.size - 1, by kernel_rfl⟩ c.f0 c.f1 h.1 h.2
theorem info8 : (Tryz.prog.info? 2).map (fun i => (i.zero, i.size, i.bytes)) = some (some (.int .i64 0), 1, 8) := by kernel_rfl
theorem wrapS (i : Nat) (h : i < 4611686018427387904) : wrap64 ((i : Int) + 1) = ((i + 1 : Nat) : Int) := by unfold wrap64; omega
theorem fillS (i n : Nat) (h : i < n) : (List.replicate i (-1 : Int) ++ List.replicate (n - i) 0).set i (-1) = List.replicate (i + 1) (-1) ++ List.replicate (n - (i + 1)) 0 := by
 rw [List.set_append_right _ _ (by simp), List.length_replicate, Nat.sub_self, List.replicate_succ', List.append_assoc]
 congr 1
 rw [show n - i = (n - (i + 1)) + 1 from by omega, List.replicate_succ]
 rfl
theorem placeS (l : List S56) (i : Nat) (x : Int × Int) : (if x = cellKey (rd_T56 l (i : Int)) then some (Value.int .i64 (i : Int)) else placeF l i x) = placeF l (i + 1) x := by
 unfold placeF
 rw [atCell]
 by_cases h : x = cellKey (rd_T56 l (i : Int))
 ·rw [if_pos h, if_pos h]
  rfl
 ·rw [if_neg h, if_neg h]
theorem rd_mem (l : List S56) (i : Int) (h0 : 0 ≤ i) (h : i < (l.length : Int)) : rd_T56 l i ∈ l := by
 unfold rd_T56
 rw [List.getD_eq_getElem?_getD, List.getElem?_eq_getElem (by omega), Option.getD_some]
 exact List.getElem_mem _
theorem info8i : (Tryz.prog.info? 3).map (fun i => (i.zero, i.size, i.bytes)) = some (some (.int .i64 0), 1, 8) := by kernel_rfl
set_option maxHeartbeats 4000000 in
set_option maxRecDepth 100000 in
theorem impl_parts.calls (k : Nat) (A0 : Option Addr) (c0 : Nat) (l0 : List S56) (r : List Int) (w : World) (hr0 : Kd.C k56 w A0 l0.length l0) (hc0 : l0.length ≤ c0) (h : impl_parts.f k l0 = some r) :
  Calls Tryz.prog 82 #[.slice A0 l0.length c0, .func (.func 53) #[] #[]] w fun e w' => ∃ v0_ : Value, e = .returned v0_ ∧ Kd.R (Kd.int .i64) 2 w' w.heap.size (fun _ => True) v0_ r ∧ Below w.heap.size w w' := by
 unfold impl_parts.f at h
 split at h
 case isFalse => exact absurd h (by simp)
 rename_i hl
 obtain ⟨⟨hp, hl⟩, hok⟩ := hl
 have hu := Tryz.underlying56
 have HR0 := Aside0.mk hr0
 have HL0 := Aside0.mk hc0
 have H' := Aside0.mk h
 have HL := Aside0.mk hl
 have HP := Aside0.mk hp
 have HOK := Aside0.mk hok
 clear hr0 hc0 h hl hok hp
 have HB := a0_ (Below.refl w.heap.size w)
 have hmm := @run_makeMap Tryz.prog
 go_enter Tryz.func82, Tryz.ntmps82
 have HM := a0_ (MapF.made Tryz.prog 56 enc2 w)
 go_wp2_with (first | ((with_reducible refine gate_dst (N := 19) rfl ?_); refine Kd.R_make (Kd.int .i64) (w0 := w) w.heap.size 2 rfl (N := 19) rfl 48 _ _ rfl (l0.length : Int) rfl rfl Tryz.underlying48 (.int .i64 0) 8 info8 rfl (by decide) (by omega) 0 (ok := fun _ => True) (okp := fun _ => True) rfl (fun _ hk => hk) trivial (by omega) (by have := HL.out; omega) (below_alloc HB.out _) (below_size (below_alloc HB.out _)) ?_; intro vo w2 ho hb hg _; obtain ⟨g, cap, eo, gb, _, _, _⟩ := Kd.R_form ho (by have := HP.out; simp; omega); subst eo; have GB := Aside0.mk gb; have HM2 := a0_ (HM.out.grown hg (by simp)); have HO := Aside0.mk ho; have HB2 := Aside0.mk hb; clear ho hb hg gb))
 clear HM HB
 simp only [List.length_replicate, Int.toNat_natCast] at HO ⊢
 have HO0 : Aside0 (Kd.R (Kd.int .i64) 2 w2 w.heap.size (fun _ => True) (.slice (some ⟨g, 0, none⟩) l0.length cap) (List.replicate 0 (-1) ++ List.replicate (l0.length - 0) 0)) := a0_ (by simpa using HO.out)
 have HM0 : Aside0 (MapF Tryz.prog 56 enc2 w2 w.heap.size 0 (placeF l0 0)) := a0_ (HM2.out.ext (fun _ => rfl))
 clear HO HM2
 go_loopg [22] l0.length (fun kq v22 w' => ∃ i : Nat, v22 = .int .i64 (i : Int) ∧ Aside0 (kq + i = l0.length) ∧ Aside0 (MapF Tryz.prog 56 enc2 w' w.heap.size i (placeF l0 i)) ∧ Aside0 (Kd.R (Kd.int .i64) 2 w' w.heap.size (fun _ => True) (.slice (some ⟨g, 0, none⟩) l0.length cap) (List.replicate i (-1) ++ List.replicate (l0.length - i) 0)) ∧ Aside0 (Below w.heap.size w w'))
 case atStart => exact ⟨0, rfl, ⟨by omega⟩, HM0, HO0, HB2⟩
 case round =>
  clear HM0 HO0 HB2
  obtain ⟨i, rfl, HI, HM, HO, HB⟩ := hrel
  cases gk with
  | succ k1 =>
   have c1 : decide ((i : Int) < (l0.length : Int)) = true := decide_eq_true (by have := HI.out; omega)
   have c1n : decide (i < l0.length) = true := decide_eq_true (by have := HI.out; omega)
   have p1 : 0 ≤ (i : Int) := by omega
   have q1 : (i : Int) < (l0.length : Int) := of_decide_eq_true c1
   obtain ⟨ad1, e1, hx0, hx1⟩ := at_T56 HR0.out (i : Int) p1 q1
   cases e1
   rw [Int.toNat_natCast] at hx0 hx1
   replace hx0 := hc_ hx0
   replace hx1 := hc_ hx1
   have KC := a0_ (HOK.out _ (rd_mem l0 (i : Int) p1 q1))
   replace p1 := eq_true p1
   replace q1 := eq_true q1
   go_wp2_with (first | (at_mapUpdate; refine wpList_putF rfl _ _ _ 110 rfl 56 3 cellLaid Tryz.underlying110 enc2 w.heap.size i (placeF l0 i) rfl (HM.out.alloc _) (by have := HI.out; have := HL.out; unfold maxLen; omega) (cellKey (rd_T56 l0 (i : Int))) rfl (fun q hq => enc2_inj _ _ hq) (cellKeyed _ KC.out) (.int .i64 (i : Int)) rfl ?_; intro w3 hm3 hg3; have HM3 := a0_ (hm3.ext (placeS l0 i)); have HO3 := a0_ (Kd.R_mapTurn (Kd.R_alloc HO.out _) (MapF.block (HM.out.alloc _)) hg3); have HB3 := a0_ (below_mapTurn (below_alloc HB.out _) hg3 (Nat.le_refl _) (below_size (below_alloc HB.out _))); clear hm3 hg3; obtain ⟨hx5, hf5⟩ := Kd.R_celln 0 HO3.out (i : Int) (by omega) (of_decide_eq_true c1); rw [Int.toNat_natCast] at hx5 hf5; have HP3 := Kd.R_putg HO3.out (i : Int) (-1); rw [Int.toNat_natCast] at HP3) | ((with_reducible refine gate_store (t := 2) (p := 32) rfl ?_); refine store_event (t := 2) (p := 32) (v := ?vo_) (w1 := (w3.setCell ⟨g, i, none⟩ (.int .i64 (-1)))) ?hg ?ho ?hn ?hr ?_; (case ho => rfl); (case hg => rfl); (case hn => rfl); (case hr => first | (go_simp; done) | (go_simp; rfl)); intro w4 hw; have hg4 : w3.grownBy w4 (some g) := (by rw [hw]; exact HP3.2); have HM4 := a0_ (HM3.out.cellTurn (Kd.R_typed HO3.out g rfl |>.elim fun c hc => ⟨c, _, _, hc⟩) hg4); have HO4 := a0_ (by rw [hw]; exact HP3.1 : Kd.R (Kd.int .i64) 2 w4 w.heap.size (fun _ => True) (.slice (some ⟨g, 0, none⟩) l0.length cap) ((List.replicate i (-1) ++ List.replicate (l0.length - i) 0).set i (-1))); have HB4 := a0_ (by rw [hw]; exact below_set HB3.out GB.out : Below w.heap.size w w4); clear hw HP3 hg4))
   go_roundg k1
   case measure => omega
   case rel => exact ⟨i + 1, by rw [wrapS i (by have := HI.out; have := HL.out; omega)], ⟨by have := HI.out; omega⟩, HM4, ⟨by have h := HO4.out; rw [fillS i l0.length (by have := HI.out; omega)] at h; exact h⟩, HB4⟩
  | zero =>
   obtain rfl : i = l0.length := by have := HI.out; omega
   have c1 : decide ((l0.length : Int) < (l0.length : Int)) = false := decide_eq_false (by omega)
   rw [Nat.sub_self, List.replicate_zero, List.append_nil] at HO
   go_wp2
   clear HI c1
   go_loopg [36] k (fun kq v36 w' => ∃ (out : List Int) (i : Int), v36 = .int .i64 i ∧ Aside0 (impl_parts.l1 kq l0 out i = some r) ∧ Aside0 (kq ≤ k) ∧ Aside0 (MapF Tryz.prog 56 enc2 w' w.heap.size l0.length (placeF l0 l0.length)) ∧ Aside0 (Kd.R (Kd.int .i64) 2 w' w.heap.size (fun _ => True) (.slice (some ⟨g, 0, none⟩) l0.length cap) out) ∧ Aside0 (Below w.heap.size w w'))
   case atStart => exact ⟨_, 0, rfl, H', ⟨Nat.le_refl _⟩, HM, HO, HB⟩
   case round =>
    clear H' HM HO HB
    obtain ⟨out, i, rfl, HA, HK1, HM, HO, HB⟩ := hrel
    cases gk with
    | zero => exact absurd HA.out (by simp [impl_parts.l1])
    | succ k1 =>
     have H := HA.out
     clear HA
     simp only [impl_parts.l1] at H
     by_cases c : i < (l0.length : Int)
     ·rw [if_pos c] at H
      have c0 : decide (i < (l0.length : Int)) = true := decide_eq_true c
      by_cases d : 0 ≤ i
      ·rw [if_pos d] at H
       obtain ⟨hx, hf⟩ := Kd.R_celln 0 HO.out i d c
       replace hx : wr.cell? ⟨g, i.toNat, none⟩ = some (.int .i64 (rd out i)) := hx
       by_cases e : rd out i ≥ 0
       ·rw [if_pos e] at H
        have e0 : decide (0 ≤ rd out i) = true := decide_eq_true e
        have H' := Aside0.mk H
        replace c := eq_true c
        replace d := eq_true d
        clear H e
        go_wp2
        go_roundg k1
        case measure => have := HK1.out; omega
        case rel => exact ⟨out, wrap64 (i + 1), rfl, H', ⟨by have := HK1.out; omega⟩, HM, HO, HB⟩
       ·rw [if_neg e] at H
        have e0 : decide (0 ≤ rd out i) = false := decide_eq_false e
        have H' := Aside0.mk H
        have HP3 := Kd.R_putg HO.out i i
        replace c := eq_true c
        replace d := eq_true d
        clear H e
        have HMc := HM
        have HOc := HO
        have HBc := HB
        go_wp2_with (first | ((with_reducible refine gate_store (t := 2) (p := 47) rfl ?_); refine store_event (t := 2) (p := 47) (v := ?vo_47) (w1 := (wr.setCell ⟨g, (i : Int).toNat, none⟩ (.int .i64 i))) ?hg ?ho ?hn ?hr ?_; (case ho => rfl); (case hg => rfl); (case hn => rfl); (case hr => first | (go_simp; done) | (go_simp; rfl)); intro w4 hw; have hg4 : World.grownBy _ w4 (some g) := (by rw [hw]; exact HP3.2); have nM := a0_ (HMc.out.cellTurn (Kd.R_typed HOc.out g rfl |>.elim fun c hc => ⟨c, _, _, hc⟩) hg4); have nO := a0_ (by rw [hw]; exact HP3.1 : Kd.R (Kd.int .i64) 2 w4 w.heap.size (fun _ => True) (.slice (some ⟨g, 0, none⟩) l0.length cap) (out.set i.toNat i)); have nB := a0_ (by rw [hw]; exact below_set HBc.out GB.out : Below w.heap.size w w4); clear hw HP3; clear hg4) | ((with_reducible refine gate_dst (N := 49) rfl ?_); refine Kd.R_lit (Kd.int .i64) _ 3 ?hg (N := 49) ?hd (xs := ([i] : List Int)) (inner := [.int .i64 i]) (ok := fun _ => True) (okp := fun _ => True) ?hr ?hp (fun _ hk => hk) trivial (Below.refl _ _) (Nat.le_refl _) (by simp) ?_; (case hd => rfl); (case hg => rfl); (case hr => first | (go_simp; done) | (go_simp; rfl)); (case hp => exact (Reps.one (show Kd.M (Kd.int .i64) _ _ _ i [.int .i64 i] from rfl) (Reps.none _ _))); intro vl w5 ho5 hb5 hg5 hn5; have HM5 := a0_ (nM.out.below' hb5); have HO5 := a0_ (Kd.R_below nO.out hb5); have HL5 := a0_ (Kd.R_lower ho5 (below_size nB.out)); have HB5 := a0_ (below_step nB.out hb5); clear ho5 hb5 hg5 hn5))
        clear HMc HOc HBc nM nO nB HM HO HB hx hf c0 c d e0
        go_loopg [10, 11] k1 (fun kq v10 v11 w' => ∃ (out list : List Int) (t : Int), v11 = .int .i64 t ∧ Aside0 (impl_parts.l2 kq l0 out i list t = some r) ∧ Aside0 (kq ≤ k1) ∧ Aside0 (MapF Tryz.prog 56 enc2 w' w.heap.size l0.length (placeF l0 l0.length)) ∧ Aside0 (Kd.R (Kd.int .i64) 2 w' w.heap.size (fun _ => True) (.slice (some ⟨g, 0, none⟩) l0.length cap) out) ∧ Aside0 (Kd.R (Kd.int .i64) 3 w' w.heap.size (fun _ => True) v10 list) ∧ Aside0 (Below w.heap.size w w'))
        case atStart => exact ⟨_, _, 0, rfl, H', ⟨Nat.le_refl _⟩, HM5, HO5, HL5, HB5⟩
        case round =>
         clear H' HM5 HO5 HL5 HB5
         obtain ⟨out, list, t, rfl, HA, HK2, HM, HO, HQ, HB⟩ := hrel
         cases gk with
         | zero => exact absurd HA.out (by simp [impl_parts.l2])
         | succ k2 =>
          have H := HA.out
          clear HA
          simp only [impl_parts.l2] at H
          obtain ⟨Al, cl, el⟩ := Kd.R_slice HQ.out
          subst el
          by_cases c : t < (list.length : Int)
          ·rw [if_pos c] at H
           have c0 : decide (t < (list.length : Int)) = true := decide_eq_true c
           by_cases d : (0 ≤ t ∧ 0 ≤ rd list t) ∧ rd list t < (l0.length : Int)
           ·rw [if_pos d] at H
            obtain ⟨⟨d0, d1⟩, d2⟩ := d
            obtain ⟨ds, hA, H⟩ := Option.bind_eq_some_iff.1 H
            have A' := Aside0.mk hA
            have H' := Aside0.mk H
            clear H hA
            obtain ⟨adl, e1, hxl⟩ := Kd.at_int (Kd.R_reads' HQ.out).2.2 t d0 c
            cases e1
            obtain ⟨ad, e2, hx0, hx1⟩ := at_T56 HR0.out (rd list t) d1 d2
            cases e2
            replace hx0 := hc_ hx0
            replace hx1 := hc_ hx1
            replace c := eq_true c
            replace d0 := eq_true d0
            replace d1 := eq_true d1
            replace d2 := eq_true d2
            go_wp2_with (first | (go_at_call 53; refine (impl_around.calls _ _ ds _ A'.out).mono ?_; rintro e w5 ⟨vd, rfl, hod, hb5⟩; obtain ⟨Ad, cd, ed⟩ := Kd.R_slice hod; subst ed; have HD5 := a0_ (Kd.R_lower hod (below_size HB.out)); have HM5 := a0_ (HM.out.below' hb5); have HO5 := a0_ (Kd.R_below HO.out hb5); have HQ5 := a0_ (Kd.R_below HQ.out hb5); have HB5 := a0_ (below_step HB.out hb5); clear hod hb5))
            clear HM HO HQ HB hx0 hx1 hxl c c0 d0 d1 d2
            go_loopg [10, 66] k2 (fun kq v10 v66 w' => ∃ (out list : List Int) (j : Int), v66 = .int .i64 j ∧ Aside0 (impl_parts.l3 kq l0 out i list t ds j = some r) ∧ Aside0 (kq ≤ k2) ∧ Aside0 (MapF Tryz.prog 56 enc2 w' w.heap.size l0.length (placeF l0 l0.length)) ∧ Aside0 (Kd.R (Kd.int .i64) 2 w' w.heap.size (fun _ => True) (.slice (some ⟨g, 0, none⟩) l0.length cap) out) ∧ Aside0 (Kd.R (Kd.int .i64) 3 w' w.heap.size (fun _ => True) v10 list) ∧ Aside0 (Kd.R k56 56 w' w.heap.size (fun _ => True) (.slice Ad ds.length cd) ds) ∧ Aside0 (Below w.heap.size w w'))
            case atStart => exact ⟨_, _, 0, rfl, H', ⟨Nat.le_refl _⟩, HM5, HO5, HQ5, HD5, HB5⟩
            case round =>
             clear H' HM5 HO5 HQ5 HD5 HB5 A'
             obtain ⟨out, list, j, rfl, HA, HK3, HM, HO, HQ, HD, HB⟩ := hrel
             cases gk with
             | zero => exact absurd HA.out (by simp [impl_parts.l3])
             | succ k3 =>
              have H := HA.out
              clear HA
              simp only [impl_parts.l3] at H
              by_cases c : j < (ds.length : Int)
              ·rw [if_pos c] at H
               have c0 : decide (j < (ds.length : Int)) = true := decide_eq_true c
               by_cases d : 0 ≤ j ∧ okc (rd_T56 ds j)
               ·rw [if_pos d] at H
                obtain ⟨d0, d1⟩ := d
                have KC := Aside0.mk d1
                clear d1
                obtain ⟨ad, e2, hx0, hx1⟩ := at_T56 (Kd.R_reads' HD.out).2.2 j d0 c
                cases e2
                replace c := eq_true c
                replace d0 := eq_true d0
                cases hq : atCell l0 l0.length (cellKey (rd_T56 ds j)) with
                | none =>
                 rw [hq] at H
                 have H' := Aside0.mk H
                 clear H
                 go_wp2_with (first | (at_lookup; refine wpList_lookF rfl _ _ 110 rfl 56 3 cellLaid Tryz.underlying110 (mapZ _) enc2 w.heap.size l0.length (placeF l0 l0.length) rfl (HM.out.alloc _) (cellKey (rd_T56 ds j)) rfl (cellKeyed _ KC.out) none (by unfold placeF; rw [hq]; rfl) (.int .i64 0) false rfl rfl ?_))
                 go_roundg k3
                 case measure => have := HK1.out; have := HK2.out; have := HK3.out; omega
                 case rel => exact ⟨out, list, wrap64 (j + 1), rfl, H', ⟨by have := HK3.out; omega⟩, HM.out.alloc _ |> Aside0.mk, ⟨Kd.R_alloc HO.out _⟩, ⟨Kd.R_alloc HQ.out _⟩, ⟨Kd.R_alloc HD.out _⟩, ⟨below_alloc HB.out _⟩⟩
                | some q =>
                 rw [hq] at H
                 simp only at H
                 by_cases e : 0 ≤ q ∧ q < (l0.length : Int)
                 ·rw [if_pos e] at H
                  obtain ⟨e0, e1⟩ := e
                  obtain ⟨hy, hf⟩ := Kd.R_celln 0 (Kd.R_alloc HO.out (.cells #[.int .i64 (rd_T56 ds j).f0, .int .i64 (rd_T56 ds j).f1] 56)) q e0 e1
                  replace hy : World.cell? _ ⟨g, q.toNat, none⟩ = some (.int .i64 (rd out q)) := hy
                  have HP3 := Kd.R_putg (Kd.R_alloc HO.out (.cells #[.int .i64 (rd_T56 ds j).f0, .int .i64 (rd_T56 ds j).f1] 56)) q i
                  have e0b := decide_eq_true e0
                  have e1b := decide_eq_true e1
                  replace e0 := eq_true e0
                  replace e1 := eq_true e1
                  by_cases f : rd out q < 0
                  ·rw [if_pos f] at H
                   have f0 : decide (rd out q < 0) = true := decide_eq_true f
                   by_cases b : list.length < 17592186044416
                   ·rw [if_pos b] at H
                    have H' := Aside0.mk H
                    have LB := Aside0.mk b
                    clear H b
                    have HMc := a0_ (HM.out.alloc (.cells #[.int .i64 (rd_T56 ds j).f0, .int .i64 (rd_T56 ds j).f1] 56))
                    have HOc := a0_ (Kd.R_alloc HO.out (.cells #[.int .i64 (rd_T56 ds j).f0, .int .i64 (rd_T56 ds j).f1] 56))
                    have HBc := a0_ (below_alloc HB.out (.cells #[.int .i64 (rd_T56 ds j).f0, .int .i64 (rd_T56 ds j).f1] 56))
                    have HQc := a0_ (Kd.R_alloc HQ.out (.cells #[.int .i64 (rd_T56 ds j).f0, .int .i64 (rd_T56 ds j).f1] 56))
                    have HDc := a0_ (Kd.R_alloc HD.out (.cells #[.int .i64 (rd_T56 ds j).f0, .int .i64 (rd_T56 ds j).f1] 56))
                    go_wp2_with (first | (at_lookup; refine wpList_lookF rfl _ _ 110 rfl 56 3 cellLaid Tryz.underlying110 (mapZ _) enc2 w.heap.size l0.length (placeF l0 l0.length) rfl (HM.out.alloc _) (cellKey (rd_T56 ds j)) rfl (cellKeyed _ KC.out) (some (.int .i64 q)) (by unfold placeF; rw [hq]; rfl) (.int .i64 q) true rfl rfl ?_) | ((with_reducible refine gate_store (t := 2) (p := 87) rfl ?_); refine store_event (t := 2) (p := 87) (v := ?vo_87) (w1 := ((wr.alloc (.cells #[.int .i64 (rd_T56 ds j).f0, .int .i64 (rd_T56 ds j).f1] 56)).setCell ⟨g, (q : Int).toNat, none⟩ (.int .i64 i))) ?hg ?ho ?hn ?hr ?_; (case ho => rfl); (case hg => rfl); (case hn => rfl); (case hr => first | (go_simp; done) | (go_simp; rfl)); intro w6 hw; have hg4 : World.grownBy _ w6 (some g) := (by rw [hw]; exact HP3.2); have nM := a0_ (HMc.out.cellTurn (Kd.R_typed HOc.out g rfl |>.elim fun c hc => ⟨c, _, _, hc⟩) hg4); have nO := a0_ (by rw [hw]; exact HP3.1 : Kd.R (Kd.int .i64) 2 w6 w.heap.size (fun _ => True) (.slice (some ⟨g, 0, none⟩) l0.length cap) (out.set q.toNat i)); have nB := a0_ (by rw [hw]; exact below_set HBc.out GB.out : Below w.heap.size w w6); have nQ := a0_ (Kd.R_over' (v := (.slice (some ⟨g, 0, none⟩) l0.length cap)) HQc.out (Kd.R_typed HOc.out) (by decide) hg4); have nD := a0_ (Kd.R_over' (v := (.slice (some ⟨g, 0, none⟩) l0.length cap)) HDc.out (Kd.R_typed HOc.out) (by decide) hg4); clear hw HP3; clear hg4) | ((with_reducible refine gate_builtin (b := .append) (xs := #[.tmp 88, .tmp 90]) rfl ?_); at_builtin; refine Kd.R_append (Kd.int .i64) (w0 := w) w.heap.size rfl (.tmp 88) (.tmp 90) 111 3 (.int .i64 0) 8 rfl Tryz.underlying111 info8i rfl (by decide) (by omega) u10 list q [.int .i64 q] (fun _ => True) (fun _ => False) rfl (by first | (go_simp; done) | (go_simp; rfl)) ?aP (fun _ hk => hk.elim) ?aF ?aO ?aB ?aS ?aL ?_; (case aP => exact rfl); (case aB => exact nB.out); (case aF => exact (fun _ _ => trivial)); (case aO => exact nQ.out); (case aS => exact below_size nB.out); (case aL => have := LB.out; omega); intro v7 w7 ho hb hg hat; have HM7 := a0_ (nM.out.rowTurn nQ.out hg); have HO7 := a0_ (Kd.R_over' nO.out (Kd.R_typed nQ.out) (by decide) hg); have HD7 := a0_ (Kd.R_over' nD.out (Kd.R_typed nQ.out) (by decide) hg); have HQ7 := Aside0.mk ho; have HB7 := Aside0.mk hb; clear ho hb hg hat))
                    go_roundg k3
                    case measure => have := HK1.out; have := HK2.out; have := HK3.out; omega
                    case rel => exact ⟨_, _, wrap64 (j + 1), rfl, H', ⟨by have := HK3.out; omega⟩, HM7, HO7, HQ7, HD7, HB7⟩
                   ·rw [if_neg b] at H
                    exact absurd H (by simp)
                  ·rw [if_neg f] at H
                   have f0 : decide (rd out q < 0) = false := decide_eq_false f
                   have H' := Aside0.mk H
                   clear H HP3
                   go_wp2_with (first | (at_lookup; refine wpList_lookF rfl _ _ 110 rfl 56 3 cellLaid Tryz.underlying110 (mapZ _) enc2 w.heap.size l0.length (placeF l0 l0.length) rfl (HM.out.alloc _) (cellKey (rd_T56 ds j)) rfl (cellKeyed _ KC.out) (some (.int .i64 q)) (by unfold placeF; rw [hq]; rfl) (.int .i64 q) true rfl rfl ?_))
                   go_roundg k3
                   case measure => have := HK1.out; have := HK2.out; have := HK3.out; omega
                   case rel => exact ⟨out, list, wrap64 (j + 1), rfl, H', ⟨by have := HK3.out; omega⟩, HM.out.alloc _ |> Aside0.mk, ⟨Kd.R_alloc HO.out _⟩, ⟨Kd.R_alloc HQ.out _⟩, ⟨Kd.R_alloc HD.out _⟩, ⟨below_alloc HB.out _⟩⟩
                 ·rw [if_neg e] at H
                  exact absurd H (by simp)
               ·rw [if_neg d] at H
                exact absurd H (by simp)
              ·rw [if_neg c] at H
               have c0 : decide (j < (ds.length : Int)) = false := decide_eq_false c
               have H' := Aside0.mk H
               clear H c
               go_wp2
               go_roundg k3
               case measure => have := HK1.out; have := HK2.out; have := HK3.out; omega
               case rel => exact ⟨out, list, wrap64 (t + 1), rfl, H', ⟨by have := HK2.out; have := HK3.out; omega⟩, HM, HO, HQ, HB⟩
           ·rw [if_neg d] at H
            exact absurd H (by simp)
          ·rw [if_neg c] at H
           have c0 : decide (t < (list.length : Int)) = false := decide_eq_false c
           have H' := Aside0.mk H
           clear H c
           go_wp2
           go_roundg k2
           case measure => have := HK1.out; have := HK2.out; omega
           case rel => exact ⟨out, wrap64 (i + 1), rfl, H', ⟨by have := HK1.out; have := HK2.out; omega⟩, HM, HO, HB⟩
      ·rw [if_neg d] at H
       exact absurd H (by simp)
     ·rw [if_neg c] at H
      have c0 : decide (i < (l0.length : Int)) = false := decide_eq_false c
      obtain rfl := Option.some.inj H
      clear H c
      go_wp2
      go_ret
      exact ⟨_, rfl, HO.out, HB.out⟩
theorem impl_parts.mono_l : ∀ k, (∀ l out i, LeO (impl_parts.l1 k l out i) (impl_parts.l1 (k + 1) l out i)) ∧ (∀ l out i list t, LeO (impl_parts.l2 k l out i list t) (impl_parts.l2 (k + 1) l out i list t)) ∧ (∀ l out i list t ds j, LeO (impl_parts.l3 k l out i list t ds j) (impl_parts.l3 (k + 1) l out i list t ds j))
 | 0 => ⟨fun _ _ _ r h => by simp [impl_parts.l1] at h, fun _ _ _ _ _ r h => by simp [impl_parts.l2] at h, fun _ _ _ _ _ _ _ r h => by simp [impl_parts.l3] at h⟩
 | k + 1 => by
  obtain ⟨i1, i2, i3⟩ := impl_parts.mono_l k
  refine ⟨fun l out i => ?_, fun l out i list t => ?_, fun l out i list t ds j => ?_⟩
  ·unfold impl_parts.l1
   exact LeO.ite (LeO.ite (LeO.ite (i1 _ _ _) (i2 _ _ _ _ _)) (LeO.none _)) (LeO.refl _)
  ·unfold impl_parts.l2
   exact LeO.ite (LeO.ite (LeO.bind (LeO.refl _) (fun ds => i3 _ _ _ _ _ _ _)) (LeO.none _)) (i1 _ _ _)
  ·unfold impl_parts.l3
   refine LeO.ite (LeO.ite ?_ (LeO.none _)) (i2 _ _ _ _ _)
   cases atCell l l.length (cellKey (rd_T56 ds j)) with
   | none => exact i3 _ _ _ _ _ _ _
   | some q => exact LeO.ite (LeO.ite (LeO.ite (i3 _ _ _ _ _ _ _) (LeO.none _)) (i3 _ _ _ _ _ _ _)) (LeO.none _)
def impl_connected.f (k : Nat) (l : List S56) : Option Bool := (impl_parts.f k l).bind fun o => (slices_Max_int64_int64.f k o).bind fun m => if m = 0 then some true else some false
theorem impl_connected.mono (l0 : List S56) (k : Nat) : LeO (impl_connected.f k l0) (impl_connected.f (k + 1) l0) := by
 unfold impl_connected.f
 refine LeO.bind ?_ (fun o => LeO.bind (slices_Max_int64_int64.mono o k) (fun m => LeO.refl _))
 unfold impl_parts.f
 exact LeO.ite ((impl_parts.mono_l k).1 _ _ _) (LeO.refl _)
set_option maxHeartbeats 1000000 in
theorem impl_connected.calls (k : Nat) (A0 : Option Addr) (c0 : Nat) (l0 : List S56) (r : Bool) (w : World) (hr0 : Kd.C k56 w A0 l0.length l0) (hc0 : l0.length ≤ c0) (h : impl_connected.f k l0 = some r) :
  Calls Tryz.prog 52 #[.slice A0 l0.length c0, .func (.func 53) #[] #[]] w fun e w' => e = .returned (.bool r) ∧ Below w.heap.size w w' := by
 unfold impl_connected.f at h
 obtain ⟨o, ho, h⟩ := Option.bind_eq_some_iff.1 h
 obtain ⟨m, hm, h⟩ := Option.bind_eq_some_iff.1 h
 have HP := a0_ (impl_parts.calls k A0 c0 l0 o w hr0 hc0 ho)
 have HM := Aside0.mk hm
 clear ho hm hr0 hc0
 have hd : (m == 0) = r := by
  by_cases c : m = 0
  ·rw [if_pos c] at h
   rw [← Option.some.inj h]
   simp [c]
  ·rw [if_neg c] at h
   rw [← Option.some.inj h]
   simp [c]
 clear h
 go_enter Tryz.func52, Tryz.ntmps52
 go_wp2_with (first | (go_at_call 82; refine HP.out.mono ?_; rintro e w1 ⟨v, rfl, ho, hb⟩; obtain ⟨Ao, co, eo⟩ := Kd.R_slice ho; subst eo; have HO := Aside0.mk ho; have HB := Aside0.mk hb; clear ho hb) | (go_at_call 81; refine (slices_Max_int64_int64.calls k _ _ o m _ (Kd.R_reads' HO.out).2.2 (Kd.R_reads' HO.out).2.1 HM.out).mono ?_; rintro e w2 ⟨rfl, hb2⟩; have HB2 := a0_ (below_step HB.out hb2); clear hb2))
 go_ret
 exact ⟨by rw [← hd]; rfl, HB2.out⟩
def impl_IsConnected.f (k : Nat) (l0 : List S56) : Option Bool := (impl_IsShape.f k l0).bind fun t => if t = true then impl_connected.f k l0 else some false
theorem impl_IsConnected.mono : ∀ l0 k, LeO (impl_IsConnected.f k l0) (impl_IsConnected.f (k + 1) l0) := by
 intro l0 k
 unfold impl_IsConnected.f
 exact LeO.bind (impl_IsShape.mono l0 k) (fun t => LeO.ite (impl_connected.mono l0 k) (LeO.refl _))
set_option maxHeartbeats 1000000 in
theorem impl_IsConnected.calls (k : Nat) (A0 : Option Addr) (c0 : Nat) (l0 : List S56) (r : Bool) (w : World) (hr0 : Kd.C k56 w A0 l0.length l0) (hc0 : l0.length ≤ c0) (h : impl_IsConnected.f k l0 = some r) :
  Calls Tryz.prog 29 #[.slice A0 l0.length c0] w fun e w' => e = .returned (.bool r) ∧ Below w.heap.size w w' := by
 unfold impl_IsConnected.f at h
 obtain ⟨t, ht, h⟩ := Option.bind_eq_some_iff.1 h
 have HS := a0_ (impl_IsShape.calls k A0 c0 l0 t w hr0 hc0 ht)
 have HR := Aside0.mk hr0
 have HC := Aside0.mk hc0
 have H' := Aside0.mk h
 clear ht hr0 hc0 h
 cases t with
 | false =>
  have e := Option.some.inj (H'.out.symm.trans (if_neg (by simp)))
  subst e
  go_enter Tryz.func29, Tryz.ntmps29
  go_wp2_with (go_at_call 51; refine HS.out.mono ?_; rintro e w1 ⟨rfl, hb⟩; have HB := Aside0.mk hb; clear hb)
  go_ret
  exact ⟨rfl, HB.out⟩
 | true =>
  have H2 : Aside0 (impl_connected.f k l0 = some r) := ⟨(if_pos rfl).symm.trans H'.out⟩
  clear H'
  go_enter Tryz.func29, Tryz.ntmps29
  go_wp2_with (first | (go_at_call 51; refine HS.out.mono ?_; rintro e w1 ⟨rfl, hb⟩; have HB := Aside0.mk hb; clear hb) | (go_at_call 52; refine (impl_connected.calls k _ _ l0 r _ (Kd.C_below HR.out HB.out) HC.out H2.out).mono ?_; rintro e w2 ⟨rfl, hb2⟩; have HB2 := a0_ (below_step HB.out hb2); clear hb2))
  go_ret
  exact ⟨rfl, HB2.out⟩
def seenB (xs : List Bool) : Array Value := (xs.map Value.bool).toArray
def impl_IsPermutation.l0 : Nat → List Int → List Bool → Int → Option Bool
 | 0, _, _, _ => none
 | k + 1, p, seen, j => if j < (p.length : Int) then (if 0 ≤ j then ((impl_within.f (rd p j) 0 (wrap64 ((p.length : Int) - 1))).bind fun t => if t = true then (if 0 ≤ rd p j ∧ rd p j < 64 then (if seen.getD (rd p j).toNat false = true then some false else impl_IsPermutation.l0 k p (seen.set (rd p j).toNat true) (wrap64 (j + 1))) else none) else some false) else none) else some true
def impl_IsPermutation.f (k : Nat) (l0 : List Int) : Option Bool := if (l0.length : Int) > 64 then some false else impl_IsPermutation.l0 k l0 (List.replicate 64 false) 0
theorem impl_IsPermutation.mono_l : ∀ k p s j, LeO (impl_IsPermutation.l0 k p s j) (impl_IsPermutation.l0 (k + 1) p s j)
 | 0, _, _, _ => LeO.none _
 | k + 1, p, s, j => by
  unfold impl_IsPermutation.l0
  exact LeO.ite (LeO.ite (LeO.bind (LeO.refl _) (fun t => LeO.ite (LeO.ite (LeO.ite (LeO.refl _) (impl_IsPermutation.mono_l k _ _ _)) (LeO.none _)) (LeO.refl _))) (LeO.none _)) (LeO.refl _)
theorem impl_IsPermutation.mono : ∀ a0 k, LeO (impl_IsPermutation.f k a0) (impl_IsPermutation.f (k + 1) a0) := by
 intro a0 k
 unfold impl_IsPermutation.f
 exact LeO.ite (LeO.refl _) (impl_IsPermutation.mono_l _ _ _ _)
theorem seenB_get (xs : List Bool) (i : Nat) (h : i < xs.length) : (seenB xs)[i]? = some (.bool (xs.getD i false)) := by
 unfold seenB
 rw [List.getElem?_toArray, List.getElem?_map, List.getD_eq_getElem?_getD, List.getElem?_eq_getElem h]
 rfl
theorem seenB_set (xs : List Bool) (i : Nat) (b : Bool) : (seenB xs).setIfInBounds i (.bool b) = seenB (xs.set i b) := by
 unfold seenB
 simp [List.map_set]
set_option maxHeartbeats 4000000 in
set_option maxRecDepth 100000 in
theorem impl_IsPermutation.calls (k : Nat) (A0 : Option Addr) (c0 : Nat) (l0 : List Int) (r : Bool) (w : World) (hr0 : Kd.C (Kd.int .i64) w A0 l0.length l0) (hc0 : l0.length ≤ c0) (h : impl_IsPermutation.f k l0 = some r) :
  Calls Tryz.prog 30 #[.slice A0 l0.length c0] w fun e w' => e = .returned (.bool r) ∧ Below w.heap.size w w' := by
 have HR0 := Aside0.mk hr0
 unfold impl_IsPermutation.f at h
 by_cases c : (l0.length : Int) > 64
 ·rw [if_pos c] at h
  obtain rfl := Option.some.inj h
  have c1 : decide (64 < (l0.length : Int)) = true := decide_eq_true c
  have c2 : decide (64 < l0.length) = true := decide_eq_true (by omega)
  go_enter Tryz.func30, Tryz.ntmps30
  go_wp2
  go_ret
  exact ⟨rfl, Below.refl _ _⟩
 ·rw [if_neg c] at h
  have c1 : decide (64 < (l0.length : Int)) = false := decide_eq_false c
  have c2 : decide (64 < l0.length) = false := decide_eq_false (by omega)
  have H' := Aside0.mk h
  clear h c hr0
  go_enter Tryz.func30, Tryz.ntmps30
  have BK0 : Aside0 ((w.alloc (.cells (seenB (List.replicate 64 false)) 70)).heap[w.heap.size]? = some (.cells (seenB (List.replicate 64 false)) 70 (0, 0))) := ⟨heap_alloc_new w _⟩
  have HB0 : Aside0 (Below w.heap.size w (w.alloc (.cells (seenB (List.replicate 64 false)) 70))) := ⟨below_alloc (Below.refl _ _) _⟩
  go_wp2
  go_loopg [11] k (fun kq v11 w' => ∃ (seen : List Bool) (j : Int), v11 = .int .i64 j ∧ Aside0 (impl_IsPermutation.l0 kq l0 seen j = some r) ∧ Aside0 (kq ≤ k) ∧ Aside0 (seen.length = 64) ∧ Aside0 (w'.heap[w.heap.size]? = some (.cells (seenB seen) 70 (0, 0))) ∧ Aside0 (Below w.heap.size w w'))
  case atStart => exact ⟨_, 0, rfl, H', ⟨Nat.le_refl _⟩, ⟨by simp⟩, BK0, HB0⟩
  case round =>
   clear H' BK0 HB0
   obtain ⟨seen, j, rfl, HA, HK, HN, BK, HB⟩ := hrel
   cases gk with
   | zero => exact absurd HA.out (by simp [impl_IsPermutation.l0])
   | succ k1 =>
    have H := HA.out
    clear HA
    simp only [impl_IsPermutation.l0] at H
    by_cases c : j < (l0.length : Int)
    ·rw [if_pos c] at H
     by_cases d : 0 ≤ j
     ·rw [if_pos d] at H
      obtain ⟨t, hA, H⟩ := Option.bind_eq_some_iff.1 H
      have A' := Aside0.mk hA
      obtain ⟨ad, e1, hx⟩ := Kd.at_int HR0.out j d c
      cases e1
      replace hx := hc_ hx
      have c0 := decide_eq_true c
      replace c := eq_true c
      replace d := eq_true d
      cases t with
      | false =>
       simp only [Bool.false_eq_true, if_false, Option.some.injEq] at H
       subst H
       clear hA
       go_wp2_with (go_at_call 54; refine (impl_within.calls (rd l0 j) 0 (wrap64 ((l0.length : Int) - 1)) false _ A'.out).mono ?_; rintro e w' ⟨rfl, ⟨nd, rfl⟩⟩)
       go_ret
       exact ⟨rfl, pw_below_drewN HB.out _⟩
      | true =>
       simp only [if_true] at H
       clear hA
       by_cases e : 0 ≤ rd l0 j ∧ rd l0 j < 64
       ·rw [if_pos e] at H
        obtain ⟨e0, e1⟩ := e
        have hy : wr.cell? ⟨w.heap.size, (rd l0 j).toNat, none⟩ = some (.bool (seen.getD (rd l0 j).toNat false)) := (blk_cell BK.out _).trans (seenB_get _ _ (by have := HN.out; omega))
        have hf := blk_frozen BK.out (rd l0 j).toNat
        have e0b := decide_eq_true e0
        have e1b := decide_eq_true e1
        replace e0 := eq_true e0
        replace e1 := eq_true e1
        cases f : seen.getD (rd l0 j).toNat false with
        | true =>
         rw [f] at H hy
         obtain rfl := Option.some.inj H
         go_wp2_with (go_at_call 54; refine (impl_within.calls (rd l0 j) 0 (wrap64 ((l0.length : Int) - 1)) true _ A'.out).mono ?_; rintro e w' ⟨rfl, ⟨nd, rfl⟩⟩)
         go_ret
         exact ⟨rfl, pw_below_drewN HB.out _⟩
        | false =>
         rw [f] at H hy
         have H' : Aside0 (impl_IsPermutation.l0 k1 l0 (seen.set (rd l0 j).toNat true) (wrap64 (j + 1)) = some r) := ⟨(if_neg (by simp)).symm.trans H⟩
         clear H f
         go_wp2_with (go_at_call 54; refine (impl_within.calls (rd l0 j) 0 (wrap64 ((l0.length : Int) - 1)) true _ A'.out).mono ?_; rintro e w' ⟨rfl, ⟨nd, rfl⟩⟩)
         go_roundg k1
         case measure => have := HK.out; omega
         case rel => exact ⟨_, wrap64 (j + 1), rfl, H', ⟨by have := HK.out; omega⟩, ⟨by simpa using HN.out⟩, ⟨blk_put (blk_drewN BK.out nd) _ _ (seenB_set _ _ _)⟩, ⟨below_set (pw_below_drewN HB.out nd) (Nat.le_refl _)⟩⟩
       ·rw [if_neg e] at H
        exact absurd H (by simp)
     ·rw [if_neg d] at H
      exact absurd H (by simp)
    ·rw [if_neg c] at H
     have c0 := decide_eq_false c
     obtain rfl := Option.some.inj H
     clear H c
     go_wp2
     go_ret
     exact ⟨rfl, HB.out⟩
def edgesV : Array Value := #[.int .i64 1, .int .i64 0, .int .i64 0, .int .i64 0, .int .i64 0, .int .i64 (-1), .int .i64 0, .int .i64 1, .int .i64 (-1), .int .i64 0, .int .i64 0, .int .i64 0, .int .i64 (-1), .int .i64 0, .int .i64 (-1), .int .i64 (-1), .int .i64 (-1), .int .i64 0, .int .i64 0, .int .i64 (-1), .int .i64 0, .int .i64 (-1), .int .i64 (-1), .int .i64 (-1)]
theorem store_run {P : Program} {a : Act} {o : Oper} {t : TypeId} {p v : Operand} {W w1 : World} (ho : o.op = .store t p v) (pv vv : Value) (h1 : a.eval p = pv) (h2 : a.eval v = vv) (h : (Instr.storeAt t pv vv).run P W = .ok () w1) :
  (execOp a.eval o).run P W = .ok .skip w1 := by simp [execOp, ho, h1, h2, h, Result.andThen]
theorem edgesStore (w : World) (Z : Array Value) (hZ : Z.size = 24) : (Instr.storeAt 77 (.pointer (some ⟨w.heap.size, 0, none⟩)) (.agg edgesV)).run Tryz.prog (w.alloc (.cells Z 77)) = .ok () (w.alloc (.cells edgesV 77)) :=
 run_storeAt_new w _ Z edgesV kr_ hZ kr_
set_option maxRecDepth 100000 in
theorem impl_edges.calls (w : World) : Calls Tryz.prog 55 #[] w fun e w' => e = .returned (.agg edgesV) ∧ Below w.heap.size w w' := by
 go_enter Tryz.func55, Tryz.ntmps55
 go_wp2_with (first | ((with_reducible refine gate_store (t := 77) (p := 0) rfl ?_); refine store_event (t := 77) (p := 0) (v := ?vo_) (w1 := (w.alloc (.cells edgesV 77))) ?hg ?ho ?hn ?hr ?_; (case ho => rfl); (case hg => rfl); (case hn => rfl); (case hr => exact store_run rfl _ _ rfl rfl (edgesStore w _ rfl)); intro w2 hw; subst hw))
 refine bodyPost_ret (results_cell_row rfl _ _ w.heap.size 77 edgesV (0, 0) _ rfl (heap_alloc_new w _) Tryz.underlying77 rfl kr_) rfl ?_
 exact ⟨rfl, below_alloc (Below.refl _ _) _⟩
def edgeSX (e : Int) : Int := if e = 0 then 1 else if e = 2 then -1 else 0
def edgeSY (e : Int) : Int := if e = 1 then 1 else if e = 3 then -1 else 0
def edgeRX (e : Int) : Int := if e = 1 then -1 else if e = 2 then -1 else 0
def edgeRY (e : Int) : Int := if e = 2 then -1 else if e = 3 then -1 else 0
def edgeLX (e : Int) : Int := if e = 2 then -1 else if e = 3 then -1 else 0
def edgeLY (e : Int) : Int := if e = 0 then -1 else if e = 3 then -1 else 0
theorem edges_at (e : Int) (h0 : 0 ≤ e) (h4 : e < 4) (W : World) : (Instr.index 77 (.agg edgesV) (.int .i64 e)).run Tryz.prog W = .ok (.agg #[.int .i64 (edgeSX e), .int .i64 (edgeSY e), .int .i64 (edgeRX e), .int .i64 (edgeRY e), .int .i64 (edgeLX e), .int .i64 (edgeLY e)]) W := by
 rcases (by omega : e = 0 ∨ e = 1 ∨ e = 2 ∨ e = 3) with rfl | rfl | rfl | rfl <;> kernel_rfl
def impl_plus.f (a0_0 : Int) (a0_1 : Int) (a1_0 : Int) (a1_1 : Int) : Option (Int × Int) := some (wrap64 (a0_0 + a1_0), wrap64 (a0_1 + a1_1))
set_option maxHeartbeats 8000000 in
set_option maxRecDepth 100000 in
theorem impl_plus.calls (a0_0 : Int) (a0_1 : Int) (a1_0 : Int) (a1_1 : Int) (r1 : Int) (r2 : Int) (w : World) (h : impl_plus.f a0_0 a0_1 a1_0 a1_1 = some (r1, r2)) :
  Calls Tryz.prog 56 #[.agg #[.int .i64 a0_0, .int .i64 a0_1], .agg #[.int .i64 a1_0, .int .i64 a1_1]] w fun e w' => e = .returned (.agg #[.int .i64 r1, .int .i64 r2]) ∧ Below w.heap.size w w' := by
 have hu56 := Tryz.underlying56
 have HB := a0_ (Below.refl w.heap.size w)
 have H : (some (wrap64 (a0_0 + a1_0), wrap64 (a0_1 + a1_1))) = some (r1, r2) := h
 clear h
 simp only [Option.some.injEq, Prod.mk.injEq] at H
 obtain ⟨rfl, rfl⟩ := H
 go_enter Tryz.func56, Tryz.ntmps56
 go_wp2_with (first | ((with_reducible refine gate_dst (N := 2) rfl ?_); refine bx_ (N := 2) (cs := #[.int .i64 a0_0, .int .i64 a0_1]) (t := 56) ?_; intro gb381 hg w3 hbox hb; have BK381 := a0_ (hbox); have GW381 := a0_ ((sz_ hg (bl0_) : w.heap.size ≤ gb381)); have GE381 := a0_ ((sz_ hg (bl0_) : w.heap.size ≤ gb381)); replace HB := a0_ (below_step (bl0_) hb); clear hb hbox hg) | ((with_reducible refine gate_dst (N := 3) rfl ?_); refine bx_ (N := 3) (cs := #[.int .i64 a1_0, .int .i64 a1_1]) (t := 56) ?_; intro gb382 hg w4 hbox hb; have BK382 := a0_ (hbox); have GW382 := a0_ ((sz_ hg (bl1_ GE381.out) : w.heap.size ≤ gb382)); have GE382 := a0_ ((sz_ hg (bl1_ GE381.out) : w.heap.size ≤ gb382)); replace HB := a0_ (below_step (bl1_ GE381.out) hb); have NB381_382 := a0_ ((nl_ hg BK381.out : gb381 ≠ gb382)); have NB382_381 := a0_ ((ng_ hg BK381.out : gb382 ≠ gb381)); replace BK381 := a0_ (bb_ BK381.out hb); clear hb hbox hg) | ((with_reducible refine gate_dst (N := 4) rfl ?_); refine bx_ (N := 4) (cs := #[.int .i64 0, .int .i64 0]) (t := 56) ?_; intro gb383 hg w5 hbox hb; have BK383 := a0_ (hbox); have GW383 := a0_ ((sz_ hg (bl2_ GE381.out GE382.out) : w.heap.size ≤ gb383)); have GE383 := a0_ ((sz_ hg (bl2_ GE381.out GE382.out) : w.heap.size ≤ gb383)); replace HB := a0_ (below_step (bl2_ GE381.out GE382.out) hb); have NB381_383 := a0_ ((nl_ hg BK381.out : gb381 ≠ gb383)); have NB383_381 := a0_ ((ng_ hg BK381.out : gb383 ≠ gb381)); replace BK381 := a0_ (bb_ BK381.out hb); have NB382_383 := a0_ ((nl_ hg BK382.out : gb382 ≠ gb383)); have NB383_382 := a0_ ((ng_ hg BK382.out : gb383 ≠ gb382)); replace BK382 := a0_ (bb_ BK382.out hb); clear hb hbox hg; have hnb6 := NB381_382.out; have hnc6 := NB382_381.out; have hnb7 := NB381_383.out; have hnc7 := NB383_381.out; obtain ⟨hcz8_0, hcz8_1, hfz8_0, hfz8_1⟩ := bc2_ BK381.out; have hnb9 := NB382_383.out; have hnc9 := NB383_382.out; obtain ⟨hcz10_0, hcz10_1, hfz10_0, hfz10_1⟩ := bc2_ BK382.out; obtain ⟨hcz11_0, hcz11_1, hfz11_0, hfz11_1⟩ := bc2_ BK383.out))
 refine bodyPost_ret (results_cell_row rfl _ _ gb383 56 #[.int .i64 (wrap64 (a0_0 + a1_0)), .int .i64 (wrap64 (a0_1 + a1_1))] (0, 0) _ rfl (by (with_reducible repeat (first | refine blk_drewN ?_ _ | refine blk_drew ?_ | refine blk_alloc ?_ _)); refine blk_put (cs := #[.int .i64 (wrap64 (a0_0 + a1_0)), .int .i64 0]) ?_ 1 _ rfl; (with_reducible repeat (first | refine blk_drewN ?_ _ | refine blk_drew ?_ | refine blk_alloc ?_ _)); refine blk_put (cs := #[.int .i64 0, .int .i64 0]) ?_ 0 _ rfl; (with_reducible repeat (first | refine blk_drewN ?_ _ | refine blk_drew ?_ | refine blk_alloc ?_ _)); exact BK383.out) Tryz.underlying56 rfl kr_) rfl ?_
 exact ⟨er_, bl3_ GE381.out GE382.out GE383.out⟩
def slices_Index_impl_Cell_impl_Cell.l0 : Nat → List (S56) → Int → Int → Int → Int → Option (Int)
 | 0, _, _, _, _, _ => none
 | k + 1, x0, x7, x8, x385000, x385001 => if x8 < x7 then (if 0 ≤ x8 then (if x8 < (x0.length : Int) then (if (x385000 == ((rd_T56 x0 x8).f0) && (x385001 == ((rd_T56 x0 x8).f1))) = true then (some x8) else (slices_Index_impl_Cell_impl_Cell.l0 k x0 x7 (wrap64 (x8 + 1)) x385000 x385001)) else (none)) else (none)) else (some (-1))
def slices_Index_impl_Cell_impl_Cell.f (k : Nat) (l0 : List (S56)) (a1_0 : Int) (a1_1 : Int) : Option (Int) := slices_Index_impl_Cell_impl_Cell.l0 k l0 (l0.length : Int) 0 a1_0 a1_1
theorem slices_Index_impl_Cell_impl_Cell.mono_l : ∀ k, (∀ y0 y1 y2 y3 y4, LeO (slices_Index_impl_Cell_impl_Cell.l0 k y0 y1 y2 y3 y4) (slices_Index_impl_Cell_impl_Cell.l0 (k + 1) y0 y1 y2 y3 y4))
 | 0 => fun _ _ _ _ _ r h => by simp [slices_Index_impl_Cell_impl_Cell.l0] at h
 | k + 1 => by
  have ih0 := slices_Index_impl_Cell_impl_Cell.mono_l k
  ·intro y0 y1 y2 y3 y4
   unfold slices_Index_impl_Cell_impl_Cell.l0
   with_reducible (repeat' first | exact ih0 _ _ _ _ _ | exact LeO.refl _ | exact LeO.none _ | refine LeO.ite ?_ ?_ | refine LeO.bind ?_ (fun _ => ?_))
theorem slices_Index_impl_Cell_impl_Cell.mono : ∀ a0 a1 a2 k, LeO (slices_Index_impl_Cell_impl_Cell.f k a0 a1 a2) (slices_Index_impl_Cell_impl_Cell.f (k + 1) a0 a1 a2) := by
 intro a0 a1 a2 k
 have ih0 := slices_Index_impl_Cell_impl_Cell.mono_l k
 unfold slices_Index_impl_Cell_impl_Cell.f
 with_reducible (repeat' first | exact ih0 _ _ _ _ _ | exact LeO.refl _ | exact LeO.none _ | refine LeO.ite ?_ ?_ | refine LeO.bind ?_ (fun _ => ?_))
set_option maxHeartbeats 8000000 in
set_option maxRecDepth 100000 in
theorem slices_Index_impl_Cell_impl_Cell.calls (k : Nat) (A0 : Option Addr) (c0 : Nat) (l0 : List (S56)) (a1_0 : Int) (a1_1 : Int) (r : Int) (w : World) (hr0 : Kd.C k56 w A0 l0.length l0) (hc0 : l0.length ≤ c0) (h : slices_Index_impl_Cell_impl_Cell.f k l0 a1_0 a1_1 = some r) :
  Calls Tryz.prog 83 #[.slice A0 l0.length c0, .agg #[.int .i64 a1_0, .int .i64 a1_1]] w fun e w' => e = .returned (.int .i64 r) ∧ Below w.heap.size w w' := by
 have hu56 := Tryz.underlying56
 have HR0 := Aside0.mk hr0
 have HC0 := Aside0.mk hc0
 clear hr0 hc0
 have HB := a0_ (Below.refl w.heap.size w)
 have H := h
 clear h
 unfold slices_Index_impl_Cell_impl_Cell.f at H
 have H' := Aside0.mk H
 clear H
 go_enter Tryz.func83, Tryz.ntmps83
 go_wp2_with (first | ((with_reducible refine gate_dst (N := 3) rfl ?_); refine bx_ (N := 3) (cs := #[.int .i64 a1_0, .int .i64 a1_1]) (t := 56) ?_; intro gb384 hg w3 hbox hb; have BK384 := a0_ (hbox); have GW384 := a0_ ((sz_ hg (bl0_) : w.heap.size ≤ gb384)); have GE384 := a0_ ((sz_ hg (bl0_) : w.heap.size ≤ gb384)); replace HB := a0_ (below_step (bl0_) hb); clear hb hbox hg))
 repeat (go_quiet (first | ((with_reducible refine gate_dst (N := 3) rfl ?_); refine bx_ (N := 3) (cs := #[.int .i64 a1_0, .int .i64 a1_1]) (t := 56) ?_; intro gb384 hg w3 hbox hb; have BK384 := a0_ (hbox); have GW384 := a0_ ((sz_ hg (bl0_) : w.heap.size ≤ gb384)); have GE384 := a0_ ((sz_ hg (bl0_) : w.heap.size ≤ gb384)); replace HB := a0_ (below_step (bl0_) hb); clear hb hbox hg)); try go_wp2_with (first | ((with_reducible refine gate_dst (N := 3) rfl ?_); refine bx_ (N := 3) (cs := #[.int .i64 a1_0, .int .i64 a1_1]) (t := 56) ?_; intro gb384 hg w3 hbox hb; have BK384 := a0_ (hbox); have GW384 := a0_ ((sz_ hg (bl0_) : w.heap.size ≤ gb384)); have GE384 := a0_ ((sz_ hg (bl0_) : w.heap.size ≤ gb384)); replace HB := a0_ (below_step (bl0_) hb); clear hb hbox hg)))
 go_loopg [8] k (fun kq v8 w' => ∃ (x8_1 : Int), v8 = .int .i64 x8_1 ∧ Aside0 (slices_Index_impl_Cell_impl_Cell.l0 kq l0 (l0.length : Int) x8_1 a1_0 a1_1 = some r) ∧ Aside0 (kq ≤ k) ∧ Aside0 (w'.heap[gb384]? = some (.cells #[.int .i64 a1_0, .int .i64 a1_1] 56 (0, 0))) ∧ Aside0 (Below w.heap.size w w'))
 case atStart => exact ⟨(0), rs_, H', ⟨Nat.le_refl _⟩, ⟨bk_ BK384.out⟩, ⟨bl1_ GE384.out⟩⟩
 case round =>
  clear H'
  obtain ⟨x8_1, rfl, HA, HK1, BK384, HB⟩ := hrel
  cases gk with
  | zero => exact absurd HA.out (by simp [slices_Index_impl_Cell_impl_Cell.l0])
  | succ k1 =>
   have H := HA.out
   clear HA
   simp only [slices_Index_impl_Cell_impl_Cell.l0] at H
   by_cases c4 : x8_1 < (l0.length : Int)
   ·rw [if_pos c4] at H
    have c4b0 : decide (x8_1 < (l0.length : Int)) = true := decide_eq_true c4
    clear c4
    by_cases c5 : 0 ≤ x8_1
    ·rw [if_pos c5] at H
     have c5b0 : decide (0 ≤ x8_1) = true := decide_eq_true c5
     clear c5
     by_cases c6 : x8_1 < (l0.length : Int)
     ·rw [if_pos c6] at H
      have c6b0 : decide (x8_1 < (l0.length : Int)) = true := decide_eq_true c6
      clear c6
      by_cases c7 : (a1_0 == ((rd_T56 l0 x8_1).f0) && (a1_1 == ((rd_T56 l0 x8_1).f1))) = true
      ·rw [if_pos c7] at H
       have c7b0 : (a1_0 == ((rd_T56 l0 x8_1).f0) && (a1_1 == ((rd_T56 l0 x8_1).f1))) = true := c7
       (try (have c7b1 : decide (a1_0 = ((rd_T56 l0 x8_1).f0) && (a1_1 == ((rd_T56 l0 x8_1).f1))) = true := by simpa using c7))
       (try (have c7b2 : (a1_0 == ((rd_T56 l0 x8_1).f0) && (a1_1 == ((rd_T56 l0 x8_1).f1))) = true := by simpa using c7))
       clear c7
       obtain rfl := Option.some.inj H
       have hcz8_0 : wr.cell? ⟨gb384, 0, none⟩ = some (.int .i64 a1_0) := (blk_cell BK384.out 0).trans rfl
       have hcz8_1 : wr.cell? ⟨gb384, 1, none⟩ = some (.int .i64 a1_1) := (blk_cell BK384.out 1).trans rfl
       have hfz8_0 := blk_frozen BK384.out 0
       have hfz8_1 := blk_frozen BK384.out 1
       have p385 : 0 ≤ (x8_1 : Int) := od_
       have q385 : x8_1 < (l0.length : Int) := od_
       obtain ⟨ad385, e385, hx385_0, hx385_1⟩ := at_T56 HR0.out x8_1 p385 q385
       cases e385
       replace hx385_0 := hc_ hx385_0
       replace hx385_1 := hc_ hx385_1
       replace p385 := eq_true p385
       replace q385 := eq_true q385
       go_wp2
       repeat (go_quiet (fail); try go_wp2)
       go_ret
       exact ⟨er_, bl1_ GE384.out⟩
      ·rw [if_neg c7] at H
       have c7b0 : (a1_0 == ((rd_T56 l0 x8_1).f0) && (a1_1 == ((rd_T56 l0 x8_1).f1))) = false := by simpa using c7
       (try (have c7b1 : decide (a1_0 = ((rd_T56 l0 x8_1).f0) && (a1_1 == ((rd_T56 l0 x8_1).f1))) = false := by simpa using c7))
       (try (have c7b2 : (a1_0 == ((rd_T56 l0 x8_1).f0) && (a1_1 == ((rd_T56 l0 x8_1).f1))) = false := by simpa using c7))
       (try (have c7b3 : ¬ (a1_0 = ((rd_T56 l0 x8_1).f0) && (a1_1 == ((rd_T56 l0 x8_1).f1))) := by simpa using c7))
       clear c7
       have H' := Aside0.mk H
       clear H
       have hcz9_0 : wr.cell? ⟨gb384, 0, none⟩ = some (.int .i64 a1_0) := (blk_cell BK384.out 0).trans rfl
       have hcz9_1 : wr.cell? ⟨gb384, 1, none⟩ = some (.int .i64 a1_1) := (blk_cell BK384.out 1).trans rfl
       have hfz9_0 := blk_frozen BK384.out 0
       have hfz9_1 := blk_frozen BK384.out 1
       have p385 : 0 ≤ (x8_1 : Int) := od_
       have q385 : x8_1 < (l0.length : Int) := od_
       obtain ⟨ad385, e385, hx385_0, hx385_1⟩ := at_T56 HR0.out x8_1 p385 q385
       cases e385
       replace hx385_0 := hc_ hx385_0
       replace hx385_1 := hc_ hx385_1
       replace p385 := eq_true p385
       replace q385 := eq_true q385
       go_wp2
       repeat (go_quiet (fail); try go_wp2)
       go_roundg k1
       case measure => have := HK1.out; omega
       case rel => exact ⟨(wrap64 (x8_1 + 1)), rs_, H', ⟨by have := HK1.out; omega⟩, ⟨bk_ BK384.out⟩, ⟨bl1_ GE384.out⟩⟩
     ·rw [if_neg c6] at H
      exact absurd H (by simp)
    ·rw [if_neg c5] at H
     exact absurd H (by simp)
   ·rw [if_neg c4] at H
    have c4b0 : decide (x8_1 < (l0.length : Int)) = false := decide_eq_false c4
    clear c4
    obtain rfl := Option.some.inj H
    go_wp2
    repeat (go_quiet (fail); try go_wp2)
    go_ret
    exact ⟨er_, bl1_ GE384.out⟩
def slices_Contains_impl_Cell_impl_Cell.f (k : Nat) (l0 : List (S56)) (a1_0 : Int) (a1_1 : Int) : Option (Bool) := (slices_Index_impl_Cell_impl_Cell.f k l0 a1_0 a1_1).bind fun t387 => (some (decide (t387 ≥ 0)))
theorem slices_Contains_impl_Cell_impl_Cell.mono : ∀ a0 a1 a2 k, LeO (slices_Contains_impl_Cell_impl_Cell.f k a0 a1 a2) (slices_Contains_impl_Cell_impl_Cell.f (k + 1) a0 a1 a2) := by
 intro a0 a1 a2 k
 unfold slices_Contains_impl_Cell_impl_Cell.f
 with_reducible (repeat' first | exact slices_Index_impl_Cell_impl_Cell.mono _ _ _ _ | exact LeO.refl _ | exact LeO.none _ | refine LeO.ite ?_ ?_ | refine LeO.bind ?_ (fun _ => ?_))
set_option maxHeartbeats 8000000 in
set_option maxRecDepth 100000 in
theorem slices_Contains_impl_Cell_impl_Cell.calls (k : Nat) (A0 : Option Addr) (c0 : Nat) (l0 : List (S56)) (a1_0 : Int) (a1_1 : Int) (r : Bool) (w : World) (hr0 : Kd.C k56 w A0 l0.length l0) (hc0 : l0.length ≤ c0) (h : slices_Contains_impl_Cell_impl_Cell.f k l0 a1_0 a1_1 = some r) :
  Calls Tryz.prog 57 #[.slice A0 l0.length c0, .agg #[.int .i64 a1_0, .int .i64 a1_1]] w fun e w' => e = .returned (.bool r) ∧ Below w.heap.size w w' := by
 have hu56 := Tryz.underlying56
 have HR0 := Aside0.mk hr0
 have HC0 := Aside0.mk hc0
 clear hr0 hc0
 have HB := a0_ (Below.refl w.heap.size w)
 have H := h
 clear h
 unfold slices_Contains_impl_Cell_impl_Cell.f at H
 obtain ⟨t387, A3, H⟩ := bs_ H
 obtain rfl := Option.some.inj H
 go_enter Tryz.func57, Tryz.ntmps57
 go_wp2_with (first | ((with_reducible refine gate_dst (N := 3) rfl ?_); refine bx_ (N := 3) (cs := #[.int .i64 a1_0, .int .i64 a1_1]) (t := 56) ?_; intro gb386 hg w4 hbox hb; have BK386 := a0_ (hbox); have GW386 := a0_ ((sz_ hg (bl0_) : w.heap.size ≤ gb386)); have GE386 := a0_ ((sz_ hg (bl0_) : w.heap.size ≤ gb386)); replace HB := a0_ (below_step (bl0_) hb); clear hb hbox hg; obtain ⟨hcz5_0, hcz5_1, hfz5_0, hfz5_1⟩ := bc2_ BK386.out) | ((with_reducible refine gate_callee (f := 83) rfl ?_); refine goesL_ (some 7) rfl rfl Tryz.func83 kr_ rfl #[.slice A0 l0.length c0, .agg #[.int .i64 a1_0, .int .i64 a1_1]] rfl ta_ ?_; (with_reducible refine (slices_Index_impl_Cell_impl_Cell.calls k _ _ l0 a1_0 a1_1 t387 _ ?side1 ?side2 A3.out).mono ?_); (case side1 => exact ca_ (Kd.C_below HR0.out HB.out)); (case side2 => exact HC0.out); rintro e w6 ⟨rfl, hb⟩; refine ⟨_, rfl, ?_⟩; replace BK386 := a0_ (bb_ BK386.out hb); replace HB := a0_ (below_step (bl1_ GE386.out) hb); (try clear hb)))
 go_ret
 exact ⟨er_, bl1_ GE386.out⟩
def impl_die_roll.f (a0_0 : Int) (a0_1 : Int) (a0_2 : Int) (a1 : Int) : Option (Int × Int × Int) := if a1 = 114 then (some (a0_1, wrap64 (5 - a0_0), a0_2)) else (if a1 = 100 then (some (a0_2, a0_1, wrap64 (5 - a0_0))) else (if a1 = 108 then (some (wrap64 (5 - a0_1), a0_0, a0_2)) else (some (wrap64 (5 - a0_2), a0_1, a0_0))))
set_option maxHeartbeats 8000000 in
set_option maxRecDepth 100000 in
theorem impl_die_roll.calls (a0_0 : Int) (a0_1 : Int) (a0_2 : Int) (a1 : Int) (r1 : Int) (r2 : Int) (r3 : Int) (w : World) (h : impl_die_roll.f a0_0 a0_1 a0_2 a1 = some (r1, r2, r3)) :
  Calls Tryz.prog 58 #[.agg #[.int .i64 a0_0, .int .i64 a0_1, .int .i64 a0_2], .int .u8 a1] w fun e w' => e = .returned (.agg #[.int .i64 r1, .int .i64 r2, .int .i64 r3]) ∧ Below w.heap.size w w' := by
 have hu73 := Tryz.underlying73
 have HB := a0_ (Below.refl w.heap.size w)
 have H := h
 clear h
 unfold impl_die_roll.f at H
 by_cases c3 : a1 = 114
 ·rw [if_pos c3] at H
  have c3b0 : (a1 == 114) = true := beq_iff_eq.mpr c3
  have c3b1 : (a1 != 114) = false := bne_eq_false_iff_eq.mpr c3
  clear c3
  simp only [Option.some.injEq, Prod.mk.injEq] at H
  obtain ⟨rfl, rfl, rfl⟩ := H
  go_enter Tryz.func58, Tryz.ntmps58
  go_wp2_with (first | ((with_reducible refine gate_dst (N := 2) rfl ?_); refine bx_ (N := 2) (cs := #[.int .i64 a0_0, .int .i64 a0_1, .int .i64 a0_2]) (t := 73) ?_; intro gb388 hg w4 hbox hb; have BK388 := a0_ (hbox); have GW388 := a0_ ((sz_ hg (bl0_) : w.heap.size ≤ gb388)); have GE388 := a0_ ((sz_ hg (bl0_) : w.heap.size ≤ gb388)); replace HB := a0_ (below_step (bl0_) hb); clear hb hbox hg) | ((with_reducible refine gate_dst (N := 4) rfl ?_); refine bx_ (N := 4) (cs := #[.int .i64 0, .int .i64 0, .int .i64 0]) (t := 73) ?_; intro gb389 hg w5 hbox hb; have BK389 := a0_ (hbox); have GW389 := a0_ ((sz_ hg (bl1_ GE388.out) : w.heap.size ≤ gb389)); have GE389 := a0_ ((sz_ hg (bl1_ GE388.out) : w.heap.size ≤ gb389)); replace HB := a0_ (below_step (bl1_ GE388.out) hb); have NB388_389 := a0_ ((nl_ hg BK388.out : gb388 ≠ gb389)); have NB389_388 := a0_ ((ng_ hg BK388.out : gb389 ≠ gb388)); replace BK388 := a0_ (bb_ BK388.out hb); clear hb hbox hg; have hnb6 := NB388_389.out; have hnc6 := NB389_388.out; obtain ⟨hcz7_0, hcz7_1, hcz7_2, hfz7_0, hfz7_1, hfz7_2⟩ := bc3_ BK388.out; obtain ⟨hcz8_0, hcz8_1, hcz8_2, hfz8_0, hfz8_1, hfz8_2⟩ := bc3_ BK389.out))
  refine bodyPost_ret (results_cell_row rfl _ _ gb389 73 #[.int .i64 a0_1, .int .i64 (wrap64 (5 - a0_0)), .int .i64 a0_2] (0, 0) _ rfl (by (with_reducible repeat (first | refine blk_drewN ?_ _ | refine blk_drew ?_ | refine blk_alloc ?_ _)); refine blk_put (cs := #[.int .i64 a0_1, .int .i64 (wrap64 (5 - a0_0)), .int .i64 0]) ?_ 2 _ rfl; (with_reducible repeat (first | refine blk_drewN ?_ _ | refine blk_drew ?_ | refine blk_alloc ?_ _)); refine blk_put (cs := #[.int .i64 a0_1, .int .i64 0, .int .i64 0]) ?_ 1 _ rfl; (with_reducible repeat (first | refine blk_drewN ?_ _ | refine blk_drew ?_ | refine blk_alloc ?_ _)); refine blk_put (cs := #[.int .i64 0, .int .i64 0, .int .i64 0]) ?_ 0 _ rfl; (with_reducible repeat (first | refine blk_drewN ?_ _ | refine blk_drew ?_ | refine blk_alloc ?_ _)); exact BK389.out) Tryz.underlying73 rfl kr_) rfl ?_
  exact ⟨er_, bl2_ GE388.out GE389.out⟩
 ·rw [if_neg c3] at H
  have c3b0 : (a1 == 114) = false := beq_eq_false_iff_ne.mpr c3
  have c3b1 : (a1 != 114) = true := bne_iff_ne.mpr c3
  by_cases c9 : a1 = 100
  ·rw [if_pos c9] at H
   have c9b0 : (a1 == 100) = true := beq_iff_eq.mpr c9
   have c9b1 : (a1 != 100) = false := bne_eq_false_iff_eq.mpr c9
   clear c9
   simp only [Option.some.injEq, Prod.mk.injEq] at H
   obtain ⟨rfl, rfl, rfl⟩ := H
   go_enter Tryz.func58, Tryz.ntmps58
   go_wp2_with (first | ((with_reducible refine gate_dst (N := 2) rfl ?_); refine bx_ (N := 2) (cs := #[.int .i64 a0_0, .int .i64 a0_1, .int .i64 a0_2]) (t := 73) ?_; intro gb388 hg w10 hbox hb; have BK388 := a0_ (hbox); have GW388 := a0_ ((sz_ hg (bl0_) : w.heap.size ≤ gb388)); have GE388 := a0_ ((sz_ hg (bl0_) : w.heap.size ≤ gb388)); replace HB := a0_ (below_step (bl0_) hb); clear hb hbox hg) | ((with_reducible refine gate_dst (N := 4) rfl ?_); refine bx_ (N := 4) (cs := #[.int .i64 0, .int .i64 0, .int .i64 0]) (t := 73) ?_; intro gb389 hg w11 hbox hb; have BK389 := a0_ (hbox); have GW389 := a0_ ((sz_ hg (bl1_ GE388.out) : w.heap.size ≤ gb389)); have GE389 := a0_ ((sz_ hg (bl1_ GE388.out) : w.heap.size ≤ gb389)); replace HB := a0_ (below_step (bl1_ GE388.out) hb); have NB388_389 := a0_ ((nl_ hg BK388.out : gb388 ≠ gb389)); have NB389_388 := a0_ ((ng_ hg BK388.out : gb389 ≠ gb388)); replace BK388 := a0_ (bb_ BK388.out hb); clear hb hbox hg; have hnb12 := NB388_389.out; have hnc12 := NB389_388.out; obtain ⟨hcz13_0, hcz13_1, hcz13_2, hfz13_0, hfz13_1, hfz13_2⟩ := bc3_ BK388.out; obtain ⟨hcz14_0, hcz14_1, hcz14_2, hfz14_0, hfz14_1, hfz14_2⟩ := bc3_ BK389.out))
   refine bodyPost_ret (results_cell_row rfl _ _ gb389 73 #[.int .i64 a0_2, .int .i64 a0_1, .int .i64 (wrap64 (5 - a0_0))] (0, 0) _ rfl (by (with_reducible repeat (first | refine blk_drewN ?_ _ | refine blk_drew ?_ | refine blk_alloc ?_ _)); refine blk_put (cs := #[.int .i64 a0_2, .int .i64 a0_1, .int .i64 0]) ?_ 2 _ rfl; (with_reducible repeat (first | refine blk_drewN ?_ _ | refine blk_drew ?_ | refine blk_alloc ?_ _)); refine blk_put (cs := #[.int .i64 a0_2, .int .i64 0, .int .i64 0]) ?_ 1 _ rfl; (with_reducible repeat (first | refine blk_drewN ?_ _ | refine blk_drew ?_ | refine blk_alloc ?_ _)); refine blk_put (cs := #[.int .i64 0, .int .i64 0, .int .i64 0]) ?_ 0 _ rfl; (with_reducible repeat (first | refine blk_drewN ?_ _ | refine blk_drew ?_ | refine blk_alloc ?_ _)); exact BK389.out) Tryz.underlying73 rfl kr_) rfl ?_
   exact ⟨er_, bl2_ GE388.out GE389.out⟩
  ·rw [if_neg c9] at H
   have c9b0 : (a1 == 100) = false := beq_eq_false_iff_ne.mpr c9
   have c9b1 : (a1 != 100) = true := bne_iff_ne.mpr c9
   by_cases c15 : a1 = 108
   ·rw [if_pos c15] at H
    have c15b0 : (a1 == 108) = true := beq_iff_eq.mpr c15
    have c15b1 : (a1 != 108) = false := bne_eq_false_iff_eq.mpr c15
    clear c15
    simp only [Option.some.injEq, Prod.mk.injEq] at H
    obtain ⟨rfl, rfl, rfl⟩ := H
    go_enter Tryz.func58, Tryz.ntmps58
    go_wp2_with (first | ((with_reducible refine gate_dst (N := 2) rfl ?_); refine bx_ (N := 2) (cs := #[.int .i64 a0_0, .int .i64 a0_1, .int .i64 a0_2]) (t := 73) ?_; intro gb388 hg w16 hbox hb; have BK388 := a0_ (hbox); have GW388 := a0_ ((sz_ hg (bl0_) : w.heap.size ≤ gb388)); have GE388 := a0_ ((sz_ hg (bl0_) : w.heap.size ≤ gb388)); replace HB := a0_ (below_step (bl0_) hb); clear hb hbox hg) | ((with_reducible refine gate_dst (N := 4) rfl ?_); refine bx_ (N := 4) (cs := #[.int .i64 0, .int .i64 0, .int .i64 0]) (t := 73) ?_; intro gb389 hg w17 hbox hb; have BK389 := a0_ (hbox); have GW389 := a0_ ((sz_ hg (bl1_ GE388.out) : w.heap.size ≤ gb389)); have GE389 := a0_ ((sz_ hg (bl1_ GE388.out) : w.heap.size ≤ gb389)); replace HB := a0_ (below_step (bl1_ GE388.out) hb); have NB388_389 := a0_ ((nl_ hg BK388.out : gb388 ≠ gb389)); have NB389_388 := a0_ ((ng_ hg BK388.out : gb389 ≠ gb388)); replace BK388 := a0_ (bb_ BK388.out hb); clear hb hbox hg; have hnb18 := NB388_389.out; have hnc18 := NB389_388.out; obtain ⟨hcz19_0, hcz19_1, hcz19_2, hfz19_0, hfz19_1, hfz19_2⟩ := bc3_ BK388.out; obtain ⟨hcz20_0, hcz20_1, hcz20_2, hfz20_0, hfz20_1, hfz20_2⟩ := bc3_ BK389.out))
    refine bodyPost_ret (results_cell_row rfl _ _ gb389 73 #[.int .i64 (wrap64 (5 - a0_1)), .int .i64 a0_0, .int .i64 a0_2] (0, 0) _ rfl (by (with_reducible repeat (first | refine blk_drewN ?_ _ | refine blk_drew ?_ | refine blk_alloc ?_ _)); refine blk_put (cs := #[.int .i64 (wrap64 (5 - a0_1)), .int .i64 a0_0, .int .i64 0]) ?_ 2 _ rfl; (with_reducible repeat (first | refine blk_drewN ?_ _ | refine blk_drew ?_ | refine blk_alloc ?_ _)); refine blk_put (cs := #[.int .i64 (wrap64 (5 - a0_1)), .int .i64 0, .int .i64 0]) ?_ 1 _ rfl; (with_reducible repeat (first | refine blk_drewN ?_ _ | refine blk_drew ?_ | refine blk_alloc ?_ _)); refine blk_put (cs := #[.int .i64 0, .int .i64 0, .int .i64 0]) ?_ 0 _ rfl; (with_reducible repeat (first | refine blk_drewN ?_ _ | refine blk_drew ?_ | refine blk_alloc ?_ _)); exact BK389.out) Tryz.underlying73 rfl kr_) rfl ?_
    exact ⟨er_, bl2_ GE388.out GE389.out⟩
   ·rw [if_neg c15] at H
    have c15b0 : (a1 == 108) = false := beq_eq_false_iff_ne.mpr c15
    have c15b1 : (a1 != 108) = true := bne_iff_ne.mpr c15
    simp only [Option.some.injEq, Prod.mk.injEq] at H
    obtain ⟨rfl, rfl, rfl⟩ := H
    go_enter Tryz.func58, Tryz.ntmps58
    go_wp2_with (first | ((with_reducible refine gate_dst (N := 2) rfl ?_); refine bx_ (N := 2) (cs := #[.int .i64 a0_0, .int .i64 a0_1, .int .i64 a0_2]) (t := 73) ?_; intro gb388 hg w21 hbox hb; have BK388 := a0_ (hbox); have GW388 := a0_ ((sz_ hg (bl0_) : w.heap.size ≤ gb388)); have GE388 := a0_ ((sz_ hg (bl0_) : w.heap.size ≤ gb388)); replace HB := a0_ (below_step (bl0_) hb); clear hb hbox hg) | ((with_reducible refine gate_dst (N := 4) rfl ?_); refine bx_ (N := 4) (cs := #[.int .i64 0, .int .i64 0, .int .i64 0]) (t := 73) ?_; intro gb389 hg w22 hbox hb; have BK389 := a0_ (hbox); have GW389 := a0_ ((sz_ hg (bl1_ GE388.out) : w.heap.size ≤ gb389)); have GE389 := a0_ ((sz_ hg (bl1_ GE388.out) : w.heap.size ≤ gb389)); replace HB := a0_ (below_step (bl1_ GE388.out) hb); have NB388_389 := a0_ ((nl_ hg BK388.out : gb388 ≠ gb389)); have NB389_388 := a0_ ((ng_ hg BK388.out : gb389 ≠ gb388)); replace BK388 := a0_ (bb_ BK388.out hb); clear hb hbox hg; have hnb23 := NB388_389.out; have hnc23 := NB389_388.out; obtain ⟨hcz24_0, hcz24_1, hcz24_2, hfz24_0, hfz24_1, hfz24_2⟩ := bc3_ BK388.out; obtain ⟨hcz25_0, hcz25_1, hcz25_2, hfz25_0, hfz25_1, hfz25_2⟩ := bc3_ BK389.out))
    refine bodyPost_ret (results_cell_row rfl _ _ gb389 73 #[.int .i64 (wrap64 (5 - a0_2)), .int .i64 a0_1, .int .i64 a0_0] (0, 0) _ rfl (by (with_reducible repeat (first | refine blk_drewN ?_ _ | refine blk_drew ?_ | refine blk_alloc ?_ _)); refine blk_put (cs := #[.int .i64 (wrap64 (5 - a0_2)), .int .i64 a0_1, .int .i64 0]) ?_ 2 _ rfl; (with_reducible repeat (first | refine blk_drewN ?_ _ | refine blk_drew ?_ | refine blk_alloc ?_ _)); refine blk_put (cs := #[.int .i64 (wrap64 (5 - a0_2)), .int .i64 0, .int .i64 0]) ?_ 1 _ rfl; (with_reducible repeat (first | refine blk_drewN ?_ _ | refine blk_drew ?_ | refine blk_alloc ?_ _)); refine blk_put (cs := #[.int .i64 0, .int .i64 0, .int .i64 0]) ?_ 0 _ rfl; (with_reducible repeat (first | refine blk_drewN ?_ _ | refine blk_drew ?_ | refine blk_alloc ?_ _)); exact BK389.out) Tryz.underlying73 rfl kr_) rfl ?_
    exact ⟨er_, bl2_ GE388.out GE389.out⟩
end Go.Proofs.YtmdjkmfocgelnaaGreatDoor.PFnAllNets
