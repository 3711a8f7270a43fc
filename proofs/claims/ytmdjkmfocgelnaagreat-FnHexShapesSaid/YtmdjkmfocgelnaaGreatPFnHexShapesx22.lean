/- Over the kit's printer by a driver of mine (hprint.py), with parts by hand: functions of the program as Lean functions, and that each call comes to exactly these answers. -/
import Derived.Test.YtmdjkmfocgelnaaGreatPFnHexShapesx0
import Derived.Test.YtmdjkmfocgelnaaGreatPFnHexShapesx2
import Derived.Test.YtmdjkmfocgelnaaGreatPFnHexShapesx3
import Derived.Test.YtmdjkmfocgelnaaGreatPFnHexShapesx4
import Derived.Test.YtmdjkmfocgelnaaGreatPFnHexShapesx8
import Derived.Test.YtmdjkmfocgelnaaGreatPFnHexShapesx9
import Derived.Test.YtmdjkmfocgelnaaGreatPFnHexShapesx19
import Derived.Test.YtmdjkmfocgelnaaGreatPFnHexShapesx21
namespace Go.Proofs.YtmdjkmfocgelnaaGreat.PFnHexShapes
open Go.RowKit Go.Proofs.YtmdjkmfocgelnaaGreatW.PrintWords Go.Proofs.YtmdjkmfocgelnaaGreatW.PrintLast Go.Proofs.YtmdjkmfocgelnaaGreatW.PrintMore
attribute [local go_sem] max2_int min2_int max_two min_two max_three min_three max_four min_four   -- for this text's walks alone
set_option linter.unusedVariables false
set_option linter.unusedSimpArgs false

/-! ### impl_parts: function 92 -/
/-- The pair of a cell's numbers; the last place among the first i at which a cell stands. -/
def cellKey (c : S46) : Int × Int := (c.f0, c.f1)
def okc (c : S46) : Prop := (-9223372036854775808 ≤ c.f0 ∧ c.f0 ≤ 9223372036854775807) ∧ (-9223372036854775808 ≤ c.f1 ∧ c.f1 ≤ 9223372036854775807)
instance (c : S46) : Decidable (okc c) := inferInstanceAs (Decidable (_ ∧ _))
def atCell (l : List S46) : Nat → Int × Int → Option Int
 | 0, _ => none
 | i + 1, p => if p = cellKey (rd_T46 l (i : Int)) then some (i : Int) else atCell l i p
def placeF (l : List S46) (i : Nat) (p : Int × Int) : Option Value := (atCell l i p).map (fun q => .int .i64 q)
mutual
def impl_parts.l1 (NF : S46 → List S46) : Nat → List S46 → List Int → Int → Option (List Int)
 | 0, _, _, _ => none
 | k + 1, l, out, i => if i < (l.length : Int) then (if 0 ≤ i then (if rd out i ≥ 0 then impl_parts.l1 NF k l out (wrap64 (i + 1)) else impl_parts.l2 NF k l (out.set i.toNat i) i [i] 0) else none) else some out
def impl_parts.l2 (NF : S46 → List S46) : Nat → List S46 → List Int → Int → List Int → Int → Option (List Int)
 | 0, _, _, _, _, _ => none
 | k + 1, l, out, i, list, t => if t < (list.length : Int) then (if (0 ≤ t ∧ 0 ≤ rd list t) ∧ rd list t < (l.length : Int) then ((some (NF (rd_T46 l (rd list t)))).bind fun ds => impl_parts.l3 NF k l out i list t ds 0) else none) else impl_parts.l1 NF k l out (wrap64 (i + 1))
def impl_parts.l3 (NF : S46 → List S46) : Nat → List S46 → List Int → Int → List Int → Int → List S46 → Int → Option (List Int)
 | 0, _, _, _, _, _, _, _ => none
 | k + 1, l, out, i, list, t, ds, j => if j < (ds.length : Int) then (if 0 ≤ j ∧ okc (rd_T46 ds j) then (match atCell l l.length (cellKey (rd_T46 ds j)) with
   | none => impl_parts.l3 NF k l out i list t ds (wrap64 (j + 1))
   | some q => if 0 ≤ q ∧ q < (l.length : Int) then (if rd out q < 0 then (if list.length < 17592186044416 then impl_parts.l3 NF k l (out.set q.toNat i) i (list ++ [q]) t ds (wrap64 (j + 1)) else none) else impl_parts.l3 NF k l out i list t ds (wrap64 (j + 1))) else none) else none) else impl_parts.l2 NF k l out i list (wrap64 (t + 1))
end
def impl_parts.f (NF : S46 → List S46) (k : Nat) (l : List S46) : Option (List Int) := if (0 < l.length ∧ l.length ≤ 35184372088832) ∧ (∀ c ∈ l, okc c) then impl_parts.l1 NF k l (List.replicate l.length (-1)) 0 else none
theorem mapZ (w : World) : (zeroValue 3).run Tryz.prog w = .ok (.int .i64 0) w := by kernel_rfl
theorem cellLaid : Go.Maps.Keyed Tryz.prog 46 := Go.Maps.Keyed.of_law (Go.deep_law_laid (m := 3) kr_ (by omega) (of_decide_eq_true kr_) kr_ kr_)
theorem cellKeyed (c : S46) (h : okc c) : ∃ l, keyOf Tryz.prog 46 (enc2 (cellKey c)) = some l :=
 key2 Tryz.underlying46 kr_ kr_ Tryz.underlying2 Tryz.underlying2 kr_ kr_ rfl rfl (by decide) (by decide) ⟨Tryz.prog.types.size - 1, by kernel_rfl⟩ c.f0 c.f1 h.1 h.2
theorem info8 : (Tryz.prog.info? 2).map (fun i => (i.zero, i.size, i.bytes)) = some (some (.int .i64 0), 1, 8) := by kernel_rfl
theorem wrapS (i : Nat) (h : i < 4611686018427387904) : wrap64 ((i : Int) + 1) = ((i + 1 : Nat) : Int) := by unfold wrap64; omega
theorem fillS (i n : Nat) (h : i < n) : (List.replicate i (-1 : Int) ++ List.replicate (n - i) 0).set i (-1) = List.replicate (i + 1) (-1) ++ List.replicate (n - (i + 1)) 0 := by
 rw [List.set_append_right _ _ (by simp), List.length_replicate, Nat.sub_self, List.replicate_succ', List.append_assoc]
 congr 1
 rw [show n - i = (n - (i + 1)) + 1 from by omega, List.replicate_succ]
 rfl
theorem placeS (l : List S46) (i : Nat) (x : Int × Int) : (if x = cellKey (rd_T46 l (i : Int)) then some (Value.int .i64 (i : Int)) else placeF l i x) = placeF l (i + 1) x := by
 unfold placeF
 rw [atCell]
 by_cases h : x = cellKey (rd_T46 l (i : Int))
 ·rw [if_pos h, if_pos h]
  rfl
 ·rw [if_neg h, if_neg h]
theorem rd_mem (l : List S46) (i : Int) (h0 : 0 ≤ i) (h : i < (l.length : Int)) : rd_T46 l i ∈ l := by
 unfold rd_T46
 rw [List.getD_eq_getElem?_getD, List.getElem?_eq_getElem (by omega), Option.getD_some]
 exact List.getElem_mem _
theorem info8i : (Tryz.prog.info? 3).map (fun i => (i.zero, i.size, i.bytes)) = some (some (.int .i64 0), 1, 8) := by kernel_rfl
structure NearP (gn : Nat) (NF : S46 → List S46) : Prop where
 eg : ∀ args w, (callFunc gn args).run Tryz.prog w = .ok (.enter gn args) w
 calls : ∀ (c : S46) (W : World), Calls Tryz.prog gn #[.agg #[.int .i64 c.f0, .int .i64 c.f1]] W fun e w' => ∃ v, e = .returned v ∧ Kd.R k46 46 w' W.heap.size (fun _ => True) v (NF c) ∧ Below W.heap.size W w'
set_option maxHeartbeats 4000000 in
set_option maxRecDepth 100000 in
theorem impl_parts.calls (gn : Nat) (NF : S46 → List S46) (hN : NearP gn NF) (k : Nat) (A0 : Option Addr) (c0 : Nat) (l0 : List S46) (r : List Int) (w : World) (hr0 : Kd.C k46 w A0 l0.length l0) (hc0 : l0.length ≤ c0) (h : impl_parts.f NF k l0 = some r) :
  Calls Tryz.prog 92 #[.slice A0 l0.length c0, .func (.func gn) #[] #[]] w fun e w' => ∃ v0_ : Value, e = .returned v0_ ∧ Kd.R (Kd.int .i64) 2 w' w.heap.size (fun _ => True) v0_ r ∧ Below w.heap.size w w' := by
 have eg := hN.eg
 have HNP := Aside0.mk hN
 clear hN
 unfold impl_parts.f at h
 split at h
 case isFalse => exact absurd h (by simp)
 rename_i hl
 obtain ⟨⟨hp, hl⟩, hok⟩ := hl
 have hu := Tryz.underlying46
 have HR0 := Aside0.mk hr0
 have HL0 := Aside0.mk hc0
 have H' := Aside0.mk h
 have HL := Aside0.mk hl
 have HP := Aside0.mk hp
 have HOK := Aside0.mk hok
 clear hr0 hc0 h hl hok hp
 have HB := a0_ (Below.refl w.heap.size w)
 have hmm := @run_makeMap Tryz.prog
 go_enter Tryz.func92, Tryz.ntmps92
 have HM := a0_ (MapF.made Tryz.prog 46 enc2 w)
 go_wp2_with (first | ((with_reducible refine gate_dst (N := 19) rfl ?_); refine Kd.R_make (Kd.int .i64) (w0 := w) w.heap.size 2 rfl (N := 19) rfl 53 _ _ rfl (l0.length : Int) rfl rfl Tryz.underlying53 (.int .i64 0) 8 info8 rfl (by decide) (by omega) 0 (ok := fun _ => True) (okp := fun _ => True) rfl (fun _ hk => hk) trivial (by omega) (by have := HL.out; omega) (below_alloc HB.out _) (below_size (below_alloc HB.out _)) ?_; intro vo w2 ho hb hg _; obtain ⟨g, cap, eo, gb, _, _, _⟩ := Kd.R_form ho (by have := HP.out; simp; omega); subst eo; have GB := Aside0.mk gb; have HM2 := a0_ (HM.out.grown hg (by simp)); have HO := Aside0.mk ho; have HB2 := Aside0.mk hb; clear ho hb hg gb))
 clear HM HB
 simp only [List.length_replicate, Int.toNat_natCast] at HO ⊢
 have HO0 : Aside0 (Kd.R (Kd.int .i64) 2 w2 w.heap.size (fun _ => True) (.slice (some ⟨g, 0, none⟩) l0.length cap) (List.replicate 0 (-1) ++ List.replicate (l0.length - 0) 0)) := a0_ (by simpa using HO.out)
 have HM0 : Aside0 (MapF Tryz.prog 46 enc2 w2 w.heap.size 0 (placeF l0 0)) := a0_ (HM2.out.ext (fun _ => rfl))
 clear HO HM2
 go_loopg [22] l0.length (fun kq v22 w' => ∃ i : Nat, v22 = .int .i64 (i : Int) ∧ Aside0 (kq + i = l0.length) ∧ Aside0 (MapF Tryz.prog 46 enc2 w' w.heap.size i (placeF l0 i)) ∧ Aside0 (Kd.R (Kd.int .i64) 2 w' w.heap.size (fun _ => True) (.slice (some ⟨g, 0, none⟩) l0.length cap) (List.replicate i (-1) ++ List.replicate (l0.length - i) 0)) ∧ Aside0 (Below w.heap.size w w'))
 case atStart => exact ⟨0, rfl, ⟨by omega⟩, HM0, HO0, HB2⟩
 case round =>
  clear HM0 HO0 HB2
  obtain ⟨i, rfl, HI, HM, HO, HB⟩ := hrel
  cases gk with
  | succ k1 =>
   have c1 : decide ((i : Int) < (l0.length : Int)) = true := decide_eq_true (by have := HI.out; omega)
   have c1n : decide (i < l0.length) = true := decide_eq_true (by have := HI.out; omega)
   have p1 : 0 ≤ (i : Int) := by omega
   have q1 : (i : Int) < (l0.length : Int) := of_decide_eq_true c1
   obtain ⟨ad1, e1, hx0, hx1⟩ := at_T46 HR0.out (i : Int) p1 q1
   cases e1
   rw [Int.toNat_natCast] at hx0 hx1
   replace hx0 := (HB.out.cell (World.block_lt_of_cell? w _ hx0)).trans hx0
   replace hx1 := (HB.out.cell (World.block_lt_of_cell? w _ hx1)).trans hx1
   have KC := a0_ (HOK.out _ (rd_mem l0 (i : Int) p1 q1))
   replace p1 := eq_true p1
   replace q1 := eq_true q1
   go_wp2_with (first | (at_mapUpdate; refine wpList_putF rfl _ _ _ 108 rfl 46 3 cellLaid Tryz.underlying108 enc2 w.heap.size i (placeF l0 i) rfl (HM.out.alloc _) (by have := HI.out; have := HL.out; unfold maxLen; omega) (cellKey (rd_T46 l0 (i : Int))) rfl (fun q hq => enc2_inj _ _ hq) (cellKeyed _ KC.out) (.int .i64 (i : Int)) rfl ?_; intro w3 hm3 hg3; have HM3 := a0_ (hm3.ext (placeS l0 i)); have HO3 := a0_ (Kd.R_mapTurn (Kd.R_alloc HO.out _) (MapF.block (HM.out.alloc _)) hg3); have HB3 := a0_ (below_mapTurn (below_alloc HB.out _) hg3 (Nat.le_refl _) (below_size (below_alloc HB.out _))); clear hm3 hg3; obtain ⟨hx5, hf5⟩ := Kd.R_celln 0 HO3.out (i : Int) (by omega) (of_decide_eq_true c1); rw [Int.toNat_natCast] at hx5 hf5; have HP3 := Kd.R_putg HO3.out (i : Int) (-1); rw [Int.toNat_natCast] at HP3) | ((with_reducible refine gate_store (t := 2) (p := 32) rfl ?_); refine store_event (t := 2) (p := 32) (v := ?vo_) (w1 := (w3.setCell ⟨g, i, none⟩ (.int .i64 (-1)))) ?hg ?ho ?hn ?hr ?_; (case ho => rfl); (case hg => rfl); (case hn => rfl); (case hr => first | (go_simp; done) | (go_simp; rfl)); intro w4 hw; have hg4 : w3.grownBy w4 (some g) := (by rw [hw]; exact HP3.2); have HM4 := a0_ (HM3.out.cellTurn (Kd.R_typed HO3.out g rfl |>.elim fun c hc => ⟨c, _, _, hc⟩) hg4); have HO4 := a0_ (by rw [hw]; exact HP3.1 : Kd.R (Kd.int .i64) 2 w4 w.heap.size (fun _ => True) (.slice (some ⟨g, 0, none⟩) l0.length cap) ((List.replicate i (-1) ++ List.replicate (l0.length - i) 0).set i (-1))); have HB4 := a0_ (by rw [hw]; exact below_set HB3.out GB.out : Below w.heap.size w w4); clear hw HP3 hg4))
   go_roundg k1
   case measure => omega
   case rel => exact ⟨i + 1, by rw [wrapS i (by have := HI.out; have := HL.out; omega)], ⟨by have := HI.out; omega⟩, HM4, ⟨by have h := HO4.out; rw [fillS i l0.length (by have := HI.out; omega)] at h; exact h⟩, HB4⟩
  | zero =>
   obtain rfl : i = l0.length := by have := HI.out; omega
   have c1 : decide ((l0.length : Int) < (l0.length : Int)) = false := decide_eq_false (by omega)
   rw [Nat.sub_self, List.replicate_zero, List.append_nil] at HO
   go_wp2
   clear HI c1
   go_loopg [36] k (fun kq v36 w' => ∃ (out : List Int) (i : Int), v36 = .int .i64 i ∧ Aside0 (impl_parts.l1 NF kq l0 out i = some r) ∧ Aside0 (kq ≤ k) ∧ Aside0 (MapF Tryz.prog 46 enc2 w' w.heap.size l0.length (placeF l0 l0.length)) ∧ Aside0 (Kd.R (Kd.int .i64) 2 w' w.heap.size (fun _ => True) (.slice (some ⟨g, 0, none⟩) l0.length cap) out) ∧ Aside0 (Below w.heap.size w w'))
   case atStart => exact ⟨_, 0, rfl, H', ⟨Nat.le_refl _⟩, HM, HO, HB⟩
   case round =>
    clear H' HM HO HB
    obtain ⟨out, i, rfl, HA, HK1, HM, HO, HB⟩ := hrel
    cases gk with
    | zero => exact absurd HA.out (by simp [impl_parts.l1])
    | succ k1 =>
     have H := HA.out
     clear HA
     simp only [impl_parts.l1] at H
     by_cases c : i < (l0.length : Int)
     ·rw [if_pos c] at H
      have c0 : decide (i < (l0.length : Int)) = true := decide_eq_true c
      by_cases d : 0 ≤ i
      ·rw [if_pos d] at H
       obtain ⟨hx, hf⟩ := Kd.R_celln 0 HO.out i d c
       replace hx : wr.cell? ⟨g, i.toNat, none⟩ = some (.int .i64 (rd out i)) := hx
       by_cases e : rd out i ≥ 0
       ·rw [if_pos e] at H
        have e0 : decide (0 ≤ rd out i) = true := decide_eq_true e
        have H' := Aside0.mk H
        replace c := eq_true c
        replace d := eq_true d
        clear H e
        go_wp2
        go_roundg k1
        case measure => have := HK1.out; omega
        case rel => exact ⟨out, wrap64 (i + 1), rfl, H', ⟨by have := HK1.out; omega⟩, HM, HO, HB⟩
       ·rw [if_neg e] at H
        have e0 : decide (0 ≤ rd out i) = false := decide_eq_false e
        have H' := Aside0.mk H
        have HP3 := Kd.R_putg HO.out i i
        replace c := eq_true c
        replace d := eq_true d
        clear H e
        have HMc := HM
        have HOc := HO
        have HBc := HB
        go_wp2_with (first | ((with_reducible refine gate_store (t := 2) (p := 47) rfl ?_); refine store_event (t := 2) (p := 47) (v := ?vo_47) (w1 := (wr.setCell ⟨g, (i : Int).toNat, none⟩ (.int .i64 i))) ?hg ?ho ?hn ?hr ?_; (case ho => rfl); (case hg => rfl); (case hn => rfl); (case hr => first | (go_simp; done) | (go_simp; rfl)); intro w4 hw; have hg4 : World.grownBy _ w4 (some g) := (by rw [hw]; exact HP3.2); have nM := a0_ (HMc.out.cellTurn (Kd.R_typed HOc.out g rfl |>.elim fun c hc => ⟨c, _, _, hc⟩) hg4); have nO := a0_ (by rw [hw]; exact HP3.1 : Kd.R (Kd.int .i64) 2 w4 w.heap.size (fun _ => True) (.slice (some ⟨g, 0, none⟩) l0.length cap) (out.set i.toNat i)); have nB := a0_ (by rw [hw]; exact below_set HBc.out GB.out : Below w.heap.size w w4); clear hw HP3; clear hg4) | ((with_reducible refine gate_dst (N := 49) rfl ?_); refine Kd.R_lit (Kd.int .i64) _ 3 ?hg (N := 49) ?hd (xs := ([i] : List Int)) (inner := [.int .i64 i]) (ok := fun _ => True) (okp := fun _ => True) ?hr ?hp (fun _ hk => hk) trivial (Below.refl _ _) (Nat.le_refl _) (by simp) ?_; (case hd => rfl); (case hg => rfl); (case hr => first | (go_simp; done) | (go_simp; rfl)); (case hp => exact (Reps.one (show Kd.M (Kd.int .i64) _ _ _ i [.int .i64 i] from rfl) (Reps.none _ _))); intro vl w5 ho5 hb5 hg5 hn5; have HM5 := a0_ (nM.out.below' hb5); have HO5 := a0_ (Kd.R_below nO.out hb5); have HL5 := a0_ (Kd.R_lower ho5 (below_size nB.out)); have HB5 := a0_ (below_step nB.out hb5); clear ho5 hb5 hg5 hn5))
        clear HMc HOc HBc nM nO nB HM HO HB hx hf c0 c d e0
        go_loopg [10, 11] k1 (fun kq v10 v11 w' => ∃ (out list : List Int) (t : Int), v11 = .int .i64 t ∧ Aside0 (impl_parts.l2 NF kq l0 out i list t = some r) ∧ Aside0 (kq ≤ k1) ∧ Aside0 (MapF Tryz.prog 46 enc2 w' w.heap.size l0.length (placeF l0 l0.length)) ∧ Aside0 (Kd.R (Kd.int .i64) 2 w' w.heap.size (fun _ => True) (.slice (some ⟨g, 0, none⟩) l0.length cap) out) ∧ Aside0 (Kd.R (Kd.int .i64) 3 w' w.heap.size (fun _ => True) v10 list) ∧ Aside0 (Below w.heap.size w w'))
        case atStart => exact ⟨_, _, 0, rfl, H', ⟨Nat.le_refl _⟩, HM5, HO5, HL5, HB5⟩
        case round =>
         clear H' HM5 HO5 HL5 HB5
         obtain ⟨out, list, t, rfl, HA, HK2, HM, HO, HQ, HB⟩ := hrel
         cases gk with
         | zero => exact absurd HA.out (by simp [impl_parts.l2])
         | succ k2 =>
          have H := HA.out
          clear HA
          simp only [impl_parts.l2] at H
          obtain ⟨Al, cl, el⟩ := Kd.R_slice HQ.out
          subst el
          by_cases c : t < (list.length : Int)
          ·rw [if_pos c] at H
           have c0 : decide (t < (list.length : Int)) = true := decide_eq_true c
           by_cases d : (0 ≤ t ∧ 0 ≤ rd list t) ∧ rd list t < (l0.length : Int)
           ·rw [if_pos d] at H
            obtain ⟨⟨d0, d1⟩, d2⟩ := d
            obtain ⟨ds, hA, H⟩ := Option.bind_eq_some_iff.1 H
            have A' := Aside0.mk hA
            have H' := Aside0.mk H
            clear H hA
            obtain ⟨adl, e1, hxl⟩ := Kd.at_int (Kd.R_reads' HQ.out).2.2 t d0 c
            cases e1
            obtain ⟨ad, e2, hx0, hx1⟩ := at_T46 HR0.out (rd list t) d1 d2
            cases e2
            replace hx0 := (HB.out.cell (World.block_lt_of_cell? w _ hx0)).trans hx0
            replace hx1 := (HB.out.cell (World.block_lt_of_cell? w _ hx1)).trans hx1
            replace c := eq_true c
            replace d0 := eq_true d0
            replace d1 := eq_true d1
            replace d2 := eq_true d2
            go_wp2_with (first | (go_at_fn gn; refine (HNP.out.calls (rd_T46 l0 (rd list t)) _).mono ?_; rintro e w5 ⟨vd, rfl, hod, hb5⟩; rw [Option.some.inj A'.out] at hod; obtain ⟨Ad, cd, ed⟩ := Kd.R_slice hod; subst ed; have HD5 := a0_ (Kd.R_lower hod (below_size HB.out)); have HM5 := a0_ (HM.out.below' hb5); have HO5 := a0_ (Kd.R_below HO.out hb5); have HQ5 := a0_ (Kd.R_below HQ.out hb5); have HB5 := a0_ (below_step HB.out hb5); clear hod hb5))
            clear HM HO HQ HB hx0 hx1 hxl c c0 d0 d1 d2
            go_loopg [10, 66] k2 (fun kq v10 v66 w' => ∃ (out list : List Int) (j : Int), v66 = .int .i64 j ∧ Aside0 (impl_parts.l3 NF kq l0 out i list t ds j = some r) ∧ Aside0 (kq ≤ k2) ∧ Aside0 (MapF Tryz.prog 46 enc2 w' w.heap.size l0.length (placeF l0 l0.length)) ∧ Aside0 (Kd.R (Kd.int .i64) 2 w' w.heap.size (fun _ => True) (.slice (some ⟨g, 0, none⟩) l0.length cap) out) ∧ Aside0 (Kd.R (Kd.int .i64) 3 w' w.heap.size (fun _ => True) v10 list) ∧ Aside0 (Kd.R k46 46 w' w.heap.size (fun _ => True) (.slice Ad ds.length cd) ds) ∧ Aside0 (Below w.heap.size w w'))
            case atStart => exact ⟨_, _, 0, rfl, H', ⟨Nat.le_refl _⟩, HM5, HO5, HQ5, HD5, HB5⟩
            case round =>
             clear H' HM5 HO5 HQ5 HD5 HB5 A'
             obtain ⟨out, list, j, rfl, HA, HK3, HM, HO, HQ, HD, HB⟩ := hrel
             cases gk with
             | zero => exact absurd HA.out (by simp [impl_parts.l3])
             | succ k3 =>
              have H := HA.out
              clear HA
              simp only [impl_parts.l3] at H
              by_cases c : j < (ds.length : Int)
              ·rw [if_pos c] at H
               have c0 : decide (j < (ds.length : Int)) = true := decide_eq_true c
               by_cases d : 0 ≤ j ∧ okc (rd_T46 ds j)
               ·rw [if_pos d] at H
                obtain ⟨d0, d1⟩ := d
                have KC := Aside0.mk d1
                clear d1
                obtain ⟨ad, e2, hx0, hx1⟩ := at_T46 (Kd.R_reads' HD.out).2.2 j d0 c
                cases e2
                replace c := eq_true c
                replace d0 := eq_true d0
                cases hq : atCell l0 l0.length (cellKey (rd_T46 ds j)) with
                | none =>
                 rw [hq] at H
                 have H' := Aside0.mk H
                 clear H
                 go_wp2_with (first | (at_lookup; refine wpList_lookF rfl _ _ 108 rfl 46 3 cellLaid Tryz.underlying108 (mapZ _) enc2 w.heap.size l0.length (placeF l0 l0.length) rfl (HM.out.alloc _) (cellKey (rd_T46 ds j)) rfl (cellKeyed _ KC.out) none (by unfold placeF; rw [hq]; rfl) (.int .i64 0) false rfl rfl ?_))
                 go_roundg k3
                 case measure => have := HK1.out; have := HK2.out; have := HK3.out; omega
                 case rel => exact ⟨out, list, wrap64 (j + 1), rfl, H', ⟨by have := HK3.out; omega⟩, HM.out.alloc _ |> Aside0.mk, ⟨Kd.R_alloc HO.out _⟩, ⟨Kd.R_alloc HQ.out _⟩, ⟨Kd.R_alloc HD.out _⟩, ⟨below_alloc HB.out _⟩⟩
                | some q =>
                 rw [hq] at H
                 simp only at H
                 by_cases e : 0 ≤ q ∧ q < (l0.length : Int)
                 ·rw [if_pos e] at H
                  obtain ⟨e0, e1⟩ := e
                  obtain ⟨hy, hf⟩ := Kd.R_celln 0 (Kd.R_alloc HO.out (.cells #[.int .i64 (rd_T46 ds j).f0, .int .i64 (rd_T46 ds j).f1] 46)) q e0 e1
                  replace hy : World.cell? _ ⟨g, q.toNat, none⟩ = some (.int .i64 (rd out q)) := hy
                  have HP3 := Kd.R_putg (Kd.R_alloc HO.out (.cells #[.int .i64 (rd_T46 ds j).f0, .int .i64 (rd_T46 ds j).f1] 46)) q i
                  have e0b := decide_eq_true e0
                  have e1b := decide_eq_true e1
                  replace e0 := eq_true e0
                  replace e1 := eq_true e1
                  by_cases f : rd out q < 0
                  ·rw [if_pos f] at H
                   have f0 : decide (rd out q < 0) = true := decide_eq_true f
                   by_cases b : list.length < 17592186044416
                   ·rw [if_pos b] at H
                    have H' := Aside0.mk H
                    have LB := Aside0.mk b
                    clear H b
                    have HMc := a0_ (HM.out.alloc (.cells #[.int .i64 (rd_T46 ds j).f0, .int .i64 (rd_T46 ds j).f1] 46))
                    have HOc := a0_ (Kd.R_alloc HO.out (.cells #[.int .i64 (rd_T46 ds j).f0, .int .i64 (rd_T46 ds j).f1] 46))
                    have HBc := a0_ (below_alloc HB.out (.cells #[.int .i64 (rd_T46 ds j).f0, .int .i64 (rd_T46 ds j).f1] 46))
                    have HQc := a0_ (Kd.R_alloc HQ.out (.cells #[.int .i64 (rd_T46 ds j).f0, .int .i64 (rd_T46 ds j).f1] 46))
                    have HDc := a0_ (Kd.R_alloc HD.out (.cells #[.int .i64 (rd_T46 ds j).f0, .int .i64 (rd_T46 ds j).f1] 46))
                    go_wp2_with (first | (at_lookup; refine wpList_lookF rfl _ _ 108 rfl 46 3 cellLaid Tryz.underlying108 (mapZ _) enc2 w.heap.size l0.length (placeF l0 l0.length) rfl (HM.out.alloc _) (cellKey (rd_T46 ds j)) rfl (cellKeyed _ KC.out) (some (.int .i64 q)) (by unfold placeF; rw [hq]; rfl) (.int .i64 q) true rfl rfl ?_) | ((with_reducible refine gate_store (t := 2) (p := 87) rfl ?_); refine store_event (t := 2) (p := 87) (v := ?vo_87) (w1 := ((wr.alloc (.cells #[.int .i64 (rd_T46 ds j).f0, .int .i64 (rd_T46 ds j).f1] 46)).setCell ⟨g, (q : Int).toNat, none⟩ (.int .i64 i))) ?hg ?ho ?hn ?hr ?_; (case ho => rfl); (case hg => rfl); (case hn => rfl); (case hr => first | (go_simp; done) | (go_simp; rfl)); intro w6 hw; have hg4 : World.grownBy _ w6 (some g) := (by rw [hw]; exact HP3.2); have nM := a0_ (HMc.out.cellTurn (Kd.R_typed HOc.out g rfl |>.elim fun c hc => ⟨c, _, _, hc⟩) hg4); have nO := a0_ (by rw [hw]; exact HP3.1 : Kd.R (Kd.int .i64) 2 w6 w.heap.size (fun _ => True) (.slice (some ⟨g, 0, none⟩) l0.length cap) (out.set q.toNat i)); have nB := a0_ (by rw [hw]; exact below_set HBc.out GB.out : Below w.heap.size w w6); have nQ := a0_ (Kd.R_over' (v := (.slice (some ⟨g, 0, none⟩) l0.length cap)) HQc.out (Kd.R_typed HOc.out) (by decide) hg4); have nD := a0_ (Kd.R_over' (v := (.slice (some ⟨g, 0, none⟩) l0.length cap)) HDc.out (Kd.R_typed HOc.out) (by decide) hg4); clear hw HP3; clear hg4) | ((with_reducible refine gate_builtin (b := .append) (xs := #[.tmp 88, .tmp 90]) rfl ?_); at_builtin; refine Kd.R_append (Kd.int .i64) (w0 := w) w.heap.size rfl (.tmp 88) (.tmp 90) 109 3 (.int .i64 0) 8 rfl Tryz.underlying109 info8i rfl (by decide) (by omega) u10 list q [.int .i64 q] (fun _ => True) (fun _ => False) rfl (by first | (go_simp; done) | (go_simp; rfl)) ?aP (fun _ hk => hk.elim) ?aF ?aO ?aB ?aS ?aL ?_; (case aP => exact rfl); (case aB => exact nB.out); (case aF => exact (fun _ _ => trivial)); (case aO => exact nQ.out); (case aS => exact below_size nB.out); (case aL => have := LB.out; omega); intro v7 w7 ho hb hg hat; have HM7 := a0_ (nM.out.rowTurn nQ.out hg); have HO7 := a0_ (Kd.R_over' nO.out (Kd.R_typed nQ.out) (by decide) hg); have HD7 := a0_ (Kd.R_over' nD.out (Kd.R_typed nQ.out) (by decide) hg); have HQ7 := Aside0.mk ho; have HB7 := Aside0.mk hb; clear ho hb hg hat))
                    go_roundg k3
                    case measure => have := HK1.out; have := HK2.out; have := HK3.out; omega
                    case rel => exact ⟨_, _, wrap64 (j + 1), rfl, H', ⟨by have := HK3.out; omega⟩, HM7, HO7, HQ7, HD7, HB7⟩
                   ·rw [if_neg b] at H
                    exact absurd H (by simp)
                  ·rw [if_neg f] at H
                   have f0 : decide (rd out q < 0) = false := decide_eq_false f
                   have H' := Aside0.mk H
                   clear H HP3
                   go_wp2_with (first | (at_lookup; refine wpList_lookF rfl _ _ 108 rfl 46 3 cellLaid Tryz.underlying108 (mapZ _) enc2 w.heap.size l0.length (placeF l0 l0.length) rfl (HM.out.alloc _) (cellKey (rd_T46 ds j)) rfl (cellKeyed _ KC.out) (some (.int .i64 q)) (by unfold placeF; rw [hq]; rfl) (.int .i64 q) true rfl rfl ?_))
                   go_roundg k3
                   case measure => have := HK1.out; have := HK2.out; have := HK3.out; omega
                   case rel => exact ⟨out, list, wrap64 (j + 1), rfl, H', ⟨by have := HK3.out; omega⟩, HM.out.alloc _ |> Aside0.mk, ⟨Kd.R_alloc HO.out _⟩, ⟨Kd.R_alloc HQ.out _⟩, ⟨Kd.R_alloc HD.out _⟩, ⟨below_alloc HB.out _⟩⟩
                 ·rw [if_neg e] at H
                  exact absurd H (by simp)
               ·rw [if_neg d] at H
                exact absurd H (by simp)
              ·rw [if_neg c] at H
               have c0 : decide (j < (ds.length : Int)) = false := decide_eq_false c
               have H' := Aside0.mk H
               clear H c
               go_wp2
               go_roundg k3
               case measure => have := HK1.out; have := HK2.out; have := HK3.out; omega
               case rel => exact ⟨out, list, wrap64 (t + 1), rfl, H', ⟨by have := HK2.out; have := HK3.out; omega⟩, HM, HO, HQ, HB⟩
           ·rw [if_neg d] at H
            exact absurd H (by simp)
          ·rw [if_neg c] at H
           have c0 : decide (t < (list.length : Int)) = false := decide_eq_false c
           have H' := Aside0.mk H
           clear H c
           go_wp2
           go_roundg k2
           case measure => have := HK1.out; have := HK2.out; omega
           case rel => exact ⟨out, wrap64 (i + 1), rfl, H', ⟨by have := HK1.out; have := HK2.out; omega⟩, HM, HO, HB⟩
      ·rw [if_neg d] at H
       exact absurd H (by simp)
     ·rw [if_neg c] at H
      have c0 : decide (i < (l0.length : Int)) = false := decide_eq_false c
      obtain rfl := Option.some.inj H
      clear H c
      go_wp2
      go_ret
      exact ⟨_, rfl, HO.out, HB.out⟩
theorem impl_parts.mono_l (NF : S46 → List S46) : ∀ k, (∀ l out i, LeO (impl_parts.l1 NF k l out i) (impl_parts.l1 NF (k + 1) l out i)) ∧ (∀ l out i list t, LeO (impl_parts.l2 NF k l out i list t) (impl_parts.l2 NF (k + 1) l out i list t)) ∧ (∀ l out i list t ds j, LeO (impl_parts.l3 NF k l out i list t ds j) (impl_parts.l3 NF (k + 1) l out i list t ds j))
 | 0 => ⟨fun _ _ _ r h => by simp [impl_parts.l1] at h, fun _ _ _ _ _ r h => by simp [impl_parts.l2] at h, fun _ _ _ _ _ _ _ r h => by simp [impl_parts.l3] at h⟩
 | k + 1 => by
  obtain ⟨i1, i2, i3⟩ := impl_parts.mono_l NF k
  refine ⟨fun l out i => ?_, fun l out i list t => ?_, fun l out i list t ds j => ?_⟩
  ·unfold impl_parts.l1
   exact LeO.ite (LeO.ite (LeO.ite (i1 _ _ _) (i2 _ _ _ _ _)) (LeO.none _)) (LeO.refl _)
  ·unfold impl_parts.l2
   exact LeO.ite (LeO.ite (LeO.bind (LeO.refl _) (fun ds => i3 _ _ _ _ _ _ _)) (LeO.none _)) (i1 _ _ _)
  ·unfold impl_parts.l3
   refine LeO.ite (LeO.ite ?_ (LeO.none _)) (i2 _ _ _ _ _)
   cases atCell l l.length (cellKey (rd_T46 ds j)) with
   | none => exact i3 _ _ _ _ _ _ _
   | some q => exact LeO.ite (LeO.ite (LeO.ite (i3 _ _ _ _ _ _ _) (LeO.none _)) (i3 _ _ _ _ _ _ _)) (LeO.none _)


/-! ### impl_connected: function 48 -/
/-! Whether the cells hang together. -/
def impl_connected.f (NF : S46 → List S46) (k : Nat) (l : List S46) : Option Bool := (impl_parts.f NF k l).bind fun o => (slices_Max_int64_int64.f k o).bind fun m => if m = 0 then some true else some false
theorem impl_connected.mono (NF : S46 → List S46) (l0 : List S46) (k : Nat) : LeO (impl_connected.f NF k l0) (impl_connected.f NF (k + 1) l0) := by
 unfold impl_connected.f
 refine LeO.bind ?_ (fun o => LeO.bind (slices_Max_int64_int64.mono o k) (fun m => LeO.refl _))
 unfold impl_parts.f
 exact LeO.ite ((impl_parts.mono_l NF k).1 _ _ _) (LeO.refl _)
set_option maxHeartbeats 1000000 in
theorem impl_connected.calls (gn : Nat) (NF : S46 → List S46) (hN : NearP gn NF) (k : Nat) (A0 : Option Addr) (c0 : Nat) (l0 : List S46) (r : Bool) (w : World) (hr0 : Kd.C k46 w A0 l0.length l0) (hc0 : l0.length ≤ c0) (h : impl_connected.f NF k l0 = some r) :
  Calls Tryz.prog 48 #[.slice A0 l0.length c0, .func (.func gn) #[] #[]] w fun e w' => e = .returned (.bool r) ∧ Below w.heap.size w w' := by
 unfold impl_connected.f at h
 obtain ⟨o, ho, h⟩ := Option.bind_eq_some_iff.1 h
 obtain ⟨m, hm, h⟩ := Option.bind_eq_some_iff.1 h
 have HP := a0_ (impl_parts.calls gn NF hN k A0 c0 l0 o w hr0 hc0 ho)
 have HM := Aside0.mk hm
 clear ho hm hr0 hc0 hN
 have hd : (m == 0) = r := by
  by_cases c : m = 0
  ·rw [if_pos c] at h
   rw [← Option.some.inj h]
   simp [c]
  ·rw [if_neg c] at h
   rw [← Option.some.inj h]
   simp [c]
 clear h
 go_enter Tryz.func48, Tryz.ntmps48
 go_wp2_with (first | (go_at_call 92; refine HP.out.mono ?_; rintro e w1 ⟨v, rfl, ho, hb⟩; obtain ⟨Ao, co, eo⟩ := Kd.R_slice ho; subst eo; have HO := Aside0.mk ho; have HB := Aside0.mk hb; clear ho hb) | (go_at_call 91; refine (slices_Max_int64_int64.calls k _ _ o m _ (Kd.R_reads' HO.out).2.2 (Kd.R_reads' HO.out).2.1 HM.out).mono ?_; rintro e w2 ⟨rfl, hb2⟩; have HB2 := a0_ (below_step HB.out hb2); clear hb2))
 go_ret
 exact ⟨by rw [← hd]; rfl, HB2.out⟩


/-! ### impl_IsHexConnected: function 36 -/
/-! Whether a shape hangs together as hexagons. -/
theorem nearH_P : NearP 70 nearH := ⟨nearH_ok.eg, nearH_ok.calls⟩
def impl_IsHexConnected.f (k : Nat) (l0 : List S46) : Option Bool := (impl_IsShape.f k l0).bind fun t => if t = true then impl_connected.f nearH k l0 else some false
theorem impl_IsHexConnected.mono : ∀ l0 k, LeO (impl_IsHexConnected.f k l0) (impl_IsHexConnected.f (k + 1) l0) := by
 intro l0 k
 unfold impl_IsHexConnected.f
 exact LeO.bind (impl_IsShape.mono l0 k) (fun t => LeO.ite (impl_connected.mono nearH l0 k) (LeO.refl _))
set_option maxHeartbeats 1000000 in
theorem impl_IsHexConnected.calls (k : Nat) (A0 : Option Addr) (c0 : Nat) (l0 : List S46) (r : Bool) (w : World) (hr0 : Kd.C k46 w A0 l0.length l0) (hc0 : l0.length ≤ c0) (h : impl_IsHexConnected.f k l0 = some r) :
  Calls Tryz.prog 36 #[.slice A0 l0.length c0] w fun e w' => e = .returned (.bool r) ∧ Below w.heap.size w w' := by
 unfold impl_IsHexConnected.f at h
 obtain ⟨t, ht, h⟩ := Option.bind_eq_some_iff.1 h
 have HS := a0_ (impl_IsShape.calls k A0 c0 l0 t w hr0 hc0 ht)
 have HR := Aside0.mk hr0
 have HC := Aside0.mk hc0
 have H' := Aside0.mk h
 clear ht hr0 hc0 h
 cases t with
 | false =>
  have e := Option.some.inj (H'.out.symm.trans (if_neg (by simp)))
  subst e
  go_enter Tryz.func36, Tryz.ntmps36
  go_wp2_with (go_at_call 65; refine HS.out.mono ?_; rintro e w1 ⟨rfl, hb⟩; have HB := Aside0.mk hb; clear hb)
  go_ret
  exact ⟨rfl, HB.out⟩
 | true =>
  have H2 : Aside0 (impl_connected.f nearH k l0 = some r) := ⟨(if_pos rfl).symm.trans H'.out⟩
  clear H'
  go_enter Tryz.func36, Tryz.ntmps36
  go_wp2_with (first | (go_at_call 65; refine HS.out.mono ?_; rintro e w1 ⟨rfl, hb⟩; have HB := Aside0.mk hb; clear hb) | (go_at_call 48; refine (impl_connected.calls 70 nearH nearH_P k _ _ l0 r _ (Kd.C_below HR.out HB.out) HC.out H2.out).mono ?_; rintro e w2 ⟨rfl, hb2⟩; have HB2 := a0_ (below_step HB.out hb2); clear hb2))
  go_ret
  exact ⟨rfl, HB2.out⟩


/-! ### laws_FnHexShapes: function 5 -/
def laws_FnHexShapes.j0 : Nat → List Int → List (List (S46)) → Int → List (List (S46)) → Int → Bool → Option (Bool)
 | 0, _, _, _, _, _, _ => none
 | k + 1, x0, x4, x5, x6, x9, x128 => if x128 = true then (some false) else (if x5 = 0 then ((laws_roll.f k x0 801).bind fun bt589 => ((laws_dice_below.f bt589.1 bt589.2.1 bt589.2.2 (x6.length : Int)).bind fun bt593 => (if 0 ≤ bt593.1 then (if bt593.1 < (x6.length : Int) then ((impl_HexFree.f k (rd_L3 x6 bt593.1)).bind fun bt597 => (if bt597.2 = 0 then (if x9 = (x4.length : Int) then ((laws_likeCells.f k bt597.1 (rd_L3 x6 bt593.1)).bind fun t602 => (if t602 = true then ((impl_IsHexConnected.f k (rd_L3 x6 bt593.1)).bind fun t604 => (some t604)) else (some false))) else (some false)) else (some false))) else (none)) else (none)))) else (some true))
def laws_FnHexShapes.f (k : Nat) (l0 : List Int) : Option (Bool) := (laws_big.f l0).bind fun t547 => (if t547 = true then (some true) else ((spec_DrawHexShapes.f k l0).bind fun t548 => ((impl_HexShapes.f k t548).bind fun bt549 => ((spec_HexShapes.f k t548).bind fun bt553 => ((impl_CountHexes.f k t548).bind fun bt557 => ((spec_CountHexes.f k t548).bind fun bt560 => ((spec_DrawHexAround.f k l0).bind fun bt563 => ((impl_HexAround.f bt563.1 bt563.2).bind fun bt566 => ((spec_HexAround.f bt563.1 bt563.2).bind fun bt570 => ((spec_DrawHexForm.f k l0).bind fun bt574 => ((impl_HexForm.f k bt574.1 bt574.2).bind fun bt578 => ((spec_HexForm.f k bt574.1 bt574.2).bind fun bt582 => (if bt549.2 = bt553.2 then ((laws_likeShapes.f k bt549.1 bt553.1).bind fun t586 => (if t586 = true then (if bt557.2.2 = bt560.2.2 then (if bt557.1 = bt560.1 then (if bt557.2.1 = bt560.2.1 then (if bt566.2 = bt570.2 then ((laws_likeCells.f k bt566.1 bt570.1).bind fun t587 => (if t587 = true then (if bt578.2 = bt582.2 then ((laws_likeCells.f k bt578.1 bt582.1).bind fun t588 => (laws_FnHexShapes.j0 k l0 bt549.1 bt549.2 bt553.1 bt557.2.1 (!t588))) else (laws_FnHexShapes.j0 k l0 bt549.1 bt549.2 bt553.1 bt557.2.1 true)) else (laws_FnHexShapes.j0 k l0 bt549.1 bt549.2 bt553.1 bt557.2.1 true))) else (laws_FnHexShapes.j0 k l0 bt549.1 bt549.2 bt553.1 bt557.2.1 true)) else (laws_FnHexShapes.j0 k l0 bt549.1 bt549.2 bt553.1 bt557.2.1 true)) else (laws_FnHexShapes.j0 k l0 bt549.1 bt549.2 bt553.1 bt557.2.1 true)) else (laws_FnHexShapes.j0 k l0 bt549.1 bt549.2 bt553.1 bt557.2.1 true)) else (laws_FnHexShapes.j0 k l0 bt549.1 bt549.2 bt553.1 bt557.2.1 true))) else (laws_FnHexShapes.j0 k l0 bt549.1 bt549.2 bt553.1 bt557.2.1 true))))))))))))))
theorem laws_FnHexShapes.mono_l : ∀ k, (∀ y0 y1 y2 y3 y4 y5, LeO (laws_FnHexShapes.j0 k y0 y1 y2 y3 y4 y5) (laws_FnHexShapes.j0 (k + 1) y0 y1 y2 y3 y4 y5))
 | 0 => fun _ _ _ _ _ _ r h => by simp [laws_FnHexShapes.j0] at h
 | k + 1 => by
  have ih0 := laws_FnHexShapes.mono_l k
  ·intro y0 y1 y2 y3 y4 y5
   unfold laws_FnHexShapes.j0
   with_reducible (repeat' first | exact ih0 _ _ _ _ _ _ | exact impl_CountHexes.mono _ _ | exact impl_HexForm.mono _ _ _ | exact impl_HexFree.mono _ _ | exact impl_HexShapes.mono _ _ | exact impl_IsHexConnected.mono _ _ | exact laws_likeCells.mono _ _ _ | exact laws_likeShapes.mono _ _ _ | exact laws_roll.mono _ _ _ | exact spec_CountHexes.mono _ _ | exact spec_DrawHexAround.mono _ _ | exact spec_DrawHexForm.mono _ _ | exact spec_DrawHexShapes.mono _ _ | exact spec_HexForm.mono _ _ _ | exact spec_HexShapes.mono _ _ | exact LeO.refl _ | exact LeO.none _ | refine LeO.ite ?_ ?_ | refine LeO.bind ?_ (fun _ => ?_))
theorem laws_FnHexShapes.mono : ∀ a0 k, LeO (laws_FnHexShapes.f k a0) (laws_FnHexShapes.f (k + 1) a0) := by
 intro a0 k
 have ih0 := laws_FnHexShapes.mono_l k
 unfold laws_FnHexShapes.f
 with_reducible (repeat' first | exact ih0 _ _ _ _ _ _ | exact impl_CountHexes.mono _ _ | exact impl_HexForm.mono _ _ _ | exact impl_HexFree.mono _ _ | exact impl_HexShapes.mono _ _ | exact impl_IsHexConnected.mono _ _ | exact laws_likeCells.mono _ _ _ | exact laws_likeShapes.mono _ _ _ | exact laws_roll.mono _ _ _ | exact spec_CountHexes.mono _ _ | exact spec_DrawHexAround.mono _ _ | exact spec_DrawHexForm.mono _ _ | exact spec_DrawHexShapes.mono _ _ | exact spec_HexForm.mono _ _ _ | exact spec_HexShapes.mono _ _ | exact LeO.refl _ | exact LeO.none _ | refine LeO.ite ?_ ?_ | refine LeO.bind ?_ (fun _ => ?_))
set_option maxHeartbeats 8000000 in
set_option maxRecDepth 100000 in
theorem laws_FnHexShapes.calls (k : Nat) (A0 : Option Addr) (c0 : Nat) (l0 : List Int) (r : Bool) (w : World) (hr0 : Kd.C (Kd.int .u8) w A0 l0.length l0) (hc0 : l0.length ≤ c0) (h : laws_FnHexShapes.f k l0 = some r) :
  Calls Tryz.prog 5 #[.slice A0 l0.length c0] w fun e w' => e = .returned (.bool r) ∧ Below w.heap.size w w' := by
 have hu46 := Tryz.underlying46
 have HR0 := Aside0.mk hr0
 have HC0 := Aside0.mk hc0
 clear hr0 hc0
 have HB := a0_ (Below.refl w.heap.size w)
 have H := h
 clear h
 unfold laws_FnHexShapes.f at H
 obtain ⟨t547, A2, H⟩ := bs_ H
 by_cases c3 : t547 = true
 ·subst c3
  rw [if_pos rfl] at H
  obtain rfl := Option.some.inj H
  go_enter Tryz.func5, Tryz.ntmps5
  go_wp2_with (first | ((with_reducible refine gate_callee (f := 6) rfl ?_); refine goesL_ (some 29) rfl rfl Tryz.func6 kr_ rfl #[.slice A0 l0.length c0] rfl ta_ ?_; (with_reducible refine (laws_big.calls _ _ l0 true _ ?side1 ?side2 A2.out).mono ?_); (case side1 => exact ca_ HR0.out); (case side2 => exact HC0.out); rintro e w' ⟨rfl, ⟨nd, rfl⟩⟩; refine ⟨_, rfl, ?_⟩))
  go_ret
  exact ⟨er_, bl0_⟩
 ·replace c3 := Bool.eq_false_iff.mpr c3
  subst c3
  rw [if_neg (show ¬ (false = true) by decide)] at H
  obtain ⟨t548, A4, H⟩ := bs_ H
  obtain ⟨⟨t549, t552⟩, A5, H⟩ := bs_ H
  dsimp only at H
  obtain ⟨⟨t553, t556⟩, A6, H⟩ := bs_ H
  dsimp only at H
  obtain ⟨⟨t557, t558, t559⟩, A7, H⟩ := bs_ H
  dsimp only at H
  obtain ⟨⟨t560, t561, t562⟩, A8, H⟩ := bs_ H
  dsimp only at H
  obtain ⟨⟨t563, t564⟩, A9, H⟩ := bs_ H
  dsimp only at H
  obtain ⟨⟨t566, t569⟩, A10, H⟩ := bs_ H
  dsimp only at H
  obtain ⟨⟨t570, t573⟩, A11, H⟩ := bs_ H
  dsimp only at H
  obtain ⟨⟨t574, t575⟩, A12, H⟩ := bs_ H
  dsimp only at H
  obtain ⟨⟨t578, t579⟩, A13, H⟩ := bs_ H
  dsimp only at H
  obtain ⟨⟨t582, t583⟩, A14, H⟩ := bs_ H
  dsimp only at H
  have HC15 := Aside0.mk H
  clear H
  go_enter Tryz.func5, Tryz.ntmps5
  go_upto_region 14 with (first | ((with_reducible refine gate_callee (f := 6) rfl ?_); refine goesL_ (some 29) rfl rfl Tryz.func6 kr_ rfl #[.slice A0 l0.length c0] rfl ta_ ?_; (with_reducible refine (laws_big.calls _ _ l0 false _ ?side1 ?side2 A2.out).mono ?_); (case side1 => exact ca_ HR0.out); (case side2 => exact HC0.out); rintro e w' ⟨rfl, ⟨nd, rfl⟩⟩; refine ⟨_, rfl, ?_⟩) | ((with_reducible refine gate_callee (f := 24) rfl ?_); refine goesL_ (some 31) rfl rfl Tryz.func24 kr_ rfl #[.slice A0 l0.length c0] rfl ta_ ?_; (with_reducible refine (spec_DrawHexShapes.calls k _ _ l0 t548 _ ?side1 ?side2 A4.out).mono ?_); (case side1 => exact ca_ HR0.out); (case side2 => exact HC0.out); rintro e w16 ⟨rfl, hb⟩; refine ⟨_, rfl, ?_⟩; replace HB := a0_ (below_step (bl0_) hb); (try clear hb); (try clear hb2); (try clear hk); (try clear hi)) | ((with_reducible refine gate_callee (f := 25) rfl ?_); refine goesL_ (some 34) rfl rfl Tryz.func25 kr_ rfl #[.int .i64 t548] rfl ta_ ?_; (with_reducible refine (impl_HexShapes.calls k t548 t549 t552 _ A5.out).mono ?_); rintro e w17 ⟨v550, rfl, ho0, hb⟩; refine ⟨_, rfl, ?_⟩; have HO551 := a0_ (Kd.V_lower (Kd.V_mono (ok' := fun k_ => True) ho0 (fun k_ hk_ => trivial)) (below_size (bl0_))); replace HB := a0_ (below_step (bl0_) hb); (try clear hb); (try clear hb2); (try clear hk); (try clear hi); (try clear ho0)) | ((with_reducible refine gate_callee (f := 26) rfl ?_); refine goesL_ (some 39) rfl rfl Tryz.func26 kr_ rfl #[.int .i64 t548] rfl ta_ ?_; (with_reducible refine (spec_HexShapes.calls k t548 t553 t556 _ A6.out).mono ?_); rintro e w18 ⟨v554, rfl, ho0, hb⟩; refine ⟨_, rfl, ?_⟩; replace HO551 := a0_ (Kd.V_elder' (va_ HO551.out) (Kd.N_base ho0) hb); have HO555 := a0_ (Kd.N_lower (Kd.N_mono (ok' := fun k_ => True) ho0 (fun k_ hk_ => trivial)) (below_size (bl0_))); replace HB := a0_ (below_step (bl0_) hb); (try clear hb); (try clear hb2); (try clear hk); (try clear hi); (try clear ho0)) | ((with_reducible refine gate_callee (f := 27) rfl ?_); refine goesL_ (some 44) rfl rfl Tryz.func27 kr_ rfl #[.int .i64 t548] rfl ta_ ?_; (with_reducible refine (impl_CountHexes.calls k t548 t557 t558 t559 _ A7.out).mono ?_); rintro e w19 ⟨rfl, hb⟩; refine ⟨_, rfl, ?_⟩; replace HO551 := a0_ (Kd.V_below (va_ HO551.out) hb); replace HO555 := a0_ (Kd.N_below (by (with_reducible repeat (first | apply Kd.N_alloc | apply Kd.N_drewN | apply Kd.N_drew)); exact HO555.out) hb); replace HB := a0_ (below_step (bl0_) hb); (try clear hb); (try clear hb2); (try clear hk); (try clear hi)) | ((with_reducible refine gate_callee (f := 28) rfl ?_); refine goesL_ (some 50) rfl rfl Tryz.func28 kr_ rfl #[.int .i64 t548] rfl ta_ ?_; (with_reducible refine (spec_CountHexes.calls k t548 t560 t561 t562 _ A8.out).mono ?_); rintro e w20 ⟨rfl, hb⟩; refine ⟨_, rfl, ?_⟩; replace HO551 := a0_ (Kd.V_below (va_ HO551.out) hb); replace HO555 := a0_ (Kd.N_below (by (with_reducible repeat (first | apply Kd.N_alloc | apply Kd.N_drewN | apply Kd.N_drew)); exact HO555.out) hb); replace HB := a0_ (below_step (bl0_) hb); (try clear hb); (try clear hb2); (try clear hk); (try clear hi)) | ((with_reducible refine gate_callee (f := 29) rfl ?_); refine goesL_ (some 55) rfl rfl Tryz.func29 kr_ rfl #[.slice A0 l0.length c0] rfl ta_ ?_; (with_reducible refine (spec_DrawHexAround.calls k _ _ l0 t563 t564 _ ?side1 ?side2 A9.out).mono ?_); (case side1 => exact ca_ (Kd.C_below HR0.out HB.out)); (case side2 => exact HC0.out); rintro e w21 ⟨rfl, hb⟩; refine ⟨_, rfl, ?_⟩; replace HO551 := a0_ (Kd.V_below (va_ HO551.out) hb); replace HO555 := a0_ (Kd.N_below (by (with_reducible repeat (first | apply Kd.N_alloc | apply Kd.N_drewN | apply Kd.N_drew)); exact HO555.out) hb); replace HB := a0_ (below_step (bl0_) hb); (try clear hb); (try clear hb2); (try clear hk); (try clear hi)) | ((with_reducible refine gate_dst (N := 14) rfl ?_); (try (refine gate_guard (by rfl) ?_; dsimp only)); refine bx_ (N := 14) (cs := #[.int .i64 0, .int .i64 0]) (t := 46) ?_; intro gb565 hg w22 hbox hb; replace HO551 := a0_ (Kd.V_below (Kd.V_elderB (va_ HO551.out) gb565 (Nat.le_of_eq hg.symm)) hb); replace HO555 := a0_ (Kd.N_below (Kd.N_elderB (by (with_reducible repeat (first | apply Kd.N_alloc | apply Kd.N_drewN | apply Kd.N_drew)); exact HO555.out) gb565 (Nat.le_of_eq hg.symm)) hb); have BK565 := a0_ (hbox); have GW565 := a0_ ((sz_ hg (bl0_) : w.heap.size ≤ gb565)); have GE565 := a0_ ((sz_ hg (bl0_) : w.heap.size ≤ gb565)); replace HB := a0_ (below_step (bl0_) hb); clear hb hbox hg; obtain ⟨hcz23_0, hcz23_1, hfz23_0, hfz23_1⟩ := bc2_ BK565.out) | ((with_reducible refine gate_callee (f := 30) rfl ?_); refine goesL_ (some 58) rfl rfl Tryz.func30 kr_ rfl #[.agg #[.int .i64 t563, .int .i64 t564]] rfl ta_ ?_; (with_reducible refine (impl_HexAround.calls t563 t564 t566 t569 _ A10.out).mono ?_); rintro e w24 ⟨v567, rfl, ho0, hb⟩; refine ⟨_, rfl, ?_⟩; replace HO551 := a0_ (Kd.V_elder' (by (with_reducible repeat (first | apply Kd.V_alloc | apply Kd.V_drewN | apply Kd.V_drew)); exact (Kd.V_mono (Kd.V_far (p := ⟨gb565, 1, none⟩) (Kd.V_far (p := ⟨gb565, 0, none⟩) (Kd.V_mono HO551.out (fun k_ hk => (⟨hk, hk.2⟩ : _ ∧ k_ ≠ gb565))) (fun _ hk => hk.2) (.int .i64 t563)) (fun _ hk => hk.2) (.int .i64 t564)) (fun _ h_ => h_.1))) (Kd.R_base ho0) hb); replace HO555 := a0_ (Kd.N_elder' (by (with_reducible repeat (first | apply Kd.N_alloc | apply Kd.N_drewN | apply Kd.N_drew)); exact (Kd.N_mono (Kd.N_far (p := ⟨gb565, 1, none⟩) (Kd.N_far (p := ⟨gb565, 0, none⟩) (Kd.N_mono HO555.out (fun k_ hk => (⟨hk, hk.2⟩ : _ ∧ k_ ≠ gb565))) (fun _ hk => hk.2) (.int .i64 t563)) (fun _ hk => hk.2) (.int .i64 t564)) (fun _ h_ => h_.1))) (Kd.R_base ho0) hb); have HO568 := a0_ (Kd.R_lower (Kd.R_newB ho0 (g := gb565) (o := .cells #[.int .i64 t563, .int .i64 t564] 46 (0, 0)) (by (with_reducible repeat (first | refine blk_drewN ?_ _ | refine blk_drew ?_ | refine blk_alloc ?_ _)); refine blk_put (cs := #[.int .i64 t563, .int .i64 0]) ?_ 1 _ rfl; (with_reducible repeat (first | refine blk_drewN ?_ _ | refine blk_drew ?_ | refine blk_alloc ?_ _)); refine blk_put (cs := #[.int .i64 0, .int .i64 0]) ?_ 0 _ rfl; (with_reducible repeat (first | refine blk_drewN ?_ _ | refine blk_drew ?_ | refine blk_alloc ?_ _)); exact BK565.out)) (below_size (bl1_ GE565.out))); replace BK565 := a0_ (blk_below (g := gb565) (o := .cells #[.int .i64 t563, .int .i64 t564] 46 (0, 0)) (by (with_reducible repeat (first | refine blk_drewN ?_ _ | refine blk_drew ?_ | refine blk_alloc ?_ _)); refine blk_put (cs := #[.int .i64 t563, .int .i64 0]) ?_ 1 _ rfl; (with_reducible repeat (first | refine blk_drewN ?_ _ | refine blk_drew ?_ | refine blk_alloc ?_ _)); refine blk_put (cs := #[.int .i64 0, .int .i64 0]) ?_ 0 _ rfl; (with_reducible repeat (first | refine blk_drewN ?_ _ | refine blk_drew ?_ | refine blk_alloc ?_ _)); exact BK565.out) hb); replace HB := a0_ (below_step (bl1_ GE565.out) hb); (try clear hb); (try clear hb2); (try clear hk); (try clear hi); (try clear ho0); obtain ⟨hcz25_0, hcz25_1, hfz25_0, hfz25_1⟩ := bc2_ BK565.out) | ((with_reducible refine gate_callee (f := 31) rfl ?_); refine goesL_ (some 63) rfl rfl Tryz.func31 kr_ rfl #[.agg #[.int .i64 t563, .int .i64 t564]] rfl ta_ ?_; (with_reducible refine (spec_HexAround.calls t563 t564 t570 t573 _ A11.out).mono ?_); rintro e w26 ⟨v571, rfl, ho0, hb⟩; refine ⟨_, rfl, ?_⟩; replace HO551 := a0_ (Kd.V_elder' (va_ HO551.out) (Kd.R_base ho0) hb); replace HO555 := a0_ (Kd.N_elder' (by (with_reducible repeat (first | apply Kd.N_alloc | apply Kd.N_drewN | apply Kd.N_drew)); exact HO555.out) (Kd.R_base ho0) hb); have HO572 := a0_ (Kd.R_lower (Kd.R_newB (Kd.R_new' ho0 (Kd.R_lt (ra_ HO568.out))) (g := gb565) (o := .cells #[.int .i64 t563, .int .i64 t564] 46 (0, 0)) (bk_ BK565.out)) (below_size (bl1_ GE565.out))); replace HO568 := a0_ (Kd.R_elder' (ra_ HO568.out) (Kd.R_base ho0) hb); replace BK565 := a0_ (bb_ BK565.out hb); replace HB := a0_ (below_step (bl1_ GE565.out) hb); (try clear hb); (try clear hb2); (try clear hk); (try clear hi); (try clear ho0)) | ((with_reducible refine gate_callee (f := 32) rfl ?_); refine goesL_ (some 68) rfl rfl Tryz.func32 kr_ rfl #[.slice A0 l0.length c0] rfl ta_ ?_; (with_reducible refine (spec_DrawHexForm.calls k _ _ l0 t574 t575 _ ?side1 ?side2 A12.out).mono ?_); (case side1 => exact ca_ (Kd.C_below HR0.out HB.out)); (case side2 => exact HC0.out); rintro e w27 ⟨v576, rfl, ho0, hb⟩; refine ⟨_, rfl, ?_⟩; replace HO551 := a0_ (Kd.V_elder' (va_ HO551.out) (Kd.R_base ho0) hb); replace HO555 := a0_ (Kd.N_elder' (by (with_reducible repeat (first | apply Kd.N_alloc | apply Kd.N_drewN | apply Kd.N_drew)); exact HO555.out) (Kd.R_base ho0) hb); have HO577 := a0_ (Kd.R_lower (Kd.R_newB (Kd.R_new' (Kd.R_new' ho0 (Kd.R_lt (ra_ HO568.out))) (Kd.R_lt (ra_ HO572.out))) (g := gb565) (o := .cells #[.int .i64 t563, .int .i64 t564] 46 (0, 0)) (bk_ BK565.out)) (below_size (bl1_ GE565.out))); replace HO568 := a0_ (Kd.R_elder' (ra_ HO568.out) (Kd.R_base ho0) hb); replace HO572 := a0_ (Kd.R_elder' (ra_ HO572.out) (Kd.R_base ho0) hb); replace BK565 := a0_ (bb_ BK565.out hb); replace HB := a0_ (below_step (bl1_ GE565.out) hb); (try clear hb); (try clear hb2); (try clear hk); (try clear hi); (try clear ho0); obtain ⟨Ao28, co28, eo28⟩ := Kd.R_slice HO577.out; subst eo28) | ((with_reducible refine gate_callee (f := 33) rfl ?_); refine goesL_ (some 74) rfl rfl Tryz.func33 kr_ rfl #[.slice Ao28 t574.length co28, .int .i64 t575] rfl ta_ ?_; (with_reducible refine (impl_HexForm.calls k _ _ t574 t575 t578 t579 _ ?side1 ?side2 A13.out).mono ?_); (case side1 => exact ca_ (Kd.R_reads' HO577.out).2.2); (case side2 => exact (Kd.R_reads' HO577.out).2.1); rintro e w29 ⟨v580, rfl, ho0, hb⟩; refine ⟨_, rfl, ?_⟩; replace HO551 := a0_ (Kd.V_elder' (va_ HO551.out) (Kd.R_base ho0) hb); replace HO555 := a0_ (Kd.N_elder' (by (with_reducible repeat (first | apply Kd.N_alloc | apply Kd.N_drewN | apply Kd.N_drew)); exact HO555.out) (Kd.R_base ho0) hb); have HO581 := a0_ (Kd.R_lower (Kd.R_newB (Kd.R_new' (Kd.R_new' (Kd.R_new' ho0 (Kd.R_lt (ra_ HO568.out))) (Kd.R_lt (ra_ HO572.out))) (Kd.R_lt (ra_ HO577.out))) (g := gb565) (o := .cells #[.int .i64 t563, .int .i64 t564] 46 (0, 0)) (bk_ BK565.out)) (below_size (bl1_ GE565.out))); replace HO568 := a0_ (Kd.R_elder' (ra_ HO568.out) (Kd.R_base ho0) hb); replace HO572 := a0_ (Kd.R_elder' (ra_ HO572.out) (Kd.R_base ho0) hb); replace HO577 := a0_ (Kd.R_elder' (ra_ HO577.out) (Kd.R_base ho0) hb); replace BK565 := a0_ (bb_ BK565.out hb); replace HB := a0_ (below_step (bl1_ GE565.out) hb); (try clear hb); (try clear hb2); (try clear hk); (try clear hi); (try clear ho0)) | ((with_reducible refine gate_callee (f := 34) rfl ?_); refine goesL_ (some 80) rfl rfl Tryz.func34 kr_ rfl #[.slice Ao28 t574.length co28, .int .i64 t575] rfl ta_ ?_; (with_reducible refine (spec_HexForm.calls k _ _ t574 t575 t582 t583 _ ?side1 ?side2 A14.out).mono ?_); (case side1 => exact ca_ (Kd.R_reads' HO577.out).2.2); (case side2 => exact (Kd.R_reads' HO577.out).2.1); rintro e w30 ⟨v584, rfl, ho0, hb⟩; refine ⟨_, rfl, ?_⟩; replace HO551 := a0_ (Kd.V_elder' (va_ HO551.out) (Kd.R_base ho0) hb); replace HO555 := a0_ (Kd.N_elder' (by (with_reducible repeat (first | apply Kd.N_alloc | apply Kd.N_drewN | apply Kd.N_drew)); exact HO555.out) (Kd.R_base ho0) hb); have HO585 := a0_ (Kd.R_lower (Kd.R_newB (Kd.R_new' (Kd.R_new' (Kd.R_new' (Kd.R_new' ho0 (Kd.R_lt (ra_ HO568.out))) (Kd.R_lt (ra_ HO572.out))) (Kd.R_lt (ra_ HO577.out))) (Kd.R_lt (ra_ HO581.out))) (g := gb565) (o := .cells #[.int .i64 t563, .int .i64 t564] 46 (0, 0)) (bk_ BK565.out)) (below_size (bl1_ GE565.out))); replace HO568 := a0_ (Kd.R_elder' (ra_ HO568.out) (Kd.R_base ho0) hb); replace HO572 := a0_ (Kd.R_elder' (ra_ HO572.out) (Kd.R_base ho0) hb); replace HO577 := a0_ (Kd.R_elder' (ra_ HO577.out) (Kd.R_base ho0) hb); replace HO581 := a0_ (Kd.R_elder' (ra_ HO581.out) (Kd.R_base ho0) hb); replace BK565 := a0_ (bb_ BK565.out hb); replace HB := a0_ (below_step (bl1_ GE565.out) hb); (try clear hb); (try clear hb2); (try clear hk); (try clear hi); (try clear ho0)))
  (try simp only [Act.put, List.setIfInBounds_toArray, List.set_cons_zero, List.set_cons_succ])
  go_cut [128] (fun v128 wc => ∃ (kq : Nat) (x128_14 : Bool), v128 = .bool x128_14 ∧ Aside0 (laws_FnHexShapes.j0 kq l0 t549 t552 t553 t558 x128_14 = some r) ∧ Aside0 (kq ≤ k) ∧ Aside0 (Kd.V (Kd.slice 46 k46) 35 wc w.heap.size (fun k_ => some k_ ≠ (v554 : Value).ownBlock ∧ k_ ≠ gb565) v550 t549) ∧ Aside0 (Kd.N (Kd.slice 46 k46) 35 wc w.heap.size (fun k_ => k_ ≠ gb565) v554 t553) ∧ Aside0 (wc.heap[gb565]? = some (.cells #[.int .i64 t563, .int .i64 t564] 46 (0, 0))) ∧ Aside0 (Below w.heap.size w wc))
  case first =>
   have H := HC15.out
   clear HC15
   by_cases c31 : t552 = t556
   ·rw [if_pos c31] at H
    have c31b0 : (t552 == t556) = true := beq_iff_eq.mpr c31
    have c31b1 : (t552 != t556) = false := bne_eq_false_iff_eq.mpr c31
    clear c31
    (first | rw [c31b0] | (simp only [i64_w, i32_w]; rw [c31b0]) | skip)
    obtain ⟨t586, A32, H⟩ := bs_ H
    by_cases c33 : t586 = true
    ·subst c33
     rw [if_pos rfl] at H
     by_cases c34 : t559 = t562
     ·rw [if_pos c34] at H
      have c34b0 : (t559 == t562) = true := beq_iff_eq.mpr c34
      have c34b1 : (t559 != t562) = false := bne_eq_false_iff_eq.mpr c34
      clear c34
      by_cases c35 : t557 = t560
      ·rw [if_pos c35] at H
       have c35b0 : (t557 == t560) = true := beq_iff_eq.mpr c35
       have c35b1 : (t557 != t560) = false := bne_eq_false_iff_eq.mpr c35
       clear c35
       by_cases c36 : t558 = t561
       ·rw [if_pos c36] at H
        have c36b0 : (t558 == t561) = true := beq_iff_eq.mpr c36
        have c36b1 : (t558 != t561) = false := bne_eq_false_iff_eq.mpr c36
        clear c36
        by_cases c37 : t569 = t573
        ·rw [if_pos c37] at H
         have c37b0 : (t569 == t573) = true := beq_iff_eq.mpr c37
         have c37b1 : (t569 != t573) = false := bne_eq_false_iff_eq.mpr c37
         clear c37
         obtain ⟨t587, A38, H⟩ := bs_ H
         by_cases c39 : t587 = true
         ·subst c39
          rw [if_pos rfl] at H
          by_cases c40 : t579 = t583
          ·rw [if_pos c40] at H
           have c40b0 : (t579 == t583) = true := beq_iff_eq.mpr c40
           have c40b1 : (t579 != t583) = false := bne_eq_false_iff_eq.mpr c40
           clear c40
           obtain ⟨t588, A41, H⟩ := bs_ H
           have H' := Aside0.mk H
           clear H
           obtain ⟨Ao42, co42, eo42⟩ := Kd.V_slice HO551.out
           subst eo42
           obtain ⟨Ao43, co43, eo43⟩ := Kd.N_slice HO555.out
           subst eo43
           go_wp2_with (first | (go_at_call 10; (with_reducible refine (laws_likeShapes.calls k _ _ t549 _ _ t553 true _ ?side1 ?side2 ?side3 ?side4 A32.out).mono ?_); (case side1 => exact ca_ (Kd.V_reads' HO551.out).2.2); (case side2 => exact (Kd.V_reads' HO551.out).2.1); (case side3 => exact ca_ (Kd.N_reads' HO555.out).2.2); (case side4 => exact (Kd.N_reads' HO555.out).2.1); rintro e w' ⟨rfl, ⟨nd, rfl⟩⟩; obtain ⟨Ao44, co44, eo44⟩ := Kd.R_slice HO568.out; subst eo44; obtain ⟨Ao45, co45, eo45⟩ := Kd.R_slice HO572.out; subst eo45) | (go_at_call 16; (with_reducible refine (laws_likeCells.calls k _ _ t566 _ _ t570 true _ ?side1 ?side2 ?side3 ?side4 A38.out).mono ?_); (case side1 => exact ca_ (Kd.R_reads' HO568.out).2.2); (case side2 => exact (Kd.R_reads' HO568.out).2.1); (case side3 => exact ca_ (Kd.R_reads' HO572.out).2.2); (case side4 => exact (Kd.R_reads' HO572.out).2.1); rintro e w' ⟨rfl, ⟨nd, rfl⟩⟩; obtain ⟨Ao46, co46, eo46⟩ := Kd.R_slice HO581.out; subst eo46; obtain ⟨Ao47, co47, eo47⟩ := Kd.R_slice HO585.out; subst eo47) | (go_at_call 16; (with_reducible refine (laws_likeCells.calls k _ _ t578 _ _ t582 t588 _ ?side1 ?side2 ?side3 ?side4 A41.out).mono ?_); (case side1 => exact ca_ (Kd.R_reads' HO581.out).2.2); (case side2 => exact (Kd.R_reads' HO581.out).2.1); (case side3 => exact ca_ (Kd.R_reads' HO585.out).2.2); (case side4 => exact (Kd.R_reads' HO585.out).2.1); rintro e w' ⟨rfl, ⟨nd, rfl⟩⟩))
           go_meet
           case rel => exact ⟨_, (!t588), rs_, H', ⟨by first | omega | exact Nat.le_refl _⟩, ⟨by (with_reducible repeat (first | apply Kd.V_alloc | apply Kd.V_drewN | apply Kd.V_drew)); exact Kd.V_mono HO551.out (fun _ hk => ⟨hk.1.1.1.1.1.1.2, hk.1.1.1.1.1.2⟩)⟩, ⟨by (with_reducible repeat (first | apply Kd.N_alloc | apply Kd.N_drewN | apply Kd.N_drew)); exact Kd.N_mono HO555.out (fun _ hk => hk.1.1.1.1.1.2)⟩, ⟨bk_ BK565.out⟩, ⟨bl1_ GE565.out⟩⟩
          ·rw [if_neg c40] at H
           have c40b0 : (t579 == t583) = false := beq_eq_false_iff_ne.mpr c40
           have c40b1 : (t579 != t583) = true := bne_iff_ne.mpr c40
           have H' := Aside0.mk H
           clear H
           obtain ⟨Ao48, co48, eo48⟩ := Kd.V_slice HO551.out
           subst eo48
           obtain ⟨Ao49, co49, eo49⟩ := Kd.N_slice HO555.out
           subst eo49
           go_wp2_with (first | (go_at_call 10; (with_reducible refine (laws_likeShapes.calls k _ _ t549 _ _ t553 true _ ?side1 ?side2 ?side3 ?side4 A32.out).mono ?_); (case side1 => exact ca_ (Kd.V_reads' HO551.out).2.2); (case side2 => exact (Kd.V_reads' HO551.out).2.1); (case side3 => exact ca_ (Kd.N_reads' HO555.out).2.2); (case side4 => exact (Kd.N_reads' HO555.out).2.1); rintro e w' ⟨rfl, ⟨nd, rfl⟩⟩; obtain ⟨Ao50, co50, eo50⟩ := Kd.R_slice HO568.out; subst eo50; obtain ⟨Ao51, co51, eo51⟩ := Kd.R_slice HO572.out; subst eo51) | (go_at_call 16; (with_reducible refine (laws_likeCells.calls k _ _ t566 _ _ t570 true _ ?side1 ?side2 ?side3 ?side4 A38.out).mono ?_); (case side1 => exact ca_ (Kd.R_reads' HO568.out).2.2); (case side2 => exact (Kd.R_reads' HO568.out).2.1); (case side3 => exact ca_ (Kd.R_reads' HO572.out).2.2); (case side4 => exact (Kd.R_reads' HO572.out).2.1); rintro e w' ⟨rfl, ⟨nd, rfl⟩⟩))
           go_meet
           case rel => exact ⟨_, (true), rs_, H', ⟨by first | omega | exact Nat.le_refl _⟩, ⟨by (with_reducible repeat (first | apply Kd.V_alloc | apply Kd.V_drewN | apply Kd.V_drew)); exact Kd.V_mono HO551.out (fun _ hk => ⟨hk.1.1.1.1.1.1.2, hk.1.1.1.1.1.2⟩)⟩, ⟨by (with_reducible repeat (first | apply Kd.N_alloc | apply Kd.N_drewN | apply Kd.N_drew)); exact Kd.N_mono HO555.out (fun _ hk => hk.1.1.1.1.1.2)⟩, ⟨bk_ BK565.out⟩, ⟨bl1_ GE565.out⟩⟩
         ·replace c39 := Bool.eq_false_iff.mpr c39
          subst c39
          rw [if_neg (show ¬ (false = true) by decide)] at H
          have H' := Aside0.mk H
          clear H
          obtain ⟨Ao52, co52, eo52⟩ := Kd.V_slice HO551.out
          subst eo52
          obtain ⟨Ao53, co53, eo53⟩ := Kd.N_slice HO555.out
          subst eo53
          go_wp2_with (first | (go_at_call 10; (with_reducible refine (laws_likeShapes.calls k _ _ t549 _ _ t553 true _ ?side1 ?side2 ?side3 ?side4 A32.out).mono ?_); (case side1 => exact ca_ (Kd.V_reads' HO551.out).2.2); (case side2 => exact (Kd.V_reads' HO551.out).2.1); (case side3 => exact ca_ (Kd.N_reads' HO555.out).2.2); (case side4 => exact (Kd.N_reads' HO555.out).2.1); rintro e w' ⟨rfl, ⟨nd, rfl⟩⟩; obtain ⟨Ao54, co54, eo54⟩ := Kd.R_slice HO568.out; subst eo54; obtain ⟨Ao55, co55, eo55⟩ := Kd.R_slice HO572.out; subst eo55) | (go_at_call 16; (with_reducible refine (laws_likeCells.calls k _ _ t566 _ _ t570 false _ ?side1 ?side2 ?side3 ?side4 A38.out).mono ?_); (case side1 => exact ca_ (Kd.R_reads' HO568.out).2.2); (case side2 => exact (Kd.R_reads' HO568.out).2.1); (case side3 => exact ca_ (Kd.R_reads' HO572.out).2.2); (case side4 => exact (Kd.R_reads' HO572.out).2.1); rintro e w' ⟨rfl, ⟨nd, rfl⟩⟩))
          go_meet
          case rel => exact ⟨_, (true), rs_, H', ⟨by first | omega | exact Nat.le_refl _⟩, ⟨by (with_reducible repeat (first | apply Kd.V_alloc | apply Kd.V_drewN | apply Kd.V_drew)); exact Kd.V_mono HO551.out (fun _ hk => ⟨hk.1.1.1.1.1.1.2, hk.1.1.1.1.1.2⟩)⟩, ⟨by (with_reducible repeat (first | apply Kd.N_alloc | apply Kd.N_drewN | apply Kd.N_drew)); exact Kd.N_mono HO555.out (fun _ hk => hk.1.1.1.1.1.2)⟩, ⟨bk_ BK565.out⟩, ⟨bl1_ GE565.out⟩⟩
        ·rw [if_neg c37] at H
         have c37b0 : (t569 == t573) = false := beq_eq_false_iff_ne.mpr c37
         have c37b1 : (t569 != t573) = true := bne_iff_ne.mpr c37
         have H' := Aside0.mk H
         clear H
         obtain ⟨Ao56, co56, eo56⟩ := Kd.V_slice HO551.out
         subst eo56
         obtain ⟨Ao57, co57, eo57⟩ := Kd.N_slice HO555.out
         subst eo57
         go_wp2_with (first | (go_at_call 10; (with_reducible refine (laws_likeShapes.calls k _ _ t549 _ _ t553 true _ ?side1 ?side2 ?side3 ?side4 A32.out).mono ?_); (case side1 => exact ca_ (Kd.V_reads' HO551.out).2.2); (case side2 => exact (Kd.V_reads' HO551.out).2.1); (case side3 => exact ca_ (Kd.N_reads' HO555.out).2.2); (case side4 => exact (Kd.N_reads' HO555.out).2.1); rintro e w' ⟨rfl, ⟨nd, rfl⟩⟩))
         go_meet
         case rel => exact ⟨_, (true), rs_, H', ⟨by first | omega | exact Nat.le_refl _⟩, ⟨by (with_reducible repeat (first | apply Kd.V_alloc | apply Kd.V_drewN | apply Kd.V_drew)); exact Kd.V_mono HO551.out (fun _ hk => ⟨hk.1.1.1.1.1.1.2, hk.1.1.1.1.1.2⟩)⟩, ⟨by (with_reducible repeat (first | apply Kd.N_alloc | apply Kd.N_drewN | apply Kd.N_drew)); exact Kd.N_mono HO555.out (fun _ hk => hk.1.1.1.1.1.2)⟩, ⟨bk_ BK565.out⟩, ⟨bl1_ GE565.out⟩⟩
       ·rw [if_neg c36] at H
        have c36b0 : (t558 == t561) = false := beq_eq_false_iff_ne.mpr c36
        have c36b1 : (t558 != t561) = true := bne_iff_ne.mpr c36
        have H' := Aside0.mk H
        clear H
        obtain ⟨Ao58, co58, eo58⟩ := Kd.V_slice HO551.out
        subst eo58
        obtain ⟨Ao59, co59, eo59⟩ := Kd.N_slice HO555.out
        subst eo59
        go_wp2_with (first | (go_at_call 10; (with_reducible refine (laws_likeShapes.calls k _ _ t549 _ _ t553 true _ ?side1 ?side2 ?side3 ?side4 A32.out).mono ?_); (case side1 => exact ca_ (Kd.V_reads' HO551.out).2.2); (case side2 => exact (Kd.V_reads' HO551.out).2.1); (case side3 => exact ca_ (Kd.N_reads' HO555.out).2.2); (case side4 => exact (Kd.N_reads' HO555.out).2.1); rintro e w' ⟨rfl, ⟨nd, rfl⟩⟩))
        go_meet
        case rel => exact ⟨_, (true), rs_, H', ⟨by first | omega | exact Nat.le_refl _⟩, ⟨by (with_reducible repeat (first | apply Kd.V_alloc | apply Kd.V_drewN | apply Kd.V_drew)); exact Kd.V_mono HO551.out (fun _ hk => ⟨hk.1.1.1.1.1.1.2, hk.1.1.1.1.1.2⟩)⟩, ⟨by (with_reducible repeat (first | apply Kd.N_alloc | apply Kd.N_drewN | apply Kd.N_drew)); exact Kd.N_mono HO555.out (fun _ hk => hk.1.1.1.1.1.2)⟩, ⟨bk_ BK565.out⟩, ⟨bl1_ GE565.out⟩⟩
      ·rw [if_neg c35] at H
       have c35b0 : (t557 == t560) = false := beq_eq_false_iff_ne.mpr c35
       have c35b1 : (t557 != t560) = true := bne_iff_ne.mpr c35
       have H' := Aside0.mk H
       clear H
       obtain ⟨Ao60, co60, eo60⟩ := Kd.V_slice HO551.out
       subst eo60
       obtain ⟨Ao61, co61, eo61⟩ := Kd.N_slice HO555.out
       subst eo61
       go_wp2_with (first | (go_at_call 10; (with_reducible refine (laws_likeShapes.calls k _ _ t549 _ _ t553 true _ ?side1 ?side2 ?side3 ?side4 A32.out).mono ?_); (case side1 => exact ca_ (Kd.V_reads' HO551.out).2.2); (case side2 => exact (Kd.V_reads' HO551.out).2.1); (case side3 => exact ca_ (Kd.N_reads' HO555.out).2.2); (case side4 => exact (Kd.N_reads' HO555.out).2.1); rintro e w' ⟨rfl, ⟨nd, rfl⟩⟩))
       go_meet
       case rel => exact ⟨_, (true), rs_, H', ⟨by first | omega | exact Nat.le_refl _⟩, ⟨by (with_reducible repeat (first | apply Kd.V_alloc | apply Kd.V_drewN | apply Kd.V_drew)); exact Kd.V_mono HO551.out (fun _ hk => ⟨hk.1.1.1.1.1.1.2, hk.1.1.1.1.1.2⟩)⟩, ⟨by (with_reducible repeat (first | apply Kd.N_alloc | apply Kd.N_drewN | apply Kd.N_drew)); exact Kd.N_mono HO555.out (fun _ hk => hk.1.1.1.1.1.2)⟩, ⟨bk_ BK565.out⟩, ⟨bl1_ GE565.out⟩⟩
     ·rw [if_neg c34] at H
      have c34b0 : (t559 == t562) = false := beq_eq_false_iff_ne.mpr c34
      have c34b1 : (t559 != t562) = true := bne_iff_ne.mpr c34
      have H' := Aside0.mk H
      clear H
      obtain ⟨Ao62, co62, eo62⟩ := Kd.V_slice HO551.out
      subst eo62
      obtain ⟨Ao63, co63, eo63⟩ := Kd.N_slice HO555.out
      subst eo63
      go_wp2_with (first | (go_at_call 10; (with_reducible refine (laws_likeShapes.calls k _ _ t549 _ _ t553 true _ ?side1 ?side2 ?side3 ?side4 A32.out).mono ?_); (case side1 => exact ca_ (Kd.V_reads' HO551.out).2.2); (case side2 => exact (Kd.V_reads' HO551.out).2.1); (case side3 => exact ca_ (Kd.N_reads' HO555.out).2.2); (case side4 => exact (Kd.N_reads' HO555.out).2.1); rintro e w' ⟨rfl, ⟨nd, rfl⟩⟩))
      go_meet
      case rel => exact ⟨_, (true), rs_, H', ⟨by first | omega | exact Nat.le_refl _⟩, ⟨by (with_reducible repeat (first | apply Kd.V_alloc | apply Kd.V_drewN | apply Kd.V_drew)); exact Kd.V_mono HO551.out (fun _ hk => ⟨hk.1.1.1.1.1.1.2, hk.1.1.1.1.1.2⟩)⟩, ⟨by (with_reducible repeat (first | apply Kd.N_alloc | apply Kd.N_drewN | apply Kd.N_drew)); exact Kd.N_mono HO555.out (fun _ hk => hk.1.1.1.1.1.2)⟩, ⟨bk_ BK565.out⟩, ⟨bl1_ GE565.out⟩⟩
    ·replace c33 := Bool.eq_false_iff.mpr c33
     subst c33
     rw [if_neg (show ¬ (false = true) by decide)] at H
     have H' := Aside0.mk H
     clear H
     obtain ⟨Ao64, co64, eo64⟩ := Kd.V_slice HO551.out
     subst eo64
     obtain ⟨Ao65, co65, eo65⟩ := Kd.N_slice HO555.out
     subst eo65
     go_wp2_with (first | (go_at_call 10; (with_reducible refine (laws_likeShapes.calls k _ _ t549 _ _ t553 false _ ?side1 ?side2 ?side3 ?side4 A32.out).mono ?_); (case side1 => exact ca_ (Kd.V_reads' HO551.out).2.2); (case side2 => exact (Kd.V_reads' HO551.out).2.1); (case side3 => exact ca_ (Kd.N_reads' HO555.out).2.2); (case side4 => exact (Kd.N_reads' HO555.out).2.1); rintro e w' ⟨rfl, ⟨nd, rfl⟩⟩))
     go_meet
     case rel => exact ⟨_, (true), rs_, H', ⟨by first | omega | exact Nat.le_refl _⟩, ⟨by (with_reducible repeat (first | apply Kd.V_alloc | apply Kd.V_drewN | apply Kd.V_drew)); exact Kd.V_mono HO551.out (fun _ hk => ⟨hk.1.1.1.1.1.1.2, hk.1.1.1.1.1.2⟩)⟩, ⟨by (with_reducible repeat (first | apply Kd.N_alloc | apply Kd.N_drewN | apply Kd.N_drew)); exact Kd.N_mono HO555.out (fun _ hk => hk.1.1.1.1.1.2)⟩, ⟨bk_ BK565.out⟩, ⟨bl1_ GE565.out⟩⟩
   ·rw [if_neg c31] at H
    have c31b0 : (t552 == t556) = false := beq_eq_false_iff_ne.mpr c31
    have c31b1 : (t552 != t556) = true := bne_iff_ne.mpr c31
    (first | rw [c31b0] | (simp only [i64_w, i32_w]; rw [c31b0]) | skip)
    have H' := Aside0.mk H
    clear H
    go_wp2
    go_meet
    case rel => exact ⟨_, (true), rs_, H', ⟨by first | omega | exact Nat.le_refl _⟩, ⟨by (with_reducible repeat (first | apply Kd.V_alloc | apply Kd.V_drewN | apply Kd.V_drew)); exact Kd.V_mono HO551.out (fun _ hk => ⟨hk.1.1.1.1.1.1.2, hk.1.1.1.1.1.2⟩)⟩, ⟨by (with_reducible repeat (first | apply Kd.N_alloc | apply Kd.N_drewN | apply Kd.N_drew)); exact Kd.N_mono HO555.out (fun _ hk => hk.1.1.1.1.1.2)⟩, ⟨bk_ BK565.out⟩, ⟨bl1_ GE565.out⟩⟩
  case rest =>
   clear HC15
   try clear c2
   try clear p2
   try clear c3
   try clear c4
   try clear c5
   try clear c6
   try clear c24
   try clear c25
   try clear c26
   try clear c27
   try clear c28
   try clear c29
   try clear c30
   try clear c31
   try clear c31b0
   try clear c31b1
   try clear c32
   try clear c33
   try clear c34
   try clear c34b0
   try clear c34b1
   try clear c35
   try clear c35b0
   try clear c35b1
   try clear c36
   try clear c36b0
   try clear c36b1
   try clear c37
   try clear c37b0
   try clear c37b1
   try clear c39
   try clear c40
   try clear c40b0
   try clear c40b1
   try clear hcz23_0
   try clear hcz23_1
   try clear hcz25_0
   try clear hcz25_1
   try clear hfz23_0
   try clear hfz23_1
   try clear hfz25_0
   try clear hfz25_1
   obtain ⟨kq, x128_14, rfl, HA, HJ14, HO_4, HO_6, BK565, HB⟩ := hcut
   cases kq with
   | zero => exact absurd HA.out (by simp [laws_FnHexShapes.j0])
   | succ kj14 =>
    have H := HA.out
    clear HA
    simp only [laws_FnHexShapes.j0] at H
    by_cases c66 : x128_14 = true
    ·subst c66
     rw [if_pos rfl] at H
     obtain rfl := Option.some.inj H
     go_wp2
     go_ret
     exact ⟨er_, bl1_ GE565.out⟩
    ·replace c66 := Bool.eq_false_iff.mpr c66
     subst c66
     rw [if_neg (show ¬ (false = true) by decide)] at H
     by_cases c67 : t552 = 0
     ·rw [if_pos c67] at H
      have c67b0 : (t552 == 0) = true := beq_iff_eq.mpr c67
      have c67b1 : (t552 != 0) = false := bne_eq_false_iff_eq.mpr c67
      clear c67
      obtain ⟨⟨t589, t590, t591⟩, A68, H⟩ := bs_ H
      dsimp only at H
      obtain ⟨⟨t593, t594, t595⟩, A69, H⟩ := bs_ H
      dsimp only at H
      by_cases c70 : 0 ≤ t593
      ·rw [if_pos c70] at H
       have c70b0 : decide (0 ≤ t593) = true := decide_eq_true c70
       clear c70
       by_cases c71 : t593 < (t553.length : Int)
       ·rw [if_pos c71] at H
        have c71b0 : decide (t593 < (t553.length : Int)) = true := decide_eq_true c71
        clear c71
        obtain ⟨⟨t597, t598⟩, A72, H⟩ := bs_ H
        dsimp only at H
        by_cases c73 : t598 = 0
        ·rw [if_pos c73] at H
         have c73b0 : (t598 == 0) = true := beq_iff_eq.mpr c73
         have c73b1 : (t598 != 0) = false := bne_eq_false_iff_eq.mpr c73
         clear c73
         by_cases c74 : t558 = (t549.length : Int)
         ·rw [if_pos c74] at H
          have c74b0 : (t558 == (t549.length : Int)) = true := beq_iff_eq.mpr c74
          have c74b1 : (t558 != (t549.length : Int)) = false := bne_eq_false_iff_eq.mpr c74
          clear c74
          obtain ⟨t602, A75, H⟩ := bs_ H
          by_cases c76 : t602 = true
          ·subst c76
           rw [if_pos rfl] at H
           obtain ⟨t604, A77, H⟩ := bs_ H
           obtain rfl := Option.some.inj H
           go_wp2_with (first | ((with_reducible refine gate_callee (f := 12) rfl ?_); refine goesL_ (some 132) rfl rfl Tryz.func12 kr_ rfl #[.slice A0 l0.length c0, .int .u64 801] rfl ta_ ?_; (with_reducible refine ((fun W_ (hb_ : Below w.heap.size w W_) => laws_roll.calls kj14 _ _ l0 801 t589 t590 t591 W_ W_ (Below.refl _ _) (Kd.C_below HR0.out hb_) HC0.out A68.out) _ ?side1).mono ?_); (case side1 => exact bl1_ GE565.out); rintro e w78 ⟨g592, rfl, hi, hb, hb2⟩; refine ⟨_, rfl, ?_⟩; replace HO_4 := a0_ (Kd.V_below (Kd.V_elderB (va_ HO_4.out) g592 (IsS63.ge hi)) hb2); replace HO_6 := a0_ (Kd.N_below (Kd.N_elderB (by (with_reducible repeat (first | apply Kd.N_alloc | apply Kd.N_drewN | apply Kd.N_drew)); exact HO_6.out) g592 (IsS63.ge hi)) hb2); have HBU592 := a0_ (bl1_ GE565.out); replace HB := a0_ (below_step (bl1_ GE565.out) hb2); have HBV592 := a0_ (hb); have HI592 := a0_ (hi); have NB592_565 := a0_ (IsS63.ne_blk hi (bb_ BK565.out hb2) (by decide)); have NB565_592 := a0_ (Ne.symm (IsS63.ne_blk hi (bb_ BK565.out hb2) (by decide))); replace BK565 := a0_ (bb_ BK565.out hb2); (try clear hb); (try clear hb2); (try clear hk); (try clear hi); obtain ⟨Ao79, co79, eo79⟩ := Kd.N_slice HO_6.out; subst eo79) | ((with_reducible refine gate_callee (f := 13) rfl ?_); refine goesL_ (some 135) rfl rfl Tryz.func13 kr_ rfl #[.pointer (some ⟨g592, 0, none⟩), .int .i64 (t553.length : Int)] rfl ta_ ?_; (with_reducible refine (laws_dice_below.calls g592 t589 t590 t591 (t553.length : Int) t593 t594 t595 _ _ HI592.out HBV592.out A69.out).mono ?_); rintro e w80 ⟨rfl, hi, hb, hk⟩; refine ⟨_, rfl, ?_⟩; replace HO_4 := a0_ (Kd.V_mono (Kd.V_keep (Kd.V_mono (ok := fun k_ => ((some k_ ≠ (.slice Ao79 t553.length co79 : Value).ownBlock ∧ k_ ≠ gb565) ∧ k_ ≠ g592)) (va_ HO_4.out) (fun k_ hk_ => (⟨hk_, hk_.2⟩ : _ ∧ k_ ≠ g592))) hk (fun _ h => h.2)) (fun _ h => h.1)); replace HO_6 := a0_ (Kd.N_mono (Kd.N_keep (Kd.N_mono (ok := fun k_ => (k_ ≠ gb565 ∧ k_ ≠ g592)) (by (with_reducible repeat (first | apply Kd.N_alloc | apply Kd.N_drewN | apply Kd.N_drew)); exact HO_6.out) (fun k_ hk_ => (⟨hk_, hk_.2⟩ : _ ∧ k_ ≠ g592))) hk (fun _ h => h.2)) (fun _ h => h.1)); replace BK565 := a0_ (KeepBut.blk hk (g' := gb565) (o := .cells #[.int .i64 t563, .int .i64 t564] 46 (0, 0)) (bk_ BK565.out) NB565_592.out (by simp)); replace HB := a0_ (below_step HBU592.out hb); replace HI592 := a0_ (hi); replace HBV592 := a0_ (hb); (try clear hb); (try clear hb2); (try clear hk); (try clear hi); have p596 : 0 ≤ (t593 : Int) := od_; have q596 : t593 < (t553.length : Int) := od_; obtain ⟨ad596, A596_0, c596_0, e596, hx596_0, hl596_0, hi596_0⟩ := at_L3 (Kd.N_reads' HO_6.out).2.2 t593 p596 q596; cases e596; obtain ⟨ce596, hce596, hMe596, hcc596⟩ := Kd.N_get HO_6.out [] t593 p596 (by first | exact q596 | exact od_ | (have e_ := (Kd.N_reads' HO_6.out).1; omega)); obtain ⟨ua596_0, uc596_0, rfl, ul596_0, ge596_0⟩ := Kd.FK_slice_open hMe596; have hv596_0 := hcc596 0 _ rfl; rw [Nat.add_zero, show ((Kd.slice 46 k46)).sz = 1 from rfl, Nat.mul_one] at hv596_0; replace hv596_0 := Option.some.inj (hv596_0.symm.trans hx596_0); injection hv596_0 with hva_ hvn_ hvc_; rw [hva_] at ge596_0; rw [hvc_] at ul596_0; have HL596_0 := a0_ (show Kd.V k46 46 _ w.heap.size _ _ (rd_L3 t553 t593) from Kd.V_mk ul596_0 ge596_0); clear hva_ hvn_ hvc_ ge596_0 ul596_0; clear hcc596 hce596; have HR596_0 := Aside0.mk hi596_0; have HC596_0 := Aside0.mk hl596_0; clear hi596_0 hl596_0; replace p596 := eq_true p596; replace q596 := eq_true q596) | ((with_reducible refine gate_callee (f := 35) rfl ?_); refine goesL_ (some 141) rfl rfl Tryz.func35 kr_ rfl #[.slice A596_0 (rd_L3 t553 t593).length c596_0] rfl ta_ ?_; (with_reducible refine (impl_HexFree.calls kj14 _ _ (rd_L3 t553 t593) t597 t598 _ ?side1 ?side2 A72.out).mono ?_); (case side1 => repeat (first | exact (by repeat (first | (with_reducible exact HR596_0.out) | (with_reducible refine Kd.C_alloc ?_ _) | (with_reducible refine Kd.C_drewN ?_ _) | (with_reducible refine Kd.C_drew ?_) | exact HR596_0.out)) | (with_reducible refine Kd.C_alloc ?_ _) | (with_reducible refine Kd.C_drewN ?_ _) | (with_reducible refine Kd.C_drew ?_))); (case side2 => exact HC596_0.out); rintro e w81 ⟨v599, rfl, ho0, hb⟩; refine ⟨_, rfl, ?_⟩; replace HO_4 := a0_ (Kd.V_elder' (va_ HO_4.out) (Kd.R_base ho0) hb); replace HO_6 := a0_ (Kd.N_elder' (by (with_reducible repeat (first | apply Kd.N_alloc | apply Kd.N_drewN | apply Kd.N_drew)); exact HO_6.out) (Kd.R_base ho0) hb); replace HL596_0 := a0_ (Kd.V_elder' (va_ HL596_0.out) (Kd.R_base ho0) hb); have HO600 := a0_ (Kd.R_lower (Kd.R_newB ho0 (g := gb565) (o := .cells #[.int .i64 t563, .int .i64 t564] 46 (0, 0)) (bk_ BK565.out)) (below_size (bl2_ (IsS63.ge HI592.out) GE565.out))); replace BK565 := a0_ (bb_ BK565.out hb); replace HR596_0 := a0_ (Kd.C_below (by repeat (first | (with_reducible exact HR596_0.out) | (with_reducible refine Kd.C_alloc ?_ _) | (with_reducible refine Kd.C_drewN ?_ _) | (with_reducible refine Kd.C_drew ?_) | exact HR596_0.out)) hb); replace HB := a0_ (below_step (bl2_ (IsS63.ge HI592.out) GE565.out) hb); replace HI592 := a0_ (IsS63.below (by repeat (first | (with_reducible first | exact HI592.out | apply IsS63.alloc | apply IsS63.drewN | apply IsS63.drew | apply IsS63.set_1 | apply IsS63.set_2 | refine IsS63.far ?_ NB592_565.out _) | exact HI592.out)) hb); (try clear hb); (try clear hb2); (try clear hk); (try clear hi); (try clear ho0); obtain ⟨Ao82, co82, eo82⟩ := Kd.V_slice HO_4.out; subst eo82; have p601 : 0 ≤ (t593 : Int) := od_; have q601 : t593 < (t553.length : Int) := od_; obtain ⟨ad601, A601_0, c601_0, e601, hx601_0, hl601_0, hi601_0⟩ := at_L3 (Kd.N_reads' HO_6.out).2.2 t593 p601 q601; obtain rfl : ad596 = ad601 := (by injection e601); obtain ⟨ce601, hce601, hMe601, hcc601⟩ := Kd.N_get HO_6.out [] t593 p601 (by first | exact q601 | exact od_ | (have e_ := (Kd.N_reads' HO_6.out).1; omega)); obtain ⟨ua601_0, uc601_0, rfl, ul601_0, ge601_0⟩ := Kd.FK_slice_open hMe601; have hv601_0 := hcc601 0 _ rfl; rw [Nat.add_zero, show ((Kd.slice 46 k46)).sz = 1 from rfl, Nat.mul_one] at hv601_0; replace hv601_0 := Option.some.inj (hv601_0.symm.trans hx601_0); injection hv601_0 with hva_ hvn_ hvc_; rw [hva_] at ge601_0; rw [hvc_] at ul601_0; have HL601_0 := a0_ (show Kd.V k46 46 _ w.heap.size _ _ (rd_L3 t553 t593) from Kd.V_mk ul601_0 ge601_0); clear hva_ hvn_ hvc_ ge601_0 ul601_0; clear hcc601 hce601; have HR601_0 := Aside0.mk hi601_0; have HC601_0 := Aside0.mk hl601_0; clear hi601_0 hl601_0; replace p601 := eq_true p601; replace q601 := eq_true q601; obtain ⟨Ao83, co83, eo83⟩ := Kd.R_slice HO600.out; subst eo83) | (go_at_call 16; (with_reducible refine (laws_likeCells.calls kj14 _ _ t597 _ _ (rd_L3 t553 t593) true _ ?side1 ?side2 ?side3 ?side4 A75.out).mono ?_); (case side1 => exact ca_ (Kd.R_reads' HO600.out).2.2); (case side2 => exact (Kd.R_reads' HO600.out).2.1); (case side3 => repeat (first | exact (by repeat (first | (with_reducible exact HR601_0.out) | (with_reducible refine Kd.C_alloc ?_ _) | (with_reducible refine Kd.C_drewN ?_ _) | (with_reducible refine Kd.C_drew ?_) | exact HR601_0.out)) | (with_reducible refine Kd.C_alloc ?_ _) | (with_reducible refine Kd.C_drewN ?_ _) | (with_reducible refine Kd.C_drew ?_))); (case side4 => exact HC601_0.out); rintro e w' ⟨rfl, ⟨nd, rfl⟩⟩; have p603 : 0 ≤ (t593 : Int) := od_; have q603 : t593 < (t553.length : Int) := od_; obtain ⟨ad603, A603_0, c603_0, e603, hx603_0, hl603_0, hi603_0⟩ := at_L3 (Kd.N_reads' HO_6.out).2.2 t593 p603 q603; obtain rfl : ad596 = ad603 := (by injection e603); obtain ⟨ce603, hce603, hMe603, hcc603⟩ := Kd.N_get HO_6.out [] t593 p603 (by first | exact q603 | exact od_ | (have e_ := (Kd.N_reads' HO_6.out).1; omega)); obtain ⟨ua603_0, uc603_0, rfl, ul603_0, ge603_0⟩ := Kd.FK_slice_open hMe603; have hv603_0 := hcc603 0 _ rfl; rw [Nat.add_zero, show ((Kd.slice 46 k46)).sz = 1 from rfl, Nat.mul_one] at hv603_0; replace hv603_0 := Option.some.inj (hv603_0.symm.trans hx603_0); injection hv603_0 with hva_ hvn_ hvc_; rw [hva_] at ge603_0; rw [hvc_] at ul603_0; have HL603_0 := a0_ (show Kd.V k46 46 _ w.heap.size _ _ (rd_L3 t553 t593) from Kd.V_mk ul603_0 ge603_0); clear hva_ hvn_ hvc_ ge603_0 ul603_0; clear hcc603 hce603; have HR603_0 := Aside0.mk hi603_0; have HC603_0 := Aside0.mk hl603_0; clear hi603_0 hl603_0; replace p603 := eq_true p603; replace q603 := eq_true q603; have ea_ := Option.some.inj (hx601_0.symm.trans hx603_0); injection ea_ with ea_ en_ ec_; subst ea_; subst ec_; clear en_) | (go_at_call 36; (with_reducible refine (impl_IsHexConnected.calls kj14 _ _ (rd_L3 t553 t593) t604 _ ?side1 ?side2 A77.out).mono ?_); (case side1 => repeat (first | exact (by repeat (first | (with_reducible exact HR603_0.out) | (with_reducible refine Kd.C_alloc ?_ _) | (with_reducible refine Kd.C_drewN ?_ _) | (with_reducible refine Kd.C_drew ?_) | exact HR603_0.out)) | (with_reducible refine Kd.C_alloc ?_ _) | (with_reducible refine Kd.C_drewN ?_ _) | (with_reducible refine Kd.C_drew ?_))); (case side2 => exact HC603_0.out); rintro e w84 ⟨rfl, hb⟩; replace HB := a0_ (below_step (bl2_ (IsS63.ge HI592.out) GE565.out) hb); replace HI592 := a0_ (IsS63.below (by repeat (first | (with_reducible first | exact HI592.out | apply IsS63.alloc | apply IsS63.drewN | apply IsS63.drew | apply IsS63.set_1 | apply IsS63.set_2 | refine IsS63.far ?_ NB592_565.out _) | exact HI592.out)) hb); (try clear hb); (try clear hb2); (try clear hk); (try clear hi)))
           go_ret
           exact ⟨er_, bl2_ (IsS63.ge HI592.out) GE565.out⟩
          ·replace c76 := Bool.eq_false_iff.mpr c76
           subst c76
           rw [if_neg (show ¬ (false = true) by decide)] at H
           obtain rfl := Option.some.inj H
           go_wp2_with (first | ((with_reducible refine gate_callee (f := 12) rfl ?_); refine goesL_ (some 132) rfl rfl Tryz.func12 kr_ rfl #[.slice A0 l0.length c0, .int .u64 801] rfl ta_ ?_; (with_reducible refine ((fun W_ (hb_ : Below w.heap.size w W_) => laws_roll.calls kj14 _ _ l0 801 t589 t590 t591 W_ W_ (Below.refl _ _) (Kd.C_below HR0.out hb_) HC0.out A68.out) _ ?side1).mono ?_); (case side1 => exact bl1_ GE565.out); rintro e w85 ⟨g592, rfl, hi, hb, hb2⟩; refine ⟨_, rfl, ?_⟩; replace HO_4 := a0_ (Kd.V_below (Kd.V_elderB (va_ HO_4.out) g592 (IsS63.ge hi)) hb2); replace HO_6 := a0_ (Kd.N_below (Kd.N_elderB (by (with_reducible repeat (first | apply Kd.N_alloc | apply Kd.N_drewN | apply Kd.N_drew)); exact HO_6.out) g592 (IsS63.ge hi)) hb2); have HBU592 := a0_ (bl1_ GE565.out); replace HB := a0_ (below_step (bl1_ GE565.out) hb2); have HBV592 := a0_ (hb); have HI592 := a0_ (hi); have NB592_565 := a0_ (IsS63.ne_blk hi (bb_ BK565.out hb2) (by decide)); have NB565_592 := a0_ (Ne.symm (IsS63.ne_blk hi (bb_ BK565.out hb2) (by decide))); replace BK565 := a0_ (bb_ BK565.out hb2); (try clear hb); (try clear hb2); (try clear hk); (try clear hi); obtain ⟨Ao86, co86, eo86⟩ := Kd.N_slice HO_6.out; subst eo86) | ((with_reducible refine gate_callee (f := 13) rfl ?_); refine goesL_ (some 135) rfl rfl Tryz.func13 kr_ rfl #[.pointer (some ⟨g592, 0, none⟩), .int .i64 (t553.length : Int)] rfl ta_ ?_; (with_reducible refine (laws_dice_below.calls g592 t589 t590 t591 (t553.length : Int) t593 t594 t595 _ _ HI592.out HBV592.out A69.out).mono ?_); rintro e w87 ⟨rfl, hi, hb, hk⟩; refine ⟨_, rfl, ?_⟩; replace HO_4 := a0_ (Kd.V_mono (Kd.V_keep (Kd.V_mono (ok := fun k_ => ((some k_ ≠ (.slice Ao86 t553.length co86 : Value).ownBlock ∧ k_ ≠ gb565) ∧ k_ ≠ g592)) (va_ HO_4.out) (fun k_ hk_ => (⟨hk_, hk_.2⟩ : _ ∧ k_ ≠ g592))) hk (fun _ h => h.2)) (fun _ h => h.1)); replace HO_6 := a0_ (Kd.N_mono (Kd.N_keep (Kd.N_mono (ok := fun k_ => (k_ ≠ gb565 ∧ k_ ≠ g592)) (by (with_reducible repeat (first | apply Kd.N_alloc | apply Kd.N_drewN | apply Kd.N_drew)); exact HO_6.out) (fun k_ hk_ => (⟨hk_, hk_.2⟩ : _ ∧ k_ ≠ g592))) hk (fun _ h => h.2)) (fun _ h => h.1)); replace BK565 := a0_ (KeepBut.blk hk (g' := gb565) (o := .cells #[.int .i64 t563, .int .i64 t564] 46 (0, 0)) (bk_ BK565.out) NB565_592.out (by simp)); replace HB := a0_ (below_step HBU592.out hb); replace HI592 := a0_ (hi); replace HBV592 := a0_ (hb); (try clear hb); (try clear hb2); (try clear hk); (try clear hi); have p596 : 0 ≤ (t593 : Int) := od_; have q596 : t593 < (t553.length : Int) := od_; obtain ⟨ad596, A596_0, c596_0, e596, hx596_0, hl596_0, hi596_0⟩ := at_L3 (Kd.N_reads' HO_6.out).2.2 t593 p596 q596; cases e596; obtain ⟨ce596, hce596, hMe596, hcc596⟩ := Kd.N_get HO_6.out [] t593 p596 (by first | exact q596 | exact od_ | (have e_ := (Kd.N_reads' HO_6.out).1; omega)); obtain ⟨ua596_0, uc596_0, rfl, ul596_0, ge596_0⟩ := Kd.FK_slice_open hMe596; have hv596_0 := hcc596 0 _ rfl; rw [Nat.add_zero, show ((Kd.slice 46 k46)).sz = 1 from rfl, Nat.mul_one] at hv596_0; replace hv596_0 := Option.some.inj (hv596_0.symm.trans hx596_0); injection hv596_0 with hva_ hvn_ hvc_; rw [hva_] at ge596_0; rw [hvc_] at ul596_0; have HL596_0 := a0_ (show Kd.V k46 46 _ w.heap.size _ _ (rd_L3 t553 t593) from Kd.V_mk ul596_0 ge596_0); clear hva_ hvn_ hvc_ ge596_0 ul596_0; clear hcc596 hce596; have HR596_0 := Aside0.mk hi596_0; have HC596_0 := Aside0.mk hl596_0; clear hi596_0 hl596_0; replace p596 := eq_true p596; replace q596 := eq_true q596) | ((with_reducible refine gate_callee (f := 35) rfl ?_); refine goesL_ (some 141) rfl rfl Tryz.func35 kr_ rfl #[.slice A596_0 (rd_L3 t553 t593).length c596_0] rfl ta_ ?_; (with_reducible refine (impl_HexFree.calls kj14 _ _ (rd_L3 t553 t593) t597 t598 _ ?side1 ?side2 A72.out).mono ?_); (case side1 => repeat (first | exact (by repeat (first | (with_reducible exact HR596_0.out) | (with_reducible refine Kd.C_alloc ?_ _) | (with_reducible refine Kd.C_drewN ?_ _) | (with_reducible refine Kd.C_drew ?_) | exact HR596_0.out)) | (with_reducible refine Kd.C_alloc ?_ _) | (with_reducible refine Kd.C_drewN ?_ _) | (with_reducible refine Kd.C_drew ?_))); (case side2 => exact HC596_0.out); rintro e w88 ⟨v599, rfl, ho0, hb⟩; refine ⟨_, rfl, ?_⟩; replace HO_4 := a0_ (Kd.V_elder' (va_ HO_4.out) (Kd.R_base ho0) hb); replace HO_6 := a0_ (Kd.N_elder' (by (with_reducible repeat (first | apply Kd.N_alloc | apply Kd.N_drewN | apply Kd.N_drew)); exact HO_6.out) (Kd.R_base ho0) hb); replace HL596_0 := a0_ (Kd.V_elder' (va_ HL596_0.out) (Kd.R_base ho0) hb); have HO600 := a0_ (Kd.R_lower (Kd.R_newB ho0 (g := gb565) (o := .cells #[.int .i64 t563, .int .i64 t564] 46 (0, 0)) (bk_ BK565.out)) (below_size (bl2_ (IsS63.ge HI592.out) GE565.out))); replace BK565 := a0_ (bb_ BK565.out hb); replace HR596_0 := a0_ (Kd.C_below (by repeat (first | (with_reducible exact HR596_0.out) | (with_reducible refine Kd.C_alloc ?_ _) | (with_reducible refine Kd.C_drewN ?_ _) | (with_reducible refine Kd.C_drew ?_) | exact HR596_0.out)) hb); replace HB := a0_ (below_step (bl2_ (IsS63.ge HI592.out) GE565.out) hb); replace HI592 := a0_ (IsS63.below (by repeat (first | (with_reducible first | exact HI592.out | apply IsS63.alloc | apply IsS63.drewN | apply IsS63.drew | apply IsS63.set_1 | apply IsS63.set_2 | refine IsS63.far ?_ NB592_565.out _) | exact HI592.out)) hb); (try clear hb); (try clear hb2); (try clear hk); (try clear hi); (try clear ho0); obtain ⟨Ao89, co89, eo89⟩ := Kd.V_slice HO_4.out; subst eo89; have p601 : 0 ≤ (t593 : Int) := od_; have q601 : t593 < (t553.length : Int) := od_; obtain ⟨ad601, A601_0, c601_0, e601, hx601_0, hl601_0, hi601_0⟩ := at_L3 (Kd.N_reads' HO_6.out).2.2 t593 p601 q601; obtain rfl : ad596 = ad601 := (by injection e601); obtain ⟨ce601, hce601, hMe601, hcc601⟩ := Kd.N_get HO_6.out [] t593 p601 (by first | exact q601 | exact od_ | (have e_ := (Kd.N_reads' HO_6.out).1; omega)); obtain ⟨ua601_0, uc601_0, rfl, ul601_0, ge601_0⟩ := Kd.FK_slice_open hMe601; have hv601_0 := hcc601 0 _ rfl; rw [Nat.add_zero, show ((Kd.slice 46 k46)).sz = 1 from rfl, Nat.mul_one] at hv601_0; replace hv601_0 := Option.some.inj (hv601_0.symm.trans hx601_0); injection hv601_0 with hva_ hvn_ hvc_; rw [hva_] at ge601_0; rw [hvc_] at ul601_0; have HL601_0 := a0_ (show Kd.V k46 46 _ w.heap.size _ _ (rd_L3 t553 t593) from Kd.V_mk ul601_0 ge601_0); clear hva_ hvn_ hvc_ ge601_0 ul601_0; clear hcc601 hce601; have HR601_0 := Aside0.mk hi601_0; have HC601_0 := Aside0.mk hl601_0; clear hi601_0 hl601_0; replace p601 := eq_true p601; replace q601 := eq_true q601; obtain ⟨Ao90, co90, eo90⟩ := Kd.R_slice HO600.out; subst eo90) | (go_at_call 16; (with_reducible refine (laws_likeCells.calls kj14 _ _ t597 _ _ (rd_L3 t553 t593) false _ ?side1 ?side2 ?side3 ?side4 A75.out).mono ?_); (case side1 => exact ca_ (Kd.R_reads' HO600.out).2.2); (case side2 => exact (Kd.R_reads' HO600.out).2.1); (case side3 => repeat (first | exact (by repeat (first | (with_reducible exact HR601_0.out) | (with_reducible refine Kd.C_alloc ?_ _) | (with_reducible refine Kd.C_drewN ?_ _) | (with_reducible refine Kd.C_drew ?_) | exact HR601_0.out)) | (with_reducible refine Kd.C_alloc ?_ _) | (with_reducible refine Kd.C_drewN ?_ _) | (with_reducible refine Kd.C_drew ?_))); (case side4 => exact HC601_0.out); rintro e w' ⟨rfl, ⟨nd, rfl⟩⟩))
           go_ret
           exact ⟨er_, bl2_ (IsS63.ge HI592.out) GE565.out⟩
         ·rw [if_neg c74] at H
          have c74b0 : (t558 == (t549.length : Int)) = false := beq_eq_false_iff_ne.mpr c74
          have c74b1 : (t558 != (t549.length : Int)) = true := bne_iff_ne.mpr c74
          obtain rfl := Option.some.inj H
          go_wp2_with (first | ((with_reducible refine gate_callee (f := 12) rfl ?_); refine goesL_ (some 132) rfl rfl Tryz.func12 kr_ rfl #[.slice A0 l0.length c0, .int .u64 801] rfl ta_ ?_; (with_reducible refine ((fun W_ (hb_ : Below w.heap.size w W_) => laws_roll.calls kj14 _ _ l0 801 t589 t590 t591 W_ W_ (Below.refl _ _) (Kd.C_below HR0.out hb_) HC0.out A68.out) _ ?side1).mono ?_); (case side1 => exact bl1_ GE565.out); rintro e w91 ⟨g592, rfl, hi, hb, hb2⟩; refine ⟨_, rfl, ?_⟩; replace HO_4 := a0_ (Kd.V_below (Kd.V_elderB (va_ HO_4.out) g592 (IsS63.ge hi)) hb2); replace HO_6 := a0_ (Kd.N_below (Kd.N_elderB (by (with_reducible repeat (first | apply Kd.N_alloc | apply Kd.N_drewN | apply Kd.N_drew)); exact HO_6.out) g592 (IsS63.ge hi)) hb2); have HBU592 := a0_ (bl1_ GE565.out); replace HB := a0_ (below_step (bl1_ GE565.out) hb2); have HBV592 := a0_ (hb); have HI592 := a0_ (hi); have NB592_565 := a0_ (IsS63.ne_blk hi (bb_ BK565.out hb2) (by decide)); have NB565_592 := a0_ (Ne.symm (IsS63.ne_blk hi (bb_ BK565.out hb2) (by decide))); replace BK565 := a0_ (bb_ BK565.out hb2); (try clear hb); (try clear hb2); (try clear hk); (try clear hi); obtain ⟨Ao92, co92, eo92⟩ := Kd.N_slice HO_6.out; subst eo92) | ((with_reducible refine gate_callee (f := 13) rfl ?_); refine goesL_ (some 135) rfl rfl Tryz.func13 kr_ rfl #[.pointer (some ⟨g592, 0, none⟩), .int .i64 (t553.length : Int)] rfl ta_ ?_; (with_reducible refine (laws_dice_below.calls g592 t589 t590 t591 (t553.length : Int) t593 t594 t595 _ _ HI592.out HBV592.out A69.out).mono ?_); rintro e w93 ⟨rfl, hi, hb, hk⟩; refine ⟨_, rfl, ?_⟩; replace HO_4 := a0_ (Kd.V_mono (Kd.V_keep (Kd.V_mono (ok := fun k_ => ((some k_ ≠ (.slice Ao92 t553.length co92 : Value).ownBlock ∧ k_ ≠ gb565) ∧ k_ ≠ g592)) (va_ HO_4.out) (fun k_ hk_ => (⟨hk_, hk_.2⟩ : _ ∧ k_ ≠ g592))) hk (fun _ h => h.2)) (fun _ h => h.1)); replace HO_6 := a0_ (Kd.N_mono (Kd.N_keep (Kd.N_mono (ok := fun k_ => (k_ ≠ gb565 ∧ k_ ≠ g592)) (by (with_reducible repeat (first | apply Kd.N_alloc | apply Kd.N_drewN | apply Kd.N_drew)); exact HO_6.out) (fun k_ hk_ => (⟨hk_, hk_.2⟩ : _ ∧ k_ ≠ g592))) hk (fun _ h => h.2)) (fun _ h => h.1)); replace BK565 := a0_ (KeepBut.blk hk (g' := gb565) (o := .cells #[.int .i64 t563, .int .i64 t564] 46 (0, 0)) (bk_ BK565.out) NB565_592.out (by simp)); replace HB := a0_ (below_step HBU592.out hb); replace HI592 := a0_ (hi); replace HBV592 := a0_ (hb); (try clear hb); (try clear hb2); (try clear hk); (try clear hi); have p596 : 0 ≤ (t593 : Int) := od_; have q596 : t593 < (t553.length : Int) := od_; obtain ⟨ad596, A596_0, c596_0, e596, hx596_0, hl596_0, hi596_0⟩ := at_L3 (Kd.N_reads' HO_6.out).2.2 t593 p596 q596; cases e596; obtain ⟨ce596, hce596, hMe596, hcc596⟩ := Kd.N_get HO_6.out [] t593 p596 (by first | exact q596 | exact od_ | (have e_ := (Kd.N_reads' HO_6.out).1; omega)); obtain ⟨ua596_0, uc596_0, rfl, ul596_0, ge596_0⟩ := Kd.FK_slice_open hMe596; have hv596_0 := hcc596 0 _ rfl; rw [Nat.add_zero, show ((Kd.slice 46 k46)).sz = 1 from rfl, Nat.mul_one] at hv596_0; replace hv596_0 := Option.some.inj (hv596_0.symm.trans hx596_0); injection hv596_0 with hva_ hvn_ hvc_; rw [hva_] at ge596_0; rw [hvc_] at ul596_0; have HL596_0 := a0_ (show Kd.V k46 46 _ w.heap.size _ _ (rd_L3 t553 t593) from Kd.V_mk ul596_0 ge596_0); clear hva_ hvn_ hvc_ ge596_0 ul596_0; clear hcc596 hce596; have HR596_0 := Aside0.mk hi596_0; have HC596_0 := Aside0.mk hl596_0; clear hi596_0 hl596_0; replace p596 := eq_true p596; replace q596 := eq_true q596) | ((with_reducible refine gate_callee (f := 35) rfl ?_); refine goesL_ (some 141) rfl rfl Tryz.func35 kr_ rfl #[.slice A596_0 (rd_L3 t553 t593).length c596_0] rfl ta_ ?_; (with_reducible refine (impl_HexFree.calls kj14 _ _ (rd_L3 t553 t593) t597 t598 _ ?side1 ?side2 A72.out).mono ?_); (case side1 => repeat (first | exact (by repeat (first | (with_reducible exact HR596_0.out) | (with_reducible refine Kd.C_alloc ?_ _) | (with_reducible refine Kd.C_drewN ?_ _) | (with_reducible refine Kd.C_drew ?_) | exact HR596_0.out)) | (with_reducible refine Kd.C_alloc ?_ _) | (with_reducible refine Kd.C_drewN ?_ _) | (with_reducible refine Kd.C_drew ?_))); (case side2 => exact HC596_0.out); rintro e w94 ⟨v599, rfl, ho0, hb⟩; refine ⟨_, rfl, ?_⟩; replace HO_4 := a0_ (Kd.V_elder' (va_ HO_4.out) (Kd.R_base ho0) hb); replace HO_6 := a0_ (Kd.N_elder' (by (with_reducible repeat (first | apply Kd.N_alloc | apply Kd.N_drewN | apply Kd.N_drew)); exact HO_6.out) (Kd.R_base ho0) hb); replace HL596_0 := a0_ (Kd.V_elder' (va_ HL596_0.out) (Kd.R_base ho0) hb); have HO600 := a0_ (Kd.R_lower (Kd.R_newB ho0 (g := gb565) (o := .cells #[.int .i64 t563, .int .i64 t564] 46 (0, 0)) (bk_ BK565.out)) (below_size (bl2_ (IsS63.ge HI592.out) GE565.out))); replace BK565 := a0_ (bb_ BK565.out hb); replace HR596_0 := a0_ (Kd.C_below (by repeat (first | (with_reducible exact HR596_0.out) | (with_reducible refine Kd.C_alloc ?_ _) | (with_reducible refine Kd.C_drewN ?_ _) | (with_reducible refine Kd.C_drew ?_) | exact HR596_0.out)) hb); replace HB := a0_ (below_step (bl2_ (IsS63.ge HI592.out) GE565.out) hb); replace HI592 := a0_ (IsS63.below (by repeat (first | (with_reducible first | exact HI592.out | apply IsS63.alloc | apply IsS63.drewN | apply IsS63.drew | apply IsS63.set_1 | apply IsS63.set_2 | refine IsS63.far ?_ NB592_565.out _) | exact HI592.out)) hb); (try clear hb); (try clear hb2); (try clear hk); (try clear hi); (try clear ho0); obtain ⟨Ao95, co95, eo95⟩ := Kd.V_slice HO_4.out; subst eo95))
          go_ret
          exact ⟨er_, bl2_ (IsS63.ge HI592.out) GE565.out⟩
        ·rw [if_neg c73] at H
         have c73b0 : (t598 == 0) = false := beq_eq_false_iff_ne.mpr c73
         have c73b1 : (t598 != 0) = true := bne_iff_ne.mpr c73
         obtain rfl := Option.some.inj H
         go_wp2_with (first | ((with_reducible refine gate_callee (f := 12) rfl ?_); refine goesL_ (some 132) rfl rfl Tryz.func12 kr_ rfl #[.slice A0 l0.length c0, .int .u64 801] rfl ta_ ?_; (with_reducible refine ((fun W_ (hb_ : Below w.heap.size w W_) => laws_roll.calls kj14 _ _ l0 801 t589 t590 t591 W_ W_ (Below.refl _ _) (Kd.C_below HR0.out hb_) HC0.out A68.out) _ ?side1).mono ?_); (case side1 => exact bl1_ GE565.out); rintro e w96 ⟨g592, rfl, hi, hb, hb2⟩; refine ⟨_, rfl, ?_⟩; replace HO_4 := a0_ (Kd.V_below (Kd.V_elderB (va_ HO_4.out) g592 (IsS63.ge hi)) hb2); replace HO_6 := a0_ (Kd.N_below (Kd.N_elderB (by (with_reducible repeat (first | apply Kd.N_alloc | apply Kd.N_drewN | apply Kd.N_drew)); exact HO_6.out) g592 (IsS63.ge hi)) hb2); have HBU592 := a0_ (bl1_ GE565.out); replace HB := a0_ (below_step (bl1_ GE565.out) hb2); have HBV592 := a0_ (hb); have HI592 := a0_ (hi); have NB592_565 := a0_ (IsS63.ne_blk hi (bb_ BK565.out hb2) (by decide)); have NB565_592 := a0_ (Ne.symm (IsS63.ne_blk hi (bb_ BK565.out hb2) (by decide))); replace BK565 := a0_ (bb_ BK565.out hb2); (try clear hb); (try clear hb2); (try clear hk); (try clear hi); obtain ⟨Ao97, co97, eo97⟩ := Kd.N_slice HO_6.out; subst eo97) | ((with_reducible refine gate_callee (f := 13) rfl ?_); refine goesL_ (some 135) rfl rfl Tryz.func13 kr_ rfl #[.pointer (some ⟨g592, 0, none⟩), .int .i64 (t553.length : Int)] rfl ta_ ?_; (with_reducible refine (laws_dice_below.calls g592 t589 t590 t591 (t553.length : Int) t593 t594 t595 _ _ HI592.out HBV592.out A69.out).mono ?_); rintro e w98 ⟨rfl, hi, hb, hk⟩; refine ⟨_, rfl, ?_⟩; replace HO_4 := a0_ (Kd.V_mono (Kd.V_keep (Kd.V_mono (ok := fun k_ => ((some k_ ≠ (.slice Ao97 t553.length co97 : Value).ownBlock ∧ k_ ≠ gb565) ∧ k_ ≠ g592)) (va_ HO_4.out) (fun k_ hk_ => (⟨hk_, hk_.2⟩ : _ ∧ k_ ≠ g592))) hk (fun _ h => h.2)) (fun _ h => h.1)); replace HO_6 := a0_ (Kd.N_mono (Kd.N_keep (Kd.N_mono (ok := fun k_ => (k_ ≠ gb565 ∧ k_ ≠ g592)) (by (with_reducible repeat (first | apply Kd.N_alloc | apply Kd.N_drewN | apply Kd.N_drew)); exact HO_6.out) (fun k_ hk_ => (⟨hk_, hk_.2⟩ : _ ∧ k_ ≠ g592))) hk (fun _ h => h.2)) (fun _ h => h.1)); replace BK565 := a0_ (KeepBut.blk hk (g' := gb565) (o := .cells #[.int .i64 t563, .int .i64 t564] 46 (0, 0)) (bk_ BK565.out) NB565_592.out (by simp)); replace HB := a0_ (below_step HBU592.out hb); replace HI592 := a0_ (hi); replace HBV592 := a0_ (hb); (try clear hb); (try clear hb2); (try clear hk); (try clear hi); have p596 : 0 ≤ (t593 : Int) := od_; have q596 : t593 < (t553.length : Int) := od_; obtain ⟨ad596, A596_0, c596_0, e596, hx596_0, hl596_0, hi596_0⟩ := at_L3 (Kd.N_reads' HO_6.out).2.2 t593 p596 q596; cases e596; obtain ⟨ce596, hce596, hMe596, hcc596⟩ := Kd.N_get HO_6.out [] t593 p596 (by first | exact q596 | exact od_ | (have e_ := (Kd.N_reads' HO_6.out).1; omega)); obtain ⟨ua596_0, uc596_0, rfl, ul596_0, ge596_0⟩ := Kd.FK_slice_open hMe596; have hv596_0 := hcc596 0 _ rfl; rw [Nat.add_zero, show ((Kd.slice 46 k46)).sz = 1 from rfl, Nat.mul_one] at hv596_0; replace hv596_0 := Option.some.inj (hv596_0.symm.trans hx596_0); injection hv596_0 with hva_ hvn_ hvc_; rw [hva_] at ge596_0; rw [hvc_] at ul596_0; have HL596_0 := a0_ (show Kd.V k46 46 _ w.heap.size _ _ (rd_L3 t553 t593) from Kd.V_mk ul596_0 ge596_0); clear hva_ hvn_ hvc_ ge596_0 ul596_0; clear hcc596 hce596; have HR596_0 := Aside0.mk hi596_0; have HC596_0 := Aside0.mk hl596_0; clear hi596_0 hl596_0; replace p596 := eq_true p596; replace q596 := eq_true q596) | ((with_reducible refine gate_callee (f := 35) rfl ?_); refine goesL_ (some 141) rfl rfl Tryz.func35 kr_ rfl #[.slice A596_0 (rd_L3 t553 t593).length c596_0] rfl ta_ ?_; (with_reducible refine (impl_HexFree.calls kj14 _ _ (rd_L3 t553 t593) t597 t598 _ ?side1 ?side2 A72.out).mono ?_); (case side1 => repeat (first | exact (by repeat (first | (with_reducible exact HR596_0.out) | (with_reducible refine Kd.C_alloc ?_ _) | (with_reducible refine Kd.C_drewN ?_ _) | (with_reducible refine Kd.C_drew ?_) | exact HR596_0.out)) | (with_reducible refine Kd.C_alloc ?_ _) | (with_reducible refine Kd.C_drewN ?_ _) | (with_reducible refine Kd.C_drew ?_))); (case side2 => exact HC596_0.out); rintro e w99 ⟨v599, rfl, ho0, hb⟩; refine ⟨_, rfl, ?_⟩; replace HO_4 := a0_ (Kd.V_elder' (va_ HO_4.out) (Kd.R_base ho0) hb); replace HO_6 := a0_ (Kd.N_elder' (by (with_reducible repeat (first | apply Kd.N_alloc | apply Kd.N_drewN | apply Kd.N_drew)); exact HO_6.out) (Kd.R_base ho0) hb); replace HL596_0 := a0_ (Kd.V_elder' (va_ HL596_0.out) (Kd.R_base ho0) hb); have HO600 := a0_ (Kd.R_lower (Kd.R_newB ho0 (g := gb565) (o := .cells #[.int .i64 t563, .int .i64 t564] 46 (0, 0)) (bk_ BK565.out)) (below_size (bl2_ (IsS63.ge HI592.out) GE565.out))); replace BK565 := a0_ (bb_ BK565.out hb); replace HR596_0 := a0_ (Kd.C_below (by repeat (first | (with_reducible exact HR596_0.out) | (with_reducible refine Kd.C_alloc ?_ _) | (with_reducible refine Kd.C_drewN ?_ _) | (with_reducible refine Kd.C_drew ?_) | exact HR596_0.out)) hb); replace HB := a0_ (below_step (bl2_ (IsS63.ge HI592.out) GE565.out) hb); replace HI592 := a0_ (IsS63.below (by repeat (first | (with_reducible first | exact HI592.out | apply IsS63.alloc | apply IsS63.drewN | apply IsS63.drew | apply IsS63.set_1 | apply IsS63.set_2 | refine IsS63.far ?_ NB592_565.out _) | exact HI592.out)) hb); (try clear hb); (try clear hb2); (try clear hk); (try clear hi); (try clear ho0)))
         go_ret
         exact ⟨er_, bl2_ (IsS63.ge HI592.out) GE565.out⟩
       ·rw [if_neg c71] at H
        exact absurd H (by simp)
      ·rw [if_neg c70] at H
       exact absurd H (by simp)
     ·rw [if_neg c67] at H
      have c67b0 : (t552 == 0) = false := beq_eq_false_iff_ne.mpr c67
      have c67b1 : (t552 != 0) = true := bne_iff_ne.mpr c67
      obtain rfl := Option.some.inj H
      go_wp2
      go_ret
      exact ⟨er_, bl1_ GE565.out⟩

end Go.Proofs.YtmdjkmfocgelnaaGreat.PFnHexShapes
