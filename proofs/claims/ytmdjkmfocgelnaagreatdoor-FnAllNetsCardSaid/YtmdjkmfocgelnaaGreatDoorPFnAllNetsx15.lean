/- Over the kit's printer by a driver of mine (hprint.py), with parts by hand: functions of the program as Lean functions, and that each call comes to exactly these answers. -/
import Derived.Test.YtmdjkmfocgelnaaGreatDoorPFnAllNetsx0
import Derived.Test.YtmdjkmfocgelnaaGreatDoorPFnAllNetsx14
namespace Go.Proofs.YtmdjkmfocgelnaaGreatDoor.PFnAllNets
open Go.RowKit Go.Proofs.YtmdjkmfocgelnaaGreatDoorW.PrintWords Go.Proofs.YtmdjkmfocgelnaaGreatDoorW.PrintLast Go.Proofs.YtmdjkmfocgelnaaGreatDoorW.PrintMore
attribute [local go_sem] max2_int min2_int max_two min_two max_three min_three max_four min_four   
set_option linter.unusedVariables false
set_option linter.unusedSimpArgs false
def Laid (w : World) : Prop := (w.cell? ⟨0, 0, none⟩ = some (.int .i64 0) ∧ w.cell? ⟨0, 1, none⟩ = some (.int .i64 1) ∧ w.cell? ⟨0, 2, none⟩ = some (.int .i64 2)) ∧ True ∧ True
theorem Laid.die {w : World} (h : Laid w) : (w.cell? ⟨0, 0, none⟩ = some (.int .i64 0) ∧ w.cell? ⟨0, 1, none⟩ = some (.int .i64 1) ∧ w.cell? ⟨0, 2, none⟩ = some (.int .i64 2)) := h.1
theorem Laid.max {w : World} (h : Laid w) : True := h.2.2
theorem Laid.below {w w' : World} (h : Laid w) (hb : Below w.heap.size w w') : Laid w' := ⟨⟨pw_cell_below hb h.1.1, pw_cell_below hb h.1.2.1, pw_cell_below hb h.1.2.2⟩, trivial, trivial⟩
def cellKeyF (c : S56) : Int × Int := (c.f0, c.f1)
def okcF (c : S56) : Prop := (-9223372036854775808 ≤ c.f0 ∧ c.f0 ≤ 9223372036854775807) ∧ (-9223372036854775808 ≤ c.f1 ∧ c.f1 ≤ 9223372036854775807)
instance (c : S56) : Decidable (okcF c) := inferInstanceAs (Decidable (_ ∧ _))
def dget : List ((Int × Int) × (Int × Int × Int)) → Int × Int → Option (Int × Int × Int)
 | [], _ => none
 | (q, d) :: m, p => if p = q then some d else dget m p
def dieV (d : Int × Int × Int) : Value := .agg #[.int .i64 d.1, .int .i64 d.2.1, .int .i64 d.2.2]
def diceF (m : List ((Int × Int) × (Int × Int × Int))) (p : Int × Int) : Option Value := (dget m p).map dieV
def stepTo (c : S56) (e : Int) : S56 := ⟨wrap64 (c.f0 + edgeSX e), wrap64 (c.f1 + edgeSY e)⟩
mutual
def impl_faces.l0 : Nat → List S56 → List ((Int × Int) × (Int × Int × Int)) → List S56 → Int → Option (List Int)
 | 0, _, _, _, _ => none
 | k + 1, l, m, list, t => if t < (list.length : Int) then impl_faces.l1 k l m list t 0 else impl_faces.l2 k l m [] 0
def impl_faces.l1 : Nat → List S56 → List ((Int × Int) × (Int × Int × Int)) → List S56 → Int → Int → Option (List Int)
 | 0, _, _, _, _, _ => none
 | k + 1, l, m, list, t, e => if e < 4 then (if ((0 ≤ e ∧ 0 ≤ t) ∧ t < (list.length : Int)) ∧ okcF (rd_T56 list t) then (match dget m (cellKeyF (stepTo (rd_T56 list t) e)) with
   | some _ => impl_faces.l1 k l m list t (wrap64 (e + 1))
   | none => (slices_Contains_impl_Cell_impl_Cell.f k l (stepTo (rd_T56 list t) e).f0 (stepTo (rd_T56 list t) e).f1).bind fun b => if b = true then (impl_die_roll.f ((dget m (cellKeyF (rd_T56 list t))).getD (0, 0, 0)).1 ((dget m (cellKeyF (rd_T56 list t))).getD (0, 0, 0)).2.1 ((dget m (cellKeyF (rd_T56 list t))).getD (0, 0, 0)).2.2 (bt (⟨#[114, 100, 108, 117]⟩ : ByteArray) e)).bind fun y => (if list.length < 8796093022208 then impl_faces.l1 k l ((cellKeyF (stepTo (rd_T56 list t) e), y) :: m) (list ++ [stepTo (rd_T56 list t) e]) t (wrap64 (e + 1)) else none) else impl_faces.l1 k l m list t (wrap64 (e + 1))) else none) else impl_faces.l0 k l m list (wrap64 (t + 1))
def impl_faces.l2 : Nat → List S56 → List ((Int × Int) × (Int × Int × Int)) → List Int → Int → Option (List Int)
 | 0, _, _, _, _ => none
 | k + 1, l, m, out, j => if j < (l.length : Int) then (if 0 ≤ j then (if out.length < 17592186044416 then impl_faces.l2 k l m (out ++ [((dget m (cellKeyF (rd_T56 l j))).getD (0, 0, 0)).1]) (wrap64 (j + 1)) else none) else none) else some out
end
def impl_faces.f (k : Nat) (l0 : List S56) : Option (List Int) := if (0 < l0.length ∧ l0.length ≤ 8796093022208) ∧ (∀ c ∈ l0, okcF c) then impl_faces.l0 k l0 [(cellKeyF (rd_T56 l0 0), (0, 1, 2))] [rd_T56 l0 0] 0 else none
theorem impl_faces.mono_l : ∀ k, (∀ l m list t, LeO (impl_faces.l0 k l m list t) (impl_faces.l0 (k + 1) l m list t)) ∧ (∀ l m list t e, LeO (impl_faces.l1 k l m list t e) (impl_faces.l1 (k + 1) l m list t e)) ∧ (∀ l m out j, LeO (impl_faces.l2 k l m out j) (impl_faces.l2 (k + 1) l m out j))
 | 0 => ⟨fun _ _ _ _ r h => by simp [impl_faces.l0] at h, fun _ _ _ _ _ r h => by simp [impl_faces.l1] at h, fun _ _ _ _ r h => by simp [impl_faces.l2] at h⟩
 | k + 1 => by
  obtain ⟨i0, i1, i2⟩ := impl_faces.mono_l k
  refine ⟨fun l m list t => ?_, fun l m list t e => ?_, fun l m out j => ?_⟩
  ·unfold impl_faces.l0
   exact LeO.ite (i1 _ _ _ _ _) (i2 _ _ _ _)
  ·unfold impl_faces.l1
   refine LeO.ite (LeO.ite ?_ (LeO.none _)) (i0 _ _ _ _)
   cases dget m (cellKeyF (stepTo (rd_T56 list t) e)) with
   | some _ => exact i1 _ _ _ _ _
   | none => exact LeO.bind (slices_Contains_impl_Cell_impl_Cell.mono _ _ _ _) (fun b => LeO.ite (LeO.bind (LeO.refl _) (fun y => LeO.ite (i1 _ _ _ _ _) (LeO.none _))) (i1 _ _ _ _ _))
  ·unfold impl_faces.l2
   exact LeO.ite (LeO.ite (LeO.ite (i2 _ _ _ _) (LeO.none _)) (LeO.none _)) (LeO.refl _)
theorem impl_faces.mono : ∀ l0 k, LeO (impl_faces.f k l0) (impl_faces.f (k + 1) l0) := by
 intro l0 k
 unfold impl_faces.f
 exact LeO.ite ((impl_faces.mono_l k).1 _ _ _ _) (LeO.refl _)
theorem dieZ (w : World) : (zeroValue 73).run Tryz.prog w = .ok (.agg #[.int .i64 0, .int .i64 0, .int .i64 0]) w := by kernel_rfl
theorem cellLaidF : Go.Maps.Keyed Tryz.prog 56 := Go.Maps.Keyed.of_law (Go.deep_law_laid (m := 3) kr_ (by omega) (of_decide_eq_true kr_) kr_ kr_)
theorem cellKeyedF (c : S56) (h : okcF c) : ∃ l, keyOf Tryz.prog 56 (enc2 (cellKeyF c)) = some l :=
 key2 Tryz.underlying56 kr_ kr_ Tryz.underlying2 Tryz.underlying2 kr_ kr_ rfl rfl (by decide) (by decide) ⟨Tryz.prog.types.size - 1, by kernel_rfl⟩ c.f0 c.f1 h.1 h.2
theorem upd_run {P : Program} {a : Act} {o : Oper} {t : TypeId} {m x v : Operand} {W w1 : World} (ho : o.op = .insert t m x v ∨ o.op = .mapUpdate t m x v) (mv xv vv : Value) (h1 : a.eval m = mv) (h2 : a.eval x = xv) (h3 : a.eval v = vv) (h : (Instr.mapUpdate t mv xv vv).run P W = .ok () w1) :
  (execOp a.eval o).run P W = .ok .skip w1 := by
 rcases ho with ho | ho <;> simp [execOp, ho, h1, h2, h3, h, Result.andThen]
theorem diceS (m : List ((Int × Int) × (Int × Int × Int))) (y : Int × Int) (d : Int × Int × Int) (q : Int × Int) : (if q = y then some (dieV d) else diceF m q) = diceF ((y, d) :: m) q := by
 unfold diceF
 rw [dget]
 by_cases h : q = y
 ·rw [if_pos h, if_pos h]
  rfl
 ·rw [if_neg h, if_neg h]
theorem rd_memF (l : List S56) (i : Int) (h0 : 0 ≤ i) (h : i < (l.length : Int)) : rd_T56 l i ∈ l := by
 unfold rd_T56
 rw [List.getD_eq_getElem?_getD, List.getElem?_eq_getElem (by omega), Option.getD_some]
 exact List.getElem_mem _
theorem diceD (m : List ((Int × Int) × (Int × Int × Int))) (p : Int × Int) (x : Int × Int × Int) (h : x = (dget m p).getD (0, 0, 0)) : (diceF m p).getD (.agg #[.int .i64 0, .int .i64 0, .int .i64 0]) = .agg #[.int .i64 x.1, .int .i64 x.2.1, .int .i64 x.2.2] := by
 subst h
 unfold diceF
 cases dget m p <;> rfl
theorem infoC : (Tryz.prog.info? 56).map (fun i => (i.zero, i.size, i.bytes)) = some (some (.agg #[.int .i64 0, .int .i64 0]), 2, 16) := by kernel_rfl
theorem infoI : (Tryz.prog.info? 2).map (fun i => (i.zero, i.size, i.bytes)) = some (some (.int .i64 0), 1, 8) := by kernel_rfl
theorem step_ok (c : S56) (e : Int) : okcF (stepTo c e) := by
 unfold okcF stepTo wrap64
 constructor <;> constructor <;> simp only <;> omega
set_option maxHeartbeats 4000000 in
set_option maxRecDepth 100000 in
theorem impl_faces.calls (k : Nat) (A0 : Option Addr) (c0 : Nat) (l0 : List S56) (r : List Int) (w : World) (hr0 : Kd.C k56 w A0 l0.length l0) (hc0 : l0.length ≤ c0) (h : impl_faces.f k l0 = some r) (hG : Laid w) :
  Calls Tryz.prog 31 #[.slice A0 l0.length c0] w fun e w' => ∃ v0_ : Value, e = .returned v0_ ∧ Kd.R (Kd.int .i64) 2 w' w.heap.size (fun _ => True) v0_ r ∧ Below w.heap.size w w' := by
 unfold impl_faces.f at h
 split at h
 case isFalse => exact absurd h (by simp)
 rename_i hl
 obtain ⟨⟨hp, hl⟩, hok⟩ := hl
 have hu := Tryz.underlying56
 have hud := Tryz.underlying73
 have HR0 := Aside0.mk hr0
 have HC0 := Aside0.mk hc0
 have H' := Aside0.mk h
 have HL := Aside0.mk hl
 have HP := Aside0.mk hp
 have HOK := Aside0.mk hok
 obtain ⟨ad0, e0, hx0, hx1⟩ := at_T56 HR0.out 0 (by omega) (by omega)
 cases e0
 obtain ⟨g0, g1, g2⟩ := hG.die
 have q0 : (0 < l0.length) = True := eq_true hp
 have q0i : ((0 : Int) < (l0.length : Int)) = True := eq_true (by omega)
 have q0d : decide ((0 : Int) < (l0.length : Int)) = true := decide_eq_true (by omega)
 rw [show ((0 : Int)).toNat * 2 = 0 from rfl, Addr.add_zero'] at hx0 hx1
 have KC0 := a0_ (hok _ (rd_memF l0 0 (by omega) (by omega)))
 clear hr0 hc0 h hl hok hp
 have HM0 := a0_ (MapF.made Tryz.prog 56 enc2 w.drew)
 obtain ⟨w1, hrun, hm1, hg1⟩ := HM0.out.put_run cellLaidF Tryz.underlying74 (e := 73) (by unfold maxLen; omega) (x := cellKeyF (rd_T56 l0 0)) (fun q hq => enc2_inj _ _ hq) (cellKeyedF _ KC0.out) (dieV (0, 1, 2))
 have HM1 : Aside0 (MapF Tryz.prog 56 enc2 w1 w.heap.size 1 (diceF [(cellKeyF (rd_T56 l0 0), (0, 1, 2))])) := ⟨hm1.ext (fun q => diceS [] _ (0, 1, 2) q)⟩
 have HB1 : Aside0 (Below w.heap.size w w1) := ⟨below_mapTurn (below_alloc (below_drew1 (Below.refl _ _)) _) hg1 (Nat.le_refl _) (below_size (below_alloc (below_drew1 (Below.refl _ _)) _))⟩
 clear HM0 hm1 hg1
 go_enter Tryz.func31, Tryz.ntmps31
 go_wp2
 refine start_ (n := 8) (S := fun w' => w'.cell? ad0 = some (.int .i64 (rd_T56 l0 0).f0) ∧ w'.cell? ⟨ad0.block, ad0.off + 1, none⟩ = some (.int .i64 (rd_T56 l0 0).f1) ∧ w'.cell? ⟨0, 0, none⟩ = some (.int .i64 0) ∧ w'.cell? ⟨0, 1, none⟩ = some (.int .i64 1) ∧ w'.cell? ⟨0, 2, none⟩ = some (.int .i64 2)) (ds := [5]) (mk_ 0 8) kr_ rfl rfl ⟨hx0, hx1, g0, g1, g2⟩ (fun hHeld => ?_)
 refine pure_ (i := 1) (N := some 15) (v := ?_) (a' := ?_) #[false, true, false, false, false, false, false, false] rfl rfl kr_ (fun _ _ _ h => h) (Or.inl ⟨by rfl, ?_⟩) ?_ ?_
 rotate_left
 ·intro w'
  go_simp
  with_reducible rfl
 rotate_left
 ·simp only [sp_]
  rfl
 refine pure_ (i := 2) (N := some 16) (v := ?_) (a' := ?_) #[false, true, true, false, false, false, false, false] rfl rfl kr_ (fun _ _ _ h => h) (Or.inl ⟨by rfl, ?_⟩) ?_ ?_
 rotate_left
 ·intro w'
  go_simp
  with_reducible rfl
 rotate_left
 ·simp only [sp_]
  rfl
 refine take_ (i := 3) (N := some 17) (v := ?_) (a' := ?_) #[false, true, true, true, false, false, false, false] rfl rfl kr_ (fun _ _ _ h => h) (Or.inl ⟨by rfl, ?_⟩) hHeld ?_ ?_
 rotate_left
 ·rintro w' ⟨s0, s1, s2, s3, s4⟩
  go_simp
  with_reducible rfl
 rotate_left
 ·simp only [sp_]
  rfl
 refine take_ (i := 4) (N := some 18) (v := ?_) (a' := ?_) #[false, true, true, true, true, false, false, false] rfl rfl kr_ (fun _ _ _ h => h) (Or.inl ⟨by rfl, ?_⟩) hHeld ?_ ?_
 rotate_left
 ·rintro w' ⟨s0, s1, s2, s3, s4⟩
  go_simp
  with_reducible rfl
 rotate_left
 ·simp only [sp_]
  rfl
 refine one_ (i := 0) (N := some 14) (mk_ 5 3) rfl rfl kr_ (by decide) (fun K hK => ?_)
 have hbA : Below w.drew.heap.size w.drew (w.drew.alloc (.map #[] 0)) := (Below.refl _ _).alloc (Nat.le_refl _) _
 refine value_ (w1 := w.drew.alloc (.map #[] 0)) (v := .map (some w.heap.size)) (by rfl) rfl (by rfl) ?_
 refine hK.out _ _ ⟨(hbA.cell (World.block_lt_of_cell? _ _ (hHeld.1))).trans (hHeld.1), (hbA.cell (World.block_lt_of_cell? _ _ (hHeld.2.1))).trans (hHeld.2.1), (hbA.cell (World.block_lt_of_cell? _ _ (hHeld.2.2.1))).trans (hHeld.2.2.1), (hbA.cell (World.block_lt_of_cell? _ _ (hHeld.2.2.2.1))).trans (hHeld.2.2.2.1), (hbA.cell (World.block_lt_of_cell? _ _ (hHeld.2.2.2.2))).trans (hHeld.2.2.2.2)⟩ (fun hHeld => ?_)
 clear hK K hbA
 refine nm_ ?_
 refine last_ (i := 5) (N := none) (mk_ 6 2) rfl rfl kr_ (by decide) (fun K hK => ?_)
 refine skip_ (w1 := w1) (by rfl) rfl (upd_run (.inl rfl) _ _ _ rfl rfl rfl hrun) ?_
 refine hK.out _ _ ?_
 clear hK K hHeld hrun
 refine pure_ (i := 6) (N := some 19) (v := ?_) (a' := ?_) (mk_ 7 1) rfl rfl kr_ (fun _ _ _ h => h) (Or.inl ⟨by rfl, ?_⟩) ?_ ?_
 rotate_left
 ·intro w'
  go_simp
  with_reducible rfl
 rotate_left
 ·simp only [sp_]
  rfl
 refine pure_ (i := 7) (N := some 3) (v := ?_) (a' := ?_) (mk_ 8 0) rfl rfl kr_ (fun _ _ _ h => h) (Or.inl ⟨by rfl, ?_⟩) ?_ ?_
 rotate_left
 ·intro w'
  go_simp
  with_reducible rfl
 rotate_left
 ·simp only [sp_]
  rfl
 refine done_ kr_ ?_
 replace hx0 := (HB1.out.cell (World.block_lt_of_cell? w _ hx0)).trans hx0
 replace hx1 := (HB1.out.cell (World.block_lt_of_cell? w _ hx1)).trans hx1
 clear g0 g1 g2
 go_wp2_with (first | ((with_reducible refine gate_dst (N := 23) rfl ?_); refine Kd.R_lit k56 _ 56 ?hg (N := 23) ?hd (xs := ([(rd_T56 l0 0)] : List S56)) (inner := [.int .i64 (rd_T56 l0 0).f0, .int .i64 (rd_T56 l0 0).f1]) (ok := fun _ => True) (okp := fun _ => True) ?hr ?hp (fun _ hk => hk) trivial (Below.refl _ _) (Nat.le_refl _) (by simp) ?_; (case hd => rfl); (case hg => rfl); (case hr => first | (go_simp; done) | (go_simp; rfl)); (case hp => exact (Reps.c2 (show Kd.M k56 _ _ _ (rd_T56 l0 0) [.int .i64 (rd_T56 l0 0).f0, .int .i64 (rd_T56 l0 0).f1] from (k56_mkM _ _ _ (rd_T56 l0 0))) (Reps.none _ _))); intro vl w2 ho hb hg _; have HM2 := a0_ (HM1.out.below' hb); have HQ2 := a0_ (Kd.R_lower ho (below_size HB1.out)); have HB2 := a0_ (below_step HB1.out hb); clear ho hb hg))
 clear hx0 hx1 HM1 HB1
 go_loopg [4, 5] k (fun kq v4 v5 w' => ∃ (m : List ((Int × Int) × (Int × Int × Int))) (list : List S56) (t : Int), v5 = .int .i64 t ∧ Aside0 (impl_faces.l0 kq l0 m list t = some r) ∧ Aside0 (kq ≤ k) ∧ Aside0 (MapF Tryz.prog 56 enc2 w' w.heap.size list.length (diceF m)) ∧ Aside0 (Kd.R k56 56 w' w.heap.size (fun _ => True) v4 list) ∧ Aside0 (Below w.heap.size w w'))
 case atStart => exact ⟨_, _, 0, rfl, H', ⟨Nat.le_refl _⟩, HM2, HQ2, HB2⟩
 case round =>
  clear H' HM2 HQ2 HB2
  obtain ⟨m, list, t, rfl, HA, HK1, HM, HQ, HB⟩ := hrel
  cases gk with
  | zero => exact absurd HA.out (by simp [impl_faces.l0])
  | succ k1 =>
   have H := HA.out
   clear HA
   simp only [impl_faces.l0] at H
   obtain ⟨Al, cl, el⟩ := Kd.R_slice HQ.out
   subst el
   by_cases c : t < (list.length : Int)
   ·rw [if_pos c] at H
    have c0 : decide (t < (list.length : Int)) = true := decide_eq_true c
    have H' := Aside0.mk H
    clear H c
    go_wp2_with (first | (go_at_call 55; refine (impl_edges.calls _).mono ?_; rintro e w5 ⟨rfl, hb5⟩; have HM5 := a0_ (HM.out.below' hb5); have HQ5 := a0_ (Kd.R_below HQ.out hb5); have HB5 := a0_ (below_step HB.out hb5); clear hb5))
    clear HM HQ HB c0
    go_loopg [4, 31] k1 (fun kq v4 v31 w' => ∃ (m : List ((Int × Int) × (Int × Int × Int))) (list : List S56) (e : Int), v31 = .int .i64 e ∧ Aside0 (impl_faces.l1 kq l0 m list t e = some r) ∧ Aside0 (kq ≤ k1) ∧ Aside0 (MapF Tryz.prog 56 enc2 w' w.heap.size list.length (diceF m)) ∧ Aside0 (Kd.R k56 56 w' w.heap.size (fun _ => True) v4 list) ∧ Aside0 (Below w.heap.size w w'))
    case atStart => exact ⟨_, _, 0, rfl, H', ⟨Nat.le_refl _⟩, HM5, HQ5, HB5⟩
    case round =>
     clear H' HM5 HQ5 HB5
     obtain ⟨m, list, e, rfl, HA, HK2, HM, HQ, HB⟩ := hrel
     cases gk with
     | zero => exact absurd HA.out (by simp [impl_faces.l1])
     | succ k2 =>
      have H := HA.out
      clear HA
      simp only [impl_faces.l1] at H
      obtain ⟨Al, cl, el⟩ := Kd.R_slice HQ.out
      subst el
      by_cases c : e < 4
      ·rw [if_pos c] at H
       by_cases d : ((0 ≤ e ∧ 0 ≤ t) ∧ t < (list.length : Int)) ∧ okcF (rd_T56 list t)
       ·rw [if_pos d] at H
        obtain ⟨⟨⟨d0, d1⟩, d2⟩, d3⟩ := d
        have KC := Aside0.mk d3
        clear d3
        have hE := edges_at e d0 c
        obtain ⟨cc, hcc⟩ : ∃ cc, cc = rd_T56 list t := ⟨_, rfl⟩
        obtain ⟨ad, e1, hx0, hx1⟩ := at_T56 (Kd.R_reads' HQ.out).2.2 t d1 d2
        cases e1
        rw [← hcc] at hx0 hx1 H KC
        clear hcc
        have BX := a0_ (heap_alloc_new wr (.cells #[.int .i64 (edgeSX e), .int .i64 (edgeSY e), .int .i64 (edgeRX e), .int .i64 (edgeRY e), .int .i64 (edgeLX e), .int .i64 (edgeLY e)] 76))
        have HM6 := a0_ (HM.out.alloc (.cells #[.int .i64 (edgeSX e), .int .i64 (edgeSY e), .int .i64 (edgeRX e), .int .i64 (edgeRY e), .int .i64 (edgeLX e), .int .i64 (edgeLY e)] 76))
        have HQ6 := a0_ (Kd.R_alloc HQ.out (.cells #[.int .i64 (edgeSX e), .int .i64 (edgeSY e), .int .i64 (edgeRX e), .int .i64 (edgeRY e), .int .i64 (edgeLX e), .int .i64 (edgeLY e)] 76))
        have HB6 := a0_ (below_alloc HB.out (.cells #[.int .i64 (edgeSX e), .int .i64 (edgeSY e), .int .i64 (edgeRX e), .int .i64 (edgeRY e), .int .i64 (edgeLX e), .int .i64 (edgeLY e)] 76))
        have hb6 := below_alloc (Below.refl wr.heap.size wr) (.cells #[.int .i64 (edgeSX e), .int .i64 (edgeSY e), .int .i64 (edgeRX e), .int .i64 (edgeRY e), .int .i64 (edgeLX e), .int .i64 (edgeLY e)] 76)
        have hy0 := (hb6.cell (World.block_lt_of_cell? _ _ hx0)).trans hx0
        have hy1 := (hb6.cell (World.block_lt_of_cell? _ _ hx1)).trans hx1
        clear hb6
        have dd0 := decide_eq_true d0
        have dd1 := decide_eq_true d1
        have dd2 := decide_eq_true d2
        have cd := decide_eq_true c
        replace d0 := eq_true d0
        replace d1 := eq_true d1
        replace d2 := eq_true d2
        replace c := eq_true c
        go_wp2
        generalize hA : wr.alloc (.cells #[.int .i64 (edgeSX e), .int .i64 (edgeSY e), .int .i64 (edgeRX e), .int .i64 (edgeRY e), .int .i64 (edgeLX e), .int .i64 (edgeLY e)] 76) = wA at HM6 HQ6 HB6 BX hy0 hy1 ⊢
        clear hA
        have BX0 : wA.cell? ⟨wr.heap.size, 0, none⟩ = some (.int .i64 (edgeSX e)) := (blk_cell BX.out 0).trans rfl
        have BX1 : wA.cell? ⟨wr.heap.size, 1, none⟩ = some (.int .i64 (edgeSY e)) := (blk_cell BX.out 1).trans rfl
        refine start_ (n := 9) (S := fun w' => w'.cell? (ad.add (t.toNat * 2)) = some (.int .i64 cc.f0) ∧ w'.cell? ⟨(ad.add (t.toNat * 2)).block, (ad.add (t.toNat * 2)).off + 1, none⟩ = some (.int .i64 cc.f1) ∧ w'.cell? ⟨wr.heap.size, 0, none⟩ = some (.int .i64 (edgeSX e)) ∧ w'.cell? ⟨wr.heap.size, 1, none⟩ = some (.int .i64 (edgeSY e))) (ds := [8]) (mk_ 0 9) kr_ rfl rfl ⟨hy0, hy1, BX0, BX1⟩ (fun hHeld => ?_)
        refine pure_ (i := 0) (N := some 35) (v := ?_) (a' := ?_) (mk_ 1 8) rfl rfl kr_ (fun _ _ _ h => h) (Or.inl ⟨by rfl, ?_⟩) ?_ ?_
        rotate_left
        ·intro w'
         go_simp
         with_reducible rfl
        rotate_left
        ·simp only [sp_]
         rfl
        refine pure_ (i := 1) (N := some 36) (v := ?_) (a' := ?_) (mk_ 2 7) rfl rfl kr_ (fun _ _ _ h => h) (Or.inl ⟨by rfl, ?_⟩) ?_ ?_
        rotate_left
        ·intro w'
         go_simp
         with_reducible rfl
        rotate_left
        ·simp only [sp_]
         rfl
        refine pure_ (i := 2) (N := some 37) (v := ?_) (a' := ?_) (mk_ 3 6) rfl rfl kr_ (fun _ _ _ h => h) (Or.inl ⟨by rfl, ?_⟩) ?_ ?_
        rotate_left
        ·intro w'
         go_simp
         with_reducible rfl
        rotate_left
        ·simp only [sp_]
         rfl
        refine take_ (i := 3) (N := some 38) (v := ?_) (a' := ?_) (mk_ 4 5) rfl rfl kr_ (fun _ _ _ h => h) (Or.inl ⟨by rfl, ?_⟩) hHeld ?_ ?_
        rotate_left
        ·rintro w' ⟨s0, s1, s2, s3⟩
         go_simp
         with_reducible rfl
        rotate_left
        ·simp only [sp_]
         rfl
        refine pure_ (i := 4) (N := some 39) (v := ?_) (a' := ?_) (mk_ 5 4) rfl rfl kr_ (fun _ _ _ h => h) (Or.inl ⟨by rfl, ?_⟩) ?_ ?_
        rotate_left
        ·intro w'
         go_simp
         with_reducible rfl
        rotate_left
        ·simp only [sp_]
         rfl
        refine take_ (i := 5) (N := some 40) (v := ?_) (a' := ?_) (mk_ 6 3) rfl rfl kr_ (fun _ _ _ h => h) (Or.inl ⟨by rfl, ?_⟩) hHeld ?_ ?_
        rotate_left
        ·rintro w' ⟨s0, s1, s2, s3⟩
         go_simp
         with_reducible rfl
        rotate_left
        ·simp only [sp_]
         rfl
        refine join_ (σ := Nat) 1 (mk_ 8 1) (fun g => [(41, .agg #[.int .i64 (stepTo cc e).f0, .int .i64 (stepTo cc e).f1]), (8, .pointer (some ⟨g, 0, none⟩))]) (fun g w' => wA.heap.size ≤ g ∧ Below wA.heap.size wA w' ∧ w'.heap[g]? = some (.cells #[.int .i64 0, .int .i64 0] 56 (0, 0))) ?_ ?_
        rotate_left
        ·intro J
         refine two_ (i := 6) (j := 7) (Ni := some 41) (Nj := some 8) (mk_ 7 2) #[true, true, true, true, true, true, false, true, false] rfl rfl rfl rfl kr_ (by decide) (by decide) (fun K hK => ?_) (fun K hK => ?_)
         ·refine goes_ Tryz.func56 kr_ rfl #[.agg #[.int .i64 cc.f0, .int .i64 cc.f1], .agg #[.int .i64 (edgeSX e), .int .i64 (edgeSY e)]] (by rfl) rfl rfl (by (try simp only [List.map_toArray, List.map_cons, List.map_nil]); first | done | rfl) ?_
          refine (impl_plus.calls cc.f0 cc.f1 (edgeSX e) (edgeSY e) (stepTo cc e).f0 (stepTo cc e).f1 _ rfl).mono ?_
          rintro e' w7 ⟨rfl, hb⟩
          refine ⟨_, rfl, ?_⟩
          refine hK.out _ _ ⟨(hb.cell (World.block_lt_of_cell? _ _ (hHeld.1))).trans (hHeld.1), (hb.cell (World.block_lt_of_cell? _ _ (hHeld.2.1))).trans (hHeld.2.1), (hb.cell (World.block_lt_of_cell? _ _ (hHeld.2.2.1))).trans (hHeld.2.2.1), (hb.cell (World.block_lt_of_cell? _ _ (hHeld.2.2.2))).trans (hHeld.2.2.2)⟩ (fun hHeld => ?_)
          clear hK K
          refine nm_ ?_
          refine one_ (i := 7) (N := some 8) (mk_ 8 1) rfl rfl kr_ (by decide) (fun K hK => ?_)
          have hb2 := below_alloc (Below.refl w7.heap.size w7) (.cells #[.int .i64 0, .int .i64 0] 56)
          refine value_ (w1 := w7.alloc (.cells #[.int .i64 0, .int .i64 0] 56)) (v := .pointer (some ⟨w7.heap.size, 0, none⟩)) (by rfl) rfl (by first | rfl | (go_simp; done) | (go_simp; rfl)) ?_
          refine hK.out _ _ ⟨(hb2.cell (World.block_lt_of_cell? _ _ (hHeld.1))).trans (hHeld.1), (hb2.cell (World.block_lt_of_cell? _ _ (hHeld.2.1))).trans (hHeld.2.1), (hb2.cell (World.block_lt_of_cell? _ _ (hHeld.2.2.1))).trans (hHeld.2.2.1), (hb2.cell (World.block_lt_of_cell? _ _ (hHeld.2.2.2))).trans (hHeld.2.2.2)⟩ (fun _ => ?_)
          clear hK K
          refine nm_ ?_
          exact norm_ (by simp only [putAll, Act.put, List.setIfInBounds_toArray, List.set_cons_zero, List.set_cons_succ, i64_w, i32_w]) (J w7.heap.size _ ⟨hb.size, below_then (show Below wA.heap.size wA w7 from ⟨hb.os, hb.tape, hb.output, hb.size, hb.block⟩) hb.size hb2, heap_alloc_new w7 _⟩)
         ·have hb2 := below_alloc (Below.refl wA.drew.heap.size wA.drew) (.cells #[.int .i64 0, .int .i64 0] 56)
          refine value_ (w1 := wA.drew.alloc (.cells #[.int .i64 0, .int .i64 0] 56)) (v := .pointer (some ⟨wA.heap.size, 0, none⟩)) (by rfl) rfl (by first | rfl | (go_simp; done) | (go_simp; rfl)) ?_
          refine hK.out _ _ ⟨(hb2.cell (World.block_lt_of_cell? _ _ (hHeld.1))).trans (hHeld.1), (hb2.cell (World.block_lt_of_cell? _ _ (hHeld.2.1))).trans (hHeld.2.1), (hb2.cell (World.block_lt_of_cell? _ _ (hHeld.2.2.1))).trans (hHeld.2.2.1), (hb2.cell (World.block_lt_of_cell? _ _ (hHeld.2.2.2))).trans (hHeld.2.2.2)⟩ (fun hHeld => ?_)
          clear hK K
          refine nm_ ?_
          refine one_ (i := 6) (N := some 41) (mk_ 8 1) rfl rfl kr_ (by decide) (fun K hK => ?_)
          refine goes_ Tryz.func56 kr_ rfl #[.agg #[.int .i64 cc.f0, .int .i64 cc.f1], .agg #[.int .i64 (edgeSX e), .int .i64 (edgeSY e)]] (by rfl) rfl rfl (by (try simp only [List.map_toArray, List.map_cons, List.map_nil]); first | done | rfl) ?_
          refine (impl_plus.calls cc.f0 cc.f1 (edgeSX e) (edgeSY e) (stepTo cc e).f0 (stepTo cc e).f1 _ rfl).mono ?_
          rintro e' w7 ⟨rfl, hb⟩
          refine ⟨_, rfl, ?_⟩
          refine hK.out _ _ ⟨(hb.cell (World.block_lt_of_cell? _ _ (hHeld.1))).trans (hHeld.1), (hb.cell (World.block_lt_of_cell? _ _ (hHeld.2.1))).trans (hHeld.2.1), (hb.cell (World.block_lt_of_cell? _ _ (hHeld.2.2.1))).trans (hHeld.2.2.1), (hb.cell (World.block_lt_of_cell? _ _ (hHeld.2.2.2))).trans (hHeld.2.2.2)⟩ (fun _ => ?_)
          clear hK K
          refine nm_ ?_
          have hb3 := below_step hb2 hb
          exact norm_ (by simp only [putAll, Act.put, List.setIfInBounds_toArray, List.set_cons_zero, List.set_cons_succ, i64_w, i32_w]) (J wA.heap.size _ ⟨Nat.le_refl _, ⟨hb3.os, hb3.tape, hb3.output, hb3.size, hb3.block⟩, blk_below (heap_alloc_new wA.drew _) hb⟩)
        rintro g w7 ⟨hg, hb, hbk⟩
        refine norm_ (a' := ?_) ?_ ?_
        rotate_left
        ·simp only [putAll, Act.put, List.setIfInBounds_toArray, List.set_cons_zero, List.set_cons_succ, i64_w, i32_w]
         rfl
        have z0 : w7.cell? ⟨g, 0, none⟩ = some (.int .i64 0) := (blk_cell hbk 0).trans rfl
        have z1 : w7.cell? ⟨g, 1, none⟩ = some (.int .i64 0) := (blk_cell hbk 1).trans rfl
        have f0 := blk_frozen hbk 0
        have f1 := blk_frozen hbk 1
        refine last_ (i := 8) (N := none) (mk_ 9 0) rfl rfl kr_ (by decide) (fun K hK => ?_)
        refine skip_ (w1 := (w7.setCell ⟨g, 0, none⟩ (.int .i64 (stepTo cc e).f0)).setCell ⟨g, 1, none⟩ (.int .i64 (stepTo cc e).f1)) (by rfl) rfl ?_ ?_
        ·first | (go_simp; done) | (go_simp; rfl)
        refine hK.out _ _ ?_
        clear hK K
        refine done_ kr_ ?_
        have BK := a0_ (blk_put (cs := #[.int .i64 (stepTo cc e).f0, .int .i64 0]) (blk_put (cs := #[.int .i64 0, .int .i64 0]) hbk 0 (.int .i64 (stepTo cc e).f0) rfl) 1 (.int .i64 (stepTo cc e).f1) rfl)
        have hE9 : Below wA.heap.size wA ((w7.setCell ⟨g, 0, none⟩ (.int .i64 (stepTo cc e).f0)).setCell ⟨g, 1, none⟩ (.int .i64 (stepTo cc e).f1)) := (hb.setCell hg _).setCell hg _
        have HM7 := a0_ (HM6.out.below' hE9)
        have HQ7 := a0_ (Kd.R_below HQ6.out hE9)
        have HB7 := a0_ (below_step HB6.out hE9)
        have HG := a0_ (show w.heap.size < g from Nat.lt_of_lt_of_le HM6.out.lt hg)
        have hv0 := (hE9.cell (World.block_lt_of_cell? _ _ hy0)).trans hy0
        have hv1 := (hE9.cell (World.block_lt_of_cell? _ _ hy1)).trans hy1
        clear hbk z0 z1 f0 f1 hb hg HM6 HQ6 HB6 BX BX0 BX1 hy0 hy1 hHeld hx0 hx1 HM HQ HB hE9
        generalize (w7.setCell ⟨g, 0, none⟩ (.int .i64 (stepTo cc e).f0)).setCell ⟨g, 1, none⟩ (.int .i64 (stepTo cc e).f1) = wB at BK HM7 HQ7 HB7 hv0 hv1 ⊢
        have z0 : wB.cell? ⟨g, 0, none⟩ = some (.int .i64 (stepTo cc e).f0) := (blk_cell BK.out 0).trans rfl
        have z1 : wB.cell? ⟨g, 1, none⟩ = some (.int .i64 (stepTo cc e).f1) := (blk_cell BK.out 1).trans rfl
        cases hq : dget m (cellKeyF (stepTo cc e)) with
        | some x =>
         rw [hq] at H
         have H' := Aside0.mk H
         clear H
         go_wp2_with (first | (at_lookup; refine wpList_lookF rfl _ _ 74 rfl 56 73 cellLaidF Tryz.underlying74 (dieZ _) enc2 w.heap.size list.length (diceF m) rfl HM7.out (cellKeyF (stepTo cc e)) rfl (cellKeyedF _ (step_ok _ _)) (some (dieV x)) (by unfold diceF; rw [hq]; rfl) (.agg #[.int .i64 x.1, .int .i64 x.2.1, .int .i64 x.2.2]) true rfl rfl ?_))
         go_roundg k2
         case measure => have := HK1.out; have := HK2.out; omega
         case rel => exact ⟨m, list, wrap64 (e + 1), rfl, H', ⟨by have := HK2.out; omega⟩, ⟨HM7.out.alloc _⟩, ⟨Kd.R_alloc HQ7.out _⟩, ⟨below_alloc HB7.out _⟩⟩
        | none =>
         rw [hq] at H
         simp only at H
         obtain ⟨b, hA, H⟩ := Option.bind_eq_some_iff.1 H
         have A' := Aside0.mk hA
         clear hA
         have z0a : (wB.alloc (.cells #[.int .i64 0, .int .i64 0, .int .i64 0] 73)).cell? ⟨g, 0, none⟩ = some (.int .i64 (stepTo cc e).f0) := (blk_cell (blk_alloc BK.out _) 0).trans rfl
         have z1a : (wB.alloc (.cells #[.int .i64 0, .int .i64 0, .int .i64 0] 73)).cell? ⟨g, 1, none⟩ = some (.int .i64 (stepTo cc e).f1) := (blk_cell (blk_alloc BK.out _) 1).trans rfl
         cases b with
         | false =>
          have H' : Aside0 (impl_faces.l1 k2 l0 m list t (wrap64 (e + 1)) = some r) := ⟨(if_neg (by simp)).symm.trans H⟩
          clear H
          go_wp2_with (first | (at_lookup; refine wpList_lookF rfl _ _ 74 rfl 56 73 cellLaidF Tryz.underlying74 (dieZ _) enc2 w.heap.size list.length (diceF m) rfl HM7.out (cellKeyF (stepTo cc e)) rfl (cellKeyedF _ (step_ok _ _)) none (by unfold diceF; rw [hq]; rfl) (.agg #[.int .i64 0, .int .i64 0, .int .i64 0]) false rfl rfl ?_) | (go_at_call 57; refine (slices_Contains_impl_Cell_impl_Cell.calls k2 _ _ l0 (stepTo cc e).f0 (stepTo cc e).f1 false _ (Kd.C_below HR0.out (below_alloc HB7.out _)) HC0.out A'.out).mono ?_; rintro e' w9 ⟨rfl, hb9⟩; have hbx : Below wB.heap.size wB w9 := below_step (below_alloc (Below.refl wB.heap.size wB) _) hb9; have HM9 := a0_ (HM7.out.below' hbx); have HQ9 := a0_ (Kd.R_below HQ7.out hbx); have HB9 := a0_ (below_step HB7.out hbx); have BK9 := a0_ (blk_below BK.out hbx); have v0 := (hbx.cell (World.block_lt_of_cell? _ _ hv0)).trans hv0; have v1 := (hbx.cell (World.block_lt_of_cell? _ _ hv1)).trans hv1; have y0 := (hbx.cell (World.block_lt_of_cell? _ _ z0)).trans z0; have y1 := (hbx.cell (World.block_lt_of_cell? _ _ z1)).trans z1; clear hb9 hbx))
          go_roundg k2
          case measure => have := HK1.out; have := HK2.out; omega
          case rel => exact ⟨m, list, wrap64 (e + 1), rfl, H', ⟨by have := HK2.out; omega⟩, HM9, HQ9, HB9⟩
         | true =>
          obtain ⟨⟨r1, r2, r3⟩, hA2, H2⟩ := Option.bind_eq_some_iff.1 ((if_pos rfl).symm.trans H)
          clear H
          by_cases bl : list.length < 8796093022208
          ·rw [if_pos bl] at H2
           have H' := Aside0.mk H2
           have A2 := Aside0.mk hA2
           have BL := Aside0.mk bl
           clear H2 hA2 bl
           go_wp2_with (first | (at_lookup; refine wpList_lookF rfl _ _ 74 rfl 56 73 cellLaidF Tryz.underlying74 (dieZ _) enc2 w.heap.size list.length (diceF m) rfl HM7.out (cellKeyF (stepTo cc e)) rfl (cellKeyedF _ (step_ok _ _)) none (by unfold diceF; rw [hq]; rfl) (.agg #[.int .i64 0, .int .i64 0, .int .i64 0]) false rfl rfl ?_) | (go_at_call 57; refine (slices_Contains_impl_Cell_impl_Cell.calls k2 _ _ l0 (stepTo cc e).f0 (stepTo cc e).f1 true _ (Kd.C_below HR0.out (below_alloc HB7.out _)) HC0.out A'.out).mono ?_; rintro e' w9 ⟨rfl, hb9⟩; have hbx : Below wB.heap.size wB w9 := below_step (below_alloc (Below.refl wB.heap.size wB) _) hb9; have HM9 := a0_ (HM7.out.below' hbx); have HQ9 := a0_ (Kd.R_below HQ7.out hbx); have HB9 := a0_ (below_step HB7.out hbx); have BK9 := a0_ (blk_below BK.out hbx); have v0 := (hbx.cell (World.block_lt_of_cell? _ _ hv0)).trans hv0; have v1 := (hbx.cell (World.block_lt_of_cell? _ _ hv1)).trans hv1; have y0 := (hbx.cell (World.block_lt_of_cell? _ _ z0)).trans z0; have y1 := (hbx.cell (World.block_lt_of_cell? _ _ z1)).trans z1; clear hb9 hbx))
           obtain ⟨x, hxd⟩ : ∃ x, x = (dget m (cellKeyF cc)).getD (0, 0, 0) := ⟨_, rfl⟩
           rw [← hxd] at A2
           have DD := a0_ (diceD m (cellKeyF cc) x hxd)
           clear hxd
           have hxb := bt_at (⟨#[114, 100, 108, 117]⟩ : ByteArray) e
           clear HM7 HQ7 HB7 BK hv0 hv1 z0 z1 z0a z1a
           refine start_ (n := 12) (S := fun w' => w'.cell? ⟨g, 0, none⟩ = some (.int .i64 (stepTo cc e).f0) ∧ w'.cell? ⟨g, 1, none⟩ = some (.int .i64 (stepTo cc e).f1) ∧ w'.cell? (ad.add (t.toNat * 2)) = some (.int .i64 cc.f0) ∧ w'.cell? ⟨(ad.add (t.toNat * 2)).block, (ad.add (t.toNat * 2)).off + 1, none⟩ = some (.int .i64 cc.f1) ∧ MapF Tryz.prog 56 enc2 w' w.heap.size list.length (diceF m)) (ds := [11]) (mk_ 0 12) kr_ rfl rfl ⟨y0, y1, v0, v1, HM9.out.drew⟩ (fun hHeld => ?_)
           refine pure_ (i := 0) (N := some 55) (v := ?_) (a' := ?_) (mk_ 1 11) rfl rfl kr_ (fun _ _ _ h => h) (Or.inl ⟨by rfl, ?_⟩) ?_ ?_
           rotate_left
           ·intro w'
            go_simp
            with_reducible rfl
           rotate_left
           ·simp only [sp_]
            rfl
           refine take_ (i := 1) (N := some 56) (v := ?_) (a' := ?_) (mk_ 2 10) rfl rfl kr_ (fun _ _ _ h => h) (Or.inl ⟨by rfl, ?_⟩) hHeld ?_ ?_
           rotate_left
           ·rintro w' ⟨s0, s1, s2, s3, s4⟩
            go_simp
            with_reducible rfl
           rotate_left
           ·simp only [sp_]
            rfl
           refine pure_ (i := 2) (N := some 57) (v := ?_) (a' := ?_) (mk_ 3 9) rfl rfl kr_ (fun _ _ _ h => h) (Or.inl ⟨by rfl, ?_⟩) ?_ ?_
           rotate_left
           ·intro w'
            go_simp
            with_reducible rfl
           rotate_left
           ·simp only [sp_]
            rfl
           refine pure_ (i := 3) (N := some 58) (v := ?_) (a' := ?_) (mk_ 4 8) rfl rfl kr_ (fun _ _ _ h => h) (Or.inl ⟨by rfl, ?_⟩) ?_ ?_
           rotate_left
           ·intro w'
            go_simp
            with_reducible rfl
           rotate_left
           ·simp only [sp_]
            rfl
           refine pure_ (i := 4) (N := some 59) (v := ?_) (a' := ?_) (mk_ 5 7) rfl rfl kr_ (fun _ _ _ h => h) (Or.inl ⟨by rfl, ?_⟩) ?_ ?_
           rotate_left
           ·intro w'
            go_simp
            with_reducible rfl
           rotate_left
           ·simp only [sp_]
            rfl
           refine pure_ (i := 5) (N := some 60) (v := ?_) (a' := ?_) (mk_ 6 6) rfl rfl kr_ (fun _ _ _ h => h) (Or.inl ⟨by rfl, ?_⟩) ?_ ?_
           rotate_left
           ·intro w'
            go_simp
            with_reducible rfl
           rotate_left
           ·simp only [sp_]
            rfl
           refine take_ (i := 6) (N := some 61) (v := ?_) (a' := ?_) (mk_ 7 5) rfl rfl kr_ (fun _ _ _ h => h) (Or.inl ⟨by rfl, ?_⟩) hHeld ?_ ?_
           rotate_left
           ·rintro w' ⟨s0, s1, s2, s3, s4⟩
            go_simp
            with_reducible rfl
           rotate_left
           ·simp only [sp_]
            rfl
           refine take_ (i := 7) (N := some 62) (v := ?_) (a' := ?_) (mk_ 8 4) rfl rfl kr_ (fun _ _ _ h => h) (Or.inl ⟨by rfl, ?_⟩) hHeld ?_ ?_
           rotate_left
           ·rintro w' ⟨s0, s1, s2, s3, s4⟩
            have hl : (Instr.lookup 74 (.map (some w.heap.size)) (.agg #[.int .i64 cc.f0, .int .i64 cc.f1]) false).run Tryz.prog w' = .ok (.agg #[.int .i64 x.1, .int .i64 x.2.1, .int .i64 x.2.2]) w' := (s4.look_run cellLaidF Tryz.underlying74 (dieZ _) (x := cellKeyF cc) (cellKeyedF _ KC.out)).2.trans (by rw [DD.out])
            go_simp
            with_reducible rfl
           rotate_left
           ·simp only [sp_]
            rfl
           refine pure_ (i := 8) (N := some 63) (v := ?_) (a' := ?_) (mk_ 9 3) rfl rfl kr_ (fun _ _ _ h => h) (Or.inl ⟨by rfl, ?_⟩) ?_ ?_
           rotate_left
           ·intro w'
            go_simp
            with_reducible rfl
           rotate_left
           ·simp only [sp_]
            rfl
           refine pure_ (i := 9) (N := some 64) (v := ?_) (a' := ?_) (mk_ 10 2) rfl rfl kr_ (fun _ _ _ h => h) (Or.inl ⟨by rfl, ?_⟩) ?_ ?_
           rotate_left
           ·intro w'
            go_simp
            with_reducible rfl
           rotate_left
           ·simp only [sp_]
            rfl
           refine one_ (i := 10) (N := some 65) (mk_ 11 1) rfl rfl kr_ (by decide) (fun K hK => ?_)
           refine goes_ Tryz.func58 kr_ rfl #[.agg #[.int .i64 x.1, .int .i64 x.2.1, .int .i64 x.2.2], .int .u8 (bt (⟨#[114, 100, 108, 117]⟩ : ByteArray) e)] (by rfl) rfl rfl (by (try simp only [List.map_toArray, List.map_cons, List.map_nil]); first | done | rfl) ?_
           refine (impl_die_roll.calls x.1 x.2.1 x.2.2 (bt (⟨#[114, 100, 108, 117]⟩ : ByteArray) e) r1 r2 r3 _ A2.out).mono ?_
           rintro e' w10 ⟨rfl, hb10⟩
           refine ⟨_, rfl, ?_⟩
           have HQ10 := a0_ (Kd.R_below (Kd.R_drew HQ9.out) hb10)
           have HB10 := a0_ (below_step (below_drew1 HB9.out) hb10)
           have BK10 := a0_ (blk_below (blk_drew BK9.out) hb10)
           refine hK.out _ _ ⟨(hb10.cell (World.block_lt_of_cell? _ _ (hHeld.1))).trans (hHeld.1), (hb10.cell (World.block_lt_of_cell? _ _ (hHeld.2.1))).trans (hHeld.2.1), (hb10.cell (World.block_lt_of_cell? _ _ (hHeld.2.2.1))).trans (hHeld.2.2.1), (hb10.cell (World.block_lt_of_cell? _ _ (hHeld.2.2.2.1))).trans (hHeld.2.2.2.1), hHeld.2.2.2.2.below' hb10⟩ (fun hHeld => ?_)
           clear hK K hb10
           refine nm_ ?_
           obtain ⟨w11, hrun, hm11, hg11⟩ := (hHeld.2.2.2.2).put_run cellLaidF Tryz.underlying74 (e := 73) (by have := BL.out; unfold maxLen; omega) (x := cellKeyF (stepTo cc e)) (fun q hq => enc2_inj _ _ hq) (cellKeyedF _ (step_ok _ _)) (dieV (r1, r2, r3))
           refine last_ (i := 11) (N := none) (mk_ 12 0) rfl rfl kr_ (by decide) (fun K hK => ?_)
           refine skip_ (w1 := w11) (by rfl) rfl (upd_run (.inr rfl) _ _ _ rfl rfl rfl hrun) ?_
           refine hK.out _ _ ?_
           clear hK K
           refine done_ kr_ ?_
           have HM11 := a0_ (hm11.ext (fun q => diceS m _ (r1, r2, r3) q))
           have HQ11 := a0_ (Kd.R_mapTurn HQ10.out hHeld.2.2.2.2.block hg11)
           have HB11 := a0_ (below_mapTurn HB10.out hg11 (Nat.le_refl _) (below_size HB10.out))
           have BK11 := a0_ (blk_grown BK10.out hg11 (by intro he; have := Option.some.inj he; have := HG.out; omega))
           clear hrun hm11 hg11 hHeld HM9 HQ9 HB9 BK9 HQ10 HB10 BK10 v0 v1 y0 y1
           have z0 : w11.cell? ⟨g, 0, none⟩ = some (.int .i64 (stepTo cc e).f0) := (blk_cell BK11.out 0).trans rfl
           have z1 : w11.cell? ⟨g, 1, none⟩ = some (.int .i64 (stepTo cc e).f1) := (blk_cell BK11.out 1).trans rfl
           go_wp2_with (first | ((with_reducible refine gate_builtin (b := .append) (xs := #[.tmp 66, .tmp 68]) rfl ?_); at_builtin; refine Kd.R_append k56 (w0 := w) w.heap.size rfl (.tmp 66) (.tmp 68) 29 56 (.agg #[.int .i64 0, .int .i64 0]) 16 rfl Tryz.underlying29 infoC rfl (by decide) (by omega) (.slice (some ad) list.length cl) list (stepTo cc e) [.int .i64 (stepTo cc e).f0, .int .i64 (stepTo cc e).f1] (fun _ => True) (fun _ => False) rfl (by first | (go_simp; done) | (go_simp; rfl)) ?aP (fun _ hk => hk.elim) ?aF ?aO ?aB ?aS ?aL ?_; (case aP => exact k56_mkM _ _ _ (stepTo cc e)); (case aB => exact HB11.out); (case aF => exact (fun _ _ => trivial)); (case aO => exact HQ11.out); (case aS => exact below_size HB11.out); (case aL => have := BL.out; omega); intro v12 w12 ho hb hg12 hat; have HM12 := a0_ (HM11.out.rowTurn HQ11.out hg12); have HQ12 := Aside0.mk ho; have HB12 := Aside0.mk hb; clear ho hb hg12 hat))
           go_roundg k2
           case measure => have := HK1.out; have := HK2.out; omega
           case rel => exact ⟨_, _, wrap64 (e + 1), rfl, H', ⟨by have := HK2.out; omega⟩, ⟨HM12.out.mono (by simp)⟩, HQ12, HB12⟩
          ·rw [if_neg bl] at H2
           exact absurd H2 (by simp)
       ·rw [if_neg d] at H
        exact absurd H (by simp)
      ·rw [if_neg c] at H
       have c0 : decide (e < 4) = false := decide_eq_false c
       have H' := Aside0.mk H
       clear H c
       go_wp2
       go_roundg k2
       case measure => have := HK1.out; have := HK2.out; omega
       case rel => exact ⟨m, list, wrap64 (t + 1), rfl, H', ⟨by have := HK1.out; have := HK2.out; omega⟩, HM, HQ, HB⟩
   ·rw [if_neg c] at H
    have c0 : decide (t < (list.length : Int)) = false := decide_eq_false c
    have H' := Aside0.mk H
    clear H c
    go_wp2_with (first | ((with_reducible refine gate_dst (N := 71) rfl ?_); refine Kd.R_lit (Kd.int .i64) _ 2 ?hg (N := 71) ?hd (xs := ([] : List Int)) (inner := []) (ok := fun _ => True) (okp := fun _ => True) ?hr ?hp (fun _ hk => hk) trivial (Below.refl _ _) (Nat.le_refl _) (by simp) ?_; (case hd => rfl); (case hg => rfl); (case hr => first | (go_simp; done) | (go_simp; rfl)); (case hp => exact (Reps.none _ _)); intro vo w5 ho5 hb5 hg5 hn5; have HM5 := a0_ (HM.out.below' hb5); have HO5 := a0_ (Kd.R_lower ho5 (below_size HB.out)); have HB5 := a0_ (below_step HB.out hb5); clear ho5 hb5 hg5 hn5))
    clear HM HQ HB c0
    go_loopg [11, 74] k1 (fun kq v11 v74 w' => ∃ (out : List Int) (j : Int), v74 = .int .i64 j ∧ Aside0 (impl_faces.l2 kq l0 m out j = some r) ∧ Aside0 (kq ≤ k1) ∧ Aside0 (MapF Tryz.prog 56 enc2 w' w.heap.size list.length (diceF m)) ∧ Aside0 (Kd.R (Kd.int .i64) 2 w' w.heap.size (fun _ => True) v11 out) ∧ Aside0 (Below w.heap.size w w'))
    case atStart => exact ⟨_, 0, rfl, H', ⟨Nat.le_refl _⟩, HM5, HO5, HB5⟩
    case round =>
     clear H' HM5 HO5 HB5
     obtain ⟨out, j, rfl, HA, HK2, HM, HO, HB⟩ := hrel
     cases gk with
     | zero => exact absurd HA.out (by simp [impl_faces.l2])
     | succ k2 =>
      have H := HA.out
      clear HA
      simp only [impl_faces.l2] at H
      by_cases c : j < (l0.length : Int)
      ·rw [if_pos c] at H
       by_cases d : 0 ≤ j
       ·rw [if_pos d] at H
        by_cases b : out.length < 17592186044416
        ·rw [if_pos b] at H
         have LB := Aside0.mk b
         obtain ⟨x, hxd⟩ : ∃ x, x = (dget m (cellKeyF (rd_T56 l0 j))).getD (0, 0, 0) := ⟨_, rfl⟩
         rw [← hxd] at H
         have H' := Aside0.mk H
         have DD := a0_ (diceD m (cellKeyF (rd_T56 l0 j)) x hxd)
         have KC := a0_ (HOK.out _ (rd_memF l0 j d c))
         obtain ⟨ad, e1, hx0, hx1⟩ := at_T56 HR0.out j d c
         cases e1
         replace hx0 := hc_ hx0
         replace hx1 := hc_ hx1
         have cd := decide_eq_true c
         replace c := eq_true c
         replace d := eq_true d
         clear H hxd b
         have hfd : ∀ (y0 y1 y2 : Value) (W : World), (Instr.field 73 (.agg #[y0, y1, y2]) 0).run Tryz.prog W = .ok y0 W := fun _ _ _ _ => by kernel_rfl
         go_wp2_with (first | (at_lookup; refine wpList_lookF1 rfl _ _ 74 rfl 56 73 cellLaidF Tryz.underlying74 (dieZ _) enc2 w.heap.size list.length (diceF m) rfl (HM.out.alloc _) (cellKeyF (rd_T56 l0 j)) rfl (cellKeyedF _ KC.out) (.agg #[.int .i64 x.1, .int .i64 x.2.1, .int .i64 x.2.2]) DD.out ?_) | ((with_reducible refine gate_builtin (b := .append) (xs := #[.tmp 78, .tmp 83]) rfl ?_); at_builtin; refine Kd.R_append (Kd.int .i64) (w0 := w) w.heap.size rfl (.tmp 78) (.tmp 83) 48 2 (.int .i64 0) 8 rfl Tryz.underlying48 infoI rfl (by decide) (by omega) u11 out x.1 [.int .i64 x.1] (fun _ => True) (fun _ => False) rfl (by first | (go_simp; done) | (go_simp; rfl)) ?aP (fun _ hk => hk.elim) ?aF ?aO ?aB ?aS ?aL ?_; (case aP => exact rfl); (case aB => exact below_alloc HB.out _); (case aF => exact (fun _ _ => trivial)); (case aO => exact Kd.R_alloc HO.out _); (case aS => exact below_size (below_alloc HB.out _)); (case aL => have := LB.out; omega); intro v7 w7 ho hb hg hat; have HM7 := a0_ ((HM.out.alloc _).rowTurn (Kd.R_alloc HO.out _) hg); have HO7 := Aside0.mk ho; have HB7 := Aside0.mk hb; clear ho hb hg hat))
         go_roundg k2
         case measure => have := HK1.out; have := HK2.out; omega
         case rel => exact ⟨_, wrap64 (j + 1), rfl, H', ⟨by have := HK2.out; omega⟩, HM7, HO7, HB7⟩
        ·rw [if_neg b] at H
         exact absurd H (by simp)
       ·rw [if_neg d] at H
        exact absurd H (by simp)
      ·rw [if_neg c] at H
       have c0 : decide (j < (l0.length : Int)) = false := decide_eq_false c
       obtain rfl := Option.some.inj H
       clear H c
       go_wp2
       go_ret
       exact ⟨_, rfl, HO.out, HB.out⟩
def impl_IsNet.j0 : Nat → List (S56) → Bool → Option (Bool)
 | 0, _, _ => none
 | k + 1, x0, x10 => if x10 = true then (some false) else ((impl_faces.f k x0).bind fun t391 => ((impl_IsPermutation.f k t391).bind fun t394 => (some t394)))
def impl_IsNet.f (k : Nat) (l0 : List (S56)) : Option (Bool) := (impl_IsConnected.f k l0).bind fun t390 => (if t390 = true then (impl_IsNet.j0 k l0 ((l0.length : Int) != 6)) else (impl_IsNet.j0 k l0 true))
theorem impl_IsNet.mono_l : ∀ k, (∀ y0 y1, LeO (impl_IsNet.j0 k y0 y1) (impl_IsNet.j0 (k + 1) y0 y1))
 | 0 => fun _ _ r h => by simp [impl_IsNet.j0] at h
 | k + 1 => by
  have ih0 := impl_IsNet.mono_l k
  ·intro y0 y1
   unfold impl_IsNet.j0
   with_reducible (repeat' first | exact ih0 _ _ | exact impl_IsConnected.mono _ _ | exact impl_IsPermutation.mono _ _ | exact impl_faces.mono _ _ | exact LeO.refl _ | exact LeO.none _ | refine LeO.ite ?_ ?_ | refine LeO.bind ?_ (fun _ => ?_))
theorem impl_IsNet.mono : ∀ a0 k, LeO (impl_IsNet.f k a0) (impl_IsNet.f (k + 1) a0) := by
 intro a0 k
 have ih0 := impl_IsNet.mono_l k
 unfold impl_IsNet.f
 with_reducible (repeat' first | exact ih0 _ _ | exact impl_IsConnected.mono _ _ | exact impl_IsPermutation.mono _ _ | exact impl_faces.mono _ _ | exact LeO.refl _ | exact LeO.none _ | refine LeO.ite ?_ ?_ | refine LeO.bind ?_ (fun _ => ?_))
set_option maxHeartbeats 8000000 in
set_option maxRecDepth 100000 in
theorem impl_IsNet.calls (k : Nat) (A0 : Option Addr) (c0 : Nat) (l0 : List (S56)) (r : Bool) (w : World) (hr0 : Kd.C k56 w A0 l0.length l0) (hc0 : l0.length ≤ c0) (h : impl_IsNet.f k l0 = some r) (hG : Laid w) :
  Calls Tryz.prog 12 #[.slice A0 l0.length c0] w fun e w' => e = .returned (.bool r) ∧ Below w.heap.size w w' := by
 have HR0 := Aside0.mk hr0
 have HC0 := Aside0.mk hc0
 clear hr0 hc0
 have HB := a0_ (Below.refl w.heap.size w)
 have H := h
 clear h
 unfold impl_IsNet.f at H
 have HC2 := Aside0.mk H
 clear H
 go_enter Tryz.func12, Tryz.ntmps12
 go_upto_region 1 with (fail)
 go_cut [10] (fun v10 wc => ∃ (kq : Nat) (x10_1 : Bool), v10 = .bool x10_1 ∧ Aside0 (impl_IsNet.j0 kq l0 x10_1 = some r) ∧ Aside0 (kq ≤ k) ∧ Aside0 (Below w.heap.size w wc))
 case first =>
  have H := HC2.out
  clear HC2
  obtain ⟨t390, A3, H⟩ := bs_ H
  by_cases c4 : t390 = true
  ·subst c4
   rw [if_pos rfl] at H
   have H' := Aside0.mk H
   clear H
   go_wp2_with (first | ((with_reducible refine gate_callee (f := 29) rfl ?_); refine goesL_ (some 4) rfl rfl Tryz.func29 kr_ rfl #[.slice A0 l0.length c0] rfl ta_ ?_; (with_reducible refine (impl_IsConnected.calls k _ _ l0 true _ ?side1 ?side2 A3.out).mono ?_); (case side1 => exact ca_ (Kd.C_below HR0.out HB.out)); (case side2 => exact HC0.out); rintro e w5 ⟨rfl, hb⟩; refine ⟨_, rfl, ?_⟩; replace HB := a0_ (below_step (bl0_) hb); (try clear hb)))
   go_meet
   case rel => exact ⟨_, (((l0.length : Int) != 6)), rs_, H', ⟨by first | omega | exact Nat.le_refl _⟩, ⟨bl0_⟩⟩
  ·replace c4 := Bool.eq_false_iff.mpr c4
   subst c4
   rw [if_neg (show ¬ (false = true) by decide)] at H
   have H' := Aside0.mk H
   clear H
   go_wp2_with (first | ((with_reducible refine gate_callee (f := 29) rfl ?_); refine goesL_ (some 4) rfl rfl Tryz.func29 kr_ rfl #[.slice A0 l0.length c0] rfl ta_ ?_; (with_reducible refine (impl_IsConnected.calls k _ _ l0 false _ ?side1 ?side2 A3.out).mono ?_); (case side1 => exact ca_ (Kd.C_below HR0.out HB.out)); (case side2 => exact HC0.out); rintro e w6 ⟨rfl, hb⟩; refine ⟨_, rfl, ?_⟩; replace HB := a0_ (below_step (bl0_) hb); (try clear hb)))
   go_meet
   case rel => exact ⟨_, (true), rs_, H', ⟨by first | omega | exact Nat.le_refl _⟩, ⟨bl0_⟩⟩
 case rest =>
  clear HC2
  obtain ⟨kq, x10_1, rfl, HA, HJ1, HB⟩ := hcut
  cases kq with
  | zero => exact absurd HA.out (by simp [impl_IsNet.j0])
  | succ kj1 =>
   have H := HA.out
   clear HA
   simp only [impl_IsNet.j0] at H
   by_cases c7 : x10_1 = true
   ·subst c7
    rw [if_pos rfl] at H
    obtain rfl := Option.some.inj H
    go_wp2
    go_ret
    exact ⟨er_, bl0_⟩
   ·replace c7 := Bool.eq_false_iff.mpr c7
    subst c7
    rw [if_neg (show ¬ (false = true) by decide)] at H
    obtain ⟨t391, A8, H⟩ := bs_ H
    obtain ⟨t394, A9, H⟩ := bs_ H
    obtain rfl := Option.some.inj H
    go_wp2_with (first | ((with_reducible refine gate_callee (f := 31) rfl ?_); refine goesL_ (some 12) rfl rfl Tryz.func31 kr_ rfl #[.slice A0 l0.length c0] rfl ta_ ?_; (with_reducible refine (impl_faces.calls kj1 _ _ l0 t391 _ ?side1 ?side2 A8.out (Laid.below hG (by repeat (first | exact HB.out | exact Below.refl _ _ | apply below_alloc | apply pw_below_drewN | apply below_drew1)))).mono ?_); (case side1 => exact ca_ (Kd.C_below HR0.out HB.out)); (case side2 => exact HC0.out); rintro e w10 ⟨v392, rfl, ho0, hb⟩; refine ⟨_, rfl, ?_⟩; have HO393 := a0_ (Kd.R_lower ho0 (below_size (bl0_))); replace HB := a0_ (below_step (bl0_) hb); (try clear hb); (try clear ho0); obtain ⟨Ao11, co11, eo11⟩ := Kd.R_slice HO393.out; subst eo11) | ((with_reducible refine gate_callee (f := 30) rfl ?_); refine goesL_ (some 13) rfl rfl Tryz.func30 kr_ rfl #[.slice Ao11 t391.length co11] rfl ta_ ?_; (with_reducible refine (impl_IsPermutation.calls kj1 _ _ t391 t394 _ ?side1 ?side2 A9.out).mono ?_); (case side1 => exact ca_ (Kd.R_reads' HO393.out).2.2); (case side2 => exact (Kd.R_reads' HO393.out).2.1); rintro e w12 ⟨rfl, hb⟩; refine ⟨_, rfl, ?_⟩; replace HO393 := a0_ (Kd.R_below (ra_ HO393.out) hb); replace HB := a0_ (below_step (bl0_) hb); (try clear hb)))
    go_ret
    exact ⟨er_, bl0_⟩
def impl_corner.l0 : Nat → List (S56) → Int → Int → Int → Int → Option (Int × Int)
 | 0, _, _, _, _, _ => none
 | k + 1, x9, x10, x11, x398000, x398001 => if x11 < x10 then (if 0 ≤ x11 then (if x11 < (x9.length : Int) then (impl_corner.l0 k x9 x10 (wrap64 (x11 + 1)) (mn x398000 ((rd_T56 x9 x11).f0)) (mn x398001 ((rd_T56 x9 x11).f1))) else (none)) else (none)) else (some (x398000, x398001))
def impl_corner.f (k : Nat) (l0 : List (S56)) : Option (Int × Int) := if 0 < (l0.length : Int) then (impl_corner.l0 k l0 (l0.length : Int) 0 ((rd_T56 l0 0).f0) ((rd_T56 l0 0).f1)) else (none)
theorem impl_corner.mono_l : ∀ k, (∀ y0 y1 y2 y3 y4, LeO (impl_corner.l0 k y0 y1 y2 y3 y4) (impl_corner.l0 (k + 1) y0 y1 y2 y3 y4))
 | 0 => fun _ _ _ _ _ r h => by simp [impl_corner.l0] at h
 | k + 1 => by
  have ih0 := impl_corner.mono_l k
  ·intro y0 y1 y2 y3 y4
   unfold impl_corner.l0
   with_reducible (repeat' first | exact ih0 _ _ _ _ _ | exact LeO.refl _ | exact LeO.none _ | refine LeO.ite ?_ ?_ | refine LeO.bind ?_ (fun _ => ?_))
theorem impl_corner.mono : ∀ a0 k, LeO (impl_corner.f k a0) (impl_corner.f (k + 1) a0) := by
 intro a0 k
 have ih0 := impl_corner.mono_l k
 unfold impl_corner.f
 with_reducible (repeat' first | exact ih0 _ _ _ _ _ | exact LeO.refl _ | exact LeO.none _ | refine LeO.ite ?_ ?_ | refine LeO.bind ?_ (fun _ => ?_))
set_option maxHeartbeats 8000000 in
set_option maxRecDepth 100000 in
theorem impl_corner.calls (k : Nat) (A0 : Option Addr) (c0 : Nat) (l0 : List (S56)) (r1 : Int) (r2 : Int) (w : World) (hr0 : Kd.C k56 w A0 l0.length l0) (hc0 : l0.length ≤ c0) (h : impl_corner.f k l0 = some (r1, r2)) :
  Calls Tryz.prog 85 #[.slice A0 l0.length c0] w fun e w' => e = .returned (.agg #[.int .i64 r1, .int .i64 r2]) ∧ Below w.heap.size w w' := by
 have hu56 := Tryz.underlying56
 have HR0 := Aside0.mk hr0
 have HC0 := Aside0.mk hc0
 clear hr0 hc0
 have HB := a0_ (Below.refl w.heap.size w)
 have H := h
 clear h
 unfold impl_corner.f at H
 by_cases c2 : 0 < (l0.length : Int)
 ·rw [if_pos c2] at H
  have c2b0 : decide (0 < (l0.length : Int)) = true := decide_eq_true c2
  have c2b1 : decide (0 < l0.length) = true := decide_eq_true (by omega)
  clear c2
  have H' := Aside0.mk H
  clear H
  go_enter Tryz.func85, Tryz.ntmps85
  go_wp2_with (first | ((with_reducible refine gate_dst (N := 2) rfl ?_); refine bx_ (N := 2) (cs := #[.int .i64 0, .int .i64 0]) (t := 56) ?_; intro gb395 hg w3 hbox hb; have BK395 := a0_ (hbox); have GW395 := a0_ ((sz_ hg (bl0_) : w.heap.size ≤ gb395)); have GE395 := a0_ ((sz_ hg (bl0_) : w.heap.size ≤ gb395)); replace HB := a0_ (below_step (bl0_) hb); clear hb hbox hg; have p396 : 0 ≤ (0 : Int) := (by omega); have q396 : 0 < (l0.length : Int) := od_; obtain ⟨ad396, e396, hx396_0, hx396_1⟩ := at_T56 HR0.out 0 p396 q396; cases e396; have qi396 : (0 < l0.length) = True := eq_true (by omega); (try rw [show ((0 : Int)).toNat = 0 from rfl] at hx396_0); (try rw [show 0 * 2 = 0 from rfl] at hx396_0); (try rw [Addr.add_zero'] at hx396_0); (try rw [show ((0 : Int)).toNat = 0 from rfl] at hx396_1); (try rw [show 0 * 2 = 0 from rfl] at hx396_1); (try rw [Addr.add_zero'] at hx396_1); replace hx396_0 := hc_ hx396_0; replace hx396_1 := hc_ hx396_1; replace p396 := eq_true p396; replace q396 := eq_true q396) | ((with_reducible refine gate_dst (N := 3) rfl ?_); refine bx_ (N := 3) (cs := #[.int .i64 0, .int .i64 0]) (t := 56) ?_; intro gb397 hg w4 hbox hb; have BK397 := a0_ (hbox); have GW397 := a0_ ((sz_ hg (bl1_ GE395.out) : w.heap.size ≤ gb397)); have GE397 := a0_ ((sz_ hg (bl1_ GE395.out) : w.heap.size ≤ gb397)); replace HB := a0_ (below_step (bl1_ GE395.out) hb); have NB395_397 := a0_ ((nl_ hg BK395.out : gb395 ≠ gb397)); have NB397_395 := a0_ ((ng_ hg BK395.out : gb397 ≠ gb395)); replace BK395 := a0_ (bb_ BK395.out hb); clear hb hbox hg; have hnb5 := NB397_395.out; have hnc5 := NB395_397.out; obtain ⟨hcz6_0, hcz6_1, hfz6_0, hfz6_1⟩ := bc2_ BK397.out))
  go_loopg [11] k (fun kq v11 w' => ∃ (x11_1 : Int) (x398000_1 : Int) (x398001_1 : Int), v11 = .int .i64 x11_1 ∧ Aside0 (impl_corner.l0 kq l0 (l0.length : Int) x11_1 x398000_1 x398001_1 = some (r1, r2)) ∧ Aside0 (kq ≤ k) ∧ Aside0 (w'.heap[gb395]? = some (.cells #[.int .i64 0, .int .i64 0] 56 (0, 0))) ∧ Aside0 (w'.heap[gb397]? = some (.cells #[.int .i64 x398000_1, .int .i64 x398001_1] 56 (0, 0))) ∧ Aside0 (Below w.heap.size w w'))
  case atStart => exact ⟨(0), ((rd_T56 l0 0).f0), ((rd_T56 l0 0).f1), rs_, H', ⟨Nat.le_refl _⟩, ⟨bf_ BK395.out NB395_397.out⟩, ⟨by (with_reducible repeat (first | refine blk_drewN ?_ _ | refine blk_drew ?_ | refine blk_alloc ?_ _)); refine blk_put (cs := #[.int .i64 ((rd_T56 l0 0).f0), .int .i64 0]) ?_ 1 _ rfl; (with_reducible repeat (first | refine blk_drewN ?_ _ | refine blk_drew ?_ | refine blk_alloc ?_ _)); refine blk_put (cs := #[.int .i64 0, .int .i64 0]) ?_ 0 _ rfl; (with_reducible repeat (first | refine blk_drewN ?_ _ | refine blk_drew ?_ | refine blk_alloc ?_ _)); exact BK397.out⟩, ⟨bl2_ GE395.out GE397.out⟩⟩
  case round =>
   clear H'
   try clear c2b0
   try clear c2b1
   try clear hcz6_0
   try clear hcz6_1
   try clear hfz6_0
   try clear hfz6_1
   try clear hx396_0
   try clear hx396_1
   try clear p396
   try clear q396
   obtain ⟨x11_1, x398000_1, x398001_1, rfl, HA, HK1, BK395, BK397, HB⟩ := hrel
   cases gk with
   | zero => exact absurd HA.out (by simp [impl_corner.l0])
   | succ k1 =>
    have H := HA.out
    clear HA
    simp only [impl_corner.l0] at H
    by_cases c7 : x11_1 < (l0.length : Int)
    ·rw [if_pos c7] at H
     have c7b0 : decide (x11_1 < (l0.length : Int)) = true := decide_eq_true c7
     clear c7
     by_cases c8 : 0 ≤ x11_1
     ·rw [if_pos c8] at H
      have c8b0 : decide (0 ≤ x11_1) = true := decide_eq_true c8
      clear c8
      by_cases c9 : x11_1 < (l0.length : Int)
      ·rw [if_pos c9] at H
       have c9b0 : decide (x11_1 < (l0.length : Int)) = true := decide_eq_true c9
       clear c9
       obtain ⟨ji10, hji10⟩ : ∃ j_ : Int, (mn x398000_1 ((rd_T56 l0 x11_1).f0)) = j_ := ⟨_, rfl⟩
       replace H : (impl_corner.l0 k1 l0 (l0.length : Int) (wrap64 (x11_1 + 1)) ji10 (mn x398001_1 ((rd_T56 l0 x11_1).f1))) = some (r1, r2) := by first | (rw [hji10] at H; exact H) | (simp only [hji10] at H ⊢; exact H)
       have hji10_ : (if ((rd_T56 l0 x11_1).f0) < x398000_1 then ((rd_T56 l0 x11_1).f0) else x398000_1) = ji10 := hji10
       obtain ⟨ji11, hji11⟩ : ∃ j_ : Int, (mn x398001_1 ((rd_T56 l0 x11_1).f1)) = j_ := ⟨_, rfl⟩
       replace H : (impl_corner.l0 k1 l0 (l0.length : Int) (wrap64 (x11_1 + 1)) ji10 ji11) = some (r1, r2) := by first | (rw [hji11] at H; exact H) | (simp only [hji11] at H ⊢; exact H)
       have hji11_ : (if ((rd_T56 l0 x11_1).f1) < x398001_1 then ((rd_T56 l0 x11_1).f1) else x398001_1) = ji11 := hji11
       have H' := Aside0.mk H
       clear H
       have p398 : 0 ≤ (x11_1 : Int) := od_
       have q398 : x11_1 < (l0.length : Int) := od_
       obtain ⟨ad398, e398, hx398_0, hx398_1⟩ := at_T56 HR0.out x11_1 p398 q398
       obtain rfl : ad396 = ad398 := (by injection e398)
       replace hx398_0 := hc_ hx398_0
       replace hx398_1 := hc_ hx398_1
       replace p398 := eq_true p398
       replace q398 := eq_true q398
       go_wp2_with (first | ((with_reducible refine gate_dst (N := 5) rfl ?_); refine bx_ (N := 5) (cs := #[.int .i64 0, .int .i64 0]) (t := 56) ?_; intro gb399 hg w12 hbox hb; have BK399 := a0_ (hbox); have GW399 := a0_ ((sz_ hg (bl2_ GE395.out GE397.out) : w.heap.size ≤ gb399)); have GE399 := a0_ ((sz_ hg (bl2_ GE395.out GE397.out) : w.heap.size ≤ gb399)); replace HB := a0_ (below_step (bl2_ GE395.out GE397.out) hb); have NB395_399 := a0_ ((nl_ hg BK395.out : gb395 ≠ gb399)); have NB399_395 := a0_ ((ng_ hg BK395.out : gb399 ≠ gb395)); replace BK395 := a0_ (bb_ BK395.out hb); have NB397_399 := a0_ ((nl_ hg BK397.out : gb397 ≠ gb399)); have NB399_397 := a0_ ((ng_ hg BK397.out : gb399 ≠ gb397)); replace BK397 := a0_ (bb_ BK397.out hb); clear hb hbox hg; have hnb13 := NB399_395.out; have hnc13 := NB395_399.out; have hnb14 := NB399_397.out; have hnc14 := NB397_399.out; obtain ⟨hcz15_0, hcz15_1, hfz15_0, hfz15_1⟩ := bc2_ BK399.out; have hnb16 := NB397_395.out; have hnc16 := NB395_397.out; obtain ⟨hcz17_0, hcz17_1, hfz17_0, hfz17_1⟩ := bc2_ BK397.out))
       go_roundg k1
       case measure => have := HK1.out; omega
       case rel => exact ⟨(wrap64 (x11_1 + 1)), (ji10), (ji11), rs_, H', ⟨by have := HK1.out; omega⟩, ⟨by (with_reducible repeat (first | refine blk_drewN ?_ _ | refine blk_drew ?_ | refine blk_alloc ?_ _)); refine blk_far ?_ NB395_397.out _; (with_reducible repeat (first | refine blk_drewN ?_ _ | refine blk_drew ?_ | refine blk_alloc ?_ _)); refine blk_far ?_ NB395_397.out _; (with_reducible repeat (first | refine blk_drewN ?_ _ | refine blk_drew ?_ | refine blk_alloc ?_ _)); refine blk_far ?_ NB395_399.out _; (with_reducible repeat (first | refine blk_drewN ?_ _ | refine blk_drew ?_ | refine blk_alloc ?_ _)); refine blk_far ?_ NB395_399.out _; (with_reducible repeat (first | refine blk_drewN ?_ _ | refine blk_drew ?_ | refine blk_alloc ?_ _)); exact BK395.out⟩, ⟨by (with_reducible repeat (first | refine blk_drewN ?_ _ | refine blk_drew ?_ | refine blk_alloc ?_ _)); refine blk_put (cs := #[.int .i64 ji10, .int .i64 x398001_1]) ?_ 1 _ rfl; (with_reducible repeat (first | refine blk_drewN ?_ _ | refine blk_drew ?_ | refine blk_alloc ?_ _)); refine blk_put (cs := #[.int .i64 x398000_1, .int .i64 x398001_1]) ?_ 0 _ rfl; (with_reducible repeat (first | refine blk_drewN ?_ _ | refine blk_drew ?_ | refine blk_alloc ?_ _)); refine blk_far ?_ NB397_399.out _; (with_reducible repeat (first | refine blk_drewN ?_ _ | refine blk_drew ?_ | refine blk_alloc ?_ _)); refine blk_far ?_ NB397_399.out _; (with_reducible repeat (first | refine blk_drewN ?_ _ | refine blk_drew ?_ | refine blk_alloc ?_ _)); exact BK397.out⟩, ⟨bl3_ GE395.out GE397.out GE399.out⟩⟩
      ·rw [if_neg c9] at H
       exact absurd H (by simp)
     ·rw [if_neg c8] at H
      exact absurd H (by simp)
    ·rw [if_neg c7] at H
     have c7b0 : decide (x11_1 < (l0.length : Int)) = false := decide_eq_false c7
     clear c7
     simp only [Option.some.injEq, Prod.mk.injEq] at H
     obtain ⟨rfl, rfl⟩ := H
     have hnb18 := NB397_395.out
     have hnc18 := NB395_397.out
     have hcz19_0 : wr.cell? ⟨gb397, 0, none⟩ = some (.int .i64 x398000_1) := (blk_cell BK397.out 0).trans rfl
     have hcz19_1 : wr.cell? ⟨gb397, 1, none⟩ = some (.int .i64 x398001_1) := (blk_cell BK397.out 1).trans rfl
     have hfz19_0 := blk_frozen BK397.out 0
     have hfz19_1 := blk_frozen BK397.out 1
     have hcz20_0 : wr.cell? ⟨gb395, 0, none⟩ = some (.int .i64 0) := (blk_cell BK395.out 0).trans rfl
     have hcz20_1 : wr.cell? ⟨gb395, 1, none⟩ = some (.int .i64 0) := (blk_cell BK395.out 1).trans rfl
     have hfz20_0 := blk_frozen BK395.out 0
     have hfz20_1 := blk_frozen BK395.out 1
     go_wp2
     refine bodyPost_ret (results_cell_row rfl _ _ gb395 56 #[.int .i64 x398000_1, .int .i64 x398001_1] (0, 0) _ rfl (by (with_reducible repeat (first | refine blk_drewN ?_ _ | refine blk_drew ?_ | refine blk_alloc ?_ _)); refine blk_put (cs := #[.int .i64 x398000_1, .int .i64 0]) ?_ 1 _ rfl; (with_reducible repeat (first | refine blk_drewN ?_ _ | refine blk_drew ?_ | refine blk_alloc ?_ _)); refine blk_put (cs := #[.int .i64 0, .int .i64 0]) ?_ 0 _ rfl; (with_reducible repeat (first | refine blk_drewN ?_ _ | refine blk_drew ?_ | refine blk_alloc ?_ _)); exact BK395.out) Tryz.underlying56 rfl kr_) rfl ?_
     exact ⟨er_, bl2_ GE395.out GE397.out⟩
 ·rw [if_neg c2] at H
  exact absurd H (by simp)
end Go.Proofs.YtmdjkmfocgelnaaGreatDoor.PFnAllNets
