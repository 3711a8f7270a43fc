/- Over the kit's printer by a driver of mine (hprint.py), with parts by hand: functions of the program as Lean functions, and that each call comes to exactly these answers. -/
import Derived.Test.YtmdjkmfocgelnaaGreatDoorPFnAllNetsx0
import Derived.Test.YtmdjkmfocgelnaaGreatDoorPFnAllNetsx4
import Derived.Test.YtmdjkmfocgelnaaGreatDoorPFnAllNetsx5
namespace Go.Proofs.YtmdjkmfocgelnaaGreatDoor.PFnAllNets
open Go.RowKit Go.Proofs.YtmdjkmfocgelnaaGreatDoorW.PrintWords Go.Proofs.YtmdjkmfocgelnaaGreatDoorW.PrintLast Go.Proofs.YtmdjkmfocgelnaaGreatDoorW.PrintMore
attribute [local go_sem] max2_int min2_int max_two min_two max_three min_three max_four min_four   
set_option linter.unusedVariables false
set_option linter.unusedSimpArgs false
mutual
def spec_l32Faces.l0 : Nat → List (S56) → List Int → List (S86) → Int → Option (List Int)
 | 0, _, _, _, _ => none
 | k + 1, x0, x3, x4, x5 => if x5 < (x3.length : Int) then (if 0 ≤ x5 then (if 0 ≤ (rd x3 x5) then (if (rd x3 x5) < (x0.length : Int) then (spec_l32Faces.l1 k x0 x3 x4 x5 0 ((rd_T56 x0 (rd x3 x5)).f0) ((rd_T56 x0 (rd x3 x5)).f1)) else (none)) else (none)) else (none)) else (spec_l32Faces.l2 k x4 (([] : List Int)) 0)
def spec_l32Faces.l1 : Nat → List (S56) → List Int → List (S86) → Int → Int → Int → Int → Option (List Int)
 | 0, _, _, _, _, _, _, _ => none
 | k + 1, x0, x3, x4, x5, x7, x173000, x173001 => if x7 < 4 then (if 0 ≤ x7 then ((spec_l23Step.f (bt (⟨#[114, 100, 108, 117]⟩ : ByteArray) x7)).bind fun bt173 => ((spec_l02Index.f k x0 (wrap64 (x173000 + bt173.1)) (wrap64 (x173001 + bt173.2))).bind fun t176 => (if t176 ≥ 0 then ((spec_l01Has.f k x3 t176).bind fun t177 => (if t177 = true then (spec_l32Faces.l1 k x0 x3 x4 x5 (wrap64 (x7 + 1)) x173000 x173001) else (if 0 ≤ x5 then (if x5 < (x3.length : Int) then (if 0 ≤ (rd x3 x5) then (if (rd x3 x5) < (x4.length : Int) then ((spec_l32Roll.f ((rd_T86 x4 (rd x3 x5)).f0) ((rd_T86 x4 (rd x3 x5)).f1) ((rd_T86 x4 (rd x3 x5)).f2) (bt (⟨#[114, 100, 108, 117]⟩ : ByteArray) x7)).bind fun bt180 => (if 0 ≤ t176 then (if t176 < (x4.length : Int) then (if x3.length < 17592186044416 then (spec_l32Faces.l1 k x0 (x3 ++ [t176]) (x4.set (t176 : Int).toNat (⟨bt180.1, bt180.2.1, bt180.2.2⟩ : S86)) x5 (wrap64 (x7 + 1)) x173000 x173001) else (none)) else (none)) else (none))) else (none)) else (none)) else (none)) else (none)))) else (spec_l32Faces.l1 k x0 x3 x4 x5 (wrap64 (x7 + 1)) x173000 x173001)))) else (none)) else (spec_l32Faces.l0 k x0 x3 x4 (wrap64 (x5 + 1)))
def spec_l32Faces.l2 : Nat → List (S86) → List Int → Int → Option (List Int)
 | 0, _, _, _ => none
 | k + 1, x4, x10, x11 => if x11 < (x4.length : Int) then (if 0 ≤ x11 then (if x10.length < 17592186044416 then (spec_l32Faces.l2 k x4 (x10 ++ [(rd_T86 x4 x11).f0]) (wrap64 (x11 + 1))) else (none)) else (none)) else (some x10)
end
def spec_l32Faces.f (k : Nat) (l0 : List (S56)) : Option (List Int) := if 0 ≤ (l0.length : Int) then (if ((l0.length : Int) : Int).toNat ≤ 11728124029610 then ((some (List.replicate ((l0.length : Int) : Int).toNat z86 : List (S86))).bind fun y166 => (if 0 < (y166.length : Int) then (spec_l32Faces.l0 k l0 (([0] : List Int)) (y166.set (0 : Int).toNat (⟨0, 1, 2⟩ : S86)) 0) else (none))) else (none)) else (none)
def spec_l32Faces.T14 : Bool × List (List Nat × List Nat) := (true, [([], []), ([], []), ([], []), ([], []), ([], []), ([3, 4], [3, 4]), ([5], [5]), ([2, 6], [2, 6]), ([7], [7]), ([], []), ([9], [9]), ([8, 10], [8, 10]), ([0, 1, 0, 1, 2, 3, 4, 5, 6, 7, 8, 9, 10, 11], [0, 1]), ([12, 11, 11, 0, 1, 2, 3, 4, 5, 6, 7, 8, 9, 10, 11], [11, 12])])
def spec_l32Faces.B14 : List Nat := [0, 0, 0, 0, 0, 24, 56, 124, 252, 0, 512, 2044, 4095, 8191]
theorem spec_l32Faces.tab14 : rtab .any (opsOf Tryz.f34 14) = spec_l32Faces.T14 := by kernel_rfl
theorem spec_l32Faces.bits14 : waitsOk spec_l32Faces.T14.2 spec_l32Faces.B14 = true := by kernel_rfl
set_option maxHeartbeats 8000000 in
set_option maxRecDepth 100000 in
theorem spec_l32Faces.calls (k : Nat) (A0 : Option Addr) (c0 : Nat) (l0 : List (S56)) (r : List Int) (w : World) (hr0 : Kd.C k56 w A0 l0.length l0) (hc0 : l0.length ≤ c0) (h : spec_l32Faces.f k l0 = some r) :
  Calls Tryz.prog 34 #[.slice A0 l0.length c0] w fun e w' => ∃ v0_ : Value, e = .returned (v0_) ∧ Kd.R (Kd.int .i64) 2 w' w.heap.size (fun _ => True) v0_ r ∧ Below w.heap.size w w' := by
 have hu86 := Tryz.underlying86
 have hu56 := Tryz.underlying56
 have HR0 := Aside0.mk hr0
 have HC0 := Aside0.mk hc0
 clear hr0 hc0
 have HB := a0_ (Below.refl w.heap.size w)
 have H := h
 clear h
 unfold spec_l32Faces.f at H
 obtain ⟨y163, hy163⟩ : ∃ y_ : List Int, y_ = (([0] : List Int)) := ⟨_, rfl⟩
 replace H : (if 0 ≤ (l0.length : Int) then (if ((l0.length : Int) : Int).toNat ≤ 11728124029610 then ((some (List.replicate ((l0.length : Int) : Int).toNat z86 : List (S86))).bind fun y166 => (if 0 < (y166.length : Int) then (spec_l32Faces.l0 k l0 y163 (y166.set (0 : Int).toNat (⟨0, 1, 2⟩ : S86)) 0) else (none))) else (none)) else (none)) = some r := hh_ hy163 H
 have Ny163 := Aside0.mk hy163
 clear hy163
 by_cases c2 : 0 ≤ (l0.length : Int)
 ·rw [if_pos c2] at H
  have c2b0 := eq_true c2
  have c2b1 : decide (0 ≤ (l0.length : Int)) = true := decide_eq_true c2
  clear c2
  by_cases c3 : ((l0.length : Int) : Int).toNat ≤ 11728124029610
  ·rw [if_pos c3] at H
   have c3b0 := eq_true c3
   have c3b1 : decide (((l0.length : Int) : Int).toNat ≤ 11728124029610) = true := decide_eq_true c3
   clear c3
   obtain ⟨y166, hy166⟩ : ∃ y_ : List (S86), y_ = (List.replicate ((l0.length : Int) : Int).toNat z86) := ⟨_, rfl⟩
   replace H : (if 0 < (y166.length : Int) then (spec_l32Faces.l0 k l0 y163 (y166.set (0 : Int).toNat (⟨0, 1, 2⟩ : S86)) 0) else (none)) = some r := hh_ hy166 H
   have Ny166 := Aside0.mk hy166
   clear hy166
   by_cases c4 : 0 < (y166.length : Int)
   ·rw [if_pos c4] at H
    have c4b0 : decide (0 < (y166.length : Int)) = true := decide_eq_true c4
    have c4b1 : decide (0 < y166.length) = true := decide_eq_true (by omega)
    clear c4
    obtain ⟨y169, hy169⟩ : ∃ y_ : List (S86), y_ = (y166.set (0 : Int).toNat (⟨0, 1, 2⟩ : S86)) := ⟨_, rfl⟩
    replace H : (spec_l32Faces.l0 k l0 y163 y169 0) = some r := hh_ hy169 H
    have Ny169 := Aside0.mk hy169
    clear hy169
    have H' := Aside0.mk H
    clear H
    go_enter Tryz.func34, Tryz.ntmps34
    go_wp2_with (first | ((with_reducible refine gate_dst (N := 12) rfl ?_); refine Kd.R_lit (Kd.int .i64) _ 2 ?hg (N := 12) ?hd (xs := ([0] : List Int)) (inner := [.int .i64 0]) (ok := fun _ => True) (okp := fun _ => True) ?hr ?hp (fun _ hk => hk) trivial (Below.refl _ _) (Nat.le_refl _) (by simp) ?_; (case hd => rfl); (case hg => rfl); (case hr => first | (go_simp; done) | (go_simp; rfl)); (case hp => exact (Reps.one (show Kd.M (Kd.int .i64) _ _ _ 0 [.int .i64 0] from rfl) (Reps.none _ _))); intro v164 w6 ho7 hb hg_ hnew_; clear hg_ hnew_; (first | rw [← Ny163.out] at ho7 | (simp only [Int.reduceToNat] at ho7; rw [← Ny163.out] at ho7)); have HO165 := a0_ (Kd.R_lower ho7 (below_size (bl0_))); replace HB := a0_ (below_step (bl0_) hb); clear hb ho7) | ((with_reducible refine gate_dst (N := 15) rfl ?_); refine Kd.R_make k86 _ 86 rfl (N := 15) rfl 84 _ _ rfl (l0.length : Int) rfl rfl Tryz.underlying84 (.agg #[(.int .i64 0), (.int .i64 0), (.int .i64 0)]) 24 info86 rfl (by decide) (by omega) z86 (ok := fun _ => True) (okp := fun _ => True) (k86_mkM _ _ _ z86 ) (fun _ hk => hk) trivial (od_) (Nat.le_trans (Nat.mul_le_mul_right _ (od_ : (l0.length : Int).toNat ≤ 11728124029610)) (by omega)) (Below.refl _ _) (Nat.le_refl _) ?_; intro v167 w8 ho9 hb hg_ hnew_; clear hg_ hnew_; (first | rw [← Ny166.out] at ho9 | (simp only [Int.reduceToNat] at ho9; rw [← Ny166.out] at ho9)); replace HO165 := a0_ (Kd.R_below (ra_ HO165.out) hb); have HO168 := a0_ (Kd.R_lower ho9 (below_size (bl0_))); replace HB := a0_ (below_step (bl0_) hb); clear hb ho9; have p5 : 0 ≤ (0 : Int) := (by omega); have q5 : (0 : Int) < ((y166.length : Int) : Int) := od_; have qi5 : (0 < y166.length) = True := eq_true (by omega); obtain ⟨go5, co5, eo5, gb5, gl5, cl5, HG5⟩ := Kd.R_form HO168.out (by omega); (first | cases eo5 | (injection eo5 with ea_ en_ ec_; (first | subst ea_ | (injection ea_ with ea_; subst ea_)); subst ec_; clear en_)); have GB5 := Aside0.mk gb5; have GG5 := Aside0.mk HG5; clear gb5 gl5 HG5; obtain ⟨ce5, hcl5, hM5, hcc5, hfr5⟩ := Kd.R_elem HO168.out z86 (0 : Int) p5 q5; obtain rfl := k86_openM hM5; have hx5_0 : w8.cell? ⟨go5, (0 : Int).toNat * 3, none⟩ = some (.int .i64 ((rd_T86 y166 0).f0)) := hcc5 0 _ rfl; have hx5_1 : w8.cell? ⟨go5, (0 : Int).toNat * 3 + 1, none⟩ = some (.int .i64 ((rd_T86 y166 0).f1)) := hcc5 1 _ rfl; have hx5_2 : w8.cell? ⟨go5, (0 : Int).toNat * 3 + 2, none⟩ = some (.int .i64 ((rd_T86 y166 0).f2)) := hcc5 2 _ rfl; have hf5_0 : w8.frozen? ⟨go5, (0 : Int).toNat * 3, none⟩ = false := hfr5 0; have hf5_1 : w8.frozen? ⟨go5, (0 : Int).toNat * 3 + 1, none⟩ = false := hfr5 1; have hf5_2 : w8.frozen? ⟨go5, (0 : Int).toNat * 3 + 2, none⟩ = false := hfr5 2; clear hcl5 hcc5 hfr5 hM5; (try rw [show ((0 : Int)).toNat = 0 from rfl] at hx5_0); (try simp only [Nat.reduceMul, Nat.zero_mul, Nat.zero_add, Nat.reduceAdd] at hx5_0); (try rw [show ((0 : Int)).toNat = 0 from rfl] at hf5_0); (try simp only [Nat.reduceMul, Nat.zero_mul, Nat.zero_add, Nat.reduceAdd] at hf5_0); (try rw [show ((0 : Int)).toNat = 0 from rfl] at hx5_1); (try simp only [Nat.reduceMul, Nat.zero_mul, Nat.zero_add, Nat.reduceAdd] at hx5_1); (try rw [show ((0 : Int)).toNat = 0 from rfl] at hf5_1); (try simp only [Nat.reduceMul, Nat.zero_mul, Nat.zero_add, Nat.reduceAdd] at hf5_1); (try rw [show ((0 : Int)).toNat = 0 from rfl] at hx5_2); (try simp only [Nat.reduceMul, Nat.zero_mul, Nat.zero_add, Nat.reduceAdd] at hx5_2); (try rw [show ((0 : Int)).toNat = 0 from rfl] at hf5_2); (try simp only [Nat.reduceMul, Nat.zero_mul, Nat.zero_add, Nat.reduceAdd] at hf5_2); replace p5 := eq_true p5; replace q5 := eq_true q5; have HX10 := a0_ (show Kd.R k86 86 w8 w.heap.size (fun _ => True) (.slice (some ⟨go5, 0, none⟩) y166.length co5) y166 from (ra_ HO168.out)); obtain ⟨ce10, hcl10, hM10, hcc10, hfr10⟩ := Kd.R_elem HX10.out z86 (0 : Int) (by omega) (by have h_ : (0 : Int) < ((y166.length : Int) : Int) := od_; first | exact h_ | (have e_ := (Kd.R_reads' HO168.out).1; omega) | simpa using h_); obtain rfl := k86_openM hM10; have HP10 := Kd.R_seg HX10.out (0 : Int) (by omega) (by have h_ : (0 : Int) < ((y166.length : Int) : Int) := od_; first | exact h_ | (have e_ := (Kd.R_reads' HO168.out).1; omega) | simpa using h_) (seg := [.int .i64 0, .int .i64 1, .int .i64 2]) (j := 0) hcl10 hcc10 (show 3 ≤ 3 from by decide) (x' := (⟨0, 1, 2⟩ : S86)) (k86_mkM _ _ _ (⟨0, 1, 2⟩ : S86) ) (fun _ hk => hk); have hx10_0 := hcc10 0 _ rfl; (try simp only [show (k86).sz = 3 from rfl, Nat.mul_one, Nat.add_zero] at hx10_0); (try rw [show ((0 : Int)).toNat = 0 from rfl] at hx10_0); (try simp only [Nat.reduceMul, Nat.zero_mul, Nat.zero_add, Nat.reduceAdd] at hx10_0); have hf10_0 := hfr10 0; (try simp only [show (k86).sz = 3 from rfl, Nat.mul_one, Nat.add_zero] at hf10_0); (try rw [show ((0 : Int)).toNat = 0 from rfl] at hf10_0); (try simp only [Nat.reduceMul, Nat.zero_mul, Nat.zero_add, Nat.reduceAdd] at hf10_0); have hx10_1 := hcc10 1 _ rfl; (try simp only [show (k86).sz = 3 from rfl, Nat.mul_one, Nat.add_zero] at hx10_1); (try rw [show ((0 : Int)).toNat = 0 from rfl] at hx10_1); (try simp only [Nat.reduceMul, Nat.zero_mul, Nat.zero_add, Nat.reduceAdd] at hx10_1); have hf10_1 := hfr10 1; (try simp only [show (k86).sz = 3 from rfl, Nat.mul_one, Nat.add_zero] at hf10_1); (try rw [show ((0 : Int)).toNat = 0 from rfl] at hf10_1); (try simp only [Nat.reduceMul, Nat.zero_mul, Nat.zero_add, Nat.reduceAdd] at hf10_1); have hx10_2 := hcc10 2 _ rfl; (try simp only [show (k86).sz = 3 from rfl, Nat.mul_one, Nat.add_zero] at hx10_2); (try rw [show ((0 : Int)).toNat = 0 from rfl] at hx10_2); (try simp only [Nat.reduceMul, Nat.zero_mul, Nat.zero_add, Nat.reduceAdd] at hx10_2); have hf10_2 := hfr10 2; (try simp only [show (k86).sz = 3 from rfl, Nat.mul_one, Nat.add_zero] at hf10_2); (try rw [show ((0 : Int)).toNat = 0 from rfl] at hf10_2); (try simp only [Nat.reduceMul, Nat.zero_mul, Nat.zero_add, Nat.reduceAdd] at hf10_2); clear hcl10 hcc10 hfr10 hM10) | ((with_reducible refine gate_store (t := 86) (p := 18) rfl ?_); refine store_event (t := 86) (p := 18) (v := ?vo_w11) (w1 := (((w8.setCell ⟨go5, 0, none⟩ (.int .i64 0)).setCell ⟨go5, 1, none⟩ (.int .i64 1)).setCell ⟨go5, 2, none⟩ (.int .i64 2))) ?hg ?ho ?hn ?hr ?_; (case ho => rfl); (case hg => rfl); (case hn => rfl); (case hr => first | (go_simp; done) | (go_simp; rfl)); intro w11 hw; have hg : w8.grownBy w11 (some go5) := (by rw [hw]; exact HP10.2); have hp_ : Kd.R k86 86 w11 w.heap.size (fun _ => True) (.slice (some ⟨go5, 0, none⟩) y166.length co5) y169 := (by rw [hw, Ny169.out]; exact HP10.1); clear HP10; replace HO165 := a0_ (Kd.R_over' (v := (.slice (some ⟨go5, 0, none⟩) y166.length co5)) (ra_ HO165.out) (Kd.R_typed HO168.out) (by decide) hg); replace HO168 := a0_ (hp_); replace HB := a0_ ((by rw [hw]; exact below_set (below_set (below_set (HB.out) GB5.out) GB5.out) GB5.out : Below w.heap.size w w11)); clear hg hw hp_))
    go_loopg [3, 5] k (fun kq v3 v5 w' => ∃ (x3_1 : List Int) (x4_1 : List (S86)) (x5_1 : Int), v5 = .int .i64 x5_1 ∧ Aside0 (spec_l32Faces.l0 kq l0 x3_1 x4_1 x5_1 = some r) ∧ Aside0 (kq ≤ k) ∧ Aside0 (Kd.R (Kd.int .i64) 2 w' w.heap.size (fun _ => True) v3 x3_1) ∧ Aside0 (Kd.R k86 86 w' w.heap.size (fun _ => True) (.slice (some ⟨go5, 0, none⟩) y166.length co5) x4_1) ∧ Aside0 (Below w.heap.size w w'))
    case atStart => exact ⟨(y163), (y169), (0), rs_, H', ⟨Nat.le_refl _⟩, ⟨ra_ HO165.out⟩, ⟨ra_ HO168.out⟩, ⟨bl0_⟩⟩
    case round =>
     clear H'
     try clear c2b0
     try clear c2b1
     try clear c3b0
     try clear c3b1
     try clear c4b0
     try clear c4b1
     try clear p5
     try clear q5
     try clear qi5
     try clear hx10_0
     try clear hx10_1
     try clear hx10_2
     try clear hx5_0
     try clear hx5_1
     try clear hx5_2
     obtain ⟨x3_1, x4_1, x5_1, rfl, HA, HK1, HO_3, HO_4, HB⟩ := hrel
     have hl4_1 := (Kd.R_reads' HO_4.out).1
     rw [hl4_1] at HO_4
     (try simp only [hl4_1])
     (try simp only [hl4_1] at HO_3)
     cases gk with
     | zero => exact absurd HA.out (by simp [spec_l32Faces.l0])
     | succ k1 =>
      have H := HA.out
      clear HA
      simp only [spec_l32Faces.l0] at H
      by_cases c12 : x5_1 < (x3_1.length : Int)
      ·rw [if_pos c12] at H
       have c12b0 : decide (x5_1 < (x3_1.length : Int)) = true := decide_eq_true c12
       clear c12
       by_cases c13 : 0 ≤ x5_1
       ·rw [if_pos c13] at H
        have c13b0 : decide (0 ≤ x5_1) = true := decide_eq_true c13
        clear c13
        by_cases c14 : 0 ≤ (rd x3_1 x5_1)
        ·rw [if_pos c14] at H
         have c14b0 : decide (0 ≤ (rd x3_1 x5_1)) = true := decide_eq_true c14
         clear c14
         by_cases c15 : (rd x3_1 x5_1) < (l0.length : Int)
         ·rw [if_pos c15] at H
          have c15b0 : decide ((rd x3_1 x5_1) < (l0.length : Int)) = true := decide_eq_true c15
          clear c15
          have H' := Aside0.mk H
          clear H
          obtain ⟨Ao16, co16, eo16⟩ := Kd.R_slice HO_3.out
          subst eo16
          have p170 : 0 ≤ (x5_1 : Int) := od_
          have q170 : x5_1 < (x3_1.length : Int) := od_
          obtain ⟨ad170, e170, hx170_0⟩ := Kd.at_int (Kd.R_reads' HO_3.out).2.2 x5_1 p170 q170
          cases e170
          replace p170 := eq_true p170
          replace q170 := eq_true q170
          have p171 : 0 ≤ ((rd x3_1 x5_1) : Int) := od_
          have q171 : (rd x3_1 x5_1) < (l0.length : Int) := od_
          obtain ⟨ad171, e171, hx171_0, hx171_1⟩ := at_T56 HR0.out (rd x3_1 x5_1) p171 q171
          cases e171
          replace hx171_0 := hc_ hx171_0
          replace hx171_1 := hc_ hx171_1
          replace p171 := eq_true p171
          replace q171 := eq_true q171
          go_wp2_with (first | ((with_reducible refine gate_dst (N := 6) rfl ?_); refine bx_ (N := 6) (cs := #[.int .i64 0, .int .i64 0]) (t := 56) ?_; intro gb172 hg w17 hbox hb; replace HO_3 := a0_ (Kd.R_below (ra_ HO_3.out) hb); replace HO_4 := a0_ (Kd.R_below (ra_ HO_4.out) hb); have BK172 := a0_ (hbox); have GW172 := a0_ ((sz_ hg (bl0_) : w.heap.size ≤ gb172)); have GE172 := a0_ ((sz_ hg (bl0_) : w.heap.size ≤ gb172)); replace HB := a0_ (below_step (bl0_) hb); clear hb hbox hg; obtain ⟨hcz18_0, hcz18_1, hfz18_0, hfz18_1⟩ := bc2_ BK172.out))
          go_loopg [3, 7] k1 (fun kq v3 v7 w' => ∃ (x3_2 : List Int) (x4_2 : List (S86)) (x7_2 : Int), v7 = .int .i64 x7_2 ∧ Aside0 (spec_l32Faces.l1 kq l0 x3_2 x4_2 x5_1 x7_2 ((rd_T56 l0 (rd x3_1 x5_1)).f0) ((rd_T56 l0 (rd x3_1 x5_1)).f1) = some r) ∧ Aside0 (kq ≤ k1) ∧ Aside0 (Kd.R (Kd.int .i64) 2 w' w.heap.size (fun _ => True) v3 x3_2) ∧ Aside0 (Kd.R k86 86 w' w.heap.size (fun _ => True) (.slice (some ⟨go5, 0, none⟩) x4_1.length co5) x4_2) ∧ Aside0 (w'.heap[gb172]? = some (.cells #[.int .i64 ((rd_T56 l0 (rd x3_1 x5_1)).f0), .int .i64 ((rd_T56 l0 (rd x3_1 x5_1)).f1)] 56 (0, 0))) ∧ Aside0 (Below w.heap.size w w'))
          case atStart => exact ⟨(x3_1), (x4_1), (0), rs_, H', ⟨Nat.le_refl _⟩, ⟨by (try simp only [hl4_1]); (with_reducible repeat (first | apply Kd.R_alloc | apply Kd.R_drewN | apply Kd.R_drew)); exact Kd.R_mono (Kd.R_far (p := ⟨gb172, 1, none⟩) (Kd.R_far (p := ⟨gb172, 0, none⟩) (Kd.R_types HO_3.out BK172.out (by decide)) (fun _ hk => hk.2) (.int .i64 ((rd_T56 l0 (rd x3_1 x5_1)).f0))) (fun _ hk => hk.2) (.int .i64 ((rd_T56 l0 (rd x3_1 x5_1)).f1))) (fun _ hk => trivial)⟩, ⟨by (try simp only [hl4_1]); (with_reducible repeat (first | apply Kd.R_alloc | apply Kd.R_drewN | apply Kd.R_drew)); exact Kd.R_mono (Kd.R_far (p := ⟨gb172, 1, none⟩) (Kd.R_far (p := ⟨gb172, 0, none⟩) (Kd.R_types HO_4.out BK172.out (by decide)) (fun _ hk => hk.2) (.int .i64 ((rd_T56 l0 (rd x3_1 x5_1)).f0))) (fun _ hk => hk.2) (.int .i64 ((rd_T56 l0 (rd x3_1 x5_1)).f1))) (fun _ hk => trivial)⟩, ⟨by (try simp only [hl4_1]); (with_reducible repeat (first | refine blk_drewN ?_ _ | refine blk_drew ?_ | refine blk_alloc ?_ _)); refine blk_put (cs := #[.int .i64 ((rd_T56 l0 (rd x3_1 x5_1)).f0), .int .i64 0]) ?_ 1 _ rfl; (with_reducible repeat (first | refine blk_drewN ?_ _ | refine blk_drew ?_ | refine blk_alloc ?_ _)); refine blk_put (cs := #[.int .i64 0, .int .i64 0]) ?_ 0 _ rfl; (with_reducible repeat (first | refine blk_drewN ?_ _ | refine blk_drew ?_ | refine blk_alloc ?_ _)); exact BK172.out⟩, ⟨bl1_ GE172.out⟩⟩
          case round =>
           clear H'
           try clear c12b0
           try clear c13b0
           try clear c14b0
           try clear c15b0
           try clear hcz18_0
           try clear hcz18_1
           try clear hfz18_0
           try clear hfz18_1
           try clear hx170_0
           try clear hx171_0
           try clear hx171_1
           try clear p170
           try clear p171
           try clear q170
           try clear q171
           obtain ⟨x3_2, x4_2, x7_2, rfl, HA, HK2, HO_3, HO_4, BK172, HB⟩ := hrel
           have hl4_2 := (Kd.R_reads' HO_4.out).1
           rw [hl4_2] at HO_4
           (try simp only [hl4_2])
           (try simp only [hl4_2] at BK172)
           (try simp only [hl4_2] at HO_3)
           cases gk with
           | zero => exact absurd HA.out (by simp [spec_l32Faces.l1])
           | succ k2 =>
            have H := HA.out
            clear HA
            simp only [spec_l32Faces.l1] at H
            by_cases c19 : x7_2 < 4
            ·rw [if_pos c19] at H
             have c19b0 : decide (x7_2 < 4) = true := decide_eq_true c19
             clear c19
             by_cases c20 : 0 ≤ x7_2
             ·rw [if_pos c20] at H
              have c20b0 : decide (0 ≤ x7_2) = true := decide_eq_true c20
              clear c20
              obtain ⟨⟨t173, t174⟩, A22, H⟩ := bs_ H
              dsimp only at H
              obtain ⟨t176, A23, H⟩ := bs_ H
              by_cases c24 : t176 ≥ 0
              ·rw [if_pos c24] at H
               have c24b0 : decide (0 ≤ t176) = true := decide_eq_true c24
               clear c24
               obtain ⟨t177, A25, H⟩ := bs_ H
               by_cases c26 : t177 = true
               ·subst c26
                rw [if_pos rfl] at H
                have H' := Aside0.mk H
                clear H
                have p21 : 0 ≤ (x7_2 : Int) := od_
                have q21 : x7_2 < (4 : Int) := od_
                have hx21 := bt_at (⟨#[114, 100, 108, 117]⟩ : ByteArray) x7_2
                replace p21 := eq_true p21
                replace q21 := eq_true q21
                go_wp2_with (first | ((with_reducible refine gate_callee (f := 63) rfl ?_); refine goesL_ (some 38) rfl rfl Tryz.func63 kr_ rfl #[.int .u8 (bt (⟨#[114, 100, 108, 117]⟩ : ByteArray) x7_2)] rfl ta_ ?_; (with_reducible refine (spec_l23Step.calls (bt (⟨#[114, 100, 108, 117]⟩ : ByteArray) x7_2) t173 t174 _ A22.out).mono ?_); rintro e w27 ⟨rfl, hb⟩; refine ⟨_, rfl, ?_⟩; replace HO_3 := a0_ (Kd.R_below (ra_ HO_3.out) hb); replace HO_4 := a0_ (Kd.R_below (ra_ HO_4.out) hb); replace BK172 := a0_ (bb_ BK172.out hb); replace HB := a0_ (below_step (bl1_ GE172.out) hb); (try clear hb)) | ((with_reducible refine gate_dst (N := 8) rfl ?_); refine bx_ (N := 8) (cs := #[.int .i64 0, .int .i64 0]) (t := 56) ?_; intro gb175 hg w28 hbox hb; replace HO_3 := a0_ (Kd.R_below (ra_ HO_3.out) hb); replace HO_4 := a0_ (Kd.R_below (ra_ HO_4.out) hb); have BK175 := a0_ (hbox); have GW175 := a0_ ((sz_ hg (bl1_ GE172.out) : w.heap.size ≤ gb175)); have GE175 := a0_ ((sz_ hg (bl1_ GE172.out) : w.heap.size ≤ gb175)); replace HB := a0_ (below_step (bl1_ GE172.out) hb); have NB172_175 := a0_ ((nl_ hg BK172.out : gb172 ≠ gb175)); have NB175_172 := a0_ ((ng_ hg BK172.out : gb175 ≠ gb172)); replace BK172 := a0_ (bb_ BK172.out hb); clear hb hbox hg; have hnb29 := NB175_172.out; have hnc29 := NB172_175.out; obtain ⟨hcz30_0, hcz30_1, hfz30_0, hfz30_1⟩ := bc2_ BK175.out; obtain ⟨hcz31_0, hcz31_1, hfz31_0, hfz31_1⟩ := bc2_ BK172.out) | ((with_reducible refine gate_callee (f := 64) rfl ?_); refine goesL_ (some 51) rfl rfl Tryz.func64 kr_ rfl #[.slice (some ad171) l0.length c0, .agg #[.int .i64 (wrap64 (((rd_T56 l0 (rd x3_1 x5_1)).f0) + t173)), .int .i64 (wrap64 (((rd_T56 l0 (rd x3_1 x5_1)).f1) + t174))]] rfl ta_ ?_; (with_reducible refine (spec_l02Index.calls k2 _ _ l0 (wrap64 (((rd_T56 l0 (rd x3_1 x5_1)).f0) + t173)) (wrap64 (((rd_T56 l0 (rd x3_1 x5_1)).f1) + t174)) t176 _ ?side1 ?side2 A23.out).mono ?_); (case side1 => exact Kd.C_below HR0.out (bl2_ GE172.out GE175.out)); (case side2 => exact HC0.out); rintro e w32 ⟨rfl, hb⟩; refine ⟨_, rfl, ?_⟩; replace HO_3 := a0_ (Kd.R_below (by (with_reducible repeat (first | apply Kd.R_alloc | apply Kd.R_drewN | apply Kd.R_drew)); exact (Kd.R_mono (Kd.R_far (p := ⟨gb175, 1, none⟩) (Kd.R_far (p := ⟨gb175, 0, none⟩) (Kd.R_types HO_3.out BK175.out (by decide)) (fun _ hk => hk.2) (.int .i64 t173)) (fun _ hk => hk.2) (.int .i64 t174)) (fun _ h_ => h_.1))) hb); replace HO_4 := a0_ (Kd.R_below (by (with_reducible repeat (first | apply Kd.R_alloc | apply Kd.R_drewN | apply Kd.R_drew)); exact (Kd.R_mono (Kd.R_far (p := ⟨gb175, 1, none⟩) (Kd.R_far (p := ⟨gb175, 0, none⟩) (Kd.R_types HO_4.out BK175.out (by decide)) (fun _ hk => hk.2) (.int .i64 t173)) (fun _ hk => hk.2) (.int .i64 t174)) (fun _ h_ => h_.1))) hb); replace BK172 := a0_ (blk_below (g := gb172) (o := .cells #[.int .i64 ((rd_T56 l0 (rd x3_1 x5_1)).f0), .int .i64 ((rd_T56 l0 (rd x3_1 x5_1)).f1)] 56 (0, 0)) (bf_ BK172.out NB172_175.out) hb); replace BK175 := a0_ (blk_below (g := gb175) (o := .cells #[.int .i64 t173, .int .i64 t174] 56 (0, 0)) (by (with_reducible repeat (first | refine blk_drewN ?_ _ | refine blk_drew ?_ | refine blk_alloc ?_ _)); refine blk_put (cs := #[.int .i64 t173, .int .i64 0]) ?_ 1 _ rfl; (with_reducible repeat (first | refine blk_drewN ?_ _ | refine blk_drew ?_ | refine blk_alloc ?_ _)); refine blk_put (cs := #[.int .i64 0, .int .i64 0]) ?_ 0 _ rfl; (with_reducible repeat (first | refine blk_drewN ?_ _ | refine blk_drew ?_ | refine blk_alloc ?_ _)); exact BK175.out) hb); replace HB := a0_ (below_step (bl2_ GE172.out GE175.out) hb); (try clear hb); obtain ⟨Ao33, co33, eo33⟩ := Kd.R_slice HO_3.out; subst eo33) | (go_at_call 65; (with_reducible refine (spec_l01Has.calls k2 _ _ x3_2 t176 true _ ?side1 ?side2 A25.out).mono ?_); (case side1 => exact ca_ (Kd.R_reads' HO_3.out).2.2); (case side2 => exact (Kd.R_reads' HO_3.out).2.1); rintro e w' ⟨rfl, ⟨nd, rfl⟩⟩))
                (try simp only [← hl4_2])
                go_roundg k2
                case measure => have := HK1.out; have := HK2.out; omega
                case rel => exact ⟨(x3_2), (x4_2), (wrap64 (x7_2 + 1)), rs_, H', ⟨by have := HK1.out; have := HK2.out; omega⟩, ⟨by (try simp only [hl4_1]); (try simp only [hl4_2]); (with_reducible repeat (first | apply Kd.R_alloc | apply Kd.R_drewN | apply Kd.R_drew)); exact HO_3.out⟩, ⟨by (try simp only [hl4_1]); (try simp only [hl4_2]); (with_reducible repeat (first | apply Kd.R_alloc | apply Kd.R_drewN | apply Kd.R_drew)); exact HO_4.out⟩, ⟨by (try simp only [hl4_1]); (try simp only [hl4_2]); (with_reducible repeat (first | refine blk_drewN ?_ _ | refine blk_drew ?_ | refine blk_alloc ?_ _)); exact BK172.out⟩, ⟨bl2_ GE172.out GE175.out⟩⟩
               ·replace c26 := Bool.eq_false_iff.mpr c26
                subst c26
                rw [if_neg (show ¬ (false = true) by decide)] at H
                by_cases c34 : 0 ≤ x5_1
                ·rw [if_pos c34] at H
                 have c34b0 : decide (0 ≤ x5_1) = true := decide_eq_true c34
                 clear c34
                 by_cases c35 : x5_1 < (x3_2.length : Int)
                 ·rw [if_pos c35] at H
                  have c35b0 : decide (x5_1 < (x3_2.length : Int)) = true := decide_eq_true c35
                  clear c35
                  by_cases c36 : 0 ≤ (rd x3_2 x5_1)
                  ·rw [if_pos c36] at H
                   have c36b0 : decide (0 ≤ (rd x3_2 x5_1)) = true := decide_eq_true c36
                   clear c36
                   by_cases c37 : (rd x3_2 x5_1) < (x4_2.length : Int)
                   ·rw [if_pos c37] at H
                    have c37b0 : decide ((rd x3_2 x5_1) < (x4_2.length : Int)) = true := decide_eq_true c37
                    clear c37
                    obtain ⟨⟨t180, t181, t182⟩, A39, H⟩ := bs_ H
                    dsimp only at H
                    by_cases c40 : 0 ≤ t176
                    ·rw [if_pos c40] at H
                     have c40b0 : decide (0 ≤ t176) = true := decide_eq_true c40
                     clear c40
                     by_cases c41 : t176 < (x4_2.length : Int)
                     ·rw [if_pos c41] at H
                      have c41b0 : decide (t176 < (x4_2.length : Int)) = true := decide_eq_true c41
                      clear c41
                      obtain ⟨y183, hy183⟩ : ∃ y_ : List (S86), y_ = (x4_2.set (t176 : Int).toNat (⟨t180, t181, t182⟩ : S86)) := ⟨_, rfl⟩
                      replace H : (if x3_2.length < 17592186044416 then (spec_l32Faces.l1 k2 l0 (x3_2 ++ [t176]) y183 x5_1 (wrap64 (x7_2 + 1)) ((rd_T56 l0 (rd x3_1 x5_1)).f0) ((rd_T56 l0 (rd x3_1 x5_1)).f1)) else (none)) = some r := hh_ hy183 H
                      have Ny183 := Aside0.mk hy183
                      clear hy183
                      by_cases c43 : x3_2.length < 17592186044416
                      ·rw [if_pos c43] at H
                       have LMc43 := Aside0.mk c43
                       clear c43
                       obtain ⟨y184, hy184⟩ : ∃ y_ : List Int, y_ = (x3_2 ++ [t176]) := ⟨_, rfl⟩
                       replace H : (spec_l32Faces.l1 k2 l0 y184 y183 x5_1 (wrap64 (x7_2 + 1)) ((rd_T56 l0 (rd x3_1 x5_1)).f0) ((rd_T56 l0 (rd x3_1 x5_1)).f1)) = some r := hh_ hy184 H
                       have Ny184 := Aside0.mk hy184
                       clear hy184
                       have H' := Aside0.mk H
                       clear H
                       have p21 : 0 ≤ (x7_2 : Int) := od_
                       have q21 : x7_2 < (4 : Int) := od_
                       have hx21 := bt_at (⟨#[114, 100, 108, 117]⟩ : ByteArray) x7_2
                       replace p21 := eq_true p21
                       replace q21 := eq_true q21
                       try go_wp2_with (first | ((with_reducible refine gate_callee (f := 63) rfl ?_); refine goesL_ (some 38) rfl rfl Tryz.func63 kr_ rfl #[.int .u8 (bt (⟨#[114, 100, 108, 117]⟩ : ByteArray) x7_2)] rfl ta_ ?_; (with_reducible refine (spec_l23Step.calls (bt (⟨#[114, 100, 108, 117]⟩ : ByteArray) x7_2) t173 t174 _ A22.out).mono ?_); rintro e w44 ⟨rfl, hb⟩; refine ⟨_, rfl, ?_⟩; replace HO_3 := a0_ (Kd.R_below (ra_ HO_3.out) hb); replace HO_4 := a0_ (Kd.R_below (ra_ HO_4.out) hb); replace BK172 := a0_ (bb_ BK172.out hb); replace HB := a0_ (below_step (bl1_ GE172.out) hb); (try clear hb)) | ((with_reducible refine gate_dst (N := 8) rfl ?_); refine bx_ (N := 8) (cs := #[.int .i64 0, .int .i64 0]) (t := 56) ?_; intro gb175 hg w45 hbox hb; replace HO_3 := a0_ (Kd.R_below (ra_ HO_3.out) hb); replace HO_4 := a0_ (Kd.R_below (ra_ HO_4.out) hb); have BK175 := a0_ (hbox); have GW175 := a0_ ((sz_ hg (bl1_ GE172.out) : w.heap.size ≤ gb175)); have GE175 := a0_ ((sz_ hg (bl1_ GE172.out) : w.heap.size ≤ gb175)); replace HB := a0_ (below_step (bl1_ GE172.out) hb); have NB172_175 := a0_ ((nl_ hg BK172.out : gb172 ≠ gb175)); have NB175_172 := a0_ ((ng_ hg BK172.out : gb175 ≠ gb172)); replace BK172 := a0_ (bb_ BK172.out hb); clear hb hbox hg; have hnb46 := NB175_172.out; have hnc46 := NB172_175.out; obtain ⟨hcz47_0, hcz47_1, hfz47_0, hfz47_1⟩ := bc2_ BK175.out; obtain ⟨hcz48_0, hcz48_1, hfz48_0, hfz48_1⟩ := bc2_ BK172.out) | ((with_reducible refine gate_callee (f := 64) rfl ?_); refine goesL_ (some 51) rfl rfl Tryz.func64 kr_ rfl #[.slice (some ad171) l0.length c0, .agg #[.int .i64 (wrap64 (((rd_T56 l0 (rd x3_1 x5_1)).f0) + t173)), .int .i64 (wrap64 (((rd_T56 l0 (rd x3_1 x5_1)).f1) + t174))]] rfl ta_ ?_; (with_reducible refine (spec_l02Index.calls k2 _ _ l0 (wrap64 (((rd_T56 l0 (rd x3_1 x5_1)).f0) + t173)) (wrap64 (((rd_T56 l0 (rd x3_1 x5_1)).f1) + t174)) t176 _ ?side1 ?side2 A23.out).mono ?_); (case side1 => exact Kd.C_below HR0.out (bl2_ GE172.out GE175.out)); (case side2 => exact HC0.out); rintro e w49 ⟨rfl, hb⟩; refine ⟨_, rfl, ?_⟩; replace HO_3 := a0_ (Kd.R_below (by (with_reducible repeat (first | apply Kd.R_alloc | apply Kd.R_drewN | apply Kd.R_drew)); exact (Kd.R_mono (Kd.R_far (p := ⟨gb175, 1, none⟩) (Kd.R_far (p := ⟨gb175, 0, none⟩) (Kd.R_types HO_3.out BK175.out (by decide)) (fun _ hk => hk.2) (.int .i64 t173)) (fun _ hk => hk.2) (.int .i64 t174)) (fun _ h_ => h_.1))) hb); replace HO_4 := a0_ (Kd.R_below (by (with_reducible repeat (first | apply Kd.R_alloc | apply Kd.R_drewN | apply Kd.R_drew)); exact (Kd.R_mono (Kd.R_far (p := ⟨gb175, 1, none⟩) (Kd.R_far (p := ⟨gb175, 0, none⟩) (Kd.R_types HO_4.out BK175.out (by decide)) (fun _ hk => hk.2) (.int .i64 t173)) (fun _ hk => hk.2) (.int .i64 t174)) (fun _ h_ => h_.1))) hb); replace BK172 := a0_ (blk_below (g := gb172) (o := .cells #[.int .i64 ((rd_T56 l0 (rd x3_1 x5_1)).f0), .int .i64 ((rd_T56 l0 (rd x3_1 x5_1)).f1)] 56 (0, 0)) (bf_ BK172.out NB172_175.out) hb); replace BK175 := a0_ (blk_below (g := gb175) (o := .cells #[.int .i64 t173, .int .i64 t174] 56 (0, 0)) (by (with_reducible repeat (first | refine blk_drewN ?_ _ | refine blk_drew ?_ | refine blk_alloc ?_ _)); refine blk_put (cs := #[.int .i64 t173, .int .i64 0]) ?_ 1 _ rfl; (with_reducible repeat (first | refine blk_drewN ?_ _ | refine blk_drew ?_ | refine blk_alloc ?_ _)); refine blk_put (cs := #[.int .i64 0, .int .i64 0]) ?_ 0 _ rfl; (with_reducible repeat (first | refine blk_drewN ?_ _ | refine blk_drew ?_ | refine blk_alloc ?_ _)); exact BK175.out) hb); replace HB := a0_ (below_step (bl2_ GE172.out GE175.out) hb); (try clear hb); obtain ⟨Ao50, co50, eo50⟩ := Kd.R_slice HO_3.out; subst eo50) | (go_at_call 65; (with_reducible refine (spec_l01Has.calls k2 _ _ x3_2 t176 false _ ?side1 ?side2 A25.out).mono ?_); (case side1 => exact ca_ (Kd.R_reads' HO_3.out).2.2); (case side2 => exact (Kd.R_reads' HO_3.out).2.1); rintro e w' ⟨rfl, ⟨nd, rfl⟩⟩; (try (rw [drewN_self w49]; generalize hq_ : World.drewN w49 _ = w49; have n0_ : Aside0 (Kd.R (Kd.int .i64) 2 w49 w.heap.size (fun _ => True) (.slice Ao50 x3_2.length co50) x3_2) := ⟨by rw [← hq_]; exact (ra_ HO_3.out)⟩; have n1_ : Aside0 (Kd.R k86 86 w49 w.heap.size (fun _ => True) (.slice (some ⟨go5, 0, none⟩) x4_2.length co5) x4_2) := ⟨by rw [← hq_]; exact (ra_ HO_4.out)⟩; have n2_ : Aside0 (w49.heap[gb172]? = some (.cells #[.int .i64 ((rd_T56 l0 (rd x3_1 x5_1)).f0), .int .i64 ((rd_T56 l0 (rd x3_1 x5_1)).f1)] 56 (0, 0))) := ⟨by rw [← hq_]; exact (bk_ BK172.out)⟩; have n3_ : Aside0 (w49.heap[gb175]? = some (.cells #[.int .i64 t173, .int .i64 t174] 56 (0, 0))) := ⟨by rw [← hq_]; exact (bk_ BK175.out)⟩; have n4_ : Aside0 (Below w.heap.size w w49) := ⟨by rw [← hq_]; exact (bl2_ GE172.out GE175.out)⟩; clear HO_3 HO_4 BK172 BK175 HB hq_; have HO_3 := n0_; have HO_4 := n1_; have BK172 := n2_; have BK175 := n3_; have HB := n4_; clear n0_ n1_ n2_ n3_ n4_))))
                       replace HO_3 := a0_ (Kd.R_drew HO_3.out)
                       replace HO_4 := a0_ (Kd.R_drew HO_4.out)
                       replace BK172 := a0_ (blk_drew BK172.out)
                       replace BK175 := a0_ (blk_drew BK175.out)
                       replace HB := a0_ (below_drew1 HB.out)
                       have p178 : 0 ≤ (x5_1 : Int) := od_
                       have q178 : x5_1 < (x3_2.length : Int) := od_
                       obtain ⟨ad178, e178, hx178_0⟩ := Kd.at_int (Kd.R_reads' HO_3.out).2.2 x5_1 p178 q178
                       cases e178
                       replace p178 := eq_true p178
                       replace q178 := eq_true q178
                       have p179 : 0 ≤ ((rd x3_2 x5_1) : Int) := od_
                       have q179 : (rd x3_2 x5_1) < (x4_2.length : Int) := od_
                       obtain ⟨ad179, e179, hx179_0, hx179_1, hx179_2⟩ := at_T86 (Kd.R_reads' HO_4.out).2.2 (rd x3_2 x5_1) p179 q179
                       obtain rfl : (⟨go5, 0, none⟩ : Addr) = ad179 := (by injection e179)
                       (first | simp only [add_plain] at hx179_0 | simp only [add_at] at hx179_0 | simp only [Addr.add, Nat.zero_add] at hx179_0 | skip)
                       (first | simp only [add_plain] at hx179_1 | simp only [add_at] at hx179_1 | simp only [Addr.add, Nat.zero_add] at hx179_1 | skip)
                       (first | simp only [add_plain] at hx179_2 | simp only [add_at] at hx179_2 | simp only [Addr.add, Nat.zero_add] at hx179_2 | skip)
                       replace p179 := eq_true p179
                       replace q179 := eq_true q179
                       have p38 : 0 ≤ (x7_2 : Int) := od_
                       have q38 : x7_2 < (4 : Int) := od_
                       have hx38 := bt_at (⟨#[114, 100, 108, 117]⟩ : ByteArray) x7_2
                       replace p38 := eq_true p38
                       replace q38 := eq_true q38
                       refine start_ (n := 14) (S := fun w' => w'.cell? (ad178.add (x5_1).toNat) = some (.int .i64 (rd x3_2 x5_1)) ∧ w'.cell? ⟨go5, ((rd x3_2 x5_1)).toNat * 3, none⟩ = some (.int .i64 ((rd_T86 x4_2 (rd x3_2 x5_1)).f0)) ∧ w'.cell? ⟨go5, ((rd x3_2 x5_1)).toNat * 3 + 1, none⟩ = some (.int .i64 ((rd_T86 x4_2 (rd x3_2 x5_1)).f1)) ∧ w'.cell? ⟨go5, ((rd x3_2 x5_1)).toNat * 3 + 2, none⟩ = some (.int .i64 ((rd_T86 x4_2 (rd x3_2 x5_1)).f2))) (ds := [13]) (mk_ 0 14) kr_ rfl rfl ⟨hx178_0, hx179_0, hx179_1, hx179_2⟩ (fun hHeld => ?_); refine with_tabW spec_l32Faces.tab14 spec_l32Faces.bits14 (fun HT_ HW_ => ?_)
                       generalize w49.drew = w51 at HO_3 HO_4 BK172 BK175 HB hx178_0 hx179_0 hx179_1 hx179_2 hHeld ⊢
                       refine pu_ 0 (some 60) (mk_ 1 13) HT_ ?_
                       refine pu_ 1 (some 61) (mk_ 2 12) HT_ ?_
                       refine pu_ 2 (some 62) (mk_ 3 11) HT_ ?_
                       refine pu_ 3 (some 63) (mk_ 4 10) HT_ ?_
                       refine pu_ 4 (some 64) (mk_ 5 9) HT_ ?_
                       refine pu_ 5 (some 65) (mk_ 6 8) HT_ ?_
                       refine pu_ 9 (some 69) #[true, true, true, true, true, true, false, false, false, true, false, false, false, false] HT_ ?_
                       refine tk_ 6 (some 66) #[true, true, true, true, true, true, true, false, false, true, false, false, false, false] HT_ HW_ hHeld (hy := .inl ⟨by rfl, by rintro w' ⟨s0, s1, s2, s3⟩; go_simp; with_reducible rfl⟩) ?_
                       refine pu_ 7 (some 67) #[true, true, true, true, true, true, true, true, false, true, false, false, false, false] HT_ ?_
                       refine tk_ 8 (some 68) (mk_ 10 4) HT_ HW_ hHeld (hy := .inl ⟨by rfl, by rintro w' ⟨s0, s1, s2, s3⟩; go_simp; with_reducible rfl⟩) ?_
                       refine tk_ 10 (some 70) (mk_ 11 3) HT_ HW_ hHeld (hy := .inl ⟨by rfl, by rintro w' ⟨s0, s1, s2, s3⟩; go_simp; with_reducible rfl⟩) ?_
                       refine one_ (i := 11) (N := some 71) (mk_ 12 2) rfl rfl (one_of HT_.out kr_) (by decide) (fun K hK => ?_)
                       refine goes_ Tryz.func66 kr_ rfl #[.agg #[.int .i64 ((rd_T86 x4_2 (rd x3_2 x5_1)).f0), .int .i64 ((rd_T86 x4_2 (rd x3_2 x5_1)).f1), .int .i64 ((rd_T86 x4_2 (rd x3_2 x5_1)).f2)], .int .u8 (bt (⟨#[114, 100, 108, 117]⟩ : ByteArray) x7_2)] (by rfl) rfl rfl ta_ ?_
                       with_reducible refine (spec_l32Roll.calls ((rd_T86 x4_2 (rd x3_2 x5_1)).f0) ((rd_T86 x4_2 (rd x3_2 x5_1)).f1) ((rd_T86 x4_2 (rd x3_2 x5_1)).f2) (bt (⟨#[114, 100, 108, 117]⟩ : ByteArray) x7_2) t180 t181 t182 _ A39.out).mono ?_
                       rintro e w52 ⟨rfl, hb⟩
                       have HS0_ := (hb.cell (World.block_lt_of_cell? _ _ (hHeld.1))).trans (hHeld.1)
                       have HS1_ := (hb.cell (World.block_lt_of_cell? _ _ (hHeld.2.1))).trans (hHeld.2.1)
                       have HS2_ := (hb.cell (World.block_lt_of_cell? _ _ (hHeld.2.2.1))).trans (hHeld.2.2.1)
                       have HS3_ := (hb.cell (World.block_lt_of_cell? _ _ (hHeld.2.2.2))).trans (hHeld.2.2.2)
                       refine ⟨_, rfl, ?_⟩
                       replace HO_3 := a0_ (Kd.R_below (ra_ HO_3.out) hb)
                       replace HO_4 := a0_ (Kd.R_below (ra_ HO_4.out) hb)
                       replace BK172 := a0_ (bb_ BK172.out hb)
                       replace BK175 := a0_ (bb_ BK175.out hb)
                       replace HB := a0_ (below_step (bl2_ GE172.out GE175.out) hb)
                       (try clear hb)
                       (try clear hb2)
                       (try clear hk)
                       (try clear hi)
                       have p42 : 0 ≤ (t176 : Int) := od_
                       have q42 : (t176 : Int) < ((x4_2.length : Int) : Int) := od_
                       obtain ⟨ce42, hcl42, hM42, hcc42, hfr42⟩ := Kd.R_elem HO_4.out z86 (t176 : Int) p42 q42
                       obtain rfl := k86_openM hM42
                       have hx42_0 : World.cell? _ ⟨go5, (t176 : Int).toNat * 3, none⟩ = some (.int .i64 ((rd_T86 x4_2 t176).f0)) := hcc42 0 _ rfl
                       have hx42_1 : World.cell? _ ⟨go5, (t176 : Int).toNat * 3 + 1, none⟩ = some (.int .i64 ((rd_T86 x4_2 t176).f1)) := hcc42 1 _ rfl
                       have hx42_2 : World.cell? _ ⟨go5, (t176 : Int).toNat * 3 + 2, none⟩ = some (.int .i64 ((rd_T86 x4_2 t176).f2)) := hcc42 2 _ rfl
                       have hf42_0 : World.frozen? _ ⟨go5, (t176 : Int).toNat * 3, none⟩ = false := hfr42 0
                       have hf42_1 : World.frozen? _ ⟨go5, (t176 : Int).toNat * 3 + 1, none⟩ = false := hfr42 1
                       have hf42_2 : World.frozen? _ ⟨go5, (t176 : Int).toNat * 3 + 2, none⟩ = false := hfr42 2
                       clear hcl42 hcc42 hfr42 hM42
                       replace p42 := eq_true p42
                       replace q42 := eq_true q42
                       obtain ⟨ce53, hcl53, hM53, hcc53, hfr53⟩ := Kd.R_elem HO_4.out z86 (t176 : Int) (od_) (by have h_ : (t176 : Int) < ((x4_2.length : Int) : Int) := od_; first | exact h_ | (have e_ := (Kd.R_reads' HO_4.out).1; omega) | simpa using h_)
                       obtain rfl := k86_openM hM53
                       have HP53 := (Kd.R_seg HO_4.out (t176 : Int) (od_) (by have h_ : (t176 : Int) < ((x4_2.length : Int) : Int) := od_; first | exact h_ | (have e_ := (Kd.R_reads' HO_4.out).1; omega) | simpa using h_) (seg := [.int .i64 t180, .int .i64 t181, .int .i64 t182]) (j := 0) hcl53 hcc53 (show 3 ≤ 3 from by decide) (x' := (⟨t180, t181, t182⟩ : S86)) (k86_mkM _ _ _ (⟨t180, t181, t182⟩ : S86) ) (fun _ hk => hk)).1
                       rw [← Ny183.out] at HP53
                       have HQ53 := Aside0.mk HP53
                       clear hcl53 hcc53 hfr53 hM53 HP53
                       refine hK.out _ _ ⟨HS0_, HS1_, HS2_, HS3_⟩ (fun hHeld => ?_)
                       clear hK K
                       refine nm_ ?_
                       refine pu_ 12 (some 72) (mk_ 13 1) HT_ ?_
                       refine last_ (i := 13) (N := none) (mk_ 14 0) rfl rfl (one_of HT_.out kr_) (by decide) (fun K hK => ?_)
                       refine skip_ (w1 := ?_) (by rfl) rfl ?_ ?_
                       rotate_left
                       ·go_simp
                        rfl
                       refine hK.out _ _ ?_
                       clear hK K
                       refine done_ (done_of HT_.out kr_) ?_
                       try go_wp2_with (first | ((with_reducible refine gate_builtin (b := .append) (xs := #[.tmp 73, .tmp 75]) rfl ?_); at_builtin; refine Kd.R_append (Kd.int .i64) (w0 := w) w.heap.size rfl (.tmp 73) (.tmp 75) 48 2 (.int .i64 0) 8 rfl Tryz.underlying48 info2 rfl (by decide) (by omega) (.slice (some ad178) x3_2.length co50) x3_2 t176 [.int .i64 t176] (fun _ => True) (fun _ => False) rfl (by first | (go_simp; done) | (go_simp; rfl)) ?aP (fun _ hk => hk.elim) ?aF ?aO ?aB ?aS ?aL ?_; (case aP => exact rfl); (case aB => exact (by repeat (first | (with_reducible first | exact HB.out | apply below_alloc | apply pw_below_drewN | apply below_drew1 | refine below_set ?_ GB5.out | refine below_set ?_ GB5.out | refine below_set ?_ GB5.out | refine below_set ?_ GE172.out | refine below_set ?_ GE175.out) | exact HB.out))); (case aF => exact (fun _ _ => trivial)); (case aO => exact (by (with_reducible repeat (first | apply Kd.R_alloc | apply Kd.R_drewN | apply Kd.R_drew)); exact Kd.R_mono (Kd.R_far (p := ⟨go5, (t176 : Int).toNat * 3 + 2, none⟩) (Kd.R_far (p := ⟨go5, (t176 : Int).toNat * 3 + 1, none⟩) (Kd.R_far (p := ⟨go5, (t176 : Int).toNat * 3, none⟩) (Kd.R_typesE HO_3.out (by first | exact ⟨_, GG5.out⟩ | exact Kd.R_typed HO186.out _ rfl | exact Kd.R_typed HO_3.out _ rfl | exact Kd.R_typed HO_4.out _ rfl) (by decide)) (fun _ hk => hk.2) (.int .i64 t180)) (fun _ hk => hk.2) (.int .i64 t181)) (fun _ hk => hk.2) (.int .i64 t182)) (fun _ hk => trivial))); (case aS => exact (below_size (by repeat (first | (with_reducible first | exact HB.out | apply below_alloc | apply pw_below_drewN | apply below_drew1 | refine below_set ?_ GB5.out | refine below_set ?_ GB5.out | refine below_set ?_ GB5.out | refine below_set ?_ GE172.out | refine below_set ?_ GE175.out) | exact HB.out)))); (case aL => have := LMc43.out; omega); intro v185 w54 ho hb hg hat; rw [← Ny184.out] at ho; replace BK172 := a0_ (blk_grown (g := gb172) (o := .cells #[.int .i64 ((rd_T56 l0 (rd x3_1 x5_1)).f0), .int .i64 ((rd_T56 l0 (rd x3_1 x5_1)).f1)] 56 (0, 0)) (by (with_reducible repeat (first | refine blk_drewN ?_ _ | refine blk_drew ?_ | refine blk_alloc ?_ _)); refine blk_far ?_ (by have h_ := Kd.R_ne HO_4.out BK172.out (by decide); intro e_; exact h_ (by rw [e_]; rfl)) _; (with_reducible repeat (first | refine blk_drewN ?_ _ | refine blk_drew ?_ | refine blk_alloc ?_ _)); refine blk_far ?_ (by have h_ := Kd.R_ne HO_4.out BK172.out (by decide); intro e_; exact h_ (by rw [e_]; rfl)) _; (with_reducible repeat (first | refine blk_drewN ?_ _ | refine blk_drew ?_ | refine blk_alloc ?_ _)); refine blk_far ?_ (by have h_ := Kd.R_ne HO_4.out BK172.out (by decide); intro e_; exact h_ (by rw [e_]; rfl)) _; (with_reducible repeat (first | refine blk_drewN ?_ _ | refine blk_drew ?_ | refine blk_alloc ?_ _)); exact BK172.out) hg (Kd.R_ne HO_3.out BK172.out (by decide))); replace BK175 := a0_ (blk_grown (g := gb175) (o := .cells #[.int .i64 t173, .int .i64 t174] 56 (0, 0)) (by (with_reducible repeat (first | refine blk_drewN ?_ _ | refine blk_drew ?_ | refine blk_alloc ?_ _)); refine blk_far ?_ (by have h_ := Kd.R_ne HO_4.out BK175.out (by decide); intro e_; exact h_ (by rw [e_]; rfl)) _; (with_reducible repeat (first | refine blk_drewN ?_ _ | refine blk_drew ?_ | refine blk_alloc ?_ _)); refine blk_far ?_ (by have h_ := Kd.R_ne HO_4.out BK175.out (by decide); intro e_; exact h_ (by rw [e_]; rfl)) _; (with_reducible repeat (first | refine blk_drewN ?_ _ | refine blk_drew ?_ | refine blk_alloc ?_ _)); refine blk_far ?_ (by have h_ := Kd.R_ne HO_4.out BK175.out (by decide); intro e_; exact h_ (by rw [e_]; rfl)) _; (with_reducible repeat (first | refine blk_drewN ?_ _ | refine blk_drew ?_ | refine blk_alloc ?_ _)); exact BK175.out) hg (Kd.R_ne HO_3.out BK175.out (by decide))); replace HO_4 := a0_ (Kd.R_over' (ra_ HQ53.out) (Kd.R_typed (by (with_reducible repeat (first | apply Kd.R_alloc | apply Kd.R_drewN | apply Kd.R_drew)); exact (Kd.R_mono (Kd.R_far (p := ⟨go5, (t176 : Int).toNat * 3 + 2, none⟩) (Kd.R_far (p := ⟨go5, (t176 : Int).toNat * 3 + 1, none⟩) (Kd.R_far (p := ⟨go5, (t176 : Int).toNat * 3, none⟩) (Kd.R_typesE HO_3.out (by first | exact ⟨_, GG5.out⟩ | exact Kd.R_typed HO186.out _ rfl | exact Kd.R_typed HO_3.out _ rfl | exact Kd.R_typed HO_4.out _ rfl) (by decide)) (fun _ hk => hk.2) (.int .i64 t180)) (fun _ hk => hk.2) (.int .i64 t181)) (fun _ hk => hk.2) (.int .i64 t182)) (fun _ h_ => h_.1)))) (by decide) hg); replace HB := a0_ (hb); have HO186 := a0_ (ho); clear HO_3; clear ho hb hg hat))
                       (try simp only [← hl4_2])
                       go_roundg k2
                       case measure => have := HK1.out; have := HK2.out; omega
                       case rel => exact ⟨(y184), (y183), (wrap64 (x7_2 + 1)), rs_, H', ⟨by have := HK1.out; have := HK2.out; omega⟩, ⟨by (try simp only [hl4_1]); (try simp only [hl4_2]); (with_reducible repeat (first | apply Kd.R_alloc | apply Kd.R_drewN | apply Kd.R_drew)); exact HO186.out⟩, ⟨by (try simp only [hl4_1]); (try simp only [hl4_2]); (with_reducible repeat (first | apply Kd.R_alloc | apply Kd.R_drewN | apply Kd.R_drew)); exact HO_4.out⟩, ⟨by (try simp only [hl4_1]); (try simp only [hl4_2]); (with_reducible repeat (first | refine blk_drewN ?_ _ | refine blk_drew ?_ | refine blk_alloc ?_ _)); exact BK172.out⟩, ⟨bl2_ GE172.out GE175.out⟩⟩
                      ·rw [if_neg c43] at H
                       exact absurd H (by simp)
                     ·rw [if_neg c41] at H
                      exact absurd H (by simp)
                    ·rw [if_neg c40] at H
                     exact absurd H (by simp)
                   ·rw [if_neg c37] at H
                    exact absurd H (by simp)
                  ·rw [if_neg c36] at H
                   exact absurd H (by simp)
                 ·rw [if_neg c35] at H
                  exact absurd H (by simp)
                ·rw [if_neg c34] at H
                 exact absurd H (by simp)
              ·rw [if_neg c24] at H
               have c24b0 : decide (0 ≤ t176) = false := decide_eq_false c24
               clear c24
               have H' := Aside0.mk H
               clear H
               have p21 : 0 ≤ (x7_2 : Int) := od_
               have q21 : x7_2 < (4 : Int) := od_
               have hx21 := bt_at (⟨#[114, 100, 108, 117]⟩ : ByteArray) x7_2
               replace p21 := eq_true p21
               replace q21 := eq_true q21
               go_wp2_with (first | ((with_reducible refine gate_callee (f := 63) rfl ?_); refine goesL_ (some 38) rfl rfl Tryz.func63 kr_ rfl #[.int .u8 (bt (⟨#[114, 100, 108, 117]⟩ : ByteArray) x7_2)] rfl ta_ ?_; (with_reducible refine (spec_l23Step.calls (bt (⟨#[114, 100, 108, 117]⟩ : ByteArray) x7_2) t173 t174 _ A22.out).mono ?_); rintro e w55 ⟨rfl, hb⟩; refine ⟨_, rfl, ?_⟩; replace HO_3 := a0_ (Kd.R_below (ra_ HO_3.out) hb); replace HO_4 := a0_ (Kd.R_below (ra_ HO_4.out) hb); replace BK172 := a0_ (bb_ BK172.out hb); replace HB := a0_ (below_step (bl1_ GE172.out) hb); (try clear hb)) | ((with_reducible refine gate_dst (N := 8) rfl ?_); refine bx_ (N := 8) (cs := #[.int .i64 0, .int .i64 0]) (t := 56) ?_; intro gb175 hg w56 hbox hb; replace HO_3 := a0_ (Kd.R_below (ra_ HO_3.out) hb); replace HO_4 := a0_ (Kd.R_below (ra_ HO_4.out) hb); have BK175 := a0_ (hbox); have GW175 := a0_ ((sz_ hg (bl1_ GE172.out) : w.heap.size ≤ gb175)); have GE175 := a0_ ((sz_ hg (bl1_ GE172.out) : w.heap.size ≤ gb175)); replace HB := a0_ (below_step (bl1_ GE172.out) hb); have NB172_175 := a0_ ((nl_ hg BK172.out : gb172 ≠ gb175)); have NB175_172 := a0_ ((ng_ hg BK172.out : gb175 ≠ gb172)); replace BK172 := a0_ (bb_ BK172.out hb); clear hb hbox hg; have hnb57 := NB175_172.out; have hnc57 := NB172_175.out; obtain ⟨hcz58_0, hcz58_1, hfz58_0, hfz58_1⟩ := bc2_ BK175.out; obtain ⟨hcz59_0, hcz59_1, hfz59_0, hfz59_1⟩ := bc2_ BK172.out) | ((with_reducible refine gate_callee (f := 64) rfl ?_); refine goesL_ (some 51) rfl rfl Tryz.func64 kr_ rfl #[.slice (some ad171) l0.length c0, .agg #[.int .i64 (wrap64 (((rd_T56 l0 (rd x3_1 x5_1)).f0) + t173)), .int .i64 (wrap64 (((rd_T56 l0 (rd x3_1 x5_1)).f1) + t174))]] rfl ta_ ?_; (with_reducible refine (spec_l02Index.calls k2 _ _ l0 (wrap64 (((rd_T56 l0 (rd x3_1 x5_1)).f0) + t173)) (wrap64 (((rd_T56 l0 (rd x3_1 x5_1)).f1) + t174)) t176 _ ?side1 ?side2 A23.out).mono ?_); (case side1 => exact Kd.C_below HR0.out (bl2_ GE172.out GE175.out)); (case side2 => exact HC0.out); rintro e w60 ⟨rfl, hb⟩; refine ⟨_, rfl, ?_⟩; replace HO_3 := a0_ (Kd.R_below (by (with_reducible repeat (first | apply Kd.R_alloc | apply Kd.R_drewN | apply Kd.R_drew)); exact (Kd.R_mono (Kd.R_far (p := ⟨gb175, 1, none⟩) (Kd.R_far (p := ⟨gb175, 0, none⟩) (Kd.R_types HO_3.out BK175.out (by decide)) (fun _ hk => hk.2) (.int .i64 t173)) (fun _ hk => hk.2) (.int .i64 t174)) (fun _ h_ => h_.1))) hb); replace HO_4 := a0_ (Kd.R_below (by (with_reducible repeat (first | apply Kd.R_alloc | apply Kd.R_drewN | apply Kd.R_drew)); exact (Kd.R_mono (Kd.R_far (p := ⟨gb175, 1, none⟩) (Kd.R_far (p := ⟨gb175, 0, none⟩) (Kd.R_types HO_4.out BK175.out (by decide)) (fun _ hk => hk.2) (.int .i64 t173)) (fun _ hk => hk.2) (.int .i64 t174)) (fun _ h_ => h_.1))) hb); replace BK172 := a0_ (blk_below (g := gb172) (o := .cells #[.int .i64 ((rd_T56 l0 (rd x3_1 x5_1)).f0), .int .i64 ((rd_T56 l0 (rd x3_1 x5_1)).f1)] 56 (0, 0)) (bf_ BK172.out NB172_175.out) hb); replace BK175 := a0_ (blk_below (g := gb175) (o := .cells #[.int .i64 t173, .int .i64 t174] 56 (0, 0)) (by (with_reducible repeat (first | refine blk_drewN ?_ _ | refine blk_drew ?_ | refine blk_alloc ?_ _)); refine blk_put (cs := #[.int .i64 t173, .int .i64 0]) ?_ 1 _ rfl; (with_reducible repeat (first | refine blk_drewN ?_ _ | refine blk_drew ?_ | refine blk_alloc ?_ _)); refine blk_put (cs := #[.int .i64 0, .int .i64 0]) ?_ 0 _ rfl; (with_reducible repeat (first | refine blk_drewN ?_ _ | refine blk_drew ?_ | refine blk_alloc ?_ _)); exact BK175.out) hb); replace HB := a0_ (below_step (bl2_ GE172.out GE175.out) hb); (try clear hb)))
               (try simp only [← hl4_2])
               go_roundg k2
               case measure => have := HK1.out; have := HK2.out; omega
               case rel => exact ⟨(x3_2), (x4_2), (wrap64 (x7_2 + 1)), rs_, H', ⟨by have := HK1.out; have := HK2.out; omega⟩, ⟨by (try simp only [hl4_1]); (try simp only [hl4_2]); (with_reducible repeat (first | apply Kd.R_alloc | apply Kd.R_drewN | apply Kd.R_drew)); exact HO_3.out⟩, ⟨by (try simp only [hl4_1]); (try simp only [hl4_2]); (with_reducible repeat (first | apply Kd.R_alloc | apply Kd.R_drewN | apply Kd.R_drew)); exact HO_4.out⟩, ⟨by (try simp only [hl4_1]); (try simp only [hl4_2]); (with_reducible repeat (first | refine blk_drewN ?_ _ | refine blk_drew ?_ | refine blk_alloc ?_ _)); exact BK172.out⟩, ⟨bl2_ GE172.out GE175.out⟩⟩
             ·rw [if_neg c20] at H
              exact absurd H (by simp)
            ·rw [if_neg c19] at H
             have c19b0 : decide (x7_2 < 4) = false := decide_eq_false c19
             clear c19
             have H' := Aside0.mk H
             clear H
             go_wp2
             (try simp only [← hl4_1, ← hl4_2])
             go_roundg k2
             case measure => have := HK1.out; have := HK2.out; omega
             case rel => exact ⟨(x3_2), (x4_2), (wrap64 (x5_1 + 1)), rs_, H', ⟨by have := HK1.out; have := HK2.out; omega⟩, ⟨by (try simp only [hl4_1]); (try simp only [hl4_2]); (with_reducible repeat (first | apply Kd.R_alloc | apply Kd.R_drewN | apply Kd.R_drew)); exact HO_3.out⟩, ⟨by (try simp only [hl4_1]); (try simp only [hl4_2]); (with_reducible repeat (first | apply Kd.R_alloc | apply Kd.R_drewN | apply Kd.R_drew)); exact HO_4.out⟩, ⟨bl1_ GE172.out⟩⟩
         ·rw [if_neg c15] at H
          exact absurd H (by simp)
        ·rw [if_neg c14] at H
         exact absurd H (by simp)
       ·rw [if_neg c13] at H
        exact absurd H (by simp)
      ·rw [if_neg c12] at H
       have c12b0 : decide (x5_1 < (x3_1.length : Int)) = false := decide_eq_false c12
       clear c12
       obtain ⟨y187, hy187⟩ : ∃ y_ : List Int, y_ = (([] : List Int)) := ⟨_, rfl⟩
       replace H : (spec_l32Faces.l2 k1 x4_1 y187 0) = some r := hh_ hy187 H
       have Ny187 := Aside0.mk hy187
       clear hy187
       have H' := Aside0.mk H
       clear H
       obtain ⟨Ao61, co61, eo61⟩ := Kd.R_slice HO_3.out
       subst eo61
       go_wp2_with (first | ((with_reducible refine gate_dst (N := 77) rfl ?_); refine Kd.R_lit (Kd.int .i64) _ 2 ?hg (N := 77) ?hd (xs := ([] : List Int)) (inner := []) (ok := fun _ => True) (okp := fun _ => True) ?hr ?hp (fun _ hk => hk) trivial (Below.refl _ _) (Nat.le_refl _) (by simp) ?_; (case hd => rfl); (case hg => rfl); (case hr => first | (go_simp; done) | (go_simp; rfl)); (case hp => exact (Reps.none _ _)); intro v188 w62 ho63 hb hg_ hnew_; clear hg_ hnew_; (first | rw [← Ny187.out] at ho63 | (simp only [Int.reduceToNat] at ho63; rw [← Ny187.out] at ho63)); replace HO_4 := a0_ (Kd.R_below (ra_ HO_4.out) hb); have HO189 := a0_ (Kd.R_lower (Kd.R_new' ho63 (Kd.R_lt (ra_ HO_3.out))) (below_size (bl0_))); replace HO_3 := a0_ (Kd.R_elder' (ra_ HO_3.out) (Kd.R_base ho63) hb); replace HB := a0_ (below_step (bl0_) hb); clear hb ho63))
       go_loopg [10, 11] k1 (fun kq v10 v11 w' => ∃ (x10_2 : List Int) (x11_2 : Int), v11 = .int .i64 x11_2 ∧ Aside0 (spec_l32Faces.l2 kq x4_1 x10_2 x11_2 = some r) ∧ Aside0 (kq ≤ k1) ∧ Aside0 (Kd.R k86 86 w' w.heap.size (fun _ => True) (.slice (some ⟨go5, 0, none⟩) x4_1.length co5) x4_1) ∧ Aside0 (Kd.R (Kd.int .i64) 2 w' w.heap.size (fun _ => True) v10 x10_2) ∧ Aside0 (Below w.heap.size w w'))
       case atStart => exact ⟨(y187), (0), rs_, H', ⟨Nat.le_refl _⟩, ⟨by (try simp only [hl4_1]); (with_reducible repeat (first | apply Kd.R_alloc | apply Kd.R_drewN | apply Kd.R_drew)); exact HO_4.out⟩, ⟨by (try simp only [hl4_1]); (with_reducible repeat (first | apply Kd.R_alloc | apply Kd.R_drewN | apply Kd.R_drew)); exact Kd.R_mono HO189.out (fun _ hk => trivial)⟩, ⟨bl0_⟩⟩
       case round =>
        clear H'
        try clear c12b0
        obtain ⟨x10_2, x11_2, rfl, HA, HK2, HO_4, HO_10, HB⟩ := hrel
        cases gk with
        | zero => exact absurd HA.out (by simp [spec_l32Faces.l2])
        | succ k2 =>
         have H := HA.out
         clear HA
         simp only [spec_l32Faces.l2] at H
         by_cases c64 : x11_2 < (x4_1.length : Int)
         ·rw [if_pos c64] at H
          have c64b0 : decide (x11_2 < (x4_1.length : Int)) = true := decide_eq_true c64
          clear c64
          by_cases c65 : 0 ≤ x11_2
          ·rw [if_pos c65] at H
           have c65b0 : decide (0 ≤ x11_2) = true := decide_eq_true c65
           clear c65
           by_cases c66 : x10_2.length < 17592186044416
           ·rw [if_pos c66] at H
            have LMc66 := Aside0.mk c66
            clear c66
            obtain ⟨y191, hy191⟩ : ∃ y_ : List Int, y_ = (x10_2 ++ [(rd_T86 x4_1 x11_2).f0]) := ⟨_, rfl⟩
            replace H : (spec_l32Faces.l2 k2 x4_1 y191 (wrap64 (x11_2 + 1))) = some r := hh_ hy191 H
            have Ny191 := Aside0.mk hy191
            clear hy191
            have H' := Aside0.mk H
            clear H
            have p190 : 0 ≤ (x11_2 : Int) := od_
            have q190 : x11_2 < (x4_1.length : Int) := od_
            obtain ⟨ad190, e190, hx190_0, hx190_1, hx190_2⟩ := at_T86 (Kd.R_reads' HO_4.out).2.2 x11_2 p190 q190
            obtain rfl : (⟨go5, 0, none⟩ : Addr) = ad190 := (by injection e190)
            (first | simp only [add_plain] at hx190_0 | simp only [add_at] at hx190_0 | simp only [Addr.add, Nat.zero_add] at hx190_0 | skip)
            (first | simp only [add_plain] at hx190_1 | simp only [add_at] at hx190_1 | simp only [Addr.add, Nat.zero_add] at hx190_1 | skip)
            (first | simp only [add_plain] at hx190_2 | simp only [add_at] at hx190_2 | simp only [Addr.add, Nat.zero_add] at hx190_2 | skip)
            replace p190 := eq_true p190
            replace q190 := eq_true q190
            go_wp2_with (first | ((with_reducible refine gate_builtin (b := .append) (xs := #[.tmp 84, .tmp 90]) rfl ?_); at_builtin; refine Kd.R_append (Kd.int .i64) (w0 := w) w.heap.size rfl (.tmp 84) (.tmp 90) 48 2 (.int .i64 0) 8 rfl Tryz.underlying48 info2 rfl (by decide) (by omega) u10 x10_2 ((rd_T86 x4_1 x11_2).f0) [.int .i64 ((rd_T86 x4_1 x11_2).f0)] (fun _ => True) (fun _ => False) rfl rfl ?aP (fun _ hk => hk.elim) ?aF ?aO ?aB ?aS ?aL ?_; (case aP => exact rfl); (case aB => exact (bl0_)); (case aF => exact (fun _ _ => trivial)); (case aO => exact (ra_ HO_10.out)); (case aS => exact (below_size (bl0_))); (case aL => have := LMc66.out; omega); intro v192 w67 ho hb hg hat; rw [← Ny191.out] at ho; replace HO_4 := a0_ (Kd.R_over' (ra_ HO_4.out) (Kd.R_typed (ra_ HO_10.out)) (by decide) hg); replace HB := a0_ (hb); have HO193 := a0_ (ho); clear HO_10; clear ho hb hg hat))
            go_roundg k2
            case measure => have := HK1.out; have := HK2.out; omega
            case rel => exact ⟨(y191), (wrap64 (x11_2 + 1)), rs_, H', ⟨by have := HK1.out; have := HK2.out; omega⟩, ⟨by (try simp only [hl4_1]); (with_reducible repeat (first | apply Kd.R_alloc | apply Kd.R_drewN | apply Kd.R_drew)); exact HO_4.out⟩, ⟨by (try simp only [hl4_1]); (with_reducible repeat (first | apply Kd.R_alloc | apply Kd.R_drewN | apply Kd.R_drew)); exact HO193.out⟩, ⟨bl0_⟩⟩
           ·rw [if_neg c66] at H
            exact absurd H (by simp)
          ·rw [if_neg c65] at H
           exact absurd H (by simp)
         ·rw [if_neg c64] at H
          have c64b0 : decide (x11_2 < (x4_1.length : Int)) = false := decide_eq_false c64
          clear c64
          obtain rfl := Option.some.inj H
          go_wp2
          go_ret
          exact ⟨_, er_, ra_ HO_10.out, bl0_⟩
   ·rw [if_neg c4] at H
    exact absurd H (by simp)
  ·rw [if_neg c3] at H
   exact absurd H (by simp)
 ·rw [if_neg c2] at H
  exact absurd H (by simp)
end Go.Proofs.YtmdjkmfocgelnaaGreatDoor.PFnAllNets
