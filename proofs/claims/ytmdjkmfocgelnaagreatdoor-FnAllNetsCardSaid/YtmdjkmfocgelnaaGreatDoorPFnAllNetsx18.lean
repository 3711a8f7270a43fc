/- Over the kit's printer by a driver of mine (hprint.py), with parts by hand: functions of the program as Lean functions, and that each call comes to exactly these answers. -/
import Derived.Test.YtmdjkmfocgelnaaGreatDoorPFnAllNetsx0
import Derived.Test.YtmdjkmfocgelnaaGreatDoorPFnAllNetsx1
import Derived.Test.YtmdjkmfocgelnaaGreatDoorPFnAllNetsx14
import Derived.Test.YtmdjkmfocgelnaaGreatDoorPFnAllNetsx15
import Derived.Test.YtmdjkmfocgelnaaGreatDoorPFnAllNetsx16
import Derived.Test.YtmdjkmfocgelnaaGreatDoorPFnAllNetsx17
namespace Go.Proofs.YtmdjkmfocgelnaaGreatDoor.PFnAllNets
open Go.RowKit Go.Proofs.YtmdjkmfocgelnaaGreatDoorW.PrintWords Go.Proofs.YtmdjkmfocgelnaaGreatDoorW.PrintLast Go.Proofs.YtmdjkmfocgelnaaGreatDoorW.PrintMore
attribute [local go_sem] max2_int min2_int max_two min_two max_three min_three max_four min_four   
set_option linter.unusedVariables false
set_option linter.unusedSimpArgs false
def eqC (x y : S56) : Bool := x.f0 == y.f0 && (x.f1 == y.f1)
theorem eqC_iff (x y : S56) : eqC x y = true ↔ x = y := by
 obtain ⟨a, b⟩ := x
 obtain ⟨c, d⟩ := y
 simp [eqC]
def dedCF (p : S56) : List S56 → List S56
 | [] => []
 | y :: r => if eqC y p = true then dedCF y r else y :: dedCF y r
def dedC : List S56 → List S56
 | [] => []
 | x :: r => x :: dedCF x r
theorem dedCF_snoc : ∀ (r : List S56) (p y : S56), dedCF p (r ++ [y]) = dedCF p r ++ (if eqC y (r.getLast?.getD p) = true then [] else [y])
 | [], p, y => by simp only [List.nil_append, dedCF]; rfl
 | x :: r, p, y => by
  rw [List.cons_append, dedCF, dedCF, dedCF_snoc r x y]
  have e : (x :: r).getLast?.getD p = r.getLast?.getD x := by
   cases r with
   | nil => rfl
   | cons z r => rw [List.getLast?_cons_cons]; simp [List.getLast?_cons]
  rw [e]
  by_cases c : eqC x p = true
  ·rw [if_pos c, if_pos c]
  ·rw [if_neg c, if_neg c, List.cons_append]
theorem dedC_take (L : List S56) (i : Nat) (h1 : 1 ≤ i) (hi : i < L.length) : dedC (L.take (i + 1)) = dedC (L.take i) ++ (if eqC L[i] (L[i - 1]'(by omega)) = true then [] else [L[i]]) := by
 cases L with
 | nil => simp at hi
 | cons x r =>
  obtain ⟨j, rfl⟩ : ∃ j, i = j + 1 := ⟨i - 1, by omega⟩
  have hj : j < r.length := by simpa using hi
  rw [List.take_succ_cons, List.take_succ_cons, dedC, dedC, List.take_succ_eq_append_getElem hj, dedCF_snoc, List.cons_append]
  have e : (r.take j).getLast?.getD x = ((x :: r)[j + 1 - 1]'(by simp; omega)) := by
   cases j with
   | zero => rfl
   | succ j =>
    rw [List.take_succ_eq_append_getElem (by omega : j < r.length), List.getLast?_append]
    rfl
  rw [e]
  rfl
theorem dedC_one (L : List S56) (h : L.length ≤ 1) : dedC L = L := by
 cases L with
 | nil => rfl
 | cons x r => cases r with
  | nil => rfl
  | cons y r => simp at h
def flC (X : List S56) : List Value := X.flatMap encC
theorem flC_len : ∀ X : List S56, (flC X).length = X.length * 2
 | [] => rfl
 | x :: r => by
  have := flC_len r
  show (encC x ++ flC r).length = _
  rw [List.length_append, this]
  simp [encC]
  omega
theorem flC_get : ∀ (X : List S56) (j : Nat) (h : j < X.length), (flC X)[j * 2]? = some (.int .i64 X[j].f0) ∧ (flC X)[j * 2 + 1]? = some (.int .i64 X[j].f1)
 | [], j, h => by simp at h
 | x :: r, 0, _ => ⟨rfl, rfl⟩
 | x :: r, j + 1, h => by
  have := flC_get r j (by simpa using h)
  rw [show (j + 1) * 2 = j * 2 + 2 by omega]
  exact this
theorem flC_set : ∀ (X : List S56) (j : Nat) (y : S56), ((flC X).set (j * 2) (.int .i64 y.f0)).set (j * 2 + 1) (.int .i64 y.f1) = flC (X.set j y)
 | [], j, y => by simp [flC]
 | x :: r, 0, y => rfl
 | x :: r, j + 1, y => by
  have := flC_set r j y
  rw [show (j + 1) * 2 = j * 2 + 2 by omega]
  show encC x ++ ((flC r).set (j * 2) (.int .i64 y.f0)).set (j * 2 + 1) (.int .i64 y.f1) = _
  rw [this]
  rfl
theorem flC_append (X Y : List S56) : flC (X ++ Y) = flC X ++ flC Y := by simp [flC]
theorem flC_reps (X : List S56) (inner : List Value) (h : Reps (fun x cs => cs = encC x) 2 X inner) : inner = flC X := by
 refine List.ext_getElem? (fun t => ?_)
 by_cases ht : t < X.length * 2
 ·have hj : t / 2 < X.length := by omega
  have e1 := h.2 (t / 2) _ (List.getElem?_eq_getElem hj)
  have e2 : ((inner.drop (t / 2 * 2)).take 2)[t % 2]? = (encC X[t / 2])[t % 2]? := by rw [e1]
  rw [List.getElem?_take_of_lt (by omega), List.getElem?_drop, show t / 2 * 2 + t % 2 = t by omega] at e2
  rw [e2]
  have g := flC_get X (t / 2) hj
  rcases (by omega : t % 2 = 0 ∨ t % 2 = 1) with e | e
  ·rw [e]
   rw [show t / 2 * 2 = t by omega] at g
   rw [g.1]
   rfl
  ·rw [e]
   rw [show t / 2 * 2 + 1 = t by omega] at g
   rw [g.2]
   rfl
 ·rw [List.getElem?_eq_none (by rw [h.1]; omega), List.getElem?_eq_none (by rw [flC_len]; omega)]
theorem reps_flC (X : List S56) : Reps (fun x cs => cs = encC x) 2 X (flC X) := by
 refine ⟨flC_len X, fun j p hj => ?_⟩
 have hl := (List.getElem?_eq_some_iff.1 hj).1
 have hp := (List.getElem?_eq_some_iff.1 hj).2
 have g := flC_get X j hl
 rw [hp] at g
 refine List.ext_getElem? (fun i => ?_)
 rcases (by omega : i = 0 ∨ i = 1 ∨ 2 ≤ i) with e | e | e
 ·subst e; rw [List.getElem?_take_of_lt (by omega), List.getElem?_drop, Nat.add_zero, g.1]; rfl
 ·subst e; rw [List.getElem?_take_of_lt (by omega), List.getElem?_drop, g.2]; rfl
 ·rw [List.getElem?_eq_none (by rw [List.length_take]; omega), List.getElem?_eq_none (by simp [encC]; omega)]
theorem R_blkC {base : Nat} {ok : Nat → Prop} {w : World} {g n cap : Nat} {L : List S56} (h : Kd.R k56 56 w base ok (.slice (some ⟨g, 0, none⟩) n cap) L) :
  n = L.length ∧ base ≤ g ∧ ok g ∧ cap ≤ maxLen ∧ n ≤ cap ∧ ∃ tail, tail.length + n * 2 = cap * 2 ∧ w.heap[g]? = some (.cells (flC L ++ tail).toArray 56 (0, 0)) := by
 obtain ⟨hok, inner, ⟨o1, o2⟩, reps⟩ := h
 have hin : inner = flC L := flC_reps L inner (reps.imp_ (fun p c hc => k56_openM hc))
 rcases o2 with ⟨e, _⟩ | ⟨g', cap', cur, hv, hb, hh, hn, hc, hcs, ht⟩
 ·cases e
 ·cases hv
  have ht' : cur.toList.take (L.length * 2) = inner := ht
  have hcs' : cur.size = cap * 2 := hcs
  refine ⟨rfl, hb, hok g (by simp [Value.ownBlock]), hc, hn, cur.toList.drop (L.length * 2), ?_, ?_⟩
  ·rw [List.length_drop, Array.length_toList, hcs']; omega
  ·rw [← hin, ← ht', List.take_append_drop, Array.toArray_toList]
   exact hh
theorem blkC_R {base : Nat} {ok : Nat → Prop} {w : World} {g cap : Nat} {L : List S56} {tail : List Value} (hb : base ≤ g) (ho : ok g) (hc : cap ≤ maxLen) (ht : tail.length + L.length * 2 = cap * 2) (hh : w.heap[g]? = some (.cells (flC L ++ tail).toArray 56 (0, 0))) :
  Kd.R k56 56 w base ok (.slice (some ⟨g, 0, none⟩) L.length cap) L := by
 refine ⟨fun k hk => ?_, flC L, ⟨?_, .inr ⟨g, cap, _, rfl, hb, hh, by omega, hc, ?_, ?_⟩⟩, (reps_flC L).imp_ (fun p c hc => by rw [hc]; exact k56_mkM _ _ _ p)⟩
 ·have : g = k := by simpa [Value.ownBlock] using hk
  rw [← this]; exact ho
 ·exact flC_len L
 ·show (flC L ++ tail).toArray.size = cap * 2
  simp [flC_len]; omega
 ·show (flC L ++ tail).toArray.toList.take (L.length * 2) = flC L
  simp [← flC_len]
theorem flC_cell {w : World} {g t : Nat} {X : List S56} {tail : List Value} (h : w.heap[g]? = some (.cells (flC X ++ tail).toArray t (0, 0))) (j : Nat) (hj : j < X.length) :
  w.cell? ⟨g, j * 2, none⟩ = some (.int .i64 X[j].f0) ∧ w.cell? ⟨g, j * 2 + 1, none⟩ = some (.int .i64 X[j].f1) := by
 have g1 := flC_get X j hj
 have hl := flC_len X
 constructor
 ·rw [blk_cell h, List.getElem?_toArray, List.getElem?_append_left (by omega)]; exact g1.1
 ·rw [blk_cell h, List.getElem?_toArray, List.getElem?_append_left (by omega)]; exact g1.2
theorem flC_put {w : World} {g t : Nat} {X : List S56} {tail : List Value} (h : w.heap[g]? = some (.cells (flC X ++ tail).toArray t (0, 0))) (j : Nat) (hj : j < X.length) (y : S56) :
  ((w.setCell ⟨g, j * 2, none⟩ (.int .i64 y.f0)).setCell ⟨g, j * 2 + 1, none⟩ (.int .i64 y.f1)).heap[g]? = some (.cells (flC (X.set j y) ++ tail).toArray t (0, 0)) := by
 have hl := flC_len X
 refine blk_put (cs := ((flC X).set (j * 2) (.int .i64 y.f0) ++ tail).toArray) ?_ (j * 2 + 1) _ ?_
 ·refine blk_put h (j * 2) _ ?_
  apply Array.toList_inj.1
  rw [Array.toList_setIfInBounds, List.set_append_left _ _ (by omega)]
 ·apply Array.toList_inj.1
  rw [Array.toList_setIfInBounds, List.set_append_left _ _ (by rw [List.length_set]; omega), flC_set]
theorem clearC (w : World) (ty : TypeId) (b o n c : Nat) (hn : 0 < n) (hc : ∀ j, j < n * 2 → (w.cell? ⟨b, o + j, none⟩).isSome = true) (hf : ∀ j, j < n * 2 → w.frozen? ⟨b, o + j, none⟩ = false) :
  (Builtin.clear_ #[29] ty #[.slice (some ⟨b, o, none⟩) n c]).run Tryz.prog w = .ok (.tuple #[]) (w.setCells b o (List.replicate (n * 2) (.int .i64 0))) := by
 have hv : (zeroValue 56).run Tryz.prog w = .ok (.agg #[.int .i64 0, .int .i64 0]) w := by kernel_rfl
 have hzc : (Builtin.zeroCells (Value.agg #[.int .i64 0, .int .i64 0]).cells n).toList = List.replicate (n * 2) (.int .i64 0) := by
  apply List.ext_getElem
  ·simp [Builtin.zeroCells, Value.cells]
  ·intro i h1 h2
   simp only [Builtin.zeroCells, Value.cells, List.getElem_replicate]
   have : i % 2 = 0 ∨ i % 2 = 1 := by omega
   rcases this with e | e <;> simp [e]
 have hst := run_storeCells_cells (P := Tryz.prog) b o (List.replicate (n * 2) (.int .i64 0)) 0 w (by simpa using hc) (by simpa using hf) (by intro v hv'; rw [List.eq_of_mem_replicate hv']; rfl)
 simp only [Nat.add_zero] at hst
 obtain ⟨m, rfl⟩ : ∃ m, n = m + 1 := ⟨n - 1, by omega⟩
 simp [Builtin.clear_, run_underlying Tryz.underlying29, hv, hzc, hst]
theorem neB (a b c d : Int) (v : Bool) (h : (a == b && (c == d)) = v) : (a != b || (c != d)) = !v := by subst h; simp [bne, Bool.not_and]
attribute [local go_sem high] eqA56
set_option maxHeartbeats 4000000 in
set_option maxRecDepth 100000 in
theorem compactC_calls (w : World) (base : Nat) (ok : Nat → Prop) (g cap : Nat) (L : List S56) (hR : Kd.R k56 56 w base ok (.slice (some ⟨g, 0, none⟩) L.length cap) L) :
  Calls Tryz.prog 101 #[.slice (some ⟨g, 0, none⟩) L.length cap] w fun e w' => e = .returned (.slice (some ⟨g, 0, none⟩) (dedC L).length cap) ∧ Kd.R k56 56 w' base ok (.slice (some ⟨g, 0, none⟩) (dedC L).length cap) (dedC L) ∧ ButB g w w' := by
 obtain ⟨_, hbg, hokg, hm, hlc, tail, htl, hblk⟩ := R_blkC hR
 have HR := Aside0.mk hR
 have HG := a0_ (And.intro hbg (And.intro hokg hm))
 have HC := a0_ (And.intro htl (And.intro hlc (show cap ≤ 9223372036854775807 from hm)))
 have HBK := Aside0.mk hblk
 clear hR hbg hokg hm hlc htl hblk
 by_cases h2 : L.length < 2
 ·have d0 : decide ((L.length : Int) < 2) = true := decide_eq_true (by omega)
  have d1 : decide (L.length < 2) = true := decide_eq_true h2
  have HK := a0_ (dedC_one L (by omega))
  clear h2
  go_enter Tryz.func101, Tryz.ntmps101
  go_wp2
  go_ret
  rw [HK.out]
  exact ⟨rfl, HR.out, ButB.refl _ _⟩
 ·have d0 : decide ((L.length : Int) < 2) = false := decide_eq_false (by omega)
  have d1 : decide (L.length < 2) = false := decide_eq_false h2
  have H2 := Aside0.mk h2
  clear h2
  go_enter Tryz.func101, Tryz.ntmps101
  go_wp2
  clear d0 d1
  go_loopg [3] L.length (fun kq v3 w' => ∃ k : Nat, v3 = .int .i64 k ∧ Aside0 (1 ≤ k ∧ k ≤ L.length ∧ L.length ≤ kq + k) ∧ Aside0 (dedC (L.take k) = L.take k) ∧ Aside0 (Below w.heap.size w w'))
  case atStart => exact ⟨1, rfl, ⟨by have := H2.out; omega⟩, ⟨dedC_one _ (by simp [List.length_take]; omega)⟩, ⟨Below.refl _ _⟩⟩
  case round =>
   obtain ⟨k, rfl, HK, HT, HB⟩ := hrel
   by_cases hk : k < L.length
   ·have hk1 := HK.out.1
    have d0 : decide ((k : Int) < (L.length : Int)) = true := decide_eq_true (by omega)
    have d1 : decide (k < L.length) = true := decide_eq_true hk
    have q0 : (0 ≤ (k : Int)) = True := eq_true (by omega)
    have q1 : ((k : Int) < (L.length : Int)) = True := eq_true (by omega)
    have q2 : (k < L.length) = True := eq_true hk
    have hw1 : wrap64 ((k : Int) - 1) = ((k - 1 : Nat) : Int) := by have := HC.out; unfold wrap64; omega
    have hw2 : wrap64 ((k : Int) + 1) = ((k + 1 : Nat) : Int) := by have := HC.out; unfold wrap64; omega
    have q3 : (0 ≤ ((k - 1 : Nat) : Int)) = True := eq_true (by omega)
    have q4 : (((k - 1 : Nat) : Int) < (L.length : Int)) = True := eq_true (by omega)
    have HW := a0_ (And.intro hw1 hw2)
    have hw3 : IntKind.i64.wrap ((k : Int) - 1) = ((k - 1 : Nat) : Int) := (i64_w _).trans hw1
    have hbk := blk_below HBK.out HB.out
    have hk0 : k - 1 < L.length := by omega
    have q5 : (k - 1 < L.length) = True := eq_true hk0
    have q6 : decide (k - 1 < L.length) = true := decide_eq_true hk0
    have q7 : decide (0 ≤ ((k - 1 : Nat) : Int)) = true := decide_eq_true (by omega)
    obtain ⟨x0, x1⟩ := flC_cell hbk k hk
    obtain ⟨y0, y1⟩ := flC_cell hbk (k - 1) hk0
    have hkt := dedC_take L k hk1 hk
    have HKN := Aside0.mk hk
    clear hbk
    generalize hPe : L[k] = P at x0 x1 hkt
    generalize L[k - 1]'hk0 = O at y0 y1 hkt
    cases hz : eqC P O with
    | true =>
     have hz1 : (P.f0 == O.f0 && (P.f1 == O.f1)) = true := hz
     rw [hz, if_pos rfl, List.append_nil, HT.out] at hkt
     have HKT := Aside0.mk hkt
     clear hkt hz hk d0 d1 hPe
     have hkn : k ≤ L.length := by omega
     have g0 : (0 : Int) ≤ (k : Int) := by omega
     have g1 : (k : Int) ≤ (L.length : Int) := by omega
     have g2 : L.length ≤ cap := by have := HC.out; omega
     have g3 : k ≤ cap := by have := HC.out; omega
     have g4 : ¬ cap = k := by have := HC.out; have := HKN.out; omega
     have d0 : decide ((k : Int) < (L.length : Int)) = true := decide_eq_true (by have := HKN.out; omega)
     have d1 : decide (k < L.length) = true := decide_eq_true HKN.out
     go_wp2
     repeat (go_quiet (fail); try go_wp2)
     clear x0 x1 y0 y1 q0 q1 q2 q3 q4 q5 q6 q7 hw1 hw2 hw3 d0 d1 g0 g1 g4 hz1 hk0
     have R0 : Aside0 ((wr.drewN nq).heap[g]? = some (.cells (flC L ++ tail).toArray 56 (0, 0))) := ⟨blk_below HBK.out (pw_below_drewN HB.out _)⟩
     have B0 : Aside0 (ButB g w (wr.drewN nq)) := ⟨(ButB.refl g w).below (pw_below_drewN HB.out _)⟩
     go_loopg [3, 5] L.length (fun kq v3 v5 w' => ∃ (kk m : Nat) (X : List S56), v3 = .int .i64 kk ∧ v5 = .int .i64 m ∧ Aside0 ((1 ≤ m ∧ k + m ≤ L.length ∧ L.length ≤ kq + m) ∧ kk = (dedC (L.take (k + m))).length ∧ kk < k + m) ∧ Aside0 (X.length = L.length ∧ (∀ j, j < kk → X[j]? = (dedC (L.take (k + m)))[j]?) ∧ ∀ j, k + m - 1 ≤ j → X[j]? = L[j]?) ∧ Aside0 (w'.heap[g]? = some (.cells (flC X ++ tail).toArray 56 (0, 0))) ∧ Aside0 (ButB g w w'))
     case atStart =>
      refine ⟨k, 1, L, rfl, rfl, ⟨?_⟩, ⟨rfl, fun j hj => ?_, fun j _ => rfl⟩, R0, B0⟩
      ·rw [HKT.out, List.length_take]
       have := HKN.out
       omega
      ·rw [HKT.out, List.getElem?_take_of_lt hj]
     case round =>
      clear R0 B0
      obtain ⟨kk, m, X, rfl, rfl, HI, HX, HW2, HBB⟩ := hrel
      by_cases hm : k + m < L.length
      ·have hm1 := HI.out.1.1
       have d0 : decide ((m : Int) < ((L.length - k : Nat) : Int)) = true := decide_eq_true (by omega)
       have d1 : decide (m < L.length - k) = true := decide_eq_true (by omega)
       have q0 : (0 ≤ (m : Int)) = True := eq_true (by omega)
       have q1 : ((m : Int) < ((L.length - k : Nat) : Int)) = True := eq_true (by omega)
       have q2 : (m < L.length - k) = True := eq_true (by omega)
       have hw1 : wrap64 ((m : Int) - 1) = ((m - 1 : Nat) : Int) := by have := HC.out; unfold wrap64; omega
       have hw2 : wrap64 ((m : Int) + 1) = ((m + 1 : Nat) : Int) := by have := HC.out; unfold wrap64; omega
       have hw3 : IntKind.i64.wrap ((m : Int) - 1) = ((m - 1 : Nat) : Int) := (i64_w _).trans hw1
       have hw4 : wrap64 ((kk : Int) + 1) = ((kk + 1 : Nat) : Int) := by have := HC.out; have := HI.out.2.2; unfold wrap64; omega
       have q3 : (0 ≤ ((m - 1 : Nat) : Int)) = True := eq_true (by omega)
       have q4 : (((m - 1 : Nat) : Int) < ((L.length - k : Nat) : Int)) = True := eq_true (by omega)
       have q5 : (m - 1 < L.length - k) = True := eq_true (by omega)
       have HW := a0_ (And.intro hw2 hw4)
       have hk0 : k + m - 1 < L.length := by omega
       have hx1 : k + m < X.length := by have := HX.out.1; omega
       have hx0 : k + (m - 1) < X.length := by omega
       obtain ⟨x0, x1⟩ := flC_cell HW2.out (k + m) hx1
       obtain ⟨y0, y1⟩ := flC_cell HW2.out (k + (m - 1)) hx0
       have ex : X[k + m] = L[k + m] := by have := HX.out.2.2 (k + m) (by omega); rw [List.getElem?_eq_getElem hx1, List.getElem?_eq_getElem hm] at this; exact Option.some.inj this
       have ey : X[k + (m - 1)] = L[k + m - 1]'hk0 := by have := HX.out.2.2 (k + (m - 1)) (by omega); rw [List.getElem?_eq_getElem hx0, List.getElem?_eq_getElem (by omega : k + (m - 1) < L.length)] at this; rw [Option.some.inj this]; congr 1; omega
       rw [ex] at x0 x1
       rw [ey] at y0 y1
       rw [show (k + m) * 2 = k * 2 + m * 2 by omega] at x0 x1
       rw [show (k + (m - 1)) * 2 = k * 2 + (m - 1) * 2 by omega] at y0 y1
       have hkt := dedC_take L (k + m) (by omega) hm
       have HM := Aside0.mk hm
       clear ex ey hx0
       generalize L[k + m] = P at x0 x1 hkt
       generalize L[k + m - 1]'hk0 = O at y0 y1 hkt
       cases hz : eqC P O with
       | true =>
        have hz1 : (P.f0 == O.f0 && (P.f1 == O.f1)) = true := hz
        have hz2 : (P.f0 != O.f0 || (P.f1 != O.f1)) = false := neB _ _ _ _ _ hz1
        rw [hz, if_pos rfl, List.append_nil] at hkt
        have HKT2 := Aside0.mk hkt
        clear hkt hz hm hx1
        go_wp2
        repeat (go_quiet (fail); try go_wp2)
        go_roundg (L.length - (m + 1))
        case measure => (have := HI.out.1; have := HM.out; omega)
        case rel => exact ⟨kk, m + 1, X, rfl, congrArg (Value.int .i64) HW.out.1, ⟨by have := HI.out.1; have := HM.out; omega, by rw [← Nat.add_assoc, HKT2.out]; exact HI.out.2.1, by have := HI.out.2.2; omega⟩, ⟨HX.out.1, fun j hj => by rw [← Nat.add_assoc, HKT2.out]; exact HX.out.2.1 j hj, fun j hj => HX.out.2.2 j (by omega)⟩, ⟨blk_below HW2.out (pw_below_drewN (Below.refl _ _) _)⟩, ⟨HBB.out.below (pw_below_drewN (Below.refl _ _) _)⟩⟩
       | false =>
        have hz1 : (P.f0 == O.f0 && (P.f1 == O.f1)) = false := hz
        have hz2 : (P.f0 != O.f0 || (P.f1 != O.f1)) = true := neB _ _ _ _ _ hz1
        rw [hz, if_neg (by simp)] at hkt
        have hkk : kk < X.length := by have := HI.out.2.2; omega
        obtain ⟨z0, z1⟩ := flC_cell HW2.out kk hkk
        generalize (X[kk]'hkk).f0 = ox at z0
        generalize (X[kk]'hkk).f1 = oy at z1
        have f0 : wr.frozen? ⟨g, kk * 2, none⟩ = false := blk_frozen HW2.out _
        have f1 : wr.frozen? ⟨g, kk * 2 + 1, none⟩ = false := blk_frozen HW2.out _
        have HKT2 := Aside0.mk hkt
        have HKX := Aside0.mk hkk
        have u0 : (0 ≤ (kk : Int)) = True := eq_true (by omega)
        have u1 : ((kk : Int) < (L.length : Int)) = True := eq_true (by have := HX.out.1; omega)
        have u2 : (kk < L.length) = True := eq_true (by have := HX.out.1; omega)
        clear hkt hz hm hx1 hkk
        go_wp2
        repeat (go_quiet (fail); try go_wp2)
        go_roundg (L.length - (m + 1))
        case measure => (have := HI.out.1; have := HM.out; omega)
        case rel =>
         have hle := HKX.out
         have hlen := HX.out.1
         have hi := HI.out
         have hk2 : (dedC (L.take (k + (m + 1)))).length = kk + 1 := by rw [← Nat.add_assoc, HKT2.out, List.length_append, ← hi.2.1]; rfl
         refine ⟨kk + 1, m + 1, X.set kk P, congrArg (Value.int .i64) HW.out.2, congrArg (Value.int .i64) HW.out.1, ⟨by have := HM.out; omega, hk2.symm, by omega⟩, ⟨by rw [List.length_set]; exact hlen, fun j hj => ?_, fun j hj => ?_⟩, ⟨flC_put (blk_below HW2.out (pw_below_drewN (Below.refl _ _) _)) kk hle P⟩, ⟨((HBB.out.below (pw_below_drewN (Below.refl _ _) _)).set _ _).set _ _⟩⟩
         ·rw [← Nat.add_assoc, HKT2.out]
          by_cases e : j = kk
          ·subst e
           rw [List.getElem?_set_self hle, List.getElem?_append_right (by omega), hi.2.1, Nat.sub_self]
           rfl
          ·rw [List.getElem?_set_ne (by omega), HX.out.2.1 j (by omega), List.getElem?_append_left (by omega)]
         ·rw [List.getElem?_set_ne (by omega)]
          exact HX.out.2.2 j (by omega)
      ·have hend : k + m = L.length := by have := HI.out.1; omega
       have hlt := HI.out.2.2
       have hkl := HI.out.2.1
       rw [hend, List.take_length] at hkl
       have hcc := HC.out
       have d0 : decide ((m : Int) < ((L.length - k : Nat) : Int)) = false := decide_eq_false (by omega)
       have d1 : decide (m < L.length - k) = false := decide_eq_false (by omega)
       have g0 : (0 : Int) ≤ (kk : Int) := by omega
       have g1 : (kk : Int) ≤ (L.length : Int) := by omega
       have g4 : ¬ cap = kk := by omega
       have g5 : kk ≤ L.length := by omega
       have g6 : kk ≤ cap := by omega
       have hXl := HX.out.1
       have hfl := flC_len X
       have hcl : ∀ ty, (Builtin.clear_ #[29] ty #[.slice (some ⟨g, kk * 2, none⟩) (L.length - kk) (cap - kk)]).run Tryz.prog wr = .ok (.tuple #[]) (wr.setCells g (kk * 2) (List.replicate ((L.length - kk) * 2) (.int .i64 0))) := fun ty =>
        clearC wr ty g (kk * 2) _ _ (by omega) (fun j hj => by
         rw [blk_cell HW2.out, List.getElem?_toArray, List.getElem?_append_left (by omega), List.getElem?_eq_getElem (by omega)]
         rfl) (fun j hj => blk_frozen HW2.out _)
       have hkp : X.take kk = dedC L := by
        refine List.ext_getElem? (fun j => ?_)
        by_cases hj : j < kk
        ·have := HX.out.2.1 j hj
         rw [hend, List.take_length] at this
         rw [List.getElem?_take_of_lt hj, this]
        ·rw [List.getElem?_eq_none (by simp; omega), List.getElem?_eq_none (by omega)]
       have hblk : wr.heap[g]? = some (.cells (flC (X.take kk) ++ (flC (X.drop kk) ++ tail)).toArray 56 (0, 0)) := by rw [← List.append_assoc, ← flC_append, List.take_append_drop]; exact HW2.out
       have hset := setCells_blk g 56 (0, 0) (List.replicate ((L.length - kk) * 2) (.int .i64 0)) (flC (X.take kk)) (flC (X.drop kk)) tail wr (by rw [flC_len, List.length_drop, List.length_replicate, hXl]) hblk
       rw [show (flC (X.take kk)).length = kk * 2 by rw [flC_len, List.length_take, hXl]; omega, hkp] at hset
       have HSET := Aside0.mk hset
       have HSB := a0_ (setCells_but g (List.replicate ((L.length - kk) * 2) (.int .i64 0)) (kk * 2) wr w HBB.out)
       have HKL := Aside0.mk hkl
       have HLT := a0_ (show kk < L.length by omega)
       clear hset hkp hblk hkl hcc hend hlt hm hXl hfl
       go_wp2
       go_ret
       refine ⟨by rw [← HKL.out]; rfl, ?_, HSB.out⟩
       refine blkC_R HG.out.1 HG.out.2.1 HG.out.2.2 ?_ HSET.out
       rw [← HKL.out, List.length_append, List.length_replicate]
       have := HC.out.1
       have := HLT.out
       omega
    | false =>
     have hz1 : (P.f0 == O.f0 && (P.f1 == O.f1)) = false := hz
     rw [hz, if_neg (by simp), HT.out] at hkt
     have HKT : Aside0 (dedC (L.take (k + 1)) = L.take (k + 1)) := ⟨by rw [hkt, ← hPe, List.take_succ_eq_append_getElem HKN.out]⟩
     clear hkt hz hPe
     go_wp2
     repeat (go_quiet (fail); try go_wp2)
     go_roundg (L.length - (k + 1))
     case measure => (have := HK.out; have := HKN.out; omega)
     case rel => exact ⟨k + 1, congrArg (Value.int .i64) HW.out.2, ⟨by have := HK.out; have := HKN.out; omega⟩, HKT, ⟨pw_below_drewN HB.out _⟩⟩
   ·obtain rfl : k = L.length := by have := HK.out; omega
    have d0 : decide ((L.length : Int) < (L.length : Int)) = false := decide_eq_false (by omega)
    have d1 : decide (L.length < L.length) = false := decide_eq_false (by omega)
    have hks := HT.out
    rw [List.take_length] at hks
    have HKS := Aside0.mk hks
    clear hks hk
    go_wp2
    go_ret
    rw [HKS.out]
    exact ⟨rfl, Kd.R_below HR.out HB.out, (ButB.refl g w).below HB.out⟩
def hasC (l : List S56) (d : S56) : Bool := l.any (fun x => eqC d x)
theorem hasC_loop (l : List S56) (hl : l.length ≤ 4611686018427387904) (x : S56) (d : Nat) : ∀ i : Nat, i + d = l.length → ∃ r : Int, slices_Index_impl_Cell_impl_Cell.l0 (d + 1) l (l.length : Int) i x.f0 x.f1 = some r ∧ decide (r ≥ 0) = (l.drop i).any (fun y => eqC x y) := by
 induction d with
 | zero =>
  intro i hi
  refine ⟨-1, by rw [slices_Index_impl_Cell_impl_Cell.l0, if_neg (by omega)], ?_⟩
  rw [List.drop_of_length_le (by omega)]
  rfl
 | succ d ih =>
  intro i hi
  have e0 : rd_T56 l (i : Int) = l[i] := by show l.getD i _ = _; rw [List.getD_eq_getElem?_getD, List.getElem?_eq_getElem (by omega), Option.getD_some]
  rw [slices_Index_impl_Cell_impl_Cell.l0, if_pos (by omega), if_pos (by omega), if_pos (by omega), List.drop_eq_getElem_cons (by omega : i < l.length), List.any_cons, e0]
  by_cases e : eqC x l[i] = true
  ·rw [if_pos (show (x.f0 == l[i].f0 && (x.f1 == l[i].f1)) = true from e)]
   exact ⟨_, rfl, by rw [e]; simp⟩
  ·obtain ⟨r, h1, h2⟩ := ih (i + 1) (by omega)
   rw [if_neg (show ¬ (x.f0 == l[i].f0 && (x.f1 == l[i].f1)) = true from e), show wrap64 ((i : Int) + 1) = ((i + 1 : Nat) : Int) by unfold wrap64; omega]
   refine ⟨r, h1, ?_⟩
   rw [h2, show eqC x l[i] = false by simpa using e, Bool.false_or]
theorem hasC_some (l : List S56) (hl : l.length ≤ 4611686018427387904) (x : S56) : ∃ k, slices_Contains_impl_Cell_impl_Cell.f k l x.f0 x.f1 = some (hasC l x) := by
 obtain ⟨r, h1, h2⟩ := hasC_loop l hl x l.length 0 (by omega)
 refine ⟨l.length + 1, ?_⟩
 unfold slices_Contains_impl_Cell_impl_Cell.f slices_Index_impl_Cell_impl_Cell.f
 rw [show (0 : Int) = ((0 : Nat) : Int) from rfl, h1]
 exact congrArg some h2
structure NearOk (g : Nat) (N : S56 → List S56) : Prop where
 eg : ∀ args w, (callFunc g args).run Tryz.prog w = .ok (.enter g args) w
 calls : ∀ (c : S56) (W : World), Calls Tryz.prog g #[.agg #[.int .i64 c.f0, .int .i64 c.f1]] W fun e w' => ∃ v, e = .returned v ∧ Kd.R k56 56 w' W.heap.size (fun _ => True) v (N c) ∧ Below W.heap.size W w'
 len : ∀ c, (N c).length ≤ 1000
def nearF (N : S56 → List S56) (s : List S56) (c : S56) : List S56 := (N c).filter (fun d => !hasC s d)
def nearsL (N : S56 → List S56) (s : List S56) : List S56 := s.flatMap (nearF N s)
def besideL (N : S56 → List S56) (s : List S56) : List S56 := dedC (sortC (nearsL N s))
theorem infoCellB : (Tryz.prog.info? 56).map (fun i => (i.zero, i.size, i.bytes)) = some (some (.agg #[.int .i64 0, .int .i64 0]), 2, 16) := by kernel_rfl
theorem sortR_calls (w w1 : World) (l : List S56) (g cap : Nat) (hR : Kd.R k56 56 w1 w.heap.size (fun _ => True) (.slice (some ⟨g, 0, none⟩) l.length cap) l) (hb : Below w.heap.size w w1) (hl : l.length < 4611686018427387904) :
  Calls Tryz.prog 99 #[.slice (some ⟨g, 0, none⟩) l.length cap, .func (.func 80) #[] #[]] w1 fun e w' => e = .returned (.tuple #[]) ∧ Kd.R k56 56 w' w.heap.size (fun _ => True) (.slice (some ⟨g, 0, none⟩) (sortC l).length cap) (sortC l) ∧ Below w.heap.size w w' := by
 obtain ⟨_, inner, own, reps⟩ := hR
 have hin : inner = (Sort.flatK encC 2 l.toArray).toList := reps_flatK encC 2 (fun _ => rfl) (by omega) l.toArray inner (show Reps (fun x cs => cs = encC x) 2 l inner from reps.imp_ (fun p c hc => k56_openM hc))
 rw [hin] at own
 rw [show (sortC l).length = l.length from List.length_mergeSort _]
 exact sorted_rest w w1 l g cap own hb hl
set_option maxHeartbeats 4000000 in
set_option maxRecDepth 100000 in
theorem beside_calls (gn : Nat) (N : S56 → List S56) (hN : NearOk gn N) (A0 : Option Addr) (c0 : Nat) (s : List S56) (w : World) (hr0 : Kd.C k56 w A0 s.length s) (hc0 : s.length ≤ c0) (hs : s.length ≤ 100000) (hne : 0 < (nearsL N s).length) :
  Calls Tryz.prog 94 #[.slice A0 s.length c0, .func (.func gn) #[] #[]] w fun e w' => ∃ v, e = .returned v ∧ Kd.R k56 56 w' w.heap.size (fun _ => True) v (besideL N s) ∧ Below w.heap.size w w' := by
 have hu := Tryz.underlying56
 have eg := hN.eg
 have HN := Aside0.mk hN
 have HR0 := Aside0.mk hr0
 have HC0 := Aside0.mk hc0
 have HS := Aside0.mk hs
 have HNE := Aside0.mk hne
 clear hr0 hc0 hs hne hN
 go_enter Tryz.func94, Tryz.ntmps94
 go_wp2_with (first | ((with_reducible refine gate_dst (N := 10) rfl ?_); refine Kd.R_lit k56 _ 56 ?hg (N := 10) ?hd (xs := ([] : List S56)) (inner := []) (ok := fun _ => True) (okp := fun _ => True) ?hr ?hp (fun _ hk => hk) trivial (Below.refl _ _) (Nat.le_refl _) (by simp) ?_; (case hd => rfl); (case hg => rfl); (case hr => first | (go_simp; done) | (go_simp; rfl)); (case hp => exact (Reps.none _ _)); intro vl w3 ho hb _ _; have HO := a0_ (Kd.R_lower ho (Nat.le_refl _)); have HB := Aside0.mk hb; clear ho hb))
 go_loopg [5, 13] s.length (fun kq v5 v13 w' => ∃ (i : Nat) (out : List S56), v13 = .int .i64 i ∧ Aside0 (kq + i = s.length) ∧ Aside0 (out = (s.take i).flatMap (nearF N s) ∧ out.length ≤ i * 1000) ∧ Aside0 (Kd.R k56 56 w' w.heap.size (fun _ => True) v5 out) ∧ Aside0 (Below w.heap.size w w'))
 case atStart => exact ⟨0, [], rfl, ⟨by omega⟩, ⟨by simp⟩, HO, HB⟩
 case round =>
  clear HO HB
  obtain ⟨i, out, rfl, HI, HOUT, HO, HB⟩ := hrel
  by_cases hi : i < s.length
  ·have d0 : decide ((i : Int) < (s.length : Int)) = true := decide_eq_true (by omega)
   have d1 : decide (i < s.length) = true := decide_eq_true hi
   have q0 : (0 ≤ (i : Int)) = True := eq_true (by omega)
   have q1 : ((i : Int) < (s.length : Int)) = True := eq_true (by omega)
   have q2 : (i < s.length) = True := eq_true hi
   obtain ⟨ad0, e0, hx0, hx1⟩ := at_T56 HR0.out (i : Int) (by omega) (by omega)
   cases e0
   simp only [Int.toNat_natCast] at hx0 hx1
   replace hx0 := hc_ hx0
   replace hx1 := hc_ hx1
   have hc : rd_T56 s (i : Int) = s[i] := by show s.getD i _ = _; rw [List.getD_eq_getElem?_getD, List.getElem?_eq_getElem hi, Option.getD_some]
   have htk : (s.take (i + 1)).flatMap (nearF N s) = (s.take i).flatMap (nearF N s) ++ nearF N s (rd_T56 s (i : Int)) := by rw [List.take_succ_eq_append_getElem hi, List.flatMap_append, hc]; simp
   generalize rd_T56 s (i : Int) = c at hx0 hx1 htk
   have HTK := Aside0.mk htk
   have HIL := Aside0.mk hi
   clear hc htk hi
   have hn := fun W => HN.out.calls c W
   have B1 := a0_ (below_alloc HB.out (.cells #[.int .i64 c.f0, .int .i64 c.f1] 56))
   have O1 := a0_ (Kd.R_alloc HO.out (.cells #[.int .i64 c.f0, .int .i64 c.f1] 56))
   go_wp2_with (go_at_fn gn; (refine (hn _).mono ?_; rintro e w4 ⟨vd, rfl, hd, hb⟩; obtain ⟨Ad, cd, rfl⟩ := Kd.R_slice hd; have HD := a0_ (Kd.R_lower (Kd.R_new' hd (Kd.R_lt O1.out)) (below_size B1.out)); have HO2 := a0_ (Kd.R_below O1.out hb); have HB2 := a0_ (below_step B1.out hb); clear hd hb))
   clear hx0 hx1 q0 q1 q2 d0 d1 O1 B1 hn HO HB
   go_loopg [5, 21] (N c).length (fun kq v5 v21 w' => ∃ (j : Nat) (o2 : List S56), v21 = .int .i64 j ∧ Aside0 (kq + j = (N c).length) ∧ Aside0 (o2 = out ++ ((N c).take j).filter (fun d => !hasC s d) ∧ o2.length ≤ i * 1000 + j) ∧ Aside0 (Kd.R k56 56 w' w.heap.size (fun _ => True) v5 o2) ∧ Aside0 (Kd.R k56 56 w' w.heap.size (fun k_ => True ∧ some k_ ≠ v5.ownBlock) (.slice Ad (N c).length cd) (N c)) ∧ Aside0 (Below w.heap.size w w'))
   case atStart => exact ⟨0, out, rfl, ⟨by omega⟩, ⟨by simp, by have := HOUT.out.2; omega⟩, HO2, HD, HB2⟩
   case round =>
    clear HD HO2 HB2
    obtain ⟨j, o2, rfl, HJ, HQ, HO, HD, HB⟩ := hrel
    by_cases hj : j < (N c).length
    ·have d0 : decide ((j : Int) < ((N c).length : Int)) = true := decide_eq_true (by omega)
     have d1 : decide (j < (N c).length) = true := decide_eq_true hj
     have q0 : (0 ≤ (j : Int)) = True := eq_true (by omega)
     have q1 : ((j : Int) < ((N c).length : Int)) = True := eq_true (by omega)
     have q2 : (j < (N c).length) = True := eq_true hj
     obtain ⟨ad1, e1, hx0, hx1⟩ := at_T56 (Kd.R_reads' HD.out).2.2 (j : Int) (by omega) (by omega)
     cases e1
     simp only [Int.toNat_natCast] at hx0 hx1
     have hc : rd_T56 (N c) (j : Int) = (N c)[j] := by show (N c).getD j _ = _; rw [List.getD_eq_getElem?_getD, List.getElem?_eq_getElem hj, Option.getD_some]
     have htk : ((N c).take (j + 1)).filter (fun d => !hasC s d) = ((N c).take j).filter (fun d => !hasC s d) ++ (if hasC s (rd_T56 (N c) (j : Int)) = true then [] else [rd_T56 (N c) (j : Int)]) := by
      rw [List.take_succ_eq_append_getElem hj, List.filter_append, hc]
      cases hh : hasC s (N c)[j] <;> simp [hh]
     generalize rd_T56 (N c) (j : Int) = d at hx0 hx1 htk
     obtain ⟨kf, hkf⟩ := hasC_some s (by have := HS.out; omega) d
     have hcon := fun W (hb : Below w.heap.size w W) => slices_Contains_impl_Cell_impl_Cell.calls kf (some ad0) c0 s d.f0 d.f1 _ W (Kd.C_below HR0.out hb) HC0.out hkf
     have B1 := a0_ (below_alloc HB.out (.cells #[.int .i64 d.f0, .int .i64 d.f1] 56))
     have O1 := a0_ (Kd.R_alloc HO.out (.cells #[.int .i64 d.f0, .int .i64 d.f1] 56))
     have D1 := a0_ (Kd.R_alloc HD.out (.cells #[.int .i64 d.f0, .int .i64 d.f1] 56))
     have bx := blk_new wr (.cells #[.int .i64 d.f0, .int .i64 d.f1] 56)
     have hw : wrap64 ((j : Int) + 1) = ((j + 1 : Nat) : Int) := by have := HN.out.len c; unfold wrap64; omega
     have HW := Aside0.mk hw
     have HJL := Aside0.mk hj
     have BX := Aside0.mk bx
     clear hj hc hkf hw bx
     cases hh : hasC s d with
     | true =>
      rw [hh] at hcon
      rw [hh, if_pos rfl, List.append_nil] at htk
      have HTK2 := Aside0.mk htk
      clear htk hh
      go_wp2_with (go_at_call 57; (refine (hcon _ B1.out).mono ?_; rintro e w5 ⟨rfl, hb⟩; have HO2 := a0_ (Kd.R_below O1.out hb); have HD2 := a0_ (Kd.R_below D1.out hb); have HB2 := a0_ (below_step B1.out hb); clear hb))
      go_roundg ((N c).length - (j + 1))
      case measure => (have := HJ.out; have := HJL.out; omega)
      case rel => exact ⟨j + 1, o2, congrArg (Value.int .i64) HW.out, ⟨by have := HJL.out; omega⟩, ⟨by rw [HTK2.out]; exact HQ.out.1, by have := HQ.out.2; omega⟩, HO2, HD2, HB2⟩
     | false =>
      rw [hh] at hcon
      rw [hh, if_neg (by simp)] at htk
      have HTK2 := Aside0.mk htk
      clear htk hh
      go_wp2_with (first | (go_at_call 57; (refine (hcon _ B1.out).mono ?_; rintro e w5 ⟨rfl, hb⟩; have hz0 : w5.cell? ⟨wr.heap.size, 0, none⟩ = some (.int .i64 d.f0) := (blk_cell (blk_below BX.out hb) 0).trans rfl; have hz1 : w5.cell? ⟨wr.heap.size, 1, none⟩ = some (.int .i64 d.f1) := (blk_cell (blk_below BX.out hb) 1).trans rfl; have HO2 := a0_ (Kd.R_below O1.out hb); have HD2 := a0_ (Kd.R_below D1.out hb); have HB2 := a0_ (below_step B1.out hb); clear hb)) | ((with_reducible refine gate_builtin (b := .append) (xs := #[.tmp 29, .tmp 31]) rfl ?_); at_builtin; refine Kd.R_append k56 (w0 := w) w.heap.size rfl (.tmp 29) (.tmp 31) 29 56 (.agg #[.int .i64 0, .int .i64 0]) 16 rfl Tryz.underlying29 infoCellB rfl (by decide) (by omega) u5 o2 d [.int .i64 d.f0, .int .i64 d.f1] (fun _ => True) (fun _ => False) rfl (by first | (go_simp; done) | (go_simp; rfl)) ?aP (fun _ hk => hk.elim) ?aF ?aO ?aB ?aS ?aL ?_; (case aP => exact k56_mkM _ _ _ d); (case aB => exact HB2.out); (case aF => exact (fun _ _ => trivial)); (case aO => exact HO2.out); (case aS => exact below_size HB2.out); (case aL => have := HQ.out.2; have := HIL.out; have := HS.out; have := HJL.out; have := HN.out.len c; omega); intro v7 w7 ho hb hg hat; have HO7 := Aside0.mk ho; have HB7 := Aside0.mk hb; have HD7 := a0_ (Kd.R_after HD2.out hg hat); clear ho hb hg hat))
      go_roundg ((N c).length - (j + 1))
      case measure => (have := HJ.out; have := HJL.out; omega)
      case rel => exact ⟨j + 1, o2 ++ [d], congrArg (Value.int .i64) HW.out, ⟨by have := HJL.out; omega⟩, ⟨by rw [HTK2.out, HQ.out.1, List.append_assoc], by have := HQ.out.2; rw [List.length_append]; simp; omega⟩, HO7, HD7, HB7⟩
    ·have d0 : decide ((j : Int) < ((N c).length : Int)) = false := decide_eq_false (by omega)
     have d1 : decide (j < (N c).length) = false := decide_eq_false hj
     have hw : wrap64 ((i : Int) + 1) = ((i + 1 : Nat) : Int) := by have := HS.out; have := HIL.out; unfold wrap64; omega
     have HW := Aside0.mk hw
     have hq : (N c).take j = N c := List.take_of_length_le (by omega)
     have HE : Aside0 (o2 = (s.take (i + 1)).flatMap (nearF N s) ∧ o2.length ≤ (i + 1) * 1000) := ⟨by rw [HQ.out.1, hq, HTK.out, HOUT.out.1]; rfl, by have := HQ.out.2; have := HN.out.len c; have := HJ.out; omega⟩
     clear hj hw hq
     go_wp2
     go_roundg (s.length - (i + 1))
     case measure => (have := HI.out; have := HIL.out; omega)
     case rel => exact ⟨i + 1, o2, congrArg (Value.int .i64) HW.out, ⟨by have := HIL.out; omega⟩, HE, HO, HB⟩
  ·obtain rfl : i = s.length := by have := HI.out; omega
   have d0 : decide ((s.length : Int) < (s.length : Int)) = false := decide_eq_false (by omega)
   have d1 : decide (s.length < s.length) = false := decide_eq_false (by omega)
   have he : out = nearsL N s := by rw [HOUT.out.1, List.take_length]; rfl
   have hol : out.length < 4611686018427387904 := by have := HOUT.out.2; have := HS.out; omega
   subst he
   obtain ⟨g, cap, rfl, _⟩ := Kd.R_form HO.out HNE.out
   have HOL := Aside0.mk hol
   have hsl : (nearsL N s).length = (sortC (nearsL N s)).length := (List.length_mergeSort _).symm
   have hsr := sortR_calls w wr _ g cap HO.out HB.out HOL.out
   rw [hsl] at hsr ⊢
   have HG := a0_ (Kd.R_base HO.out g rfl)
   clear hol hi hsl HO
   go_wp2_with (first | (go_at_call 99; (refine hsr.mono ?_; rintro e w5 ⟨rfl, hr, hb⟩; have HR5 := Aside0.mk hr; have HB5 := Aside0.mk hb; clear hr hb hsr)) | (go_at_call 101; (refine (compactC_calls _ _ _ g cap _ HR5.out).mono ?_; rintro e w6 ⟨rfl, hr, hb⟩; have HR6 := Aside0.mk hr; have HB6 := a0_ (hb.from_ HB5.out (Nat.le_refl _) HG.out); clear hr hb)))
   go_ret
   exact ⟨_, rfl, HR6.out, HB6.out⟩
theorem cloneC_calls (A0 : Option Addr) (c0 : Nat) (l0 : List S56) (w : World) (hr0 : Kd.C k56 w A0 l0.length l0) (hc0 : l0.length ≤ c0) (hc : 0 < l0.length ∧ l0.length * 16 ≤ 140737488355328) :
  Calls Tryz.prog 95 #[.slice A0 l0.length c0] w fun e w' => ∃ v, e = .returned v ∧ Kd.R k56 56 w' w.heap.size (fun _ => True) v l0 ∧ Below w.heap.size w w' := by
 have hk : ∀ x, (encC x).length = 2 := fun _ => rfl
 obtain ⟨hlr, hmax, hread0⟩ := hr0
 obtain ⟨ad, eA, hread⟩ := hread0 hc.1
 subst eA
 have hflat := reads_flat encC 2 hk (by omega) (w := w) (ad := ad) (xs := l0) (fun j p hj i u hu => by
  obtain ⟨c, hcl, hK, hcell⟩ := hread j p hj
  exact hcell i u (by rw [k56_open hK]; exact hu))
 have had : ad = ⟨ad.block, ad.off, none⟩ := by
  have h0 := hflat 0 ((Sort.flatK encC 2 l0.toArray).toList[0]'(by simp; omega)) (List.getElem?_eq_getElem _)
  rw [show ad.add 0 = ad by simp [Addr.add]] at h0
  exact spot_none h0
 generalize ad.block = b at had
 generalize ad.off = o at had
 subst had
 obtain ⟨i0, hi, hzz⟩ := Option.map_eq_some_iff.1 infoCellB
 simp only [Prod.mk.injEq] at hzz
 obtain ⟨hz0, hz1, hz2⟩ := hzz
 have hcl := AnyE.slices_Clone Tryz.cloneC i0 _ 2 16 hi hz0 hz1 hz2 rfl (by omega) Tryz.sizeOf56 b o l0.length c0 (Sort.flatK encC 2 l0.toArray).toList w (by simp) (by simp only [maxLen]; omega) (by omega) (fun j u hj => by
  have := hflat j u hj
  rwa [show (⟨b, o, none⟩ : Addr).add j = ⟨b, o + j, none⟩ by unfold Addr.add; split <;> simp_all] at this) (fun u hu => by
  obtain ⟨t, ht, rfl⟩ := List.getElem_of_mem hu
  have hlt : t < l0.length * 2 := by simpa using ht
  have e := (flatK_reps encC 2 hk (by omega) l0.toArray).2 (t / 2) (l0[t / 2]'(by omega)) (List.getElem?_eq_getElem (by simp; omega))
  have e2 : (((Sort.flatK encC 2 l0.toArray).toList.drop (t / 2 * 2)).take 2)[t % 2]? = some ((Sort.flatK encC 2 l0.toArray).toList[t]) := by
   rw [List.getElem?_take_of_lt (by omega), List.getElem?_drop, show t / 2 * 2 + t % 2 = t by omega, List.getElem?_eq_getElem ht]
  simp only [] at e
  rw [e] at e2
  have hm := List.mem_of_getElem? e2
  simp only [encC, List.mem_cons, List.not_mem_nil, or_false] at hm
  rcases hm with hm | hm <;> rw [hm] <;> rfl)
 change Calls Tryz.prog 95 _ _ _ at hcl
 refine hcl.mono ?_
 rintro e w1 ⟨v', rfl, hown, hne, hb⟩
 obtain ⟨g, cap, rfl⟩ := own_shape 2 hown hne
 refine ⟨_, rfl, ⟨fun _ _ => trivial, _, hown, ?_⟩, hb⟩
 exact Reps.imp_ (flatK_reps encC 2 hk (by omega) l0.toArray) (fun p c hc => by rw [hc]; exact k56_mkM _ _ _ p)
structure TidyOk (g : Nat) (T : List S56 → List S56) : Prop where
 eg : ∀ args w, (callFunc g args).run Tryz.prog w = .ok (.enter g args) w
 calls : ∀ (s : List S56) (A : Option Addr) (c : Nat) (W : World), Kd.C k56 W A s.length s → s.length ≤ c → 1 ≤ s.length → s.length ≤ 100001 → Calls Tryz.prog g #[.slice A s.length c] W fun e w' => ∃ v, e = .returned v ∧ Kd.R k56 56 w' W.heap.size (fun _ => True) v (T s) ∧ Below W.heap.size W w'
 len : ∀ s, (T s).length = s.length
def growOne (T : List S56 → List S56) (s : List S56) (d : S56) : List S56 := T (sortC (s ++ [d]))
def grownL (N : S56 → List S56) (T : List S56 → List S56) (s : List S56) : List (List S56) := tidyL ((besideL N s).map (growOne T s))
theorem infoRowB : (Tryz.prog.info? 29).map (fun i => (i.zero, i.size, i.bytes)) = some (some (.slice none 0 0), 1, 24) := by kernel_rfl
theorem lit_reads (d : S56) {W : World} {b : Nat} (h : W.heap[b]? = some (.cells #[.int .i64 d.f0, .int .i64 d.f1] 56)) : ReadsRow (fun x cs => cs = encC x) 2 W (some ⟨b, 0, none⟩) 1 [d] := by
 refine ⟨rfl, by decide, fun _ => ⟨⟨b, 0, none⟩, rfl, fun j p hj => ?_⟩⟩
 have hj0 : j = 0 := by have := (List.getElem?_eq_some_iff.1 hj).1; simp at this; omega
 subst hj0
 obtain rfl : d = p := by simpa using hj
 refine ⟨encC d, rfl, rfl, fun i u hu => ?_⟩
 rw [add_plain, blk_cell h]
 simp only [Nat.zero_mul, Nat.zero_add, List.getElem?_toArray]
 exact hu
theorem S_one {α : Type} {d : Kd α} {e : Nat} {w : World} {base : Nat} {ok : Nat → Prop} {v : Value} {x : α} (h : d.R e w base ok v [x]) : Kd.S d e w base ok v [x] := by
 obtain ⟨h0, inner, ho, hr⟩ := h
 refine ⟨fun _ => 0, h0, inner, ho, hr.1, fun j p hj => ?_⟩
 have hj0 : j = 0 := by have := (List.getElem?_eq_some_iff.1 hj).1; simp at this; omega
 subst hj0
 obtain rfl : (x, 0) = p := by simpa using hj
 exact d.M_mono (fun k hk => ⟨hk, rfl⟩) (hr.2 0 x rfl)
section
variable {P : Program} {ops : Array Oper} {rest : List Oper} {o : Oper} {a : Act} {Q : Exit → Act → World → Prop} {α : Type}
theorem S_append_rows (d : Kd α) {w0 W : World} (base : Nat) (hgd : o.guard = none) (s x : Operand) (t e : TypeId) (z : Value) (bytes : Nat)
  (ho : o.op = .call { callee := .builtin .append, args := #[s, x], argTypes := #[t, t] })
  (ht : P.underlying t = some (.slice e)) (hinfo : (P.info? e).map (fun i => (i.zero, i.size, i.bytes)) = some (some z, d.sz, bytes)) (hz : z.cells.size = d.sz) (hs0 : 0 < d.sz) (hb0 : 0 < bytes)
  (v : Value) (xs ys : List α) (A : Option Addr) (c : Nat) (ok okp : Nat → Prop) (hs : a.eval s = v) (hx : a.eval x = .slice A ys.length c)
  (HO : Kd.S d e W base (fun k => ok k ∧ ¬ okp k) v xs) (HR : Kd.S d e W base okp (.slice A ys.length c) ys) (hokp : ∀ k, okp k → ok k ∧ some k ≠ v.ownBlock) (hfresh : ∀ k, W.heap.size ≤ k → ok k)
  (HB : Below base w0 W) (hbase : base ≤ W.heap.size) (hl : (xs.length + ys.length) * bytes ≤ 140737488355328)
  (h : ∀ v1 w1, Kd.S d e w1 base ok v1 (xs ++ ys) → Below base w0 w1 → W.grownBy w1 v.ownBlock → (v1.ownBlock = v.ownBlock ∨ ∃ b, v1.ownBlock = some b ∧ W.heap.size ≤ b) → wpList P ops Q rest (a.put o.dst v1) w1) :
  wpList P ops Q (o :: rest) a W := by
 classical
 obtain ⟨f1, h1⟩ := HO
 obtain ⟨f2, h2⟩ := HR
 obtain ⟨A', c', e9, _, hrr⟩ := OwnRow.reads h2.2
 injection e9 with e9a e9b e9c
 subst e9a e9c
 rw [List.length_zipIdx] at hrr
 obtain ⟨hl1, hl2, hl3⟩ := hrr
 refine Kd.R_append_rows (Kd.tag (fun k => if okp k then xs.length + f2 k else f1 k) d) (Rr := fun p cs => (Kd.tag (fun k => if okp k then xs.length + f2 k else f1 k) d).M W base okp p cs) base hgd s x t e z bytes ho ht hinfo hz hs0 hb0 v xs.zipIdx (ys.zipIdx xs.length) A ys.length c ok okp hs hx (Kd.R_mono (Kd.R_tag h1 (fun k hk _ => if_neg hk.2)) (fun _ hk => hk.1)) ⟨List.length_zipIdx, hl2, fun hp => ?_⟩ (fun _ _ h => h) hokp hfresh HB hbase (by rw [List.length_zipIdx]; exact hl) ?_
 ·obtain ⟨ad, hA, hget⟩ := hl3 hp
  refine ⟨ad, hA, fun j p hj => ?_⟩
  rw [List.getElem?_zipIdx] at hj
  obtain ⟨y, hy, rfl⟩ := Option.map_eq_some_iff.1 hj
  obtain ⟨cs, hcl, hM, hcell⟩ := hget j (y, j) (Kd.zip_at hy)
  refine ⟨cs, hcl, ?_, hcell⟩
  exact d.M_mono (fun k hk => ⟨hk.1.1, by show (if okp k then xs.length + f2 k else f1 k) = xs.length + j; rw [if_pos hk.1.1]; exact congrArg _ hk.2⟩) hM
 ·intro v1 w1 hr
  have he : xs.zipIdx ++ ys.zipIdx xs.length = (xs ++ ys).zipIdx := by rw [List.zipIdx_append, Nat.zero_add]
  rw [he] at hr
  exact h v1 w1 ⟨_, hr⟩
end
set_option maxHeartbeats 4000000 in
set_option maxRecDepth 100000 in
theorem grown_calls (gn gt : Nat) (N : S56 → List S56) (hN : NearOk gn N) (T : List S56 → List S56) (hT : TidyOk gt T) (A0 : Option Addr) (c0 : Nat) (s : List S56) (w : World) (hr0 : Kd.C k56 w A0 s.length s) (hc0 : s.length ≤ c0) (h1 : 1 ≤ s.length) (hs : s.length ≤ 100000) (hne : 0 < (nearsL N s).length) (hbl : (besideL N s).length ≤ 100000000) :
  Calls Tryz.prog 88 #[.slice A0 s.length c0, .func (.func gn) #[] #[], .func (.func gt) #[] #[]] w fun e w' => ∃ v, e = .returned v ∧ Kd.S (Kd.slice 56 k56) 29 w' w.heap.size (fun _ => True) v (grownL N T s) ∧ Below w.heap.size w w' := by
 have hu := Tryz.underlying56
 have et := hT.eg
 have HN := Aside0.mk hN
 have HT := Aside0.mk hT
 have HR0 := Aside0.mk hr0
 have HC0 := Aside0.mk hc0
 have HS := a0_ (And.intro h1 hs)
 have HNE := Aside0.mk hne
 have HBL := Aside0.mk hbl
 clear hr0 hc0 h1 hs hne hN hT hbl
 have hbs := fun W (hb : Below w.heap.size w W) => beside_calls gn N HN.out A0 c0 s W (Kd.C_below HR0.out hb) HC0.out HS.out.2 HNE.out
 go_enter Tryz.func88, Tryz.ntmps88
 go_wp2_with (first | ((with_reducible refine gate_dst (N := 10) rfl ?_); refine Kd.S_lit (Kd.slice 56 k56) _ 29 ?hg (N := 10) ?hd (xs := ([] : List (List S56))) (inner := []) (ok := fun _ => True) (okp := fun _ => True) ?hr ?hp (fun _ hk => hk) trivial (Below.refl _ _) (Nat.le_refl _) (by simp) ?_; (case hd => rfl); (case hg => rfl); (case hr => first | (go_simp; done) | (go_simp; rfl)); (case hp => exact (Reps.none _ _)); intro vl w3 ho hb _ _; have HO := a0_ (Kd.S_lower ho (Nat.le_refl _)); have HB := Aside0.mk hb; clear ho hb) | (go_at_call 94; (refine (hbs _ HB.out).mono ?_; rintro e w4 ⟨vd, rfl, hd, hb⟩; obtain ⟨Ad, cd, rfl⟩ := Kd.R_slice hd; have HD := a0_ (Kd.R_lower hd (below_size HB.out)); have HO2 := a0_ (Kd.S_below HO.out hb); have HB2 := a0_ (below_step HB.out hb); clear hd hb hbs)))
 clear HO HB
 generalize hds : besideL N s = ds at HD HBL
 have HDS := Aside0.mk hds
 clear hds
 go_loopg [7, 15] ds.length (fun kq v7 v15 w' => ∃ (i : Nat) (out : List (List S56)), v15 = .int .i64 i ∧ Aside0 (kq + i = ds.length) ∧ Aside0 (out = (ds.take i).map (growOne T s)) ∧ Aside0 (Kd.S (Kd.slice 56 k56) 29 w' w.heap.size (fun _ => True) v7 out) ∧ Aside0 (Kd.R k56 56 w' w.heap.size (fun _ => True) (.slice Ad ds.length cd) ds) ∧ Aside0 (Below w.heap.size w w'))
 case atStart => exact ⟨0, [], rfl, ⟨by omega⟩, ⟨by simp⟩, HO2, HD, HB2⟩
 case round =>
  clear HO2 HD HB2
  obtain ⟨i, out, rfl, HI, HOUT, HO, HD, HB⟩ := hrel
  by_cases hi : i < ds.length
  ·have d0 : decide ((i : Int) < (ds.length : Int)) = true := decide_eq_true (by omega)
   have d1 : decide (i < ds.length) = true := decide_eq_true hi
   have q0 : (0 ≤ (i : Int)) = True := eq_true (by omega)
   have q1 : ((i : Int) < (ds.length : Int)) = True := eq_true (by omega)
   have q2 : (i < ds.length) = True := eq_true hi
   obtain ⟨ad1, e1, hx0, hx1⟩ := at_T56 (Kd.R_reads' HD.out).2.2 (i : Int) (by omega) (by omega)
   cases e1
   simp only [Int.toNat_natCast] at hx0 hx1
   have hc : rd_T56 ds (i : Int) = ds[i] := by show ds.getD i _ = _; rw [List.getD_eq_getElem?_getD, List.getElem?_eq_getElem hi, Option.getD_some]
   have htk : (ds.take (i + 1)).map (growOne T s) = (ds.take i).map (growOne T s) ++ [growOne T s (rd_T56 ds (i : Int))] := by rw [List.take_succ_eq_append_getElem hi, List.map_append, hc]; simp
   generalize rd_T56 ds (i : Int) = d at hx0 hx1 htk
   have HTK := Aside0.mk htk
   have HIL := Aside0.mk hi
   have HW := a0_ (show wrap64 ((i : Int) + 1) = ((i + 1 : Nat) : Int) by have := HBL.out; unfold wrap64; omega)
   have bx := blk_new wr (.cells #[.int .i64 d.f0, .int .i64 d.f1] 56)
   have BX := Aside0.mk bx
   have B1 := a0_ (below_alloc HB.out (.cells #[.int .i64 d.f0, .int .i64 d.f1] 56))
   have O1 := a0_ (Kd.S_alloc HO.out (.cells #[.int .i64 d.f0, .int .i64 d.f1] 56))
   have D1 := a0_ (Kd.R_alloc HD.out (.cells #[.int .i64 d.f0, .int .i64 d.f1] 56))
   clear hc htk hi bx
   have hcl := fun W (hb : Below w.heap.size w W) => cloneC_calls A0 c0 s W (Kd.C_below HR0.out hb) HC0.out (by have := HS.out; omega)
   have hz0 : (wr.alloc (.cells #[.int .i64 d.f0, .int .i64 d.f1] 56)).cell? ⟨wr.heap.size, 0, none⟩ = some (.int .i64 d.f0) := (blk_cell BX.out 0).trans rfl
   have hz1 : (wr.alloc (.cells #[.int .i64 d.f0, .int .i64 d.f1] 56)).cell? ⟨wr.heap.size, 1, none⟩ = some (.int .i64 d.f1) := (blk_cell BX.out 1).trans rfl
   go_wp2
   obtain ⟨Wb, hWb⟩ : ∃ Wb, Wb = wr.alloc (.cells #[.int .i64 d.f0, .int .i64 d.f1] 56) := ⟨_, rfl⟩
   have K0 : Aside0 (Below Wb.heap.size Wb Wb) := ⟨Below.refl _ _⟩
   rw [← hWb] at hz0 hz1 B1 O1 D1 BX ⊢
   clear hWb
   obtain ⟨q, hq⟩ : ∃ q, q = sortC (s ++ [d]) := ⟨_, rfl⟩
   have hql : q.length = s.length + 1 := by rw [hq]; exact (List.length_mergeSort _).trans (by simp)
   have hsrt := fun (W : World) (A : Option Addr) (c : Nat) (hC : Kd.C k56 W A (s ++ [d]).length (s ++ [d])) (hc : s.length + 1 ≤ c) => impl_sorted.calls A c (s ++ [d]) (sortC (s ++ [d])) W hC (by simpa using hc) (by unfold impl_sorted.f; rw [if_pos]; have := HS.out; simp; omega)
   rw [← hq] at hsrt
   have hsr2 : ∀ (W : World) (A : Option Addr) (c : Nat) (hC : Kd.C k56 W A (s ++ [d]).length (s ++ [d])) (hc : (s ++ [d]).length ≤ c), Calls Tryz.prog 92 #[.slice A (s.length + 1) c] W _ := fun W A c hC hc => by have h := hsrt W A c hC (by simpa using hc); rw [List.length_append, List.length_singleton] at h; exact h
   have htid := fun (W : World) (A : Option Addr) (c : Nat) (hC : Kd.C k56 W A q.length q) (hc : q.length ≤ c) => HT.out.calls q A c W hC hc (by omega) (by have := HS.out; omega)
   have hgo : growOne T s d = T q := by unfold growOne; rw [hq]
   generalize T q = tq at htid hgo
   have HGO := Aside0.mk hgo
   clear hsrt hgo hq hql
   go_region_held3 (fun w' => w'.cell? ⟨wr.heap.size, 0, none⟩ = some (.int .i64 d.f0) ∧ w'.cell? ⟨wr.heap.size, 1, none⟩ = some (.int .i64 d.f1)) (go_keep) (first | (go_at_call 95; (refine (hcl _ ?_).mono ?_; (repeat (first | exact B1.out | apply below_alloc | apply pw_below_drewN | apply below_drew1)); rintro e w5 ⟨v2, rfl, h2, hb⟩; have K5 : Aside0 (Below Wb.heap.size Wb w5) := ⟨below_step (by repeat (first | exact K0.out | apply below_alloc | apply pw_below_drewN | apply below_drew1)) hb⟩; have z0_w5 : w5.cell? ⟨wr.heap.size, 0, none⟩ = some (.int .i64 d.f0) := pw_cell_below K5.out hz0; have z1_w5 : w5.cell? ⟨wr.heap.size, 1, none⟩ = some (.int .i64 d.f1) := pw_cell_below K5.out hz1; have H2 : Aside0 (Kd.R k56 56 w5 Wb.heap.size (fun _ => True) v2 s) := ⟨Kd.R_lower h2 (below_size (by repeat (first | exact K0.out | apply below_alloc | apply pw_below_drewN | apply below_drew1)))⟩; have L5 := a0_ (fun b (h_ : (World.heap _)[b]? = some (.cells #[.int .i64 d.f0, .int .i64 d.f1] 56)) => blk_below h_ hb); clear h2 hb)) | (refine Kd.R_append_rows_step k56 (Rr := fun x cs => cs = encC x) (w0 := Wb) Wb.heap.size (by rfl) (.tmp 22) (.tmp 24) 29 56 (.agg #[.int .i64 0, .int .i64 0]) 16 rfl Tryz.underlying29 infoCellB rfl (by decide) (by omega) v2 s [d] (some ⟨_, 0, none⟩) 1 1 (fun _ => True) (fun _ => False) rfl rfl ?aO ?aR (fun x cs h => by rw [h]; exact k56_mkM _ _ _ x) (fun _ hk => hk.elim) (fun _ _ => trivial) ?aB ?aS ?aL ?_; (case aO => exact (ra_ H2.out)); (case aR => exact lit_reads d (by first | exact blk_new _ _ | exact L5.out _ (blk_new _ _) | (refine L5.out _ ?_; repeat (first | exact blk_new _ _ | refine blk_drewN ?_ _ | refine blk_drew ?_)) | (repeat (first | exact blk_new _ _ | refine blk_drewN ?_ _ | refine blk_drew ?_ | exact L5.out _ (blk_new _ _)))));  (case aB => exact (by repeat (first | exact K5.out | apply below_alloc | apply pw_below_drewN | apply below_drew1))); (case aS => exact below_size (by repeat (first | exact K5.out | apply below_alloc | apply pw_below_drewN | apply below_drew1))); (case aL => have := HS.out; simp; omega); intro v3 w6 h3 hb3 hg3 hat3; have K6 := Aside0.mk hb3; have H3 := Aside0.mk h3; have z0_w6 : w6.cell? ⟨wr.heap.size, 0, none⟩ = some (.int .i64 d.f0) := pw_cell_below K6.out hz0; have z1_w6 : w6.cell? ⟨wr.heap.size, 1, none⟩ = some (.int .i64 d.f1) := pw_cell_below K6.out hz1; obtain ⟨A3, c3, rfl⟩ := Kd.R_slice h3; have H3r := Kd.R_reads' h3; clear h3 hb3 hg3 hat3) | (go_at_call 92; (refine (hsr2 _ _ _ H3r.2.2 H3r.2.1).mono ?_; rintro e w7 ⟨v4, rfl, h4, hb⟩; have K7 : Aside0 (Below Wb.heap.size Wb w7) := ⟨below_step (by repeat (first | exact K6.out | apply below_alloc | apply pw_below_drewN | apply below_drew1)) hb⟩; have z0_w7 : w7.cell? ⟨wr.heap.size, 0, none⟩ = some (.int .i64 d.f0) := pw_cell_below K7.out hz0; have z1_w7 : w7.cell? ⟨wr.heap.size, 1, none⟩ = some (.int .i64 d.f1) := pw_cell_below K7.out hz1; obtain ⟨A4, c4, rfl⟩ := Kd.R_slice h4; have H4r := Kd.R_reads' h4; clear h4 hb)) | (go_at_fn gt; (refine (htid _ _ _ H4r.2.2 H4r.2.1).mono ?_; rintro e w8 ⟨v5, rfl, h5, hb⟩; have K8 : Aside0 (Below Wb.heap.size Wb w8) := ⟨below_step (by repeat (first | exact K7.out | apply below_alloc | apply pw_below_drewN | apply below_drew1)) hb⟩; have z0_w8 : w8.cell? ⟨wr.heap.size, 0, none⟩ = some (.int .i64 d.f0) := pw_cell_below K8.out hz0; have z1_w8 : w8.cell? ⟨wr.heap.size, 1, none⟩ = some (.int .i64 d.f1) := pw_cell_below K8.out hz1; have H5 : Aside0 (Kd.R k56 56 w8 Wb.heap.size (fun _ => True) v5 tq) := ⟨Kd.R_lower h5 (below_size (by repeat (first | exact K7.out | apply below_alloc | apply pw_below_drewN | apply below_drew1)))⟩; obtain ⟨A5, c5, rfl⟩ := Kd.R_slice h5; clear h5 hb)) | (refine Kd.S_append_step (Kd.slice 56 k56) (w0 := w) w.heap.size (by rfl) (.tmp 19) (.tmp 28) 22 29 (.slice none 0 0) 24 rfl Tryz.underlying22 infoRowB rfl (by decide) (by omega) u7 out tq [.slice A5 tq.length c5] (fun _ => True) (fun k_ => Wb.heap.size ≤ k_) rfl rfl ?aP (fun k_ hk_ => ⟨trivial, fun e_ => by have := Kd.S_lt O1.out k_ e_.symm; omega⟩) (fun _ _ => trivial) ?aO ?aB ?aS ?aL ?_; (case aP => exact Kd.M_row (Kd.R_mono (Kd.R_lower (Kd.R_bound (ra_ H5.out)) (below_size B1.out)) (fun k_ h_ => h_.2.1))); (case aO => exact Kd.S_mono (Kd.S_old O1.out (by repeat (first | exact K8.out | apply below_alloc | apply pw_below_drewN | apply below_drew1))) (fun k_ h_ => ⟨trivial, by have := h_.2; omega⟩)); (case aB => exact below_step B1.out (by repeat (first | exact K8.out | apply below_alloc | apply pw_below_drewN | apply below_drew1))); (case aS => exact below_size (below_step B1.out (by repeat (first | exact K8.out | apply below_alloc | apply pw_below_drewN | apply below_drew1)))); (case aL => rw [HOUT.out, List.length_map, List.length_take]; have := HBL.out; omega); intro v9 w9 ho hb hg hat; have HO9 := Aside0.mk ho; have HB9 := Aside0.mk hb; have HD9 := a0_ (Kd.R_over' (Kd.R_below D1.out (by repeat (first | exact K8.out | apply below_alloc | apply pw_below_drewN | apply below_drew1))) (Kd.S_typed (Kd.S_below O1.out (by repeat (first | exact K8.out | apply below_alloc | apply pw_below_drewN | apply below_drew1)))) (by decide) hg); have hb9 := (hg.block wr.heap.size (blk_lt (blk_below BX.out (by repeat (first | exact K8.out | apply below_alloc | apply pw_below_drewN | apply below_drew1)))) (fun e_ => by have := Kd.S_lt HO.out _ e_.symm; omega)).trans (blk_below BX.out (by repeat (first | exact K8.out | apply below_alloc | apply pw_below_drewN | apply below_drew1))); have z0_w9 : w9.cell? ⟨wr.heap.size, 0, none⟩ = some (.int .i64 d.f0) := (blk_cell hb9 0).trans rfl; have z1_w9 : w9.cell? ⟨wr.heap.size, 1, none⟩ = some (.int .i64 d.f1) := (blk_cell hb9 1).trans rfl; clear ho hb hg hat hb9) | fail)
   all_goals (clear hz0 hz1 hx0 hx1; go_wp2)
   all_goals go_roundg (ds.length - (i + 1))
   all_goals first | (have := HI.out; have := HIL.out; omega) | exact ⟨i + 1, out ++ [tq], congrArg (Value.int .i64) HW.out, ⟨by have := HI.out; have := HIL.out; omega⟩, ⟨by rw [HTK.out, HGO.out, HOUT.out]⟩, HO9, HD9, HB9⟩
  ·have d0 : decide ((i : Int) < (ds.length : Int)) = false := decide_eq_false (by omega)
   have d1 : decide (i < ds.length) = false := decide_eq_false hi
   have he : out = ds.map (growOne T s) := by rw [HOUT.out, List.take_of_length_le (by omega)]
   subst he
   clear hi
   go_wp2_with (go_at_call 89; (refine (tidyShapes_S _ _ w _ w.heap.size _ HB.out (Nat.le_refl _) HO.out (by have := HBL.out; rw [List.length_map]; omega)).mono ?_; rintro e w2 ⟨u, rfl, hR, hb⟩; have HR := Aside0.mk hR; have HB2 := Aside0.mk hb; clear hR hb))
   go_ret
   exact ⟨_, rfl, by unfold grownL; rw [HDS.out]; exact HR.out, HB2.out⟩
def nextL (N : S56 → List S56) (T : List S56 → List S56) (L : List (List S56)) : List (List S56) := L.flatMap (grownL N T)
def allGrownL (N : S56 → List S56) (T : List S56 → List S56) (F : List (List S56)) : Nat → List (List S56)
 | 0 => F
 | k + 1 => tidyL (nextL N T (allGrownL N T F k))
theorem below_more {base : Nat} {w0 w w1 : World} (_h0 : base ≤ w0.heap.size) (h : Below base w0 w) (k : Below w.heap.size w w1) : Below base w0 w1 :=
 ⟨k.os.trans h.os, k.tape.trans h.tape, k.output.trans h.output, Nat.le_trans h.size k.size, fun i hi => (k.block i (by have := h.size; omega)).trans (h.block i hi)⟩
theorem flat_take (f : List S56 → List (List S56)) (L : List (List S56)) (i : Nat) : ((L.take i).flatMap f).length ≤ (L.flatMap f).length := by
 have h : (L.flatMap f).length = ((L.take i).flatMap f).length + ((L.drop i).flatMap f).length := by rw [← List.length_append, ← List.flatMap_append, List.take_append_drop]
 omega
structure GrowOk (N : S56 → List S56) (s : List S56) : Prop where
 one : 1 ≤ s.length
 few : s.length ≤ 100000
 near : 0 < (nearsL N s).length
 less : (besideL N s).length ≤ 100000000
set_option maxHeartbeats 4000000 in
set_option maxRecDepth 100000 in
theorem allGrown_calls (gn gt : Nat) (N : S56 → List S56) (hN : NearOk gn N) (T : List S56 → List S56) (hT : TidyOk gt T) (n : Nat) (v1 : Value) (F : List (List S56)) (w0 w : World) (base : Nat) (hB : Below base w0 w) (hb0 : base ≤ w0.heap.size)
  (hF : Kd.S (Kd.slice 56 k56) 29 w base (fun _ => True) v1 F) (h1 : 1 ≤ n) (hn : n ≤ 100) (hG : ∀ k, k < n - 1 → (∀ s ∈ allGrownL N T F k, GrowOk N s) ∧ (nextL N T (allGrownL N T F k)).length ≤ 1000000000) :
  Calls Tryz.prog 72 #[.int .i64 n, v1, .func (.func gn) #[] #[], .func (.func gt) #[] #[]] w fun e w' => ∃ v, e = .returned v ∧ Kd.S (Kd.slice 56 k56) 29 w' base (fun _ => True) v (allGrownL N T F (n - 1)) ∧ Below base w0 w' := by
 have HN := Aside0.mk hN
 have HT := Aside0.mk hT
 have HF := Aside0.mk hF
 have HB0 := Aside0.mk hB
 have HBS := Aside0.mk hb0
 have HG := Aside0.mk hG
 have HL := a0_ (And.intro h1 hn)
 have hw : wrap64 ((n : Int) - 1) = ((n - 1 : Nat) : Int) := by unfold wrap64; omega
 have HW0 := Aside0.mk hw
 clear hN hT hF hB hb0 hG h1 hn hw
 go_enter Tryz.func72, Tryz.ntmps72
 go_wp2
 rw [HW0.out]
 go_loopg [9, 16] n (fun kq v9 v16 w' => ∃ k : Nat, v16 = .int .i64 k ∧ Aside0 (kq + k = n ∧ k ≤ n - 1) ∧ Aside0 (Kd.S (Kd.slice 56 k56) 29 w' base (fun _ => True) v9 (allGrownL N T F k)) ∧ Aside0 (Below base w0 w'))
 case atStart => exact ⟨0, rfl, ⟨by omega⟩, HF, HB0⟩
 case round =>
  clear HF HB0
  obtain ⟨k, rfl, HK, HO, HB⟩ := hrel
  by_cases hk : k < n - 1
  ·have d0 : decide ((k : Int) < ((n - 1 : Nat) : Int)) = true := decide_eq_true (by omega)
   have d1 : decide (k < n - 1) = true := decide_eq_true hk
   have HKL := Aside0.mk hk
   have HGK := a0_ (HG.out k hk)
   generalize hL : allGrownL N T F k = L at HO HGK
   have HLE := Aside0.mk hL
   have hrl := OwnRow.reads (Kd.S_R HO.out).2
   obtain ⟨A9, c9, rfl, hc9, hrr⟩ := hrl
   have hlm : L.length ≤ 9223372036854775807 := hrr.2.1
   have HLM := Aside0.mk hlm
   clear hk hL hrr hlm
   go_wp2_with ((with_reducible refine gate_dst (N := 18) rfl ?_); (refine Kd.S_lit (Kd.slice 56 k56) _ 29 ?hg (N := 18) ?hd (xs := ([] : List (List S56))) (inner := []) (ok := fun _ => True) (okp := fun _ => True) ?hr ?hp (fun _ hk => hk) trivial (Below.refl _ _) (Nat.le_refl _) (by simp) ?_; (case hd => rfl); (case hg => rfl); (case hr => first | (go_simp; done) | (go_simp; rfl)); (case hp => exact (Reps.none _ _)); intro vl w3 ho hb _ hnw; have HQ3 := a0_ (Kd.R_elder' (Kd.S_R HO.out) (Kd.S_base ho) hb); have HX3 := a0_ (Kd.S_lower ho (Nat.le_trans HBS.out HB.out.size)); have HB3 := a0_ (below_more HBS.out HB.out hb); clear ho hb hnw))
   clear HO HB
   go_loopg [10, 21] L.length (fun kq v10 v21 w' => ∃ (j : Nat) (X : List (List S56)), v21 = .int .i64 j ∧ Aside0 (kq + j = L.length) ∧ Aside0 (X = (L.take j).flatMap (grownL N T)) ∧ Aside0 (Kd.S (Kd.slice 56 k56) 29 w' base (fun _ => True) v10 X) ∧ Aside0 ((Kd.slice 56 k56).R 29 w' base (fun k_ => True ∧ some k_ ≠ v10.ownBlock) (.slice A9 L.length c9) L) ∧ Aside0 (Below base w0 w'))
   case atStart => exact ⟨0, [], rfl, ⟨by omega⟩, ⟨by simp⟩, HX3, HQ3, HB3⟩
   case round =>
    clear HX3 HQ3 HB3
    obtain ⟨j, X, rfl, HJ, HXE, HX, HQ, HB⟩ := hrel
    by_cases hj : j < L.length
    ·have d0 : decide ((j : Int) < (L.length : Int)) = true := decide_eq_true (by omega)
     have d1 : decide (j < L.length) = true := decide_eq_true hj
     have q0 : (0 ≤ (j : Int)) = True := eq_true (by omega)
     have q1 : ((j : Int) < (L.length : Int)) = True := eq_true (by omega)
     have q2 : (j < L.length) = True := eq_true hj
     obtain ⟨A', c', e9, _, hrr⟩ := OwnRow.reads HQ.out.2
     injection e9 with e9a _ e9c
     subst e9a e9c
     obtain ⟨ad, cs, e1, _, hM, hcs⟩ := ReadsRow.get_ hrr [] (j : Int) (by omega) (by omega)
     obtain ⟨ve, rfl, hRe⟩ := hM
     obtain ⟨Ae, ce, rfl, hle, hCe⟩ := Kd.R_reads hRe
     have hx : wr.cell? (ad.add ((j : Int).toNat * 1 + 0)) = some (.slice Ae (L.getD (j : Int).toNat []).length ce) := hcs 0 _ rfl
     simp only [Int.toNat_natCast, Nat.mul_one, Nat.add_zero] at hx hle hCe hRe
     subst e1
     have hgd : L.getD j [] = L[j] := by rw [List.getD_eq_getElem?_getD, List.getElem?_eq_getElem hj, Option.getD_some]
     have hmem : L.getD j [] ∈ L := by rw [hgd]; exact List.getElem_mem hj
     have hgo := HGK.out.1 _ hmem
     have htk : (L.take (j + 1)).flatMap (grownL N T) = (L.take j).flatMap (grownL N T) ++ grownL N T (L.getD j []) := by rw [List.take_succ_eq_append_getElem hj, List.flatMap_append, hgd]; simp
     have hlen := flat_take (grownL N T) L (j + 1)
     have hcall := grown_calls gn gt N HN.out T HT.out Ae ce _ wr hCe hle hgo.one hgo.few hgo.near hgo.less
     have hbd : X.length + (grownL N T (L.getD j [])).length ≤ 1000000000 := by have := HGK.out.2; rw [htk, List.length_append] at hlen; rw [HXE.out]; unfold nextL at this; omega
     generalize L.getD j [] = s at hx htk hcall hbd
     generalize grownL N T s = G at htk hcall hbd
     have HTK := Aside0.mk htk
     have HBD := Aside0.mk hbd
     have HJL := Aside0.mk hj
     have HW := a0_ (show wrap64 ((j : Int) + 1) = ((j + 1 : Nat) : Int) by have := HLM.out; unfold wrap64; omega)
     clear hcs hRe hle hCe hgd hmem hgo htk hlen hbd hj hrr
     go_wp2_with (first | (go_at_call 88; (refine hcall.mono ?_; rintro e w5 ⟨vg, rfl, hg5, hb⟩; obtain ⟨Ag, cg, rfl⟩ := Kd.S_slice hg5; have HRG := a0_ (Kd.S_lower (Kd.S_bound hg5) (Nat.le_trans HBS.out HB.out.size)); have HX5 := a0_ (Kd.S_old HX.out hb); have HQ5 := a0_ (Kd.R_below HQ.out hb); have HS5 := a0_ (Nat.le_trans (Nat.le_trans HBS.out HB.out.size) hb.size); have HB5 := a0_ (below_more HBS.out HB.out hb); clear hg5 hb hcall)) | ((with_reducible refine gate_builtin (b := .append) (xs := #[.tmp 25, .tmp 29]) rfl ?_); at_builtin; refine S_append_rows (Kd.slice 56 k56) (w0 := w0) base rfl (.tmp 25) (.tmp 29) 22 29 (.slice none 0 0) 24 rfl Tryz.underlying22 infoRowB rfl (by decide) (by omega) u10 X G Ag cg (fun _ => True) (fun k_ => wr.heap.size ≤ k_) rfl rfl (Kd.S_mono HX5.out (fun k_ h_ => ⟨trivial, by have := h_.2; omega⟩)) (Kd.S_mono HRG.out (fun k_ h_ => h_.2.1)) (fun k_ hk_ => ⟨trivial, fun e_ => by have := Kd.S_lt HX.out k_ e_.symm; omega⟩) (fun _ _ => trivial) HB5.out HS5.out (by have := HBD.out; omega) ?_; intro v7 w7 ho hb hg hat; have HX7 := Aside0.mk ho; have HB7 := Aside0.mk hb; have HQ7 := a0_ (Kd.R_after HQ5.out hg hat); clear ho hb hg hat))
     go_roundg (L.length - (j + 1))
     case measure => (have := HJ.out; have := HJL.out; omega)
     case rel => exact ⟨j + 1, X ++ G, congrArg (Value.int .i64) HW.out, ⟨by have := HJL.out; omega⟩, ⟨by rw [HTK.out, HXE.out]⟩, HX7, HQ7, HB7⟩
    ·have d0 : decide ((j : Int) < (L.length : Int)) = false := decide_eq_false (by omega)
     have d1 : decide (j < L.length) = false := decide_eq_false hj
     have he : X = nextL N T L := by rw [HXE.out, List.take_of_length_le (by omega)]; rfl
     subst he
     have HW := a0_ (show wrap64 ((k : Int) + 1) = ((k + 1 : Nat) : Int) by have := HL.out; have := HKL.out; unfold wrap64; omega)
     clear hj
     go_wp2_with (go_at_call 89; (refine (tidyShapes_S _ _ w0 _ base _ HB.out HBS.out HX.out (by have := HGK.out.2; omega)).mono ?_; rintro e w2 ⟨u, rfl, hR, hb⟩; have HR := Aside0.mk hR; have HB2 := Aside0.mk hb; clear hR hb))
     go_roundg (n - (k + 1))
     case measure => (have := HK.out; have := HKL.out; omega)
     case rel => exact ⟨k + 1, congrArg (Value.int .i64) HW.out, ⟨by have := HK.out; have := HKL.out; omega⟩, ⟨by rw [allGrownL, HLE.out]; exact HR.out⟩, HB2⟩
  ·have d0 : decide ((k : Int) < ((n - 1 : Nat) : Int)) = false := decide_eq_false (by omega)
   have d1 : decide (k < n - 1) = false := decide_eq_false hk
   obtain rfl : k = n - 1 := by have := HK.out; omega
   clear hk
   go_wp2
   go_ret
   exact ⟨_, rfl, HO.out, HB.out⟩
instance (N : S56 → List S56) (s : List S56) : Decidable (GrowOk N s) :=
 decidable_of_iff (1 ≤ s.length ∧ s.length ≤ 100000 ∧ 0 < (nearsL N s).length ∧ (besideL N s).length ≤ 100000000) ⟨fun h => ⟨h.1, h.2.1, h.2.2.1, h.2.2.2⟩, fun h => ⟨h.1, h.2, h.3, h.4⟩⟩
def GrownOk (N : S56 → List S56) (T : List S56 → List S56) (F : List (List S56)) (n : Nat) : Prop := ∀ k, k < n - 1 → (∀ s ∈ allGrownL N T F k, GrowOk N s) ∧ (nextL N T (allGrownL N T F k)).length ≤ 1000000000
instance (N : S56 → List S56) (T : List S56 → List S56) (F : List (List S56)) (n : Nat) : Decidable (GrownOk N T F n) := inferInstanceAs (Decidable (∀ k, k < n - 1 → _))
def crnI (l : List S56) : Int × Int := l.foldl (fun a c => (mn a.1 c.f0, mn a.2 c.f1)) ((rd_T56 l 0).f0, (rd_T56 l 0).f1)
def movI (a b : Int) (l : List S56) : List S56 := l.map fun c => ⟨wrap64 (c.f0 + a), wrap64 (c.f1 + b)⟩
def normI (l : List S56) : List S56 := movI (wrap64 (-(crnI l).1)) (wrap64 (-(crnI l).2)) l
theorem corner_loop (l : List S56) (hl : l.length ≤ 4611686018427387904) (d : Nat) : ∀ (i : Nat) (a b : Int), i + d = l.length → impl_corner.l0 (d + 1) l (l.length : Int) i a b = some ((l.drop i).foldl (fun a c => (mn a.1 c.f0, mn a.2 c.f1)) (a, b)) := by
 induction d with
 | zero =>
  intro i a b hi
  rw [impl_corner.l0, if_neg (by omega), List.drop_of_length_le (by omega)]
  rfl
 | succ d ih =>
  intro i a b hi
  have e0 : rd_T56 l (i : Int) = l[i] := by show l.getD i _ = _; rw [List.getD_eq_getElem?_getD, List.getElem?_eq_getElem (by omega), Option.getD_some]
  rw [impl_corner.l0, if_pos (by omega), if_pos (by omega), if_pos (by omega), List.drop_eq_getElem_cons (by omega : i < l.length), List.foldl_cons, e0, show wrap64 ((i : Int) + 1) = ((i + 1 : Nat) : Int) by unfold wrap64; omega]
  exact ih (i + 1) _ _ (by omega)
theorem moved_loop (l : List S56) (hl : l.length ≤ 1000000) (x y : Int) (d : Nat) : ∀ (i : Nat) (o : List S56), i + d = l.length → o.length = i → impl_moved.l0 (d + 1) x y o l (l.length : Int) i = some (o ++ movI x y (l.drop i)) := by
 induction d with
 | zero =>
  intro i o hi ho
  rw [impl_moved.l0, if_neg (by omega), List.drop_of_length_le (by omega)]
  simp [movI]
 | succ d ih =>
  intro i o hi ho
  have e0 : rd_T56 l (i : Int) = l[i] := by show l.getD i _ = _; rw [List.getD_eq_getElem?_getD, List.getElem?_eq_getElem (by omega), Option.getD_some]
  rw [impl_moved.l0, if_pos (by omega), if_pos (by omega), if_pos (by omega), if_pos (by omega), List.drop_eq_getElem_cons (by omega : i < l.length), e0, show wrap64 ((i : Int) + 1) = ((i + 1 : Nat) : Int) by unfold wrap64; omega, ih (i + 1) _ (by omega) (by simp; omega), List.append_assoc]
  rfl
theorem normI_some (l : List S56) (h1 : 1 ≤ l.length) (hl : l.length ≤ 1000000) : ∃ k, impl_normal.f k l = some (normI l) := by
 refine ⟨l.length + 1, ?_⟩
 unfold impl_normal.f impl_corner.f impl_moved.f
 rw [if_pos (by omega), show (0 : Int) = ((0 : Nat) : Int) from rfl, corner_loop l (by omega) l.length 0 _ _ (by omega), Option.bind_some, if_pos (by omega), if_pos (by omega), moved_loop l hl _ _ l.length 0 [] (by omega) rfl]
 rfl
theorem normI_len (l : List S56) : (normI l).length = l.length := by simp [normI, movI]
def nearA (c : S56) : List S56 := (impl_around.f c.f0 c.f1).getD []
theorem nearA_ok : NearOk 53 nearA where
 eg := enters_of Tryz.func53 kr_ rfl
 calls := fun c W => impl_around.calls c.f0 c.f1 (nearA c) W rfl
 len := fun c => by show (4 : Nat) ≤ 1000; omega
theorem normI_ok : TidyOk 67 normI where
 eg := enters_of Tryz.func67 kr_ rfl
 calls := fun s A c W hC hc h1 hs => by
  obtain ⟨k, hk⟩ := normI_some s h1 (by omega)
  exact impl_normal.calls k A c s _ W hC hc hk
 len := normI_len
def firstL : List (List S56) := [[⟨0, 0⟩]]
def fixedL (m : Nat) : List (List S56) := allGrownL nearA normI firstL (m - 1)
def impl_fixedShapes.f (n : Int) : Option (List (List S56)) := if (1 ≤ n ∧ n ≤ 100) ∧ GrownOk nearA normI firstL n.toNat then some (fixedL n.toNat) else none
set_option maxHeartbeats 1000000 in
theorem fixedShapes_S (n : Int) (r : List (List S56)) (w : World) (h : impl_fixedShapes.f n = some r) :
  Calls Tryz.prog 41 #[.int .i64 n] w fun e w' => ∃ v, e = .returned v ∧ Kd.S (Kd.slice 56 k56) 29 w' w.heap.size (fun _ => True) v r ∧ Below w.heap.size w w' := by
 unfold impl_fixedShapes.f at h
 split at h
 case isFalse => cases h
 rename_i hc
 obtain ⟨⟨h1, h2⟩, hg⟩ := hc
 obtain rfl := Option.some.inj h
 obtain ⟨m, rfl⟩ := Int.eq_ofNat_of_zero_le (by omega : 0 ≤ n)
 rw [Int.toNat_natCast] at hg ⊢
 have hcall := fun (v1 : Value) (W : World) (hB : Below w.heap.size w W) (hF : Kd.S (Kd.slice 56 k56) 29 W w.heap.size (fun _ => True) v1 firstL) => allGrown_calls 53 67 nearA nearA_ok normI normI_ok m v1 firstL w W w.heap.size hB (Nat.le_refl _) hF (by omega) (by omega) hg
 clear h h1 h2 hg
 go_enter Tryz.func41, Tryz.ntmps41
 go_wp2_with (first | ((with_reducible refine gate_dst (N := 5) rfl ?_); (refine Kd.R_lit k56 (w0 := w) w.heap.size 56 ?hg (N := 5) ?hd (xs := ([⟨0, 0⟩] : List S56)) (inner := [.int .i64 0, .int .i64 0]) (ok := fun _ => True) (okp := fun _ => True) ?hr ?hp (fun _ hk => hk) trivial (Below.refl _ _) (Nat.le_refl _) (by simp) ?_; (case hd => rfl); (case hg => rfl); (case hr => first | (go_simp; done) | (go_simp; rfl)); (case hp => exact (Reps.imp_ (reps_flC [⟨0, 0⟩]) (fun p c hc => by rw [hc]; exact k56_mkM _ _ _ p))); intro v5 w3 ho hb _ _; obtain ⟨A5, c5, rfl⟩ := Kd.R_slice ho; have HO := Aside0.mk ho; have HB := Aside0.mk hb; clear ho hb)) | ((with_reducible refine gate_dst (N := 6) rfl ?_); (refine Kd.R_lit (Kd.slice 56 k56) (w0 := w) w.heap.size 29 ?hg (N := 6) ?hd (xs := firstL) (inner := [.slice A5 1 c5]) (ok := fun _ => True) (okp := fun _ => True) ?hr ?hp (fun _ hk => hk) trivial HB.out HB.out.size (by simp [firstL]) ?_; (case hd => rfl); (case hg => rfl); (case hr => first | (go_simp; done) | (go_simp; rfl)); (case hp => exact (Reps.one (Kd.M_row HO.out) (Reps.none _ _))); intro v6 w4 ho hb _ _; have HO6 := Aside0.mk ho; have HB6 := Aside0.mk hb; clear ho hb)) | (go_at_call 72; (refine (hcall _ _ HB6.out (S_one HO6.out)).mono ?_; rintro e w5 ⟨v7, rfl, hr, hb⟩; have HR7 := Aside0.mk hr; have HB7 := Aside0.mk hb; clear hr hb hcall)))
 go_ret
 exact ⟨_, rfl, HR7.out, HB7.out⟩
end Go.Proofs.YtmdjkmfocgelnaaGreatDoor.PFnAllNets
