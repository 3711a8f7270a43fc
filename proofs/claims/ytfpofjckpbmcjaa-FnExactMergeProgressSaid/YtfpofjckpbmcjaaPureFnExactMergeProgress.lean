/- What is proved: for every list of progresses the law FnExactMergeProgress answers true: the program's MergeProgress gives what the reference's gives, and leaves its argument alone. Bounds: the list is no longer than a Go slice can be. -/
import Derived.Test.YtfpofjckpbmcjaaPFnExactMergeProgressx2
import Derived.Test.YtfpofjckpbmcjaaKit
namespace Go.Proofs.Ytfpofjckpbmcjaa.Pure
open Go.RowKit Go.Proofs.Ytfpofjckpbmcjaa.PFnExactMergeProgress Go.Proofs.YtfpofjckpbmcjaaW.PrintWords Go.Proofs.YtfpofjckpbmcjaaW.PrintLast Go.Proofs.Ytfpofjckpbmcjaa.Kit

def okN (a : Int) : Bool := decide (0 ≤ a) && decide (a ≤ 1000000000)
def okP (x : S51) : Bool := okN x.f0 && (okN x.f1 && okN x.f2)
theorem in_val (a : Int) : spec_l01In.f a 0 1000000000 = some (okN a) := by
  unfold spec_l01In.f okN
  split
  · rename_i h
    simp [show 0 ≤ a from h]
  · rename_i h
    simp [show ¬ (0 ≤ a) from h]
theorem is_val (x : S51) : spec_l33Is.f x.f0 x.f1 x.f2 = some (okP x) := by
  unfold spec_l33Is.f okP
  rw [in_val, in_val, in_val]
  cases okN x.f0 <;> cases okN x.f1 <;> cases okN x.f2 <;> rfl
theorem is_same (a b c : Int) : impl_isProgress.f a b c = spec_l33Is.f a b c := rfl

def sums : List S51 → Int → Int → Int × Int × Int
  | [], f, s => (f, s, 0)
  | x :: r, f, s => if okP x then sums r (wrap64 (f + x.f1)) (wrap64 (s + x.f2)) else (0, 0, 2)
def total (xs : List S51) : Int × Int × Int := if 16 < xs.length then (0, 0, 2) else sums xs 0 1

theorem spec_loop (xs : List S51) (hm : xs.length ≤ maxLen) (d : Nat) : ∀ (n : Nat) (f s : Int), n + d = xs.length →
    Ev (fun k => spec_MergeProgress.l0 k xs f s n) (if 16 < xs.length then (0, 0, 2) else sums (xs.drop n) f s) := by
  unfold maxLen at hm
  induction d with
  | zero =>
    intro n f s hd
    refine Ev.step (f := fun _ => _) (fun k => by simp only [spec_MergeProgress.l0]; rfl) (ev_neg (by omega) ?_)
    rw [List.drop_of_length_le (by omega)]
    by_cases h : 16 < xs.length
    · exact ev_pos (by omega) (ev_const (by rw [if_pos h]))
    · exact ev_neg (by omega) (ev_const (by rw [if_neg h]; rfl))
  | succ d ih =>
    intro n f s hd
    refine Ev.step (f := fun _ => _) (fun k => by simp only [spec_MergeProgress.l0]; rfl) (ev_pos (by omega) (ev_pos (by omega) ?_))
    have hx : rd_T51 xs n = xs.getD n z51 := rfl
    rw [hx]
    refine ev_some (is_val _) ?_
    rw [drop_cons xs z51 n (by omega), sums]
    by_cases h : okP (xs.getD n z51) = true
    · refine ev_pos h ?_
      rw [wrap_succ n (by omega), if_pos h]
      exact ih (n + 1) _ _ (by omega)
    · refine ev_neg h (ev_const ?_)
      rw [if_neg h]
      split <;> rfl
theorem spec_val (xs : List S51) (hm : xs.length ≤ maxLen) : Ev (fun k => spec_MergeProgress.f k xs) (total xs) := spec_loop xs hm xs.length 0 0 1 (by omega)

theorem impl_loop (xs : List S51) (hm : xs.length ≤ maxLen) (d : Nat) : ∀ (n : Nat) (f s : Int), n + d = xs.length →
    Ev (fun k => impl_MergeProgress.l0 k f s xs (xs.length : Int) n) (sums (xs.drop n) f s) := by
  unfold maxLen at hm
  induction d with
  | zero =>
    intro n f s hd
    refine Ev.step (f := fun _ => _) (fun k => by simp only [impl_MergeProgress.l0]; rfl) (ev_neg (by omega) ?_)
    rw [List.drop_of_length_le (by omega)]
    exact ev_const rfl
  | succ d ih =>
    intro n f s hd
    refine Ev.step (f := fun _ => _) (fun k => by simp only [impl_MergeProgress.l0]; rfl) (ev_pos (by omega) (ev_pos (by omega) (ev_pos (by omega) ?_)))
    have hx : rd_T51 xs n = xs.getD n z51 := rfl
    rw [hx]
    refine ev_some (is_val _) ?_
    rw [drop_cons xs z51 n (by omega), sums]
    by_cases h : okP (xs.getD n z51) = true
    · refine ev_pos h ?_
      rw [wrap_succ n (by omega), if_pos h]
      exact ih (n + 1) _ _ (by omega)
    · refine ev_neg h (ev_const ?_)
      rw [if_neg h]
theorem impl_val (xs : List S51) (hm : xs.length ≤ maxLen) : Ev (fun k => impl_MergeProgress.f k xs) (total xs) := by
  unfold total
  by_cases h : 16 < xs.length
  · rw [if_pos h]
    exact ev_pos (by omega) (ev_const rfl)
  · rw [if_neg h]
    exact ev_neg (by omega) (impl_loop xs hm xs.length 0 0 1 (by omega))

def conv (x : S53) : S51 := ⟨x.f0, x.f1, x.f2⟩
theorem to_loop (xs : List S53) (hm : xs.length ≤ maxLen) (d : Nat) : ∀ (n : Nat) (ys : List S51), n + d = xs.length → ys.length = xs.length →
    Ev (fun k => laws_toProgressS.l0 k xs ys n) (ys.take n ++ (xs.drop n).map conv) := by
  unfold maxLen at hm
  induction d with
  | zero =>
    intro n ys hd hy
    refine Ev.step (f := fun _ => _) (fun k => by simp only [laws_toProgressS.l0]; rfl) (ev_neg (by omega) ?_)
    rw [List.drop_of_length_le (by omega), List.take_of_length_le (by omega)]
    exact ev_const (by simp)
  | succ d ih =>
    intro n ys hd hy
    refine Ev.step (f := fun _ => _) (fun k => by simp only [laws_toProgressS.l0]; rfl) (ev_pos (by omega) (ev_pos (by omega) ?_))
    have hx : rd_T53 xs n = xs.getD n z53 := rfl
    rw [hx]
    refine ev_some rfl (ev_pos (by omega) ?_)
    rw [wrap_succ n (by omega)]
    refine ev_eq (ih (n + 1) _ (by omega) (by simpa using hy)) ?_
    rw [drop_cons xs z53 n (by omega), Int.toNat_natCast, take_set_succ _ _ _ (by omega)]
    simp [conv]
theorem to_val (xs : List S53) (hm : xs.length ≤ maxLen) (hy : xs.length * 24 ≤ 140737488351232) : Ev (fun k => laws_toProgressS.f k xs) (xs.map conv) := by
  refine ev_pos (by omega) (ev_pos (by simp only [Int.toNat_natCast]; omega) ?_)
  exact ev_eq (to_loop xs hm xs.length 0 _ (by omega) (by simp)) (by simp)

theorem eq_loop (xs : List S51) (hm : xs.length ≤ maxLen) (d : Nat) : ∀ (n : Nat), n + d = xs.length → Ev (fun k => laws_eqProgressS.l0 k xs xs n) true := by
  unfold maxLen at hm
  induction d with
  | zero =>
    intro n hd
    exact Ev.step (f := fun _ => _) (fun k => by simp only [laws_eqProgressS.l0]; rfl) (ev_neg (by omega) (ev_const rfl))
  | succ d ih =>
    intro n hd
    refine Ev.step (f := fun _ => _) (fun k => by simp only [laws_eqProgressS.l0]; rfl) (ev_pos (by omega) (ev_pos (by omega) (ev_pos (by omega) ?_)))
    refine ev_some (a := true) (by simp [laws_eqProgress.f]) (ev_pos rfl ?_)
    rw [wrap_succ n (by omega)]
    exact ih (n + 1) (by omega)
theorem eq_val (xs : List S51) (hm : xs.length ≤ maxLen) : Ev (fun k => laws_eqProgressS.f k xs xs) true := ev_pos rfl (eq_loop xs hm xs.length 0 (by omega))

theorem FnExactMergeProgress (l : List S53) (hm : l.length ≤ maxLen) (hy : l.length * 24 ≤ 140737488351232) (_ : ∀ x ∈ l, (Lit.int .i64 x.f0).wf = true ∧ (Lit.int .i64 x.f1).wf = true ∧ (Lit.int .i64 x.f2).wf = true) :
    ∃ k, laws_FnExactMergeProgress.f k l = some true := by
  have hl : (l.map conv).length ≤ maxLen := by simpa using hm
  refine Ev.rounds (g := fun k => laws_FnExactMergeProgress.f k l) ?_
  have hsz : ∃ t, laws_szProgressS.f l 1048576 = some t := by
    unfold laws_szProgressS.f
    split
    · exact ⟨_, rfl⟩
    · exact ⟨_, rfl⟩
  obtain ⟨t, ht⟩ := hsz
  refine ev_some ht ?_
  by_cases h : t < 0
  · exact ev_pos h (ev_const rfl)
  · refine ev_neg h (Ev.bind (to_val l hm hy) (Ev.bind (spec_val _ hl) (Ev.bind (to_val l hm hy) (Ev.bind (impl_val _ hl) (ev_pos rfl (ev_pos rfl ?_))))))
    refine Ev.step (f := fun _ => _) (fun k => by simp only [laws_FnExactMergeProgress.j0]; rfl) (ev_neg (by simp) ?_)
    exact Ev.bind (to_val l hm hy) (Ev.bind (eq_val _ hl) (ev_pos rfl (ev_const rfl)))
end Go.Proofs.Ytfpofjckpbmcjaa.Pure
