/- What is proved: for every string the law FnExactRollWord answers true: the program's RollWord gives what the reference's gives. Bounds: the string is no longer than the reach lets a Go string be. -/
import Derived.Test.YtfpofjckpbmcjaaDoorPFnExactRollWordx2
import Derived.Test.YtfpofjckpbmcjaaDoorKit
namespace Go.Proofs.YtfpofjckpbmcjaaDoor.Pure
open Go.RowKit Go.Proofs.YtfpofjckpbmcjaaDoor.PFnExactRollWord Go.Proofs.YtfpofjckpbmcjaaDoorW.PrintWords Go.Proofs.YtfpofjckpbmcjaaDoorW.PrintLast Go.Proofs.YtfpofjckpbmcjaaDoor.Kit

def letter (c : UInt8) : Bool := ([114, 100, 108, 117] : List UInt8).contains c
theorem letter_int (c : UInt8) : letter c = (decide ((c.toNat : Int) = 114) || (decide ((c.toNat : Int) = 100) || (decide ((c.toNat : Int) = 108) || decide ((c.toNat : Int) = 117)))) := by
  have h : ∀ n : UInt8, (c == n) = decide ((c.toNat : Int) = (n.toNat : Int)) := by
    intro n
    rw [Bool.eq_iff_iff, beq_iff_eq, decide_eq_true_iff]
    exact ⟨fun e => by rw [e], fun e => UInt8.toNat_inj.1 (by omega)⟩
  simp only [letter, List.contains_cons, List.contains_nil, h]
  simp
theorem size_list (a : ByteArray) : a.data.toList.length = a.size := rfl
theorem bt_get (a : ByteArray) (n : Nat) (h : n < a.size) : bt a (n : Int) = ((a.data.toList.getD n 0).toNat : Int) := by
  unfold bt
  rw [dif_pos (by simpa using h), List.getD_eq_getElem?_getD, List.getElem?_eq_getElem (by simpa using h)]
  rfl
theorem word_loop (a : ByteArray) (hm : a.size ≤ 140737488351232) (d : Nat) : ∀ (n : Nat), n + d = a.size → Ev (fun k => spec_l23Is.l0 k a n) ((a.data.toList.drop n).all letter && decide ((a.size : Int) ≤ 200)) := by
  induction d with
  | zero =>
    intro n hd
    refine Ev.step (f := fun _ => _) (fun k => by simp only [spec_l23Is.l0]; rfl) (ev_neg (by omega) (ev_const ?_))
    rw [List.drop_of_length_le (by rw [size_list]; omega)]
    simp
  | succ d ih =>
    intro n hd
    refine Ev.step (f := fun _ => _) (fun k => by simp only [spec_l23Is.l0]; rfl) (ev_pos (by omega) (ev_pos (by omega) ?_))
    have hn := ih (n + 1) (by omega)
    rw [drop_cons a.data.toList 0 n (by rw [size_list]; omega), List.all_cons, letter_int, wrap_succ n (by omega), bt_get a n (by omega)]
    generalize ((a.data.toList.getD n 0).toNat : Int) = c
    by_cases h1 : c = 114
    · exact ev_pos h1 (by simpa [h1] using hn)
    · refine ev_neg h1 ?_
      by_cases h2 : c = 100
      · exact ev_pos h2 (by simpa [h2] using hn)
      · refine ev_neg h2 ?_
        by_cases h3 : c = 108
        · exact ev_pos h3 (by simpa [h3] using hn)
        · refine ev_neg h3 ?_
          by_cases h4 : c = 117
          · exact ev_pos h4 (by simpa [h4] using hn)
          · exact ev_neg h4 (ev_const (by simp [h1, h2, h3, h4]))
theorem word_val (a : ByteArray) (hm : a.size ≤ 140737488351232) : Ev (fun k => spec_l23Is.f k a) (a.data.toList.all letter && decide ((a.size : Int) ≤ 200)) := word_loop a hm a.size 0 (by omega)

theorem trim_empty (l cs : List UInt8) : (Lib.trimS l cs).isEmpty = l.all (fun c => cs.contains c) := by
  have hd : ∀ l : List UInt8, (l.dropWhile (cs.contains ·)).isEmpty = l.all (fun c => cs.contains c) := by
    intro l
    induction l with
    | nil => rfl
    | cons c l ih =>
      rw [List.dropWhile_cons, List.all_cons]
      cases cs.contains c with
      | true => simpa using ih
      | false => simp
  unfold Lib.trimS Lib.trimLeftS
  rw [hd]
  unfold Lib.trimRightS
  rw [List.all_reverse]
  have h2 : ∀ l : List UInt8, (l.dropWhile (cs.contains ·)).all (fun c => cs.contains c) = l.all (fun c => cs.contains c) := by
    intro l
    induction l with
    | nil => rfl
    | cons c l ih =>
      rw [List.dropWhile_cons, List.all_cons]
      cases h : cs.contains c with
      | true => simpa only [if_true, Bool.true_and] using ih
      | false => rw [if_neg (by simp), List.all_cons, h]
  rw [h2, List.all_reverse]
theorem isWord_val (a : ByteArray) : impl_isWord.f a = some (a.data.toList.all letter && decide ((a.size : Int) ≤ 200)) := by
  unfold impl_isWord.f
  by_cases h : (a.size : Int) ≤ 200
  · rw [if_pos h]
    rw [ByteArray.toList_eq]
    show some (Lib.trimS a.data.toList [114, 100, 108, 117]).isEmpty = _
    rw [trim_empty, show decide ((a.size : Int) ≤ 200) = true from decide_eq_true h, Bool.and_true]
    rfl
  · rw [if_neg h]
    simp [h]
theorem roll_same (k : Nat) : ∀ (a : ByteArray) (i x y z : Int), impl_rollWord.l0 k a i x y z = spec_l32Word.l0 k a i x y z := by
  induction k with
  | zero => intros; rfl
  | succ k ih =>
    intro a i x y z
    simp only [impl_rollWord.l0, spec_l32Word.l0, ih]
    rfl
theorem roll_some (x y z c : Int) : ∃ r, spec_l32Roll.f x y z c = some r := by
  unfold spec_l32Roll.f
  repeat' (first | exact ⟨_, rfl⟩ | split)
theorem roll_loop (a : ByteArray) (hm : a.size ≤ 140737488351232) (d : Nat) : ∀ (n : Nat) (x y z : Int), n + d = a.size → ∃ r, Ev (fun k => spec_l32Word.l0 k a n x y z) r := by
  induction d with
  | zero =>
    intro n x y z hd
    exact ⟨_, Ev.step (f := fun _ => _) (fun k => by simp only [spec_l32Word.l0]; rfl) (ev_neg (by omega) (ev_const rfl))⟩
  | succ d ih =>
    intro n x y z hd
    obtain ⟨⟨x1, y1, z1⟩, h1⟩ := roll_some x y z (bt a n)
    obtain ⟨r, hr⟩ := ih (n + 1) x1 y1 z1 (by omega)
    refine ⟨r, Ev.step (f := fun _ => _) (fun k => by simp only [spec_l32Word.l0]; rfl) (ev_pos (by omega) (ev_pos (by omega) (ev_some h1 ?_)))⟩
    rw [wrap_succ n (by omega)]
    exact hr
theorem FnExactRollWord (a : ByteArray) (hm : a.size ≤ 140737488351232) : ∃ k, laws_FnExactRollWord.f k a = some true := by
  refine Ev.rounds (g := fun k => laws_FnExactRollWord.f k a) ?_
  by_cases h : (a.size : Int) > 1048576
  · exact ev_pos h (ev_const rfl)
  · refine ev_neg h ?_
    obtain ⟨r, hr⟩ := roll_loop a hm a.size 0 0 1 2 (by omega)
    have hr' : Ev (fun k => impl_rollWord.f k 0 1 2 a) r := hr.congr (fun k => by unfold impl_rollWord.f; exact roll_same k a 0 0 1 2)
    have hs := word_val a hm
    have hi := isWord_val a
    cases hb : (a.data.toList.all letter && decide ((a.size : Int) ≤ 200)) with
    | false =>
      rw [hb] at hs hi
      refine Ev.bind (Ev.bind hs (ev_neg (by simp) (ev_const rfl))) (Ev.bind (ev_some hi (ev_neg (by simp) (ev_const rfl))) (ev_pos rfl (ev_pos rfl (ev_const rfl))))
    | true =>
      rw [hb] at hs hi
      refine Ev.bind (Ev.bind hs (ev_pos rfl (Ev.bind hr (ev_const rfl)))) (Ev.bind (ev_some hi (ev_pos rfl (Ev.bind hr' (ev_const rfl)))) (ev_pos rfl (ev_pos rfl (ev_const rfl))))
end Go.Proofs.YtfpofjckpbmcjaaDoor.Pure
