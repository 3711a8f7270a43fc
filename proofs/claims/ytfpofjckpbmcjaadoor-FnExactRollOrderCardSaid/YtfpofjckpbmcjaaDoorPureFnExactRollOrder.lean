/- What is proved: for every string the law FnExactRollOrder answers true: the program's RollOrder gives what the reference's gives, and both come to an end: the die lies as at first after at most twelve times. Bounds: the string is no longer than the reach lets a Go string be. -/
import Derived.Test.YtfpofjckpbmcjaaDoorPFnExactRollOrderx0
import Derived.Test.YtfpofjckpbmcjaaDoorPFnExactRollOrderx1
import Derived.Test.YtfpofjckpbmcjaaDoorPFnExactRollOrderx2
import Derived.Test.YtfpofjckpbmcjaaDoorPFnExactRollOrderx3
import Derived.Test.YtfpofjckpbmcjaaDoorKit
set_option linter.unusedVariables false
set_option linter.unusedSimpArgs false
namespace Go.Proofs.YtfpofjckpbmcjaaDoor.Pure
open Go.RowKit Go.Proofs.YtfpofjckpbmcjaaDoor.PFnExactRollOrder Go.Proofs.YtfpofjckpbmcjaaDoorW.PrintWords Go.Proofs.YtfpofjckpbmcjaaDoorW.PrintLast Go.Proofs.YtfpofjckpbmcjaaDoor.Kit
def letter (c : UInt8) : Bool := ([114, 100, 108, 117] : List UInt8).contains c
theorem letter_int (c : UInt8) : letter c = (decide ((c.toNat : Int) = 114) || (decide ((c.toNat : Int) = 100) || (decide ((c.toNat : Int) = 108) || decide ((c.toNat : Int) = 117)))) := by
  have h : ∀ n : UInt8, (c == n) = decide ((c.toNat : Int) = (n.toNat : Int)) := by
    intro n
    rw [Bool.eq_iff_iff, beq_iff_eq, decide_eq_true_iff]
    exact ⟨fun e => by rw [e], fun e => UInt8.toNat_inj.1 (by omega)⟩
  simp only [letter, List.contains_cons, List.contains_nil, h]
  simp
theorem size_list (a : ByteArray) : a.data.toList.length = a.size := rfl
theorem bt_get (a : ByteArray) (n : Nat) (h : n < a.size) : bt a (n : Int) = ((a.data.toList.getD n 0).toNat : Int) := by
  unfold bt
  rw [dif_pos (by simpa using h), List.getD_eq_getElem?_getD, List.getElem?_eq_getElem (by simpa using h)]
  rfl
theorem word_loop (a : ByteArray) (hm : a.size ≤ 140737488351232) (d : Nat) : ∀ (n : Nat), n + d = a.size → Ev (fun k => spec_l23Is.l0 k a n) ((a.data.toList.drop n).all letter && decide ((a.size : Int) ≤ 200)) := by
  induction d with
  | zero =>
    intro n hd
    refine Ev.step (f := fun _ => _) (fun k => by simp only [spec_l23Is.l0]; rfl) (ev_neg (by omega) (ev_const ?_))
    rw [List.drop_of_length_le (by rw [size_list]; omega)]
    simp
  | succ d ih =>
    intro n hd
    refine Ev.step (f := fun _ => _) (fun k => by simp only [spec_l23Is.l0]; rfl) (ev_pos (by omega) (ev_pos (by omega) ?_))
    have hn := ih (n + 1) (by omega)
    rw [drop_cons a.data.toList 0 n (by rw [size_list]; omega), List.all_cons, letter_int, wrap_succ n (by omega), bt_get a n (by omega)]
    generalize ((a.data.toList.getD n 0).toNat : Int) = c
    by_cases h1 : c = 114
    · exact ev_pos h1 (by simpa [h1] using hn)
    · refine ev_neg h1 ?_
      by_cases h2 : c = 100
      · exact ev_pos h2 (by simpa [h2] using hn)
      · refine ev_neg h2 ?_
        by_cases h3 : c = 108
        · exact ev_pos h3 (by simpa [h3] using hn)
        · refine ev_neg h3 ?_
          by_cases h4 : c = 117
          · exact ev_pos h4 (by simpa [h4] using hn)
          · exact ev_neg h4 (ev_const (by simp [h1, h2, h3, h4]))
theorem word_val (a : ByteArray) (hm : a.size ≤ 140737488351232) : Ev (fun k => spec_l23Is.f k a) (a.data.toList.all letter && decide ((a.size : Int) ≤ 200)) := word_loop a hm a.size 0 (by omega)

theorem trim_empty (l cs : List UInt8) : (Lib.trimS l cs).isEmpty = l.all (fun c => cs.contains c) := by
  have hd : ∀ l : List UInt8, (l.dropWhile (cs.contains ·)).isEmpty = l.all (fun c => cs.contains c) := by
    intro l
    induction l with
    | nil => rfl
    | cons c l ih =>
      rw [List.dropWhile_cons, List.all_cons]
      cases cs.contains c with
      | true => simpa using ih
      | false => simp
  unfold Lib.trimS Lib.trimLeftS
  rw [hd]
  unfold Lib.trimRightS
  rw [List.all_reverse]
  have h2 : ∀ l : List UInt8, (l.dropWhile (cs.contains ·)).all (fun c => cs.contains c) = l.all (fun c => cs.contains c) := by
    intro l
    induction l with
    | nil => rfl
    | cons c l ih =>
      rw [List.dropWhile_cons, List.all_cons]
      cases h : cs.contains c with
      | true => simpa only [if_true, Bool.true_and] using ih
      | false => rw [if_neg (by simp), List.all_cons, h]
  rw [h2, List.all_reverse]
theorem isWord_val (a : ByteArray) : impl_isWord.f a = some (a.data.toList.all letter && decide ((a.size : Int) ≤ 200)) := by
  unfold impl_isWord.f
  by_cases h : (a.size : Int) ≤ 200
  · rw [if_pos h]
    rw [ByteArray.toList_eq]
    show some (Lib.trimS a.data.toList [114, 100, 108, 117]).isEmpty = _
    rw [trim_empty, show decide ((a.size : Int) ≤ 200) = true from decide_eq_true h, Bool.and_true]
    rfl
  · rw [if_neg h]
    simp [h]
theorem roll_same (k : Nat) : ∀ (a : ByteArray) (i x y z : Int), impl_rollWord.l0 k a i x y z = spec_l32Word.l0 k a i x y z := by
  induction k with
  | zero => intros; rfl
  | succ k ih =>
    intro a i x y z
    simp only [impl_rollWord.l0, spec_l32Word.l0, ih]
    rfl
theorem roll_some (x y z c : Int) : ∃ r, spec_l32Roll.f x y z c = some r := by
  unfold spec_l32Roll.f
  repeat' (first | exact ⟨_, rfl⟩ | split)
theorem roll_loop (a : ByteArray) (hm : a.size ≤ 140737488351232) (d : Nat) : ∀ (n : Nat) (x y z : Int), n + d = a.size → ∃ r, Ev (fun k => spec_l32Word.l0 k a n x y z) r := by
  induction d with
  | zero =>
    intro n x y z hd
    exact ⟨_, Ev.step (f := fun _ => _) (fun k => by simp only [spec_l32Word.l0]; rfl) (ev_neg (by omega) (ev_const rfl))⟩
  | succ d ih =>
    intro n x y z hd
    obtain ⟨⟨x1, y1, z1⟩, h1⟩ := roll_some x y z (bt a n)
    obtain ⟨r, hr⟩ := ih (n + 1) x1 y1 z1 (by omega)
    refine ⟨r, Ev.step (f := fun _ => _) (fun k => by simp only [spec_l32Word.l0]; rfl) (ev_pos (by omega) (ev_pos (by omega) (ev_some h1 ?_)))⟩
    rw [wrap_succ n (by omega)]
    exact hr
/-! A die and what a word does to it: numbers from 0 to 5, three in line; a turn of the three, some of them counted from the other end. -/
abbrev Die := Int × Int × Int
def ok (d : Die) : Prop := (0 ≤ d.1 ∧ d.1 ≤ 5) ∧ (0 ≤ d.2.1 ∧ d.2.1 ≤ 5) ∧ (0 ≤ d.2.2 ∧ d.2.2 ≤ 5)
/-- One place of a turn: which number it takes, and whether from the other end. -/
abbrev Pl := Fin 3 × Bool
abbrev Turn := Pl × Pl × Pl
def at3 (d : Die) (i : Fin 3) : Int := if i = 0 then d.1 else if i = 1 then d.2.1 else d.2.2
def pl (p : Pl) (d : Die) : Int := if p.2 then 5 - at3 d p.1 else at3 d p.1
def act (t : Turn) (d : Die) : Die := (pl t.1 d, pl t.2.1 d, pl t.2.2 d)
def at3t (t : Turn) (i : Fin 3) : Pl := if i = 0 then t.1 else if i = 1 then t.2.1 else t.2.2
def plt (p : Pl) (t : Turn) : Pl := ((at3t t p.1).1, Bool.xor p.2 (at3t t p.1).2)
def comp (s t : Turn) : Turn := (plt s.1 t, plt s.2.1 t, plt s.2.2 t)
theorem at3_ok {d : Die} (h : ok d) (i : Fin 3) : 0 ≤ at3 d i ∧ at3 d i ≤ 5 := by
  unfold at3
  split
  · exact h.1
  · split
    · exact h.2.1
    · exact h.2.2
theorem act_ok {d : Die} (h : ok d) (t : Turn) : ok (act t d) := by
  have hp : ∀ p : Pl, 0 ≤ pl p d ∧ pl p d ≤ 5 := by
    intro p
    have := at3_ok h p.1
    unfold pl
    split <;> omega
  exact ⟨hp _, hp _, hp _⟩
theorem at3_act (t : Turn) (d : Die) (i : Fin 3) : at3 (act t d) i = pl (at3t t i) d := by
  unfold at3 at3t
  split
  · rfl
  · split <;> rfl
theorem pl_act (p : Pl) (t : Turn) (d : Die) : pl p (act t d) = pl (plt p t) d := by
  obtain ⟨i, b⟩ := p
  show (if b then 5 - at3 (act t d) i else at3 (act t d) i) = (if Bool.xor b (at3t t i).2 then 5 - at3 d (at3t t i).1 else at3 d (at3t t i).1)
  rw [at3_act]
  unfold pl
  cases b <;> cases (at3t t i).2 <;> simp
  omega
theorem act_comp (s t : Turn) (d : Die) : act s (act t d) = act (comp s t) d := by
  exact Prod.ext (pl_act _ _ _) (Prod.ext (pl_act _ _ _) (pl_act _ _ _))
def one : Turn := ((0, false), (1, false), (2, false))
theorem act_one (d : Die) : act one d = d := rfl
/-- No two places take the same number. -/
def good (t : Turn) : Bool := t.1.1 != t.2.1.1 && (t.1.1 != t.2.2.1 && t.2.1.1 != t.2.2.1)
def pow (t : Turn) : Nat → Turn
  | 0 => one
  | n + 1 => comp (pow t n) t
theorem pow12_all : ∀ (a b c : Fin 3) (x y z : Bool), good ((a, x), (b, y), (c, z)) = true → pow ((a, x), (b, y), (c, z)) 12 = one := by decide +kernel
theorem pow12 (t : Turn) (h : good t = true) : pow t 12 = one := pow12_all _ _ _ _ _ _ h
def idx (t : Turn) (i : Fin 3) : Fin 3 := if i = 0 then t.1.1 else if i = 1 then t.2.1.1 else t.2.2.1
theorem idx_eq (t : Turn) (i : Fin 3) : (at3t t i).1 = idx t i := by
  unfold at3t idx
  split
  · rfl
  · split <;> rfl
theorem good_idx : ∀ (a b c p q r : Fin 3), (a != b && (a != c && b != c)) = true → (p != q && (p != r && q != r)) = true →
    ((if a = 0 then p else if a = 1 then q else r) != (if b = 0 then p else if b = 1 then q else r) && ((if a = 0 then p else if a = 1 then q else r) != (if c = 0 then p else if c = 1 then q else r) && (if b = 0 then p else if b = 1 then q else r) != (if c = 0 then p else if c = 1 then q else r))) = true := by decide +kernel
theorem good_comp (s t : Turn) (hs : good s = true) (ht : good t = true) : good (comp s t) = true := by
  show ((at3t t s.1.1).1 != (at3t t s.2.1.1).1 && ((at3t t s.1.1).1 != (at3t t s.2.2.1).1 && (at3t t s.2.1.1).1 != (at3t t s.2.2.1).1)) = true
  rw [idx_eq, idx_eq, idx_eq]
  exact good_idx _ _ _ _ _ _ hs ht
/-- What a letter does. -/
def rollT (c : Int) : Turn := if c = 114 then ((1, false), (0, true), (2, false)) else if c = 100 then ((2, false), (1, false), (0, true)) else if c = 108 then ((1, true), (0, false), (2, false)) else ((2, true), (1, false), (0, false))
theorem rollT_good (c : Int) : good (rollT c) = true := by
  unfold rollT
  repeat' (first | rfl | split)
theorem roll_act (d : Die) (h : ok d) (c : Int) : spec_l32Roll.f d.1 d.2.1 d.2.2 c = some (act (rollT c) d) := by
  obtain ⟨x, y, z⟩ := d
  obtain ⟨⟨h1, h2⟩, ⟨h3, h4⟩, h5, h6⟩ := h
  have w1 : wrap64 (5 - x) = 5 - x := wrap_id _ (by simp only at *; omega) (by simp only at *; omega)
  have w2 : wrap64 (5 - y) = 5 - y := wrap_id _ (by simp only at *; omega) (by simp only at *; omega)
  have w3 : wrap64 (5 - z) = 5 - z := wrap_id _ (by simp only at *; omega) (by simp only at *; omega)
  unfold spec_l32Roll.f rollT
  simp only [w1, w2, w3]
  split
  · rfl
  · split
    · rfl
    · split <;> rfl
def wordT : List UInt8 → Turn
  | [] => one
  | c :: l => comp (wordT l) (rollT (c.toNat : Int))
theorem wordT_good : ∀ l, good (wordT l) = true
  | [] => rfl
  | c :: l => good_comp _ _ (wordT_good l) (rollT_good _)
theorem wordT_loop (a : ByteArray) (hm : a.size ≤ 140737488351232) (d : Nat) : ∀ (n : Nat) (x : Die), ok x → n + d = a.size → Ev (fun k => spec_l32Word.l0 k a n x.1 x.2.1 x.2.2) (act (wordT (a.data.toList.drop n)) x) := by
  induction d with
  | zero =>
    intro n x hx hd
    refine Ev.step (f := fun _ => _) (fun k => by simp only [spec_l32Word.l0]; rfl) (ev_neg (by omega) (ev_const ?_))
    rw [List.drop_of_length_le (by rw [size_list]; omega)]
    rfl
  | succ d ih =>
    intro n x hx hd
    have hr := ih (n + 1) (act (rollT (bt a n)) x) (act_ok hx _) (by omega)
    refine Ev.step (f := fun _ => _) (fun k => by simp only [spec_l32Word.l0]; rfl) (ev_pos (by omega) (ev_pos (by omega) (ev_some (roll_act x hx _) ?_)))
    rw [wrap_succ n (by omega), drop_cons a.data.toList 0 n (by rw [size_list]; omega), wordT, ← act_comp, ← bt_get a n (by omega)]
    exact hr
theorem wordT_val (a : ByteArray) (hm : a.size ≤ 140737488351232) (x : Die) (hx : ok x) : Ev (fun k => spec_l32Word.f k x.1 x.2.1 x.2.2 a) (act (wordT a.data.toList) x) := wordT_loop a hm a.size 0 x hx (by omega)
theorem wordT_val' (a : ByteArray) (hm : a.size ≤ 140737488351232) (x : Die) (hx : ok x) : Ev (fun k => impl_rollWord.f k x.1 x.2.1 x.2.2 a) (act (wordT a.data.toList) x) :=
  (wordT_val a hm x hx).congr (fun k => by unfold impl_rollWord.f; exact roll_same k a 0 _ _ _)
def firstD : Die := (0, 1, 2)
theorem firstD_ok : ok firstD := ⟨⟨by decide, by decide⟩, ⟨by decide, by decide⟩, by decide, by decide⟩
theorem order_loop (a : ByteArray) (hm : a.size ≤ 140737488351232) (j : Nat) : ∀ (n : Int) (x : Die), ok x → act (pow (wordT a.data.toList) j) x = firstD →
    ∃ r, Ev (fun k => spec_RollOrder.l0 k a n 0 1 2 x.1 x.2.1 x.2.2) r ∧ Ev (fun k => impl_RollOrder.l0 k a n x.1 x.2.1 x.2.2) r := by
  induction j with
  | zero =>
    intro n x hx hp
    have : x = (0, 1, 2) := hp
    subst this
    exact ⟨(n, 0), Ev.step (f := fun _ => _) (fun k => by simp only [spec_RollOrder.l0]; rfl) (ev_neg (by decide) (ev_const rfl)), Ev.step (f := fun _ => _) (fun k => by simp only [impl_RollOrder.l0]; rfl) (ev_neg (by decide) (ev_const rfl))⟩
  | succ j ih =>
    intro n x hx hp
    by_cases c : (!(x.1 == 0) || (!(x.2.1 == 1) || (!(x.2.2 == 2)))) = true
    · obtain ⟨r, h1, h2⟩ := ih (wrap64 (n + 1)) (act (wordT a.data.toList) x) (act_ok hx _) (by rw [act_comp]; exact hp)
      exact ⟨r, Ev.step (f := fun _ => _) (fun k => by simp only [spec_RollOrder.l0]; rfl) (ev_pos c (Ev.bind (wordT_val a hm x hx) h1)), Ev.step (f := fun _ => _) (fun k => by simp only [impl_RollOrder.l0]; rfl) (ev_pos c (Ev.bind (wordT_val' a hm x hx) h2))⟩
    · exact ⟨(n, 0), Ev.step (f := fun _ => _) (fun k => by simp only [spec_RollOrder.l0]; rfl) (ev_neg c (ev_const rfl)), Ev.step (f := fun _ => _) (fun k => by simp only [impl_RollOrder.l0]; rfl) (ev_neg c (ev_const rfl))⟩
theorem FnExactRollOrder (a : ByteArray) (hm : a.size ≤ 140737488351232) : ∃ k, laws_FnExactRollOrder.f k a = some true := by
  refine Ev.rounds (g := fun k => laws_FnExactRollOrder.f k a) ?_
  by_cases h : (a.size : Int) > 1048576
  · exact ev_pos h (ev_const rfl)
  · refine ev_neg h ?_
    have hs := word_val a hm
    have hi := isWord_val a
    cases hb : (a.data.toList.all letter && decide ((a.size : Int) ≤ 200)) with
    | false =>
      rw [hb] at hs hi
      refine Ev.bind (Ev.bind hs (ev_neg (by simp) (ev_const rfl))) (Ev.bind (ev_some hi (ev_neg (by simp) (ev_const rfl))) (ev_pos rfl (ev_pos rfl (ev_const rfl))))
    | true =>
      rw [hb] at hs hi
      obtain ⟨r, h1, h2⟩ := order_loop a hm 11 1 (act (wordT a.data.toList) firstD) (act_ok firstD_ok _) (by
        rw [act_comp]
        show act (pow (wordT a.data.toList) 12) firstD = firstD
        rw [pow12 _ (wordT_good _)]
        rfl)
      refine Ev.bind (Ev.bind hs (ev_pos rfl (Ev.bind (wordT_val a hm firstD firstD_ok) h1))) (Ev.bind (ev_some hi (ev_pos rfl (Ev.bind (wordT_val' a hm firstD firstD_ok) h2))) (ev_pos rfl (ev_pos rfl (ev_const rfl))))
end Go.Proofs.YtfpofjckpbmcjaaDoor.Pure
