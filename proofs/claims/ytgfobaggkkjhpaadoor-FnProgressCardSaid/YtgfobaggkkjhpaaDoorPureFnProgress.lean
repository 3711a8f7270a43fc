/- What is proved: for every code the law FnProgress answers true: progresses are recovered from their texts, and merged ones add up; the program's functions and the reference's agree on what is drawn. No condition beyond the kinds of the bytes. -/
import Derived.Test.YtgfobaggkkjhpaaDoorPFnProgressx0
import Derived.Test.YtgfobaggkkjhpaaDoorPFnProgressx1
import Derived.Test.YtgfobaggkkjhpaaDoorPFnProgressx2
import Derived.Test.YtgfobaggkkjhpaaDoorPFnProgressx3
import Derived.Test.YtgfobaggkkjhpaaDoorPFnProgressx4
import Derived.Test.YtgfobaggkkjhpaaDoorPFnProgressx5
import Derived.Test.YtgfobaggkkjhpaaDoorPFnProgressx6
import Derived.Test.YtgfobaggkkjhpaaDoorPFnProgressx7
import Derived.Test.YtgfobaggkkjhpaaDoorPFnProgressx8
import Derived.Test.YtgfobaggkkjhpaaDoorPFnProgressx9
import Derived.Test.YtgfobaggkkjhpaaDoorKit
import Derived.Lib.Split
import Derived.Lib.SplitLaws
import Derived.Lib.Join
import Derived.Lib.ItoaLen
import Derived.Lib.ParseIntBTie
set_option linter.unusedVariables false
set_option linter.unusedSimpArgs false
namespace Go.Proofs.YtgfobaggkkjhpaaDoor.Pure
open Go.RowKit Go.Proofs.YtgfobaggkkjhpaaDoor.PFnProgress Go.Proofs.YtgfobaggkkjhpaaDoorW.PrintWords Go.Proofs.YtgfobaggkkjhpaaDoorW.PrintLast Go.Proofs.YtgfobaggkkjhpaaDoor.Kit
/-! Decimal: the reference's digits are the library's. -/
theorem bytes_ext {a b : ByteArray} (h : a.data.toList = b.data.toList) : a = b := WideShapes.bytes_inj h
theorem decimal_list (u : Nat) : (decimal (u : Int)).data.toList = Lib.decDigits u := by
  show (Lib.itoa (u : Int)).toArray.toList = _
  rw [Lib.itoa_nonneg]
theorem decimal_size (n : Int) (h0 : -9223372036854775808 ≤ n) (h1 : n ≤ 9223372036854775807) : (decimal n).size ≤ 21 := by
  have := Lib.itoa_length_le n h0 h1
  show (Lib.itoa n).toArray.size ≤ 21
  simpa using this
theorem append_list (a b : ByteArray) : (a ++ b).data.toList = a.data.toList ++ b.data.toList := by simp
theorem dec_val (u : Nat) : u ≤ 9000000000000000000 → Ev (fun k => spec_l01Dec.f k (u : Int)) (decimal u) := by
  induction u using Nat.strongRecOn with
  | _ u ih =>
    intro hu
    refine Ev.step (f := fun _ => _) (fun k => by simp only [spec_l01Dec.f]; rfl) ?_
    by_cases h : u < 10
    · refine ev_pos (by omega) (ev_const ?_)
      congr 1
      refine bytes_ext ?_
      rw [decimal_list, Lib.decDigits_one h, strOfNums_data, wrap_id _ (by omega) (by omega)]
      simp only [List.map_cons, List.map_nil]
      congr 2
      omega
    · refine ev_neg (by omega) ?_
      have h1 := ih (u / 10) (by omega) (by omega)
      have e1 : wrap64 (Int.tdiv (u : Int) 10) = ((u / 10 : Nat) : Int) := by
        rw [Int.tdiv_eq_ediv_of_nonneg (by omega), wrap_id _ (by omega) (by omega)]
        omega
      rw [e1]
      refine Ev.bind h1 ?_
      refine ev_some rfl (ev_pos ?_ (ev_const ?_))
      · have := decimal_size ((u / 10 : Nat) : Int) (by omega) (by omega)
        rw [strOfNums_size]
        simp only [List.length_cons, List.length_nil]
        omega
      · congr 1
        refine bytes_ext ?_
        rw [append_list, decimal_list, decimal_list, Lib.decDigits.eq_def u, dif_neg h, strOfNums_data]
        congr 1
        simp only [List.map_cons, List.map_nil]
        rw [Int.tmod_eq_emod_of_nonneg (by omega), wrap_id _ (by omega) (by omega)]
        congr 2
        omega
/-! Cut at every instance of one byte: the library's strings.Split and the reference's loop come to the same list. -/
def spl (c : UInt8) : List UInt8 → List (List UInt8)
  | [] => [[]]
  | b :: l => if b = c then [] :: spl c l else match spl c l with
    | [] => [[b]]
    | p :: r => (b :: p) :: r
def pre (p : List UInt8) : List (List UInt8) → List (List UInt8)
  | [] => [p]
  | q :: r => (p ++ q) :: r
def mkB (l : List UInt8) : ByteArray := ⟨l.toArray⟩
theorem spl_ne (c : UInt8) (l : List UInt8) : spl c l ≠ [] := by
  cases l with
  | nil => simp [spl]
  | cons b l =>
    unfold spl
    split
    · simp
    · split <;> simp
theorem pre_nil (L : List (List UInt8)) (h : L ≠ []) : pre [] L = L := by
  cases L with
  | nil => exact absurd rfl h
  | cons q r => simp [pre]
theorem pre_cons (c b : UInt8) (h : b ≠ c) (p l : List UInt8) : pre p (spl c (b :: l)) = pre (p ++ [b]) (spl c l) := by
  rw [spl, if_neg h]
  split
  · next e => exact absurd e (spl_ne c l)
  · next q r e => rw [e]; simp [pre]
theorem splitK_one (c : UInt8) : ∀ l : List UInt8, Lib.splitK [c] 0 (Lib.count l [c]) l = spl c l
  | [] => by rw [Lib.count_miss (by simp [Lib.index])]; rfl
  | b :: l => by
    have ih := splitK_one c l
    by_cases h : b = c
    · subst h
      have hix : Lib.index (b :: l) [b] = 0 := by rw [Lib.index]; simp [List.isPrefixOf]
      rw [Lib.count_cons_eq, Nat.add_comm, Lib.splitK, if_neg (by rw [hix]; decide), hix, spl, if_pos rfl, ← ih]
      simp
    · have hp : ([c] : List UInt8).isPrefixOf (b :: l) = false := by simp [List.isPrefixOf, Ne.symm h]
      have hix : Lib.index (b :: l) [c] = if Lib.index l [c] == -1 then -1 else Lib.index l [c] + 1 := by rw [Lib.index, hp]; simp
      rw [Lib.count_cons_ne b c l h, spl, if_neg h, ← ih]
      cases hk : Lib.count l [c] with
      | zero => rfl
      | succ k =>
        have hm : ¬ (Lib.index l [c] == -1) = true := fun e => by
          rw [Lib.count_miss (beq_iff_eq.1 e)] at hk
          cases hk
        have hge := Lib.index_ge l [c]
        have hne : Lib.index l [c] ≠ -1 := fun e => hm (beq_iff_eq.2 e)
        obtain ⟨j, hj⟩ : ∃ j : Nat, Lib.index l [c] = j := ⟨(Lib.index l [c]).toNat, by omega⟩
        rw [if_neg hm, hj] at hix
        have hm2 : ¬ (Lib.index (b :: l) [c] == -1) = true := fun e => by rw [hix] at e; have := beq_iff_eq.1 e; omega
        rw [Lib.splitK, if_neg hm2, Lib.splitK, if_neg hm, hix, hj]
        have e1 : ((j : Int) + 1).toNat = j + 1 := by omega
        rw [e1]
        simp
theorem mkB_data (s : ByteArray) : mkB s.data.toList = s := by
  obtain ⟨⟨l⟩⟩ := s
  rfl
theorem splitL_one (s : ByteArray) (c : UInt8) : splitL s ⟨#[c]⟩ = (spl c s.data.toList).map mkB := by
  have h := Lib.splitB_data ⟨#[c]⟩ 0 (Lib.countB s ⟨#[c]⟩) s
  rw [show Lib.countB s ⟨#[c]⟩ = Lib.count s.data.toList [c] from rfl, show (⟨#[c]⟩ : ByteArray).data.toList = [c] from rfl, splitK_one] at h
  rw [← h, List.map_map]
  conv => lhs; rw [← List.map_id (splitL s ⟨#[c]⟩)]
  apply List.map_congr_left
  intro x _
  exact (mkB_data x).symm
theorem spl_len (c : UInt8) (l : List UInt8) : ((spl c l).map fun x => x.length + 1).sum = l.length + 1 := by
  induction l with
  | nil => rfl
  | cons b l ih =>
    rw [spl]
    split
    · simp [ih]; omega
    · split
      · next e => exact absurd e (spl_ne c l)
      · next q r e => rw [e] at ih; simp at ih ⊢; omega
theorem spl_pieces (c : UInt8) (l : List UInt8) : ∀ x ∈ spl c l, x.length ≤ l.length := by
  induction l with
  | nil => simp [spl]
  | cons b l ih =>
    intro x hx
    rw [spl] at hx
    split at hx
    · rcases List.mem_cons.1 hx with rfl | hx
      · simp
      · have := ih x hx; simp; omega
    · split at hx
      · next e => exact absurd e (spl_ne c l)
      · next q r e =>
        rcases List.mem_cons.1 hx with rfl | hx
        · have := ih q (by rw [e]; simp); simp; omega
        · have := ih x (by rw [e]; simp [hx]); simp; omega
theorem data_len (s : ByteArray) : s.data.toList.length = s.size := Array.length_toList
theorem extract_mkB (s : ByteArray) (a b : Nat) : s.extract a b = mkB ((s.data.toList.take b).drop a) := by
  apply ByteArray.ext
  apply Array.toList_inj.1
  rw [Lib.extract_data]
  simp [mkB, List.drop_take]
theorem bt_getD (s : ByteArray) (i : Nat) (hi : i < s.size) (c : UInt8) : bt s (i : Int) = (c.toNat : Int) ↔ s.data.toList.getD i 0 = c := by
  have e : bt s (i : Int) = ((s.data.toList.getD i 0).toNat : Int) := by
    unfold bt
    have h' : i < s.data.toList.length := by rw [data_len]; exact hi
    rw [dif_pos (by simpa using hi), List.getD_eq_getElem?_getD, List.getElem?_eq_getElem h']
    rfl
  rw [e]
  constructor
  · intro h
    exact UInt8.toNat_inj.1 (by omega)
  · intro h
    rw [h]
theorem l01Split_loop (s : ByteArray) (c : UInt8) (hs : s.size ≤ 1000000000) (d : Nat) : ∀ (i a : Nat) (out : List ByteArray), i + d = s.size → a ≤ i → out.length ≤ i →
    Ev (fun k => spec_l01Split.l0 k s (c.toNat : Int) out a i) (out ++ (pre ((s.data.toList.take i).drop a) (spl c (s.data.toList.drop i))).map mkB) := by
  induction d with
  | zero =>
    intro i a out hi ha ho
    refine Ev.step (f := fun _ => _) (fun k => by simp only [spec_l01Split.l0]; rfl) (ev_pos (by omega) (ev_pos (by omega) (ev_pos (by omega) (ev_pos (by omega) (ev_pos (by omega) ?_)))))
    rw [wrap_succ i (by omega)]
    refine Ev.step (f := fun _ => _) (fun k => by simp only [spec_l01Split.l0]; rfl) (ev_neg (by omega) (ev_const ?_))
    rw [show s.data.toList.drop i = [] from List.drop_of_length_le (by rw [data_len]; omega), Int.toNat_natCast, Int.toNat_natCast, extract_mkB]
    simp [spl, pre]
  | succ d ih =>
    intro i a out hi ha ho
    have hl : i < s.data.toList.length := by rw [data_len]; omega
    have hd : s.data.toList.drop i = s.data.toList.getD i 0 :: s.data.toList.drop (i + 1) := drop_cons _ _ _ hl
    have ht : s.data.toList.take (i + 1) = s.data.toList.take i ++ [s.data.toList.getD i 0] := take_succ_getD _ _ _ hl
    refine Ev.step (f := fun _ => _) (fun k => by simp only [spec_l01Split.l0]; rfl) (ev_pos (by omega) (ev_neg (by omega) (ev_pos (by omega) (ev_pos (by omega) ?_))))
    by_cases hc : s.data.toList.getD i 0 = c
    · refine ev_pos ((bt_getD s i (by omega) c).2 hc) (ev_pos (by omega) (ev_pos (by omega) (ev_pos (by omega) ?_)))
      rw [wrap_succ i (by omega)]
      refine ev_eq (ih (i + 1) (i + 1) _ (by omega) (Nat.le_refl _) (by simp; omega)) ?_
      rw [hd, hc, spl, if_pos rfl, Int.toNat_natCast, Int.toNat_natCast, extract_mkB, show List.drop (i + 1) (List.take (i + 1) s.data.toList) = [] from List.drop_of_length_le (by rw [List.length_take]; omega), pre_nil _ (spl_ne _ _)]
      simp [pre]
    · refine ev_neg (fun e => hc ((bt_getD s i (by omega) c).1 e)) ?_
      rw [wrap_succ i (by omega)]
      refine ev_eq (ih (i + 1) a _ (by omega) (by omega) (by omega)) ?_
      rw [hd, pre_cons _ _ hc, ht, List.drop_append_of_le_length (by rw [List.length_take]; omega)]
theorem l01Split_val (s : ByteArray) (c : UInt8) (hs : s.size ≤ 1000000000) : Ev (fun k => spec_l01Split.f k s (c.toNat : Int)) ((spl c s.data.toList).map mkB) := by
  refine ev_eq (l01Split_loop s c hs s.size 0 0 [] (by omega) (Nat.le_refl _) (by simp)) ?_
  simp [pre_nil _ (spl_ne _ _)]
/-! Decimal numerals read: the library's parse of what the library writes. -/
theorem digit_nat (d : Nat) (h : d < 10) : (UInt8.ofNat (48 + d)).toNat = 48 + d := by
  rw [UInt8.toNat_ofNat']
  omega
theorem dec_digits (u : Nat) : ∀ c ∈ Lib.decDigits u, 48 ≤ c.toNat ∧ c.toNat ≤ 57 := by
  induction u using Nat.strongRecOn with
  | _ u ih =>
    intro c hc
    by_cases h : u < 10
    · rw [Lib.decDigits_one h, List.mem_singleton] at hc
      subst hc
      rw [digit_nat u h]
      omega
    · rw [Lib.decDigits.eq_def u, dif_neg h, List.mem_append, List.mem_singleton] at hc
      rcases hc with hc | hc
      · exact ih (u / 10) (by omega) c hc
      · subst hc
        rw [digit_nat (u % 10) (by omega)]
        omega
theorem parse_app (r : List UInt8) : ∀ (l : List UInt8) (acc v : Nat), Lib.parseUint10 acc l = .ok v → Lib.parseUint10 acc (l ++ r) = Lib.parseUint10 v r
  | [], acc, v, h => by
    simp only [Lib.parseUint10] at h
    injection h with h
    rw [h]
    rfl
  | c :: l, acc, v, h => by
    simp only [Lib.parseUint10] at h
    rw [List.cons_append, Lib.parseUint10]
    by_cases h1 : 48 ≤ c.toNat ∧ c.toNat ≤ 57
    · rw [if_pos h1] at h ⊢
      by_cases h2 : 1844674407370955162 ≤ acc
      · rw [if_pos h2] at h; cases h
      · rw [if_neg h2] at h ⊢
        by_cases h3 : 18446744073709551616 ≤ acc * 10 + (c.toNat - 48)
        · rw [if_pos h3] at h; cases h
        · rw [if_neg h3] at h ⊢
          exact parse_app r l _ v h
    · rw [if_neg h1] at h; cases h
theorem parse_dec (u : Nat) : u ≤ 1000000000000000000 → Lib.parseUint10 0 (Lib.decDigits u) = .ok u := by
  induction u using Nat.strongRecOn with
  | _ u ih =>
    intro hu
    by_cases h : u < 10
    · rw [Lib.decDigits_one h, Lib.parseUint10, digit_nat u h, if_pos (by omega), if_neg (by omega), if_neg (by omega), Lib.parseUint10]
      congr 1
      omega
    · rw [Lib.decDigits.eq_def u, dif_neg h, parse_app _ _ _ _ (ih (u / 10) (by omega) (by omega)), Lib.parseUint10, digit_nat (u % 10) (by omega), if_pos (by omega), if_neg (by omega), if_neg (by omega), Lib.parseUint10]
      congr 1
      omega
theorem dec_ne (u : Nat) : Lib.decDigits u ≠ [] := by
  rw [Lib.decDigits]
  split
  · simp
  · simp
theorem atoi_dec (u : Nat) (h : u ≤ 1000000000000000000) : Lib.atoiAll (Lib.decDigits u) = .ok (u : Int) := by
  have hp := parse_dec u h
  have hd := dec_digits u
  cases hl : Lib.decDigits u with
  | nil => exact absurd hl (dec_ne u)
  | cons c r =>
    rw [hl] at hp hd
    have hc := hd c (by simp)
    have h43 : ¬ (c.toNat = 43 ∨ c.toNat = 45) := by omega
    have h45 : ¬ c.toNat = 45 := by omega
    simp only [Lib.atoiAll, if_neg h43, Lib.parseMag, hp]
    simp only [reduceCtorEq, if_false, h45, not_false_eq_true, true_and, false_and]
    rw [if_neg (by omega)]
/-- The value of digits, from the left. -/
def digVal (acc : Int) : List UInt8 → Int
  | [] => acc
  | c :: l => digVal (10 * acc + ((c.toNat : Int) - 48)) l
theorem digVal_app (r : List UInt8) : ∀ (l : List UInt8) (acc : Int), digVal acc (l ++ r) = digVal (digVal acc l) r
  | [], _ => rfl
  | c :: l, acc => digVal_app r l _
theorem digVal_dec (u : Nat) : digVal 0 (Lib.decDigits u) = (u : Int) := by
  induction u using Nat.strongRecOn with
  | _ u ih =>
    by_cases h : u < 10
    · rw [Lib.decDigits_one h, digVal, digit_nat u h, digVal]
      omega
    · rw [Lib.decDigits.eq_def u, dif_neg h, digVal_app, ih (u / 10) (by omega), digVal, digit_nat (u % 10) (by omega), digVal]
      omega
theorem digVal_bound : ∀ (l : List UInt8) (acc : Int) (B : Nat), (∀ c ∈ l, 48 ≤ c.toNat ∧ c.toNat ≤ 57) → 0 ≤ acc → acc < (B : Int) → 0 ≤ digVal acc l ∧ digVal acc l < ((B * 10 ^ l.length : Nat) : Int)
  | [], acc, B, _, h0, h1 => by simpa [digVal] using ⟨h0, h1⟩
  | c :: l, acc, B, hd, h0, h1 => by
    have hc := hd c (by simp)
    have := digVal_bound l (10 * acc + ((c.toNat : Int) - 48)) (B * 10) (fun x hx => hd x (by simp [hx])) (by omega) (by omega)
    rw [List.length_cons, Nat.pow_succ, show B * (10 ^ l.length * 10) = B * 10 * 10 ^ l.length by rw [Nat.mul_comm (10 ^ l.length) 10, Nat.mul_assoc]]
    exact this
/-! A progress: its three numbers are in bounds; its text. -/
def okN (a : Int) : Bool := decide (0 ≤ a) && decide (a ≤ 1000000000)
theorem within_ok (a : Int) : impl_within.f a 0 1000000000 = some (okN a) := by
  unfold impl_within.f okN
  split
  · rename_i h
    simp [show 0 ≤ a from h]
  · rename_i h
    simp [show ¬ (0 ≤ a) from h]
theorem is_ok (a b c : Int) : impl_isProgress.f a b c = some (okN a && (okN b && okN c)) := by
  unfold impl_isProgress.f
  rw [within_ok, within_ok, within_ok]
  cases okN a <;> cases okN b <;> cases okN c <;> rfl
def colon : ByteArray := ⟨#[58]⟩
theorem join3 (a b c : ByteArray) : joined [a, b, c] colon = a ++ colon ++ b ++ colon ++ c := by
  refine bytes_ext ?_
  rw [append_list, append_list, append_list, append_list]
  show (Lib.join [a.data.toList, b.data.toList, c.data.toList] colon.data.toList).toArray.toList = _
  simp [Lib.join, List.intercalate]
theorem numbers_loop (a b c : Int) (ha : -9223372036854775808 ≤ a ∧ a ≤ 9223372036854775807) (hb : -9223372036854775808 ≤ b ∧ b ≤ 9223372036854775807) (hc : -9223372036854775808 ≤ c ∧ c ≤ 9223372036854775807) :
    Ev (fun k => impl_numbersText.f k [a, b, c] colon) (joined [decimal a, decimal b, decimal c] colon) := by
  have ra : rd [a, b, c] 0 = a := rfl
  have rb : rd [a, b, c] 1 = b := rfl
  have rc : rd [a, b, c] 2 = c := rfl
  have w0 : wrap64 (0 + 1) = 1 := wrap_id _ (by omega) (by omega)
  have w1 : wrap64 (1 + 1) = 2 := wrap_id _ (by omega) (by omega)
  have w2 : wrap64 (2 + 1) = 3 := wrap_id _ (by omega) (by omega)
  have fm : ∀ x : Int, -9223372036854775808 ≤ x ∧ x ≤ 9223372036854775807 → strconv_FormatInt.f x 10 = some (decimal x) := fun x hx => by
    unfold strconv_FormatInt.f
    rw [if_pos ⟨rfl, hx.1, hx.2⟩]
  unfold impl_numbersText.f
  refine Ev.step (f := fun _ => _) (fun k => by simp only [impl_numbersText.l0]; rfl) ?_
  refine (ev_pos (by simp) (ev_pos (by omega) (ev_pos (by simp) (ev_some (by rw [ra]; exact fm a ha) (ev_pos (by simp) ?_)))))
  rw [w0]
  refine Ev.step (f := fun _ => _) (fun k => by simp only [impl_numbersText.l0]; rfl) ?_
  refine (ev_pos (by simp) (ev_pos (by omega) (ev_pos (by simp) (ev_some (by rw [rb]; exact fm b hb) (ev_pos (by simp) ?_)))))
  rw [w1]
  refine Ev.step (f := fun _ => _) (fun k => by simp only [impl_numbersText.l0]; rfl) ?_
  refine (ev_pos (by simp) (ev_pos (by omega) (ev_pos (by simp) (ev_some (by rw [rc]; exact fm c hc) (ev_pos (by simp) ?_)))))
  rw [w2]
  refine Ev.step (f := fun _ => _) (fun k => by simp only [impl_numbersText.l0]; rfl) ?_
  refine (ev_neg (by simp) (ev_some ?_ (ev_const rfl)))
  unfold strings_Join.f
  have s1 := decimal_size a ha.1 ha.2
  have s2 := decimal_size b hb.1 hb.2
  have s3 := decimal_size c hc.1 hc.2
  refine if_pos ⟨by simp, ?_⟩
  show (joined [decimal a, decimal b, decimal c] colon).size ≤ _
  rw [join3]
  simp only [ByteArray.size_append, show colon.size = 1 from rfl]
  omega
theorem text_val (a b c : Int) (ha : -9223372036854775808 ≤ a ∧ a ≤ 9223372036854775807) (hb : -9223372036854775808 ≤ b ∧ b ≤ 9223372036854775807) (hc : -9223372036854775808 ≤ c ∧ c ≤ 9223372036854775807) :
    Ev (fun k => impl_progressText.f k a b c) (joined [decimal a, decimal b, decimal c] colon) := Ev.bind (numbers_loop a b c ha hb hc) (ev_const rfl)
/-! Numerals as the reference reads them: at most nine digits, as they are written; and 1000000000. -/
theorem toList_inj (a b : ByteArray) : a.toList = b.toList ↔ a = b := by
  rw [ByteArray.toList_eq, ByteArray.toList_eq]
  constructor
  · intro h
    exact bytes_ext h
  · intro h
    rw [h]
theorem toList_beq (a b : ByteArray) : (a.toList == b.toList) = decide (a = b) := by
  by_cases h : a = b
  · rw [h]; simp
  · rw [decide_eq_false h]
    exact beq_eq_false_iff_ne.2 (fun e => h ((toList_inj a b).1 e))
def isDig (c : UInt8) : Bool := decide (48 ≤ c.toNat) && decide (c.toNat ≤ 57)
def valOf (w : ByteArray) : Int × Bool := if (1 ≤ w.size ∧ w.size ≤ 9) ∧ w.data.toList.all isDig = true then (digVal 0 w.data.toList, decide (decimal (digVal 0 w.data.toList) = w)) else (0, false)
theorem bt_nat (s : ByteArray) (i : Nat) (hi : i < s.size) : bt s (i : Int) = ((s.data.toList.getD i 0).toNat : Int) := by
  unfold bt
  have h' : i < s.data.toList.length := by rw [data_len]; exact hi
  rw [dif_pos (by simpa using hi), List.getD_eq_getElem?_getD, List.getElem?_eq_getElem h']
  rfl
theorem all_digits (l : List UInt8) (h : l.all isDig = true) : ∀ c ∈ l, 48 ≤ c.toNat ∧ c.toNat ≤ 57 := fun c hc => by
  have := List.all_eq_true.1 h c hc
  simpa [isDig] using this
theorem digVal_small (l : List UInt8) (h : l.all isDig = true) (hl : l.length ≤ 9) : 0 ≤ digVal 0 l ∧ digVal 0 l < 1000000000 := by
  have h1 := digVal_bound l 0 1 (all_digits l h) (by omega) (by omega)
  have h2 : (10 : Nat) ^ l.length ≤ 10 ^ 9 := Nat.pow_le_pow_right (by omega) hl
  have h3 : (10 : Nat) ^ 9 = 1000000000 := by decide
  have h4 : ((1 * 10 ^ l.length : Nat) : Int) ≤ 1000000000 := by omega
  omega
theorem dec_valI (n : Int) (h0 : 0 ≤ n) (h1 : n ≤ 1000000000) : Ev (fun k => spec_l01Dec.f k n) (decimal n) := by
  obtain ⟨u, rfl⟩ := Int.eq_ofNat_of_zero_le h0
  exact dec_val u (by omega)
theorem value_loop (w : ByteArray) (h9 : w.size ≤ 9) (h1 : 1 ≤ w.size) (d : Nat) : ∀ i : Nat, i + d = w.size → (w.data.toList.take i).all isDig = true →
    Ev (fun k => spec_l01Value.l0 k w (digVal 0 (w.data.toList.take i)) i) (valOf w) := by
  induction d with
  | zero =>
    intro i hi ha
    rw [List.take_of_length_le (by rw [data_len]; omega)] at ha ⊢
    have hb := digVal_small _ ha (by rw [data_len]; omega)
    refine Ev.step (f := fun _ => _) (fun k => by simp only [spec_l01Value.l0]; rfl) (ev_neg (by omega) (Ev.bind (dec_valI _ hb.1 (by omega)) (ev_const ?_)))
    rw [toList_beq, valOf, if_pos ⟨⟨h1, h9⟩, ha⟩]
  | succ d ih =>
    intro i hi ha
    have hl : i < w.data.toList.length := by rw [data_len]; omega
    have hb := digVal_small _ ha (by rw [List.length_take, data_len]; omega)
    have ht := take_succ_getD w.data.toList 0 i hl
    have hmem : w.data.toList.getD i 0 ∈ w.data.toList := getD_mem _ _ _ hl
    have hbt := bt_nat w i (by omega)
    generalize w.data.toList.getD i 0 = z at ht hmem hbt
    have hbad : isDig z = false → valOf w = (0, false) := fun hf => by
      unfold valOf
      refine if_neg (fun hx => ?_)
      have := List.all_eq_true.1 hx.2 _ hmem
      rw [hf] at this
      cases this
    refine Ev.step (f := fun _ => _) (fun k => by simp only [spec_l01Value.l0]; rfl) (ev_pos (by omega) (ev_pos (by omega) ?_))
    rw [hbt]
    by_cases c1 : z.toNat < 48
    · refine ev_pos (by omega) (ev_const ?_)
      rw [hbad (by simp only [isDig, decide_eq_false (show ¬ 48 ≤ z.toNat by omega), Bool.false_and])]
    · refine ev_neg (by omega) ?_
      by_cases c2 : z.toNat > 57
      · refine ev_pos (by omega) (ev_const ?_)
        rw [hbad (by simp only [isDig, decide_eq_false (show ¬ z.toNat ≤ 57 by omega), Bool.and_false])]
      · refine ev_neg (by omega) ?_
        have hd : isDig z = true := by simp only [isDig, decide_eq_true (show 48 ≤ z.toNat by omega), decide_eq_true (show z.toNat ≤ 57 by omega), Bool.and_self]
        have e1 : wrap64 (wrap64 (10 * digVal 0 (w.data.toList.take i)) + ((z.toNat : Int) - 48) % 256) = digVal 0 (w.data.toList.take (i + 1)) := by
          rw [ht, digVal_app, digVal, digVal]
          generalize digVal 0 (w.data.toList.take i) = v at hb
          generalize z.toNat = y at c1 c2
          rw [wrap_id (10 * v) (by omega) (by omega), wrap_id _ (by omega) (by omega)]
          omega
        rw [e1, wrap_succ i (by omega)]
        refine ih (i + 1) (by omega) ?_
        rw [ht, List.all_append, ha, List.all_cons, hd]
        rfl
theorem value_val (w : ByteArray) : Ev (fun k => spec_l01Value.f k w) (valOf w) := by
  have jT : Ev (fun k => spec_l01Value.j0 k w true) (0, false) := by
    refine Ev.step (f := fun _ => _) (fun k => by simp only [spec_l01Value.j0]; rfl) ?_
    first | exact ev_const rfl | exact ev_pos trivial (ev_const rfl) | exact ev_pos rfl (ev_const rfl)
  by_cases h1 : (w.size : Int) < 1
  · rw [show valOf w = (0, false) from if_neg (fun h => by omega)]
    exact ev_pos h1 jT
  · refine ev_neg h1 ?_
    by_cases h9 : (w.size : Int) > 9
    · rw [show valOf w = (0, false) from if_neg (fun h => by omega), decide_eq_true h9]
      exact jT
    · rw [decide_eq_false h9]
      refine Ev.step (f := fun _ => _) (fun k => by simp only [spec_l01Value.j0]; rfl) ?_
      refine ev_neg (by simp) ?_
      exact value_loop w (by omega) (by omega) w.size 0 (by omega) (by simp)
def canonOf (w : ByteArray) : Option Int := if w = decimal 1000000000 then some 1000000000 else if (valOf w).2 = true then some (valOf w).1 else none
theorem canon_some (w : ByteArray) (n : Int) (h : canonOf w = some n) : ∃ u : Nat, u ≤ 1000000000 ∧ n = (u : Int) ∧ w = decimal (u : Int) := by
  unfold canonOf at h
  split at h
  · rename_i hw
    exact ⟨1000000000, Nat.le_refl _, (Option.some.inj h).symm, hw⟩
  · split at h
    · rename_i hv
      have hn := Option.some.inj h
      unfold valOf at hv hn
      split at hv
      · rename_i hc
        rw [if_pos hc] at hn
        have hb := digVal_small _ hc.2 (by rw [data_len]; omega)
        have hd := of_decide_eq_true hv
        simp only at hn
        rw [hn] at hb hd
        obtain ⟨u, rfl⟩ := Int.eq_ofNat_of_zero_le hb.1
        exact ⟨u, by omega, rfl, hd.symm⟩
      · cases hv
    · cases h
theorem dec_len : ∀ (k u : Nat), u < 10 ^ (k + 1) → (Lib.decDigits u).length ≤ k + 1
  | 0, u, h => by
    rw [Lib.decDigits_one (by simpa using h)]
    simp
  | k + 1, u, h => by
    by_cases h1 : u < 10
    · rw [Lib.decDigits_one h1]; simp
    · rw [Lib.decDigits.eq_def u, dif_neg h1, List.length_append]
      have := dec_len k (u / 10) (by rw [Nat.pow_succ] at h; omega)
      simp only [List.length_cons, List.length_nil]
      omega
theorem decimal_inj (u v : Nat) (h : decimal (u : Int) = decimal (v : Int)) : u = v := by
  have h1 := digVal_dec u
  rw [← decimal_list, h, decimal_list, digVal_dec v] at h1
  omega
theorem canon_dec (u : Nat) (h : u ≤ 1000000000) : canonOf (decimal (u : Int)) = some (u : Int) := by
  unfold canonOf
  by_cases hu : u = 1000000000
  · subst hu
    exact if_pos rfl
  · rw [if_neg (show ¬ decimal (u : Int) = decimal 1000000000 from fun e => hu (decimal_inj u 1000000000 e))]
    have hs : (decimal (u : Int)).size = (Lib.decDigits u).length := by rw [← data_len, decimal_list]
    have hl := dec_len 8 u (by rw [show (10 : Nat) ^ (8 + 1) = 1000000000 by decide]; omega)
    have hp : 1 ≤ (Lib.decDigits u).length := by
      cases hx : Lib.decDigits u with
      | nil => exact absurd hx (dec_ne u)
      | cons c r => simp
    have hall : (decimal (u : Int)).data.toList.all isDig = true := by
      rw [decimal_list, List.all_eq_true]
      intro c hc
      have := dec_digits u c hc
      simp [isDig]
      omega
    have hv : valOf (decimal (u : Int)) = ((u : Int), true) := by
      unfold valOf
      rw [if_pos ⟨⟨by omega, by omega⟩, hall⟩, decimal_list, digVal_dec]
      simp
    rw [hv]
    rfl
theorem parse_canon (w : ByteArray) (n : Int) (h : canonOf w = some n) : parseV w = some n ∧ (okN n = true) ∧ w = decimal n := by
  obtain ⟨u, hu, rfl, rfl⟩ := canon_some w n h
  refine ⟨?_, by simp [okN]; omega, rfl⟩
  unfold parseV
  rw [Lib.parseIntB_64, decimal_list, atoi_dec u (by omega)]
theorem parse_range (w : ByteArray) (v : Int) (h : parseV w = some v) : -9223372036854775808 ≤ v ∧ v ≤ 9223372036854775807 := by
  unfold parseV at h
  split at h
  · rename_i u hu
    obtain rfl := Option.some.inj h
    have := Lib.parseIntB_bounds hu
    rw [show (2 : Nat) ^ (64 - 1) = 9223372036854775808 by decide] at this
    omega
  · cases h
def canonAll : List ByteArray → Option (List Int)
  | [] => some []
  | x :: r => match canonOf x with
    | some v => (canonAll r).map (v :: ·)
    | none => none
theorem canonAll_len : ∀ (L : List ByteArray) (l : List Int), canonAll L = some l → l.length = L.length
  | [], l, h => by
    obtain rfl := Option.some.inj h
    rfl
  | x :: r, l, h => by
    unfold canonAll at h
    split at h
    · cases hr : canonAll r with
      | none => rw [hr] at h; cases h
      | some l' =>
        rw [hr] at h
        obtain rfl := Option.some.inj h
        have := canonAll_len r l' hr
        simp [this]
    · cases h
theorem parseAll_len : ∀ (L : List ByteArray) (l : List Int), parseAll L = some l → l.length = L.length
  | [], l, h => by
    obtain rfl := Option.some.inj h
    rfl
  | x :: r, l, h => by
    unfold parseAll at h
    split at h
    · cases hr : parseAll r with
      | none => rw [hr] at h; cases h
      | some l' =>
        rw [hr] at h
        obtain rfl := Option.some.inj h
        have := parseAll_len r l' hr
        simp [this]
    · cases h
theorem spl_join (c : UInt8) (l : List UInt8) : Lib.join (spl c l) [c] = l := by
  induction l with
  | nil => rfl
  | cons b l ih =>
    rw [spl]
    split
    · rename_i h
      subst h
      cases hs : spl b l with
      | nil => exact absurd hs (spl_ne b l)
      | cons p r =>
        rw [hs, Lib.join_cons] at ih
        rw [Lib.join_cons]
        simp only [Lib.joinTail, List.map_cons, List.flatten_cons, List.nil_append]
        rw [← ih]
        simp [Lib.joinTail]
    · split
      · next e => exact absurd e (spl_ne c l)
      · next p r e =>
        rw [e, Lib.join_cons] at ih
        rw [Lib.join_cons, List.cons_append, ih]
theorem spl_front (c : UInt8) (p : List UInt8) (hp : ∀ x ∈ p, x ≠ c) (l : List UInt8) : spl c (p ++ c :: l) = p :: spl c l := by
  induction p with
  | nil => simp [spl]
  | cons b p ih =>
    rw [List.cons_append, spl, if_neg (hp b (by simp)), ih (fun x hx => hp x (by simp [hx]))]
theorem spl_last (c : UInt8) (p : List UInt8) (hp : ∀ x ∈ p, x ≠ c) : spl c p = [p] := by
  induction p with
  | nil => rfl
  | cons b p ih => rw [spl, if_neg (hp b (by simp)), ih (fun x hx => hp x (by simp [hx]))]
/-! Progresses read: both sides. -/
def finP : Option (List Int) → Int × Int × Int × Bool
  | some [a, b, c] => (a, b, c, true)
  | _ => (0, 0, 0, false)
theorem finP_len (o : Option (List Int)) (h : ∀ l, o = some l → l.length ≠ 3) : finP o = (0, 0, 0, false) := by
  match o, h with
  | none, _ => rfl
  | some [], _ => rfl
  | some [_], _ => rfl
  | some [_, _], _ => rfl
  | some [_, _, _], h => exact absurd rfl (h _ rfl)
  | some (_ :: _ :: _ :: _ :: _), _ => rfl
theorem words_loop (L : List ByteArray) (hL : L.length ≤ 2000001) (d : Nat) : ∀ (j : Nat) (out : List Int), j + d = L.length → out.length = j →
    Ev (fun k => spec_ReadProgress.l0 k L out j) (finP ((canonAll (L.drop j)).map (out ++ ·))) := by
  induction d with
  | zero =>
    intro j out hj ho
    refine Ev.step (f := fun _ => _) (fun k => by simp only [spec_ReadProgress.l0]; rfl) (ev_neg (by omega) ?_)
    rw [List.drop_of_length_le (by omega)]
    by_cases h3 : (out.length : Int) = 3
    · refine ev_pos h3 (ev_pos (by omega) (ev_pos (by omega) (ev_pos (by omega) (ev_const ?_))))
      match out, h3 with
      | [a, b, c], _ => rfl
    · refine ev_neg h3 (ev_const ?_)
      rw [finP_len _ (fun l hl => by
        simp only [canonAll, Option.map_some, List.append_nil, Option.some.injEq] at hl
        subst hl
        omega)]
  | succ d ih =>
    intro j out hj ho
    have hjl : j < L.length := by omega
    have hd := drop_cons L ByteArray.empty j hjl
    refine Ev.step (f := fun _ => _) (fun k => by simp only [spec_ReadProgress.l0]; rfl) (ev_pos (by omega) (ev_pos (by omega) (Ev.bind (dec_valI 1000000000 (by omega) (by omega)) ?_)))
    rw [show rdOf ByteArray.empty L (j : Int) = L.getD j ByteArray.empty from rfl, hd]
    generalize L.getD j ByteArray.empty = x
    by_cases hx : x = decimal 1000000000
    · refine ev_pos ((toList_inj _ _).2 hx) (ev_pos (by omega) ?_)
      rw [wrap_succ j (by omega)]
      refine ev_eq (ih (j + 1) (out ++ [1000000000]) (by omega) (by simp [ho])) ?_
      rw [canonAll, show canonOf x = some 1000000000 from if_pos hx]
      cases canonAll (L.drop (j + 1)) with
      | none => rfl
      | some l => simp
    · refine ev_neg (fun e => hx ((toList_inj _ _).1 e)) (Ev.bind (value_val x) ?_)
      by_cases hv : (valOf x).2 = true
      · refine ev_pos hv (ev_pos (by omega) ?_)
        rw [wrap_succ j (by omega)]
        refine ev_eq (ih (j + 1) (out ++ [(valOf x).1]) (by omega) (by simp [ho])) ?_
        rw [canonAll, show canonOf x = some (valOf x).1 from (if_neg hx).trans (if_pos hv)]
        cases canonAll (L.drop (j + 1)) with
        | none => rfl
        | some l => simp
      · refine ev_neg hv (ev_const ?_)
        rw [canonAll, show canonOf x = none from (if_neg hx).trans (if_neg hv)]
        rfl
theorem specRead (s : ByteArray) (hs : s.size ≤ 2000000) : Ev (fun k => spec_ReadProgress.f k s) (finP (canonAll (splitL s colon))) := by
  have hsp := splitL_one s 58
  refine Ev.bind (l01Split_val s 58 (by omega)) ?_
  rw [← hsp]
  have hl := spl_len 58 s.data.toList
  have hln : (splitL s ⟨#[58]⟩).length ≤ s.size + 1 := by
    rw [hsp, List.length_map, ← data_len, ← hl]
    generalize spl 58 s.data.toList = L
    induction L with
    | nil => simp
    | cons x r ih => simp at ih ⊢; omega
  refine ev_eq (words_loop (splitL s ⟨#[58]⟩) (by omega) (splitL s ⟨#[58]⟩).length 0 [] (by omega) rfl) ?_
  rw [List.drop_zero]
  show finP ((canonAll (splitL s colon)).map ([] ++ ·)) = _
  cases canonAll (splitL s colon) with
  | none => rfl
  | some l => simp
theorem count_split (s : ByteArray) : (splitL s colon).length = Lib.count s.data.toList [58] + 1 := Lib.splitB_all colon (by decide) 0 _ s rfl
theorem text_split (s : ByteArray) (a b c : Nat) (h : joined [decimal (a : Int), decimal (b : Int), decimal (c : Int)] colon = s) : splitL s colon = [decimal (a : Int), decimal (b : Int), decimal (c : Int)] := by
  have hn : ∀ u : Nat, ∀ x ∈ Lib.decDigits u, x ≠ 58 := fun u x hx e => by
    have := dec_digits u x hx
    rw [e] at this
    exact absurd this (by decide)
  have hd : s.data.toList = Lib.decDigits a ++ 58 :: (Lib.decDigits b ++ 58 :: Lib.decDigits c) := by
    rw [← h, join3, append_list, append_list, append_list, append_list, decimal_list, decimal_list, decimal_list]
    simp [colon]
  rw [show colon = (⟨#[58]⟩ : ByteArray) from rfl, splitL_one, hd, spl_front 58 _ (hn a), spl_front 58 _ (hn b), spl_last 58 _ (hn c)]
  simp only [List.map_cons, List.map_nil, ← decimal_list, mkB_data]
theorem implRead (s : ByteArray) (hs : s.size ≤ 2000000) : Ev (fun k => impl_ReadProgress.f k s) (finP (canonAll (splitL s colon))) := by
  have hc := count_split s
  have hcount : strings_Count.f s (⟨#[58]⟩ : ByteArray) = some ((Lib.count s.data.toList [58] : Nat) : Int) := if_pos rfl
  refine ev_some hcount ?_
  by_cases h2 : ((Lib.count s.data.toList [58] : Nat) : Int) = 2
  · refine ev_pos h2 (ev_some (a := readAll (splitL s colon)) (if_pos ⟨by omega, by decide⟩) ?_)
    have hjs : joined (splitL s colon) colon = s := by
      refine bytes_ext ?_
      show (Lib.join ((splitL s colon).map (·.data.toList)) [58]).toArray.toList = _
      rw [show colon = (⟨#[58]⟩ : ByteArray) from rfl, splitL_one, List.map_map]
      rw [show ((fun x : ByteArray => x.data.toList) ∘ mkB) = id from rfl, List.map_id, spl_join]
    match hL : splitL s colon, (show (splitL s colon).length = 3 by omega) with
    | [x, y, z], _ =>
      have hcan : ∀ v1 v2 v3 : Int, parseV x = some v1 → parseV y = some v2 → parseV z = some v3 → canonAll [x, y, z] = none ∨ canonAll [x, y, z] = some [v1, v2, v3] := by
        intro v1 v2 v3 p1 p2 p3
        unfold canonAll canonAll canonAll canonAll
        cases c1 : canonOf x with
        | none => exact Or.inl rfl
        | some n1 =>
          cases c2 : canonOf y with
          | none => exact Or.inl rfl
          | some n2 =>
            cases c3 : canonOf z with
            | none => exact Or.inl rfl
            | some n3 =>
              have q1 := (parse_canon x n1 c1).1
              have q2 := (parse_canon y n2 c2).1
              have q3 := (parse_canon z n3 c3).1
              rw [p1] at q1
              rw [p2] at q2
              rw [p3] at q3
              obtain rfl := Option.some.inj q1
              obtain rfl := Option.some.inj q2
              obtain rfl := Option.some.inj q3
              exact Or.inr rfl
      cases p1 : parseV x with
      | none =>
        have : readAll [x, y, z] = ([], false) := by unfold readAll parseAll; rw [p1]
        rw [this]
        refine ev_neg (by simp) (ev_const ?_)
        have : canonAll [x, y, z] = none := by
          unfold canonAll
          cases c1 : canonOf x with
          | none => rfl
          | some n1 => have := (parse_canon x n1 c1).1; rw [p1] at this; cases this
        rw [this]; rfl
      | some v1 =>
        cases p2 : parseV y with
        | none =>
          have : readAll [x, y, z] = ([], false) := by unfold readAll parseAll parseAll; rw [p1, p2]; rfl
          rw [this]
          refine ev_neg (by simp) (ev_const ?_)
          have : canonAll [x, y, z] = none := by
            unfold canonAll canonAll
            cases c1 : canonOf x with
            | none => rfl
            | some n1 =>
              cases c2 : canonOf y with
              | none => rfl
              | some n2 => have := (parse_canon y n2 c2).1; rw [p2] at this; cases this
          rw [this]; rfl
        | some v2 =>
          cases p3 : parseV z with
          | none =>
            have : readAll [x, y, z] = ([], false) := by unfold readAll parseAll parseAll parseAll; rw [p1, p2, p3]; rfl
            rw [this]
            refine ev_neg (by simp) (ev_const ?_)
            have : canonAll [x, y, z] = none := by
              unfold canonAll canonAll canonAll
              cases c1 : canonOf x with
              | none => rfl
              | some n1 =>
                cases c2 : canonOf y with
                | none => rfl
                | some n2 =>
                  cases c3 : canonOf z with
                  | none => rfl
                  | some n3 => have := (parse_canon z n3 c3).1; rw [p3] at this; cases this
            rw [this]; rfl
          | some v3 =>
            have hr : readAll [x, y, z] = ([v1, v2, v3], true) := by unfold readAll parseAll parseAll parseAll parseAll; rw [p1, p2, p3]; rfl
            have r1 := parse_range x v1 p1
            have r2 := parse_range y v2 p2
            have r3 := parse_range z v3 p3
            have hcc := hcan v1 v2 v3 p1 p2 p3
            rw [hr]
            refine ev_pos rfl (ev_pos (by simp) (ev_pos (by simp) (ev_pos (by simp) ?_)))
            rw [show rd ([v1, v2, v3], true).1 0 = v1 from rfl, show rd ([v1, v2, v3], true).1 1 = v2 from rfl, show rd ([v1, v2, v3], true).1 2 = v3 from rfl]
            refine ev_some (is_ok v1 v2 v3) ?_
            cases hk : (okN v1 && (okN v2 && okN v3)) with
            | false =>
              refine ev_neg (by simp) (ev_const ?_)
              rcases hcc with e | e
              · rw [e]; rfl
              · exfalso
                unfold canonAll canonAll canonAll canonAll at e
                cases c1 : canonOf x with
                | none => rw [c1] at e; cases e
                | some n1 =>
                  cases c2 : canonOf y with
                  | none => rw [c1, c2] at e; cases e
                  | some n2 =>
                    cases c3 : canonOf z with
                    | none => rw [c1, c2, c3] at e; cases e
                    | some n3 =>
                      rw [c1, c2, c3] at e
                      simp at e
                      obtain ⟨rfl, rfl, rfl⟩ := e
                      rw [(parse_canon x _ c1).2.1, (parse_canon y _ c2).2.1, (parse_canon z _ c3).2.1] at hk
                      cases hk
            | true =>
              refine ev_pos rfl (Ev.bind (text_val v1 v2 v3 r1 r2 r3) ?_)
              by_cases ht : joined [decimal v1, decimal v2, decimal v3] colon = s
              · refine ev_pos ((toList_inj _ _).2 ht) (ev_const ?_)
                simp only [okN, Bool.and_eq_true, decide_eq_true_eq] at hk
                obtain ⟨⟨a0, a1⟩, ⟨b0, b1⟩, c0, c1⟩ := hk
                obtain ⟨u1, rfl⟩ := Int.eq_ofNat_of_zero_le a0
                obtain ⟨u2, rfl⟩ := Int.eq_ofNat_of_zero_le b0
                obtain ⟨u3, rfl⟩ := Int.eq_ofNat_of_zero_le c0
                have hs3 := text_split s u1 u2 u3 ht
                rw [hL] at hs3
                injection hs3 with e1 hs3
                injection hs3 with e2 hs3
                injection hs3 with e3 _
                have k1 := canon_dec u1 (by omega)
                have k2 := canon_dec u2 (by omega)
                have k3 := canon_dec u3 (by omega)
                rw [← e1] at k1
                rw [← e2] at k2
                rw [← e3] at k3
                unfold canonAll canonAll canonAll canonAll
                rw [k1, k2, k3]
                rfl
              · refine ev_neg (fun e => ht ((toList_inj _ _).1 e)) (ev_const ?_)
                rcases hcc with e | e
                · rw [e]; rfl
                · exfalso
                  unfold canonAll canonAll canonAll canonAll at e
                  cases c1 : canonOf x with
                  | none => rw [c1] at e; cases e
                  | some n1 =>
                    cases c2 : canonOf y with
                    | none => rw [c1, c2] at e; cases e
                    | some n2 =>
                      cases c3 : canonOf z with
                      | none => rw [c1, c2, c3] at e; cases e
                      | some n3 =>
                        rw [c1, c2, c3] at e
                        simp at e
                        obtain ⟨rfl, rfl, rfl⟩ := e
                        rw [hL, (parse_canon x _ c1).2.2, (parse_canon y _ c2).2.2, (parse_canon z _ c3).2.2] at hjs
                        exact ht hjs
  · refine ev_neg h2 (ev_const ?_)
    rw [finP_len _ (fun l hl => by
      have := canonAll_len _ l hl
      omega)]
/-! The drawing of numbers: whatever the code, a number below the bound comes, and the source stays sound. -/
structure St (code : List Int) (p seed : Int) : Prop where
  byte : ∀ x ∈ code, 0 ≤ x ∧ x ≤ 255
  len : code.length ≤ 4096
  at0 : 0 ≤ p
  at1 : p ≤ (code.length : Int)
  s0 : 0 ≤ seed
  s1 : seed < 2147483647
theorem tmod_in (x n : Int) (hx : 0 ≤ x) (hn : 0 < n) : 0 ≤ Int.tmod x n ∧ Int.tmod x n < n := by
  rw [Int.tmod_eq_emod_of_nonneg hx]
  exact ⟨Int.emod_nonneg _ (by omega), Int.emod_lt_of_pos _ hn⟩
theorem rd_byte (code : List Int) (h : ∀ x ∈ code, 0 ≤ x ∧ x ≤ 255) (i : Int) : 0 ≤ rd code i ∧ rd code i ≤ 255 := by
  unfold rd
  rw [List.getD_eq_getElem?_getD]
  cases hx : code[i.toNat]? with
  | none => simp
  | some v => exact h v (List.mem_of_getElem? hx)
theorem seed_step (seed : Int) (h0 : 0 ≤ seed) (h1 : seed < 2147483647) : 0 ≤ Int.tmod (wrap64 (wrap64 (seed * 48271) + 29)) 2147483647 ∧ Int.tmod (wrap64 (wrap64 (seed * 48271) + 29)) 2147483647 < 2147483647 := by
  rw [wrap_id (seed * 48271) (by omega) (by omega), wrap_id _ (by omega) (by omega)]
  exact tmod_in _ _ (by omega) (by omega)
theorem next_some (code : List Int) (p seed n : Int) (h : St code p seed) : ∃ x a s, spec_l01Next.f code p seed n = some (x, a, s) ∧ St code a s ∧ 0 ≤ x ∧ (1 < n → x < n) ∧ (n ≤ 1 → x = 0) := by
  unfold spec_l01Next.f
  by_cases c1 : n ≤ 1
  · exact ⟨0, p, seed, if_pos c1, h, Int.le_refl _, fun h => by omega, fun _ => rfl⟩
  · rw [if_neg c1]
    have hs := seed_step seed h.s0 h.s1
    generalize Int.tmod (wrap64 (wrap64 (seed * 48271) + 29)) 2147483647 = z at hs
    have hlen := h.len
    have ha0 := h.at0
    have ha1 := h.at1
    have hn0 : ¬ n = 0 := by omega
    by_cases c2 : p < (code.length : Int)
    · rw [if_pos c2, if_pos ha0]
      have e1 : wrap64 (p + 1) = p + 1 := wrap_id _ (by omega) (by omega)
      have e2 : wrap64 (p + 1 - 1) = p := by rw [wrap_id _ (by omega) (by omega)]; omega
      have hst : St code (p + 1) z := ⟨h.byte, hlen, by omega, by omega, hs.1, hs.2⟩
      have hb := rd_byte code h.byte p
      rw [e1, e2]
      have big : ∀ y : Int, 0 ≤ y ∧ y ≤ 255 → ∃ x a s, (if n = 0 then (none : Option (Int × Int × Int)) else some (Int.tmod (wrap64 (wrap64 (Int.tdiv z 31) + wrap64 y)) n, p + 1, z)) = some (x, a, s) ∧ St code a s ∧ 0 ≤ x ∧ (1 < n → x < n) ∧ (n ≤ 1 → x = 0) := by
        intro y hy
        rw [if_neg hn0]
        have hz : Int.tdiv z 31 = z / 31 := Int.tdiv_eq_ediv_of_nonneg hs.1
        rw [hz, wrap_id (z / 31) (by omega) (by omega), wrap_id y (by omega) (by omega), wrap_id _ (by omega) (by omega)]
        have := tmod_in (z / 31 + y) n (by omega) (by omega)
        exact ⟨_, _, _, rfl, hst, this.1, fun _ => this.2, fun h => by omega⟩
      by_cases c3 : n ≤ 256
      · rw [if_pos c3]
        by_cases c4 : Int.tmod (p + 1) 2 = 0
        · rw [if_pos c4, if_pos ha0, if_pos c2, if_neg hn0, wrap_id (rd code p) (by omega) (by omega)]
          have := tmod_in (rd code p) n hb.1 (by omega)
          exact ⟨_, _, _, rfl, hst, this.1, fun _ => this.2, fun h => by omega⟩
        · rw [if_neg c4]
          exact big _ hb
      · rw [if_neg c3]
        exact big _ hb
    · rw [if_neg c2, if_neg hn0]
      have hz : Int.tdiv z 31 = z / 31 := Int.tdiv_eq_ediv_of_nonneg hs.1
      rw [hz, wrap_id _ (by omega) (by omega)]
      have := tmod_in (z / 31) n (by omega) (by omega)
      exact ⟨_, _, _, rfl, ⟨h.byte, hlen, ha0, ha1, hs.1, hs.2⟩, this.1, fun _ => this.2, fun h => by omega⟩
theorem from_loop (code : List Int) (hb : ∀ x ∈ code, 0 ≤ x ∧ x ≤ 255) (hl : code.length ≤ 4096) (d : Nat) : ∀ (i : Nat) (seed : Int), i + d = 64 → 0 ≤ seed → seed < 2147483647 →
    ∃ s, Ev (fun k => spec_l01From.l0 k code i code 0 seed) (code, 0, s) ∧ 0 ≤ s ∧ s < 2147483647 := by
  induction d with
  | zero =>
    intro i seed hi h0 h1
    refine ⟨seed, Ev.step (f := fun _ => _) (fun k => by simp only [spec_l01From.l0]; rfl) ?_, h0, h1⟩
    by_cases c : (i : Int) < (code.length : Int)
    · exact ev_pos c (ev_neg (by omega) (ev_const rfl))
    · exact ev_neg c (ev_const rfl)
  | succ d ih =>
    intro i seed hi h0 h1
    by_cases c : (i : Int) < (code.length : Int)
    · have hr := rd_byte code hb i
      have hw : 0 ≤ Int.tmod (wrap64 (wrap64 (seed * 47) + wrap64 (rd code i))) 2147483647 ∧ Int.tmod (wrap64 (wrap64 (seed * 47) + wrap64 (rd code i))) 2147483647 < 2147483647 := by
        rw [wrap_id (seed * 47) (by omega) (by omega), wrap_id (rd code i) (by omega) (by omega), wrap_id _ (by omega) (by omega)]
        exact tmod_in _ _ (by omega) (by omega)
      obtain ⟨s, g1, g2, g3⟩ := ih (i + 1) _ (by omega) hw.1 hw.2
      refine ⟨s, Ev.step (f := fun _ => _) (fun k => by simp only [spec_l01From.l0]; rfl) (ev_pos c (ev_pos (by omega) (ev_pos (by omega) ?_))), g2, g3⟩
      rw [wrap_succ i (by omega)]
      exact g1
    · exact ⟨seed, Ev.step (f := fun _ => _) (fun k => by simp only [spec_l01From.l0]; rfl) (ev_neg c (ev_const rfl)), h0, h1⟩
theorem from_some (code : List Int) (hb : ∀ x ∈ code, 0 ≤ x ∧ x ≤ 255) (hl : code.length ≤ 4096) : ∃ s, Ev (fun k => spec_l01From.f k code) (code, 0, s) ∧ St code 0 s := by
  obtain ⟨s, h1, h2, h3⟩ := from_loop code hb hl 64 0 61003 (by omega) (by omega) (by omega)
  exact ⟨s, h1, ⟨hb, hl, Int.le_refl _, by omega, h2, h3⟩⟩
/-! What is drawn. -/
def near (a : Int) : Prop := -1 ≤ a ∧ a ≤ 1000000001
theorem pick3 (x : Int) (h0 : 0 ≤ x) (h1 : x < 3) : near (rd ([(-1), 1000000000, 1000000001] : List Int) x) := by
  rcases (show x = 0 ∨ x = 1 ∨ x = 2 by omega) with rfl | rfl | rfl
  · exact ⟨by decide, by decide⟩
  · exact ⟨by decide, by decide⟩
  · exact ⟨by decide, by decide⟩
theorem draw33 (code : List Int) (p seed : Int) (h : St code p seed) : ∃ a b c p' s', spec_l33Draw.f code p seed = some (a, b, c, p', s') ∧ St code p' s' ∧ near a ∧ near b ∧ near c := by
  unfold spec_l33Draw.f
  obtain ⟨x1, p1, s1, e1, h1, l1, u1, _⟩ := next_some code p seed 8 h
  obtain ⟨x2, p2, s2, e2, h2, l2, u2, _⟩ := next_some code p1 s1 20 h1
  obtain ⟨x3, p3, s3, e3, h3, l3, u3, _⟩ := next_some code p2 s2 200 h2
  obtain ⟨x4, p4, s4, e4, h4, l4, u4, _⟩ := next_some code p3 s3 30 h3
  obtain ⟨x5, p5, s5, e5, h5, l5, u5, _⟩ := next_some code p4 s4 3 h4
  have v1 := u1 (by omega)
  have v2 := u2 (by omega)
  have v3 := u3 (by omega)
  have v5 := u5 (by omega)
  have n1 : near x1 := ⟨by omega, by omega⟩
  have n2 : near x2 := ⟨by omega, by omega⟩
  have n3 : near x3 := ⟨by omega, by omega⟩
  have n5 := pick3 x5 l5 v5
  have hlen : x5 < ((([(-1), 1000000000, 1000000001] : List Int)).length : Int) := by show x5 < 3; exact v5
  rw [e1]
  simp only [Option.bind_some]
  rw [e2]
  simp only [Option.bind_some]
  rw [e3]
  simp only [Option.bind_some]
  rw [e4]
  simp only [Option.bind_some]
  rw [e5]
  simp only [Option.bind_some]
  by_cases c0 : x4 = 0
  · rw [if_pos c0, if_pos l5, if_pos hlen]
    exact ⟨_, _, _, _, _, rfl, h5, n5, n2, n3⟩
  · rw [if_neg c0]
    by_cases c1 : x4 = 1
    · rw [if_pos c1, if_pos l5, if_pos hlen]
      exact ⟨_, _, _, _, _, rfl, h5, n1, n5, n3⟩
    · rw [if_neg c1]
      by_cases c2 : x4 = 2
      · rw [if_pos c2, if_pos l5, if_pos hlen]
        exact ⟨_, _, _, _, _, rfl, h5, n1, n2, n5⟩
      · rw [if_neg c2]
        exact ⟨_, _, _, _, _, rfl, h4, n1, n2, n3⟩
theorem drawText (code : List Int) (hb : ∀ x ∈ code, 0 ≤ x ∧ x ≤ 255) (hl : code.length ≤ 4096) : ∃ a b c, Ev (fun k => spec_DrawProgressText.f k code) (a, b, c) ∧ near a ∧ near b ∧ near c := by
  obtain ⟨s, h1, h2⟩ := from_some code hb hl
  obtain ⟨a, b, c, p', s', e, _, na, nb, nc⟩ := draw33 code 0 s h2
  exact ⟨a, b, c, Ev.bind h1 (ev_some e (ev_const rfl)), na, nb, nc⟩
/-! Texts of progresses: both sides; the empty text for one that is not valid. -/
theorem in_ok (a : Int) : spec_l01In.f a 0 1000000000 = some (okN a) := within_ok a
theorem sis_ok (a b c : Int) : spec_l33Is.f a b c = some (okN a && (okN b && okN c)) := is_ok a b c
def textOf (a b c : Int) : ByteArray := if (okN a && (okN b && okN c)) = true then joined [decimal a, decimal b, decimal c] colon else ⟨#[]⟩
theorem text_size (a b c : Int) : (textOf a b c).size ≤ 65 := by
  unfold textOf
  by_cases h : (okN a && (okN b && okN c)) = true
  · rw [if_pos h, join3]
    simp only [okN, Bool.and_eq_true, decide_eq_true_eq] at h
    have s1 := decimal_size a (by omega) (by omega)
    have s2 := decimal_size b (by omega) (by omega)
    have s3 := decimal_size c (by omega) (by omega)
    simp only [ByteArray.size_append, show colon.size = 1 from rfl]
    omega
  · rw [if_neg h]
    exact Nat.zero_le _
theorem text_both (a b c : Int) : Ev (fun k => impl_ProgressText.f k a b c) (textOf a b c) ∧ Ev (fun k => spec_ProgressText.f k a b c) (textOf a b c) := by
  have hi := is_ok a b c
  have hs := sis_ok a b c
  unfold textOf
  cases h : (okN a && (okN b && okN c)) with
  | false =>
    rw [h] at hs hi
    exact ⟨ev_some hi (ev_neg (by simp) (ev_const rfl)), ev_some hs (ev_neg (by simp) (ev_const rfl))⟩
  | true =>
    rw [h] at hs hi
    simp only [okN, Bool.and_eq_true, decide_eq_true_eq] at h
    obtain ⟨⟨a0, a1⟩, ⟨b0, b1⟩, c0, c1⟩ := h
    obtain ⟨u, rfl⟩ := Int.eq_ofNat_of_zero_le a0
    obtain ⟨v, rfl⟩ := Int.eq_ofNat_of_zero_le b0
    obtain ⟨z, rfl⟩ := Int.eq_ofNat_of_zero_le c0
    have s1 := decimal_size (u : Int) (by omega) (by omega)
    have s2 := decimal_size (v : Int) (by omega) (by omega)
    have s3 := decimal_size (z : Int) (by omega) (by omega)
    have e1 : (⟨#[58]⟩ : ByteArray).size = 1 := rfl
    refine ⟨ev_some hi (ev_pos rfl (Ev.bind (text_val u v z ⟨by omega, by omega⟩ ⟨by omega, by omega⟩ ⟨by omega, by omega⟩) (ev_const rfl))), ?_⟩
    refine ev_eq (r := (((decimal (u : Int) ++ colon) ++ decimal (v : Int)) ++ colon) ++ decimal (z : Int)) ?_ (join3 _ _ _).symm
    exact ev_some hs (ev_pos rfl (Ev.bind (dec_val u (by omega)) (ev_pos (by omega) (Ev.bind (dec_val v (by omega)) (ev_pos (by simp only [ByteArray.size_append, e1]; omega) (ev_pos (by simp only [ByteArray.size_append, e1]; omega) (Ev.bind (dec_val z (by omega)) (ev_pos (by simp only [ByteArray.size_append, e1]; omega) (ev_const rfl)))))))))
/-- What is read back from the text of a progress. -/
theorem read_text (a b c : Int) : finP (canonAll (splitL (textOf a b c) colon)) = if (okN a && (okN b && okN c)) = true then (a, b, c, true) else (0, 0, 0, false) := by
  unfold textOf
  by_cases h : (okN a && (okN b && okN c)) = true
  · rw [if_pos h, if_pos h]
    simp only [okN, Bool.and_eq_true, decide_eq_true_eq] at h
    obtain ⟨⟨a0, a1⟩, ⟨b0, b1⟩, c0, c1⟩ := h
    obtain ⟨u, rfl⟩ := Int.eq_ofNat_of_zero_le a0
    obtain ⟨v, rfl⟩ := Int.eq_ofNat_of_zero_le b0
    obtain ⟨z, rfl⟩ := Int.eq_ofNat_of_zero_le c0
    rw [text_split _ u v z rfl]
    unfold canonAll canonAll canonAll canonAll
    rw [canon_dec u (by omega), canon_dec v (by omega), canon_dec z (by omega)]
    rfl
  · rw [if_neg h, if_neg h]
    refine finP_len _ (fun l hl => ?_)
    have h1 := canonAll_len _ l hl
    have h2 := count_split (⟨#[]⟩ : ByteArray)
    rw [show Lib.count (⟨#[]⟩ : ByteArray).data.toList [58] = 0 from Lib.count_miss (by simp [Lib.index])] at h2
    omega
theorem text_empty (a b c : Int) : (textOf a b c).toList = [] ↔ (okN a && (okN b && okN c)) = false := by
  unfold textOf
  rw [ByteArray.toList_eq]
  cases h : (okN a && (okN b && okN c)) with
  | false => simp
  | true =>
    rw [if_pos rfl, join3, append_list, append_list, append_list, append_list]
    simp [colon]
/-! The damaged text. -/
theorem damage_some (code : List Int) (p seed : Int) (h : St code p seed) (t : ByteArray) (ht : t.size ≤ 1000) : ∃ u p' s', spec_l01Damage.f code p seed t = some (u, p', s') ∧ u.size ≤ 2000 := by
  unfold spec_l01Damage.f
  have hw : wrap64 ((t.size : Int) + 1) = (t.size : Int) + 1 := wrap_id _ (by omega) (by omega)
  rw [hw]
  obtain ⟨x1, p1, s1, e1, h1, l1, u1, z1⟩ := next_some code p seed ((t.size : Int) + 1) h
  obtain ⟨x2, p2, s2, e2, h2, l2, u2, _⟩ := next_some code p1 s1 8 h1
  obtain ⟨x3, p3, s3, e3, h3, l3, u3, _⟩ := next_some code p2 s2 8 h2
  have v3 := u3 (by omega)
  have b1 : x1 ≤ (t.size : Int) := by
    by_cases hz : (t.size : Int) + 1 ≤ 1
    · rw [z1 hz]; omega
    · have := u1 (by omega); omega
  rw [e1]
  simp only [Option.bind_some]
  rw [e2]
  simp only [Option.bind_some]
  by_cases c0 : x2 = 0
  · rw [if_pos c0, if_pos l1, if_pos b1]
    exact ⟨_, _, _, rfl, by rw [ByteArray.size_extract]; omega⟩
  · rw [if_neg c0]
    by_cases c1 : x2 = 1
    · rw [if_pos c1, if_pos l1, if_pos b1, e3]
      simp only [Option.bind_some]
      have hp : ∀ i : Int, 0 ≤ i → i < 8 → (rdOf ByteArray.empty ([(⟨#[48]⟩ : ByteArray), (⟨#[35]⟩ : ByteArray), (⟨#[46]⟩ : ByteArray), (⟨#[47]⟩ : ByteArray), (⟨#[32]⟩ : ByteArray), (⟨#[97]⟩ : ByteArray), (⟨#[45]⟩ : ByteArray), (⟨#[10]⟩ : ByteArray)] : List ByteArray) i).size = 1 := by
        intro i h0 h8
        rcases (show i = 0 ∨ i = 1 ∨ i = 2 ∨ i = 3 ∨ i = 4 ∨ i = 5 ∨ i = 6 ∨ i = 7 by omega) with rfl | rfl | rfl | rfl | rfl | rfl | rfl | rfl <;> rfl
      have hp3 := hp x3 l3 v3
      have h8 : x3 < ((([(⟨#[48]⟩ : ByteArray), (⟨#[35]⟩ : ByteArray), (⟨#[46]⟩ : ByteArray), (⟨#[47]⟩ : ByteArray), (⟨#[32]⟩ : ByteArray), (⟨#[97]⟩ : ByteArray), (⟨#[45]⟩ : ByteArray), (⟨#[10]⟩ : ByteArray)] : List ByteArray)).length : Int) := v3
      rw [if_pos l3, if_pos h8, if_pos (by rw [hp3, ByteArray.size_extract]; omega), if_pos (by rw [ByteArray.size_append, hp3, ByteArray.size_extract, ByteArray.size_extract]; omega)]
      exact ⟨_, _, _, rfl, by rw [ByteArray.size_append, ByteArray.size_append, hp3, ByteArray.size_extract, ByteArray.size_extract]; omega⟩
    · rw [if_neg c1]
      by_cases c2 : x2 = 2
      · rw [if_pos c2]
        by_cases c3 : x1 < (t.size : Int)
        · have hw1 : wrap64 (x1 + 1) = x1 + 1 := wrap_id _ (by omega) (by omega)
          rw [if_pos c3, if_pos l1, if_pos b1, hw1, if_pos (by omega), if_pos (by omega), if_pos (by rw [ByteArray.size_extract, ByteArray.size_extract]; omega)]
          exact ⟨_, _, _, rfl, by rw [ByteArray.size_append, ByteArray.size_extract, ByteArray.size_extract]; omega⟩
        · exact ⟨_, _, _, if_neg c3, by omega⟩
      · exact ⟨_, _, _, if_neg c2, by omega⟩
theorem drawRead (code : List Int) (hb : ∀ x ∈ code, 0 ≤ x ∧ x ≤ 255) (hl : code.length ≤ 4096) : ∃ t, Ev (fun k => spec_DrawReadProgress.f k code) t ∧ t.size ≤ 2000 := by
  obtain ⟨s, h1, h2⟩ := from_some code hb hl
  obtain ⟨a, b, c, p', s', e, h3, _, _, _⟩ := draw33 code 0 s h2
  obtain ⟨x, p2, s2, e2, h4, _, _, _⟩ := next_some code p' s' 3 h3
  have ht := (text_both a b c).2
  have hz := text_size a b c
  by_cases c0 : x = 0
  · obtain ⟨u, p3, s3, e3, hu⟩ := damage_some code p2 s2 h4 (textOf a b c) (by omega)
    exact ⟨u, Ev.bind h1 (ev_some e (Ev.bind ht (ev_some e2 (ev_pos c0 (ev_some e3 (ev_const rfl)))))), hu⟩
  · exact ⟨_, Ev.bind h1 (ev_some e (Ev.bind ht (ev_some e2 (ev_neg c0 (ev_const rfl))))), by omega⟩
/-! Merged progresses. -/
def okP (x : S23) : Bool := okN x.f0 && (okN x.f1 && okN x.f2)
def nearP (x : S23) : Prop := near x.f0 ∧ near x.f1 ∧ near x.f2
theorem merge_loop (code : List Int) (d : Nat) : ∀ (n : Int) (out : List S23) (p seed : Int), n = (d : Int) → out.length + d ≤ 1000 → St code p seed → (∀ x ∈ out, nearP x) →
    ∃ l, Ev (fun k => spec_DrawMergeProgress.l0 k out n code p seed) l ∧ l.length = out.length + d ∧ ∀ x ∈ l, nearP x := by
  induction d with
  | zero =>
    intro n out p seed hn ho hst hx
    exact ⟨out, Ev.step (f := fun _ => _) (fun k => by simp only [spec_DrawMergeProgress.l0]; rfl) (ev_neg (by omega) (ev_const rfl)), rfl, hx⟩
  | succ d ih =>
    intro n out p seed hn ho hst hx
    obtain ⟨a, b, c, p', s', e, h3, na, nb, nc⟩ := draw33 code p seed hst
    obtain ⟨l, g1, g2, g3⟩ := ih (wrap64 (n - 1)) (out ++ [(⟨a, b, c⟩ : S23)]) p' s' (by rw [wrap_id _ (by omega) (by omega)]; omega) (by simp; omega) h3 (fun x hx' => by
      rcases List.mem_append.1 hx' with h | h
      · exact hx x h
      · obtain rfl := List.mem_singleton.1 h
        exact ⟨na, nb, nc⟩)
    refine ⟨l, Ev.step (f := fun _ => _) (fun k => by simp only [spec_DrawMergeProgress.l0]; rfl) (ev_pos (by omega) (ev_some e ?_)), by rw [g2]; simp; omega, g3⟩
    refine ev_pos (by omega) ?_
    exact g1
theorem drawMerge (code : List Int) (hb : ∀ x ∈ code, 0 ≤ x ∧ x ≤ 255) (hl : code.length ≤ 4096) : ∃ l, Ev (fun k => spec_DrawMergeProgress.f k code) l ∧ l.length ≤ 100 := by
  obtain ⟨s, h1, h2⟩ := from_some code hb hl
  obtain ⟨x1, p1, s1, e1, h3, l1, u1, _⟩ := next_some code 0 s 30 h2
  by_cases c0 : x1 = 0
  · obtain ⟨x2, p2, s2, e2, h4, l2, u2, _⟩ := next_some code p1 s1 2 h3
    have v2 := u2 (by omega)
    have hw : wrap64 (16 + x2) = 16 + x2 := wrap_id _ (by omega) (by omega)
    refine ⟨List.replicate (16 + x2).toNat z23, Ev.bind h1 (ev_some e1 (ev_pos c0 (ev_some e2 ?_))), by simp; omega⟩
    simp only [hw]
    exact ev_pos (by omega) (ev_pos (by omega) (ev_const rfl))
  · obtain ⟨x2, p2, s2, e2, h4, l2, u2, _⟩ := next_some code p1 s1 5 h3
    have v2 := u2 (by omega)
    obtain ⟨m, hm⟩ := Int.eq_ofNat_of_zero_le l2
    obtain ⟨l, g1, g2, _⟩ := merge_loop code m x2 [] p2 s2 hm (by simp; omega) h4 (fun x hx => by cases hx)
    exact ⟨l, Ev.bind h1 (ev_some e1 (ev_neg c0 (ev_some e2 g1))), by rw [g2]; simp; omega⟩
def sums : List S23 → Int → Int → Int × Int × Int
  | [], f, s => (f, s, 0)
  | x :: r, f, s => if okP x then sums r (wrap64 (f + x.f1)) (wrap64 (s + x.f2)) else (0, 0, 2)
def total (xs : List S23) : Int × Int × Int := if 16 < xs.length then (0, 0, 2) else sums xs 0 1
theorem sis_val (x : S23) : spec_l33Is.f x.f0 x.f1 x.f2 = some (okP x) := sis_ok _ _ _
theorem iis_val (x : S23) : impl_isProgress.f x.f0 x.f1 x.f2 = some (okP x) := is_ok _ _ _
theorem spec_loop (xs : List S23) (hm : xs.length ≤ 1000) (d : Nat) : ∀ (n : Nat) (f s : Int), n + d = xs.length →
    Ev (fun k => spec_MergeProgress.l0 k xs f s n) (if 16 < xs.length then (0, 0, 2) else sums (xs.drop n) f s) := by
  induction d with
  | zero =>
    intro n f s hd
    refine Ev.step (f := fun _ => _) (fun k => by simp only [spec_MergeProgress.l0]; rfl) (ev_neg (by omega) ?_)
    rw [List.drop_of_length_le (by omega)]
    by_cases h : 16 < xs.length
    · exact ev_pos (by omega) (ev_const (by rw [if_pos h]))
    · exact ev_neg (by omega) (ev_const (by rw [if_neg h]; rfl))
  | succ d ih =>
    intro n f s hd
    refine Ev.step (f := fun _ => _) (fun k => by simp only [spec_MergeProgress.l0]; rfl) (ev_pos (by omega) (ev_pos (by omega) ?_))
    have hx : rd_T23 xs n = xs.getD n z23 := rfl
    rw [hx]
    refine ev_some (sis_val _) ?_
    rw [drop_cons xs z23 n (by omega), sums]
    by_cases h : okP (xs.getD n z23) = true
    · refine ev_pos h ?_
      rw [wrap_succ n (by omega), if_pos h]
      exact ih (n + 1) _ _ (by omega)
    · refine ev_neg h (ev_const ?_)
      rw [if_neg h]
      split <;> rfl
theorem spec_val (xs : List S23) (hm : xs.length ≤ 1000) : Ev (fun k => spec_MergeProgress.f k xs) (total xs) := spec_loop xs hm xs.length 0 0 1 (by omega)
theorem impl_loop (xs : List S23) (hm : xs.length ≤ 1000) (d : Nat) : ∀ (n : Nat) (f s : Int), n + d = xs.length →
    Ev (fun k => impl_MergeProgress.l0 k f s xs (xs.length : Int) n) (sums (xs.drop n) f s) := by
  induction d with
  | zero =>
    intro n f s hd
    refine Ev.step (f := fun _ => _) (fun k => by simp only [impl_MergeProgress.l0]; rfl) (ev_neg (by omega) ?_)
    rw [List.drop_of_length_le (by omega)]
    exact ev_const rfl
  | succ d ih =>
    intro n f s hd
    refine Ev.step (f := fun _ => _) (fun k => by simp only [impl_MergeProgress.l0]; rfl) (ev_pos (by omega) (ev_pos (by omega) (ev_pos (by omega) ?_)))
    have hx : rd_T23 xs n = xs.getD n z23 := rfl
    rw [hx]
    refine ev_some (iis_val _) ?_
    rw [drop_cons xs z23 n (by omega), sums]
    by_cases h : okP (xs.getD n z23) = true
    · refine ev_pos h ?_
      rw [wrap_succ n (by omega), if_pos h]
      exact ih (n + 1) _ _ (by omega)
    · refine ev_neg h (ev_const ?_)
      rw [if_neg h]
theorem impl_val (xs : List S23) (hm : xs.length ≤ 1000) : Ev (fun k => impl_MergeProgress.f k xs) (total xs) := by
  unfold total
  by_cases h : 16 < xs.length
  · rw [if_pos h]
    exact ev_pos (by omega) (ev_const rfl)
  · rw [if_neg h]
    exact ev_neg (by omega) (impl_loop xs hm xs.length 0 0 1 (by omega))
def sum1 : List S23 → Int
  | [] => 0
  | x :: r => x.f1 + sum1 r
def sum2 : List S23 → Int
  | [] => 0
  | x :: r => x.f2 + sum2 r
theorem ok_range (x : S23) (h : okP x = true) : (0 ≤ x.f1 ∧ x.f1 ≤ 1000000000) ∧ 0 ≤ x.f2 ∧ x.f2 ≤ 1000000000 := by
  simp only [okP, okN, Bool.and_eq_true, decide_eq_true_eq] at h
  omega
theorem sums_ok : ∀ (r : List S23) (f s : Int), 0 ≤ f → 0 ≤ s → f + 1000000000 * (r.length : Int) ≤ 1000000000000000 → s + 1000000000 * (r.length : Int) ≤ 1000000000000000 →
    (sums r f s = (f + sum1 r, s + sum2 r, 0) ∧ r.all okP = true ∧ 0 ≤ sum1 r ∧ sum1 r ≤ 1000000000 * (r.length : Int) ∧ 0 ≤ sum2 r ∧ sum2 r ≤ 1000000000 * (r.length : Int)) ∨ (sums r f s = (0, 0, 2) ∧ r.all okP = false)
  | [], f, s, _, _, _, _ => Or.inl ⟨by simp [sums, sum1, sum2], rfl, by simp [sum1], by simp [sum1], by simp [sum2], by simp [sum2]⟩
  | x :: r, f, s, hf, hs, h1, h2 => by
    rw [List.length_cons] at h1 h2
    by_cases h : okP x = true
    · have hr := ok_range x h
      have e1 : wrap64 (f + x.f1) = f + x.f1 := wrap_id _ (by omega) (by omega)
      have e2 : wrap64 (s + x.f2) = s + x.f2 := wrap_id _ (by omega) (by omega)
      rw [sums, if_pos h, e1, e2, List.all_cons, h, Bool.true_and]
      rcases sums_ok r (f + x.f1) (s + x.f2) (by omega) (by omega) (by omega) (by omega) with ⟨g1, g2, g3, g4, g5, g6⟩ | ⟨g1, g2⟩
      · left
        rw [g1, sum1, sum2, List.length_cons]
        exact ⟨by rw [← Int.add_assoc, ← Int.add_assoc], g2, by omega, by omega, by omega, by omega⟩
      · exact Or.inr ⟨g1, g2⟩
    · right
      have h' : okP x = false := by simpa using h
      exact ⟨by rw [sums, if_neg h], by rw [List.all_cons, h']; rfl⟩
theorem total_next (x : S23) (r : List S23) (hc : (total (x :: r)).2.2 = 0) : (total r).2.2 = 0 ∧ (total (x :: r)).1 = wrap64 ((total r).1 + x.f1) ∧ (total (x :: r)).2.1 = wrap64 ((total r).2.1 + x.f2) := by
  unfold total at hc ⊢
  by_cases hl : 16 < (x :: r).length
  · rw [if_pos hl] at hc; cases hc
  · rw [if_neg hl] at hc ⊢
    rw [List.length_cons] at hl
    rw [if_neg (show ¬ 16 < r.length by omega)]
    rcases sums_ok (x :: r) 0 1 (by omega) (by omega) (by rw [List.length_cons]; omega) (by rw [List.length_cons]; omega) with ⟨g1, g2, _⟩ | ⟨g1, _⟩
    · rw [List.all_cons, Bool.and_eq_true] at g2
      have hr := ok_range x g2.1
      rcases sums_ok r 0 1 (by omega) (by omega) (by omega) (by omega) with ⟨k1, k2, k3, k4, k5, k6⟩ | ⟨_, k2⟩
      · rw [g1, k1]
        refine ⟨rfl, ?_, ?_⟩
        · show 0 + sum1 (x :: r) = wrap64 (0 + sum1 r + x.f1)
          rw [sum1, wrap_id _ (by omega) (by omega)]; omega
        · show 1 + sum2 (x :: r) = wrap64 (1 + sum2 r + x.f2)
          rw [sum2, wrap_id _ (by omega) (by omega)]; omega
      · rw [g2.2] at k2; cases k2
    · rw [g1] at hc; cases hc
theorem last_val (l : List S23) (hl : l.length ≤ 100) : Ev (fun k => laws_FnProgress.j0 k l (total l).1 (total l).2.1 (total l).2.2 false) true := by
  refine Ev.step (f := fun _ => _) (fun k => by simp only [laws_FnProgress.j0]; rfl) ?_
  refine ev_neg (by simp) ?_
  by_cases c : (total l).2.2 = 0
  · refine ev_pos c ?_
    cases l with
    | nil => exact ev_pos rfl (ev_pos rfl (ev_const rfl))
    | cons x r =>
      obtain ⟨g1, g2, g3⟩ := total_next x r c
      refine ev_neg (by simp only [List.length_cons]; omega) (ev_pos (by simp only [List.length_cons]; omega) (Ev.bind (impl_val r (by simp only [List.length_cons] at hl; omega)) (ev_pos g1 (ev_pos (by simp only [List.length_cons]; omega) ?_))))
      rw [show rd_T23 (x :: r) 0 = x from rfl]
      refine ev_pos g2 (ev_const ?_)
      rw [← g3]
      simp
  · exact ev_neg c (ev_const rfl)
theorem FnProgress (l : List Int) (hm : l.length ≤ maxLen) (_ : l.length * 1 ≤ 140737488351232) (hg : ∀ x ∈ l, (Lit.int .u8 x).wf = true) : ∃ k, laws_FnProgress.f k l = some true := by
  refine Ev.rounds (g := fun k => laws_FnProgress.f k l) ?_
  refine ev_some (a := decide ((l.length : Int) > 4096)) rfl ?_
  by_cases hbig : (l.length : Int) > 4096
  · exact ev_pos (decide_eq_true hbig) (ev_const rfl)
  · have hb : ∀ x ∈ l, 0 ≤ x ∧ x ≤ 255 := fun x hx => by
      have := hg x hx
      simp [Lit.wf, IntKind.has, IntKind.min, IntKind.max, IntKind.bits, IntKind.signed] at this
      omega
    obtain ⟨a, b, c, d1, na, nb, nc⟩ := drawText l hb (by omega)
    obtain ⟨t, d2, ht⟩ := drawRead l hb (by omega)
    obtain ⟨ml, d3, hml⟩ := drawMerge l hb (by omega)
    have tb := text_both a b c
    have tz := text_size a b c
    have r1 := implRead (textOf a b c) (by omega)
    have r2 := implRead t (by omega)
    have r3 := specRead t (by omega)
    have r4 := impl_val ml (by omega)
    have r5 := spec_val ml (by omega)
    have hl := last_val ml hml
    have hrt := read_text a b c
    have hte := text_empty a b c
    rw [hrt] at r1
    generalize finP (canonAll (splitL t colon)) = q at r2 r3
    have ne : ∀ z : Bool, (z != z) = false := fun z => by simp
    have rest : Ev (fun k => if (q.2.2.2 != q.2.2.2) = true then laws_FnProgress.j0 k ml (total ml).1 (total ml).2.1 (total ml).2.2 true else if (!(q.1 == q.1) || (!(q.2.1 == q.2.1) || (!(q.2.2.1 == q.2.2.1)))) = true then laws_FnProgress.j0 k ml (total ml).1 (total ml).2.1 (total ml).2.2 true else if (total ml).2.2 = (total ml).2.2 then (if (total ml).1 = (total ml).1 then laws_FnProgress.j0 k ml (total ml).1 (total ml).2.1 (total ml).2.2 ((total ml).2.1 != (total ml).2.1) else laws_FnProgress.j0 k ml (total ml).1 (total ml).2.1 (total ml).2.2 true) else laws_FnProgress.j0 k ml (total ml).1 (total ml).2.1 (total ml).2.2 true) true := by
      refine ev_neg (by simp) (ev_neg (by simp) (ev_pos rfl (ev_pos rfl ?_)))
      rw [show ((total ml).2.1 != (total ml).2.1) = false by simp]
      exact hl
    refine ev_neg (by simpa using hbig) (Ev.bind d1 (Ev.bind tb.1 (Ev.bind r1 (Ev.bind d2 (Ev.bind r2 (Ev.bind r3 (Ev.bind d3 (Ev.bind r4 (Ev.bind r5 (Ev.bind tb.2 (ev_pos rfl ?_)))))))))))
    cases hk : (okN a && (okN b && okN c)) with
    | false =>
      have he := hte.2 hk
      refine ev_neg (by rw [he]; simp) (ev_neg (by simp) ?_)
      exact rest
    | true =>
      have he : (textOf a b c).toList ≠ [] := fun e => by rw [hte.1 e] at hk; cases hk
      refine ev_neg (by simp [he]) (ev_pos (by simp) (ev_neg (by simp) ?_))
      exact rest
end Go.Proofs.YtgfobaggkkjhpaaDoor.Pure
