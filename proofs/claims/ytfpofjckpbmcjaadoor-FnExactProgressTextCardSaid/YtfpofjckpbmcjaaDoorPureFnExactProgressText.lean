/- What is proved: for every progress the law FnExactProgressText answers true: the program's ProgressText gives the very bytes that the reference's gives. No condition beyond the kinds of the three numbers. -/
import Derived.Test.YtfpofjckpbmcjaaDoorPFnExactProgressTextx0
import Derived.Test.YtfpofjckpbmcjaaDoorPFnExactProgressTextx1
import Derived.Test.YtfpofjckpbmcjaaDoorPFnExactProgressTextx2
import Derived.Test.YtfpofjckpbmcjaaDoorKit
import Derived.Lib.ItoaLen
set_option linter.unusedVariables false
set_option linter.unusedSimpArgs false
namespace Go.Proofs.YtfpofjckpbmcjaaDoor.Pure
open Go.RowKit Go.Proofs.YtfpofjckpbmcjaaDoor.PFnExactProgressText Go.Proofs.YtfpofjckpbmcjaaDoorW.PrintWords Go.Proofs.YtfpofjckpbmcjaaDoorW.PrintLast Go.Proofs.YtfpofjckpbmcjaaDoor.Kit
/-! Decimal: the reference's digits are the library's. -/
theorem bytes_ext {a b : ByteArray} (h : a.data.toList = b.data.toList) : a = b := WideShapes.bytes_inj h
theorem decimal_list (u : Nat) : (decimal (u : Int)).data.toList = Lib.decDigits u := by
  show (Lib.itoa (u : Int)).toArray.toList = _
  rw [Lib.itoa_nonneg]
theorem decimal_size (n : Int) (h0 : -9223372036854775808 ≤ n) (h1 : n ≤ 9223372036854775807) : (decimal n).size ≤ 21 := by
  have := Lib.itoa_length_le n h0 h1
  show (Lib.itoa n).toArray.size ≤ 21
  simpa using this
theorem append_list (a b : ByteArray) : (a ++ b).data.toList = a.data.toList ++ b.data.toList := by simp
theorem dec_val (u : Nat) : u ≤ 9000000000000000000 → Ev (fun k => spec_l01Dec.f k (u : Int)) (decimal u) := by
  induction u using Nat.strongRecOn with
  | _ u ih =>
    intro hu
    refine Ev.step (f := fun _ => _) (fun k => by simp only [spec_l01Dec.f]; rfl) ?_
    by_cases h : u < 10
    · refine ev_pos (by omega) (ev_const ?_)
      congr 1
      refine bytes_ext ?_
      rw [decimal_list, Lib.decDigits_one h, strOfNums_data, wrap_id _ (by omega) (by omega)]
      simp only [List.map_cons, List.map_nil]
      congr 2
      omega
    · refine ev_neg (by omega) ?_
      have h1 := ih (u / 10) (by omega) (by omega)
      have e1 : wrap64 (Int.tdiv (u : Int) 10) = ((u / 10 : Nat) : Int) := by
        rw [Int.tdiv_eq_ediv_of_nonneg (by omega), wrap_id _ (by omega) (by omega)]
        omega
      rw [e1]
      refine Ev.bind h1 ?_
      refine ev_some rfl (ev_pos ?_ (ev_const ?_))
      · have := decimal_size ((u / 10 : Nat) : Int) (by omega) (by omega)
        rw [strOfNums_size]
        simp only [List.length_cons, List.length_nil]
        omega
      · congr 1
        refine bytes_ext ?_
        rw [append_list, decimal_list, decimal_list, Lib.decDigits.eq_def u, dif_neg h, strOfNums_data]
        congr 1
        simp only [List.map_cons, List.map_nil]
        rw [Int.tmod_eq_emod_of_nonneg (by omega), wrap_id _ (by omega) (by omega)]
        congr 2
        omega
def okN (a : Int) : Bool := decide (0 ≤ a) && decide (a ≤ 1000000000)
theorem in_val (a : Int) : spec_l01In.f a 0 1000000000 = some (okN a) := by
  unfold spec_l01In.f okN
  split
  · rename_i h
    simp [show 0 ≤ a from h]
  · rename_i h
    simp [show ¬ (0 ≤ a) from h]
theorem is_val (a b c : Int) : spec_l33Is.f a b c = some (okN a && (okN b && okN c)) := by
  unfold spec_l33Is.f
  rw [in_val, in_val, in_val]
  cases okN a <;> cases okN b <;> cases okN c <;> rfl
theorem is_same (a b c : Int) : impl_isProgress.f a b c = spec_l33Is.f a b c := rfl
def colon : ByteArray := ⟨#[58]⟩
theorem join3 (a b c : ByteArray) : joined [a, b, c] colon = a ++ colon ++ b ++ colon ++ c := by
  refine bytes_ext ?_
  rw [append_list, append_list, append_list, append_list]
  show (Lib.join [a.data.toList, b.data.toList, c.data.toList] colon.data.toList).toArray.toList = _
  simp [Lib.join, List.intercalate]
theorem numbers_loop (a b c : Int) (ha : -9223372036854775808 ≤ a ∧ a ≤ 9223372036854775807) (hb : -9223372036854775808 ≤ b ∧ b ≤ 9223372036854775807) (hc : -9223372036854775808 ≤ c ∧ c ≤ 9223372036854775807) :
    Ev (fun k => impl_numbersText.f k [a, b, c] colon) (joined [decimal a, decimal b, decimal c] colon) := by
  have ra : rd [a, b, c] 0 = a := rfl
  have rb : rd [a, b, c] 1 = b := rfl
  have rc : rd [a, b, c] 2 = c := rfl
  have w0 : wrap64 (0 + 1) = 1 := wrap_id _ (by omega) (by omega)
  have w1 : wrap64 (1 + 1) = 2 := wrap_id _ (by omega) (by omega)
  have w2 : wrap64 (2 + 1) = 3 := wrap_id _ (by omega) (by omega)
  have fm : ∀ x : Int, -9223372036854775808 ≤ x ∧ x ≤ 9223372036854775807 → strconv_FormatInt.f x 10 = some (decimal x) := fun x hx => by
    unfold strconv_FormatInt.f
    rw [if_pos ⟨rfl, hx.1, hx.2⟩]
  unfold impl_numbersText.f
  refine Ev.step (f := fun _ => _) (fun k => by simp only [impl_numbersText.l0]; rfl) ?_
  refine (ev_pos (by simp) (ev_pos (by omega) (ev_pos (by simp) (ev_some (by rw [ra]; exact fm a ha) (ev_pos (by simp) ?_)))))
  rw [w0]
  refine Ev.step (f := fun _ => _) (fun k => by simp only [impl_numbersText.l0]; rfl) ?_
  refine (ev_pos (by simp) (ev_pos (by omega) (ev_pos (by simp) (ev_some (by rw [rb]; exact fm b hb) (ev_pos (by simp) ?_)))))
  rw [w1]
  refine Ev.step (f := fun _ => _) (fun k => by simp only [impl_numbersText.l0]; rfl) ?_
  refine (ev_pos (by simp) (ev_pos (by omega) (ev_pos (by simp) (ev_some (by rw [rc]; exact fm c hc) (ev_pos (by simp) ?_)))))
  rw [w2]
  refine Ev.step (f := fun _ => _) (fun k => by simp only [impl_numbersText.l0]; rfl) ?_
  refine (ev_neg (by simp) (ev_some ?_ (ev_const rfl)))
  unfold strings_Join.f
  have s1 := decimal_size a ha.1 ha.2
  have s2 := decimal_size b hb.1 hb.2
  have s3 := decimal_size c hc.1 hc.2
  refine if_pos ⟨by simp, ?_⟩
  show (joined [decimal a, decimal b, decimal c] colon).size ≤ _
  rw [join3]
  simp only [ByteArray.size_append, show colon.size = 1 from rfl]
  omega
theorem FnExactProgressText (a b c : Int) (_ : (Lit.int .i64 a).wf = true ∧ (Lit.int .i64 b).wf = true ∧ (Lit.int .i64 c).wf = true) : ∃ k, laws_FnExactProgressText.f k a b c = some true := by
  refine Ev.rounds (g := fun k => laws_FnExactProgressText.f k a b c) ?_
  have hs := is_val a b c
  have hi : impl_isProgress.f a b c = _ := (is_same a b c).trans hs
  refine ev_some (a := (a, b, c)) rfl ?_
  cases h : (okN a && (okN b && okN c)) with
  | false =>
    rw [h] at hs hi
    exact Ev.bind (ev_some hs (ev_neg (by simp) (ev_const rfl))) (ev_some (a := (a, b, c)) rfl (Ev.bind (ev_some hi (ev_neg (by simp) (ev_const rfl))) (ev_pos rfl (ev_const rfl))))
  | true =>
    rw [h] at hs hi
    simp only [okN, Bool.and_eq_true, decide_eq_true_eq] at h
    obtain ⟨⟨a0, a1⟩, ⟨b0, b1⟩, c0, c1⟩ := h
    obtain ⟨u, rfl⟩ := Int.eq_ofNat_of_zero_le a0
    obtain ⟨v, rfl⟩ := Int.eq_ofNat_of_zero_le b0
    obtain ⟨z, rfl⟩ := Int.eq_ofNat_of_zero_le c0
    have s1 := decimal_size (u : Int) (by omega) (by omega)
    have s2 := decimal_size (v : Int) (by omega) (by omega)
    have s3 := decimal_size (z : Int) (by omega) (by omega)
    have e1 : (⟨#[58]⟩ : ByteArray).size = 1 := rfl
    refine Ev.bind (ev_some hs (ev_pos rfl (Ev.bind (dec_val u (by omega)) (ev_pos (by omega) (Ev.bind (dec_val v (by omega)) (ev_pos (by simp only [ByteArray.size_append, e1]; omega) (ev_pos (by simp only [ByteArray.size_append, e1]; omega) (Ev.bind (dec_val z (by omega)) (ev_pos (by simp only [ByteArray.size_append, e1]; omega) (ev_const rfl)))))))))) ?_
    refine ev_some (a := ((u : Int), (v : Int), (z : Int))) rfl ?_
    have hn := numbers_loop (u : Int) v z ⟨by omega, by omega⟩ ⟨by omega, by omega⟩ ⟨by omega, by omega⟩
    refine Ev.bind (ev_some hi (ev_pos rfl (Ev.bind (Ev.bind hn (ev_const rfl)) (ev_const rfl)))) (ev_pos ?_ (ev_const rfl))
    rw [join3]
    rfl
end Go.Proofs.YtfpofjckpbmcjaaDoor.Pure
