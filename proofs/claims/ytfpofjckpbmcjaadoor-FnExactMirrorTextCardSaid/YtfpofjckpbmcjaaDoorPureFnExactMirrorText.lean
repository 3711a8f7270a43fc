/- What is proved: for every text the law FnExactMirrorText answers true: the program's MirrorText and the reference's agree. No condition. -/
import Derived.Test.YtfpofjckpbmcjaaDoorPFnExactMirrorTextx0
import Derived.Test.YtfpofjckpbmcjaaDoorPFnExactMirrorTextx1
import Derived.Test.YtfpofjckpbmcjaaDoorKit
import Derived.Lib.Split
import Derived.Lib.SplitLaws
import Derived.Lib.Join
set_option linter.unusedVariables false
set_option linter.unusedSimpArgs false
namespace Go.Proofs.YtfpofjckpbmcjaaDoor.Pure
open Go.RowKit Go.Proofs.YtfpofjckpbmcjaaDoor.PFnExactMirrorText Go.Proofs.YtfpofjckpbmcjaaDoorW.PrintWords Go.Proofs.YtfpofjckpbmcjaaDoorW.PrintLast Go.Proofs.YtfpofjckpbmcjaaDoor.Kit
/-! Cut at every instance of one byte: the library's strings.Split and the reference's loop come to the same list. -/
def spl (c : UInt8) : List UInt8 → List (List UInt8)
  | [] => [[]]
  | b :: l => if b = c then [] :: spl c l else match spl c l with
    | [] => [[b]]
    | p :: r => (b :: p) :: r
def pre (p : List UInt8) : List (List UInt8) → List (List UInt8)
  | [] => [p]
  | q :: r => (p ++ q) :: r
def mkB (l : List UInt8) : ByteArray := ⟨l.toArray⟩
theorem spl_ne (c : UInt8) (l : List UInt8) : spl c l ≠ [] := by
  cases l with
  | nil => simp [spl]
  | cons b l =>
    unfold spl
    split
    · simp
    · split <;> simp
theorem pre_nil (L : List (List UInt8)) (h : L ≠ []) : pre [] L = L := by
  cases L with
  | nil => exact absurd rfl h
  | cons q r => simp [pre]
theorem pre_cons (c b : UInt8) (h : b ≠ c) (p l : List UInt8) : pre p (spl c (b :: l)) = pre (p ++ [b]) (spl c l) := by
  rw [spl, if_neg h]
  split
  · next e => exact absurd e (spl_ne c l)
  · next q r e => rw [e]; simp [pre]
theorem splitK_one (c : UInt8) : ∀ l : List UInt8, Lib.splitK [c] 0 (Lib.count l [c]) l = spl c l
  | [] => by rw [Lib.count_miss (by simp [Lib.index])]; rfl
  | b :: l => by
    have ih := splitK_one c l
    by_cases h : b = c
    · subst h
      have hix : Lib.index (b :: l) [b] = 0 := by rw [Lib.index]; simp [List.isPrefixOf]
      rw [Lib.count_cons_eq, Nat.add_comm, Lib.splitK, if_neg (by rw [hix]; decide), hix, spl, if_pos rfl, ← ih]
      simp
    · have hp : ([c] : List UInt8).isPrefixOf (b :: l) = false := by simp [List.isPrefixOf, Ne.symm h]
      have hix : Lib.index (b :: l) [c] = if Lib.index l [c] == -1 then -1 else Lib.index l [c] + 1 := by rw [Lib.index, hp]; simp
      rw [Lib.count_cons_ne b c l h, spl, if_neg h, ← ih]
      cases hk : Lib.count l [c] with
      | zero => rfl
      | succ k =>
        have hm : ¬ (Lib.index l [c] == -1) = true := fun e => by
          rw [Lib.count_miss (beq_iff_eq.1 e)] at hk
          cases hk
        have hge := Lib.index_ge l [c]
        have hne : Lib.index l [c] ≠ -1 := fun e => hm (beq_iff_eq.2 e)
        obtain ⟨j, hj⟩ : ∃ j : Nat, Lib.index l [c] = j := ⟨(Lib.index l [c]).toNat, by omega⟩
        rw [if_neg hm, hj] at hix
        have hm2 : ¬ (Lib.index (b :: l) [c] == -1) = true := fun e => by rw [hix] at e; have := beq_iff_eq.1 e; omega
        rw [Lib.splitK, if_neg hm2, Lib.splitK, if_neg hm, hix, hj]
        have e1 : ((j : Int) + 1).toNat = j + 1 := by omega
        rw [e1]
        simp
theorem mkB_data (s : ByteArray) : mkB s.data.toList = s := by
  obtain ⟨⟨l⟩⟩ := s
  rfl
theorem splitL_one (s : ByteArray) (c : UInt8) : splitL s ⟨#[c]⟩ = (spl c s.data.toList).map mkB := by
  have h := Lib.splitB_data ⟨#[c]⟩ 0 (Lib.countB s ⟨#[c]⟩) s
  rw [show Lib.countB s ⟨#[c]⟩ = Lib.count s.data.toList [c] from rfl, show (⟨#[c]⟩ : ByteArray).data.toList = [c] from rfl, splitK_one] at h
  rw [← h, List.map_map]
  conv => lhs; rw [← List.map_id (splitL s ⟨#[c]⟩)]
  apply List.map_congr_left
  intro x _
  exact (mkB_data x).symm
theorem spl_len (c : UInt8) (l : List UInt8) : ((spl c l).map fun x => x.length + 1).sum = l.length + 1 := by
  induction l with
  | nil => rfl
  | cons b l ih =>
    rw [spl]
    split
    · simp [ih]; omega
    · split
      · next e => exact absurd e (spl_ne c l)
      · next q r e => rw [e] at ih; simp at ih ⊢; omega
theorem spl_pieces (c : UInt8) (l : List UInt8) : ∀ x ∈ spl c l, x.length ≤ l.length := by
  induction l with
  | nil => simp [spl]
  | cons b l ih =>
    intro x hx
    rw [spl] at hx
    split at hx
    · rcases List.mem_cons.1 hx with rfl | hx
      · simp
      · have := ih x hx; simp; omega
    · split at hx
      · next e => exact absurd e (spl_ne c l)
      · next q r e =>
        rcases List.mem_cons.1 hx with rfl | hx
        · have := ih q (by rw [e]; simp); simp; omega
        · have := ih x (by rw [e]; simp [hx]); simp; omega
theorem data_len (s : ByteArray) : s.data.toList.length = s.size := Array.length_toList
theorem extract_mkB (s : ByteArray) (a b : Nat) : s.extract a b = mkB ((s.data.toList.take b).drop a) := by
  apply ByteArray.ext
  apply Array.toList_inj.1
  rw [Lib.extract_data]
  simp [mkB, List.drop_take]
theorem bt_getD (s : ByteArray) (i : Nat) (hi : i < s.size) (c : UInt8) : bt s (i : Int) = (c.toNat : Int) ↔ s.data.toList.getD i 0 = c := by
  have e : bt s (i : Int) = ((s.data.toList.getD i 0).toNat : Int) := by
    unfold bt
    have h' : i < s.data.toList.length := by rw [data_len]; exact hi
    rw [dif_pos (by simpa using hi), List.getD_eq_getElem?_getD, List.getElem?_eq_getElem h']
    rfl
  rw [e]
  constructor
  · intro h
    exact UInt8.toNat_inj.1 (by omega)
  · intro h
    rw [h]
theorem l01Split_loop (s : ByteArray) (c : UInt8) (hs : s.size ≤ 1000000000) (d : Nat) : ∀ (i a : Nat) (out : List ByteArray), i + d = s.size → a ≤ i → out.length ≤ i →
    Ev (fun k => spec_l01Split.l0 k s (c.toNat : Int) out a i) (out ++ (pre ((s.data.toList.take i).drop a) (spl c (s.data.toList.drop i))).map mkB) := by
  induction d with
  | zero =>
    intro i a out hi ha ho
    refine Ev.step (f := fun _ => _) (fun k => by simp only [spec_l01Split.l0]; rfl) (ev_pos (by omega) (ev_pos (by omega) (ev_pos (by omega) (ev_pos (by omega) (ev_pos (by omega) ?_)))))
    rw [wrap_succ i (by omega)]
    refine Ev.step (f := fun _ => _) (fun k => by simp only [spec_l01Split.l0]; rfl) (ev_neg (by omega) (ev_const ?_))
    rw [show s.data.toList.drop i = [] from List.drop_of_length_le (by rw [data_len]; omega), Int.toNat_natCast, Int.toNat_natCast, extract_mkB]
    simp [spl, pre]
  | succ d ih =>
    intro i a out hi ha ho
    have hl : i < s.data.toList.length := by rw [data_len]; omega
    have hd : s.data.toList.drop i = s.data.toList.getD i 0 :: s.data.toList.drop (i + 1) := drop_cons _ _ _ hl
    have ht : s.data.toList.take (i + 1) = s.data.toList.take i ++ [s.data.toList.getD i 0] := take_succ_getD _ _ _ hl
    refine Ev.step (f := fun _ => _) (fun k => by simp only [spec_l01Split.l0]; rfl) (ev_pos (by omega) (ev_neg (by omega) (ev_pos (by omega) (ev_pos (by omega) ?_))))
    by_cases hc : s.data.toList.getD i 0 = c
    · refine ev_pos ((bt_getD s i (by omega) c).2 hc) (ev_pos (by omega) (ev_pos (by omega) (ev_pos (by omega) ?_)))
      rw [wrap_succ i (by omega)]
      refine ev_eq (ih (i + 1) (i + 1) _ (by omega) (Nat.le_refl _) (by simp; omega)) ?_
      rw [hd, hc, spl, if_pos rfl, Int.toNat_natCast, Int.toNat_natCast, extract_mkB, show List.drop (i + 1) (List.take (i + 1) s.data.toList) = [] from List.drop_of_length_le (by rw [List.length_take]; omega), pre_nil _ (spl_ne _ _)]
      simp [pre]
    · refine ev_neg (fun e => hc ((bt_getD s i (by omega) c).1 e)) ?_
      rw [wrap_succ i (by omega)]
      refine ev_eq (ih (i + 1) a _ (by omega) (by omega) (by omega)) ?_
      rw [hd, pre_cons _ _ hc, ht, List.drop_append_of_le_length (by rw [List.length_take]; omega)]
theorem l01Split_val (s : ByteArray) (c : UInt8) (hs : s.size ≤ 1000000000) : Ev (fun k => spec_l01Split.f k s (c.toNat : Int)) ((spl c s.data.toList).map mkB) := by
  refine ev_eq (l01Split_loop s c hs s.size 0 0 [] (by omega) (Nat.le_refl _) (by simp)) ?_
  simp [pre_nil _ (spl_ne _ _)]
theorem mirrorB_data (x : ByteArray) : (mirrorB x).data.toList = x.data.toList.reverse := by
  unfold mirrorB
  exact Array.toList_reverse
def numB (U : List UInt8) : List Int := U.map fun b => (b.toNat : Int)
theorem mirror_in (rows : List ByteArray) (i : Nat) (hi : i < rows.length) (r : ByteArray × Int) (hr : rows.length ≤ 1000000) (m : Nat) : ∀ (U : List UInt8), m ≤ (rows.getD i ByteArray.empty).size → U.length + m ≤ 1000000 → (rows.getD i ByteArray.empty).size ≤ 1000000 →
    Ev (fun k => spec_MirrorText.l0 k rows (numB (U ++ ((rows.getD i ByteArray.empty).data.toList.take m).reverse)) ((i + 1 : Nat) : Int)) r → Ev (fun k => spec_MirrorText.l1 k rows (numB U) i ((m : Int) - 1)) r := by
  induction m with
  | zero =>
    intro U _ _ _ h
    refine Ev.step (f := fun _ => _) (fun k => by simp only [spec_MirrorText.l1]; rfl) (ev_neg (by omega) ?_)
    rw [wrap_succ i (by omega)]
    simpa using h
  | succ m ih =>
    intro U hm hU hb h
    have hl : m < (rows.getD i ByteArray.empty).data.toList.length := by rw [data_len]; omega
    have e1 : ((m + 1 : Nat) : Int) - 1 = (m : Int) := by omega
    have ex : rdOf ByteArray.empty rows (i : Int) = rows.getD i ByteArray.empty := rfl
    rw [e1]
    refine Ev.step (f := fun _ => _) (fun k => by simp only [spec_MirrorText.l1]; rfl) (ev_pos (by omega) (ev_pos (by omega) (ev_pos (by omega) (ev_pos (by omega) (ev_pos (by rw [ex]; omega) (ev_pos (by simp [numB]; omega) ?_))))))
    rw [wrap_id _ (by omega) (by omega), ex]
    have hbt : bt (rows.getD i ByteArray.empty) (m : Int) = (((rows.getD i ByteArray.empty).data.toList.getD m 0).toNat : Int) := (bt_getD _ m (by omega) _).2 rfl
    rw [hbt]
    have := ih (U ++ [(rows.getD i ByteArray.empty).data.toList.getD m 0]) (by omega) (by simp; omega) hb (by
      rw [take_succ_getD _ 0 m hl] at h
      simpa using h)
    simpa [numB] using this
theorem mirror_out (rows : List ByteArray) (hr : rows.length ≤ 1000000) (d : Nat) : ∀ (i : Nat) (U : List UInt8), i + d = rows.length → 1 ≤ i → U.length + (((rows.drop i).map fun x => x.size + 1).sum) ≤ 1000000 →
    Ev (fun k => spec_MirrorText.l0 k rows (numB U) i) (mkB (U ++ Lib.joinTail [47] ((rows.drop i).map fun x => x.data.toList.reverse)), 0) := by
  induction d with
  | zero =>
    intro i U hi h1 _
    refine Ev.step (f := fun _ => _) (fun k => by simp only [spec_MirrorText.l0]; rfl) (ev_neg (by omega) (ev_const ?_))
    rw [List.drop_of_length_le (by omega), show strOfNums (numB U) = mkB U from strOfNums_bytes U]
    simp [Lib.joinTail]
  | succ d ih =>
    intro i U hi h1 hU
    have hd := drop_cons rows ByteArray.empty i (by omega)
    rw [hd] at hU
    simp only [List.map_cons, List.sum_cons] at hU
    have ex : rdOf ByteArray.empty rows (i : Int) = rows.getD i ByteArray.empty := rfl
    refine Ev.step (f := fun _ => _) (fun k => by simp only [spec_MirrorText.l0]; rfl) (ev_pos (by omega) (ev_pos (by omega) (ev_pos (by simp [numB]; omega) ?_)))
    refine Ev.step (f := fun _ => _) (fun k => by simp only [spec_MirrorText.j1]; rfl) (ev_pos (by omega) (ev_pos (by omega) ?_))
    rw [ex, wrap_id _ (by omega) (by omega)]
    have hn : numB U ++ [47] = numB (U ++ [47]) := by simp [numB]
    rw [hn]
    refine mirror_in rows i (by omega) _ hr _ _ (Nat.le_refl _) (by rw [List.length_append]; simp only [List.length_cons, List.length_nil]; omega) (by omega) ?_
    refine ev_eq (ih (i + 1) _ (by omega) (by omega) (by simp only [List.length_append, List.length_reverse, List.length_take, data_len, List.length_cons, List.length_nil]; omega)) ?_
    rw [hd, List.take_of_length_le (Nat.le_of_eq (data_len _))]
    simp [Lib.joinTail]
theorem mirror_val (x : ByteArray) (rest : List ByteArray) (hr : rest.length < 1000000) (hl : (((x :: rest).map fun x => x.size + 1).sum) ≤ 1000000) :
    Ev (fun k => spec_MirrorText.l0 k (x :: rest) [] 0) (joined ((x :: rest).map mirrorB) ⟨#[47]⟩, 0) := by
  simp only [List.map_cons, List.sum_cons] at hl
  refine Ev.step (f := fun _ => _) (fun k => by simp only [spec_MirrorText.l0]; rfl) (ev_pos (by simp only [List.length_cons]; omega) (ev_neg (by omega) ?_))
  refine Ev.step (f := fun _ => _) (fun k => by simp only [spec_MirrorText.j1]; rfl) (ev_pos (by omega) (ev_pos (by simp only [List.length_cons]; omega) ?_))
  rw [show rdOf ByteArray.empty (x :: rest) 0 = x from rfl, wrap_id _ (by omega) (by omega)]
  refine mirror_in (x :: rest) 0 (by simp) _ (by simp; omega) x.size [] (Nat.le_refl _) (by simp; omega) (by show x.size ≤ _; omega) ?_
  refine ev_eq (mirror_out (x :: rest) (by simp; omega) rest.length 1 _ (by simp; omega) (Nat.le_refl _) (by
    simp only [List.drop_succ_cons, List.drop_zero, List.nil_append, List.length_reverse, List.length_take, show (x :: rest).getD 0 ByteArray.empty = x from rfl, data_len]
    omega)) ?_
  refine Prod.ext ?_ rfl
  have e : ∀ r : List ByteArray, (r.map mirrorB).map (fun x => x.data.toList) = r.map fun x => x.data.toList.reverse := fun r => by
    rw [List.map_map]
    exact List.map_congr_left (fun x _ => mirrorB_data x)
  show mkB _ = mkB (Lib.join (((x :: rest).map mirrorB).map (fun x => x.data.toList)) [47])
  rw [e, List.map_cons, Lib.join_cons, show (x :: rest).getD 0 ByteArray.empty = x from rfl, List.take_of_length_le (Nat.le_of_eq (data_len _)), List.nil_append]
  rfl
theorem joined_len (L : List ByteArray) : (joined (L.map mirrorB) ⟨#[47]⟩).size ≤ (L.map fun x => x.size + 1).sum := by
  cases L with
  | nil => exact Nat.le_refl _
  | cons x r =>
    have h : ∀ r : List ByteArray, (Lib.joinTail [47] (r.map fun x => (mirrorB x).data.toList)).length = (r.map fun x => x.size + 1).sum := by
      intro r
      induction r with
      | nil => rfl
      | cons y r ih =>
        have e : (mirrorB y).data.toList.length = y.size := by rw [mirrorB_data, List.length_reverse, data_len]
        simp only [Lib.joinTail, List.map_cons, List.flatten_cons, List.length_append, List.length_cons, List.length_nil, List.sum_cons] at ih ⊢
        rw [ih, e]; omega
    have e : (mirrorB x).data.toList.length = x.size := by rw [mirrorB_data, List.length_reverse, data_len]
    show (Lib.join (((x :: r).map mirrorB).map (fun x => x.data.toList)) [47]).toArray.size ≤ _
    rw [List.size_toArray, List.map_map, List.map_cons, Lib.join_cons, List.length_append]
    have := h r
    simp only [Function.comp_def, List.map_cons, List.sum_cons] at this ⊢
    rw [this, e]
    omega
theorem FnExactMirrorText (a0 : ByteArray) (_ : a0.size ≤ 140737488351232) : ∃ k, laws_FnExactMirrorText.f k a0 = some true := by
  refine Ev.rounds (g := fun k => laws_FnExactMirrorText.f k a0) ?_
  by_cases h : (a0.size : Int) > 1048576
  · exact ev_pos h (ev_const rfl)
  · refine ev_neg h ?_
    by_cases h2 : (a0.size : Int) > 12000
    · refine Ev.bind (a := (⟨#[]⟩, 3)) (ev_pos h2 (ev_const rfl)) (ev_some (a := (⟨#[]⟩, 3)) (by unfold impl_MirrorText.f; rw [if_pos h2]) ?_)
      exact ev_pos rfl (ev_pos rfl (ev_const rfl))
    · have hs := splitL_one a0 47
      have hl := spl_len 47 a0.data.toList
      rw [data_len] at hl
      have hsum : ((splitL a0 ⟨#[47]⟩).map fun x => x.size + 1).sum = a0.size + 1 := by
        rw [hs, List.map_map, ← hl]
        congr 1
      have hln : (splitL a0 ⟨#[47]⟩).length ≤ ((splitL a0 ⟨#[47]⟩).map fun x => x.size + 1).sum := by
        generalize splitL a0 ⟨#[47]⟩ = L
        induction L with
        | nil => simp
        | cons x r ih => simp at ih ⊢; omega
      have hne : splitL a0 ⟨#[47]⟩ ≠ [] := by rw [hs]; simp [spl_ne]
      have hj := joined_len (splitL a0 ⟨#[47]⟩)
      have hv : Ev (fun k => spec_MirrorText.f k a0) (joined ((splitL a0 ⟨#[47]⟩).map mirrorB) ⟨#[47]⟩, 0) := by
        refine ev_neg h2 (Ev.bind (l01Split_val a0 47 (by omega)) ?_)
        rw [← hs]
        cases hL : splitL a0 ⟨#[47]⟩ with
        | nil => exact absurd hL hne
        | cons x rest =>
          rw [hL] at hsum hln
          exact mirror_val x rest (by simp only [List.length_cons] at hln; omega) (by omega)
      refine Ev.bind hv (ev_some (a := (joined ((splitL a0 ⟨#[47]⟩).map mirrorB) ⟨#[47]⟩, 0)) (by unfold impl_MirrorText.f; rw [if_neg h2, if_pos (by omega)]) ?_)
      exact ev_pos rfl (ev_pos rfl (ev_const rfl))
end Go.Proofs.YtfpofjckpbmcjaaDoor.Pure
