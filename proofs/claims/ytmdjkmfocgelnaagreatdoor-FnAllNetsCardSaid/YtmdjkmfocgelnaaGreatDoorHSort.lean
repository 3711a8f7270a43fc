/- A row of the call's own, as the library's sort finds it and leaves it (elements of k cells). No program in sight. -/
import Derived.Test.YtmdjkmfocgelnaaGreatDoorWWords
import Derived.Shelf.SlSortCmp.NoneTotal
namespace Go.Proofs.YtmdjkmfocgelnaaGreatDoorW.PrintWords
open Go.RowKit Go.Proofs.YtmdjkmfocgelnaaGreatDoorW.PrintWords
section
variable {α : Type} [Inhabited α] (enc : α → List Value) (k : Nat)
theorem flatK_len (d : Array α) : (Sort.flatK enc k d).toList.length = d.toList.length * k := by rw [Array.length_toList, Sort.size_flatK, Array.length_toList]
theorem flatK_reps (hk : ∀ x, (enc x).length = k) (k0 : 0 < k) (d : Array α) : Reps (fun x cs => cs = enc x) k d.toList (Sort.flatK enc k d).toList := by
  refine ⟨flatK_len enc k d, fun j p hj => ?_⟩
  have hjl : j < d.size := by
    have := (List.getElem?_eq_some_iff.1 hj).1
    simpa using this
  have hp : d[j]! = p := by
    rw [getElem!_pos d j hjl]
    have := (List.getElem?_eq_some_iff.1 hj).2
    simpa using this
  have hmul : j * k + k ≤ d.size * k := by
    rw [← Nat.succ_mul]
    exact Nat.mul_le_mul_right _ hjl
  refine List.ext_getElem (by rw [List.length_take, List.length_drop, Array.length_toList, Sort.size_flatK, hk]; omega) (fun i h1 h2 => ?_)
  rw [hk] at h2
  have hlt : j * k + i < d.size * k := by omega
  have hlt' : j * k + i < (Sort.flatK enc k d).size := by rw [Sort.size_flatK]; exact hlt
  have e := Sort.get_flatK enc k d (j * k + i) hlt
  rw [getElem!_pos (Sort.flatK enc k d) (j * k + i) hlt', show (j * k + i) / k = j by rw [Nat.mul_comm, Nat.mul_add_div k0, Nat.div_eq_of_lt h2, Nat.add_zero], show (j * k + i) % k = i by rw [Nat.mul_comm, Nat.mul_add_mod, Nat.mod_eq_of_lt h2], hp] at e
  rw [List.getElem_take, List.getElem_drop, Array.getElem_toList, e, getElem!_pos (enc p) i (by rw [hk]; exact h2)]
theorem reps_flatK (hk : ∀ x, (enc x).length = k) (k0 : 0 < k) (d : Array α) (cs : List Value) (h : Reps (fun x cs => cs = enc x) k d.toList cs) : cs = (Sort.flatK enc k d).toList := by
  have h2 := flatK_reps enc k hk k0 d
  refine List.ext_getElem (h.1.trans h2.1.symm) (fun t h3 h4 => ?_)
  have ht : t < d.toList.length * k := by rw [← h.1]; exact h3
  have hj : t / k < d.toList.length := by
    rw [Nat.div_lt_iff_lt_mul k0]; exact ht
  have e1 := h.2 (t / k) _ (List.getElem?_eq_getElem hj)
  have e2 := h2.2 (t / k) _ (List.getElem?_eq_getElem hj)
  have e3 : ((cs.drop (t / k * k)).take k)[t % k]? = (((Sort.flatK enc k d).toList.drop (t / k * k)).take k)[t % k]? := by rw [e1, e2]
  have hm : t % k < k := Nat.mod_lt _ k0
  rw [List.getElem?_take_of_lt hm, List.getElem?_take_of_lt hm, List.getElem?_drop, List.getElem?_drop, show t / k * k + t % k = t from by rw [Nat.mul_comm]; exact Nat.div_add_mod t k, List.getElem?_eq_getElem h3, List.getElem?_eq_getElem h4] at e3
  exact Option.some.inj e3
theorem own_sort {w : World} {base e n g cap : Nat} {news : List Value} {d : Array α} (hk : ∀ x, (enc x).length = k) (k0 : 0 < k) (hd : d.size = n) (h : w.ownsRow base e k (.slice (some ⟨g, 0, none⟩) n cap) n news) (hr : Reps (fun x cs => cs = enc x) k d.toList news) :
    Sort.HoldsK enc k w g 0 d ∧ g < w.heap.size ∧ base ≤ g ∧ ∀ (m : Nat) (d' : Array α) (os : Array Obj), d'.size = n → (sortWorldK enc k w g 0 m d' os).ownsRow base e k (.slice (some ⟨g, 0, none⟩) n cap) n (Sort.flatK enc k d').toList := by
  have hnews := reps_flatK enc k hk k0 d news hr
  subst hnews
  obtain ⟨h1, h2⟩ := h
  rcases h2 with ⟨h2, _⟩ | ⟨g', cap', cur, hv, hb, hh, hn, hc, hcs, ht⟩
  · cases h2
  · cases hv
    have hlt : g < w.heap.size := (Array.getElem?_eq_some_iff.1 hh).1
    have hle : n * k ≤ cur.size := by rw [hcs]; exact Nat.mul_le_mul_right _ hn
    refine ⟨fun j hj => ⟨?_, blk_frozen hh _⟩, hlt, hb, fun m d' os hd' => ⟨by rw [flatK_len, Array.length_toList, hd'], .inr ⟨g, cap, Sort.putCells id 0 (Sort.flatK enc k d') cur, rfl, hb, ?_, hn, hc, ?_, ?_⟩⟩⟩
    · rw [Sort.size_flatK, hd] at hj
      rw [Nat.zero_add, blk_cell hh, id_eq, getElem!_pos (Sort.flatK enc k d) j (by rw [Sort.size_flatK, hd]; exact hj), Array.getElem?_eq_getElem (by omega)]
      congr 1
      have e : (cur.toList.take (n * k))[j]? = (Sort.flatK enc k d).toList[j]? := by rw [ht]
      rw [List.getElem?_take_of_lt hj, List.getElem?_eq_getElem (by simp; omega), List.getElem?_eq_getElem (by simp [hd]; exact hj)] at e
      simpa using e
    · unfold sortWorldK Sort.putRowK Sort.putRow Sort.mapBlock Sort.grow
      show ((w.heap.modify g _) ++ os)[g]? = _
      rw [Array.getElem?_append_left (by simpa using hlt), Array.getElem?_modify, if_pos rfl, hh]
      rfl
    · simp [Sort.putCells, hcs]
    · refine List.ext_getElem (by simp [Sort.putCells, hd']; omega) (fun j h3 h4 => ?_)
      have hj : j < d'.size * k := by simpa using h4
      have hj2 : j < (Sort.flatK enc k d').size := by simpa using hj
      rw [List.getElem_take, Array.getElem_toList, Array.getElem_toList]
      simp only [Sort.putCells, Array.getElem_mapIdx]
      rw [if_pos ⟨Nat.zero_le _, by omega⟩, Nat.sub_zero, getElem!_pos (Sort.flatK enc k d') j hj2]
      rfl
theorem own_shape {w : World} {base e n : Nat} {v : Value} {news : List Value} (h : w.ownsRow base e k v n news) (hne : v ≠ .slice none 0 0) : ∃ g cap, v = .slice (some ⟨g, 0, none⟩) n cap := by
  rcases h.2 with ⟨h2, _⟩ | ⟨g, cap, cur, hv, _⟩
  · exact absurd h2 hne
  · exact ⟨g, cap, hv⟩
theorem spot_none {w : World} {ad : Addr} {u : Value} (h : w.cell? ad = some u) : ad = ⟨ad.block, ad.off, none⟩ := by
  obtain ⟨b, o, s⟩ := ad
  cases s with
  | none => rfl
  | some s =>
    unfold World.cell? at h
    split at h
    · simp at h
    · cases h
theorem reads_flat (hk : ∀ x, (enc x).length = k) (k0 : 0 < k) {w : World} {ad : Addr} {xs : List α} (h : ∀ j p, xs[j]? = some p → ∀ i u, (enc p)[i]? = some u → w.cell? (ad.add (j * k + i)) = some u) :
    ∀ j u, (Sort.flatK enc k xs.toArray).toList[j]? = some u → w.cell? (ad.add j) = some u := by
  intro t u ht
  have hlt : t < xs.length * k := by
    have := (List.getElem?_eq_some_iff.1 ht).1
    simpa using this
  have hj : t / k < xs.length := by rw [Nat.div_lt_iff_lt_mul k0]; exact hlt
  have hm : t % k < k := Nat.mod_lt _ k0
  have e := (flatK_reps enc k hk k0 xs.toArray).2 (t / k) xs[t / k] (List.getElem?_eq_getElem hj)
  have e2 : (((Sort.flatK enc k xs.toArray).toList.drop (t / k * k)).take k)[t % k]? = some u := by
    rw [List.getElem?_take_of_lt hm, List.getElem?_drop, show t / k * k + t % k = t from by rw [Nat.mul_comm]; exact Nat.div_add_mod t k]
    exact ht
  simp only [] at e
  rw [e] at e2
  have := h (t / k) xs[t / k] (List.getElem?_eq_getElem hj) (t % k) u e2
  rwa [show t / k * k + t % k = t from by rw [Nat.mul_comm]; exact Nat.div_add_mod t k] at this
theorem grow_drewN (w : World) (os : Array Obj) (n : Nat) : (Sort.grow w os).drewN n = Sort.grow (w.drewN n) os := rfl
theorem sortWorldK_below (w : World) (g m : Nat) (d : Array α) (os : Array Obj) {base : Nat} {w0 : World} (hb : Below base w0 w) (hg : base ≤ g) (hlt : g < w.heap.size) : Below base w0 (sortWorldK enc k w g 0 m d os) := by
  refine ⟨hb.os, hb.tape, hb.output, ?_, fun q hq => ?_⟩
  · have := hb.size
    show w0.heap.size ≤ ((w.heap.modify g _) ++ os).size
    simp; omega
  · show ((w.heap.modify g _) ++ os)[q]? = _
    rw [Array.getElem?_append_left (by simp; omega), Array.getElem?_modify, if_neg (by omega)]
    exact hb.block q hq
end
def Grew (w w' : World) : Prop := ∃ q os, w' = Sort.grow (w.drewN q) os
theorem Grew.refl (w : World) : Grew w w := ⟨0, #[], by rw [Sort.grow_empty]; rfl⟩
theorem Grew.alloc {w w' : World} (h : Grew w w') (o : Obj) : Grew w (w'.alloc o) := by
  obtain ⟨q, os, rfl⟩ := h
  exact ⟨q, os ++ #[o], by rw [Sort.alloc_eq_grow, Sort.grow_grow]⟩
theorem Grew.trans {w w1 w2 : World} (h : Grew w w1) (k : Grew w1 w2) : Grew w w2 := by
  obtain ⟨q, os, rfl⟩ := h
  obtain ⟨q2, os2, rfl⟩ := k
  refine ⟨q + q2, os ++ os2, ?_⟩
  rw [grow_drewN, Sort.grow_grow]
  congr 1
  show ({ w with drawn := w.drawn + q + q2 } : World) = { w with drawn := w.drawn + (q + q2) }
  rw [Nat.add_assoc]
theorem Grew.below {w w' : World} (h : Grew w w') : Below w.heap.size w w' := by
  obtain ⟨q, os, rfl⟩ := h
  exact ⟨rfl, rfl, rfl, by show w.heap.size ≤ (w.heap ++ os).size; simp, fun i hi => by show (w.heap ++ os)[i]? = _; rw [Array.getElem?_append_left hi]⟩
theorem R_elems {α : Type} {d : Kd α} {e' e base : Nat} {ok : Nat → Prop} {w : World} {v : Value} {L : List (List α)} (h : (Kd.slice e' d).R e w base ok v L) :
    ∃ (A : Option Addr) (c : Nat) (vals : List Value), v = .slice A L.length c ∧ L.length ≤ c ∧ L.length ≤ 9223372036854775807 ∧ vals.length = L.length ∧ (∀ (j : Nat) (u : Value), vals[j]? = some u → ∃ ad, A = some ad ∧ w.cell? (ad.add j) = some u) ∧ ∀ (j : Nat) (u : Value) (x : List α), vals[j]? = some u → L[j]? = some x → d.R e' w base ok u x := by
  obtain ⟨hok, inner, own, reps⟩ := h
  obtain ⟨o1, o2⟩ := own
  have hel : ∀ (j : Nat) (u : Value) (x : List α), inner[j]? = some u → L[j]? = some x → d.R e' w base ok u x := by
    intro j u x hu hx
    obtain ⟨v1, e1, h1⟩ := reps.2 j x hx
    have e2 : ((inner.drop (j * 1)).take 1)[0]? = some u := by
      rw [List.getElem?_take_of_lt (by omega), List.getElem?_drop, Nat.mul_one, Nat.add_zero]
      exact hu
    have e3 : ((inner.drop (j * 1)).take 1) = [v1] := e1
    rw [e3] at e2
    obtain rfl : v1 = u := by simpa using e2
    exact Kd.R_mono h1 (fun _ hk => hk.1)
  rcases o2 with ⟨rfl, hn⟩ | ⟨g, cap, cur, rfl, hb, hh, hn, hc, hcs, ht⟩
  · have hL : L = [] := List.length_eq_zero_iff.1 hn
    subst hL
    exact ⟨none, 0, [], rfl, by simp, by simp, rfl, fun j u hj => by simp at hj, fun j u x hj => by simp at hj⟩
  · refine ⟨_, _, inner, rfl, hn, Nat.le_trans hn hc, by rw [o1]; exact Nat.mul_one _, fun j u hj => ⟨_, rfl, ?_⟩, hel⟩
    rw [add_plain, blk_cell hh]
    have hj' : j < L.length * 1 := by
      have := (List.getElem?_eq_some_iff.1 hj).1
      rw [o1] at this
      exact this
    have hj2 : (cur.toList.take (L.length * 1))[j]? = some u := by rw [show cur.toList.take (L.length * 1) = inner from ht]; exact hj
    rw [List.getElem?_take_of_lt hj'] at hj2
    simpa using hj2
end Go.Proofs.YtmdjkmfocgelnaaGreatDoorW.PrintWords
