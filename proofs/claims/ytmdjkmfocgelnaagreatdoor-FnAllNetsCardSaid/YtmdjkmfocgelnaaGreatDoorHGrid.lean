/- Rows of bytes that a conversion of strings has laid: each in a block of its own, frozen past its end alone. No program in sight. -/
import Derived.Test.YtmdjkmfocgelnaaGreatDoorWWords
import Derived.Lib.ConvBytes
import Derived.Sort.Row
namespace Go.Proofs.YtmdjkmfocgelnaaGreatDoorW.PrintWords
open Go.RowKit Go.Proofs.YtmdjkmfocgelnaaGreatDoorW.PrintWords
def ByteRow (w : World) (t b : Nat) (row : List Int) : Prop := ∃ (pad : List Value), w.heap[b]? = some (.cells (row.map (Value.int .u8) ++ pad).toArray t ((row.map (Value.int .u8) ++ pad).length, (row.map (Value.int .u8) ++ pad).length + 1))
theorem ByteRow.lt {w : World} {t b : Nat} {row : List Int} (h : ByteRow w t b row) : b < w.heap.size := by
  obtain ⟨pad, h⟩ := h
  exact (Array.getElem?_eq_some_iff.1 h).1
theorem ByteRow.cell {w : World} {t b : Nat} {row : List Int} (h : ByteRow w t b row) {i : Nat} (hi : i < row.length) : w.cell? ⟨b, i, none⟩ = some (.int .u8 (row.getD i 0)) := by
  obtain ⟨pad, h⟩ := h
  unfold World.cell?
  rw [h]
  simp only [Option.isSome_none, Bool.false_eq_true, if_false]
  rw [List.getElem?_toArray, List.getElem?_append_left (by simpa using hi), List.getElem?_map, List.getD_eq_getElem?_getD, List.getElem?_eq_getElem hi]
  rfl
theorem ByteRow.put {w : World} {t b : Nat} {row : List Int} (h : ByteRow w t b row) {i : Nat} (hi : i < row.length) (v : Int) : ByteRow (w.setCell ⟨b, i, none⟩ (.int .u8 v)) t b (row.set i v) := by
  have hlt := h.lt
  obtain ⟨pad, h⟩ := h
  refine ⟨pad, ?_⟩
  rw [Sort.setCell_eq]
  show (w.heap.modify b _)[b]? = _
  rw [Array.getElem?_modify, if_pos rfl, h]
  simp only [Option.map_some, Sort.onCells]
  congr 2
  · apply Array.toList_inj.1
    rw [Array.toList_setIfInBounds]
    simp only [List.map_set]
    rw [List.set_append_left _ _ (by simpa using hi)]
  · simp
theorem ByteRow.far {w : World} {t b : Nat} {row : List Int} (h : ByteRow w t b row) {p : Addr} (hp : b ≠ p.block) (u : Value) : ByteRow (w.setCell p u) t b row := by
  obtain ⟨pad, h⟩ := h
  exact ⟨pad, (Below.heap_setCell w p u b hp).trans h⟩
theorem ByteRow.laid (w : World) (t : Nat) (s : ByteArray) : ByteRow (Lib.bytesWorld w t s) t w.heap.size (s.data.toList.map fun b => (b.toNat : Int)) := by
  refine ⟨(Array.replicate (grownCap w s.size 0 t - s.size) (Value.int .u8 0)).toList, ?_⟩
  rw [Lib.bytesWorld_at_new]
  have e : Lib.bytesCells w t s = (((s.data.toList.map fun b => (b.toNat : Int)).map (Value.int .u8)) ++ (Array.replicate (grownCap w s.size 0 t - s.size) (Value.int .u8 0)).toList).toArray := by
    unfold Lib.bytesCells
    apply Array.toList_inj.1
    simp
  rw [e]
  simp
structure RowsT (w : World) (tr tb R n m : Nat) (bs : List (Nat × Nat)) (G : List (List Int)) : Prop where
  len : bs.length = G.length
  le : bs.length ≤ n
  rows : w.heap[R]? = some (.cells (bs.map (fun b => Value.slice (some ⟨b.1, 0, none⟩) m b.2) ++ List.replicate (n - bs.length) (Value.slice none 0 0)).toArray tr (0, 0))
  cell : ∀ (y : Nat) (b : Nat × Nat), bs[y]? = some b → ByteRow w tb b.1 (G.getD y [])
  wide : ∀ r ∈ G, r.length = m
  nd : (bs.map (·.1)).Nodup
  far : ∀ b ∈ bs, b.1 ≠ R
theorem RowsT.put {w : World} {tr tb R n m : Nat} {bs : List (Nat × Nat)} {G : List (List Int)} (h : RowsT w tr tb R n m bs G) {y x : Nat} {b : Nat × Nat} (hb : bs[y]? = some b) (hx : x < m) (v : Int) :
    RowsT (w.setCell ⟨b.1, x, none⟩ (.int .u8 v)) tr tb R n m bs (G.set y ((G.getD y []).set x v)) := by
  have hy : y < bs.length := (List.getElem?_eq_some_iff.1 hb).1
  have hyG : y < G.length := by rw [← h.len]; exact hy
  have hrow : (G.getD y []).length = m := h.wide _ (by rw [List.getD_eq_getElem?_getD, List.getElem?_eq_getElem hyG]; exact List.getElem_mem hyG)
  refine ⟨by simp [h.len], h.le, blk_far h.rows (Ne.symm (h.far b (List.mem_of_getElem? hb))) _, fun y' b' hy' => ?_, fun r hr => ?_, h.nd, h.far⟩
  · by_cases e : y' = y
    · subst e
      obtain rfl : b = b' := Option.some.inj (hb.symm.trans hy')
      have h1 := (h.cell y' b hb).put (i := x) (by rw [hrow]; exact hx) v
      rw [List.getD_eq_getElem?_getD, List.getElem?_set_self hyG, Option.getD_some]
      exact h1
    · have h1 := h.cell y' b' hy'
      have hne : b'.1 ≠ b.1 := fun e2 => by
        have hy2 : y' < bs.length := (List.getElem?_eq_some_iff.1 hy').1
        have n1 : (bs.map (·.1))[y']? = some b'.1 := by rw [List.getElem?_map, hy']; rfl
        have n2 : (bs.map (·.1))[y]? = some b.1 := by rw [List.getElem?_map, hb]; rfl
        rw [e2] at n1
        have hnd := h.nd
        rw [List.nodup_iff_pairwise_ne, List.pairwise_iff_getElem] at hnd
        have i1 : y' < (bs.map (·.1)).length := by simpa using hy2
        have i2 : y < (bs.map (·.1)).length := by simpa using hy
        have g1 : (bs.map (·.1))[y'] = b.1 := by rw [List.getElem?_eq_getElem i1] at n1; exact Option.some.inj n1
        have g2 : (bs.map (·.1))[y] = b.1 := by rw [List.getElem?_eq_getElem i2] at n2; exact Option.some.inj n2
        rcases Nat.lt_or_ge y' y with q | q
        · exact hnd y' y i1 i2 q (g1.trans g2.symm)
        · exact hnd y y' i2 i1 (by omega) (g2.trans g1.symm)
      rw [List.getD_eq_getElem?_getD, List.getElem?_set_ne (by omega), ← List.getD_eq_getElem?_getD]
      exact h1.far hne _
  · rcases List.mem_or_eq_of_mem_set hr with h1 | h1
    · exact h.wide r h1
    · rw [h1, List.length_set]; exact hrow
end Go.Proofs.YtmdjkmfocgelnaaGreatDoorW.PrintWords
