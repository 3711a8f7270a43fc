/- Rows of rows of the call's own, told by their block: each element's value beside what it holds. No program in sight. -/
import Derived.Test.YtmdjkmfocgelnaaGreatDoorHSort
import Derived.Lib.SliceRun
set_option linter.unusedSimpArgs false
namespace Go.Proofs.YtmdjkmfocgelnaaGreatDoorW.PrintWords
open Go.RowKit Go.Proofs.YtmdjkmfocgelnaaGreatDoorW.PrintWords
structure RoR {α : Type} (d : Kd α) (e' t base : Nat) (ok : Nat → Prop) (w : World) (g : Nat) (cs : List (Value × List α)) (tail : List Value) : Prop where
  blk : w.heap[g]? = some (.cells (cs.map (·.1) ++ tail).toArray t (0, 0))
  el : ∀ p ∈ cs, d.R e' w base (fun k => ok k ∧ k ≠ g) p.1 p.2
  ge : base ≤ g
  okg : ok g
theorem RoR.of_R {α : Type} {d : Kd α} {e' t base : Nat} {ok : Nat → Prop} {w : World} {v : Value} {L : List (List α)} (h : (Kd.slice e' d).R t w base ok v L) :
    (v = .slice none 0 0 ∧ L = []) ∨ ∃ (g cap : Nat) (cs : List (Value × List α)) (tail : List Value), v = .slice (some ⟨g, 0, none⟩) L.length cap ∧ cs.map (·.2) = L ∧ L.length + tail.length = cap ∧ cap ≤ maxLen ∧ RoR d e' t base ok w g cs tail := by
  obtain ⟨hok, inner, own, reps⟩ := h
  obtain ⟨o1, o2⟩ := own
  have o1' : inner.length = L.length := o1.trans (Nat.mul_one _)
  have hel : ∀ (j : Nat) (u : Value) (x : List α), inner[j]? = some u → L[j]? = some x → d.R e' w base (fun k => ok k ∧ some k ≠ v.ownBlock) u x := by
    intro j u x hu hx
    obtain ⟨v1, e1, h1⟩ := reps.2 j x hx
    have e2 : ((inner.drop (j * 1)).take 1)[0]? = some u := by
      rw [List.getElem?_take_of_lt (by omega), List.getElem?_drop, Nat.mul_one, Nat.add_zero]
      exact hu
    have e3 : ((inner.drop (j * 1)).take 1) = [v1] := e1
    rw [e3] at e2
    obtain rfl : v1 = u := by simpa using e2
    exact h1
  rcases o2 with ⟨rfl, hn⟩ | ⟨g, cap, cur, rfl, hb, hh, hn, hc, hcs, ht⟩
  · exact .inl ⟨rfl, List.length_eq_zero_iff.1 hn⟩
  · refine .inr ⟨g, cap, inner.zip L, cur.toList.drop L.length, rfl, ?_, ?_, hc, ?_, fun p hp => ?_, hb, hok g (by simp [Value.ownBlock])⟩
    · rw [List.map_snd_zip]
      omega
    · have : cur.toList.length = cap := by rw [Array.length_toList, hcs]; exact Nat.mul_one _
      rw [List.length_drop, this]
      omega
    · have e : inner ++ cur.toList.drop L.length = cur.toList := by
        rw [← show cur.toList.take (L.length * 1) = inner from ht, Nat.mul_one]
        exact List.take_append_drop _ _
      rw [List.map_fst_zip (by omega), e, Array.toArray_toList]
      exact hh
    · obtain ⟨j, hj, e⟩ := List.getElem_of_mem hp
      have hj2 : j < inner.length ∧ j < L.length := by
        rw [List.length_zip] at hj
        omega
      rw [List.getElem_zip] at e
      subst e
      exact Kd.R_mono (hel j _ _ (List.getElem?_eq_getElem hj2.1) (List.getElem?_eq_getElem hj2.2)) (fun k hk => ⟨hk.1, fun e => hk.2 (by rw [e]; simp [Value.ownBlock])⟩)
theorem RoR.R {α : Type} {d : Kd α} {e' t base : Nat} {ok : Nat → Prop} {w : World} {g : Nat} {cs : List (Value × List α)} {tail : List Value} (h : RoR d e' t base ok w g cs tail) {cap : Nat} (hc : cs.length + tail.length = cap) (hm : cap ≤ maxLen) :
    (Kd.slice e' d).R t w base ok (.slice (some ⟨g, 0, none⟩) cs.length cap) (cs.map (·.2)) := by
  refine ⟨fun k hk => ?_, cs.map (·.1), ⟨?_, .inr ⟨g, cap, _, ?_, h.ge, h.blk, ?_, hm, ?_, ?_⟩⟩, ?_, fun j x hx => ?_⟩
  · have : g = k := by simpa [Value.ownBlock] using hk
    subst this
    exact h.okg
  · simp [Kd.sz, Kd.slice]
  · simp
  · simp; omega
  · simp [Kd.sz, Kd.slice]; omega
  · simp [Kd.sz, Kd.slice]
  · simp [Kd.sz, Kd.slice]
  · rw [List.getElem?_map] at hx
    obtain ⟨p, hp, rfl⟩ := Option.map_eq_some_iff.1 hx
    refine ⟨p.1, ?_, Kd.R_mono (h.el p (List.mem_of_getElem? hp)) (fun k hk => ⟨hk.1, fun e => hk.2 ?_⟩)⟩
    · have hj := (List.getElem?_eq_some_iff.1 hp).1
      have e : ((cs.map (·.1)).drop j).take 1 = [p.1] := by
        rw [List.drop_eq_getElem_cons (by simpa using hj), List.take_succ_cons, List.take_zero, List.getElem_map]
        rw [List.getElem?_eq_getElem hj] at hp
        rw [Option.some.inj hp]
      show ((cs.map (·.1)).drop (j * 1)).take 1 = [p.1]
      rw [Nat.mul_one]
      exact e
    · simpa [Value.ownBlock] using e
theorem RoR.step {α : Type} {d : Kd α} {e' t base : Nat} {ok : Nat → Prop} {w w1 : World} {g : Nat} {cs cs' : List (Value × List α)} {tail tail' : List Value} (h : RoR d e' t base ok w g cs tail) (hsub : ∀ p ∈ cs', p ∈ cs)
    (hb : w1.heap[g]? = some (.cells (cs'.map (·.1) ++ tail').toArray t (0, 0))) (hm : ∀ k, k < w.heap.size → k ≠ g → w1.heap[k]? = w.heap[k]?) : RoR d e' t base ok w1 g cs' tail' :=
  ⟨hb, fun p hp => Kd.R_step (h.el p (hsub p hp)) (fun k hk hl => hm k hl hk.2), h.ge, h.okg⟩
end Go.Proofs.YtmdjkmfocgelnaaGreatDoorW.PrintWords
