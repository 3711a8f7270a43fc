/- Small helpers for pure statements: functions with a number of rounds that come to a value (Ev), indices of lists as natural numbers. No program in sight. -/
import Derived.Test.YtmdjkmfocgelnaaGreatDoorWWords
namespace Go.Proofs.YtmdjkmfocgelnaaGreatDoor.Kit
open Go.RowKit Go.Proofs.YtmdjkmfocgelnaaGreatDoorW.PrintWords
section
variable {α β γ : Type}
theorem ev_pos {c : Prop} [Decidable c] {f g : Nat → Option α} {r : α} (h : c) (k : Ev f r) : Ev (fun n => if c then f n else g n) r := k.congr fun _ => if_pos h
theorem ev_neg {c : Prop} [Decidable c] {f g : Nat → Option α} {r : α} (h : ¬ c) (k : Ev g r) : Ev (fun n => if c then f n else g n) r := k.congr fun _ => if_neg h
theorem ev_some {f : Nat → α → Option β} {o : Option α} {a : α} {r : β} (h : o = some a) (k : Ev (fun n => f n a) r) : Ev (fun n => o.bind (f n)) r := k.congr fun n => by rw [h]; rfl
theorem ev_const {o : Option α} {r : α} (h : o = some r) : Ev (fun _ => o) r := ⟨0, fun _ _ => h⟩
theorem ev_eq {f : Nat → Option α} {r r' : α} (h : Ev f r) (e : r = r') : Ev f r' := e ▸ h
theorem ev_uniq {f : Nat → Option α} {r r' : α} (h : Ev f r) (h' : Ev f r') : r = r' := by
  obtain ⟨K, h⟩ := h
  obtain ⟨K', h'⟩ := h'
  have h1 := h (max K K') (Nat.le_max_left _ _)
  rw [h' (max K K') (Nat.le_max_right _ _)] at h1
  exact (Option.some.inj h1).symm
end
theorem wrap_id (n : Int) (h1 : -9223372036854775808 ≤ n) (h2 : n ≤ 9223372036854775807) : wrap64 n = n := by unfold wrap64; omega
theorem wrap_succ (n : Nat) (h : n < 9223372036854775807) : wrap64 ((n : Int) + 1) = ((n + 1 : Nat) : Int) := by rw [wrap_id _ (by omega) (by omega)]; omega
section
variable {α : Type}
theorem drop_cons (xs : List α) (d : α) (n : Nat) (h : n < xs.length) : xs.drop n = xs.getD n d :: xs.drop (n + 1) := by
  rw [List.getD_eq_getElem?_getD, List.getElem?_eq_getElem h, Option.getD_some]
  exact (List.getElem_cons_drop h).symm
theorem getD_mem (xs : List α) (d : α) (n : Nat) (h : n < xs.length) : xs.getD n d ∈ xs := by
  rw [List.getD_eq_getElem?_getD, List.getElem?_eq_getElem h, Option.getD_some]
  exact List.getElem_mem h
theorem take_succ_getD (xs : List α) (d : α) (n : Nat) (h : n < xs.length) : xs.take (n + 1) = xs.take n ++ [xs.getD n d] := by
  rw [List.take_succ_eq_append_getElem h, List.getD_eq_getElem?_getD, List.getElem?_eq_getElem h, Option.getD_some]
end
end Go.Proofs.YtmdjkmfocgelnaaGreatDoor.Kit
