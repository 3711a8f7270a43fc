/- A map that the call itself has made, told by a function from keys to what stands there; the operations on it as steps of a walk. No program in sight. -/
import Derived.Maps.OwnSet
import Derived.Maps.OwnOps
import Derived.DeepKeys4
import Derived.Test.YtmdjkmfocgelnaaGreatDoorWWords
namespace Go.Proofs.YtmdjkmfocgelnaaGreatDoorW.PrintWords
open Go.RowKit Go.ChangeMaps Go.MapKept Go.Proofs.YtmdjkmfocgelnaaGreatDoorW.PrintWords
open Go.Maps (Keyed)
def hRead (v : Value) : Option (DataW Value × List MemPlace) := some (.held v, [])
def MapF (P : Program) (k : TypeId) {κ : Type} (enc : κ → Value) (w : World) (b n : Nat) (g : κ → Option Value) : Prop :=
  ∃ D, w.ownsMap P k hRead b n D ∧ ∀ x l, keyOf P k (enc x) = some l → Maps.has D l = (g x).isSome ∧ ∀ v, g x = some v → ∀ z, D.atKey l z = .held v
section
variable {P : Program} {k : TypeId} {κ : Type} {enc : κ → Value} {w w' : World} {b n : Nat} {g : κ → Option Value}
theorem MapF.made (P : Program) (k : TypeId) (enc : κ → Value) (w : World) : MapF P k enc (w.alloc (.map #[] 0)) w.heap.size 0 (fun _ => none) :=
  ⟨_, World.ownsMap_made w P k hRead, fun x l _ => ⟨rfl, fun v h => by simp at h⟩⟩
theorem MapF.mono (h : MapF P k enc w b n g) {m : Nat} (hm : n ≤ m) : MapF P k enc w b m g := by
  obtain ⟨D, h1, h2⟩ := h
  exact ⟨D, h1.mono hm, h2⟩
theorem MapF.ext (h : MapF P k enc w b n g) {g' : κ → Option Value} (e : ∀ x, g x = g' x) : MapF P k enc w b n g' := by
  have : g = g' := funext e
  exact this ▸ h
theorem MapF.block (h : MapF P k enc w b n g) : ∃ es c, w.heap[b]? = some (.map es c) := by
  obtain ⟨D, ⟨es, c, h1, _⟩, _⟩ := h
  exact ⟨es, c, h1⟩
theorem MapF.lt (h : MapF P k enc w b n g) : b < w.heap.size := by
  obtain ⟨D, h1, _⟩ := h
  exact h1.lt
theorem MapF.move (h : MapF P k enc w b n g) (e : w'.heap[b]? = w.heap[b]?) : MapF P k enc w' b n g := by
  obtain ⟨D, ⟨es, c, h1, h3, h4, h5⟩, h2⟩ := h
  exact ⟨D, ⟨es, c, e.trans h1, h3, h4, h5⟩, h2⟩
theorem MapF.grown (h : MapF P k enc w b n g) {row : Option Nat} (hg : w.grownBy w' row) (hne : some b ≠ row) : MapF P k enc w' b n g := h.move (hg.block b h.lt hne)
theorem MapF.below (h : MapF P k enc w b n g) {B : Nat} (hb : Below B w w') (hlt : b < B) : MapF P k enc w' b n g := h.move (hb.block b hlt)
theorem MapF.below' (h : MapF P k enc w b n g) (hb : Below w.heap.size w w') : MapF P k enc w' b n g := h.below hb h.lt
theorem MapF.alloc (h : MapF P k enc w b n g) (o : Obj) : MapF P k enc (w.alloc o) b n g := h.grown (World.grownBy_alloc w o none) (by simp)
theorem MapF.drew (h : MapF P k enc w b n g) : MapF P k enc w.drew b n g := h.move rfl
theorem MapF.ne (h : MapF P k enc w b n g) {a : Nat} (hc : ∃ cs e z, w.heap[a]? = some (.cells cs e z)) : a ≠ b := by
  obtain ⟨es, c, h1⟩ := h.block
  obtain ⟨cs, e, z, h2⟩ := hc
  intro he
  rw [he, h1] at h2
  cases h2
theorem MapF.setCell (h : MapF P k enc w b n g) {a : Addr} (ha : a.block ≠ b) (u : Value) : MapF P k enc (w.setCell a u) b n g := h.move (Below.heap_setCell w a u b (Ne.symm ha))
theorem MapF.rowTurn {α : Type} {d : Kd α} {e base : Nat} {ok : Nat → Prop} {v : Value} {xs : List α} (h : MapF P k enc w b n g) (hv : d.R e w base ok v xs) (hg : w.grownBy w' v.ownBlock) : MapF P k enc w' b n g :=
  h.grown hg (fun he => by
    obtain ⟨cells, hc⟩ := Kd.R_typed hv b he.symm
    exact h.ne ⟨_, _, _, hc⟩ rfl)
theorem MapF.cellTurn (h : MapF P k enc w b n g) {a : Nat} (hc : ∃ cs e z, w.heap[a]? = some (.cells cs e z)) (hg : w.grownBy w' (some a)) : MapF P k enc w' b n g :=
  h.grown hg (fun he => h.ne hc (Option.some.inj he).symm)
theorem Kd.R_mapTurn {α : Type} {d : Kd α} {e base : Nat} {ok : Nat → Prop} {v : Value} {xs : List α} (h : d.R e w base ok v xs) (hm : ∃ es c, w.heap[b]? = some (.map es c)) (hg : w.grownBy w' (some b)) : d.R e w' base ok v xs := by
  obtain ⟨es, c, hm⟩ := hm
  refine Kd.R_mono (Kd.R_step (Kd.R_bound h) (fun q hq hlt => hg.block q hlt (fun he => ?_))) (fun _ hk => hk.1)
  obtain ⟨_, _, _, _, _, cells, hc⟩ := hq
  rw [Option.some.inj he, hm] at hc
  cases hc
theorem below_mapTurn {B : Nat} {w0 : World} (h : Below B w0 w) (hg : w.grownBy w' (some b)) (hB : B ≤ b) (hs : B ≤ w.heap.size) : Below B w0 w' :=
  ⟨hg.os.trans h.os, hg.tape.trans h.tape, hg.output.trans h.output, Nat.le_trans h.size hg.size, fun q hq => (hg.block q (by omega) (fun he => by have := Option.some.inj he; omega)).trans (h.block q hq)⟩
theorem MapF.look_run (h : MapF P k enc w b n g) (K : Keyed P k) {t e : TypeId} (ht : P.underlying t = some (.map k e)) {z : Value} (hz : (zeroValue e).run P w = .ok z w) {x : κ} (hkey : ∃ l, keyOf P k (enc x) = some l) :
    (Instr.lookup t (.map (some b)) (enc x) true).run P w = .ok (.tuple #[(g x).getD z, .bool (g x).isSome]) w ∧ (Instr.lookup t (.map (some b)) (enc x) false).run P w = .ok ((g x).getD z) w := by
  obtain ⟨D, h1, h2⟩ := h
  obtain ⟨l, hl⟩ := hkey
  obtain ⟨h3, h4⟩ := h2 x l hl
  obtain ⟨v, ps, hr, hv⟩ := h1.look_ok K ht hz (zd := .held z) rfl hl
  obtain ⟨v', ps', hr', hv'⟩ := h1.lookup K ht hz (zd := .held z) rfl hl
  have key : ∀ u q, hRead u = some (D.atKey l (.held z), q) → u = (g x).getD z := by
    intro u q hu
    have hu1 : DataW.held u = D.atKey l (.held z) := congrArg Prod.fst (Option.some.inj hu)
    cases hg : g x with
    | none =>
      rw [hg] at h3
      rw [Maps.atKey_of_not_has h3] at hu1
      cases hu1
      rfl
    | some y =>
      rw [h4 y hg] at hu1
      cases hu1
      rfl
  rw [key v ps hv, h3] at hr
  rw [key v' ps' hv'] at hr'
  exact ⟨hr, hr'⟩
variable [DecidableEq κ]
theorem MapF.put_run (h : MapF P k enc w b n g) (K : Keyed P k) {t e : TypeId} (ht : P.underlying t = some (.map k e)) (hn : n < maxLen) {x : κ} (hinj : ∀ y, enc y = enc x → y = x) (hkey : ∃ l, keyOf P k (enc x) = some l) (val : Value) :
    ∃ w', (Instr.mapUpdate t (.map (some b)) (enc x) val).run P w = .ok () w' ∧ MapF P k enc w' b (n + 1) (fun y => if y = x then some val else g y) ∧ w.grownBy w' (some b) := by
  obtain ⟨D, h1, h2⟩ := h
  obtain ⟨l, hl⟩ := hkey
  obtain ⟨w', hr, h3, h4⟩ := h1.update K ht hn (val := val) (d := .held val) (ps := []) hl rfl
  refine ⟨w', hr, ⟨_, h3, fun y ly hy => ?_⟩, h4⟩
  by_cases e : y = x
  · subst e
    obtain rfl : l = ly := Option.some.inj (hl.symm.trans hy)
    simp only [if_true]
    refine ⟨Maps.has_put_same h1.isMap (K.key hl) _, fun v hv z => ?_⟩
    obtain rfl := Option.some.inj hv
    exact Maps.atKey_put_same h1.isMap (K.key hl) _ _
  · have hne : ly ≠ l := fun he => e (hinj y (K.inj hy (he ▸ hl)))
    simp only [if_neg e]
    obtain ⟨h5, h6⟩ := h2 y ly hy
    refine ⟨(Maps.has_put_other hne _).trans h5, fun v hv z => (Maps.atKey_put_other hne _ _).trans (h6 v hv z)⟩
end
section
variable {P : Program} {κ : Type} {w : World} {ops : Array Oper} {rest : List Oper} {o : Oper} {a : Act} {Q : Exit → Act → World → Prop}
theorem wpList_lookF (hg : o.guard = none) (m x : Operand) (t : TypeId) (hop : o.op = Op.lookup t m x true)
    (k e : TypeId) (K : Keyed P k) (ht : P.underlying t = some (.map k e)) {z : Value} (hz : (zeroValue e).run P w = .ok z w) (enc : κ → Value) (b n : Nat) (g : κ → Option Value)
    (hm : a.eval m = .map (some b)) (hown : MapF P k enc w b n g) (y : κ) (hx : a.eval x = enc y) (hkey : ∃ l, keyOf P k (enc y) = some l) (r : Option Value) (hr : g y = r) (u : Value) (q : Bool) (hu : r.getD z = u) (hq : r.isSome = q)
    (hK : wpList P ops Q rest (a.put o.dst (.tuple #[u, .bool q])) w) : wpList P ops Q (o :: rest) a w := by
  refine wpList_plain hg fun K' hK' => ?_
  have hrun := (hown.look_run K ht hz hkey).1
  rw [hr, hu, hq] at hrun
  unfold Oper.wp
  simp [execOp, hop, hm, hx, hrun, Result.andThen]
  exact hK' _ _ hK
theorem wpList_lookF1 (hg : o.guard = none) (m x : Operand) (t : TypeId) (hop : o.op = Op.lookup t m x false)
    (k e : TypeId) (K : Keyed P k) (ht : P.underlying t = some (.map k e)) {z : Value} (hz : (zeroValue e).run P w = .ok z w) (enc : κ → Value) (b n : Nat) (g : κ → Option Value)
    (hm : a.eval m = .map (some b)) (hown : MapF P k enc w b n g) (y : κ) (hx : a.eval x = enc y) (hkey : ∃ l, keyOf P k (enc y) = some l) (u : Value) (hu : (g y).getD z = u)
    (hK : wpList P ops Q rest (a.put o.dst u) w) : wpList P ops Q (o :: rest) a w := by
  refine wpList_plain hg fun K' hK' => ?_
  have hrun := (hown.look_run K ht hz hkey).2
  rw [hu] at hrun
  unfold Oper.wp
  simp [execOp, hop, hm, hx, hrun, Result.andThen]
  exact hK' _ _ hK
theorem wpList_putF [DecidableEq κ] (hg : o.guard = none) (m x v : Operand) (t : TypeId) (hop : o.op = Op.mapUpdate t m x v)
    (k e : TypeId) (K : Keyed P k) (ht : P.underlying t = some (.map k e)) (enc : κ → Value) (b n : Nat) (g : κ → Option Value)
    (hm : a.eval m = .map (some b)) (hown : MapF P k enc w b n g) (hn : n < maxLen) (y : κ) (hx : a.eval x = enc y) (hinj : ∀ q, enc q = enc y → q = y) (hkey : ∃ l, keyOf P k (enc y) = some l) (val : Value) (hv : a.eval v = val)
    (hK : ∀ w', MapF P k enc w' b (n + 1) (fun q => if q = y then some val else g q) → w.grownBy w' (some b) → wpList P ops Q rest (a.put o.dst undef) w') :
    wpList P ops Q (o :: rest) a w := by
  refine wpList_plain hg fun K' hK' => ?_
  obtain ⟨w', hrun, r1, r2⟩ := hown.put_run K ht hn hinj hkey val
  unfold Oper.wp
  simp [execOp, hop, hm, hx, hv, hrun, Result.andThen]
  exact hK' _ _ (hK w' r1 r2)
end
def enc2 (p : Int × Int) : Value := .agg #[.int .i64 p.1, .int .i64 p.2]
theorem enc2_inj (p q : Int × Int) (h : enc2 p = enc2 q) : p = q := by
  simp only [enc2, Value.agg.injEq, Array.mk.injEq, List.cons.injEq, Value.int.injEq, true_and, and_true] at h
  exact Prod.ext h.1 h.2
theorem key2 {P : Program} {k : TypeId} {f0 f1 : Field} (hu : P.underlying k = some (.struct #[f0, f1])) (hk : P.keyType k = true) (hc : P.cellsOf k = 2) (h0 : P.underlying f0.type = some (.int .i64)) (h1 : P.underlying f1.type = some (.int .i64))
    (c0 : P.cellsOf f0.type = 1) (c1 : P.cellsOf f1.type = 1) (o0 : f0.offset = 0) (o1 : f1.offset = 1) (n0 : (f0.name != "_") = true) (n1 : (f1.name != "_") = true) (hs : ∃ m, P.types.size = m + 1) (x y : Int) (hx : -9223372036854775808 ≤ x ∧ x ≤ 9223372036854775807) (hy : -9223372036854775808 ≤ y ∧ y ≤ 9223372036854775807) :
    ∃ l, keyOf P k (enc2 (x, y)) = some l := by
  obtain ⟨m, hs⟩ := hs
  have wx : (Lit.int .i64 x).wf = true := WalkArith.wf_i64 (by omega)
  have wy : (Lit.int .i64 y).wf = true := WalkArith.wf_i64 (by omega)
  have hf : (enc2 (x, y)).formed P k = true := by simp [enc2, Value.formed, hu, hc]
  have hls : P.keyLits (P.types.size + 1) k (enc2 (x, y)).cells.toList = some [.int .i64 x, .int .i64 y] := by
    rw [hs]
    simp [enc2, Value.cells, Program.keyLits, hu, hc, h0, h1, c0, c1, o0, o1, wx, wy, List.range, n0, n1]
  unfold keyOf
  rw [hu]
  simp only [hk, hf, Bool.and_self, if_true, hls, Option.map_some]
  exact ⟨_, rfl⟩
end Go.Proofs.YtmdjkmfocgelnaaGreatDoorW.PrintWords
